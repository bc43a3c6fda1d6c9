/- The editor: rotate, restore, display of the program, on the abstract machine. -/
import Derived.Test.YtapmolfpkhfpgaaErG
namespace Go.Proofs.Ytapmolfpkhfpgaa
open Go.RowKit
set_option linter.unusedVariables false
set_option linter.unusedSimpArgs false
set_option maxRecDepth 100000
set_option maxHeartbeats 8000000
theorem endsB_iff (s x : List UInt8) : endsB s x = true ↔ x.length ≤ s.length ∧ s.drop (s.length - x.length) = x := by
  unfold endsB
  rw [List.isPrefixOf_iff_prefix, List.reverse_prefix]
  constructor
  · intro h
    refine ⟨h.length_le, ?_⟩
    exact (List.suffix_iff_eq_drop.1 h).symm
  · rintro ⟨h1, h2⟩
    exact List.suffix_iff_eq_drop.2 h2.symm
theorem slHasSuffix_ab (l p : List UInt8) (hl : l.length ≤ 100000) (hp : p.length ≤ 100000) : Ab Try.prog 71 [az l, az p] (ab (endsB l p)) := by
  refine Fn_of_aw (keep := []) Try.func71 rfl rfl (by simp [Try.ntmps71]) ?_
  simp only [num_cons, num_nil, Try.ntmps71, Try.results71]
  repeat' (first
 | ((with_reducible apply awO_ev); (· rfl); (· exact sv))
 | ((with_reducible apply aw_seq); intro _ _)
 | (with_reducible apply aw_region)
 | ((first | (with_reducible apply awO_nil) | (with_reducible apply aw_exit) | (with_reducible apply aw_skip) | (with_reducible apply aw_ret)); (try simp only [CT, ↓reduceIte, Nat.reduceEqDiff]))
 | ((with_reducible apply awO_y); (· rfl); (· rfl); (· decide); (· exact sv); (· exact sv))
 | ((with_reducible apply awO_n); (· rfl); (· rfl); (· decide); (· exact sv); (· rfl); (· rfl); (· decide))
 | (refine Kont.go ‹Kont _ _ _ _› _ ?_)
 | ((first | ((with_reducible apply awO_guard); (· rfl); (· rfl); (· exact sv)) | ((with_reducible apply aw_cond); (· exact sv))); all_goals (intro hg; (try simp only [Bool.not_true, Bool.not_false]); (try simp only [decide_eq_true_eq, decide_eq_false_iff_not, Bool.not_true, Bool.not_false, Bool.not_eq_true', Bool.not_eq_false', Bool.not_not, beq_eq_false_iff_ne, ne_eq, beq_iff_eq, decide_eq_decide] at hg); try (exfalso; omega)))
 | ((with_reducible apply retQ_mk); (· (first | exact .inr rfl | exact .inl rfl)); (· exact sv); (· exact sv); rotate_left; (· rfl)))
  all_goals (refine ab_eq ?_; rw [endsB_iff]; simp only [decide_eq_true_eq, Bool.false_eq_true, false_iff])
  · constructor
    · intro h; exact ⟨by omega, h⟩
    · exact fun h => h.2
  · intro h; omega
theorem hasSuffix_ab (l p : List UInt8) (hl : l.length ≤ 100000) (hp : p.length ≤ 100000) : Ab Try.prog 58 [az l, az p] (ab (endsB l p)) := by
  refine Fn_of_aw (keep := []) Try.func58 rfl rfl (by simp [Try.ntmps58]) ?_
  simp only [num_cons, num_nil, Try.ntmps58, Try.results58]
  repeat' (first
 | ((with_reducible apply awO_ev); (· rfl); (· exact sv))
 | ((with_reducible apply aw_seq); intro _ _)
 | (with_reducible apply aw_region)
 | ((first | (with_reducible apply awO_nil) | (with_reducible apply aw_exit) | (with_reducible apply aw_skip) | (with_reducible apply aw_ret)); (try simp only [CT, ↓reduceIte, Nat.reduceEqDiff]))
 | (refine Kont.go ‹Kont _ _ _ _› _ ?_)
 | ((with_reducible apply awO_c); (· rfl); (· rfl); (· exact sv); (· (first | exact slHasSuffix_ab _ _ hl hp)); (· rfl); (· rfl); (· rfl); (· decide))
 | ((with_reducible apply retQ_mk); (· (first | exact .inr rfl | exact .inl rfl)); (· exact sv); (· exact sv); rotate_left; (· rfl)))
  rfl
def rotE (e : Er) : Er :=
  if (e.last ≠ 15 ∧ e.last ≠ 16) ∨ e.kills.length < 2 then e else
  if endsB (e.now.t.take e.now.p.toNat) (e.kills[e.kills.length - 1]?.getD []) = false then e else
  { e with now := rplS e.now (e.now.p.toNat - (e.kills[e.kills.length - 1]?.getD []).length) e.now.p.toNat (e.kills[e.kills.length - 2]?.getD []), kills := e.kills[e.kills.length - 1]?.getD [] :: e.kills.dropLast }
theorem rotate_fn (e : Er) (L : List (List UInt8)) (a : Int) (h0 : 0 ≤ e.now.p) (h1 : e.now.p ≤ e.now.t.length) (ht : e.now.t.length ≤ 4096) (hK : e.kills.length ≤ 16) (hKs : ∀ s ∈ e.kills, s.length ≤ 4096) :
    Fn Try.prog 41 [.pt 9 0] (wkH e L a) (.tp []) (wkE (rotE e) L a) [9] := by
  obtain ⟨⟨t, z⟩, m, K, U, R, ks, la, li, sd⟩ := e
  simp only at h0 h1 ht hK hKs
  obtain ⟨p, rfl⟩ : ∃ p : Nat, z = p := ⟨z.toNat, by omega⟩
  simp only [wkH, wkC]
  unfold rotE
  simp only [Int.toNat_natCast]
  refine Fn_of_aw (keep := [9, 3000, 4000]) Try.func41 rfl rfl (by simp [Try.ntmps41]) ?_
  simp only [num_cons, num_nil, Try.ntmps41, Try.results41]
  by_cases k1 : (la ≠ 15 ∧ la ≠ 16) ∨ K.length < 2
  · rw [if_pos k1]
    by_cases k2 : la = 15
    · subst k2
      repeat' (first
 | ((with_reducible apply awO_ev); (· rfl); (· exact sv))
 | ((with_reducible apply aw_seq); intro _ _)
 | (with_reducible apply aw_region)
 | ((first | (with_reducible apply awO_nil) | (with_reducible apply aw_exit) | (with_reducible apply aw_skip) | (with_reducible apply aw_ret)); (try simp only [CT, ↓reduceIte, Nat.reduceEqDiff]))
 | ((with_reducible apply awO_y); (· rfl); (· rfl); (· decide); (· exact sv); (· exact sv))
 | ((with_reducible apply awO_n); (· rfl); (· rfl); (· decide); (· exact sv); (· rfl); (· rfl); (· decide))
 | (refine Kont.go ‹Kont _ _ _ _› _ ?_)
 | ((with_reducible apply aw_draw); (· decide +kernel); (simp only [List.size_toArray, List.length_cons, List.length_nil, Nat.reduceAdd]))
 | ((with_reducible apply awY_done); (· decide +kernel); (try simp only [CT, ↓reduceIte, Nat.reduceEqDiff]))
 | ((with_reducible apply awY_q); (· exact sQ); (· exact np); (· exact svg); (· rfl); (· exact sv))
 | ((first | ((with_reducible apply awO_guard); (· rfl); (· rfl); (· exact sv)) | ((with_reducible apply aw_cond); (· exact sv))); all_goals (intro hg; (try simp only [Bool.not_true, Bool.not_false]); (try simp only [decide_eq_true_eq, decide_eq_false_iff_not, Bool.not_true, Bool.not_false, Bool.not_eq_true', Bool.not_eq_false', Bool.not_not, beq_eq_false_iff_ne, ne_eq, beq_iff_eq, decide_eq_decide] at hg); try (exfalso; omega))))
      all_goals (refine retQ_wE (by first | exact .inr rfl | exact .inl rfl) rfl rfl rfl sv rfl (roS _) rfl (roS _) rfl rfl ?_ rfl rfl; rfl)
    · by_cases k3 : la = 16
      · subst k3
        repeat' (first
 | ((with_reducible apply awO_ev); (· rfl); (· exact sv))
 | ((with_reducible apply aw_seq); intro _ _)
 | (with_reducible apply aw_region)
 | ((first | (with_reducible apply awO_nil) | (with_reducible apply aw_exit) | (with_reducible apply aw_skip) | (with_reducible apply aw_ret)); (try simp only [CT, ↓reduceIte, Nat.reduceEqDiff]))
 | ((with_reducible apply awO_y); (· rfl); (· rfl); (· decide); (· exact sv); (· exact sv))
 | (refine Kont.go ‹Kont _ _ _ _› _ ?_)
 | ((with_reducible apply aw_draw); (· decide +kernel); (simp only [List.size_toArray, List.length_cons, List.length_nil, Nat.reduceAdd]))
 | ((with_reducible apply awY_done); (· decide +kernel); (try simp only [CT, ↓reduceIte, Nat.reduceEqDiff]))
 | ((with_reducible apply awY_q); (· exact sQ); (· exact np); (· exact svg); (· rfl); (· exact sv))
 | ((first | ((with_reducible apply awO_guard); (· rfl); (· rfl); (· exact sv)) | ((with_reducible apply aw_cond); (· exact sv))); all_goals (intro hg; (try simp only [Bool.not_true, Bool.not_false]); (try simp only [decide_eq_true_eq, decide_eq_false_iff_not, Bool.not_true, Bool.not_false, Bool.not_eq_true', Bool.not_eq_false', Bool.not_not, beq_eq_false_iff_ne, ne_eq, beq_iff_eq, decide_eq_decide] at hg); try (exfalso; omega))))
        all_goals (refine retQ_wE (by first | exact .inr rfl | exact .inl rfl) rfl rfl rfl sv rfl (roS _) rfl (roS _) rfl rfl ?_ rfl rfl; rfl)
      · skip
        repeat' (first
 | ((with_reducible apply awO_ev); (· rfl); (· exact sv))
 | ((with_reducible apply aw_seq); intro _ _)
 | (with_reducible apply aw_region)
 | ((first | (with_reducible apply awO_nil) | (with_reducible apply aw_exit) | (with_reducible apply aw_skip) | (with_reducible apply aw_ret)); (try simp only [CT, ↓reduceIte, Nat.reduceEqDiff]))
 | ((with_reducible apply awO_y); (· rfl); (· rfl); (· decide); (· exact sv); (· exact sv))
 | ((with_reducible apply awO_n); (· rfl); (· rfl); (· decide); (· exact sv); (· rfl); (· rfl); (· decide))
 | ((with_reducible apply aw_cond_true); (· exact sv))
 | (refine Kont.go ‹Kont _ _ _ _› _ ?_)
 | ((with_reducible apply aw_draw); (· decide +kernel); (simp only [List.size_toArray, List.length_cons, List.length_nil, Nat.reduceAdd]))
 | ((with_reducible apply awY_done); (· decide +kernel); (try simp only [CT, ↓reduceIte, Nat.reduceEqDiff]))
 | ((with_reducible apply awY_q); (· exact sQ); (· exact np); (· exact svg); (· rfl); (· exact sv))
 | ((first | ((with_reducible apply awO_guard); (· rfl); (· rfl); (· exact sv)) | ((with_reducible apply aw_cond); (· exact sv))); all_goals (intro hg; (try simp only [Bool.not_true, Bool.not_false]); (try simp only [decide_eq_true_eq, decide_eq_false_iff_not, Bool.not_true, Bool.not_false, Bool.not_eq_true', Bool.not_eq_false', Bool.not_not, beq_eq_false_iff_ne, ne_eq, beq_iff_eq, decide_eq_decide] at hg); try (exfalso; omega))))
        all_goals (refine retQ_wE (by first | exact .inr rfl | exact .inl rfl) rfl rfl rfl sv rfl (roS _) rfl (roS _) rfl rfl ?_ rfl rfl; rfl)
  rw [if_neg k1]
  have hk0 : 0 < K.length := by omega
  have hg1 : K[K.length - 1]?.getD [] = K[K.length - 1]'(by omega) := by rw [List.getElem?_eq_getElem (by omega), Option.getD_some]
  have hg2 : K[K.length - 2]?.getD [] = K[K.length - 2]'(by omega) := by rw [List.getElem?_eq_getElem (by omega), Option.getD_some]
  rw [hg1, hg2]
  have hkx := hKs _ (List.getElem_mem (show K.length - 1 < K.length by omega))
  have hky := hKs _ (List.getElem_mem (show K.length - 2 < K.length by omega))
  have c1 := hasSuffix_ab (t.take p) (K[K.length - 1]'(by omega)) (by rw [List.length_take]; omega) (by omega)
  have hes := endsB_iff (t.take p) (K[K.length - 1]'(by omega))
  have c2 := insS K (K.length - 1) 0 (K[K.length - 1]'(by omega)) (by omega) (by omega) (by omega)
  have hK2 : insA (K.take (K.length - 1)) 0 (K[K.length - 1]'(by omega)) = (K[K.length - 1]'(by omega)) :: K.dropLast := by simp [insA, List.dropLast_eq_take]
  rw [hK2] at c2
  obtain ⟨M, hM⟩ : ∃ M, M = (K[K.length - 1]'(by omega)) :: K.dropLast := ⟨_, rfl⟩
  have hMl : M.length = K.length := by rw [hM, List.length_cons, List.length_dropLast]; omega
  have hMY : M[K.length - 1]'(by omega) = K[K.length - 2]'(by omega) := by
    subst hM
    rw [List.getElem_cons]
    rw [dif_neg (by omega), List.getElem_dropLast]
    rfl
  rw [← hM, show K.length - 1 + 1 = M.length by omega] at c2
  rw [← hM, ← hMY]
  rw [← hMY] at hky
  rw [List.length_take] at hes
  cases he : endsB (t.take p) (K[K.length - 1]'(by omega)) with
  | false =>
    rw [if_pos rfl]
    rw [he] at c1
    by_cases k2 : la = 15
    · subst k2
      repeat' (first
 | ((with_reducible apply awO_ev); (· rfl); (· exact sv))
 | ((with_reducible apply aw_seq); intro _ _)
 | (with_reducible apply aw_region)
 | ((first | (with_reducible apply awO_nil) | (with_reducible apply aw_exit) | (with_reducible apply aw_skip) | (with_reducible apply aw_ret)); (try simp only [CT, ↓reduceIte, Nat.reduceEqDiff]))
 | ((with_reducible apply awO_y); (· rfl); (· rfl); (· decide); (· exact sv); (· exact sv))
 | ((with_reducible apply awO_n); (· rfl); (· rfl); (· decide); (· exact sv); (· rfl); (· rfl); (· decide))
 | ((with_reducible apply aw_cond_true); (· exact sv))
 | (refine Kont.go ‹Kont _ _ _ _› _ ?_)
 | ((with_reducible apply awO_c); (· rfl); (· rfl); (· exact sv); (· (first | exact c1)); (· rfl); (· rfl); (· rfl); (· decide))
 | ((with_reducible apply aw_draw); (· decide +kernel); (simp only [List.size_toArray, List.length_cons, List.length_nil, Nat.reduceAdd]))
 | ((with_reducible apply awY_done); (· decide +kernel); (try simp only [CT, ↓reduceIte, Nat.reduceEqDiff]))
 | ((with_reducible apply awY_q); (· exact sQ); (· exact np); (· exact svg); (· rfl); (· exact sv))
 | ((first | ((with_reducible apply awO_guard); (· rfl); (· rfl); (· exact sv)) | ((with_reducible apply aw_cond); (· exact sv))); all_goals (intro hg; (try simp only [Bool.not_true, Bool.not_false]); (try simp only [decide_eq_true_eq, decide_eq_false_iff_not, Bool.not_true, Bool.not_false, Bool.not_eq_true', Bool.not_eq_false', Bool.not_not, beq_eq_false_iff_ne, ne_eq, beq_iff_eq, decide_eq_decide] at hg); try (exfalso; omega))))
      all_goals (refine retQ_wE (by first | exact .inr rfl | exact .inl rfl) rfl rfl rfl sv rfl (roS _) rfl (roS _) rfl rfl ?_ rfl rfl; rfl)
    · have k3 : la = 16 := by omega
      subst k3
      repeat' (first
 | ((with_reducible apply awO_ev); (· rfl); (· exact sv))
 | ((with_reducible apply aw_seq); intro _ _)
 | (with_reducible apply aw_region)
 | ((first | (with_reducible apply awO_nil) | (with_reducible apply aw_exit) | (with_reducible apply aw_skip) | (with_reducible apply aw_ret)); (try simp only [CT, ↓reduceIte, Nat.reduceEqDiff]))
 | ((with_reducible apply awO_y); (· rfl); (· rfl); (· decide); (· exact sv); (· exact sv))
 | ((with_reducible apply aw_cond_true); (· exact sv))
 | (refine Kont.go ‹Kont _ _ _ _› _ ?_)
 | ((with_reducible apply awO_c); (· rfl); (· rfl); (· exact sv); (· (first | exact c1)); (· rfl); (· rfl); (· rfl); (· decide))
 | ((with_reducible apply aw_draw); (· decide +kernel); (simp only [List.size_toArray, List.length_cons, List.length_nil, Nat.reduceAdd]))
 | ((with_reducible apply awY_done); (· decide +kernel); (try simp only [CT, ↓reduceIte, Nat.reduceEqDiff]))
 | ((with_reducible apply awY_q); (· exact sQ); (· exact np); (· exact svg); (· rfl); (· exact sv))
 | ((first | ((with_reducible apply awO_guard); (· rfl); (· rfl); (· exact sv)) | ((with_reducible apply aw_cond); (· exact sv))); all_goals (intro hg; (try simp only [Bool.not_true, Bool.not_false]); (try simp only [decide_eq_true_eq, decide_eq_false_iff_not, Bool.not_true, Bool.not_false, Bool.not_eq_true', Bool.not_eq_false', Bool.not_not, beq_eq_false_iff_ne, ne_eq, beq_iff_eq, decide_eq_decide] at hg); try (exfalso; omega))))
      all_goals (refine retQ_wE (by first | exact .inr rfl | exact .inl rfl) rfl rfl rfl sv rfl (roS _) rfl (roS _) rfl rfl ?_ rfl rfl; rfl)
  | true =>
    rw [if_neg (by simp)]
    rw [he] at c1
    have hXp := (hes.1 he).1
    have c3 := replace_fn ⟨⟨t, p⟩, m, M, U, R, ks, la, li, sd⟩ L a (p - (K[K.length - 1]'(by omega)).length) p (M[K.length - 1]'(by omega)) (by omega) (by simp only; omega) (by simp only; omega) (by omega)
    have hcast : ((p - (K[K.length - 1]'(by omega)).length : Nat) : Int) = (p : Int) - (K[K.length - 1]'(by omega)).length := by omega
    simp only [rplS, wkH, wkC, hcast] at c3
    simp only [rplS, hcast]
    by_cases k2 : la = 15
    · subst k2
      repeat' (first
 | ((with_reducible apply awO_litX); (· rfl); (· rfl); (· exact nd); (· rfl); (· exact sv); (· exact sv); (· rfl); (· rfl); (· exact sv); (· (first | exact c1 | exact c2 | exact c3)); (· exact svq); (· exact svq); (· exact svq); (· exact svq); (· rfl); (· exact nd); (with_reducible apply awO_st); (· exact svs))
 | ((with_reducible apply awO_ev); (· rfl); (· exact sv))
 | ((with_reducible apply aw_seq); intro _ _)
 | (with_reducible apply aw_region)
 | ((first | (with_reducible apply awO_nil) | (with_reducible apply aw_exit) | (with_reducible apply aw_skip) | (with_reducible apply aw_ret)); (try simp only [CT, ↓reduceIte, Nat.reduceEqDiff]))
 | ((with_reducible apply awO_y); (· rfl); (· rfl); (· decide); (· exact sv); (· exact sv))
 | ((with_reducible apply awO_n); (· rfl); (· rfl); (· decide); (· exact sv); (· rfl); (· rfl); (· decide))
 | ((with_reducible apply aw_cond_false); (· exact sv))
 | (refine Kont.go ‹Kont _ _ _ _› _ ?_)
 | ((with_reducible apply awO_c); (· rfl); (· rfl); (· exact sv); (· (first | exact c1 | exact c2 | exact c3)); (· rfl); (· rfl); (· rfl); (· decide))
 | ((with_reducible apply awO_m); (· rfl); (· rfl); (· exact sv); (· (first | exact c1 | exact c2 | exact c3)); (· exact svq); (· exact svq); (· exact svq); (· exact svq); (· rfl); (· exact nd); (with_reducible apply awO_st); (· exact svs))
 | ((with_reducible apply aw_draw); (· decide +kernel); (simp only [List.size_toArray, List.length_cons, List.length_nil, Nat.reduceAdd]))
 | ((with_reducible apply awY_done); (· decide +kernel); (try simp only [CT, ↓reduceIte, Nat.reduceEqDiff]))
 | ((with_reducible apply awY_q); (· exact sQ); (· exact np); (· exact svg); (· rfl); (· exact sv))
 | ((first | ((with_reducible apply awO_guard); (· rfl); (· rfl); (· exact sv)) | ((with_reducible apply aw_cond); (· exact sv))); all_goals (intro hg; (try simp only [Bool.not_true, Bool.not_false]); (try simp only [decide_eq_true_eq, decide_eq_false_iff_not, Bool.not_true, Bool.not_false, Bool.not_eq_true', Bool.not_eq_false', Bool.not_not, beq_eq_false_iff_ne, ne_eq, beq_iff_eq, decide_eq_decide] at hg); try (exfalso; omega))))
      all_goals (refine retQ_wE (by first | exact .inr rfl | exact .inl rfl) rfl rfl rfl sv rfl (roS _) rfl (roS _) rfl rfl ?_ rfl rfl; rfl)
    · have k3 : la = 16 := by omega
      subst k3
      repeat' (first
 | ((with_reducible apply awO_litX); (· rfl); (· rfl); (· exact nd); (· rfl); (· exact sv); (· exact sv); (· rfl); (· rfl); (· exact sv); (· (first | exact c1 | exact c2 | exact c3)); (· exact svq); (· exact svq); (· exact svq); (· exact svq); (· rfl); (· exact nd); (with_reducible apply awO_st); (· exact svs))
 | ((with_reducible apply awO_ev); (· rfl); (· exact sv))
 | ((with_reducible apply aw_seq); intro _ _)
 | (with_reducible apply aw_region)
 | ((first | (with_reducible apply awO_nil) | (with_reducible apply aw_exit) | (with_reducible apply aw_skip) | (with_reducible apply aw_ret)); (try simp only [CT, ↓reduceIte, Nat.reduceEqDiff]))
 | ((with_reducible apply awO_y); (· rfl); (· rfl); (· decide); (· exact sv); (· exact sv))
 | ((with_reducible apply aw_cond_false); (· exact sv))
 | (refine Kont.go ‹Kont _ _ _ _› _ ?_)
 | ((with_reducible apply awO_c); (· rfl); (· rfl); (· exact sv); (· (first | exact c1 | exact c2 | exact c3)); (· rfl); (· rfl); (· rfl); (· decide))
 | ((with_reducible apply awO_m); (· rfl); (· rfl); (· exact sv); (· (first | exact c1 | exact c2 | exact c3)); (· exact svq); (· exact svq); (· exact svq); (· exact svq); (· rfl); (· exact nd); (with_reducible apply awO_st); (· exact svs))
 | ((with_reducible apply aw_draw); (· decide +kernel); (simp only [List.size_toArray, List.length_cons, List.length_nil, Nat.reduceAdd]))
 | ((with_reducible apply awY_done); (· decide +kernel); (try simp only [CT, ↓reduceIte, Nat.reduceEqDiff]))
 | ((with_reducible apply awY_q); (· exact sQ); (· exact np); (· exact svg); (· rfl); (· exact sv))
 | ((first | ((with_reducible apply awO_guard); (· rfl); (· rfl); (· exact sv)) | ((with_reducible apply aw_cond); (· exact sv))); all_goals (intro hg; (try simp only [Bool.not_true, Bool.not_false]); (try simp only [decide_eq_true_eq, decide_eq_false_iff_not, Bool.not_true, Bool.not_false, Bool.not_eq_true', Bool.not_eq_false', Bool.not_not, beq_eq_false_iff_ne, ne_eq, beq_iff_eq, decide_eq_decide] at hg); try (exfalso; omega))))
      all_goals (refine retQ_wE (by first | exact .inr rfl | exact .inl rfl) rfl rfl rfl sv rfl (roS _) rfl (roS _) rfl rfl ?_ rfl rfl; rfl)
end Go.Proofs.Ytapmolfpkhfpgaa
