/- The editor: the document's rotate, on the abstract machine. -/
import Derived.Test.YtapmolfpkhfpgaaErN
import Derived.Test.YtapmolfpkhfpgaaErH
namespace Go.Proofs.Ytapmolfpkhfpgaa
open Go.RowKit
set_option linter.unusedVariables false
set_option linter.unusedSimpArgs false
set_option maxRecDepth 100000
set_option maxHeartbeats 8000000
theorem edt_kills (e : Er) (s : Sn) (a : Int) : (edt e s a).kills = e.kills := by unfold edt; split <;> rfl
theorem rrotate_ab (e : Er) (h0 : 0 ≤ e.now.p) (h1 : e.now.p ≤ e.now.t.length) (ht : e.now.t.length ≤ 4096) (hK : e.kills.length ≤ 16) (hKs : ∀ s ∈ e.kills, s.length ≤ 4096) (hU : e.undo.length ≤ 64) :
    Ab Try.prog 48 [erA e] (erA (rot e)) := by
  unfold rot
  by_cases k1 : (e.last ≠ 15 ∧ e.last ≠ 16) ∨ e.kills.length < 2
  · rw [if_pos k1]
    obtain ⟨⟨t, z⟩, m, K, U, R, ks, la, li, sd⟩ := e
    simp only at h0 h1 ht k1
    simp only [erA, erC]
    refine Fn_of_aw (keep := []) Try.func48 rfl rfl (by simp [Try.ntmps48]) ?_
    simp only [num_cons, num_nil, Try.ntmps48, Try.results48]
    repeat' (first
 | ((with_reducible apply awO_ev); (· rfl); (· exact sv))
 | ((with_reducible apply aw_seq); intro _ _)
 | (with_reducible apply aw_region)
 | ((first | (with_reducible apply awO_nil) | (with_reducible apply aw_exit) | (with_reducible apply aw_skip) | (with_reducible apply aw_ret)); (try simp only [CT, ↓reduceIte, Nat.reduceEqDiff]))
 | ((with_reducible apply awO_y); (· rfl); (· rfl); (· decide); (· exact sv); (· exact sv))
 | ((with_reducible apply awO_n); (· rfl); (· rfl); (· decide); (· exact sv); (· rfl); (· rfl); (· decide))
 | ((with_reducible apply aw_cond_true); (· exact sv))
 | (refine Kont.go ‹Kont _ _ _ _› _ ?_)
 | ((with_reducible apply aw_draw); (· decide +kernel); (simp only [List.size_toArray, List.length_cons, List.length_nil, Nat.reduceAdd]))
 | ((with_reducible apply awY_done); (· decide +kernel); (try simp only [CT, ↓reduceIte, Nat.reduceEqDiff]))
 | ((with_reducible apply awY_q); (· exact sQ); (· exact np); (· exact svg); (· rfl); (· exact sv))
 | ((first | ((with_reducible apply awO_guard); (· rfl); (· rfl); (· exact sv)) | ((with_reducible apply aw_cond); (· exact sv))); all_goals (intro hg; (try simp only [Bool.not_true, Bool.not_false]); (try simp only [decide_eq_true_eq, decide_eq_false_iff_not, Bool.not_true, Bool.not_false, Bool.not_eq_true', Bool.not_eq_false', Bool.not_not, beq_eq_false_iff_ne, ne_eq, beq_iff_eq, decide_eq_decide] at hg); try (exfalso; omega)))
 | ((with_reducible apply retQ_mk); (· (first | exact .inr rfl | exact .inl rfl)); (· exact sv); (· exact sv); rotate_left; (· rfl)))
    all_goals rfl
  rw [if_neg k1]
  have hrk := edt_kills e (rplS e.now (e.now.p.toNat - (e.kills[e.kills.length - 1]?.getD []).length) e.now.p.toNat (e.kills[e.kills.length - 2]?.getD [])) 16
  have c1 := edit_ab e (rplS e.now (e.now.p.toNat - (e.kills[e.kills.length - 1]?.getD []).length) e.now.p.toNat (e.kills[e.kills.length - 2]?.getD [])) 16 hU
  simp only
  generalize edt e (rplS e.now (e.now.p.toNat - (e.kills[e.kills.length - 1]?.getD []).length) e.now.p.toNat (e.kills[e.kills.length - 2]?.getD [])) 16 = r at *
  obtain ⟨⟨t, z⟩, m, K, U, R, ks, la, li, sd⟩ := e
  simp only at h0 h1 ht k1 hK hKs hrk
  obtain ⟨p, rfl⟩ : ∃ p : Nat, z = p := ⟨z.toNat, by omega⟩
  have hk0 : 0 < K.length := by omega
  have hg1 : K[K.length - 1]?.getD [] = K[K.length - 1]'(by omega) := by rw [List.getElem?_eq_getElem (by omega), Option.getD_some]
  have hg2 : K[K.length - 2]?.getD [] = K[K.length - 2]'(by omega) := by rw [List.getElem?_eq_getElem (by omega), Option.getD_some]
  simp only [Int.toNat_natCast, hg1, hg2] at c1 ⊢
  have hkx := hKs _ (List.getElem_mem (show K.length - 1 < K.length by omega))
  have hky := hKs _ (List.getElem_mem (show K.length - 2 < K.length by omega))
  have hes := endsB_iff (t.take p) (K[K.length - 1]'(by omega))
  rw [List.length_take, Nat.min_eq_left (by omega), List.drop_take] at hes
  have hn : ∀ X : List (List UInt8), erA { r with kills := X } = .ag [az r.now.t, ai r.now.p, ai r.mark, .rd X.length (X.map az), .rd r.undo.length (snC r.undo), .rd r.redo.length (snC r.redo), az r.keys, ai r.last, ai r.line, az r.saved] := fun X => rfl
  have hfin : AV.rd ((K[K.length - 1]'(by omega)) :: K.dropLast).length (((K[K.length - 1]'(by omega)) :: K.dropLast).map az) = .rd (1 + (K.length - 1)) (az (K[K.length - 1]'(by omega)) :: List.map az (List.take (K.length - 1) K)) := by
    rw [List.length_cons, List.length_dropLast, List.map_cons, List.dropLast_eq_take, Nat.add_comm]
  by_cases k2 : (K[K.length - 1]'(by omega)).length ≤ p
  case neg =>
    have he : endsB (t.take p) (K[K.length - 1]'(by omega)) = false := Bool.eq_false_iff.2 fun h => k2 (hes.1 h).1
    rw [if_pos (.inl he)]
    simp only [erA, erC]
    refine Fn_of_aw (keep := []) Try.func48 rfl rfl (by simp [Try.ntmps48]) ?_
    simp only [num_cons, num_nil, Try.ntmps48, Try.results48]
    repeat' (first
 | ((with_reducible apply awO_ev); (· rfl); (· exact sv))
 | ((with_reducible apply aw_seq); intro _ _)
 | (with_reducible apply aw_region)
 | ((first | (with_reducible apply awO_nil) | (with_reducible apply aw_exit) | (with_reducible apply aw_skip) | (with_reducible apply aw_ret)); (try simp only [CT, ↓reduceIte, Nat.reduceEqDiff]))
 | ((with_reducible apply awO_y); (· rfl); (· rfl); (· decide); (· exact sv); (· exact sv))
 | ((with_reducible apply awO_n); (· rfl); (· rfl); (· decide); (· exact sv); (· rfl); (· rfl); (· decide))
 | ((with_reducible apply aw_cond_true); (· exact sv))
 | (refine Kont.go ‹Kont _ _ _ _› _ ?_)
 | ((with_reducible apply aw_draw); (· decide +kernel); (simp only [List.size_toArray, List.length_cons, List.length_nil, Nat.reduceAdd]))
 | ((with_reducible apply awY_done); (· decide +kernel); (try simp only [CT, ↓reduceIte, Nat.reduceEqDiff]))
 | ((with_reducible apply awY_q); (· exact sQ); (· exact np); (· exact svg); (· rfl); (· exact sv))
 | ((first | ((with_reducible apply awO_guard); (· rfl); (· rfl); (· exact sv)) | ((with_reducible apply aw_cond); (· exact sv))); all_goals (intro hg; (try simp only [Bool.not_true, Bool.not_false]); (try simp only [decide_eq_true_eq, decide_eq_false_iff_not, Bool.not_true, Bool.not_false, Bool.not_eq_true', Bool.not_eq_false', Bool.not_not, beq_eq_false_iff_ne, ne_eq, beq_iff_eq, decide_eq_decide] at hg); try (exfalso; omega)))
 | ((with_reducible apply retQ_mk); (· (first | exact .inr rfl | exact .inl rfl)); (· exact sv); (· exact sv); rotate_left; (· rfl)))
    all_goals rfl
  by_cases k3 : List.take (p - (p - (K[K.length - 1]'(by omega)).length)) (List.drop (p - (K[K.length - 1]'(by omega)).length) t) = K[K.length - 1]'(by omega)
  case neg =>
    have he : endsB (t.take p) (K[K.length - 1]'(by omega)) = false := Bool.eq_false_iff.2 fun h => k3 (hes.1 h).2
    rw [if_pos (.inl he)]
    simp only [erA, erC]
    refine Fn_of_aw (keep := []) Try.func48 rfl rfl (by simp [Try.ntmps48]) ?_
    simp only [num_cons, num_nil, Try.ntmps48, Try.results48]
    repeat' (first
 | ((with_reducible apply awO_ev); (· rfl); (· exact sv))
 | ((with_reducible apply aw_seq); intro _ _)
 | (with_reducible apply aw_region)
 | ((first | (with_reducible apply awO_nil) | (with_reducible apply aw_exit) | (with_reducible apply aw_skip) | (with_reducible apply aw_ret)); (try simp only [CT, ↓reduceIte, Nat.reduceEqDiff]))
 | ((with_reducible apply awO_y); (· rfl); (· rfl); (· decide); (· exact sv); (· exact sv))
 | ((with_reducible apply awO_n); (· rfl); (· rfl); (· decide); (· exact sv); (· rfl); (· rfl); (· decide))
 | ((with_reducible apply aw_cond_true); (· exact sv))
 | (refine Kont.go ‹Kont _ _ _ _› _ ?_)
 | ((with_reducible apply aw_draw); (· decide +kernel); (simp only [List.size_toArray, List.length_cons, List.length_nil, Nat.reduceAdd]))
 | ((with_reducible apply awY_done); (· decide +kernel); (try simp only [CT, ↓reduceIte, Nat.reduceEqDiff]))
 | ((with_reducible apply awY_q); (· exact sQ); (· exact np); (· exact svg); (· rfl); (· exact sv))
 | ((first | ((with_reducible apply awO_guard); (· rfl); (· rfl); (· exact sv)) | ((with_reducible apply aw_cond); (· exact sv))); all_goals (intro hg; (try simp only [Bool.not_true, Bool.not_false]); (try simp only [decide_eq_true_eq, decide_eq_false_iff_not, Bool.not_true, Bool.not_false, Bool.not_eq_true', Bool.not_eq_false', Bool.not_not, beq_eq_false_iff_ne, ne_eq, beq_iff_eq, decide_eq_decide] at hg); try (exfalso; omega)))
 | ((with_reducible apply retQ_mk); (· (first | exact .inr rfl | exact .inl rfl)); (· exact sv); (· exact sv); rotate_left; (· rfl))
 | ((with_reducible apply awY_p); (· exact sH); (first | ((with_reducible apply awP_1); (· decide +kernel)) | ((with_reducible apply awP_2); (· exact sP)))))
    all_goals (first | rfl | exact absurd (by assumption) k3)
  have he : endsB (t.take p) (K[K.length - 1]'(by omega)) = true := hes.2 ⟨k2, k3⟩
  have hXt : (K[K.length - 1]'(by omega)).length ≤ t.length := by omega
  by_cases k4 : 4096 < t.length - (K[K.length - 1]'(by omega)).length + (K[K.length - 2]'(by omega)).length
  · rw [if_pos (.inr k4)]
    simp only [erA, erC]
    refine Fn_of_aw (keep := []) Try.func48 rfl rfl (by simp [Try.ntmps48]) ?_
    simp only [num_cons, num_nil, Try.ntmps48, Try.results48]
    repeat' (first
 | ((with_reducible apply awO_ev); (· rfl); (· exact sv))
 | ((with_reducible apply aw_seq); intro _ _)
 | (with_reducible apply aw_region)
 | ((first | (with_reducible apply awO_nil) | (with_reducible apply aw_exit) | (with_reducible apply aw_skip) | (with_reducible apply aw_ret)); (try simp only [CT, ↓reduceIte, Nat.reduceEqDiff]))
 | ((with_reducible apply awO_y); (· rfl); (· rfl); (· decide); (· exact sv); (· exact sv))
 | ((with_reducible apply awO_n); (· rfl); (· rfl); (· decide); (· exact sv); (· rfl); (· rfl); (· decide))
 | ((with_reducible apply aw_cond_true); (· exact sv))
 | (refine Kont.go ‹Kont _ _ _ _› _ ?_)
 | ((with_reducible apply aw_draw); (· decide +kernel); (simp only [List.size_toArray, List.length_cons, List.length_nil, Nat.reduceAdd]))
 | ((with_reducible apply awY_done); (· decide +kernel); (try simp only [CT, ↓reduceIte, Nat.reduceEqDiff]))
 | ((with_reducible apply awY_q); (· exact sQ); (· exact np); (· exact svg); (· rfl); (· exact sv))
 | ((first | ((with_reducible apply awO_guard); (· rfl); (· rfl); (· exact sv)) | ((with_reducible apply aw_cond); (· exact sv))); all_goals (intro hg; (try simp only [Bool.not_true, Bool.not_false]); (try simp only [decide_eq_true_eq, decide_eq_false_iff_not, Bool.not_true, Bool.not_false, Bool.not_eq_true', Bool.not_eq_false', Bool.not_not, beq_eq_false_iff_ne, ne_eq, beq_iff_eq, decide_eq_decide] at hg); try (exfalso; omega)))
 | ((with_reducible apply retQ_mk); (· (first | exact .inr rfl | exact .inl rfl)); (· exact sv); (· exact sv); rotate_left; (· rfl)))
    all_goals (first | rfl | exact absurd k3 (by assumption))
  rw [if_neg (by rw [he]; simp; omega), hn]
  have hcast : ((p - (K[K.length - 1]'(by omega)).length : Nat) : Int) = (p : Int) - (K[K.length - 1]'(by omega)).length := by omega
  simp only [erA, erC, rplS, snA, hcast, hrk] at c1
  simp only [erA, erC]
  rw [hfin]
  refine Fn_of_aw (keep := []) Try.func48 rfl rfl (by simp [Try.ntmps48]) ?_
  simp only [num_cons, num_nil, Try.ntmps48, Try.results48]
  repeat' (first
 | ((with_reducible apply awO_ev); (· rfl); (· exact sv))
 | ((with_reducible apply aw_seq); intro _ _)
 | (with_reducible apply aw_region)
 | ((first | (with_reducible apply awO_nil) | (with_reducible apply aw_exit) | (with_reducible apply aw_skip) | (with_reducible apply aw_ret)); (try simp only [CT, ↓reduceIte, Nat.reduceEqDiff]))
 | ((with_reducible apply awO_y); (· rfl); (· rfl); (· decide); (· exact sv); (· exact sv))
 | ((with_reducible apply awO_n); (· rfl); (· rfl); (· decide); (· exact sv); (· rfl); (· rfl); (· decide))
 | ((with_reducible apply aw_cond_true); (· exact sv))
 | (refine Kont.go ‹Kont _ _ _ _› _ ?_)
 | ((with_reducible apply aw_draw); (· decide +kernel); (simp only [List.size_toArray, List.length_cons, List.length_nil, Nat.reduceAdd]))
 | ((with_reducible apply awY_done); (· decide +kernel); (try simp only [CT, ↓reduceIte, Nat.reduceEqDiff]))
 | ((with_reducible apply awY_q); (· exact sQ); (· exact np); (· exact svg); (· rfl); (· exact sv))
 | ((with_reducible apply awI_ev); (· exact svg); (· rfl); (· exact sv))
 | ((with_reducible apply awI_c); (· exact svg); (· rfl); (· rfl); (· exact sv); (· (first | exact c1)); (· rfl); (· rfl); (· rfl); (· exact nd); simp only [put_some])
 | ((first | ((with_reducible apply awO_guard); (· rfl); (· rfl); (· exact sv)) | ((with_reducible apply aw_cond); (· exact sv))); all_goals (intro hg; (try simp only [Bool.not_true, Bool.not_false]); (try simp only [decide_eq_true_eq, decide_eq_false_iff_not, Bool.not_true, Bool.not_false, Bool.not_eq_true', Bool.not_eq_false', Bool.not_not, beq_eq_false_iff_ne, ne_eq, beq_iff_eq, decide_eq_decide] at hg); try (exfalso; omega)))
 | ((with_reducible apply retQ_mk); (· (first | exact .inr rfl | exact .inl rfl)); (· exact sv); (· exact sv); rotate_left; (· rfl))
 | ((with_reducible apply awY_p); (· exact sH); (first | ((with_reducible apply awP_1); (· decide +kernel)) | ((with_reducible apply awP_2); (· exact sP)))))
  all_goals (first | rfl | exact absurd k3 (by assumption))
end Go.Proofs.Ytapmolfpkhfpgaa
