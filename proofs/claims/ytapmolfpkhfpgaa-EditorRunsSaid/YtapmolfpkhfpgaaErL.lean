/- The editor: kill of the program, on the abstract machine. -/
import Derived.Test.YtapmolfpkhfpgaaErG
namespace Go.Proofs.Ytapmolfpkhfpgaa
open Go.RowKit
set_option linter.unusedVariables false
set_option linter.unusedSimpArgs false
set_option maxRecDepth 100000
set_option maxHeartbeats 8000000
def kilE (e : Er) (i j : Nat) (a : Int) : Er := if i = j then e else { e with now := rplS e.now i j [], kills := klL e ((e.now.t.drop i).take (j - i)) a }
theorem lim_rd (n : Nat) (K : List (List UInt8)) : AV.rd (K.length - (K.length - n)) ((K.map az).drop (K.length - n)) = .rd (lim n K).length ((lim n K).map az) := by
  rw [lim, List.length_drop, ← List.map_drop]
theorem dat_drop (n : Nat) (K : List (List UInt8)) (s : List UInt8) : (List.drop n (K.map az ++ [AV.v (Value.string (str s))])).all dataC = true :=
  List.all_eq_true.2 fun x hx => by
    rcases List.mem_append.1 (List.mem_of_mem_drop hx) with h | h
    · obtain ⟨y, _, rfl⟩ := List.mem_map.1 h; rfl
    · rw [List.mem_singleton.1 h]; rfl
attribute [go_sem] dat_drop
theorem last_get {K : List (List UInt8)} (h : 0 < K.length) : K.getLast? = some (K[K.length - 1]) := by rw [List.getLast?_eq_getElem?, List.getElem?_eq_getElem]
theorem set_az (K : List (List UInt8)) (i : Nat) (x : List UInt8) : (K.map az).set i (AV.v (Value.string (str x))) = (K.set i x).map az := by rw [← List.map_set]
theorem slX_set (K : List (List UInt8)) (i : Nat) (x : List UInt8) : slX (some ((K.set i x).map az)) 0 1 K.length = some (K.length, (K.set i x).map az) := by
  rw [slX_ok (by simp), List.drop_zero, List.take_of_length_le (by simp)]
theorem dat_az (K : List (List UInt8)) : (K.map az).all dataC = true := by simp [dataC]
attribute [go_sem] set_az slX_set dat_az
theorem set_last {K : List (List UInt8)} (h : 0 < K.length) (x : List UInt8) : K.set (K.length - 1) x = K.dropLast ++ [x] := by
  obtain ⟨A, y, rfl⟩ : ∃ A y, K = A ++ [y] := ⟨K.dropLast, K.getLast (by intro e; rw [e] at h; simp at h), (List.dropLast_concat_getLast _).symm⟩
  simp
theorem rd_last {K : List (List UInt8)} (h : 0 < K.length) (x : List UInt8) : AV.rd K.length ((K.set (K.length - 1) x).map az) = .rd (K.dropLast ++ [x]).length ((K.dropLast ++ [x]).map az) := by
  rw [← set_last h, List.length_set]
theorem klL_lim (e : Er) (s : List UInt8) (a : Int) (h : ¬ (isK e.last = true ∧ ∃ h : 0 < e.kills.length, e.kills[e.kills.length - 1].length + s.length ≤ 4096)) : klL e s a = lim 16 (e.kills ++ [s]) := by
  unfold klL
  by_cases h0 : 0 < e.kills.length
  · rw [last_get h0]
    simp only
    rw [if_neg]
    exact fun h1 => h ⟨h1.1, h0, h1.2⟩
  · rw [show e.kills.getLast? = none by rw [List.getLast?_eq_none_iff]; exact List.eq_nil_of_length_eq_zero (by omega)]
theorem klL_join (e : Er) (s : List UInt8) (a : Int) (h : isK e.last = true) (h0 : 0 < e.kills.length) (h1 : e.kills[e.kills.length - 1].length + s.length ≤ 4096) : klL e s a = e.kills.dropLast ++ [if a = 12 ∨ a = 14 then s ++ e.kills[e.kills.length - 1] else e.kills[e.kills.length - 1] ++ s] := by
  unfold klL
  rw [last_get h0]
  simp only
  rw [if_pos ⟨h, h1⟩]
  split <;> rfl
theorem kill_fn (e : Er) (L : List (List UInt8)) (a : Int) (i j : Nat) (hij : i ≤ j) (hj : j ≤ e.now.t.length) (ht : e.now.t.length ≤ 4096) (hK : e.kills.length ≤ 16) (hKs : ∀ s ∈ e.kills, s.length ≤ 4096) :
    Fn Try.prog 40 [.pt 9 0, ai i, ai j] (wkH e L a) (.tp []) (wkE (kilE e i j a) L a) [9] := by
  obtain ⟨⟨t, z⟩, m, K, U, R, ks, la, li, sd⟩ := e
  simp only at hj ht hK hKs
  have c1 := replace_fn ⟨⟨t, z⟩, m, K, U, R, ks, la, li, sd⟩ L a i j [] hij hj (by simp only; omega) (by simp)
  simp only [rplS, wkH, wkC] at c1
  simp only [wkH, wkC]
  refine Fn_of_aw (keep := [9, 3000, 4000]) Try.func40 rfl rfl (by simp [Try.ntmps40]) ?_
  simp only [num_cons, num_nil, Try.ntmps40, Try.results40]
  by_cases h0 : i = j
  · subst h0
    rw [kilE, if_pos rfl]
    repeat' (first
 | ((with_reducible apply awO_ev); (· rfl); (· exact sv))
 | ((with_reducible apply aw_seq); intro _ _)
 | (with_reducible apply aw_region)
 | ((first | (with_reducible apply awO_nil) | (with_reducible apply aw_exit) | (with_reducible apply aw_skip) | (with_reducible apply aw_ret)); (try simp only [CT, ↓reduceIte, Nat.reduceEqDiff]))
 | (refine Kont.go ‹Kont _ _ _ _› _ ?_)
 | ((first | ((with_reducible apply awO_guard); (· rfl); (· rfl); (· exact sv)) | ((with_reducible apply aw_cond); (· exact sv))); all_goals (intro hg; (try simp only [Bool.not_true, Bool.not_false]); (try simp only [decide_eq_true_eq, decide_eq_false_iff_not, Bool.not_true, Bool.not_false, Bool.not_eq_true', Bool.not_eq_false', Bool.not_not, beq_eq_false_iff_ne, ne_eq, beq_iff_eq, decide_eq_decide] at hg); try (exfalso; omega))))
    all_goals exact retQ_wE (by first | exact .inr rfl | exact .inl rfl) rfl rfl rfl sv rfl (roS _) rfl (roS _) rfl rfl rfl rfl rfl
  rw [kilE, if_neg h0]
  simp only [rplS, List.append_nil, List.length_nil, Int.natCast_zero, Int.add_zero] at c1 ⊢
  have hsl : ((t.drop i).take (j - i)).length = j - i := by rw [List.length_take, List.length_drop]; omega
  have c2 := limK_fn (K ++ [((t.drop i).take (j - i))]) (by simp; omega)
  have hlr := lim_rd 16 (K ++ [((t.drop i).take (j - i))])
  simp only [List.map_append, List.map_cons, List.map_nil, List.length_append, List.length_cons, List.length_nil, Nat.zero_add] at c2 hlr
  refine aw_join [(0, .pt 9 0), (1, ai i), (2, ai j)] [(9, [az t, ai z, ai m, .os 2000 0 1 K.length, .os 3000 0 2 U.length, .os 4000 0 2 R.length, az ks, ai la, ai li, az sd, .rd L.length (L.map az), ai a]), (2000, K.map az), (3000, snC U), (4000, snC R)] ?_ ?_
  · skip
    repeat' (first
 | ((with_reducible apply awO_ev); (· rfl); (· exact sv))
 | ((with_reducible apply aw_seq); intro _ _)
 | (with_reducible apply aw_region)
 | ((first | (with_reducible apply awO_nil) | (with_reducible apply aw_exit) | (with_reducible apply aw_skip) | (with_reducible apply aw_ret)); (try simp only [CT, ↓reduceIte, Nat.reduceEqDiff]))
 | (refine Kont.go ‹Kont _ _ _ _› _ ?_)
 | ((first | ((with_reducible apply awO_guard); (· rfl); (· rfl); (· exact sv)) | ((with_reducible apply aw_cond); (· exact sv))); all_goals (intro hg; (try simp only [Bool.not_true, Bool.not_false]); (try simp only [decide_eq_true_eq, decide_eq_false_iff_not, Bool.not_true, Bool.not_false, Bool.not_eq_true', Bool.not_eq_false', Bool.not_not, beq_eq_false_iff_ne, ne_eq, beq_iff_eq, decide_eq_decide] at hg); try (exfalso; omega))))
    all_goals exact endQ_mk ⟨rfl, rfl, rfl, trivial⟩ ⟨rfl, rfl, rfl, rfl, trivial⟩
  refine aw_join [(6, az ((t.drop i).take (j - i))), (0, .pt 9 0), (1, ai i), (2, ai j)] [(9, [az t, ai z, ai m, .os 2000 0 1 K.length, .os 3000 0 2 U.length, .os 4000 0 2 R.length, az ks, ai la, ai li, az sd, .rd L.length (L.map az), ai a]), (2000, K.map az), (3000, snC U), (4000, snC R)] ?_ ?_
  · skip
    repeat' (first
 | ((with_reducible apply awO_ev); (· rfl); (· exact sv))
 | (with_reducible apply aw_region)
 | ((first | (with_reducible apply awO_nil) | (with_reducible apply aw_exit) | (with_reducible apply aw_skip) | (with_reducible apply aw_ret)); (try simp only [CT, ↓reduceIte, Nat.reduceEqDiff])))
    all_goals exact endQ_mk ⟨rfl, rfl, rfl, rfl, trivial⟩ ⟨rfl, rfl, rfl, rfl, trivial⟩
  refine aw_join [(6, az ((t.drop i).take (j - i))), (0, .pt 9 0)] [(9, [az (t.take i ++ t.drop j), ai i, ai m, .os 2000 0 1 K.length, .os 3000 0 2 U.length, .os 4000 0 2 R.length, az ks, ai la, ai li, az sd, .rd L.length (L.map az), ai a]), (2000, K.map az), (3000, snC U), (4000, snC R)] ?_ ?_
  · skip
    repeat' (first
 | ((with_reducible apply awO_ev); (· rfl); (· exact sv))
 | (with_reducible apply aw_region)
 | ((first | (with_reducible apply awO_nil) | (with_reducible apply aw_exit) | (with_reducible apply aw_skip) | (with_reducible apply aw_ret)); (try simp only [CT, ↓reduceIte, Nat.reduceEqDiff]))
 | ((with_reducible apply awO_m); (· rfl); (· rfl); (· exact sv); (· (first | exact c1)); (· exact svq); (· exact svq); (· exact svq); (· exact svq); (· rfl); (· exact nd); (with_reducible apply awO_st); (· exact svs)))
    all_goals exact endQ_mk ⟨rfl, rfl, trivial⟩ ⟨rfl, rfl, rfl, rfl, trivial⟩
  refine aw_join [(7, ai K.length), (6, az ((t.drop i).take (j - i))), (0, .pt 9 0)] [(9, [az (t.take i ++ t.drop j), ai i, ai m, .os 2000 0 1 K.length, .os 3000 0 2 U.length, .os 4000 0 2 R.length, az ks, ai la, ai li, az sd, .rd L.length (L.map az), ai a]), (2000, K.map az), (3000, snC U), (4000, snC R)] ?_ ?_
  · skip
    repeat' (first
 | ((with_reducible apply awO_ev); (· rfl); (· exact sv))
 | (with_reducible apply aw_region)
 | ((first | (with_reducible apply awO_nil) | (with_reducible apply aw_exit) | (with_reducible apply aw_skip) | (with_reducible apply aw_ret)); (try simp only [CT, ↓reduceIte, Nat.reduceEqDiff])))
    all_goals exact endQ_mk ⟨rfl, rfl, rfl, trivial⟩ ⟨rfl, rfl, rfl, rfl, trivial⟩
  refine aw_join [(8, ab (isK la)), (7, ai K.length), (6, az ((t.drop i).take (j - i))), (0, .pt 9 0)] [(9, [az (t.take i ++ t.drop j), ai i, ai m, .os 2000 0 1 K.length, .os 3000 0 2 U.length, .os 4000 0 2 R.length, az ks, ai la, ai li, az sd, .rd L.length (L.map az), ai a]), (2000, K.map az), (3000, snC U), (4000, snC R)] ?_ ?_
  · skip
    repeat' (first
 | ((with_reducible apply awO_ev); (· rfl); (· exact sv))
 | (with_reducible apply aw_region)
 | ((first | (with_reducible apply awO_nil) | (with_reducible apply aw_exit) | (with_reducible apply aw_skip) | (with_reducible apply aw_ret)); (try simp only [CT, ↓reduceIte, Nat.reduceEqDiff]))
 | ((with_reducible apply awO_y); (· rfl); (· rfl); (· decide); (· exact sv); (· exact sv))
 | ((with_reducible apply awO_n); (· rfl); (· rfl); (· decide); (· exact sv); (· rfl); (· rfl); (· decide))
 | ((first | ((with_reducible apply awO_guard); (· rfl); (· rfl); (· exact sv)) | ((with_reducible apply aw_cond); (· exact sv))); all_goals (intro hg; (try simp only [Bool.not_true, Bool.not_false]); (try simp only [decide_eq_true_eq, decide_eq_false_iff_not, Bool.not_true, Bool.not_false, Bool.not_eq_true', Bool.not_eq_false', Bool.not_not, beq_eq_false_iff_ne, ne_eq, beq_iff_eq, decide_eq_decide] at hg); try (exfalso; omega))))
    all_goals
      refine endQ_mk ⟨?_, rfl, rfl, rfl, trivial⟩ ⟨rfl, rfl, rfl, rfl, trivial⟩
      refine congrArg some (ab_eq ?_)
      simp [isK]
      omega
  cases hik : isK la with
  | false =>
    have hk := klL_lim ⟨⟨t, z⟩, m, K, U, R, ks, la, li, sd⟩ ((t.drop i).take (j - i)) a (fun h => by have := h.1; simp only [hik] at this; cases this)
    rw [hk]
    repeat' (first
 | ((with_reducible apply awO_ev); (· rfl); (· exact sv))
 | ((with_reducible apply aw_seq); intro _ _)
 | (with_reducible apply aw_region)
 | (with_reducible apply aw_block)
 | ((first | (with_reducible apply awO_nil) | (with_reducible apply aw_exit) | (with_reducible apply aw_skip) | (with_reducible apply aw_ret)); (try simp only [CT, ↓reduceIte, Nat.reduceEqDiff]))
 | ((with_reducible apply awO_n); (· rfl); (· rfl); (· decide); (· exact sv); (· rfl); (· rfl); (· decide))
 | ((with_reducible apply aw_cond_true); (· exact sv))
 | (refine Kont.go ‹Kont _ _ _ _› _ ?_)
 | ((with_reducible apply awO_m); (· rfl); (· rfl); (· exact sv); (· (first | exact c2)); (· exact svq); (· exact svq); (· exact svq); (· exact svq); (· rfl); (· exact nd); (with_reducible apply awO_st); (· exact svs)))
    all_goals (refine retQ_wE (by first | exact .inr rfl | exact .inl rfl) rfl rfl rfl sv rfl (roS _) rfl (roS _) rfl rfl ?_ rfl rfl; simp only [hlr])
  | true =>
    by_cases h1 : 0 < K.length
    · have hkx := hKs _ (List.getElem_mem (show K.length - 1 < K.length by omega))
      by_cases h2 : K[K.length - 1].length + ((t.drop i).take (j - i)).length ≤ 4096
      · have hk := klL_join ⟨⟨t, z⟩, m, K, U, R, ks, la, li, sd⟩ ((t.drop i).take (j - i)) a hik h1 h2
        rw [hk]
        have hset := fun x => rd_last h1 x
        by_cases h3 : a = 12 ∨ a = 14
        · simp only [if_pos h3]
          rcases h3 with rfl | rfl
          · skip
            repeat' (first
 | ((with_reducible apply awO_ev); (· rfl); (· exact sv))
 | ((with_reducible apply aw_seq); intro _ _)
 | (with_reducible apply aw_region)
 | (with_reducible apply aw_block)
 | ((first | (with_reducible apply awO_nil) | (with_reducible apply aw_exit) | (with_reducible apply aw_skip) | (with_reducible apply aw_ret)); (try simp only [CT, ↓reduceIte, Nat.reduceEqDiff]))
 | ((with_reducible apply awO_y); (· rfl); (· rfl); (· decide); (· exact sv); (· exact sv))
 | ((with_reducible apply awO_n); (· rfl); (· rfl); (· decide); (· exact sv); (· rfl); (· rfl); (· decide))
 | ((with_reducible apply aw_cond_true); (· exact sv))
 | (refine Kont.go ‹Kont _ _ _ _› _ ?_)
 | ((with_reducible apply aw_draw); (· decide +kernel); (simp only [List.size_toArray, List.length_cons, List.length_nil, Nat.reduceAdd]))
 | ((with_reducible apply awY_done); (· decide +kernel); (try simp only [CT, ↓reduceIte, Nat.reduceEqDiff]))
 | ((with_reducible apply awY_q); (· exact sQ); (· exact np); (· exact svg); (· rfl); (· exact sv))
 | ((with_reducible apply awI_ev); (· exact svg); (· rfl); (· exact sv))
 | ((first | ((with_reducible apply awO_guard); (· rfl); (· rfl); (· exact sv)) | ((with_reducible apply aw_cond); (· exact sv))); all_goals (intro hg; (try simp only [Bool.not_true, Bool.not_false]); (try simp only [decide_eq_true_eq, decide_eq_false_iff_not, Bool.not_true, Bool.not_false, Bool.not_eq_true', Bool.not_eq_false', Bool.not_not, beq_eq_false_iff_ne, ne_eq, beq_iff_eq, decide_eq_decide] at hg); try (exfalso; omega)))
 | ((with_reducible apply awY_p); (· exact sH); (first | ((with_reducible apply awP_1); (· decide +kernel)) | ((with_reducible apply awP_2); (· exact sP)))))
            all_goals (refine retQ_wE (by first | exact .inr rfl | exact .inl rfl) rfl rfl rfl sv rfl (roS _) rfl (roS _) rfl rfl ?_ rfl rfl; simp only [hset])
          · skip
            repeat' (first
 | ((with_reducible apply awO_ev); (· rfl); (· exact sv))
 | ((with_reducible apply aw_seq); intro _ _)
 | (with_reducible apply aw_region)
 | (with_reducible apply aw_block)
 | ((first | (with_reducible apply awO_nil) | (with_reducible apply aw_exit) | (with_reducible apply aw_skip) | (with_reducible apply aw_ret)); (try simp only [CT, ↓reduceIte, Nat.reduceEqDiff]))
 | ((with_reducible apply awO_y); (· rfl); (· rfl); (· decide); (· exact sv); (· exact sv))
 | ((with_reducible apply aw_cond_true); (· exact sv))
 | (refine Kont.go ‹Kont _ _ _ _› _ ?_)
 | ((with_reducible apply aw_draw); (· decide +kernel); (simp only [List.size_toArray, List.length_cons, List.length_nil, Nat.reduceAdd]))
 | ((with_reducible apply awY_done); (· decide +kernel); (try simp only [CT, ↓reduceIte, Nat.reduceEqDiff]))
 | ((with_reducible apply awY_q); (· exact sQ); (· exact np); (· exact svg); (· rfl); (· exact sv))
 | ((with_reducible apply awI_ev); (· exact svg); (· rfl); (· exact sv))
 | ((first | ((with_reducible apply awO_guard); (· rfl); (· rfl); (· exact sv)) | ((with_reducible apply aw_cond); (· exact sv))); all_goals (intro hg; (try simp only [Bool.not_true, Bool.not_false]); (try simp only [decide_eq_true_eq, decide_eq_false_iff_not, Bool.not_true, Bool.not_false, Bool.not_eq_true', Bool.not_eq_false', Bool.not_not, beq_eq_false_iff_ne, ne_eq, beq_iff_eq, decide_eq_decide] at hg); try (exfalso; omega)))
 | ((with_reducible apply awY_p); (· exact sH); (first | ((with_reducible apply awP_1); (· decide +kernel)) | ((with_reducible apply awP_2); (· exact sP)))))
            all_goals (refine retQ_wE (by first | exact .inr rfl | exact .inl rfl) rfl rfl rfl sv rfl (roS _) rfl (roS _) rfl rfl ?_ rfl rfl; simp only [hset])
        · simp only [if_neg h3]
          have h3 : a ≠ 12 ∧ a ≠ 14 := by omega
          repeat' (first
 | ((with_reducible apply awO_ev); (· rfl); (· exact sv))
 | ((with_reducible apply aw_seq); intro _ _)
 | (with_reducible apply aw_region)
 | (with_reducible apply aw_block)
 | ((first | (with_reducible apply awO_nil) | (with_reducible apply aw_exit) | (with_reducible apply aw_skip) | (with_reducible apply aw_ret)); (try simp only [CT, ↓reduceIte, Nat.reduceEqDiff]))
 | ((with_reducible apply awO_y); (· rfl); (· rfl); (· decide); (· exact sv); (· exact sv))
 | (refine Kont.go ‹Kont _ _ _ _› _ ?_)
 | ((first | ((with_reducible apply awO_guard); (· rfl); (· rfl); (· exact sv)) | ((with_reducible apply aw_cond); (· exact sv))); all_goals (intro hg; (try simp only [Bool.not_true, Bool.not_false]); (try simp only [decide_eq_true_eq, decide_eq_false_iff_not, Bool.not_true, Bool.not_false, Bool.not_eq_true', Bool.not_eq_false', Bool.not_not, beq_eq_false_iff_ne, ne_eq, beq_iff_eq, decide_eq_decide] at hg); try (exfalso; omega))))
          all_goals (refine retQ_wE (by first | exact .inr rfl | exact .inl rfl) rfl rfl rfl sv rfl (roS _) rfl (roS _) rfl rfl ?_ rfl rfl; simp only [hset])
      · have hk := klL_lim ⟨⟨t, z⟩, m, K, U, R, ks, la, li, sd⟩ ((t.drop i).take (j - i)) a (fun h => h2 h.2.2)
        rw [hk]
        repeat' (first
 | ((with_reducible apply awO_ev); (· rfl); (· exact sv))
 | ((with_reducible apply aw_seq); intro _ _)
 | (with_reducible apply aw_region)
 | (with_reducible apply aw_block)
 | ((first | (with_reducible apply awO_nil) | (with_reducible apply aw_exit) | (with_reducible apply aw_skip) | (with_reducible apply aw_ret)); (try simp only [CT, ↓reduceIte, Nat.reduceEqDiff]))
 | ((with_reducible apply awO_y); (· rfl); (· rfl); (· decide); (· exact sv); (· exact sv))
 | (refine Kont.go ‹Kont _ _ _ _› _ ?_)
 | ((with_reducible apply awO_m); (· rfl); (· rfl); (· exact sv); (· (first | exact c2)); (· exact svq); (· exact svq); (· exact svq); (· exact svq); (· rfl); (· exact nd); (with_reducible apply awO_st); (· exact svs))
 | ((first | ((with_reducible apply awO_guard); (· rfl); (· rfl); (· exact sv)) | ((with_reducible apply aw_cond); (· exact sv))); all_goals (intro hg; (try simp only [Bool.not_true, Bool.not_false]); (try simp only [decide_eq_true_eq, decide_eq_false_iff_not, Bool.not_true, Bool.not_false, Bool.not_eq_true', Bool.not_eq_false', Bool.not_not, beq_eq_false_iff_ne, ne_eq, beq_iff_eq, decide_eq_decide] at hg); try (exfalso; omega))))
        all_goals (refine retQ_wE (by first | exact .inr rfl | exact .inl rfl) rfl rfl rfl sv rfl (roS _) rfl (roS _) rfl rfl ?_ rfl rfl; simp only [hlr])
    · have hk := klL_lim ⟨⟨t, z⟩, m, K, U, R, ks, la, li, sd⟩ ((t.drop i).take (j - i)) a (fun h => h1 h.2.1)
      rw [hk]
      repeat' (first
 | ((with_reducible apply awO_ev); (· rfl); (· exact sv))
 | ((with_reducible apply aw_seq); intro _ _)
 | (with_reducible apply aw_region)
 | (with_reducible apply aw_block)
 | ((first | (with_reducible apply awO_nil) | (with_reducible apply aw_exit) | (with_reducible apply aw_skip) | (with_reducible apply aw_ret)); (try simp only [CT, ↓reduceIte, Nat.reduceEqDiff]))
 | ((with_reducible apply awO_y); (· rfl); (· rfl); (· decide); (· exact sv); (· exact sv))
 | ((with_reducible apply awO_n); (· rfl); (· rfl); (· decide); (· exact sv); (· rfl); (· rfl); (· decide))
 | ((with_reducible apply aw_cond_true); (· exact sv))
 | (refine Kont.go ‹Kont _ _ _ _› _ ?_)
 | ((with_reducible apply awO_m); (· rfl); (· rfl); (· exact sv); (· (first | exact c2)); (· exact svq); (· exact svq); (· exact svq); (· exact svq); (· rfl); (· exact nd); (with_reducible apply awO_st); (· exact svs))
 | ((first | ((with_reducible apply awO_guard); (· rfl); (· rfl); (· exact sv)) | ((with_reducible apply aw_cond); (· exact sv))); all_goals (intro hg; (try simp only [Bool.not_true, Bool.not_false]); (try simp only [decide_eq_true_eq, decide_eq_false_iff_not, Bool.not_true, Bool.not_false, Bool.not_eq_true', Bool.not_eq_false', Bool.not_not, beq_eq_false_iff_ne, ne_eq, beq_iff_eq, decide_eq_decide] at hg); try (exfalso; omega))))
      all_goals (refine retQ_wE (by first | exact .inr rfl | exact .inl rfl) rfl rfl rfl sv rfl (roS _) rfl (roS _) rfl rfl ?_ rfl rfl; simp only [hlr])
end Go.Proofs.Ytapmolfpkhfpgaa
