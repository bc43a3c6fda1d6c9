/- The editor: the document's kill, on the abstract machine. -/
import Derived.Test.YtapmolfpkhfpgaaErN
import Derived.Test.YtapmolfpkhfpgaaErL
namespace Go.Proofs.Ytapmolfpkhfpgaa
open Go.RowKit
set_option linter.unusedVariables false
set_option linter.unusedSimpArgs false
set_option maxRecDepth 100000
set_option maxHeartbeats 8000000
theorem lim16_le {K : List (List UInt8)} {s : List UInt8} (h : K.length ≤ 15) : lim 16 (K ++ [s]) = K ++ [s] := by rw [lim, show (K ++ [s]).length - 16 = 0 by simp; omega]; rfl
theorem lim16_eq {K : List (List UInt8)} {s : List UInt8} (h : K.length = 16) : lim 16 (K ++ [s]) = (K ++ [s]).drop 1 := by rw [lim, show (K ++ [s]).length - 16 = 1 by simp; omega]
theorem rkill_ab (e : Er) (i j : Nat) (a : Int) (hij : i ≤ j) (hj : j ≤ e.now.t.length) (ht : e.now.t.length ≤ 4096) (hK : e.kills.length ≤ 16) (hKs : ∀ s ∈ e.kills, s.length ≤ 4096) (hU : e.undo.length ≤ 64) :
    Ab Try.prog 45 [erA e, ai i, ai j, ai a] (erA (kil e i j a)) := by
  unfold kil
  by_cases h0 : i = j
  · subst h0
    rw [if_pos rfl]
    obtain ⟨⟨t, z⟩, m, K, U, R, ks, la, li, sd⟩ := e
    simp only at hj ht
    simp only [erA, erC]
    refine Fn_of_aw (keep := []) Try.func45 rfl rfl (by simp [Try.ntmps45]) ?_
    simp only [num_cons, num_nil, Try.ntmps45, Try.results45]
    repeat' (first
 | ((with_reducible apply awO_ev); (· rfl); (· exact sv))
 | ((with_reducible apply aw_seq); intro _ _)
 | (with_reducible apply aw_region)
 | ((first | (with_reducible apply awO_nil) | (with_reducible apply aw_exit) | (with_reducible apply aw_skip) | (with_reducible apply aw_ret)); (try simp only [CT, ↓reduceIte, Nat.reduceEqDiff]))
 | ((with_reducible apply aw_cond_true); (· exact sv))
 | (refine Kont.go ‹Kont _ _ _ _› _ ?_)
 | ((with_reducible apply retQ_mk); (· (first | exact .inr rfl | exact .inl rfl)); (· exact sv); (· exact sv); rotate_left; (· rfl)))
    all_goals (first | rfl | exact absurd rfl ‹_›)
  rw [if_neg h0]
  have c1 := cut_ab e i j a hij hj (by omega) hU
  have c2 := kills_ab e.last
  generalize edt e (rplS e.now i j []) a = r at *
  have hsl : ((e.now.t.drop i).take (j - i)).length = j - i := by rw [List.length_take, List.length_drop]; omega
  obtain ⟨⟨t, z⟩, m, K, U, R, ks, la, li, sd⟩ := e
  simp only at hj ht hK hKs c2 hsl
  have hn : ∀ X : List (List UInt8), erA { r with kills := X } = .ag [az r.now.t, ai r.now.p, ai r.mark, .rd X.length (X.map az), .rd r.undo.length (snC r.undo), .rd r.redo.length (snC r.redo), az r.keys, ai r.last, ai r.line, az r.saved] := fun X => rfl
  rw [hn]
  simp only [erA, erC] at c1 ⊢
  have hlim : ∀ h : klL ⟨⟨t, z⟩, m, K, U, R, ks, la, li, sd⟩ ((t.drop i).take (j - i)) a = lim 16 (K ++ [((t.drop i).take (j - i))]), ¬ (isK la = true ∧ ∃ h : 0 < K.length, K[K.length - 1].length + ((t.drop i).take (j - i)).length ≤ 4096) → Ab Try.prog 45 [.ag [az t, ai z, ai m, .rd K.length (K.map az), .rd U.length (snC U), .rd R.length (snC R), az ks, ai la, ai li, az sd], ai i, ai j, ai a] (.ag [az r.now.t, ai r.now.p, ai r.mark, .rd (klL ⟨⟨t, z⟩, m, K, U, R, ks, la, li, sd⟩ ((t.drop i).take (j - i)) a).length ((klL ⟨⟨t, z⟩, m, K, U, R, ks, la, li, sd⟩ ((t.drop i).take (j - i)) a).map az), .rd r.undo.length (snC r.undo), .rd r.redo.length (snC r.redo), az r.keys, ai r.last, ai r.line, az r.saved]) := by
    intro hk hno
    rw [hk]
    have fin16 : K.length = 16 → AV.rd (lim 16 (K ++ [((t.drop i).take (j - i))])).length ((lim 16 (K ++ [((t.drop i).take (j - i))])).map az) = .rd (K.length + 1 - 1) (List.drop 1 (K.map az ++ [az ((t.drop i).take (j - i))])) := fun h => by
      rw [lim16_eq h, List.map_drop, List.map_append]; simp
    have fin15 : K.length ≤ 15 → AV.rd (lim 16 (K ++ [((t.drop i).take (j - i))])).length ((lim 16 (K ++ [((t.drop i).take (j - i))])).map az) = .rd (K.length + 1) (K.map az ++ [az ((t.drop i).take (j - i))]) := fun h => by
      rw [lim16_le h, List.map_append]; simp
    cases hik : isK la with
    | false =>
      rw [hik] at c2
      by_cases h16 : K.length = 16
      · rw [fin16 h16]
        refine Fn_of_aw (keep := []) Try.func45 rfl rfl (by simp [Try.ntmps45]) ?_
        simp only [num_cons, num_nil, Try.ntmps45, Try.results45]
        repeat' (first
 | ((with_reducible apply awO_ev); (· rfl); (· exact sv))
 | ((with_reducible apply aw_seq); intro _ _)
 | (with_reducible apply aw_region)
 | ((first | (with_reducible apply awO_nil) | (with_reducible apply aw_exit) | (with_reducible apply aw_skip) | (with_reducible apply aw_ret)); (try simp only [CT, ↓reduceIte, Nat.reduceEqDiff]))
 | ((with_reducible apply awO_n); (· rfl); (· rfl); (· decide); (· exact sv); (· rfl); (· rfl); (· decide))
 | ((with_reducible apply awO_u); (· rfl); (· rfl); (· exact svr); (· rfl); (· decide))
 | ((with_reducible apply aw_cond_false); (· exact sv))
 | (refine Kont.go ‹Kont _ _ _ _› _ ?_)
 | ((with_reducible apply awO_c); (· rfl); (· rfl); (· exact sv); (· (first | exact c1 | exact c2)); (· rfl); (· rfl); (· rfl); (· decide))
 | ((first | ((with_reducible apply awO_guard); (· rfl); (· rfl); (· exact sv)) | ((with_reducible apply aw_cond); (· exact sv))); all_goals (intro hg; (try simp only [Bool.not_true, Bool.not_false]); (try simp only [decide_eq_true_eq, decide_eq_false_iff_not, Bool.not_true, Bool.not_false, Bool.not_eq_true', Bool.not_eq_false', Bool.not_not, beq_eq_false_iff_ne, ne_eq, beq_iff_eq, decide_eq_decide] at hg); try (exfalso; omega)))
 | ((with_reducible apply retQ_mk); (· (first | exact .inr rfl | exact .inl rfl)); (· exact sv); (· exact sv); rotate_left; (· rfl)))
        all_goals rfl
      · rw [fin15 (by omega)]
        refine Fn_of_aw (keep := []) Try.func45 rfl rfl (by simp [Try.ntmps45]) ?_
        simp only [num_cons, num_nil, Try.ntmps45, Try.results45]
        repeat' (first
 | ((with_reducible apply awO_ev); (· rfl); (· exact sv))
 | ((with_reducible apply aw_seq); intro _ _)
 | (with_reducible apply aw_region)
 | ((first | (with_reducible apply awO_nil) | (with_reducible apply aw_exit) | (with_reducible apply aw_skip) | (with_reducible apply aw_ret)); (try simp only [CT, ↓reduceIte, Nat.reduceEqDiff]))
 | ((with_reducible apply awO_n); (· rfl); (· rfl); (· decide); (· exact sv); (· rfl); (· rfl); (· decide))
 | ((with_reducible apply awO_u); (· rfl); (· rfl); (· exact svr); (· rfl); (· decide))
 | ((with_reducible apply aw_cond_false); (· exact sv))
 | (refine Kont.go ‹Kont _ _ _ _› _ ?_)
 | ((with_reducible apply awO_c); (· rfl); (· rfl); (· exact sv); (· (first | exact c1 | exact c2)); (· rfl); (· rfl); (· rfl); (· decide))
 | ((first | ((with_reducible apply awO_guard); (· rfl); (· rfl); (· exact sv)) | ((with_reducible apply aw_cond); (· exact sv))); all_goals (intro hg; (try simp only [Bool.not_true, Bool.not_false]); (try simp only [decide_eq_true_eq, decide_eq_false_iff_not, Bool.not_true, Bool.not_false, Bool.not_eq_true', Bool.not_eq_false', Bool.not_not, beq_eq_false_iff_ne, ne_eq, beq_iff_eq, decide_eq_decide] at hg); try (exfalso; omega)))
 | ((with_reducible apply retQ_mk); (· (first | exact .inr rfl | exact .inl rfl)); (· exact sv); (· exact sv); rotate_left; (· rfl)))
        all_goals rfl
    | true =>
      rw [hik] at c2
      by_cases h1 : 0 < K.length
      · have h2 : ¬ K[K.length - 1].length + ((t.drop i).take (j - i)).length ≤ 4096 := fun h2 => hno ⟨hik, h1, h2⟩
        have hkx := hKs _ (List.getElem_mem (show K.length - 1 < K.length by omega))
        by_cases h16 : K.length = 16
        · rw [fin16 h16]
          refine Fn_of_aw (keep := []) Try.func45 rfl rfl (by simp [Try.ntmps45]) ?_
          simp only [num_cons, num_nil, Try.ntmps45, Try.results45]
          repeat' (first
 | ((with_reducible apply awO_ev); (· rfl); (· exact sv))
 | ((with_reducible apply aw_seq); intro _ _)
 | (with_reducible apply aw_region)
 | ((first | (with_reducible apply awO_nil) | (with_reducible apply aw_exit) | (with_reducible apply aw_skip) | (with_reducible apply aw_ret)); (try simp only [CT, ↓reduceIte, Nat.reduceEqDiff]))
 | ((with_reducible apply awO_y); (· rfl); (· rfl); (· decide); (· exact sv); (· exact sv))
 | ((with_reducible apply awO_n); (· rfl); (· rfl); (· decide); (· exact sv); (· rfl); (· rfl); (· decide))
 | ((with_reducible apply awO_u); (· rfl); (· rfl); (· exact svr); (· rfl); (· decide))
 | ((with_reducible apply aw_cond_false); (· exact sv))
 | (refine Kont.go ‹Kont _ _ _ _› _ ?_)
 | ((with_reducible apply awO_c); (· rfl); (· rfl); (· exact sv); (· (first | exact c1 | exact c2)); (· rfl); (· rfl); (· rfl); (· decide))
 | ((first | ((with_reducible apply awO_guard); (· rfl); (· rfl); (· exact sv)) | ((with_reducible apply aw_cond); (· exact sv))); all_goals (intro hg; (try simp only [Bool.not_true, Bool.not_false]); (try simp only [decide_eq_true_eq, decide_eq_false_iff_not, Bool.not_true, Bool.not_false, Bool.not_eq_true', Bool.not_eq_false', Bool.not_not, beq_eq_false_iff_ne, ne_eq, beq_iff_eq, decide_eq_decide] at hg); try (exfalso; omega)))
 | ((with_reducible apply retQ_mk); (· (first | exact .inr rfl | exact .inl rfl)); (· exact sv); (· exact sv); rotate_left; (· rfl)))
          all_goals rfl
        · rw [fin15 (by omega)]
          refine Fn_of_aw (keep := []) Try.func45 rfl rfl (by simp [Try.ntmps45]) ?_
          simp only [num_cons, num_nil, Try.ntmps45, Try.results45]
          repeat' (first
 | ((with_reducible apply awO_ev); (· rfl); (· exact sv))
 | ((with_reducible apply aw_seq); intro _ _)
 | (with_reducible apply aw_region)
 | ((first | (with_reducible apply awO_nil) | (with_reducible apply aw_exit) | (with_reducible apply aw_skip) | (with_reducible apply aw_ret)); (try simp only [CT, ↓reduceIte, Nat.reduceEqDiff]))
 | ((with_reducible apply awO_y); (· rfl); (· rfl); (· decide); (· exact sv); (· exact sv))
 | ((with_reducible apply awO_n); (· rfl); (· rfl); (· decide); (· exact sv); (· rfl); (· rfl); (· decide))
 | ((with_reducible apply awO_u); (· rfl); (· rfl); (· exact svr); (· rfl); (· decide))
 | ((with_reducible apply aw_cond_false); (· exact sv))
 | (refine Kont.go ‹Kont _ _ _ _› _ ?_)
 | ((with_reducible apply awO_c); (· rfl); (· rfl); (· exact sv); (· (first | exact c1 | exact c2)); (· rfl); (· rfl); (· rfl); (· decide))
 | ((first | ((with_reducible apply awO_guard); (· rfl); (· rfl); (· exact sv)) | ((with_reducible apply aw_cond); (· exact sv))); all_goals (intro hg; (try simp only [Bool.not_true, Bool.not_false]); (try simp only [decide_eq_true_eq, decide_eq_false_iff_not, Bool.not_true, Bool.not_false, Bool.not_eq_true', Bool.not_eq_false', Bool.not_not, beq_eq_false_iff_ne, ne_eq, beq_iff_eq, decide_eq_decide] at hg); try (exfalso; omega)))
 | ((with_reducible apply retQ_mk); (· (first | exact .inr rfl | exact .inl rfl)); (· exact sv); (· exact sv); rotate_left; (· rfl)))
          all_goals rfl
      · rw [fin15 (by omega)]
        refine Fn_of_aw (keep := []) Try.func45 rfl rfl (by simp [Try.ntmps45]) ?_
        simp only [num_cons, num_nil, Try.ntmps45, Try.results45]
        repeat' (first
 | ((with_reducible apply awO_ev); (· rfl); (· exact sv))
 | ((with_reducible apply aw_seq); intro _ _)
 | (with_reducible apply aw_region)
 | ((first | (with_reducible apply awO_nil) | (with_reducible apply aw_exit) | (with_reducible apply aw_skip) | (with_reducible apply aw_ret)); (try simp only [CT, ↓reduceIte, Nat.reduceEqDiff]))
 | ((with_reducible apply awO_y); (· rfl); (· rfl); (· decide); (· exact sv); (· exact sv))
 | ((with_reducible apply awO_n); (· rfl); (· rfl); (· decide); (· exact sv); (· rfl); (· rfl); (· decide))
 | ((with_reducible apply awO_u); (· rfl); (· rfl); (· exact svr); (· rfl); (· decide))
 | ((with_reducible apply aw_cond_false); (· exact sv))
 | (refine Kont.go ‹Kont _ _ _ _› _ ?_)
 | ((with_reducible apply awO_c); (· rfl); (· rfl); (· exact sv); (· (first | exact c1 | exact c2)); (· rfl); (· rfl); (· rfl); (· decide))
 | ((first | ((with_reducible apply awO_guard); (· rfl); (· rfl); (· exact sv)) | ((with_reducible apply aw_cond); (· exact sv))); all_goals (intro hg; (try simp only [Bool.not_true, Bool.not_false]); (try simp only [decide_eq_true_eq, decide_eq_false_iff_not, Bool.not_true, Bool.not_false, Bool.not_eq_true', Bool.not_eq_false', Bool.not_not, beq_eq_false_iff_ne, ne_eq, beq_iff_eq, decide_eq_decide] at hg); try (exfalso; omega)))
 | ((with_reducible apply retQ_mk); (· (first | exact .inr rfl | exact .inl rfl)); (· exact sv); (· exact sv); rotate_left; (· rfl)))
        all_goals rfl
  by_cases hjn : isK la = true ∧ ∃ h : 0 < K.length, K[K.length - 1].length + ((t.drop i).take (j - i)).length ≤ 4096
  · obtain ⟨hik, h1, h2⟩ := hjn
    have hk := klL_join ⟨⟨t, z⟩, m, K, U, R, ks, la, li, sd⟩ ((t.drop i).take (j - i)) a hik h1 h2
    have hset := fun x => rd_last h1 x
    have hkx := hKs _ (List.getElem_mem (show K.length - 1 < K.length by omega))
    rw [hk]
    rw [hik] at c2
    by_cases h3 : a = 12 ∨ a = 14
    · simp only [if_pos h3]
      rw [← hset]
      rcases h3 with rfl | rfl
      · skip
        refine Fn_of_aw (keep := []) Try.func45 rfl rfl (by simp [Try.ntmps45]) ?_
        simp only [num_cons, num_nil, Try.ntmps45, Try.results45]
        repeat' (first
 | ((with_reducible apply awO_ev); (· rfl); (· exact sv))
 | ((with_reducible apply aw_seq); intro _ _)
 | (with_reducible apply aw_region)
 | ((first | (with_reducible apply awO_nil) | (with_reducible apply aw_exit) | (with_reducible apply aw_skip) | (with_reducible apply aw_ret)); (try simp only [CT, ↓reduceIte, Nat.reduceEqDiff]))
 | ((with_reducible apply awO_y); (· rfl); (· rfl); (· decide); (· exact sv); (· exact sv))
 | ((with_reducible apply awO_n); (· rfl); (· rfl); (· decide); (· exact sv); (· rfl); (· rfl); (· decide))
 | ((with_reducible apply aw_cond_true); (· exact sv))
 | (refine Kont.go ‹Kont _ _ _ _› _ ?_)
 | ((with_reducible apply awO_c); (· rfl); (· rfl); (· exact sv); (· (first | exact c1 | exact c2)); (· rfl); (· rfl); (· rfl); (· decide))
 | ((first | ((with_reducible apply awO_guard); (· rfl); (· rfl); (· exact sv)) | ((with_reducible apply aw_cond); (· exact sv))); all_goals (intro hg; (try simp only [Bool.not_true, Bool.not_false]); (try simp only [decide_eq_true_eq, decide_eq_false_iff_not, Bool.not_true, Bool.not_false, Bool.not_eq_true', Bool.not_eq_false', Bool.not_not, beq_eq_false_iff_ne, ne_eq, beq_iff_eq, decide_eq_decide] at hg); try (exfalso; omega)))
 | ((with_reducible apply retQ_mk); (· (first | exact .inr rfl | exact .inl rfl)); (· exact sv); (· exact sv); rotate_left; (· rfl)))
        all_goals rfl
      · skip
        refine Fn_of_aw (keep := []) Try.func45 rfl rfl (by simp [Try.ntmps45]) ?_
        simp only [num_cons, num_nil, Try.ntmps45, Try.results45]
        repeat' (first
 | ((with_reducible apply awO_ev); (· rfl); (· exact sv))
 | ((with_reducible apply aw_seq); intro _ _)
 | (with_reducible apply aw_region)
 | ((first | (with_reducible apply awO_nil) | (with_reducible apply aw_exit) | (with_reducible apply aw_skip) | (with_reducible apply aw_ret)); (try simp only [CT, ↓reduceIte, Nat.reduceEqDiff]))
 | ((with_reducible apply awO_y); (· rfl); (· rfl); (· decide); (· exact sv); (· exact sv))
 | ((with_reducible apply aw_cond_true); (· exact sv))
 | (refine Kont.go ‹Kont _ _ _ _› _ ?_)
 | ((with_reducible apply awO_c); (· rfl); (· rfl); (· exact sv); (· (first | exact c1 | exact c2)); (· rfl); (· rfl); (· rfl); (· decide))
 | ((first | ((with_reducible apply awO_guard); (· rfl); (· rfl); (· exact sv)) | ((with_reducible apply aw_cond); (· exact sv))); all_goals (intro hg; (try simp only [Bool.not_true, Bool.not_false]); (try simp only [decide_eq_true_eq, decide_eq_false_iff_not, Bool.not_true, Bool.not_false, Bool.not_eq_true', Bool.not_eq_false', Bool.not_not, beq_eq_false_iff_ne, ne_eq, beq_iff_eq, decide_eq_decide] at hg); try (exfalso; omega)))
 | ((with_reducible apply retQ_mk); (· (first | exact .inr rfl | exact .inl rfl)); (· exact sv); (· exact sv); rotate_left; (· rfl)))
        all_goals rfl
    · simp only [if_neg h3]
      rw [← hset]
      have h3 : a ≠ 12 ∧ a ≠ 14 := by omega
      refine Fn_of_aw (keep := []) Try.func45 rfl rfl (by simp [Try.ntmps45]) ?_
      simp only [num_cons, num_nil, Try.ntmps45, Try.results45]
      repeat' (first
 | ((with_reducible apply awO_ev); (· rfl); (· exact sv))
 | ((with_reducible apply aw_seq); intro _ _)
 | (with_reducible apply aw_region)
 | ((first | (with_reducible apply awO_nil) | (with_reducible apply aw_exit) | (with_reducible apply aw_skip) | (with_reducible apply aw_ret)); (try simp only [CT, ↓reduceIte, Nat.reduceEqDiff]))
 | ((with_reducible apply awO_y); (· rfl); (· rfl); (· decide); (· exact sv); (· exact sv))
 | (refine Kont.go ‹Kont _ _ _ _› _ ?_)
 | ((with_reducible apply awO_c); (· rfl); (· rfl); (· exact sv); (· (first | exact c1 | exact c2)); (· rfl); (· rfl); (· rfl); (· decide))
 | ((first | ((with_reducible apply awO_guard); (· rfl); (· rfl); (· exact sv)) | ((with_reducible apply aw_cond); (· exact sv))); all_goals (intro hg; (try simp only [Bool.not_true, Bool.not_false]); (try simp only [decide_eq_true_eq, decide_eq_false_iff_not, Bool.not_true, Bool.not_false, Bool.not_eq_true', Bool.not_eq_false', Bool.not_not, beq_eq_false_iff_ne, ne_eq, beq_iff_eq, decide_eq_decide] at hg); try (exfalso; omega)))
 | ((with_reducible apply retQ_mk); (· (first | exact .inr rfl | exact .inl rfl)); (· exact sv); (· exact sv); rotate_left; (· rfl)))
      all_goals rfl
  · exact hlim (klL_lim ⟨⟨t, z⟩, m, K, U, R, ks, la, li, sd⟩ ((t.drop i).take (j - i)) a hjn) hjn
end Go.Proofs.Ytapmolfpkhfpgaa
