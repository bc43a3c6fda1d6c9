/- The editor: small functions of the laws, on the abstract machine. -/
import Derived.Test.YtapmolfpkhfpgaaErK
namespace Go.Proofs.Ytapmolfpkhfpgaa
open Go.RowKit
set_option linter.unusedVariables false
set_option linter.unusedSimpArgs false
set_option maxRecDepth 100000
set_option maxHeartbeats 8000000
theorem eqSn : eqK Try.prog 23 = some [2, 0] := by kernel_rfl
attribute [go_sem] eqSn
theorem sameSnaps_ab (U : List Sn) (hU : U.length ≤ 1000000) : Ab Try.prog 26 [.rd U.length (snC U), .rd U.length (snC U)] (ab true) := by
  refine Fn_of_aw (keep := []) Try.func26 rfl rfl (by simp [Try.ntmps26]) ?_
  simp only [num_cons, num_nil, Try.ntmps26, Try.results26]
  repeat' (first
 | ((with_reducible apply awO_ev); (· rfl); (· exact sv))
 | ((with_reducible apply aw_seq); intro _ _)
 | (with_reducible apply aw_region)
 | (with_reducible apply aw_block)
 | ((first | (with_reducible apply awO_nil) | (with_reducible apply aw_exit) | (with_reducible apply aw_skip) | (with_reducible apply aw_ret)); (try simp only [CT, ↓reduceIte, Nat.reduceEqDiff]))
 | ((with_reducible apply aw_cond_false); (· exact sv))
 | (refine Kont.go ‹Kont _ _ _ _› _ ?_))
  refine aw_loopF (fun i : Nat => [(5, ai i)]) (fun _ => []) (fun i => i ≤ U.length) (fun i => U.length - i) 0 (by omega) ?_ ?_ ?_
  · exact ⟨rfl, trivial⟩
  · exact trivial
  intro i hi
  (simp only [LP, List.append_assoc, List.nil_append, List.cons_append, List.append_nil, List.contains_cons, List.contains_nil, Nat.reduceBEq, Bool.or_false, Bool.or_true, Bool.true_or, Bool.false_or, ↓reduceIte, Bool.false_eq_true])
  by_cases hil : i < U.length
  · skip
    repeat' (first
 | ((with_reducible apply awO_ev); (· rfl); (· exact sv))
 | ((with_reducible apply aw_seq); intro _ _)
 | (with_reducible apply aw_region)
 | (with_reducible apply aw_block)
 | ((first | (with_reducible apply awO_nil) | (with_reducible apply aw_exit) | (with_reducible apply aw_skip) | (with_reducible apply aw_ret)); (try simp only [CT, ↓reduceIte, Nat.reduceEqDiff]))
 | ((with_reducible apply aw_cond_false); (· exact sv))
 | (refine Kont.go ‹Kont _ _ _ _› _ ?_)
 | ((with_reducible apply aw_drawZ); (· decide +kernel); (· decide +kernel))
 | ((with_reducible apply awZ_done); (try simp only [CT, ↓reduceIte, Nat.reduceEqDiff]))
 | ((with_reducible apply awZ_q); (· rfl); (· exact np); (· rfl); (· exact sv))
 | ((first | ((with_reducible apply awO_guard); (· rfl); (· rfl); (· exact sv)) | ((with_reducible apply aw_cond); (· exact sv))); all_goals (intro hg; (try simp only [Bool.not_true, Bool.not_false]); (try simp only [decide_eq_true_eq, decide_eq_false_iff_not, Bool.not_true, Bool.not_false, Bool.not_eq_true', Bool.not_eq_false', Bool.not_not, beq_eq_false_iff_ne, ne_eq, beq_iff_eq, decide_eq_decide] at hg); try (exfalso; omega))))
    refine LE_mk (i + 1) ?_ ?_ sN sN sN
    · omega
    · omega
  · skip
    repeat' (first
 | ((with_reducible apply awO_ev); (· rfl); (· exact sv))
 | ((with_reducible apply aw_seq); intro _ _)
 | (with_reducible apply aw_region)
 | ((first | (with_reducible apply awO_nil) | (with_reducible apply aw_exit) | (with_reducible apply aw_skip) | (with_reducible apply aw_ret)); (try simp only [CT, ↓reduceIte, Nat.reduceEqDiff]))
 | (refine Kont.go ‹Kont _ _ _ _› _ ?_)
 | ((first | ((with_reducible apply awO_guard); (· rfl); (· rfl); (· exact sv)) | ((with_reducible apply aw_cond); (· exact sv))); all_goals (intro hg; (try simp only [Bool.not_true, Bool.not_false]); (try simp only [decide_eq_true_eq, decide_eq_false_iff_not, Bool.not_true, Bool.not_false, Bool.not_eq_true', Bool.not_eq_false', Bool.not_not, beq_eq_false_iff_ne, ne_eq, beq_iff_eq, decide_eq_decide] at hg); try (exfalso; omega)))
 | ((with_reducible apply retQ_mk); (· (first | exact .inr rfl | exact .inl rfl)); (· exact sv); (· exact sv); rotate_left; (· rfl)))
    all_goals rfl
theorem same_ab (e : Er) (hK : e.kills.length ≤ 1000000) (hU : e.undo.length ≤ 1000000) (hR : e.redo.length ≤ 1000000) : Ab Try.prog 13 [erA e, erA e] (ab true) := by
  have c1 := sameSnaps_ab e.undo hU
  have c2 := sameSnaps_ab e.redo hR
  obtain ⟨⟨t, z⟩, m, K, U, R, ks, la, li, sd⟩ := e
  simp only at hK hU hR c1 c2
  simp only [erA, erC]
  refine Fn_of_aw (keep := []) Try.func13 rfl rfl (by simp [Try.ntmps13]) ?_
  simp only [num_cons, num_nil, Try.ntmps13, Try.results13]
  repeat' (first
 | ((with_reducible apply awO_ev); (· rfl); (· exact sv))
 | ((with_reducible apply aw_seq); intro _ _)
 | (with_reducible apply aw_region)
 | (with_reducible apply aw_block)
 | ((first | (with_reducible apply awO_nil) | (with_reducible apply aw_exit) | (with_reducible apply aw_skip) | (with_reducible apply aw_ret)); (try simp only [CT, ↓reduceIte, Nat.reduceEqDiff]))
 | ((with_reducible apply aw_cond_false); (· exact sv))
 | (refine Kont.go ‹Kont _ _ _ _› _ ?_))
  refine aw_loopF (fun i : Nat => [(5, ai i)]) (fun _ => [(2, [az t, ai z, ai m, .rd K.length (K.map az), .rd U.length (snC U), .rd R.length (snC R), az ks, ai la, ai li, az sd]), (3, [az t, ai z, ai m, .rd K.length (K.map az), .rd U.length (snC U), .rd R.length (snC R), az ks, ai la, ai li, az sd])]) (fun i => i ≤ K.length) (fun i => K.length - i) 0 (by omega) ?_ ?_ ?_
  · exact ⟨rfl, trivial⟩
  · exact ⟨rfl, rfl, trivial⟩
  intro i hi
  (simp only [LP, List.append_assoc, List.nil_append, List.cons_append, List.append_nil, List.contains_cons, List.contains_nil, Nat.reduceBEq, Bool.or_false, Bool.or_true, Bool.true_or, Bool.false_or, ↓reduceIte, Bool.false_eq_true])
  by_cases hil : i < K.length
  · skip
    repeat' (first
 | ((with_reducible apply awO_ev); (· rfl); (· exact sv))
 | ((with_reducible apply aw_seq); intro _ _)
 | (with_reducible apply aw_region)
 | (with_reducible apply aw_block)
 | ((first | (with_reducible apply awO_nil) | (with_reducible apply aw_exit) | (with_reducible apply aw_skip) | (with_reducible apply aw_ret)); (try simp only [CT, ↓reduceIte, Nat.reduceEqDiff]))
 | ((with_reducible apply aw_cond_false); (· exact sv))
 | (refine Kont.go ‹Kont _ _ _ _› _ ?_)
 | ((with_reducible apply aw_drawZ); (· decide +kernel); (· decide +kernel))
 | ((with_reducible apply awZ_done); (try simp only [CT, ↓reduceIte, Nat.reduceEqDiff]))
 | ((with_reducible apply awZ_q); (· rfl); (· exact np); (· rfl); (· exact sv))
 | ((first | ((with_reducible apply awO_guard); (· rfl); (· rfl); (· exact sv)) | ((with_reducible apply aw_cond); (· exact sv))); all_goals (intro hg; (try simp only [Bool.not_true, Bool.not_false]); (try simp only [decide_eq_true_eq, decide_eq_false_iff_not, Bool.not_true, Bool.not_false, Bool.not_eq_true', Bool.not_eq_false', Bool.not_not, beq_eq_false_iff_ne, ne_eq, beq_iff_eq, decide_eq_decide] at hg); try (exfalso; omega))))
    refine LE_mk (i + 1) (by omega) (by omega) sN sN ⟨rfl, rfl, trivial⟩
  · skip
    repeat' (first
 | ((with_reducible apply awO_ev); (· rfl); (· exact sv))
 | ((with_reducible apply aw_seq); intro _ _)
 | (with_reducible apply aw_region)
 | ((first | (with_reducible apply awO_nil) | (with_reducible apply aw_exit) | (with_reducible apply aw_skip) | (with_reducible apply aw_ret)); (try simp only [CT, ↓reduceIte, Nat.reduceEqDiff]))
 | ((with_reducible apply awO_y); (· rfl); (· rfl); (· decide); (· exact sv); (· exact sv))
 | ((with_reducible apply awO_un); (· rfl); (· decide); (· exact sv))
 | (refine Kont.go ‹Kont _ _ _ _› _ ?_)
 | ((with_reducible apply awO_c); (· rfl); (· rfl); (· exact sv); (· (first | exact c1 | exact c2)); (· rfl); (· rfl); (· rfl); (· decide))
 | ((first | ((with_reducible apply awO_guard); (· rfl); (· rfl); (· exact sv)) | ((with_reducible apply aw_cond); (· exact sv))); all_goals (intro hg; (try simp only [Bool.not_true, Bool.not_false]); (try simp only [decide_eq_true_eq, decide_eq_false_iff_not, Bool.not_true, Bool.not_false, Bool.not_eq_true', Bool.not_eq_false', Bool.not_not, beq_eq_false_iff_ne, ne_eq, beq_iff_eq, decide_eq_decide] at hg); try (exfalso; omega)))
 | ((with_reducible apply retQ_mk); (· (first | exact .inr rfl | exact .inl rfl)); (· exact sv); (· exact sv); rotate_left; (· rfl)))
    all_goals rfl
theorem new_ab : Ab Try.prog 14 [] (erA newR) := by
  have key : Ab Try.prog 14 [] (.ag [az [], ai 0, ai 0, .v (.slice none 0 0), .v (.slice none 0 0), .v (.slice none 0 0), az [], ai 0, ai 0, az []]) := by
    refine Fn_of_aw (keep := []) Try.func14 rfl rfl (by simp [Try.ntmps14]) ?_
    simp only [num_cons, num_nil, Try.ntmps14, Try.results14]
    repeat' (first
 | ((with_reducible apply awO_ev); (· rfl); (· exact sv))
 | ((with_reducible apply aw_seq); intro _ _)
 | (with_reducible apply aw_region)
 | ((first | (with_reducible apply awO_nil) | (with_reducible apply aw_exit) | (with_reducible apply aw_skip) | (with_reducible apply aw_ret)); (try simp only [CT, ↓reduceIte, Nat.reduceEqDiff]))
 | (refine Kont.go ‹Kont _ _ _ _› _ ?_)
 | ((with_reducible apply retQ_mk); (· (first | exact .inr rfl | exact .inl rfl)); (· exact sv); (· exact sv); rotate_left; (· rfl)))
    all_goals rfl
  exact Fn_nzr key
def totZ (L : List (List UInt8)) : Nat := (L.map List.length).sum
theorem totZ_append (a b : List (List UInt8)) : totZ (a ++ b) = totZ a + totZ b := by unfold totZ; rw [List.map_append, List.sum_append]
theorem totZ_take {L : List (List UInt8)} {i : Nat} (h : i < L.length) : totZ (L.take (i + 1)) = totZ (L.take i) + L[i].length := by
  rw [List.take_succ_eq_append_getElem h, totZ_append]; simp [totZ]
theorem totZ_le (L : List (List UInt8)) (i : Nat) : totZ (L.take i) ≤ totZ L := by
  have := totZ_append (L.take i) (L.drop i)
  rw [List.take_append_drop] at this
  omega
def linesB (L : List (List UInt8)) : Bool := decide (L.length ≤ 200 ∧ totZ L ≤ 20000)
theorem lines_ab (f : Int) (L : List (List UInt8)) (hL : L.length ≤ 9000000000000000) (hl : ∀ s ∈ L, s.length ≤ 9000000000000000) : Ab Try.prog 15 [hsA f L] (ab (linesB L)) := by
  simp only [hsA]
  by_cases h1 : 200 < L.length
  · rw [show linesB L = false by simp only [linesB, decide_eq_false_iff_not]; omega]
    refine Fn_of_aw (keep := []) Try.func15 rfl rfl (by simp [Try.ntmps15]) ?_
    simp only [num_cons, num_nil, Try.ntmps15, Try.results15]
    repeat' (first
 | ((with_reducible apply awO_ev); (· rfl); (· exact sv))
 | ((with_reducible apply aw_seq); intro _ _)
 | (with_reducible apply aw_region)
 | ((first | (with_reducible apply awO_nil) | (with_reducible apply aw_exit) | (with_reducible apply aw_skip) | (with_reducible apply aw_ret)); (try simp only [CT, ↓reduceIte, Nat.reduceEqDiff]))
 | (refine Kont.go ‹Kont _ _ _ _› _ ?_)
 | ((first | ((with_reducible apply awO_guard); (· rfl); (· rfl); (· exact sv)) | ((with_reducible apply aw_cond); (· exact sv))); all_goals (intro hg; (try simp only [Bool.not_true, Bool.not_false]); (try simp only [decide_eq_true_eq, decide_eq_false_iff_not, Bool.not_true, Bool.not_false, Bool.not_eq_true', Bool.not_eq_false', Bool.not_not, beq_eq_false_iff_ne, ne_eq, beq_iff_eq, decide_eq_decide] at hg); try (exfalso; omega)))
 | ((with_reducible apply retQ_mk); (· (first | exact .inr rfl | exact .inl rfl)); (· exact sv); (· exact sv); rotate_left; (· rfl)))
    all_goals rfl
  refine Fn_of_aw (keep := []) Try.func15 rfl rfl (by simp [Try.ntmps15]) ?_
  simp only [num_cons, num_nil, Try.ntmps15, Try.results15]
  repeat' (first
 | ((with_reducible apply awO_ev); (· rfl); (· exact sv))
 | ((with_reducible apply aw_seq); intro _ _)
 | (with_reducible apply aw_region)
 | (with_reducible apply aw_block)
 | ((first | (with_reducible apply awO_nil) | (with_reducible apply aw_exit) | (with_reducible apply aw_skip) | (with_reducible apply aw_ret)); (try simp only [CT, ↓reduceIte, Nat.reduceEqDiff]))
 | (refine Kont.go ‹Kont _ _ _ _› _ ?_)
 | ((first | ((with_reducible apply awO_guard); (· rfl); (· rfl); (· exact sv)) | ((with_reducible apply aw_cond); (· exact sv))); all_goals (intro hg; (try simp only [Bool.not_true, Bool.not_false]); (try simp only [decide_eq_true_eq, decide_eq_false_iff_not, Bool.not_true, Bool.not_false, Bool.not_eq_true', Bool.not_eq_false', Bool.not_not, beq_eq_false_iff_ne, ne_eq, beq_iff_eq, decide_eq_decide] at hg); try (exfalso; omega))))
  refine aw_loopF (fun i : Nat => [(4, ai i), (3, ai (totZ (L.take i)))]) (fun _ => [(1, [ai f, .rd L.length (L.map az)])]) (fun i => i ≤ L.length ∧ totZ (L.take i) ≤ 20000) (fun i => L.length - i) 0 ⟨by omega, by simp [totZ]⟩ ?_ ?_ ?_
  · exact ⟨rfl, rfl, trivial⟩
  · exact ⟨rfl, trivial⟩
  intro i ⟨hi, hI⟩
  (simp only [LP, List.append_assoc, List.nil_append, List.cons_append, List.append_nil, List.contains_cons, List.contains_nil, Nat.reduceBEq, Bool.or_false, Bool.or_true, Bool.true_or, Bool.false_or, ↓reduceIte, Bool.false_eq_true])
  by_cases hil : i < L.length
  · have o1 := hl _ (List.getElem_mem hil)
    have et := totZ_take hil
    by_cases k1 : totZ (L.take i) + L[i].length ≤ 20000
    · skip
      repeat' (first
 | ((with_reducible apply awO_ev); (· rfl); (· exact sv))
 | ((with_reducible apply aw_seq); intro _ _)
 | (with_reducible apply aw_region)
 | (with_reducible apply aw_block)
 | ((first | (with_reducible apply awO_nil) | (with_reducible apply aw_exit) | (with_reducible apply aw_skip) | (with_reducible apply aw_ret)); (try simp only [CT, ↓reduceIte, Nat.reduceEqDiff]))
 | (refine Kont.go ‹Kont _ _ _ _› _ ?_)
 | ((first | ((with_reducible apply awO_guard); (· rfl); (· rfl); (· exact sv)) | ((with_reducible apply aw_cond); (· exact sv))); all_goals (intro hg; (try simp only [Bool.not_true, Bool.not_false]); (try simp only [decide_eq_true_eq, decide_eq_false_iff_not, Bool.not_true, Bool.not_false, Bool.not_eq_true', Bool.not_eq_false', Bool.not_not, beq_eq_false_iff_ne, ne_eq, beq_iff_eq, decide_eq_decide] at hg); try (exfalso; omega))))
      refine LE_mk (i + 1) ⟨by omega, by omega⟩ (by omega) ?_ sN ⟨rfl, trivial⟩
      rw [et]
      exact ⟨rfl, rfl, trivial⟩
    · have hle := totZ_le L (i + 1)
      have hfin : linesB L = false := by simp only [linesB, decide_eq_false_iff_not]; omega
      repeat' (first
 | ((with_reducible apply awO_ev); (· rfl); (· exact sv))
 | ((with_reducible apply aw_seq); intro _ _)
 | (with_reducible apply aw_region)
 | (with_reducible apply aw_block)
 | ((first | (with_reducible apply awO_nil) | (with_reducible apply aw_exit) | (with_reducible apply aw_skip) | (with_reducible apply aw_ret)); (try simp only [CT, ↓reduceIte, Nat.reduceEqDiff]))
 | (refine Kont.go ‹Kont _ _ _ _› _ ?_)
 | ((first | ((with_reducible apply awO_guard); (· rfl); (· rfl); (· exact sv)) | ((with_reducible apply aw_cond); (· exact sv))); all_goals (intro hg; (try simp only [Bool.not_true, Bool.not_false]); (try simp only [decide_eq_true_eq, decide_eq_false_iff_not, Bool.not_true, Bool.not_false, Bool.not_eq_true', Bool.not_eq_false', Bool.not_not, beq_eq_false_iff_ne, ne_eq, beq_iff_eq, decide_eq_decide] at hg); try (exfalso; omega)))
 | ((with_reducible apply retQ_mk); (· (first | exact .inr rfl | exact .inl rfl)); (· exact sv); (· exact sv); rotate_left; (· rfl)))
      all_goals exact congrArg (fun b => ab b) hfin.symm
  · rw [List.take_of_length_le (by omega)] at hI
    have hfin : linesB L = true := by simp only [linesB, decide_eq_true_eq]; omega
    repeat' (first
 | ((with_reducible apply awO_ev); (· rfl); (· exact sv))
 | ((with_reducible apply aw_seq); intro _ _)
 | (with_reducible apply aw_region)
 | ((first | (with_reducible apply awO_nil) | (with_reducible apply aw_exit) | (with_reducible apply aw_skip) | (with_reducible apply aw_ret)); (try simp only [CT, ↓reduceIte, Nat.reduceEqDiff]))
 | (refine Kont.go ‹Kont _ _ _ _› _ ?_)
 | ((first | ((with_reducible apply awO_guard); (· rfl); (· rfl); (· exact sv)) | ((with_reducible apply aw_cond); (· exact sv))); all_goals (intro hg; (try simp only [Bool.not_true, Bool.not_false]); (try simp only [decide_eq_true_eq, decide_eq_false_iff_not, Bool.not_true, Bool.not_false, Bool.not_eq_true', Bool.not_eq_false', Bool.not_not, beq_eq_false_iff_ne, ne_eq, beq_iff_eq, decide_eq_decide] at hg); try (exfalso; omega)))
 | ((with_reducible apply retQ_mk); (· (first | exact .inr rfl | exact .inl rfl)); (· exact sv); (· exact sv); rotate_left; (· rfl)))
    all_goals exact congrArg (fun b => ab b) hfin.symm
end Go.Proofs.Ytapmolfpkhfpgaa
