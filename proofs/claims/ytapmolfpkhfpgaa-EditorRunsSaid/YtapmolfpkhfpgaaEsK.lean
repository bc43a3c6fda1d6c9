/- The editor: few, on the abstract machine. -/
import Derived.Test.YtapmolfpkhfpgaaEsJ
namespace Go.Proofs.Ytapmolfpkhfpgaa
open Go.RowKit
set_option linter.unusedVariables false
set_option linter.unusedSimpArgs false
set_option maxRecDepth 100000
set_option maxHeartbeats 8000000
def totS (U : List Sn) : Nat := (U.map fun s => s.t.length).sum
theorem totS_append (a b : List Sn) : totS (a ++ b) = totS a + totS b := by unfold totS; rw [List.map_append, List.sum_append]
theorem totS_take {U : List Sn} {i : Nat} (h : i < U.length) : totS (U.take (i + 1)) = totS (U.take i) + U[i].t.length := by
  rw [List.take_succ_eq_append_getElem h, totS_append]; simp [totS]
theorem sum_le (l : List Nat) (B : Nat) (h : ∀ x ∈ l, x ≤ B) : l.sum ≤ l.length * B := by
  induction l with
  | nil => simp
  | cons x r ih =>
    have h1 := h x (List.mem_cons_self ..)
    have h2 := ih fun y hy => h y (List.mem_cons_of_mem _ hy)
    rw [List.sum_cons, List.length_cons, Nat.succ_mul]
    omega
theorem totZ_bd {K : List (List UInt8)} (h : ∀ s ∈ K, s.length ≤ 140737488355328) (hl : K.length ≤ 70) (i : Nat) : totZ (K.take i) ≤ 9851624184872960 := by
  have := sum_le ((K.take i).map List.length) 140737488355328 (fun x hx => by
    obtain ⟨s, hs, rfl⟩ := List.mem_map.1 hx
    exact h s (List.mem_of_mem_take hs))
  rw [List.length_map, List.length_take] at this
  unfold totZ
  have h2 : min i K.length ≤ 70 := by omega
  have h3 := Nat.mul_le_mul_right 140737488355328 h2
  omega
theorem totS_bd {U : List Sn} (h : ∀ s ∈ U, s.t.length ≤ 140737488355328) (hl : U.length ≤ 70) (i : Nat) : totS (U.take i) ≤ 9851624184872960 := by
  have := sum_le ((U.take i).map fun s => s.t.length) 140737488355328 (fun x hx => by
    obtain ⟨s, hs, rfl⟩ := List.mem_map.1 hx
    exact h s (List.mem_of_mem_take hs))
  rw [List.length_map, List.length_take] at this
  unfold totS
  have h2 : min i U.length ≤ 70 := by omega
  have h3 := Nat.mul_le_mul_right 140737488355328 h2
  omega
def fewR (e : Er) : Bool := decide (e.kills.length ≤ 70 ∧ e.undo.length ≤ 70 ∧ e.redo.length ≤ 70 ∧ (e.now.t.length : Int) + e.saved.length + e.keys.length + totZ e.kills + totS e.undo + totS e.redo ≤ 30000)
/-- What is handed in. -/
structure BigR (e : Er) : Prop where
  t : e.now.t.length ≤ 140737488355328
  sd : e.saved.length ≤ 140737488355328
  ks : e.keys.length ≤ 140737488355328
  kl : ∀ s ∈ e.kills, s.length ≤ 140737488355328
  un : ∀ s ∈ e.undo, s.t.length ≤ 140737488355328
  rn : ∀ s ∈ e.redo, s.t.length ≤ 140737488355328
  nk : e.kills.length ≤ 9000000000000000
  nu : e.undo.length ≤ 9000000000000000
  nr : e.redo.length ≤ 9000000000000000
theorem few_ab (e : Er) (h : BigR e) : Ab Try.prog 9 [erA e] (ab (fewR e)) := by
  obtain ⟨b1, b2, b3, hbK, hbU, hbR, n1, n2, n3⟩ := h
  obtain ⟨⟨t, z⟩, m, K, U, R, ks, la, li, sd⟩ := e
  simp only at b1 b2 b3 hbK hbU hbR n1 n2 n3
  by_cases hc : 70 < K.length ∨ 70 < U.length ∨ 70 < R.length
  · have hfin : fewR ⟨⟨t, z⟩, m, K, U, R, ks, la, li, sd⟩ = false := by simp only [fewR, decide_eq_false_iff_not]; omega
    simp only [erA, erC]
    refine Fn_of_aw (keep := []) Try.func9 rfl rfl (by simp [Try.ntmps9]) ?_
    simp only [num_cons, num_nil, Try.ntmps9, Try.results9]
    repeat' (first
 | ((with_reducible apply awO_ev); (· rfl); (· exact sv))
 | ((with_reducible apply aw_seq); intro _ _)
 | (with_reducible apply aw_region)
 | ((first | (with_reducible apply awO_nil) | (with_reducible apply aw_exit) | (with_reducible apply aw_skip) | (with_reducible apply aw_ret)); (try simp only [CT, ↓reduceIte, Nat.reduceEqDiff]))
 | ((with_reducible apply awO_y); (· rfl); (· rfl); (· decide); (· exact sv); (· exact sv))
 | ((with_reducible apply awO_n); (· rfl); (· rfl); (· decide); (· exact sv); (· rfl); (· rfl); (· decide))
 | ((with_reducible apply aw_cond_true); (· exact sv))
 | (refine Kont.go ‹Kont _ _ _ _› _ ?_)
 | ((first | ((with_reducible apply awO_guard); (· rfl); (· rfl); (· exact sv)) | ((with_reducible apply aw_cond); (· exact sv))); all_goals (intro hg; (try simp only [Bool.not_true, Bool.not_false]); (try simp only [decide_eq_true_eq, decide_eq_false_iff_not, Bool.not_true, Bool.not_false, Bool.not_eq_true', Bool.not_eq_false', Bool.not_not, beq_eq_false_iff_ne, ne_eq, beq_iff_eq, decide_eq_decide] at hg); try (exfalso; omega)))
 | ((with_reducible apply retQ_mk); (· (first | exact .inr rfl | exact .inl rfl)); (· exact sv); (· exact sv); rotate_left; (· rfl)))
    all_goals (first | exact congrArg (fun b => ab b) hfin.symm | (exfalso; omega))
  have hlK : K.length ≤ 70 := by omega
  have hlU : U.length ≤ 70 := by omega
  have hlR : R.length ≤ 70 := by omega
  simp only [erA, erC]
  refine Fn_of_aw (keep := []) Try.func9 rfl rfl (by simp [Try.ntmps9]) ?_
  simp only [num_cons, num_nil, Try.ntmps9, Try.results9]
  repeat' (first
 | ((with_reducible apply awO_ev); (· rfl); (· exact sv))
 | ((with_reducible apply aw_seq); intro _ _)
 | (with_reducible apply aw_region)
 | (with_reducible apply aw_block)
 | ((first | (with_reducible apply awO_nil) | (with_reducible apply aw_exit) | (with_reducible apply aw_skip) | (with_reducible apply aw_ret)); (try simp only [CT, ↓reduceIte, Nat.reduceEqDiff]))
 | ((with_reducible apply awO_y); (· rfl); (· rfl); (· decide); (· exact sv); (· exact sv))
 | (refine Kont.go ‹Kont _ _ _ _› _ ?_)
 | ((first | ((with_reducible apply awO_guard); (· rfl); (· rfl); (· exact sv)) | ((with_reducible apply aw_cond); (· exact sv))); all_goals (intro hg; (try simp only [Bool.not_true, Bool.not_false]); (try simp only [decide_eq_true_eq, decide_eq_false_iff_not, Bool.not_true, Bool.not_false, Bool.not_eq_true', Bool.not_eq_false', Bool.not_not, beq_eq_false_iff_ne, ne_eq, beq_iff_eq, decide_eq_decide] at hg); try (exfalso; omega))))
  refine aw_loopF (fun i : Nat => [(4, ai i), (3, ai (((t.length : Int) + sd.length + ks.length) + totZ (K.take i)))]) (fun _ => [(1, [az t, ai z, ai m, .rd K.length (K.map az), .rd U.length (snC U), .rd R.length (snC R), az ks, ai la, ai li, az sd])]) (fun i => i ≤ K.length) (fun i => K.length - i) 0 (by omega) ?_ ?_ ?_
  · exact ⟨rfl, congrArg some (ai_eq (by simp [totZ])), trivial⟩
  · exact ⟨rfl, trivial⟩
  intro i1 hi1
  (simp only [LP, List.append_assoc, List.nil_append, List.cons_append, List.append_nil, List.contains_cons, List.contains_nil, Nat.reduceBEq, Bool.or_false, Bool.or_true, Bool.true_or, Bool.false_or, ↓reduceIte, Bool.false_eq_true])
  by_cases hil1 : i1 < K.length
  · have et := totZ_take hil1
    have hb := totZ_bd hbK hlK i1
    have hx := hbK _ (List.getElem_mem hil1)
    repeat' (first
 | ((with_reducible apply awO_ev); (· rfl); (· exact sv))
 | ((with_reducible apply aw_seq); intro _ _)
 | (with_reducible apply aw_region)
 | (with_reducible apply aw_block)
 | ((first | (with_reducible apply awO_nil) | (with_reducible apply aw_exit) | (with_reducible apply aw_skip) | (with_reducible apply aw_ret)); (try simp only [CT, ↓reduceIte, Nat.reduceEqDiff]))
 | (refine Kont.go ‹Kont _ _ _ _› _ ?_)
 | ((first | ((with_reducible apply awO_guard); (· rfl); (· rfl); (· exact sv)) | ((with_reducible apply aw_cond); (· exact sv))); all_goals (intro hg; (try simp only [Bool.not_true, Bool.not_false]); (try simp only [decide_eq_true_eq, decide_eq_false_iff_not, Bool.not_true, Bool.not_false, Bool.not_eq_true', Bool.not_eq_false', Bool.not_not, beq_eq_false_iff_ne, ne_eq, beq_iff_eq, decide_eq_decide] at hg); try (exfalso; omega))))
    refine LE_mk (i1 + 1) (by omega) (by omega) ?_ sN ⟨rfl, trivial⟩
    exact ⟨rfl, congrArg some (ai_eq (by rw [et]; omega)), trivial⟩
  · have hb1 := totZ_bd hbK hlK K.length
    rw [List.take_of_length_le (by omega : K.length ≤ i1)]
    rw [List.take_length] at hb1
    repeat' (first
 | ((with_reducible apply awO_ev); (· rfl); (· exact sv))
 | ((with_reducible apply aw_seq); intro _ _)
 | (with_reducible apply aw_region)
 | (with_reducible apply aw_block)
 | ((first | (with_reducible apply awO_nil) | (with_reducible apply aw_exit) | (with_reducible apply aw_skip) | (with_reducible apply aw_ret)); (try simp only [CT, ↓reduceIte, Nat.reduceEqDiff]))
 | (refine Kont.go ‹Kont _ _ _ _› _ ?_)
 | ((first | ((with_reducible apply awO_guard); (· rfl); (· rfl); (· exact sv)) | ((with_reducible apply aw_cond); (· exact sv))); all_goals (intro hg; (try simp only [Bool.not_true, Bool.not_false]); (try simp only [decide_eq_true_eq, decide_eq_false_iff_not, Bool.not_true, Bool.not_false, Bool.not_eq_true', Bool.not_eq_false', Bool.not_not, beq_eq_false_iff_ne, ne_eq, beq_iff_eq, decide_eq_decide] at hg); try (exfalso; omega))))
    refine aw_loopF (fun i : Nat => [(5, ai i), (3, ai ((((t.length : Int) + sd.length + ks.length) + totZ K) + totS (U.take i)))]) (fun _ => [(1, [az t, ai z, ai m, .rd K.length (K.map az), .rd U.length (snC U), .rd R.length (snC R), az ks, ai la, ai li, az sd])]) (fun i => i ≤ U.length) (fun i => U.length - i) 0 (by omega) ?_ ?_ ?_
    · exact ⟨rfl, congrArg some (ai_eq (by simp [totS])), trivial⟩
    · exact ⟨rfl, trivial⟩
    intro i2 hi2
    (simp only [LP, List.append_assoc, List.nil_append, List.cons_append, List.append_nil, List.contains_cons, List.contains_nil, Nat.reduceBEq, Bool.or_false, Bool.or_true, Bool.true_or, Bool.false_or, ↓reduceIte, Bool.false_eq_true])
    by_cases hil2 : i2 < U.length
    · have et := totS_take hil2
      have hb := totS_bd hbU hlU i2
      have hx := hbU _ (List.getElem_mem hil2)
      repeat' (first
 | ((with_reducible apply awO_ev); (· rfl); (· exact sv))
 | ((with_reducible apply aw_seq); intro _ _)
 | (with_reducible apply aw_region)
 | (with_reducible apply aw_block)
 | ((first | (with_reducible apply awO_nil) | (with_reducible apply aw_exit) | (with_reducible apply aw_skip) | (with_reducible apply aw_ret)); (try simp only [CT, ↓reduceIte, Nat.reduceEqDiff]))
 | (refine Kont.go ‹Kont _ _ _ _› _ ?_)
 | ((first | ((with_reducible apply awO_guard); (· rfl); (· rfl); (· exact sv)) | ((with_reducible apply aw_cond); (· exact sv))); all_goals (intro hg; (try simp only [Bool.not_true, Bool.not_false]); (try simp only [decide_eq_true_eq, decide_eq_false_iff_not, Bool.not_true, Bool.not_false, Bool.not_eq_true', Bool.not_eq_false', Bool.not_not, beq_eq_false_iff_ne, ne_eq, beq_iff_eq, decide_eq_decide] at hg); try (exfalso; omega))))
      refine LE_mk (i2 + 1) (by omega) (by omega) ?_ sN ⟨rfl, trivial⟩
      exact ⟨rfl, congrArg some (ai_eq (by rw [et]; omega)), trivial⟩
    · have hb2 := totS_bd hbU hlU U.length
      rw [List.take_of_length_le (by omega : U.length ≤ i2)]
      rw [List.take_length] at hb2
      repeat' (first
 | ((with_reducible apply awO_ev); (· rfl); (· exact sv))
 | ((with_reducible apply aw_seq); intro _ _)
 | (with_reducible apply aw_region)
 | (with_reducible apply aw_block)
 | ((first | (with_reducible apply awO_nil) | (with_reducible apply aw_exit) | (with_reducible apply aw_skip) | (with_reducible apply aw_ret)); (try simp only [CT, ↓reduceIte, Nat.reduceEqDiff]))
 | (refine Kont.go ‹Kont _ _ _ _› _ ?_)
 | ((first | ((with_reducible apply awO_guard); (· rfl); (· rfl); (· exact sv)) | ((with_reducible apply aw_cond); (· exact sv))); all_goals (intro hg; (try simp only [Bool.not_true, Bool.not_false]); (try simp only [decide_eq_true_eq, decide_eq_false_iff_not, Bool.not_true, Bool.not_false, Bool.not_eq_true', Bool.not_eq_false', Bool.not_not, beq_eq_false_iff_ne, ne_eq, beq_iff_eq, decide_eq_decide] at hg); try (exfalso; omega))))
      refine aw_loopF (fun i : Nat => [(6, ai i), (3, ai (((((t.length : Int) + sd.length + ks.length) + totZ K) + totS U) + totS (R.take i)))]) (fun _ => [(1, [az t, ai z, ai m, .rd K.length (K.map az), .rd U.length (snC U), .rd R.length (snC R), az ks, ai la, ai li, az sd])]) (fun i => i ≤ R.length) (fun i => R.length - i) 0 (by omega) ?_ ?_ ?_
      · exact ⟨rfl, congrArg some (ai_eq (by simp [totS])), trivial⟩
      · exact ⟨rfl, trivial⟩
      intro i3 hi3
      (simp only [LP, List.append_assoc, List.nil_append, List.cons_append, List.append_nil, List.contains_cons, List.contains_nil, Nat.reduceBEq, Bool.or_false, Bool.or_true, Bool.true_or, Bool.false_or, ↓reduceIte, Bool.false_eq_true])
      by_cases hil3 : i3 < R.length
      · have et := totS_take hil3
        have hb := totS_bd hbR hlR i3
        have hx := hbR _ (List.getElem_mem hil3)
        repeat' (first
 | ((with_reducible apply awO_ev); (· rfl); (· exact sv))
 | ((with_reducible apply aw_seq); intro _ _)
 | (with_reducible apply aw_region)
 | (with_reducible apply aw_block)
 | ((first | (with_reducible apply awO_nil) | (with_reducible apply aw_exit) | (with_reducible apply aw_skip) | (with_reducible apply aw_ret)); (try simp only [CT, ↓reduceIte, Nat.reduceEqDiff]))
 | (refine Kont.go ‹Kont _ _ _ _› _ ?_)
 | ((first | ((with_reducible apply awO_guard); (· rfl); (· rfl); (· exact sv)) | ((with_reducible apply aw_cond); (· exact sv))); all_goals (intro hg; (try simp only [Bool.not_true, Bool.not_false]); (try simp only [decide_eq_true_eq, decide_eq_false_iff_not, Bool.not_true, Bool.not_false, Bool.not_eq_true', Bool.not_eq_false', Bool.not_not, beq_eq_false_iff_ne, ne_eq, beq_iff_eq, decide_eq_decide] at hg); try (exfalso; omega))))
        refine LE_mk (i3 + 1) (by omega) (by omega) ?_ sN ⟨rfl, trivial⟩
        exact ⟨rfl, congrArg some (ai_eq (by rw [et]; omega)), trivial⟩
      · have hb3 := totS_bd hbR hlR R.length
        rw [List.take_of_length_le (by omega : R.length ≤ i3)]
        rw [List.take_length] at hb3
        repeat' (first
 | ((with_reducible apply awO_ev); (· rfl); (· exact sv))
 | ((with_reducible apply aw_seq); intro _ _)
 | (with_reducible apply aw_region)
 | ((first | (with_reducible apply awO_nil) | (with_reducible apply aw_exit) | (with_reducible apply aw_skip) | (with_reducible apply aw_ret)); (try simp only [CT, ↓reduceIte, Nat.reduceEqDiff]))
 | (refine Kont.go ‹Kont _ _ _ _› _ ?_)
 | ((first | ((with_reducible apply awO_guard); (· rfl); (· rfl); (· exact sv)) | ((with_reducible apply aw_cond); (· exact sv))); all_goals (intro hg; (try simp only [Bool.not_true, Bool.not_false]); (try simp only [decide_eq_true_eq, decide_eq_false_iff_not, Bool.not_true, Bool.not_false, Bool.not_eq_true', Bool.not_eq_false', Bool.not_not, beq_eq_false_iff_ne, ne_eq, beq_iff_eq, decide_eq_decide] at hg); try (exfalso; omega)))
 | ((with_reducible apply retQ_mk); (· (first | exact .inr rfl | exact .inl rfl)); (· exact sv); (· exact sv); rotate_left; (· rfl)))
        all_goals (refine ab_eq ?_; simp only [fewR, decide_eq_true_eq]; omega)
end Go.Proofs.Ytapmolfpkhfpgaa
