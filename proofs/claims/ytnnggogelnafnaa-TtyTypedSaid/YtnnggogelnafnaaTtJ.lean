/- The laws of the layer tty that compare with the reference, on the abstract machine. -/
import Derived.Test.YtnnggogelnafnaaTtI
namespace Go.Proofs.Ytnnggogelnafnaa
open Go.RowKit
set_option linter.unusedVariables false
set_option linter.unusedSimpArgs false
set_option maxRecDepth 100000
set_option maxHeartbeats 4000000
theorem mem_sumLen {L : List (List UInt8)} {x : List UInt8} (h : x ∈ L) : x.length ≤ sumLen L := by
  induction L with
  | nil => cases h
  | cons y L ih =>
    have e : sumLen (y :: L) = y.length + sumLen L := rfl
    rcases List.mem_cons.1 h with rfl | h
    · omega
    · have := ih h; omega
theorem small_bd {t : Tty} (h : smallB t = true) : t.lines.length ≤ 520 ∧ t.edit.length ≤ 80000 ∧ t.out.length ≤ 80000 ∧ ∀ x ∈ t.lines, x.length ≤ 80000 := by
  unfold smallB at h
  simp only [Bool.and_eq_true, decide_eq_true_eq] at h
  refine ⟨by omega, by omega, by omega, fun x hx => ?_⟩
  have := mem_sumLen hx
  omega
theorem tErr_out {t : Tty} (h : tErr t = 0) : t.out.length ≤ 65536 := by
  unfold tErr at h
  (repeat' split at h) <;> first | omega | (exfalso; omega) | (exfalso; revert h; decide)
theorem same_self (a : Tty) (ha : a.lines.length ≤ 1000000) : Ab Try.prog 14 [dT a, dT a] (ab true) := by
  have := same_ab a a ha ha
  rwa [show sameT a a = true from by simp [sameT]] at this
theorem numbers_self (a : List Int) (ha : a.length ≤ 1000000) : Ab Try.prog 19 [.rd a.length (a.map ai), .rd a.length (a.map ai)] (ab true) := by
  have := numbers_ab a a ha ha
  rwa [show decide (a = a) = true from by simp] at this
theorem readF_lines (t : Tty) (m : Int) (h : t.lines.length ≤ 1000000) : (readF t m).1.lines.length ≤ 1000000 := by
  obtain ⟨sid, fg, ed, L, out, ts⟩ := t
  unfold readF
  split
  · exact h
  · cases L with
    | nil => exact h
    | cons x L => simp only at h ⊢; (repeat' split) <;> simp_all <;> omega
theorem feedF_lines (s : List UInt8) : ∀ (t : Tty), t.lines.length ≤ 1000000 → (feedF t s).1.lines.length ≤ 1000000 := by
  induction s with
  | nil => exact fun t h => h
  | cons b s ih => exact fun t h => ih _ (keyF_lines t b h)
theorem feedF_edit (s : List UInt8) : ∀ (t : Tty), t.edit.length ≤ 140737488355328 → (feedF t s).1.edit.length ≤ 140737488355328 := by
  induction s with
  | nil => exact fun t h => h
  | cons b s ih => exact fun t h => ih _ (keyF_edit t b h)
theorem feedF_sigs (s : List UInt8) : ∀ (t : Tty), (feedF t s).2.length ≤ s.length := by
  induction s with
  | nil => exact fun t => Nat.le_refl _
  | cons b s ih =>
    intro t
    have := ih (keyF t b).1
    simp only [feedF, List.length_append, List.length_cons]
    split <;> simp <;> omega
/-- What is known of a terminal that was handed in. -/
def TBd (t : Tty) : Prop := t.edit.length ≤ 140737488351232 ∧ t.out.length ≤ 140737488351232 ∧ (∀ x ∈ t.lines, x.length ≤ 140737488351232) ∧ t.lines.length ≤ 140737488351232
theorem TBd.w {t : Tty} (h : TBd t) : t.edit.length ≤ 140737488355328 ∧ t.out.length ≤ 140737488355328 ∧ (∀ x ∈ t.lines, x.length ≤ 140737488355328) ∧ t.lines.length ≤ 9223372036854775807 := by
  obtain ⟨h1, h2, h3, h4⟩ := h
  exact ⟨by omega, by omega, fun x hx => by have := h3 x hx; omega, by omega⟩
theorem ttyValid_ab (t : Tty) (h : TBd t) : Ab Try.prog 7 [dT t] (ab true) := by
  obtain ⟨h1, h2, h3, h4⟩ := h.w
  have c1 := small_ab t h1 h2 h3 h4
  have c2 := valid_ab t h1 h2 h3 h4
  have c3 := rvalid_ab t h1 h2 h3 h4
  clear h h1 h2 h3 h4
  refine Fn_of_aw (keep := []) Try.func7 rfl rfl (by simp [Try.ntmps7]) ?_
  simp only [num_cons, num_nil, Try.ntmps7, Try.results7]
  repeat' (first
      | ((with_reducible apply awO_ev); (· rfl); (· exact sv))
      | ((with_reducible apply awO_eqnil); (· rfl); (· rfl); (· exact sv); (· exact sv); (· exact svp); (· rfl); (· (first | decide | (simp only []; omega) | omega)); intro nb hnb; simp only [put_some])
      | ((with_reducible apply awO_neqnil); (· rfl); (· rfl); (· exact sv); (· exact sv); (· exact svp); (· rfl); (· (first | decide | (simp only []; omega) | omega)); intro nb hnb; simp only [put_some])
      | ((with_reducible apply aw_seq); intro _ _)
      | ((with_reducible apply aw_region))
      | ((with_reducible apply aw_block))
      | ((with_reducible apply awO_nil); (try simp only [CT, ↓reduceIte, Nat.reduceEqDiff]))
      | ((with_reducible apply aw_exit); (try simp only [CT, ↓reduceIte, Nat.reduceEqDiff]))
      | ((with_reducible apply aw_skip); (try simp only [CT, ↓reduceIte, Nat.reduceEqDiff]))
      | ((with_reducible apply aw_ret); (try simp only [CT, ↓reduceIte, Nat.reduceEqDiff]))
      | ((with_reducible apply awO_y); (· rfl); (· rfl); (· decide); (· exact sv); (· exact sv))
      | ((with_reducible apply awO_n); (· rfl); (· rfl); (· decide); (· exact sv); (· rfl); (· rfl); (· decide))
      | ((with_reducible apply awO_u); (· rfl); (· rfl); (· exact svr); (· rfl); (· decide))
      | ((with_reducible apply aw_cond_true); (· exact sv))
      | ((with_reducible apply aw_cond_false); (· exact sv))
      | (refine Kont.go ‹Kont _ _ _ _› _ ?_)
      | ((with_reducible apply awO_un); (· rfl); (· decide); (· exact sv))
      | ((with_reducible apply awO_c); (· rfl); (· rfl); (· exact sv); (· (first | with_reducible exact c1 | with_reducible exact c2 | with_reducible exact c3 | with_reducible exact awake_ab)); (· rfl); (· rfl); (· rfl); (· decide))
      | ((with_reducible apply awO_f); (· rfl); (· rfl); (· exact sv); (· exact sv); (· (first | with_reducible exact c1 | with_reducible exact c2 | with_reducible exact c3 | with_reducible exact awake_ab)); (· rfl); (· rfl); (· decide))
      | ((with_reducible apply awO_m); (· rfl); (· rfl); (· exact sv); (· (first | with_reducible exact c1 | with_reducible exact c2 | with_reducible exact c3 | with_reducible exact awake_ab)); (· exact svq); (· exact svq); (· exact svq); (· exact svq); (· rfl); (· (first | decide | (simp only []; omega) | omega)); (with_reducible apply awO_st); (· exact svs))
      | ((with_reducible apply aw_draw); (· decide +kernel); (simp only [List.size_toArray, List.length_cons, List.length_nil, Nat.reduceAdd]))
      | ((with_reducible apply awY_done); (· decide +kernel); (try simp only [CT, ↓reduceIte, Nat.reduceEqDiff]))
      | ((with_reducible apply awY_q); (· exact sQ); (· repeat (first | (with_reducible exact NP_ret) | (with_reducible apply NP_then) | (with_reducible apply NP_blk) | (with_reducible apply NP_wk) | (with_reducible apply NP_end))); (· exact svg); (· rfl); (· exact sv))
      | ((with_reducible apply awY_qy); (· exact sQ); (· repeat (first | (with_reducible exact NP_ret) | (with_reducible apply NP_then) | (with_reducible apply NP_blk) | (with_reducible apply NP_wk) | (with_reducible apply NP_end))); (· exact svg); (· rfl); (· rfl); (· (first | decide | (simp only []; omega) | omega)); (· exact sv); (· exact sv))
      | ((with_reducible apply awY_qn); (· exact sQ); (· repeat (first | (with_reducible exact NP_ret) | (with_reducible apply NP_then) | (with_reducible apply NP_blk) | (with_reducible apply NP_wk) | (with_reducible apply NP_end))); (· exact svg); (· rfl); (· rfl); (· (first | decide | (simp only []; omega) | omega)); (· exact sv); (· rfl); (· rfl); (· (first | decide | (simp only []; omega) | omega)); simp only [put_some])
      | ((with_reducible apply awY_qu); (· exact sQ); (· repeat (first | (with_reducible exact NP_ret) | (with_reducible apply NP_then) | (with_reducible apply NP_blk) | (with_reducible apply NP_wk) | (with_reducible apply NP_end))); (· exact svg); (· rfl); (· rfl); (· exact svr); (· rfl); (· (first | decide | (simp only []; omega) | omega)); simp only [put_some])
      | ((with_reducible apply awY_tn); (· exact sT); (· repeat (first | (with_reducible exact NP_ret) | (with_reducible apply NP_then) | (with_reducible apply NP_blk) | (with_reducible apply NP_wk) | (with_reducible apply NP_end))); (· exact svg); (· rfl); (· rfl); (· (first | decide | (simp only []; omega) | omega)); (· exact sv); (· rfl); (· rfl); (· (first | decide | (simp only []; omega) | omega)); simp only [put_some])
      | ((with_reducible apply awY_tu); (· exact sT); (· repeat (first | (with_reducible exact NP_ret) | (with_reducible apply NP_then) | (with_reducible apply NP_blk) | (with_reducible apply NP_wk) | (with_reducible apply NP_end))); (· exact svg); (· rfl); (· rfl); (· exact svr); (· rfl); (· (first | decide | (simp only []; omega) | omega)); simp only [put_some])
      | ((with_reducible apply endQ_rfl))
      | ((with_reducible apply endQ_sub); (· exact sE); (· exact sN))
      | ((with_reducible apply awI_ev); (· exact svg); (· rfl); (· exact sv))
      | ((with_reducible apply awI_c); (· exact svg); (· rfl); (· rfl); (· exact sv); (· (first | with_reducible exact c1 | with_reducible exact c2 | with_reducible exact c3 | with_reducible exact awake_ab)); (· rfl); (· rfl); (· rfl); (· (first | decide | (simp only []; omega) | omega)); simp only [put_some])
      | ((with_reducible apply awI_f); (· exact svg); (· rfl); (· rfl); (· exact sv); (· exact sv); (· (first | with_reducible exact c1 | with_reducible exact c2 | with_reducible exact c3 | with_reducible exact awake_ab)); (· rfl); (· rfl); (· (first | decide | (simp only []; omega) | omega)); simp only [put_some])
      | ((with_reducible apply awI_cy); (· exact svg); (· rfl); (· rfl); (· (first | decide | (simp only []; omega) | omega)); (· exact sv); (· rfl); (· exact sv); (· (first | with_reducible exact c1 | with_reducible exact c2 | with_reducible exact c3 | with_reducible exact awake_ab)); (· rfl); (· rfl); (· rfl); (· (first | decide | (simp only []; omega) | omega)); simp only [put_some])
      | ((with_reducible apply awI_fy); (· exact svg); (· rfl); (· rfl); (· (first | decide | (simp only []; omega) | omega)); (· exact sv); (· rfl); (· exact sv); (· exact sv); (· (first | with_reducible exact c1 | with_reducible exact c2 | with_reducible exact c3 | with_reducible exact awake_ab)); (· rfl); (· rfl); (· (first | decide | (simp only []; omega) | omega)); simp only [put_some])
      | ((with_reducible apply awO_guard); (· rfl); (· rfl); (· exact sv); all_goals (intro hg; (try simp only [Bool.not_true, Bool.not_false]); (try simp only [decide_eq_true_eq, decide_eq_false_iff_not, Bool.not_true, Bool.not_false, Bool.not_eq_true', Bool.not_eq_false', Bool.not_not] at hg); try (exfalso; omega)))
      | ((with_reducible apply aw_cond); (· exact sv); all_goals (intro hg; (try simp only [decide_eq_true_eq, decide_eq_false_iff_not, Bool.not_true, Bool.not_false, Bool.not_eq_true', Bool.not_eq_false', Bool.not_not] at hg); try (exfalso; omega)))
      | ((with_reducible apply awY_guard); (· exact sR); (· exact svg); (· rfl); (· rfl); (· exact svl); all_goals (intro hg; (try simp only [Bool.not_true, Bool.not_false]); (try simp only [decide_eq_true_eq, decide_eq_false_iff_not, Bool.not_true, Bool.not_false, Bool.not_eq_true', Bool.not_eq_false', Bool.not_not] at hg); try (exfalso; omega)))
      | ((with_reducible apply retQ_mk); (· (first | exact .inr rfl | exact .inl rfl)); (· exact sv); (· exact sv); rotate_left; (· rfl))
      | ((with_reducible apply wk_id); (with_reducible apply retQ_mk); (· (first | exact .inr rfl | exact .inl rfl)); (· exact sv); (· exact sv); rotate_left; (· rfl))
      | ((try with_reducible apply wk_id); (with_reducible apply retQ_mk1); (· (first | exact .inr rfl | exact .inl rfl)); (· exact sv); (· exact sv); (· exact sv); (· exact sv); rotate_left; rotate_left; (· simp); (· rfl))
      | ((try with_reducible apply wk_id); (with_reducible apply retQ_mk2); (· (first | exact .inr rfl | exact .inl rfl)); (· exact sv); (· exact sv); (· exact sv); (· exact sv); (· exact sv); (· exact sv); rotate_left; rotate_left; rotate_left; (· simp); (· simp); (· rfl))
      | ((with_reducible apply awY_p); (· exact sH); (first | ((with_reducible apply awP_1); (· decide +kernel)) | ((with_reducible apply awP_2); (· exact sP)))))
  all_goals rfl
end Go.Proofs.Ytnnggogelnafnaa
