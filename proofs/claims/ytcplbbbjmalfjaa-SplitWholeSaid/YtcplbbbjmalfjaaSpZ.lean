/- split: Fields of runs that the caller goes on to own, on the abstract machine. -/
import Derived.Test.YtcplbbbjmalfjaaSpY
import Derived.Test.YtcplbbbjmalfjaaMachW
namespace Go.Proofs.Ytcplbbbjmalfjaa
open Go.RowKit
set_option linter.unusedVariables false
set_option linter.unusedSimpArgs false
set_option maxRecDepth 100000
set_option maxHeartbeats 8000000
theorem fieldsO (L : List El) (ifs : List UInt8) (hL : L.length ≤ 10000) (hc : (cat L).length ≤ 10000) : Fn Try.prog 12 [.os 200 0 2 L.length, az ifs] [(200, elC L)] (flsA (fieldsOf L ifs)) [(200, elC L)] [200] := by
  have hel := elems_len L
  have hec := cat_elems L
  have c1 := elementsO L hL hc
  have c2 := divide_ab (elems L) ifs (elems_ok L) (by omega)
  obtain ⟨b1, b2⟩ := divd_bd ifs _ (elems L) [] (Nat.le_refl _)
  unfold fieldsOf
  generalize divd ifs (elems L) [] = F at *
  have c3 : ∀ i (h : i < F.length), Ab Try.prog 28 [elsA F[i]] (elsA (runsOf F[i])) := fun i h => by
    have := b2 F[i] (List.getElem_mem h)
    simp only [cat, List.length_nil] at this
    exact runs_ab F[i] (by omega) (by omega)
  refine Fn_of_aw (keep := [200]) Try.func12 rfl rfl (by simp [Try.ntmps12]) ?_
  simp only [num_cons, num_nil, Try.ntmps12, Try.results12]
  repeat' (first
 | ((with_reducible apply awO_ev); (· rfl); (· exact sv))
 | ((with_reducible apply awO_eqnil); (· rfl); (· rfl); (· exact sv); (· exact sv); (· exact svp); (· rfl); (· exact nd); intro nb hnb; simp only [put_some])
 | ((with_reducible apply awO_neqnil); (· rfl); (· rfl); (· exact sv); (· exact sv); (· exact svp); (· rfl); (· exact nd); intro nb hnb; simp only [put_some])
 | ((with_reducible apply aw_seq); intro _ _)
 | ((with_reducible apply aw_region))
 | ((with_reducible apply aw_block))
 | ((with_reducible apply awO_nil); (try simp only [CT, ↓reduceIte, Nat.reduceEqDiff]))
 | ((with_reducible apply aw_exit); (try simp only [CT, ↓reduceIte, Nat.reduceEqDiff]))
 | ((with_reducible apply aw_skip); (try simp only [CT, ↓reduceIte, Nat.reduceEqDiff]))
 | ((with_reducible apply aw_ret); (try simp only [CT, ↓reduceIte, Nat.reduceEqDiff]))
 | ((with_reducible apply awO_y); (· rfl); (· rfl); (· decide); (· exact sv); (· exact sv))
 | ((with_reducible apply awO_n); (· rfl); (· rfl); (· decide); (· exact sv); (· rfl); (· rfl); (· decide))
 | ((with_reducible apply awO_u); (· rfl); (· rfl); (· exact svr); (· rfl); (· decide))
 | ((with_reducible apply aw_cond_true); (· exact sv))
 | ((with_reducible apply aw_cond_false); (· exact sv))
 | (refine Kont.go ‹Kont _ _ _ _› _ ?_)
 | ((with_reducible apply awO_un); (· rfl); (· decide); (· exact sv))
 | ((with_reducible apply awO_c); (· rfl); (· rfl); (· exact sv); (· (first | exact c1 | exact c2)); (· rfl); (· rfl); (· rfl); (· decide))
 | ((with_reducible apply awO_f); (· rfl); (· rfl); (· exact sv); (· exact sv); (· (first | exact c1 | exact c2)); (· rfl); (· rfl); (· decide))
 | ((with_reducible apply awO_m); (· rfl); (· rfl); (· exact sv); (· (first | exact c1 | exact c2)); (· exact svq); (· exact svq); (· exact svq); (· exact svq); (· rfl); (· exact nd); (with_reducible apply awO_st); (· exact svs))
 | ((with_reducible apply awO_guard); (· rfl); (· rfl); (· exact sv); all_goals (intro hg; (try simp only [Bool.not_true, Bool.not_false]); (try simp only [decide_eq_true_eq, decide_eq_false_iff_not, Bool.not_true, Bool.not_false, Bool.not_eq_true', Bool.not_eq_false', Bool.not_not, beq_eq_false_iff_ne, ne_eq, beq_iff_eq, decide_eq_decide] at hg); try (exfalso; omega)))
 | ((with_reducible apply aw_cond); (· exact sv); all_goals (intro hg; (try simp only [decide_eq_true_eq, decide_eq_false_iff_not, Bool.not_true, Bool.not_false, Bool.not_eq_true', Bool.not_eq_false', Bool.not_not, beq_eq_false_iff_ne, ne_eq, beq_iff_eq, decide_eq_decide] at hg); try (exfalso; omega)))
 | ((with_reducible apply retQ_mk); (· (first | exact .inr rfl | exact .inl rfl)); (· exact sv); (· exact sv); rotate_left; (· rfl))
 | ((with_reducible apply wk_id); (with_reducible apply retQ_mk); (· (first | exact .inr rfl | exact .inl rfl)); (· exact sv); (· exact sv); rotate_left; (· rfl))
 | ((try with_reducible apply wk_id); (with_reducible apply retQ_mk1); (· (first | exact .inr rfl | exact .inl rfl)); (· exact sv); (· exact sv); (· exact sv); (· exact sv); rotate_left; rotate_left; (· simp); (· rfl))
 | ((try with_reducible apply wk_id); (with_reducible apply retQ_mk2); (· (first | exact .inr rfl | exact .inl rfl)); (· exact sv); (· exact sv); (· exact sv); (· exact sv); (· exact sv); (· exact sv); rotate_left; rotate_left; rotate_left; (· simp); (· simp); (· rfl)))
  refine aw_virt 5 100 1 rfl (by omega) (by simp) ?_
  refine aw_st svs ?_
  refine aw_loopF (fun i : Nat => [(13, ai i), (5, .os 100 0 1 i)]) (fun i => [(100, flsC ((F.take i).map runsOf)), (200, elC L)]) (fun i => i ≤ F.length) (fun i => F.length - i) 0 (by omega) ?_ ?_ ?_
  · exact ⟨rfl, rfl, trivial⟩
  · exact ⟨rfl, rfl, trivial⟩
  intro i hi
  (simp only [LP, List.append_assoc, List.nil_append, List.cons_append, List.append_nil, List.contains_cons, List.contains_nil, Nat.reduceBEq, Bool.or_false, Bool.or_true, Bool.true_or, Bool.false_or, ↓reduceIte, Bool.false_eq_true])
  by_cases hil : i < F.length
  · have c4 := c3 i hil
    have e1 := map_take_succ hil
    repeat' (first
 | ((with_reducible apply awO_ev); (· rfl); (· exact sv))
 | ((with_reducible apply awO_eqnil); (· rfl); (· rfl); (· exact sv); (· exact sv); (· exact svp); (· rfl); (· exact nd); intro nb hnb; simp only [put_some])
 | ((with_reducible apply awO_neqnil); (· rfl); (· rfl); (· exact sv); (· exact sv); (· exact svp); (· rfl); (· exact nd); intro nb hnb; simp only [put_some])
 | ((with_reducible apply aw_seq); intro _ _)
 | ((with_reducible apply aw_region))
 | ((with_reducible apply aw_block))
 | ((with_reducible apply awO_nil); (try simp only [CT, ↓reduceIte, Nat.reduceEqDiff]))
 | ((with_reducible apply aw_exit); (try simp only [CT, ↓reduceIte, Nat.reduceEqDiff]))
 | ((with_reducible apply aw_skip); (try simp only [CT, ↓reduceIte, Nat.reduceEqDiff]))
 | ((with_reducible apply aw_ret); (try simp only [CT, ↓reduceIte, Nat.reduceEqDiff]))
 | ((with_reducible apply awO_y); (· rfl); (· rfl); (· decide); (· exact sv); (· exact sv))
 | ((with_reducible apply awO_n); (· rfl); (· rfl); (· decide); (· exact sv); (· rfl); (· rfl); (· decide))
 | ((with_reducible apply awO_u); (· rfl); (· rfl); (· exact svr); (· rfl); (· decide))
 | ((with_reducible apply aw_cond_true); (· exact sv))
 | ((with_reducible apply aw_cond_false); (· exact sv))
 | (refine Kont.go ‹Kont _ _ _ _› _ ?_)
 | ((with_reducible apply awO_un); (· rfl); (· decide); (· exact sv))
 | ((with_reducible apply awO_c); (· rfl); (· rfl); (· exact sv); (· (first | exact c4)); (· rfl); (· rfl); (· rfl); (· decide))
 | ((with_reducible apply awO_f); (· rfl); (· rfl); (· exact sv); (· exact sv); (· (first | exact c4)); (· rfl); (· rfl); (· decide))
 | ((with_reducible apply awO_m); (· rfl); (· rfl); (· exact sv); (· (first | exact c4)); (· exact svq); (· exact svq); (· exact svq); (· exact svq); (· rfl); (· exact nd); (with_reducible apply awO_st); (· exact svs))
 | ((with_reducible apply awO_guard); (· rfl); (· rfl); (· exact sv); all_goals (intro hg; (try simp only [Bool.not_true, Bool.not_false]); (try simp only [decide_eq_true_eq, decide_eq_false_iff_not, Bool.not_true, Bool.not_false, Bool.not_eq_true', Bool.not_eq_false', Bool.not_not, beq_eq_false_iff_ne, ne_eq, beq_iff_eq, decide_eq_decide] at hg); try (exfalso; omega)))
 | ((with_reducible apply aw_cond); (· exact sv); all_goals (intro hg; (try simp only [decide_eq_true_eq, decide_eq_false_iff_not, Bool.not_true, Bool.not_false, Bool.not_eq_true', Bool.not_eq_false', Bool.not_not, beq_eq_false_iff_ne, ne_eq, beq_iff_eq, decide_eq_decide] at hg); try (exfalso; omega)))
 | ((with_reducible apply retQ_mk); (· (first | exact .inr rfl | exact .inl rfl)); (· exact sv); (· exact sv); rotate_left; (· rfl))
 | ((with_reducible apply wk_id); (with_reducible apply retQ_mk); (· (first | exact .inr rfl | exact .inl rfl)); (· exact sv); (· exact sv); rotate_left; (· rfl))
 | ((try with_reducible apply wk_id); (with_reducible apply retQ_mk1); (· (first | exact .inr rfl | exact .inl rfl)); (· exact sv); (· exact sv); (· exact sv); (· exact sv); rotate_left; rotate_left; (· simp); (· rfl))
 | ((try with_reducible apply wk_id); (with_reducible apply retQ_mk2); (· (first | exact .inr rfl | exact .inl rfl)); (· exact sv); (· exact sv); (· exact sv); (· exact sv); (· exact sv); (· exact sv); rotate_left; rotate_left; rotate_left; (· simp); (· simp); (· rfl)))
    refine LE_mk (i + 1) ?_ ?_ ?_ sN ?_
    · omega
    · omega
    · exact ⟨rfl, rfl, trivial⟩
    · refine ⟨?_, rfl, trivial⟩
      show some _ = some _
      rw [e1]; simp [flsC]
  · have e1 : F.take i = F := List.take_of_length_le (by omega)
    have e2 : i = F.length := by omega
    rw [e1]
    repeat' (first
 | ((with_reducible apply awO_ev); (· rfl); (· exact sv))
 | ((with_reducible apply awO_eqnil); (· rfl); (· rfl); (· exact sv); (· exact sv); (· exact svp); (· rfl); (· exact nd); intro nb hnb; simp only [put_some])
 | ((with_reducible apply awO_neqnil); (· rfl); (· rfl); (· exact sv); (· exact sv); (· exact svp); (· rfl); (· exact nd); intro nb hnb; simp only [put_some])
 | ((with_reducible apply aw_seq); intro _ _)
 | ((with_reducible apply aw_region))
 | ((with_reducible apply aw_block))
 | ((with_reducible apply awO_nil); (try simp only [CT, ↓reduceIte, Nat.reduceEqDiff]))
 | ((with_reducible apply aw_exit); (try simp only [CT, ↓reduceIte, Nat.reduceEqDiff]))
 | ((with_reducible apply aw_skip); (try simp only [CT, ↓reduceIte, Nat.reduceEqDiff]))
 | ((with_reducible apply aw_ret); (try simp only [CT, ↓reduceIte, Nat.reduceEqDiff]))
 | ((with_reducible apply awO_y); (· rfl); (· rfl); (· decide); (· exact sv); (· exact sv))
 | ((with_reducible apply awO_n); (· rfl); (· rfl); (· decide); (· exact sv); (· rfl); (· rfl); (· decide))
 | ((with_reducible apply awO_u); (· rfl); (· rfl); (· exact svr); (· rfl); (· decide))
 | ((with_reducible apply aw_cond_true); (· exact sv))
 | ((with_reducible apply aw_cond_false); (· exact sv))
 | (refine Kont.go ‹Kont _ _ _ _› _ ?_)
 | ((with_reducible apply awO_un); (· rfl); (· decide); (· exact sv))
 | ((with_reducible apply awO_c); (· rfl); (· rfl); (· exact sv); (· (first | fail)); (· rfl); (· rfl); (· rfl); (· decide))
 | ((with_reducible apply awO_f); (· rfl); (· rfl); (· exact sv); (· exact sv); (· (first | fail)); (· rfl); (· rfl); (· decide))
 | ((with_reducible apply awO_m); (· rfl); (· rfl); (· exact sv); (· (first | fail)); (· exact svq); (· exact svq); (· exact svq); (· exact svq); (· rfl); (· exact nd); (with_reducible apply awO_st); (· exact svs))
 | ((with_reducible apply awO_guard); (· rfl); (· rfl); (· exact sv); all_goals (intro hg; (try simp only [Bool.not_true, Bool.not_false]); (try simp only [decide_eq_true_eq, decide_eq_false_iff_not, Bool.not_true, Bool.not_false, Bool.not_eq_true', Bool.not_eq_false', Bool.not_not, beq_eq_false_iff_ne, ne_eq, beq_iff_eq, decide_eq_decide] at hg); try (exfalso; omega)))
 | ((with_reducible apply aw_cond); (· exact sv); all_goals (intro hg; (try simp only [decide_eq_true_eq, decide_eq_false_iff_not, Bool.not_true, Bool.not_false, Bool.not_eq_true', Bool.not_eq_false', Bool.not_not, beq_eq_false_iff_ne, ne_eq, beq_iff_eq, decide_eq_decide] at hg); try (exfalso; omega)))
 | ((with_reducible apply retQ_mk); (· (first | exact .inr rfl | exact .inl rfl)); (· exact sv); (· exact sv); rotate_left; (· rfl))
 | ((with_reducible apply wk_id); (with_reducible apply retQ_mk); (· (first | exact .inr rfl | exact .inl rfl)); (· exact sv); (· exact sv); rotate_left; (· rfl))
 | ((try with_reducible apply wk_id); (with_reducible apply retQ_mk1); (· (first | exact .inr rfl | exact .inl rfl)); (· exact sv); (· exact sv); (· exact sv); (· exact sv); rotate_left; rotate_left; (· simp); (· rfl))
 | ((try with_reducible apply wk_id); (with_reducible apply retQ_mk2); (· (first | exact .inr rfl | exact .inl rfl)); (· exact sv); (· exact sv); (· exact sv); (· exact sv); (· exact sv); (· exact sv); rotate_left; rotate_left; rotate_left; (· simp); (· simp); (· rfl)))
    · rw [e2]; simp [flsA]
    · rfl
end Go.Proofs.Ytcplbbbjmalfjaa
