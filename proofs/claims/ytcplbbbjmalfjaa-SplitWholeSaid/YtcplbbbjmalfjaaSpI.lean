/- The examples of the chapter on split (awake), on the abstract machine. -/
import Derived.Test.YtcplbbbjmalfjaaSpG
import Derived.Test.YtcplbbbjmalfjaaSpH
namespace Go.Proofs.Ytcplbbbjmalfjaa
open Go.RowKit
set_option linter.unusedVariables false
set_option linter.unusedSimpArgs false
set_option maxRecDepth 100000
set_option maxHeartbeats 8000000
theorem ex1 : fieldsOf [⟨[97, 32, 58, 32, 58, 32, 98], 2⟩] [32, 58] = [[⟨[97], 2⟩], [], [⟨[98], 2⟩]] := by
  simp [fieldsOf, elems, elemsOf, divd, whB, sepB, wtB, delB, skW, fld, runsOf, cat]
theorem ex2 : fieldsOf [⟨[], 1⟩] [32] = [[⟨[], 1⟩]] := by
  simp [fieldsOf, elems, elemsOf, divd, whB, sepB, wtB, delB, skW, fld, runsOf, cat]
theorem ex3 : readOf [⟨[32, 97, 32, 98, 32, 32, 99, 32], 2⟩] [32] 2 = [[97], [98, 32, 32, 99]] := by
  simp [readOf, readN, noBr, preE, postE, restE, lastOf, trimN, elems, elemsOf, divd, whB, sepB, wtB, delB, skW, fld, runsOf, cat]
theorem awake_ab : Ab Try.prog 10 [] (ab true) := by
  have c1 := expanded_ab [97, 32, 58, 32, 58, 32, 98]
  have c2 := fields_ab [⟨[97, 32, 58, 32, 58, 32, 98], 2⟩] [32, 58] (by decide) (by decide)
  have c3 := fields_ab [⟨[], 1⟩] [32] (by decide) (by decide)
  have c4 := expanded_ab [32, 97, 32, 98, 32, 32, 99, 32]
  have c5 := read_ab [⟨[32, 97, 32, 98, 32, 32, 99, 32], 2⟩] [32] 2 (by decide) (by decide) (by decide) (by decide)
  have c6 := text_ab [⟨[97], 2⟩] (by decide) (by decide)
  have c7 := text_ab [⟨[98], 2⟩] (by decide) (by decide)
  have c8 := pjoin_ab [[97], [98]] [58] (by decide) (by decide)
  rw [ex1] at c2
  rw [ex2] at c3
  rw [ex3] at c5
  rw [show cat [⟨[97], 2⟩] = [97] from rfl] at c6
  rw [show cat [⟨[98], 2⟩] = [98] from rfl] at c7
  rw [show Lib.join [[97], [98]] ([58].take 1) = [97, 58, 98] from rfl] at c8
  refine Fn_of_aw (keep := []) Try.func10 rfl rfl (by simp [Try.ntmps10]) ?_
  simp only [num_cons, num_nil, Try.ntmps10, Try.results10]
  repeat' (first
 | ((with_reducible apply awO_ev); (· rfl); (· exact sv))
 | ((with_reducible apply awO_eqnil); (· rfl); (· rfl); (· exact sv); (· exact sv); (· exact svp); (· rfl); (· exact nd); intro nb hnb; simp only [put_some])
 | ((with_reducible apply awO_neqnil); (· rfl); (· rfl); (· exact sv); (· exact sv); (· exact svp); (· rfl); (· exact nd); intro nb hnb; simp only [put_some])
 | ((with_reducible apply aw_seq); intro _ _)
 | ((with_reducible apply aw_region))
 | ((with_reducible apply aw_block))
 | ((with_reducible apply awO_nil); (try simp only [CT, ↓reduceIte, Nat.reduceEqDiff]))
 | ((with_reducible apply aw_exit); (try simp only [CT, ↓reduceIte, Nat.reduceEqDiff]))
 | ((with_reducible apply aw_skip); (try simp only [CT, ↓reduceIte, Nat.reduceEqDiff]))
 | ((with_reducible apply aw_ret); (try simp only [CT, ↓reduceIte, Nat.reduceEqDiff]))
 | ((with_reducible apply awO_y); (· rfl); (· rfl); (· decide); (· exact sv); (· exact sv))
 | ((with_reducible apply awO_n); (· rfl); (· rfl); (· decide); (· exact sv); (· rfl); (· rfl); (· decide))
 | ((with_reducible apply awO_u); (· rfl); (· rfl); (· exact svr); (· rfl); (· decide))
 | ((with_reducible apply aw_cond_true); (· exact sv))
 | ((with_reducible apply aw_cond_false); (· exact sv))
 | (refine Kont.go ‹Kont _ _ _ _› _ ?_)
 | ((with_reducible apply awO_un); (· rfl); (· decide); (· exact sv))
 | ((with_reducible apply awO_c); (· rfl); (· rfl); (· exact sv); (· (first | exact c1 | exact c2 | exact c3 | exact c4 | exact c5 | exact c6 | exact c7 | exact c8)); (· rfl); (· rfl); (· rfl); (· decide))
 | ((with_reducible apply awO_f); (· rfl); (· rfl); (· exact sv); (· exact sv); (· (first | exact c1 | exact c2 | exact c3 | exact c4 | exact c5 | exact c6 | exact c7 | exact c8)); (· rfl); (· rfl); (· decide))
 | ((with_reducible apply awO_m); (· rfl); (· rfl); (· exact sv); (· (first | exact c1 | exact c2 | exact c3 | exact c4 | exact c5 | exact c6 | exact c7 | exact c8)); (· exact svq); (· exact svq); (· exact svq); (· exact svq); (· rfl); (· exact nd); (with_reducible apply awO_st); (· exact svs))
 | ((with_reducible apply awO_pc1); (· rfl); (· exact sv); (· exact sv); (· (first | decide | omega | (simp only [elC_len, List.length_append, List.length_map, List.length_cons, List.length_nil]; omega) | (simp; done) | (simp; omega))); (· (first | rfl | exact svq)); (with_reducible apply awO_st); (· exact svs))
 | ((with_reducible apply awO_pc2); (· rfl); (· exact sv); (· exact sv); (· (first | decide | omega | (simp only [elC_len, List.length_append, List.length_map, List.length_cons, List.length_nil]; omega) | (simp; done) | (simp; omega))); (· (first | rfl | exact svq)); (with_reducible apply awO_st); (· exact svs))
 | ((with_reducible apply awO_guard); (· rfl); (· rfl); (· exact sv); all_goals (intro hg; (try simp only [Bool.not_true, Bool.not_false]); (try simp only [decide_eq_true_eq, decide_eq_false_iff_not, Bool.not_true, Bool.not_false, Bool.not_eq_true', Bool.not_eq_false', Bool.not_not, beq_eq_false_iff_ne, ne_eq, beq_iff_eq, decide_eq_decide] at hg); try (exfalso; omega)))
 | ((with_reducible apply aw_cond); (· exact sv); all_goals (intro hg; (try simp only [decide_eq_true_eq, decide_eq_false_iff_not, Bool.not_true, Bool.not_false, Bool.not_eq_true', Bool.not_eq_false', Bool.not_not, beq_eq_false_iff_ne, ne_eq, beq_iff_eq, decide_eq_decide] at hg); try (exfalso; omega)))
 | ((with_reducible apply retQ_mk); (· (first | exact .inr rfl | exact .inl rfl)); (· exact sv); (· exact sv); rotate_left; (· rfl))
 | ((with_reducible apply wk_id); (with_reducible apply retQ_mk); (· (first | exact .inr rfl | exact .inl rfl)); (· exact sv); (· exact sv); rotate_left; (· rfl))
 | ((try with_reducible apply wk_id); (with_reducible apply retQ_mk1); (· (first | exact .inr rfl | exact .inl rfl)); (· exact sv); (· exact sv); (· exact sv); (· exact sv); rotate_left; rotate_left; (· simp); (· rfl))
 | ((try with_reducible apply wk_id); (with_reducible apply retQ_mk2); (· (first | exact .inr rfl | exact .inl rfl)); (· exact sv); (· exact sv); (· exact sv); (· exact sv); (· exact sv); (· exact sv); rotate_left; rotate_left; rotate_left; (· simp); (· simp); (· rfl)))
  all_goals rfl
end Go.Proofs.Ytcplbbbjmalfjaa
