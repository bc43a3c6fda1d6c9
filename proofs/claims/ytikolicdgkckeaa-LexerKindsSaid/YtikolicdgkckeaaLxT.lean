/- The reference's Pass and what it calls, on the abstract machine: one length from the shorter ones. -/
import Derived.Test.YtikolicdgkckeaaLxR
namespace Go.Proofs.Ytikolicdgkckeaa
open Go.RowKit
set_option linter.unusedVariables false
set_option linter.unusedSimpArgs false
set_option maxRecDepth 100000
set_option maxHeartbeats 8000000
/-- The contract of Pass for what is left of at most n bytes. -/
def PASH (n : Nat) : Prop := ∀ (s : List UInt8) (i : Nat) (z y : Int) (pl : Nat), s.length ≤ 1000000 → z = i → y = pl → pl ≤ 2 → i < s.length → s.length - i ≤ n → Ab Try.prog 37 [az s, ai z, ai y] (tpr i (pas (s.drop i) pl))
section
variable {n : Nat} (H : PASH n)
include H in
theorem rdouble_ab (s : List UInt8) (a : Nat) (z : Int) (hs : s.length ≤ 1000000) (hz : z = a) (ha : a < s.length) (hn : s.length - a ≤ n + 1) : Ab Try.prog 60 [az s, ai z] (tpr a (dbl (s.drop (a + 1)) 1)) := by
  subst hz
  refine Fn_of_aw (keep := []) Try.func60 rfl rfl (by simp [Try.ntmps60]) ?_
  simp only [num_cons, num_nil, Try.ntmps60, Try.results60]
  repeat' (first
      | ((with_reducible apply awO_ev); (· rfl); (· exact sv))
      | ((with_reducible apply awO_eqnil); (· rfl); (· rfl); (· exact sv); (· exact sv); (· exact svp); (· rfl); (· (first | decide | (simp only []; omega) | omega)); intro nb hnb; simp only [put_some])
      | ((with_reducible apply awO_neqnil); (· rfl); (· rfl); (· exact sv); (· exact sv); (· exact svp); (· rfl); (· (first | decide | (simp only []; omega) | omega)); intro nb hnb; simp only [put_some])
      | ((with_reducible apply aw_seq); intro _ _)
      | ((with_reducible apply aw_region))
      | ((with_reducible apply aw_block))
      | ((with_reducible apply awO_nil); (try simp only [CT, ↓reduceIte, Nat.reduceEqDiff]))
      | ((with_reducible apply aw_exit); (try simp only [CT, ↓reduceIte, Nat.reduceEqDiff]))
      | ((with_reducible apply aw_skip); (try simp only [CT, ↓reduceIte, Nat.reduceEqDiff]))
      | ((with_reducible apply aw_ret); (try simp only [CT, ↓reduceIte, Nat.reduceEqDiff]))
      | ((with_reducible apply awO_y); (· rfl); (· rfl); (· decide); (· exact sv); (· exact sv))
      | ((with_reducible apply awO_n); (· rfl); (· rfl); (· decide); (· exact sv); (· rfl); (· rfl); (· decide))
      | ((with_reducible apply awO_u); (· rfl); (· rfl); (· exact svr); (· rfl); (· decide))
      | ((with_reducible apply aw_cond_true); (· exact sv))
      | ((with_reducible apply aw_cond_false); (· exact sv))
      | (refine Kont.go ‹Kont _ _ _ _› _ ?_)
      | ((with_reducible apply awO_guard); (· rfl); (· rfl); (· exact sv); all_goals (intro hg; (try simp only [Bool.not_true, Bool.not_false]); (try simp only [decide_eq_true_eq, decide_eq_false_iff_not, Bool.not_true, Bool.not_false, Bool.not_eq_true', Bool.not_eq_false', Bool.not_not] at hg); try (exfalso; omega)))
      | ((with_reducible apply aw_cond); (· exact sv); all_goals (intro hg; (try simp only [decide_eq_true_eq, decide_eq_false_iff_not, Bool.not_true, Bool.not_false, Bool.not_eq_true', Bool.not_eq_false', Bool.not_not] at hg); try (exfalso; omega)))
      | ((with_reducible apply retQ_mk); (· (first | exact .inr rfl | exact .inl rfl)); (· exact sv); (· exact sv); rotate_left; (· rfl))
      | ((with_reducible apply wk_id); (with_reducible apply retQ_mk); (· (first | exact .inr rfl | exact .inl rfl)); (· exact sv); (· exact sv); rotate_left; (· rfl))
      | ((try with_reducible apply wk_id); (with_reducible apply retQ_mk1); (· (first | exact .inr rfl | exact .inl rfl)); (· exact sv); (· exact sv); (· exact sv); (· exact sv); rotate_left; rotate_left; (· simp); (· rfl))
      | ((try with_reducible apply wk_id); (with_reducible apply retQ_mk2); (· (first | exact .inr rfl | exact .inl rfl)); (· exact sv); (· exact sv); (· exact sv); (· exact sv); (· exact sv); (· exact sv); rotate_left; rotate_left; rotate_left; (· simp); (· simp); (· rfl)))
  refine aw_loopF (fun i : Nat => [(6, ai i)]) (fun _ => []) (fun i => a + 1 ≤ i ∧ i ≤ s.length ∧ dbl (s.drop (a + 1)) 1 = dbl (s.drop i) (i - a)) (fun i => s.length - i) (a + 1) ⟨by omega, by omega, by congr 1; omega⟩ ?_ ?_ ?_
  · (simp only [LP, look_cons, look_nil, and_true, true_and, ↓reduceIte, Nat.reduceEqDiff, Option.some.injEq, AV.v.injEq, Value.int.injEq, Int.natCast_add, Int.cast_ofNat_Int])
  · (simp only [LP, look_cons, look_nil, and_true, true_and, ↓reduceIte, Nat.reduceEqDiff, Option.some.injEq, AV.v.injEq, Value.int.injEq, Int.natCast_add, Int.cast_ofNat_Int])
  intro i ⟨hi0, hi, hI⟩
  (simp only [LP, List.append_assoc, List.nil_append, List.cons_append, List.append_nil, List.contains_cons, List.contains_nil, Nat.reduceBEq, Bool.or_false, Bool.or_true, Bool.true_or, Bool.false_or, ↓reduceIte, Bool.false_eq_true])
  by_cases hil : i < s.length
  · have c1 := H s i i 1 1 hs rfl rfl (by omega) hil (by omega)
    have hok := pas_ok (l := s.drop i) 1 (by rw [List.length_drop]; omega)
    rw [dropc hil] at hI c1 hok
    obtain ⟨k1, k2, k3, k4⟩ := hok
    simp only [List.length_cons, List.length_drop] at k1
    generalize hp : pas (s[i] :: s.drop (i + 1)) 1 = p at *
    obtain ⟨pe, pr⟩ := p
    simp only at k1 k2 k3 k4
    repeat' (first
        | ((with_reducible apply awO_ev); (· rfl); (· exact sv))
        | ((with_reducible apply awO_eqnil); (· rfl); (· rfl); (· exact sv); (· exact sv); (· exact svp); (· rfl); (· (first | decide | (simp only []; omega) | omega)); intro nb hnb; simp only [put_some])
        | ((with_reducible apply awO_neqnil); (· rfl); (· rfl); (· exact sv); (· exact sv); (· exact svp); (· rfl); (· (first | decide | (simp only []; omega) | omega)); intro nb hnb; simp only [put_some])
        | ((with_reducible apply aw_seq); intro _ _)
        | ((with_reducible apply aw_region))
        | ((with_reducible apply aw_block))
        | ((with_reducible apply awO_nil); (try simp only [CT, ↓reduceIte, Nat.reduceEqDiff]))
        | ((with_reducible apply aw_exit); (try simp only [CT, ↓reduceIte, Nat.reduceEqDiff]))
        | ((with_reducible apply aw_skip); (try simp only [CT, ↓reduceIte, Nat.reduceEqDiff]))
        | ((with_reducible apply aw_ret); (try simp only [CT, ↓reduceIte, Nat.reduceEqDiff]))
        | ((with_reducible apply awO_y); (· rfl); (· rfl); (· decide); (· exact sv); (· exact sv))
        | ((with_reducible apply awO_n); (· rfl); (· rfl); (· decide); (· exact sv); (· rfl); (· rfl); (· decide))
        | ((with_reducible apply awO_u); (· rfl); (· rfl); (· exact svr); (· rfl); (· decide))
        | ((with_reducible apply aw_cond_true); (· exact sv))
        | ((with_reducible apply aw_cond_false); (· exact sv))
        | (refine Kont.go ‹Kont _ _ _ _› _ ?_)
        | ((with_reducible apply awO_un); (· rfl); (· decide); (· exact sv))
        | ((with_reducible apply awO_c); (· rfl); (· rfl); (· exact sv); (· (first | with_reducible exact c1)); (· rfl); (· rfl); (· rfl); (· decide))
        | ((with_reducible apply awO_f); (· rfl); (· rfl); (· exact sv); (· exact sv); (· (first | with_reducible exact c1)); (· rfl); (· rfl); (· decide))
        | ((with_reducible apply awO_m); (· rfl); (· rfl); (· exact sv); (· (first | with_reducible exact c1)); (· exact svq); (· exact svq); (· exact svq); (· exact svq); (· rfl); (· (first | decide | (simp only []; omega) | omega)); (with_reducible apply awO_st); (· exact svs))
        | ((with_reducible apply awO_guard); (· rfl); (· rfl); (· exact sv); all_goals (intro hg; (try simp only [Bool.not_true, Bool.not_false]); (try simp only [decide_eq_true_eq, decide_eq_false_iff_not, Bool.not_true, Bool.not_false, Bool.not_eq_true', Bool.not_eq_false', Bool.not_not] at hg); try (exfalso; omega)))
        | ((with_reducible apply aw_cond); (· exact sv); all_goals (intro hg; (try simp only [decide_eq_true_eq, decide_eq_false_iff_not, Bool.not_true, Bool.not_false, Bool.not_eq_true', Bool.not_eq_false', Bool.not_not] at hg); try (exfalso; omega)))
        | ((with_reducible apply retQ_mk); (· (first | exact .inr rfl | exact .inl rfl)); (· exact sv); (· exact sv); rotate_left; (· rfl))
        | ((with_reducible apply wk_id); (with_reducible apply retQ_mk); (· (first | exact .inr rfl | exact .inl rfl)); (· exact sv); (· exact sv); rotate_left; (· rfl))
        | ((try with_reducible apply wk_id); (with_reducible apply retQ_mk1); (· (first | exact .inr rfl | exact .inl rfl)); (· exact sv); (· exact sv); (· exact sv); (· exact sv); rotate_left; rotate_left; (· simp); (· rfl))
        | ((try with_reducible apply wk_id); (with_reducible apply retQ_mk2); (· (first | exact .inr rfl | exact .inl rfl)); (· exact sv); (· exact sv); (· exact sv); (· exact sv); (· exact sv); (· exact sv); rotate_left; rotate_left; rotate_left; (· simp); (· simp); (· rfl)))
    · exact tp_mk (b := i - a + 1) (by rw [hI, dbl_end (by omega)]) (by omega)
    · refine tp_mk (b := i - a + pe) ?_ (by omega); rw [hI, dbl_err (by omega) (by rw [hp]; exact hg), hp]
    · refine LE_mk (i + pe) ?_ ?_ sN sN sN
      · have := k2 hg
        refine ⟨by omega, by omega, ?_⟩
        rw [hI, dbl, if_neg (by omega), hp]
        simp only
        rw [if_neg (by simpa using hg), if_neg (by omega), drop_pas hil (by omega)]; congr 1; omega
      · have := k2 hg; omega
  · rw [List.drop_eq_nil_of_le (by omega : s.length ≤ i)] at hI
    repeat' (first
        | ((with_reducible apply awO_ev); (· rfl); (· exact sv))
        | ((with_reducible apply awO_eqnil); (· rfl); (· rfl); (· exact sv); (· exact sv); (· exact svp); (· rfl); (· (first | decide | (simp only []; omega) | omega)); intro nb hnb; simp only [put_some])
        | ((with_reducible apply awO_neqnil); (· rfl); (· rfl); (· exact sv); (· exact sv); (· exact svp); (· rfl); (· (first | decide | (simp only []; omega) | omega)); intro nb hnb; simp only [put_some])
        | ((with_reducible apply aw_seq); intro _ _)
        | ((with_reducible apply aw_region))
        | ((with_reducible apply aw_block))
        | ((with_reducible apply awO_nil); (try simp only [CT, ↓reduceIte, Nat.reduceEqDiff]))
        | ((with_reducible apply aw_exit); (try simp only [CT, ↓reduceIte, Nat.reduceEqDiff]))
        | ((with_reducible apply aw_skip); (try simp only [CT, ↓reduceIte, Nat.reduceEqDiff]))
        | ((with_reducible apply aw_ret); (try simp only [CT, ↓reduceIte, Nat.reduceEqDiff]))
        | ((with_reducible apply awO_y); (· rfl); (· rfl); (· decide); (· exact sv); (· exact sv))
        | ((with_reducible apply awO_n); (· rfl); (· rfl); (· decide); (· exact sv); (· rfl); (· rfl); (· decide))
        | ((with_reducible apply awO_u); (· rfl); (· rfl); (· exact svr); (· rfl); (· decide))
        | ((with_reducible apply aw_cond_true); (· exact sv))
        | ((with_reducible apply aw_cond_false); (· exact sv))
        | (refine Kont.go ‹Kont _ _ _ _› _ ?_)
        | ((with_reducible apply awO_guard); (· rfl); (· rfl); (· exact sv); all_goals (intro hg; (try simp only [Bool.not_true, Bool.not_false]); (try simp only [decide_eq_true_eq, decide_eq_false_iff_not, Bool.not_true, Bool.not_false, Bool.not_eq_true', Bool.not_eq_false', Bool.not_not] at hg); try (exfalso; omega)))
        | ((with_reducible apply aw_cond); (· exact sv); all_goals (intro hg; (try simp only [decide_eq_true_eq, decide_eq_false_iff_not, Bool.not_true, Bool.not_false, Bool.not_eq_true', Bool.not_eq_false', Bool.not_not] at hg); try (exfalso; omega)))
        | ((with_reducible apply retQ_mk); (· (first | exact .inr rfl | exact .inl rfl)); (· exact sv); (· exact sv); rotate_left; (· rfl))
        | ((with_reducible apply wk_id); (with_reducible apply retQ_mk); (· (first | exact .inr rfl | exact .inl rfl)); (· exact sv); (· exact sv); rotate_left; (· rfl))
        | ((try with_reducible apply wk_id); (with_reducible apply retQ_mk1); (· (first | exact .inr rfl | exact .inl rfl)); (· exact sv); (· exact sv); (· exact sv); (· exact sv); rotate_left; rotate_left; (· simp); (· rfl))
        | ((try with_reducible apply wk_id); (with_reducible apply retQ_mk2); (· (first | exact .inr rfl | exact .inl rfl)); (· exact sv); (· exact sv); (· exact sv); (· exact sv); (· exact sv); (· exact sv); rotate_left; rotate_left; rotate_left; (· simp); (· simp); (· rfl)))
    refine tp_mk (b := 0) ?_ (by omega); rw [hI]; simp [dbl]
include H in
theorem rbraced_ab (s : List UInt8) (a : Nat) (z y : Int) (pl : Nat) (hs : s.length ≤ 1000000) (hz : z = a) (hy : y = pl) (hpl : pl ≤ 2) (ha : a + 2 ≤ s.length) (hn : s.length - a ≤ n + 1) : Ab Try.prog 68 [az s, ai z, ai y] (tpr a (brc (s.drop (a + 2)) 2 pl)) := by
  subst hz; subst hy
  refine Fn_of_aw (keep := []) Try.func68 rfl rfl (by simp [Try.ntmps68]) ?_
  simp only [num_cons, num_nil, Try.ntmps68, Try.results68]
  repeat' (first
      | ((with_reducible apply awO_ev); (· rfl); (· exact sv))
      | ((with_reducible apply awO_eqnil); (· rfl); (· rfl); (· exact sv); (· exact sv); (· exact svp); (· rfl); (· (first | decide | (simp only []; omega) | omega)); intro nb hnb; simp only [put_some])
      | ((with_reducible apply awO_neqnil); (· rfl); (· rfl); (· exact sv); (· exact sv); (· exact svp); (· rfl); (· (first | decide | (simp only []; omega) | omega)); intro nb hnb; simp only [put_some])
      | ((with_reducible apply aw_seq); intro _ _)
      | ((with_reducible apply aw_region))
      | ((with_reducible apply aw_block))
      | ((with_reducible apply awO_nil); (try simp only [CT, ↓reduceIte, Nat.reduceEqDiff]))
      | ((with_reducible apply aw_exit); (try simp only [CT, ↓reduceIte, Nat.reduceEqDiff]))
      | ((with_reducible apply aw_skip); (try simp only [CT, ↓reduceIte, Nat.reduceEqDiff]))
      | ((with_reducible apply aw_ret); (try simp only [CT, ↓reduceIte, Nat.reduceEqDiff]))
      | ((with_reducible apply awO_y); (· rfl); (· rfl); (· decide); (· exact sv); (· exact sv))
      | ((with_reducible apply awO_n); (· rfl); (· rfl); (· decide); (· exact sv); (· rfl); (· rfl); (· decide))
      | ((with_reducible apply awO_u); (· rfl); (· rfl); (· exact svr); (· rfl); (· decide))
      | ((with_reducible apply aw_cond_true); (· exact sv))
      | ((with_reducible apply aw_cond_false); (· exact sv))
      | (refine Kont.go ‹Kont _ _ _ _› _ ?_)
      | ((with_reducible apply awO_guard); (· rfl); (· rfl); (· exact sv); all_goals (intro hg; (try simp only [Bool.not_true, Bool.not_false]); (try simp only [decide_eq_true_eq, decide_eq_false_iff_not, Bool.not_true, Bool.not_false, Bool.not_eq_true', Bool.not_eq_false', Bool.not_not] at hg); try (exfalso; omega)))
      | ((with_reducible apply aw_cond); (· exact sv); all_goals (intro hg; (try simp only [decide_eq_true_eq, decide_eq_false_iff_not, Bool.not_true, Bool.not_false, Bool.not_eq_true', Bool.not_eq_false', Bool.not_not] at hg); try (exfalso; omega)))
      | ((with_reducible apply retQ_mk); (· (first | exact .inr rfl | exact .inl rfl)); (· exact sv); (· exact sv); rotate_left; (· rfl))
      | ((with_reducible apply wk_id); (with_reducible apply retQ_mk); (· (first | exact .inr rfl | exact .inl rfl)); (· exact sv); (· exact sv); rotate_left; (· rfl))
      | ((try with_reducible apply wk_id); (with_reducible apply retQ_mk1); (· (first | exact .inr rfl | exact .inl rfl)); (· exact sv); (· exact sv); (· exact sv); (· exact sv); rotate_left; rotate_left; (· simp); (· rfl))
      | ((try with_reducible apply wk_id); (with_reducible apply retQ_mk2); (· (first | exact .inr rfl | exact .inl rfl)); (· exact sv); (· exact sv); (· exact sv); (· exact sv); (· exact sv); (· exact sv); rotate_left; rotate_left; rotate_left; (· simp); (· simp); (· rfl)))
  refine aw_loopF (fun i : Nat => [(8, ai i)]) (fun _ => []) (fun i => a + 2 ≤ i ∧ i ≤ s.length ∧ brc (s.drop (a + 2)) 2 pl = brc (s.drop i) (i - a) pl) (fun i => s.length - i) (a + 2) ⟨by omega, by omega, by congr 1; omega⟩ ?_ ?_ ?_
  · (simp only [LP, look_cons, look_nil, and_true, true_and, ↓reduceIte, Nat.reduceEqDiff, Option.some.injEq, AV.v.injEq, Value.int.injEq, Int.natCast_add, Int.cast_ofNat_Int])
  · (simp only [LP, look_cons, look_nil, and_true, true_and, ↓reduceIte, Nat.reduceEqDiff, Option.some.injEq, AV.v.injEq, Value.int.injEq, Int.natCast_add, Int.cast_ofNat_Int])
  intro i ⟨hi0, hi, hI⟩
  (simp only [LP, List.append_assoc, List.nil_append, List.cons_append, List.append_nil, List.contains_cons, List.contains_nil, Nat.reduceBEq, Bool.or_false, Bool.or_true, Bool.true_or, Bool.false_or, ↓reduceIte, Bool.false_eq_true])
  by_cases hil : i < s.length
  · have c1 := H s i i pl pl hs rfl rfl hpl hil (by omega)
    have hok := pas_ok (l := s.drop i) pl (by rw [List.length_drop]; omega)
    rw [dropc hil] at hI c1 hok
    rw [brc] at hI
    obtain ⟨k1, k2, k3, k4⟩ := hok
    simp only [List.length_cons, List.length_drop] at k1
    generalize hp : pas (s[i] :: s.drop (i + 1)) pl = p at *
    obtain ⟨pe, pr⟩ := p
    simp only at k1 k2 k3 k4 hI
    repeat' (first
        | ((with_reducible apply awO_ev); (· rfl); (· exact sv))
        | ((with_reducible apply awO_eqnil); (· rfl); (· rfl); (· exact sv); (· exact sv); (· exact svp); (· rfl); (· (first | decide | (simp only []; omega) | omega)); intro nb hnb; simp only [put_some])
        | ((with_reducible apply awO_neqnil); (· rfl); (· rfl); (· exact sv); (· exact sv); (· exact svp); (· rfl); (· (first | decide | (simp only []; omega) | omega)); intro nb hnb; simp only [put_some])
        | ((with_reducible apply aw_seq); intro _ _)
        | ((with_reducible apply aw_region))
        | ((with_reducible apply aw_block))
        | ((with_reducible apply awO_nil); (try simp only [CT, ↓reduceIte, Nat.reduceEqDiff]))
        | ((with_reducible apply aw_exit); (try simp only [CT, ↓reduceIte, Nat.reduceEqDiff]))
        | ((with_reducible apply aw_skip); (try simp only [CT, ↓reduceIte, Nat.reduceEqDiff]))
        | ((with_reducible apply aw_ret); (try simp only [CT, ↓reduceIte, Nat.reduceEqDiff]))
        | ((with_reducible apply awO_y); (· rfl); (· rfl); (· decide); (· exact sv); (· exact sv))
        | ((with_reducible apply awO_n); (· rfl); (· rfl); (· decide); (· exact sv); (· rfl); (· rfl); (· decide))
        | ((with_reducible apply awO_u); (· rfl); (· rfl); (· exact svr); (· rfl); (· decide))
        | ((with_reducible apply aw_cond_true); (· exact sv))
        | ((with_reducible apply aw_cond_false); (· exact sv))
        | (refine Kont.go ‹Kont _ _ _ _› _ ?_)
        | ((with_reducible apply awO_un); (· rfl); (· decide); (· exact sv))
        | ((with_reducible apply awO_c); (· rfl); (· rfl); (· exact sv); (· (first | with_reducible exact c1)); (· rfl); (· rfl); (· rfl); (· decide))
        | ((with_reducible apply awO_f); (· rfl); (· rfl); (· exact sv); (· exact sv); (· (first | with_reducible exact c1)); (· rfl); (· rfl); (· decide))
        | ((with_reducible apply awO_m); (· rfl); (· rfl); (· exact sv); (· (first | with_reducible exact c1)); (· exact svq); (· exact svq); (· exact svq); (· exact svq); (· rfl); (· (first | decide | (simp only []; omega) | omega)); (with_reducible apply awO_st); (· exact svs))
        | ((with_reducible apply awO_guard); (· rfl); (· rfl); (· exact sv); all_goals (intro hg; (try simp only [Bool.not_true, Bool.not_false]); (try simp only [decide_eq_true_eq, decide_eq_false_iff_not, Bool.not_true, Bool.not_false, Bool.not_eq_true', Bool.not_eq_false', Bool.not_not] at hg); try (exfalso; omega)))
        | ((with_reducible apply aw_cond); (· exact sv); all_goals (intro hg; (try simp only [decide_eq_true_eq, decide_eq_false_iff_not, Bool.not_true, Bool.not_false, Bool.not_eq_true', Bool.not_eq_false', Bool.not_not] at hg); try (exfalso; omega)))
        | ((with_reducible apply retQ_mk); (· (first | exact .inr rfl | exact .inl rfl)); (· exact sv); (· exact sv); rotate_left; (· rfl))
        | ((with_reducible apply wk_id); (with_reducible apply retQ_mk); (· (first | exact .inr rfl | exact .inl rfl)); (· exact sv); (· exact sv); rotate_left; (· rfl))
        | ((try with_reducible apply wk_id); (with_reducible apply retQ_mk1); (· (first | exact .inr rfl | exact .inl rfl)); (· exact sv); (· exact sv); (· exact sv); (· exact sv); rotate_left; rotate_left; (· simp); (· rfl))
        | ((try with_reducible apply wk_id); (with_reducible apply retQ_mk2); (· (first | exact .inr rfl | exact .inl rfl)); (· exact sv); (· exact sv); (· exact sv); (· exact sv); (· exact sv); (· exact sv); rotate_left; rotate_left; rotate_left; (· simp); (· simp); (· rfl)))
    all_goals (first
      | (exfalso; omega)
      | exact tp_mk (b := i - a + 1) (by rw [hI, if_pos (by omega)]) (by omega)
      | exact tp_mk (b := i - a) (by rw [hI, if_neg (by omega), if_pos (by omega)]) (by omega)
      | (refine tp_mk (b := i - a + pe) ?_ (by omega); rw [hI, if_neg (by omega), if_neg (by omega), if_pos hg])
      | (refine LE_mk (i + pe) ?_ ?_ sN sN sN
         · have := k2 hg
           refine ⟨by omega, by omega, ?_⟩
           rw [hI, if_neg (by omega), if_neg (by omega), if_neg (by simpa using hg), if_neg (by omega), drop_pas hil (by omega)]; congr 1; omega
         · have := k2 hg; omega))
  · rw [List.drop_eq_nil_of_le (by omega : s.length ≤ i)] at hI
    repeat' (first
        | ((with_reducible apply awO_ev); (· rfl); (· exact sv))
        | ((with_reducible apply awO_eqnil); (· rfl); (· rfl); (· exact sv); (· exact sv); (· exact svp); (· rfl); (· (first | decide | (simp only []; omega) | omega)); intro nb hnb; simp only [put_some])
        | ((with_reducible apply awO_neqnil); (· rfl); (· rfl); (· exact sv); (· exact sv); (· exact svp); (· rfl); (· (first | decide | (simp only []; omega) | omega)); intro nb hnb; simp only [put_some])
        | ((with_reducible apply aw_seq); intro _ _)
        | ((with_reducible apply aw_region))
        | ((with_reducible apply aw_block))
        | ((with_reducible apply awO_nil); (try simp only [CT, ↓reduceIte, Nat.reduceEqDiff]))
        | ((with_reducible apply aw_exit); (try simp only [CT, ↓reduceIte, Nat.reduceEqDiff]))
        | ((with_reducible apply aw_skip); (try simp only [CT, ↓reduceIte, Nat.reduceEqDiff]))
        | ((with_reducible apply aw_ret); (try simp only [CT, ↓reduceIte, Nat.reduceEqDiff]))
        | ((with_reducible apply awO_y); (· rfl); (· rfl); (· decide); (· exact sv); (· exact sv))
        | ((with_reducible apply awO_n); (· rfl); (· rfl); (· decide); (· exact sv); (· rfl); (· rfl); (· decide))
        | ((with_reducible apply awO_u); (· rfl); (· rfl); (· exact svr); (· rfl); (· decide))
        | ((with_reducible apply aw_cond_true); (· exact sv))
        | ((with_reducible apply aw_cond_false); (· exact sv))
        | (refine Kont.go ‹Kont _ _ _ _› _ ?_)
        | ((with_reducible apply awO_guard); (· rfl); (· rfl); (· exact sv); all_goals (intro hg; (try simp only [Bool.not_true, Bool.not_false]); (try simp only [decide_eq_true_eq, decide_eq_false_iff_not, Bool.not_true, Bool.not_false, Bool.not_eq_true', Bool.not_eq_false', Bool.not_not] at hg); try (exfalso; omega)))
        | ((with_reducible apply aw_cond); (· exact sv); all_goals (intro hg; (try simp only [decide_eq_true_eq, decide_eq_false_iff_not, Bool.not_true, Bool.not_false, Bool.not_eq_true', Bool.not_eq_false', Bool.not_not] at hg); try (exfalso; omega)))
        | ((with_reducible apply retQ_mk); (· (first | exact .inr rfl | exact .inl rfl)); (· exact sv); (· exact sv); rotate_left; (· rfl))
        | ((with_reducible apply wk_id); (with_reducible apply retQ_mk); (· (first | exact .inr rfl | exact .inl rfl)); (· exact sv); (· exact sv); rotate_left; (· rfl))
        | ((try with_reducible apply wk_id); (with_reducible apply retQ_mk1); (· (first | exact .inr rfl | exact .inl rfl)); (· exact sv); (· exact sv); (· exact sv); (· exact sv); rotate_left; rotate_left; (· simp); (· rfl))
        | ((try with_reducible apply wk_id); (with_reducible apply retQ_mk2); (· (first | exact .inr rfl | exact .inl rfl)); (· exact sv); (· exact sv); (· exact sv); (· exact sv); (· exact sv); (· exact sv); rotate_left; rotate_left; rotate_left; (· simp); (· simp); (· rfl)))
    refine tp_mk (b := 0) ?_ (by omega); rw [hI]; simp [brc]
include H in
theorem rarithmetic_ab (s : List UInt8) (a : Nat) (z : Int) (hs : s.length ≤ 1000000) (hz : z = a) (ha : a + 3 ≤ s.length) (hn : s.length - a ≤ n + 1) : Ab Try.prog 69 [az s, ai z] (tpr a (ari (s.drop (a + 3)) 3 0)) := by
  subst hz
  refine Fn_of_aw (keep := []) Try.func69 rfl rfl (by simp [Try.ntmps69]) ?_
  simp only [num_cons, num_nil, Try.ntmps69, Try.results69]
  repeat' (first
      | ((with_reducible apply awO_ev); (· rfl); (· exact sv))
      | ((with_reducible apply awO_eqnil); (· rfl); (· rfl); (· exact sv); (· exact sv); (· exact svp); (· rfl); (· (first | decide | (simp only []; omega) | omega)); intro nb hnb; simp only [put_some])
      | ((with_reducible apply awO_neqnil); (· rfl); (· rfl); (· exact sv); (· exact sv); (· exact svp); (· rfl); (· (first | decide | (simp only []; omega) | omega)); intro nb hnb; simp only [put_some])
      | ((with_reducible apply aw_seq); intro _ _)
      | ((with_reducible apply aw_region))
      | ((with_reducible apply aw_block))
      | ((with_reducible apply awO_nil); (try simp only [CT, ↓reduceIte, Nat.reduceEqDiff]))
      | ((with_reducible apply aw_exit); (try simp only [CT, ↓reduceIte, Nat.reduceEqDiff]))
      | ((with_reducible apply aw_skip); (try simp only [CT, ↓reduceIte, Nat.reduceEqDiff]))
      | ((with_reducible apply aw_ret); (try simp only [CT, ↓reduceIte, Nat.reduceEqDiff]))
      | ((with_reducible apply awO_y); (· rfl); (· rfl); (· decide); (· exact sv); (· exact sv))
      | ((with_reducible apply awO_n); (· rfl); (· rfl); (· decide); (· exact sv); (· rfl); (· rfl); (· decide))
      | ((with_reducible apply awO_u); (· rfl); (· rfl); (· exact svr); (· rfl); (· decide))
      | ((with_reducible apply aw_cond_true); (· exact sv))
      | ((with_reducible apply aw_cond_false); (· exact sv))
      | (refine Kont.go ‹Kont _ _ _ _› _ ?_)
      | ((with_reducible apply awO_guard); (· rfl); (· rfl); (· exact sv); all_goals (intro hg; (try simp only [Bool.not_true, Bool.not_false]); (try simp only [decide_eq_true_eq, decide_eq_false_iff_not, Bool.not_true, Bool.not_false, Bool.not_eq_true', Bool.not_eq_false', Bool.not_not] at hg); try (exfalso; omega)))
      | ((with_reducible apply aw_cond); (· exact sv); all_goals (intro hg; (try simp only [decide_eq_true_eq, decide_eq_false_iff_not, Bool.not_true, Bool.not_false, Bool.not_eq_true', Bool.not_eq_false', Bool.not_not] at hg); try (exfalso; omega)))
      | ((with_reducible apply retQ_mk); (· (first | exact .inr rfl | exact .inl rfl)); (· exact sv); (· exact sv); rotate_left; (· rfl))
      | ((with_reducible apply wk_id); (with_reducible apply retQ_mk); (· (first | exact .inr rfl | exact .inl rfl)); (· exact sv); (· exact sv); rotate_left; (· rfl))
      | ((try with_reducible apply wk_id); (with_reducible apply retQ_mk1); (· (first | exact .inr rfl | exact .inl rfl)); (· exact sv); (· exact sv); (· exact sv); (· exact sv); rotate_left; rotate_left; (· simp); (· rfl))
      | ((try with_reducible apply wk_id); (with_reducible apply retQ_mk2); (· (first | exact .inr rfl | exact .inl rfl)); (· exact sv); (· exact sv); (· exact sv); (· exact sv); (· exact sv); (· exact sv); rotate_left; rotate_left; rotate_left; (· simp); (· simp); (· rfl)))
  refine aw_loopF (fun x : Nat × Nat => [(6, ai x.1), (7, ai x.2)]) (fun _ => []) (fun x => a + 3 ≤ x.1 ∧ x.1 ≤ s.length ∧ x.2 ≤ x.1 ∧ ari (s.drop (a + 3)) 3 0 = ari (s.drop x.1) (x.1 - a) x.2) (fun x => s.length - x.1) (a + 3, 0) ⟨by simp, by simp only; omega, by simp, by simp only; congr 1; omega⟩ ?_ ?_ ?_
  · (simp only [LP, look_cons, look_nil, and_true, true_and, ↓reduceIte, Nat.reduceEqDiff, Option.some.injEq, AV.v.injEq, Value.int.injEq, Int.natCast_add, Int.cast_ofNat_Int])
  · (simp only [LP, look_cons, look_nil, and_true, true_and, ↓reduceIte, Nat.reduceEqDiff, Option.some.injEq, AV.v.injEq, Value.int.injEq, Int.natCast_add, Int.cast_ofNat_Int])
  rintro ⟨i, dep⟩ ⟨hi0, hi, hdep, hI⟩
  simp only at hi0 hi hdep hI
  (simp only [LP, List.append_assoc, List.nil_append, List.cons_append, List.append_nil, List.contains_cons, List.contains_nil, Nat.reduceBEq, Bool.or_false, Bool.or_true, Bool.true_or, Bool.false_or, ↓reduceIte, Bool.false_eq_true])
  by_cases hil : i < s.length
  · rw [dropc hil] at hI
    by_cases hend : s[i].toNat = 41 ∧ dep = 0
    · obtain ⟨h41, hd0⟩ := hend
      subst hd0
      rw [ari_close h41] at hI
      by_cases hil2 : i + 1 < s.length
      · rw [dropc hil2] at hI
        simp only at hI
        by_cases h2 : s[i + 1].toNat = 41
        · rw [if_pos h2] at hI
          repeat' (first
              | ((with_reducible apply awO_ev); (· rfl); (· exact sv))
              | ((with_reducible apply awO_eqnil); (· rfl); (· rfl); (· exact sv); (· exact sv); (· exact svp); (· rfl); (· (first | decide | (simp only []; omega) | omega)); intro nb hnb; simp only [put_some])
              | ((with_reducible apply awO_neqnil); (· rfl); (· rfl); (· exact sv); (· exact sv); (· exact svp); (· rfl); (· (first | decide | (simp only []; omega) | omega)); intro nb hnb; simp only [put_some])
              | ((with_reducible apply aw_seq); intro _ _)
              | ((with_reducible apply aw_region))
              | ((with_reducible apply aw_block))
              | ((with_reducible apply awO_nil); (try simp only [CT, ↓reduceIte, Nat.reduceEqDiff]))
              | ((with_reducible apply aw_exit); (try simp only [CT, ↓reduceIte, Nat.reduceEqDiff]))
              | ((with_reducible apply aw_skip); (try simp only [CT, ↓reduceIte, Nat.reduceEqDiff]))
              | ((with_reducible apply aw_ret); (try simp only [CT, ↓reduceIte, Nat.reduceEqDiff]))
              | ((with_reducible apply awO_y); (· rfl); (· rfl); (· decide); (· exact sv); (· exact sv))
              | ((with_reducible apply awO_n); (· rfl); (· rfl); (· decide); (· exact sv); (· rfl); (· rfl); (· decide))
              | ((with_reducible apply awO_u); (· rfl); (· rfl); (· exact svr); (· rfl); (· decide))
              | ((with_reducible apply aw_cond_true); (· exact sv))
              | ((with_reducible apply aw_cond_false); (· exact sv))
              | (refine Kont.go ‹Kont _ _ _ _› _ ?_)
              | ((with_reducible apply awO_guard); (· rfl); (· rfl); (· exact sv); all_goals (intro hg; (try simp only [Bool.not_true, Bool.not_false]); (try simp only [decide_eq_true_eq, decide_eq_false_iff_not, Bool.not_true, Bool.not_false, Bool.not_eq_true', Bool.not_eq_false', Bool.not_not] at hg); try (exfalso; omega)))
              | ((with_reducible apply aw_cond); (· exact sv); all_goals (intro hg; (try simp only [decide_eq_true_eq, decide_eq_false_iff_not, Bool.not_true, Bool.not_false, Bool.not_eq_true', Bool.not_eq_false', Bool.not_not] at hg); try (exfalso; omega)))
              | ((with_reducible apply retQ_mk); (· (first | exact .inr rfl | exact .inl rfl)); (· exact sv); (· exact sv); rotate_left; (· rfl))
              | ((with_reducible apply wk_id); (with_reducible apply retQ_mk); (· (first | exact .inr rfl | exact .inl rfl)); (· exact sv); (· exact sv); rotate_left; (· rfl))
              | ((try with_reducible apply wk_id); (with_reducible apply retQ_mk1); (· (first | exact .inr rfl | exact .inl rfl)); (· exact sv); (· exact sv); (· exact sv); (· exact sv); rotate_left; rotate_left; (· simp); (· rfl))
              | ((try with_reducible apply wk_id); (with_reducible apply retQ_mk2); (· (first | exact .inr rfl | exact .inl rfl)); (· exact sv); (· exact sv); (· exact sv); (· exact sv); (· exact sv); (· exact sv); rotate_left; rotate_left; rotate_left; (· simp); (· simp); (· rfl)))
          exact tp_mk (b := i - a + 2) hI (by omega)
        · rw [if_neg h2] at hI
          repeat' (first
              | ((with_reducible apply awO_ev); (· rfl); (· exact sv))
              | ((with_reducible apply awO_eqnil); (· rfl); (· rfl); (· exact sv); (· exact sv); (· exact svp); (· rfl); (· (first | decide | (simp only []; omega) | omega)); intro nb hnb; simp only [put_some])
              | ((with_reducible apply awO_neqnil); (· rfl); (· rfl); (· exact sv); (· exact sv); (· exact svp); (· rfl); (· (first | decide | (simp only []; omega) | omega)); intro nb hnb; simp only [put_some])
              | ((with_reducible apply aw_seq); intro _ _)
              | ((with_reducible apply aw_region))
              | ((with_reducible apply aw_block))
              | ((with_reducible apply awO_nil); (try simp only [CT, ↓reduceIte, Nat.reduceEqDiff]))
              | ((with_reducible apply aw_exit); (try simp only [CT, ↓reduceIte, Nat.reduceEqDiff]))
              | ((with_reducible apply aw_skip); (try simp only [CT, ↓reduceIte, Nat.reduceEqDiff]))
              | ((with_reducible apply aw_ret); (try simp only [CT, ↓reduceIte, Nat.reduceEqDiff]))
              | ((with_reducible apply awO_y); (· rfl); (· rfl); (· decide); (· exact sv); (· exact sv))
              | ((with_reducible apply awO_n); (· rfl); (· rfl); (· decide); (· exact sv); (· rfl); (· rfl); (· decide))
              | ((with_reducible apply awO_u); (· rfl); (· rfl); (· exact svr); (· rfl); (· decide))
              | ((with_reducible apply aw_cond_true); (· exact sv))
              | ((with_reducible apply aw_cond_false); (· exact sv))
              | (refine Kont.go ‹Kont _ _ _ _› _ ?_)
              | ((with_reducible apply awO_guard); (· rfl); (· rfl); (· exact sv); all_goals (intro hg; (try simp only [Bool.not_true, Bool.not_false]); (try simp only [decide_eq_true_eq, decide_eq_false_iff_not, Bool.not_true, Bool.not_false, Bool.not_eq_true', Bool.not_eq_false', Bool.not_not] at hg); try (exfalso; omega)))
              | ((with_reducible apply aw_cond); (· exact sv); all_goals (intro hg; (try simp only [decide_eq_true_eq, decide_eq_false_iff_not, Bool.not_true, Bool.not_false, Bool.not_eq_true', Bool.not_eq_false', Bool.not_not] at hg); try (exfalso; omega)))
              | ((with_reducible apply retQ_mk); (· (first | exact .inr rfl | exact .inl rfl)); (· exact sv); (· exact sv); rotate_left; (· rfl))
              | ((with_reducible apply wk_id); (with_reducible apply retQ_mk); (· (first | exact .inr rfl | exact .inl rfl)); (· exact sv); (· exact sv); rotate_left; (· rfl))
              | ((try with_reducible apply wk_id); (with_reducible apply retQ_mk1); (· (first | exact .inr rfl | exact .inl rfl)); (· exact sv); (· exact sv); (· exact sv); (· exact sv); rotate_left; rotate_left; (· simp); (· rfl))
              | ((try with_reducible apply wk_id); (with_reducible apply retQ_mk2); (· (first | exact .inr rfl | exact .inl rfl)); (· exact sv); (· exact sv); (· exact sv); (· exact sv); (· exact sv); (· exact sv); rotate_left; rotate_left; rotate_left; (· simp); (· simp); (· rfl)))
          exact tp_mk (b := i - a) hI (by omega)
      · rw [List.drop_eq_nil_of_le (by omega : s.length ≤ i + 1)] at hI
        simp only at hI
        repeat' (first
            | ((with_reducible apply awO_ev); (· rfl); (· exact sv))
            | ((with_reducible apply awO_eqnil); (· rfl); (· rfl); (· exact sv); (· exact sv); (· exact svp); (· rfl); (· (first | decide | (simp only []; omega) | omega)); intro nb hnb; simp only [put_some])
            | ((with_reducible apply awO_neqnil); (· rfl); (· rfl); (· exact sv); (· exact sv); (· exact svp); (· rfl); (· (first | decide | (simp only []; omega) | omega)); intro nb hnb; simp only [put_some])
            | ((with_reducible apply aw_seq); intro _ _)
            | ((with_reducible apply aw_region))
            | ((with_reducible apply aw_block))
            | ((with_reducible apply awO_nil); (try simp only [CT, ↓reduceIte, Nat.reduceEqDiff]))
            | ((with_reducible apply aw_exit); (try simp only [CT, ↓reduceIte, Nat.reduceEqDiff]))
            | ((with_reducible apply aw_skip); (try simp only [CT, ↓reduceIte, Nat.reduceEqDiff]))
            | ((with_reducible apply aw_ret); (try simp only [CT, ↓reduceIte, Nat.reduceEqDiff]))
            | ((with_reducible apply awO_y); (· rfl); (· rfl); (· decide); (· exact sv); (· exact sv))
            | ((with_reducible apply awO_n); (· rfl); (· rfl); (· decide); (· exact sv); (· rfl); (· rfl); (· decide))
            | ((with_reducible apply awO_u); (· rfl); (· rfl); (· exact svr); (· rfl); (· decide))
            | ((with_reducible apply aw_cond_true); (· exact sv))
            | ((with_reducible apply aw_cond_false); (· exact sv))
            | (refine Kont.go ‹Kont _ _ _ _› _ ?_)
            | ((with_reducible apply awO_guard); (· rfl); (· rfl); (· exact sv); all_goals (intro hg; (try simp only [Bool.not_true, Bool.not_false]); (try simp only [decide_eq_true_eq, decide_eq_false_iff_not, Bool.not_true, Bool.not_false, Bool.not_eq_true', Bool.not_eq_false', Bool.not_not] at hg); try (exfalso; omega)))
            | ((with_reducible apply aw_cond); (· exact sv); all_goals (intro hg; (try simp only [decide_eq_true_eq, decide_eq_false_iff_not, Bool.not_true, Bool.not_false, Bool.not_eq_true', Bool.not_eq_false', Bool.not_not] at hg); try (exfalso; omega)))
            | ((with_reducible apply retQ_mk); (· (first | exact .inr rfl | exact .inl rfl)); (· exact sv); (· exact sv); rotate_left; (· rfl))
            | ((with_reducible apply wk_id); (with_reducible apply retQ_mk); (· (first | exact .inr rfl | exact .inl rfl)); (· exact sv); (· exact sv); rotate_left; (· rfl))
            | ((try with_reducible apply wk_id); (with_reducible apply retQ_mk1); (· (first | exact .inr rfl | exact .inl rfl)); (· exact sv); (· exact sv); (· exact sv); (· exact sv); rotate_left; rotate_left; (· simp); (· rfl))
            | ((try with_reducible apply wk_id); (with_reducible apply retQ_mk2); (· (first | exact .inr rfl | exact .inl rfl)); (· exact sv); (· exact sv); (· exact sv); (· exact sv); (· exact sv); (· exact sv); rotate_left; rotate_left; rotate_left; (· simp); (· simp); (· rfl)))
        exact tp_mk (b := 0) hI (by omega)
    · rw [ari_step hend] at hI
      have c1 := H s i i 2 2 hs rfl rfl (by omega) hil (by omega)
      have hok := pas_ok (l := s.drop i) 2 (by rw [List.length_drop]; omega)
      rw [dropc hil] at c1 hok
      obtain ⟨k1, k2, k3, k4⟩ := hok
      simp only [List.length_cons, List.length_drop] at k1
      generalize hp : pas (s[i] :: s.drop (i + 1)) 2 = p at *
      obtain ⟨pe, pr⟩ := p
      simp only at k1 k2 k3 k4 hI
      repeat' (first
          | ((with_reducible apply awO_ev); (· rfl); (· exact sv))
          | ((with_reducible apply awO_eqnil); (· rfl); (· rfl); (· exact sv); (· exact sv); (· exact svp); (· rfl); (· (first | decide | (simp only []; omega) | omega)); intro nb hnb; simp only [put_some])
          | ((with_reducible apply awO_neqnil); (· rfl); (· rfl); (· exact sv); (· exact sv); (· exact svp); (· rfl); (· (first | decide | (simp only []; omega) | omega)); intro nb hnb; simp only [put_some])
          | ((with_reducible apply aw_seq); intro _ _)
          | ((with_reducible apply aw_region))
          | ((with_reducible apply aw_block))
          | ((with_reducible apply awO_nil); (try simp only [CT, ↓reduceIte, Nat.reduceEqDiff]))
          | ((with_reducible apply aw_exit); (try simp only [CT, ↓reduceIte, Nat.reduceEqDiff]))
          | ((with_reducible apply aw_skip); (try simp only [CT, ↓reduceIte, Nat.reduceEqDiff]))
          | ((with_reducible apply aw_ret); (try simp only [CT, ↓reduceIte, Nat.reduceEqDiff]))
          | ((with_reducible apply awO_y); (· rfl); (· rfl); (· decide); (· exact sv); (· exact sv))
          | ((with_reducible apply awO_n); (· rfl); (· rfl); (· decide); (· exact sv); (· rfl); (· rfl); (· decide))
          | ((with_reducible apply awO_u); (· rfl); (· rfl); (· exact svr); (· rfl); (· decide))
          | ((with_reducible apply aw_cond_true); (· exact sv))
          | ((with_reducible apply aw_cond_false); (· exact sv))
          | (refine Kont.go ‹Kont _ _ _ _› _ ?_)
          | ((with_reducible apply awO_un); (· rfl); (· decide); (· exact sv))
          | ((with_reducible apply awO_c); (· rfl); (· rfl); (· exact sv); (· (first | with_reducible exact c1)); (· rfl); (· rfl); (· rfl); (· decide))
          | ((with_reducible apply awO_f); (· rfl); (· rfl); (· exact sv); (· exact sv); (· (first | with_reducible exact c1)); (· rfl); (· rfl); (· decide))
          | ((with_reducible apply awO_m); (· rfl); (· rfl); (· exact sv); (· (first | with_reducible exact c1)); (· exact svq); (· exact svq); (· exact svq); (· exact svq); (· rfl); (· (first | decide | (simp only []; omega) | omega)); (with_reducible apply awO_st); (· exact svs))
          | ((with_reducible apply awO_guard); (· rfl); (· rfl); (· exact sv); all_goals (intro hg; (try simp only [Bool.not_true, Bool.not_false]); (try simp only [decide_eq_true_eq, decide_eq_false_iff_not, Bool.not_true, Bool.not_false, Bool.not_eq_true', Bool.not_eq_false', Bool.not_not] at hg); try (exfalso; omega)))
          | ((with_reducible apply aw_cond); (· exact sv); all_goals (intro hg; (try simp only [decide_eq_true_eq, decide_eq_false_iff_not, Bool.not_true, Bool.not_false, Bool.not_eq_true', Bool.not_eq_false', Bool.not_not] at hg); try (exfalso; omega)))
          | ((with_reducible apply retQ_mk); (· (first | exact .inr rfl | exact .inl rfl)); (· exact sv); (· exact sv); rotate_left; (· rfl))
          | ((with_reducible apply wk_id); (with_reducible apply retQ_mk); (· (first | exact .inr rfl | exact .inl rfl)); (· exact sv); (· exact sv); rotate_left; (· rfl))
          | ((try with_reducible apply wk_id); (with_reducible apply retQ_mk1); (· (first | exact .inr rfl | exact .inl rfl)); (· exact sv); (· exact sv); (· exact sv); (· exact sv); rotate_left; rotate_left; (· simp); (· rfl))
          | ((try with_reducible apply wk_id); (with_reducible apply retQ_mk2); (· (first | exact .inr rfl | exact .inl rfl)); (· exact sv); (· exact sv); (· exact sv); (· exact sv); (· exact sv); (· exact sv); rotate_left; rotate_left; rotate_left; (· simp); (· simp); (· rfl)))
      all_goals (first
        | (exfalso; omega)
        | (refine tp_mk (b := i - a + pe) ?_ (by omega); rw [hI, if_pos hg])
        | (refine LE_mk ((i + pe, dep + 1)) ?_ ?_ sN sN sN
           · have := k2 hg
             refine ⟨by simp only; omega, by simp only; omega, by simp only; omega, ?_⟩
             rw [hI, if_neg (by simpa using hg), if_neg (by omega), drop_pas hil (by omega), if_pos (by omega)]; congr 1; simp only; omega
           · have := k2 hg; simp only; omega)
        | (refine LE_mk ((i + pe, dep - 1)) ?_ ?_ sN sN sN
           · have := k2 hg
             refine ⟨by simp only; omega, by simp only; omega, by simp only; omega, ?_⟩
             rw [hI, if_neg (by simpa using hg), if_neg (by omega), drop_pas hil (by omega), if_neg (by omega), if_pos (by omega)]; congr 1; simp only; omega
           · have := k2 hg; simp only; omega)
        | (refine LE_mk ((i + pe, dep)) ?_ ?_ sN sN sN
           · have := k2 hg
             refine ⟨by simp only; omega, by simp only; omega, by simp only; omega, ?_⟩
             rw [hI, if_neg (by simpa using hg), if_neg (by omega), drop_pas hil (by omega), if_neg (by omega), if_neg (by omega)]; congr 1; simp only; omega
           · have := k2 hg; simp only; omega))
  · rw [List.drop_eq_nil_of_le (by omega : s.length ≤ i)] at hI
    repeat' (first
        | ((with_reducible apply awO_ev); (· rfl); (· exact sv))
        | ((with_reducible apply awO_eqnil); (· rfl); (· rfl); (· exact sv); (· exact sv); (· exact svp); (· rfl); (· (first | decide | (simp only []; omega) | omega)); intro nb hnb; simp only [put_some])
        | ((with_reducible apply awO_neqnil); (· rfl); (· rfl); (· exact sv); (· exact sv); (· exact svp); (· rfl); (· (first | decide | (simp only []; omega) | omega)); intro nb hnb; simp only [put_some])
        | ((with_reducible apply aw_seq); intro _ _)
        | ((with_reducible apply aw_region))
        | ((with_reducible apply aw_block))
        | ((with_reducible apply awO_nil); (try simp only [CT, ↓reduceIte, Nat.reduceEqDiff]))
        | ((with_reducible apply aw_exit); (try simp only [CT, ↓reduceIte, Nat.reduceEqDiff]))
        | ((with_reducible apply aw_skip); (try simp only [CT, ↓reduceIte, Nat.reduceEqDiff]))
        | ((with_reducible apply aw_ret); (try simp only [CT, ↓reduceIte, Nat.reduceEqDiff]))
        | ((with_reducible apply awO_y); (· rfl); (· rfl); (· decide); (· exact sv); (· exact sv))
        | ((with_reducible apply awO_n); (· rfl); (· rfl); (· decide); (· exact sv); (· rfl); (· rfl); (· decide))
        | ((with_reducible apply awO_u); (· rfl); (· rfl); (· exact svr); (· rfl); (· decide))
        | ((with_reducible apply aw_cond_true); (· exact sv))
        | ((with_reducible apply aw_cond_false); (· exact sv))
        | (refine Kont.go ‹Kont _ _ _ _› _ ?_)
        | ((with_reducible apply awO_guard); (· rfl); (· rfl); (· exact sv); all_goals (intro hg; (try simp only [Bool.not_true, Bool.not_false]); (try simp only [decide_eq_true_eq, decide_eq_false_iff_not, Bool.not_true, Bool.not_false, Bool.not_eq_true', Bool.not_eq_false', Bool.not_not] at hg); try (exfalso; omega)))
        | ((with_reducible apply aw_cond); (· exact sv); all_goals (intro hg; (try simp only [decide_eq_true_eq, decide_eq_false_iff_not, Bool.not_true, Bool.not_false, Bool.not_eq_true', Bool.not_eq_false', Bool.not_not] at hg); try (exfalso; omega)))
        | ((with_reducible apply retQ_mk); (· (first | exact .inr rfl | exact .inl rfl)); (· exact sv); (· exact sv); rotate_left; (· rfl))
        | ((with_reducible apply wk_id); (with_reducible apply retQ_mk); (· (first | exact .inr rfl | exact .inl rfl)); (· exact sv); (· exact sv); rotate_left; (· rfl))
        | ((try with_reducible apply wk_id); (with_reducible apply retQ_mk1); (· (first | exact .inr rfl | exact .inl rfl)); (· exact sv); (· exact sv); (· exact sv); (· exact sv); rotate_left; rotate_left; (· simp); (· rfl))
        | ((try with_reducible apply wk_id); (with_reducible apply retQ_mk2); (· (first | exact .inr rfl | exact .inl rfl)); (· exact sv); (· exact sv); (· exact sv); (· exact sv); (· exact sv); (· exact sv); rotate_left; rotate_left; rotate_left; (· simp); (· simp); (· rfl)))
    refine tp_mk (b := 0) ?_ (by omega); rw [hI]; simp [ari]
theorem divB_or (c : UInt8) : (blankB c || decide (c.toNat = 10) || opB c) = divB c := by
  rw [Bool.eq_iff_iff]; simp only [divB, opB, blankB, Bool.or_eq_true, decide_eq_true_eq]; omega
theorem beg_nodiv {c : UInt8} {r : List UInt8} (h : begB (c :: r) = true) : divB c = false ∧ c.toNat ≠ 40 ∧ c.toNat ≠ 41 ∧ c.toNat ≠ 35 := by
  simp only [begB, Bool.or_eq_true, Bool.and_eq_true, decide_eq_true_eq] at h
  simp only [divB, decide_eq_false_iff_not]
  omega
include H in
theorem rcommand_ab (s : List UInt8) (a : Nat) (z : Int) (hs : s.length ≤ 1000000) (hz : z = a) (ha : a + 2 ≤ s.length) (hn : s.length - a ≤ n + 1) : Ab Try.prog 70 [az s, ai z] (tpr a (cmd (s.drop (a + 2)) 2 0 true)) := by
  subst hz
  refine Fn_of_aw (keep := []) Try.func70 rfl rfl (by simp [Try.ntmps70]) ?_
  simp only [num_cons, num_nil, Try.ntmps70, Try.results70]
  repeat' (first
      | ((with_reducible apply awO_ev); (· rfl); (· exact sv))
      | ((with_reducible apply awO_eqnil); (· rfl); (· rfl); (· exact sv); (· exact sv); (· exact svp); (· rfl); (· (first | decide | (simp only []; omega) | omega)); intro nb hnb; simp only [put_some])
      | ((with_reducible apply awO_neqnil); (· rfl); (· rfl); (· exact sv); (· exact sv); (· exact svp); (· rfl); (· (first | decide | (simp only []; omega) | omega)); intro nb hnb; simp only [put_some])
      | ((with_reducible apply aw_seq); intro _ _)
      | ((with_reducible apply aw_region))
      | ((with_reducible apply aw_block))
      | ((with_reducible apply awO_nil); (try simp only [CT, ↓reduceIte, Nat.reduceEqDiff]))
      | ((with_reducible apply aw_exit); (try simp only [CT, ↓reduceIte, Nat.reduceEqDiff]))
      | ((with_reducible apply aw_skip); (try simp only [CT, ↓reduceIte, Nat.reduceEqDiff]))
      | ((with_reducible apply aw_ret); (try simp only [CT, ↓reduceIte, Nat.reduceEqDiff]))
      | ((with_reducible apply awO_y); (· rfl); (· rfl); (· decide); (· exact sv); (· exact sv))
      | ((with_reducible apply awO_n); (· rfl); (· rfl); (· decide); (· exact sv); (· rfl); (· rfl); (· decide))
      | ((with_reducible apply awO_u); (· rfl); (· rfl); (· exact svr); (· rfl); (· decide))
      | ((with_reducible apply aw_cond_true); (· exact sv))
      | ((with_reducible apply aw_cond_false); (· exact sv))
      | (refine Kont.go ‹Kont _ _ _ _› _ ?_)
      | ((with_reducible apply awO_guard); (· rfl); (· rfl); (· exact sv); all_goals (intro hg; (try simp only [Bool.not_true, Bool.not_false]); (try simp only [decide_eq_true_eq, decide_eq_false_iff_not, Bool.not_true, Bool.not_false, Bool.not_eq_true', Bool.not_eq_false', Bool.not_not] at hg); try (exfalso; omega)))
      | ((with_reducible apply aw_cond); (· exact sv); all_goals (intro hg; (try simp only [decide_eq_true_eq, decide_eq_false_iff_not, Bool.not_true, Bool.not_false, Bool.not_eq_true', Bool.not_eq_false', Bool.not_not] at hg); try (exfalso; omega)))
      | ((with_reducible apply retQ_mk); (· (first | exact .inr rfl | exact .inl rfl)); (· exact sv); (· exact sv); rotate_left; (· rfl))
      | ((with_reducible apply wk_id); (with_reducible apply retQ_mk); (· (first | exact .inr rfl | exact .inl rfl)); (· exact sv); (· exact sv); rotate_left; (· rfl))
      | ((try with_reducible apply wk_id); (with_reducible apply retQ_mk1); (· (first | exact .inr rfl | exact .inl rfl)); (· exact sv); (· exact sv); (· exact sv); (· exact sv); rotate_left; rotate_left; (· simp); (· rfl))
      | ((try with_reducible apply wk_id); (with_reducible apply retQ_mk2); (· (first | exact .inr rfl | exact .inl rfl)); (· exact sv); (· exact sv); (· exact sv); (· exact sv); (· exact sv); (· exact sv); rotate_left; rotate_left; rotate_left; (· simp); (· simp); (· rfl)))
  refine aw_loopF (fun x : Nat × Nat × Bool => [(6, ai x.1), (7, ai ((x.2.1 : Int) + 1)), (8, ab x.2.2)]) (fun _ => []) (fun x => a + 2 ≤ x.1 ∧ x.1 ≤ s.length ∧ x.2.1 ≤ x.1 ∧ cmd (s.drop (a + 2)) 2 0 true = cmd (s.drop x.1) (x.1 - a) x.2.1 x.2.2) (fun x => s.length - x.1) (a + 2, 0, true) ⟨by simp, by simp only; omega, by simp, by simp only; congr 1; omega⟩ ?_ ?_ ?_
  · (simp only [LP, look_cons, look_nil, and_true, true_and, ↓reduceIte, Nat.reduceEqDiff, Option.some.injEq, AV.v.injEq, Value.int.injEq, Int.natCast_add, Int.cast_ofNat_Int])
    simp
  · (simp only [LP, look_cons, look_nil, and_true, true_and, ↓reduceIte, Nat.reduceEqDiff, Option.some.injEq, AV.v.injEq, Value.int.injEq, Int.natCast_add, Int.cast_ofNat_Int])
  rintro ⟨i, dep, st⟩ ⟨hi0, hi, hdep, hI⟩
  simp only at hi0 hi hdep hI
  (simp only [LP, List.append_assoc, List.nil_append, List.cons_append, List.append_nil, List.contains_cons, List.contains_nil, Nat.reduceBEq, Bool.or_false, Bool.or_true, Bool.true_or, Bool.false_or, ↓reduceIte, Bool.false_eq_true])
  by_cases hil : i < s.length
  · have c1 := rjoined_ab s i i rfl hs (by omega)
    have c4 := H s i i 0 0 hs rfl rfl (by omega) hil (by omega)
    have hok := pas_ok (l := s.drop i) 0 (by rw [List.length_drop]; omega)
    have c5 := rblank_ab s[i]
    have c6 := opByte_ab s[i]
    have hdv := divB_or s[i]
    rw [dropc hil] at hI c1 c4 hok
    by_cases hcm : s[i].toNat = 35 ∧ st = true
    · obtain ⟨h35, rfl⟩ := hcm
      have hj : ¬ joinB (s[i] :: s.drop (i + 1)) = true := by cases s.drop (i + 1) <;> simp [joinB]; omega
      rw [cmd, if_neg hj, if_pos ⟨h35, rfl⟩] at hI
      have c2 := rcomment_ab s i i rfl (by omega) hs
      have hcl := comN_le (s.drop i)
      rw [List.length_drop] at hcl
      rw [dropc hil] at c2 hcl
      have hc1 : 1 ≤ comN (s[i] :: s.drop (i + 1)) := by simp only [comN]; rw [if_neg (by omega)]; omega
      rw [drop_pas hil hc1] at hI
      clear c4 hok c5 c6 hdv
      generalize comN (s[i] :: s.drop (i + 1)) = cn at *
      repeat' (first
          | ((with_reducible apply awO_ev); (· rfl); (· exact sv))
          | ((with_reducible apply awO_eqnil); (· rfl); (· rfl); (· exact sv); (· exact sv); (· exact svp); (· rfl); (· (first | decide | (simp only []; omega) | omega)); intro nb hnb; simp only [put_some])
          | ((with_reducible apply awO_neqnil); (· rfl); (· rfl); (· exact sv); (· exact sv); (· exact svp); (· rfl); (· (first | decide | (simp only []; omega) | omega)); intro nb hnb; simp only [put_some])
          | ((with_reducible apply aw_seq); intro _ _)
          | ((with_reducible apply aw_region))
          | ((with_reducible apply aw_block))
          | ((with_reducible apply awO_nil); (try simp only [CT, ↓reduceIte, Nat.reduceEqDiff]))
          | ((with_reducible apply aw_exit); (try simp only [CT, ↓reduceIte, Nat.reduceEqDiff]))
          | ((with_reducible apply aw_skip); (try simp only [CT, ↓reduceIte, Nat.reduceEqDiff]))
          | ((with_reducible apply aw_ret); (try simp only [CT, ↓reduceIte, Nat.reduceEqDiff]))
          | ((with_reducible apply awO_y); (· rfl); (· rfl); (· decide); (· exact sv); (· exact sv))
          | ((with_reducible apply awO_n); (· rfl); (· rfl); (· decide); (· exact sv); (· rfl); (· rfl); (· decide))
          | ((with_reducible apply awO_u); (· rfl); (· rfl); (· exact svr); (· rfl); (· decide))
          | ((with_reducible apply aw_cond_true); (· exact sv))
          | ((with_reducible apply aw_cond_false); (· exact sv))
          | (refine Kont.go ‹Kont _ _ _ _› _ ?_)
          | ((with_reducible apply awO_un); (· rfl); (· decide); (· exact sv))
          | ((with_reducible apply awO_c); (· rfl); (· rfl); (· exact sv); (· (first | with_reducible exact c1 | with_reducible exact c2)); (· rfl); (· rfl); (· rfl); (· decide))
          | ((with_reducible apply awO_f); (· rfl); (· rfl); (· exact sv); (· exact sv); (· (first | with_reducible exact c1 | with_reducible exact c2)); (· rfl); (· rfl); (· decide))
          | ((with_reducible apply awO_m); (· rfl); (· rfl); (· exact sv); (· (first | with_reducible exact c1 | with_reducible exact c2)); (· exact svq); (· exact svq); (· exact svq); (· exact svq); (· rfl); (· (first | decide | (simp only []; omega) | omega)); (with_reducible apply awO_st); (· exact svs))
          | ((with_reducible apply awO_guard); (· rfl); (· rfl); (· exact sv); all_goals (intro hg; (try simp only [Bool.not_true, Bool.not_false]); (try simp only [decide_eq_true_eq, decide_eq_false_iff_not, Bool.not_true, Bool.not_false, Bool.not_eq_true', Bool.not_eq_false', Bool.not_not] at hg); try (exfalso; omega)))
          | ((with_reducible apply aw_cond); (· exact sv); all_goals (intro hg; (try simp only [decide_eq_true_eq, decide_eq_false_iff_not, Bool.not_true, Bool.not_false, Bool.not_eq_true', Bool.not_eq_false', Bool.not_not] at hg); try (exfalso; omega)))
          | ((with_reducible apply retQ_mk); (· (first | exact .inr rfl | exact .inl rfl)); (· exact sv); (· exact sv); rotate_left; (· rfl))
          | ((with_reducible apply wk_id); (with_reducible apply retQ_mk); (· (first | exact .inr rfl | exact .inl rfl)); (· exact sv); (· exact sv); rotate_left; (· rfl))
          | ((try with_reducible apply wk_id); (with_reducible apply retQ_mk1); (· (first | exact .inr rfl | exact .inl rfl)); (· exact sv); (· exact sv); (· exact sv); (· exact sv); rotate_left; rotate_left; (· simp); (· rfl))
          | ((try with_reducible apply wk_id); (with_reducible apply retQ_mk2); (· (first | exact .inr rfl | exact .inl rfl)); (· exact sv); (· exact sv); (· exact sv); (· exact sv); (· exact sv); (· exact sv); rotate_left; rotate_left; rotate_left; (· simp); (· simp); (· rfl)))
      refine LE_mk ((i + cn, dep, true)) ?_ ?_ sN sN sN
      · refine ⟨by simp only; omega, by simp only; omega, by simp only; omega, ?_⟩
        rw [hI]; congr 1; simp only; omega
      · simp only; omega
    by_cases hj : joinB (s[i] :: s.drop (i + 1)) = true
    · rw [hj] at c1
      rw [cmd, if_pos hj, List.drop_drop] at hI
      have hil2 : i + 1 < s.length := by
        rcases Nat.lt_or_ge (i + 1) s.length with h | h
        · exact h
        · rw [List.drop_eq_nil_of_le h] at hj; simp [joinB] at hj
      clear c4 hok c5 c6 hdv
      repeat' (first
          | ((with_reducible apply awO_ev); (· rfl); (· exact sv))
          | ((with_reducible apply awO_eqnil); (· rfl); (· rfl); (· exact sv); (· exact sv); (· exact svp); (· rfl); (· (first | decide | (simp only []; omega) | omega)); intro nb hnb; simp only [put_some])
          | ((with_reducible apply awO_neqnil); (· rfl); (· rfl); (· exact sv); (· exact sv); (· exact svp); (· rfl); (· (first | decide | (simp only []; omega) | omega)); intro nb hnb; simp only [put_some])
          | ((with_reducible apply aw_seq); intro _ _)
          | ((with_reducible apply aw_region))
          | ((with_reducible apply aw_block))
          | ((with_reducible apply awO_nil); (try simp only [CT, ↓reduceIte, Nat.reduceEqDiff]))
          | ((with_reducible apply aw_exit); (try simp only [CT, ↓reduceIte, Nat.reduceEqDiff]))
          | ((with_reducible apply aw_skip); (try simp only [CT, ↓reduceIte, Nat.reduceEqDiff]))
          | ((with_reducible apply aw_ret); (try simp only [CT, ↓reduceIte, Nat.reduceEqDiff]))
          | ((with_reducible apply awO_y); (· rfl); (· rfl); (· decide); (· exact sv); (· exact sv))
          | ((with_reducible apply awO_n); (· rfl); (· rfl); (· decide); (· exact sv); (· rfl); (· rfl); (· decide))
          | ((with_reducible apply awO_u); (· rfl); (· rfl); (· exact svr); (· rfl); (· decide))
          | ((with_reducible apply aw_cond_true); (· exact sv))
          | ((with_reducible apply aw_cond_false); (· exact sv))
          | (refine Kont.go ‹Kont _ _ _ _› _ ?_)
          | ((with_reducible apply awO_un); (· rfl); (· decide); (· exact sv))
          | ((with_reducible apply awO_c); (· rfl); (· rfl); (· exact sv); (· (first | with_reducible exact c1)); (· rfl); (· rfl); (· rfl); (· decide))
          | ((with_reducible apply awO_f); (· rfl); (· rfl); (· exact sv); (· exact sv); (· (first | with_reducible exact c1)); (· rfl); (· rfl); (· decide))
          | ((with_reducible apply awO_m); (· rfl); (· rfl); (· exact sv); (· (first | with_reducible exact c1)); (· exact svq); (· exact svq); (· exact svq); (· exact svq); (· rfl); (· (first | decide | (simp only []; omega) | omega)); (with_reducible apply awO_st); (· exact svs))
          | ((with_reducible apply awO_guard); (· rfl); (· rfl); (· exact sv); all_goals (intro hg; (try simp only [Bool.not_true, Bool.not_false]); (try simp only [decide_eq_true_eq, decide_eq_false_iff_not, Bool.not_true, Bool.not_false, Bool.not_eq_true', Bool.not_eq_false', Bool.not_not] at hg); try (exfalso; omega)))
          | ((with_reducible apply aw_cond); (· exact sv); all_goals (intro hg; (try simp only [decide_eq_true_eq, decide_eq_false_iff_not, Bool.not_true, Bool.not_false, Bool.not_eq_true', Bool.not_eq_false', Bool.not_not] at hg); try (exfalso; omega)))
          | ((with_reducible apply retQ_mk); (· (first | exact .inr rfl | exact .inl rfl)); (· exact sv); (· exact sv); rotate_left; (· rfl))
          | ((with_reducible apply wk_id); (with_reducible apply retQ_mk); (· (first | exact .inr rfl | exact .inl rfl)); (· exact sv); (· exact sv); rotate_left; (· rfl))
          | ((try with_reducible apply wk_id); (with_reducible apply retQ_mk1); (· (first | exact .inr rfl | exact .inl rfl)); (· exact sv); (· exact sv); (· exact sv); (· exact sv); rotate_left; rotate_left; (· simp); (· rfl))
          | ((try with_reducible apply wk_id); (with_reducible apply retQ_mk2); (· (first | exact .inr rfl | exact .inl rfl)); (· exact sv); (· exact sv); (· exact sv); (· exact sv); (· exact sv); (· exact sv); rotate_left; rotate_left; rotate_left; (· simp); (· simp); (· rfl)))
      all_goals (first
        | (exfalso; apply hcm; exact ⟨by omega, ‹_›⟩)
        | (refine LE_mk ((i + 2, dep, st)) ?_ ?_ sN sN sN
           · refine ⟨by simp only; omega, by simp only; omega, by simp only; omega, ?_⟩
             rw [hI]; congr 1; simp only; omega
           · simp only; omega))
    have hj' : joinB (s[i] :: s.drop (i + 1)) = false := by simpa using hj
    rw [hj'] at c1
    rw [cmd, if_neg hj, if_neg hcm] at hI
    by_cases hb : begB (s[i] :: s.drop (i + 1)) = true
    · rw [if_pos hb] at hI
      rw [pas_con (.inl rfl) hb] at c4 hok
      obtain ⟨n1, n2, n3, n4⟩ := beg_nodiv hb
      rw [n1] at hdv
      simp only [Bool.or_eq_false_iff, decide_eq_false_iff_not] at hdv
      obtain ⟨⟨d1, d2⟩, d3⟩ := hdv
      rw [d1] at c5
      rw [d3] at c6
      obtain ⟨k1, k2, k3, k4⟩ := hok
      simp only [List.length_cons, List.length_drop] at k1
      generalize hp : con (s[i] :: s.drop (i + 1)) 0 = p at *
      obtain ⟨pe, pr⟩ := p
      simp only at k1 k2 k3 k4 hI
      repeat' (first
          | ((with_reducible apply awO_ev); (· rfl); (· exact sv))
          | ((with_reducible apply awO_eqnil); (· rfl); (· rfl); (· exact sv); (· exact sv); (· exact svp); (· rfl); (· (first | decide | (simp only []; omega) | omega)); intro nb hnb; simp only [put_some])
          | ((with_reducible apply awO_neqnil); (· rfl); (· rfl); (· exact sv); (· exact sv); (· exact svp); (· rfl); (· (first | decide | (simp only []; omega) | omega)); intro nb hnb; simp only [put_some])
          | ((with_reducible apply aw_seq); intro _ _)
          | ((with_reducible apply aw_region))
          | ((with_reducible apply aw_block))
          | ((with_reducible apply awO_nil); (try simp only [CT, ↓reduceIte, Nat.reduceEqDiff]))
          | ((with_reducible apply aw_exit); (try simp only [CT, ↓reduceIte, Nat.reduceEqDiff]))
          | ((with_reducible apply aw_skip); (try simp only [CT, ↓reduceIte, Nat.reduceEqDiff]))
          | ((with_reducible apply aw_ret); (try simp only [CT, ↓reduceIte, Nat.reduceEqDiff]))
          | ((with_reducible apply awO_y); (· rfl); (· rfl); (· decide); (· exact sv); (· exact sv))
          | ((with_reducible apply awO_n); (· rfl); (· rfl); (· decide); (· exact sv); (· rfl); (· rfl); (· decide))
          | ((with_reducible apply awO_u); (· rfl); (· rfl); (· exact svr); (· rfl); (· decide))
          | ((with_reducible apply aw_cond_true); (· exact sv))
          | ((with_reducible apply aw_cond_false); (· exact sv))
          | (refine Kont.go ‹Kont _ _ _ _› _ ?_)
          | ((with_reducible apply awO_un); (· rfl); (· decide); (· exact sv))
          | ((with_reducible apply awO_c); (· rfl); (· rfl); (· exact sv); (· (first | with_reducible exact c1 | with_reducible exact c4 | with_reducible exact c5 | with_reducible exact c6)); (· rfl); (· rfl); (· rfl); (· decide))
          | ((with_reducible apply awO_f); (· rfl); (· rfl); (· exact sv); (· exact sv); (· (first | with_reducible exact c1 | with_reducible exact c4 | with_reducible exact c5 | with_reducible exact c6)); (· rfl); (· rfl); (· decide))
          | ((with_reducible apply awO_m); (· rfl); (· rfl); (· exact sv); (· (first | with_reducible exact c1 | with_reducible exact c4 | with_reducible exact c5 | with_reducible exact c6)); (· exact svq); (· exact svq); (· exact svq); (· exact svq); (· rfl); (· (first | decide | (simp only []; omega) | omega)); (with_reducible apply awO_st); (· exact svs))
          | ((with_reducible apply awO_guard); (· rfl); (· rfl); (· exact sv); all_goals (intro hg; (try simp only [Bool.not_true, Bool.not_false]); (try simp only [decide_eq_true_eq, decide_eq_false_iff_not, Bool.not_true, Bool.not_false, Bool.not_eq_true', Bool.not_eq_false', Bool.not_not] at hg); try (exfalso; omega)))
          | ((with_reducible apply aw_cond); (· exact sv); all_goals (intro hg; (try simp only [decide_eq_true_eq, decide_eq_false_iff_not, Bool.not_true, Bool.not_false, Bool.not_eq_true', Bool.not_eq_false', Bool.not_not] at hg); try (exfalso; omega)))
          | ((with_reducible apply retQ_mk); (· (first | exact .inr rfl | exact .inl rfl)); (· exact sv); (· exact sv); rotate_left; (· rfl))
          | ((with_reducible apply wk_id); (with_reducible apply retQ_mk); (· (first | exact .inr rfl | exact .inl rfl)); (· exact sv); (· exact sv); rotate_left; (· rfl))
          | ((try with_reducible apply wk_id); (with_reducible apply retQ_mk1); (· (first | exact .inr rfl | exact .inl rfl)); (· exact sv); (· exact sv); (· exact sv); (· exact sv); rotate_left; rotate_left; (· simp); (· rfl))
          | ((try with_reducible apply wk_id); (with_reducible apply retQ_mk2); (· (first | exact .inr rfl | exact .inl rfl)); (· exact sv); (· exact sv); (· exact sv); (· exact sv); (· exact sv); (· exact sv); rotate_left; rotate_left; rotate_left; (· simp); (· simp); (· rfl)))
      all_goals (first
        | (exfalso; omega)
        | (exfalso; apply hcm; exact ⟨by omega, ‹_›⟩)
        | (refine tp_mk (b := i - a + pe) ?_ (by omega); rw [hI, if_pos hg])
        | (refine LE_mk ((i + pe, dep, false)) ?_ ?_ sN sN sN
           · have := k2 hg
             refine ⟨by simp only; omega, by simp only; omega, by simp only; omega, ?_⟩
             rw [hI, if_neg (by simpa using hg), if_neg (by omega), drop_pas hil (by omega)]; congr 1; simp only; omega
           · have := k2 hg; simp only; omega))
    · have hb' : begB (s[i] :: s.drop (i + 1)) = false := by simpa using hb
      rw [if_neg hb] at hI
      rw [pas_one (.inr hb')] at c4
      clear hok
      by_cases he : s[i].toNat = 41 ∧ dep = 0
      · rw [if_pos he] at hI
        obtain ⟨h41, rfl⟩ := he
        repeat' (first
            | ((with_reducible apply awO_ev); (· rfl); (· exact sv))
            | ((with_reducible apply awO_eqnil); (· rfl); (· rfl); (· exact sv); (· exact sv); (· exact svp); (· rfl); (· (first | decide | (simp only []; omega) | omega)); intro nb hnb; simp only [put_some])
            | ((with_reducible apply awO_neqnil); (· rfl); (· rfl); (· exact sv); (· exact sv); (· exact svp); (· rfl); (· (first | decide | (simp only []; omega) | omega)); intro nb hnb; simp only [put_some])
            | ((with_reducible apply aw_seq); intro _ _)
            | ((with_reducible apply aw_region))
            | ((with_reducible apply aw_block))
            | ((with_reducible apply awO_nil); (try simp only [CT, ↓reduceIte, Nat.reduceEqDiff]))
            | ((with_reducible apply aw_exit); (try simp only [CT, ↓reduceIte, Nat.reduceEqDiff]))
            | ((with_reducible apply aw_skip); (try simp only [CT, ↓reduceIte, Nat.reduceEqDiff]))
            | ((with_reducible apply aw_ret); (try simp only [CT, ↓reduceIte, Nat.reduceEqDiff]))
            | ((with_reducible apply awO_y); (· rfl); (· rfl); (· decide); (· exact sv); (· exact sv))
            | ((with_reducible apply awO_n); (· rfl); (· rfl); (· decide); (· exact sv); (· rfl); (· rfl); (· decide))
            | ((with_reducible apply awO_u); (· rfl); (· rfl); (· exact svr); (· rfl); (· decide))
            | ((with_reducible apply aw_cond_true); (· exact sv))
            | ((with_reducible apply aw_cond_false); (· exact sv))
            | (refine Kont.go ‹Kont _ _ _ _› _ ?_)
            | ((with_reducible apply awO_un); (· rfl); (· decide); (· exact sv))
            | ((with_reducible apply awO_c); (· rfl); (· rfl); (· exact sv); (· (first | with_reducible exact c1)); (· rfl); (· rfl); (· rfl); (· decide))
            | ((with_reducible apply awO_f); (· rfl); (· rfl); (· exact sv); (· exact sv); (· (first | with_reducible exact c1)); (· rfl); (· rfl); (· decide))
            | ((with_reducible apply awO_m); (· rfl); (· rfl); (· exact sv); (· (first | with_reducible exact c1)); (· exact svq); (· exact svq); (· exact svq); (· exact svq); (· rfl); (· (first | decide | (simp only []; omega) | omega)); (with_reducible apply awO_st); (· exact svs))
            | ((with_reducible apply awO_guard); (· rfl); (· rfl); (· exact sv); all_goals (intro hg; (try simp only [Bool.not_true, Bool.not_false]); (try simp only [decide_eq_true_eq, decide_eq_false_iff_not, Bool.not_true, Bool.not_false, Bool.not_eq_true', Bool.not_eq_false', Bool.not_not] at hg); try (exfalso; omega)))
            | ((with_reducible apply aw_cond); (· exact sv); all_goals (intro hg; (try simp only [decide_eq_true_eq, decide_eq_false_iff_not, Bool.not_true, Bool.not_false, Bool.not_eq_true', Bool.not_eq_false', Bool.not_not] at hg); try (exfalso; omega)))
            | ((with_reducible apply retQ_mk); (· (first | exact .inr rfl | exact .inl rfl)); (· exact sv); (· exact sv); rotate_left; (· rfl))
            | ((with_reducible apply wk_id); (with_reducible apply retQ_mk); (· (first | exact .inr rfl | exact .inl rfl)); (· exact sv); (· exact sv); rotate_left; (· rfl))
            | ((try with_reducible apply wk_id); (with_reducible apply retQ_mk1); (· (first | exact .inr rfl | exact .inl rfl)); (· exact sv); (· exact sv); (· exact sv); (· exact sv); rotate_left; rotate_left; (· simp); (· rfl))
            | ((try with_reducible apply wk_id); (with_reducible apply retQ_mk2); (· (first | exact .inr rfl | exact .inl rfl)); (· exact sv); (· exact sv); (· exact sv); (· exact sv); (· exact sv); (· exact sv); rotate_left; rotate_left; rotate_left; (· simp); (· simp); (· rfl)))
        all_goals (first | (exfalso; omega) | exact tp_mk (b := i - a + 1) hI (by omega) | (exfalso; apply hcm; exact ⟨by omega, ‹_›⟩))
      · rw [if_neg he] at hI
        have hz : ∀ (st' : Bool) (dep' : Nat), st' = divB s[i] → dep' = (if s[i].toNat = 40 then dep + 1 else if s[i].toNat = 41 then dep - 1 else dep) → cmd (s.drop (a + 2)) 2 0 true = cmd (s.drop (i + 1)) (i + 1 - a) dep' st' := fun st' dep' h1 h2 => by
          rw [hI, h1, h2]; congr 1; omega
        cases hbl : blankB s[i] with
        | true =>
          have hst : divB s[i] = true := by rw [← hdv, hbl]; rfl
          rw [hbl] at c5
          repeat' (first
              | ((with_reducible apply awO_ev); (· rfl); (· exact sv))
              | ((with_reducible apply awO_eqnil); (· rfl); (· rfl); (· exact sv); (· exact sv); (· exact svp); (· rfl); (· (first | decide | (simp only []; omega) | omega)); intro nb hnb; simp only [put_some])
              | ((with_reducible apply awO_neqnil); (· rfl); (· rfl); (· exact sv); (· exact sv); (· exact svp); (· rfl); (· (first | decide | (simp only []; omega) | omega)); intro nb hnb; simp only [put_some])
              | ((with_reducible apply aw_seq); intro _ _)
              | ((with_reducible apply aw_region))
              | ((with_reducible apply aw_block))
              | ((with_reducible apply awO_nil); (try simp only [CT, ↓reduceIte, Nat.reduceEqDiff]))
              | ((with_reducible apply aw_exit); (try simp only [CT, ↓reduceIte, Nat.reduceEqDiff]))
              | ((with_reducible apply aw_skip); (try simp only [CT, ↓reduceIte, Nat.reduceEqDiff]))
              | ((with_reducible apply aw_ret); (try simp only [CT, ↓reduceIte, Nat.reduceEqDiff]))
              | ((with_reducible apply awO_y); (· rfl); (· rfl); (· decide); (· exact sv); (· exact sv))
              | ((with_reducible apply awO_n); (· rfl); (· rfl); (· decide); (· exact sv); (· rfl); (· rfl); (· decide))
              | ((with_reducible apply awO_u); (· rfl); (· rfl); (· exact svr); (· rfl); (· decide))
              | ((with_reducible apply aw_cond_true); (· exact sv))
              | ((with_reducible apply aw_cond_false); (· exact sv))
              | (refine Kont.go ‹Kont _ _ _ _› _ ?_)
              | ((with_reducible apply awO_un); (· rfl); (· decide); (· exact sv))
              | ((with_reducible apply awO_c); (· rfl); (· rfl); (· exact sv); (· (first | with_reducible exact c1 | with_reducible exact c4 | with_reducible exact c5 | with_reducible exact c6)); (· rfl); (· rfl); (· rfl); (· decide))
              | ((with_reducible apply awO_f); (· rfl); (· rfl); (· exact sv); (· exact sv); (· (first | with_reducible exact c1 | with_reducible exact c4 | with_reducible exact c5 | with_reducible exact c6)); (· rfl); (· rfl); (· decide))
              | ((with_reducible apply awO_m); (· rfl); (· rfl); (· exact sv); (· (first | with_reducible exact c1 | with_reducible exact c4 | with_reducible exact c5 | with_reducible exact c6)); (· exact svq); (· exact svq); (· exact svq); (· exact svq); (· rfl); (· (first | decide | (simp only []; omega) | omega)); (with_reducible apply awO_st); (· exact svs))
              | ((with_reducible apply awO_guard); (· rfl); (· rfl); (· exact sv); all_goals (intro hg; (try simp only [Bool.not_true, Bool.not_false]); (try simp only [decide_eq_true_eq, decide_eq_false_iff_not, Bool.not_true, Bool.not_false, Bool.not_eq_true', Bool.not_eq_false', Bool.not_not] at hg); try (exfalso; omega)))
              | ((with_reducible apply aw_cond); (· exact sv); all_goals (intro hg; (try simp only [decide_eq_true_eq, decide_eq_false_iff_not, Bool.not_true, Bool.not_false, Bool.not_eq_true', Bool.not_eq_false', Bool.not_not] at hg); try (exfalso; omega)))
              | ((with_reducible apply retQ_mk); (· (first | exact .inr rfl | exact .inl rfl)); (· exact sv); (· exact sv); rotate_left; (· rfl))
              | ((with_reducible apply wk_id); (with_reducible apply retQ_mk); (· (first | exact .inr rfl | exact .inl rfl)); (· exact sv); (· exact sv); rotate_left; (· rfl))
              | ((try with_reducible apply wk_id); (with_reducible apply retQ_mk1); (· (first | exact .inr rfl | exact .inl rfl)); (· exact sv); (· exact sv); (· exact sv); (· exact sv); rotate_left; rotate_left; (· simp); (· rfl))
              | ((try with_reducible apply wk_id); (with_reducible apply retQ_mk2); (· (first | exact .inr rfl | exact .inl rfl)); (· exact sv); (· exact sv); (· exact sv); (· exact sv); (· exact sv); (· exact sv); rotate_left; rotate_left; rotate_left; (· simp); (· simp); (· rfl)))
          all_goals (first
            | (exfalso; omega)
            | (exfalso; apply hcm; exact ⟨by omega, ‹_›⟩)
            | (refine LE_mk ((i + 1, dep + 1, true)) ?_ ?_ sN sN sN
               · exact ⟨by simp only; omega, by simp only; omega, by simp only; omega, hz true (dep + 1) hst.symm (by rw [if_pos (by omega)])⟩
               · simp only; omega)
            | (refine LE_mk ((i + 1, dep - 1, true)) ?_ ?_ sN sN sN
               · exact ⟨by simp only; omega, by simp only; omega, by simp only; omega, hz true (dep - 1) hst.symm (by rw [if_neg (by omega), if_pos (by omega)])⟩
               · simp only; omega)
            | (refine LE_mk ((i + 1, dep, true)) ?_ ?_ sN sN sN
               · exact ⟨by simp only; omega, by simp only; omega, by simp only; omega, hz true (dep) hst.symm (by rw [if_neg (by omega), if_neg (by omega)])⟩
               · simp only; omega))
        | false =>
          rw [hbl] at c5
          by_cases h10 : s[i].toNat = 10
          · have hst : divB s[i] = true := by rw [← hdv, decide_eq_true h10]; simp
            repeat' (first
                | ((with_reducible apply awO_ev); (· rfl); (· exact sv))
                | ((with_reducible apply awO_eqnil); (· rfl); (· rfl); (· exact sv); (· exact sv); (· exact svp); (· rfl); (· (first | decide | (simp only []; omega) | omega)); intro nb hnb; simp only [put_some])
                | ((with_reducible apply awO_neqnil); (· rfl); (· rfl); (· exact sv); (· exact sv); (· exact svp); (· rfl); (· (first | decide | (simp only []; omega) | omega)); intro nb hnb; simp only [put_some])
                | ((with_reducible apply aw_seq); intro _ _)
                | ((with_reducible apply aw_region))
                | ((with_reducible apply aw_block))
                | ((with_reducible apply awO_nil); (try simp only [CT, ↓reduceIte, Nat.reduceEqDiff]))
                | ((with_reducible apply aw_exit); (try simp only [CT, ↓reduceIte, Nat.reduceEqDiff]))
                | ((with_reducible apply aw_skip); (try simp only [CT, ↓reduceIte, Nat.reduceEqDiff]))
                | ((with_reducible apply aw_ret); (try simp only [CT, ↓reduceIte, Nat.reduceEqDiff]))
                | ((with_reducible apply awO_y); (· rfl); (· rfl); (· decide); (· exact sv); (· exact sv))
                | ((with_reducible apply awO_n); (· rfl); (· rfl); (· decide); (· exact sv); (· rfl); (· rfl); (· decide))
                | ((with_reducible apply awO_u); (· rfl); (· rfl); (· exact svr); (· rfl); (· decide))
                | ((with_reducible apply aw_cond_true); (· exact sv))
                | ((with_reducible apply aw_cond_false); (· exact sv))
                | (refine Kont.go ‹Kont _ _ _ _› _ ?_)
                | ((with_reducible apply awO_un); (· rfl); (· decide); (· exact sv))
                | ((with_reducible apply awO_c); (· rfl); (· rfl); (· exact sv); (· (first | with_reducible exact c1 | with_reducible exact c4 | with_reducible exact c5 | with_reducible exact c6)); (· rfl); (· rfl); (· rfl); (· decide))
                | ((with_reducible apply awO_f); (· rfl); (· rfl); (· exact sv); (· exact sv); (· (first | with_reducible exact c1 | with_reducible exact c4 | with_reducible exact c5 | with_reducible exact c6)); (· rfl); (· rfl); (· decide))
                | ((with_reducible apply awO_m); (· rfl); (· rfl); (· exact sv); (· (first | with_reducible exact c1 | with_reducible exact c4 | with_reducible exact c5 | with_reducible exact c6)); (· exact svq); (· exact svq); (· exact svq); (· exact svq); (· rfl); (· (first | decide | (simp only []; omega) | omega)); (with_reducible apply awO_st); (· exact svs))
                | ((with_reducible apply awO_guard); (· rfl); (· rfl); (· exact sv); all_goals (intro hg; (try simp only [Bool.not_true, Bool.not_false]); (try simp only [decide_eq_true_eq, decide_eq_false_iff_not, Bool.not_true, Bool.not_false, Bool.not_eq_true', Bool.not_eq_false', Bool.not_not] at hg); try (exfalso; omega)))
                | ((with_reducible apply aw_cond); (· exact sv); all_goals (intro hg; (try simp only [decide_eq_true_eq, decide_eq_false_iff_not, Bool.not_true, Bool.not_false, Bool.not_eq_true', Bool.not_eq_false', Bool.not_not] at hg); try (exfalso; omega)))
                | ((with_reducible apply retQ_mk); (· (first | exact .inr rfl | exact .inl rfl)); (· exact sv); (· exact sv); rotate_left; (· rfl))
                | ((with_reducible apply wk_id); (with_reducible apply retQ_mk); (· (first | exact .inr rfl | exact .inl rfl)); (· exact sv); (· exact sv); rotate_left; (· rfl))
                | ((try with_reducible apply wk_id); (with_reducible apply retQ_mk1); (· (first | exact .inr rfl | exact .inl rfl)); (· exact sv); (· exact sv); (· exact sv); (· exact sv); rotate_left; rotate_left; (· simp); (· rfl))
                | ((try with_reducible apply wk_id); (with_reducible apply retQ_mk2); (· (first | exact .inr rfl | exact .inl rfl)); (· exact sv); (· exact sv); (· exact sv); (· exact sv); (· exact sv); (· exact sv); rotate_left; rotate_left; rotate_left; (· simp); (· simp); (· rfl)))
            all_goals (first
              | (exfalso; omega)
              | (exfalso; apply hcm; exact ⟨by omega, ‹_›⟩)
              | (refine LE_mk ((i + 1, dep + 1, true)) ?_ ?_ sN sN sN
                 · exact ⟨by simp only; omega, by simp only; omega, by simp only; omega, hz true (dep + 1) hst.symm (by rw [if_pos (by omega)])⟩
                 · simp only; omega)
              | (refine LE_mk ((i + 1, dep - 1, true)) ?_ ?_ sN sN sN
                 · exact ⟨by simp only; omega, by simp only; omega, by simp only; omega, hz true (dep - 1) hst.symm (by rw [if_neg (by omega), if_pos (by omega)])⟩
                 · simp only; omega)
              | (refine LE_mk ((i + 1, dep, true)) ?_ ?_ sN sN sN
                 · exact ⟨by simp only; omega, by simp only; omega, by simp only; omega, hz true (dep) hst.symm (by rw [if_neg (by omega), if_neg (by omega)])⟩
                 · simp only; omega))
          · cases hop : opB s[i] with
            | true =>
              have hst : divB s[i] = true := by rw [← hdv, hop]; simp
              rw [hop] at c6
              repeat' (first
                  | ((with_reducible apply awO_ev); (· rfl); (· exact sv))
                  | ((with_reducible apply awO_eqnil); (· rfl); (· rfl); (· exact sv); (· exact sv); (· exact svp); (· rfl); (· (first | decide | (simp only []; omega) | omega)); intro nb hnb; simp only [put_some])
                  | ((with_reducible apply awO_neqnil); (· rfl); (· rfl); (· exact sv); (· exact sv); (· exact svp); (· rfl); (· (first | decide | (simp only []; omega) | omega)); intro nb hnb; simp only [put_some])
                  | ((with_reducible apply aw_seq); intro _ _)
                  | ((with_reducible apply aw_region))
                  | ((with_reducible apply aw_block))
                  | ((with_reducible apply awO_nil); (try simp only [CT, ↓reduceIte, Nat.reduceEqDiff]))
                  | ((with_reducible apply aw_exit); (try simp only [CT, ↓reduceIte, Nat.reduceEqDiff]))
                  | ((with_reducible apply aw_skip); (try simp only [CT, ↓reduceIte, Nat.reduceEqDiff]))
                  | ((with_reducible apply aw_ret); (try simp only [CT, ↓reduceIte, Nat.reduceEqDiff]))
                  | ((with_reducible apply awO_y); (· rfl); (· rfl); (· decide); (· exact sv); (· exact sv))
                  | ((with_reducible apply awO_n); (· rfl); (· rfl); (· decide); (· exact sv); (· rfl); (· rfl); (· decide))
                  | ((with_reducible apply awO_u); (· rfl); (· rfl); (· exact svr); (· rfl); (· decide))
                  | ((with_reducible apply aw_cond_true); (· exact sv))
                  | ((with_reducible apply aw_cond_false); (· exact sv))
                  | (refine Kont.go ‹Kont _ _ _ _› _ ?_)
                  | ((with_reducible apply awO_un); (· rfl); (· decide); (· exact sv))
                  | ((with_reducible apply awO_c); (· rfl); (· rfl); (· exact sv); (· (first | with_reducible exact c1 | with_reducible exact c4 | with_reducible exact c5 | with_reducible exact c6)); (· rfl); (· rfl); (· rfl); (· decide))
                  | ((with_reducible apply awO_f); (· rfl); (· rfl); (· exact sv); (· exact sv); (· (first | with_reducible exact c1 | with_reducible exact c4 | with_reducible exact c5 | with_reducible exact c6)); (· rfl); (· rfl); (· decide))
                  | ((with_reducible apply awO_m); (· rfl); (· rfl); (· exact sv); (· (first | with_reducible exact c1 | with_reducible exact c4 | with_reducible exact c5 | with_reducible exact c6)); (· exact svq); (· exact svq); (· exact svq); (· exact svq); (· rfl); (· (first | decide | (simp only []; omega) | omega)); (with_reducible apply awO_st); (· exact svs))
                  | ((with_reducible apply awO_guard); (· rfl); (· rfl); (· exact sv); all_goals (intro hg; (try simp only [Bool.not_true, Bool.not_false]); (try simp only [decide_eq_true_eq, decide_eq_false_iff_not, Bool.not_true, Bool.not_false, Bool.not_eq_true', Bool.not_eq_false', Bool.not_not] at hg); try (exfalso; omega)))
                  | ((with_reducible apply aw_cond); (· exact sv); all_goals (intro hg; (try simp only [decide_eq_true_eq, decide_eq_false_iff_not, Bool.not_true, Bool.not_false, Bool.not_eq_true', Bool.not_eq_false', Bool.not_not] at hg); try (exfalso; omega)))
                  | ((with_reducible apply retQ_mk); (· (first | exact .inr rfl | exact .inl rfl)); (· exact sv); (· exact sv); rotate_left; (· rfl))
                  | ((with_reducible apply wk_id); (with_reducible apply retQ_mk); (· (first | exact .inr rfl | exact .inl rfl)); (· exact sv); (· exact sv); rotate_left; (· rfl))
                  | ((try with_reducible apply wk_id); (with_reducible apply retQ_mk1); (· (first | exact .inr rfl | exact .inl rfl)); (· exact sv); (· exact sv); (· exact sv); (· exact sv); rotate_left; rotate_left; (· simp); (· rfl))
                  | ((try with_reducible apply wk_id); (with_reducible apply retQ_mk2); (· (first | exact .inr rfl | exact .inl rfl)); (· exact sv); (· exact sv); (· exact sv); (· exact sv); (· exact sv); (· exact sv); rotate_left; rotate_left; rotate_left; (· simp); (· simp); (· rfl)))
              all_goals (first
                | (exfalso; omega)
                | (exfalso; apply hcm; exact ⟨by omega, ‹_›⟩)
                | (refine LE_mk ((i + 1, dep + 1, true)) ?_ ?_ sN sN sN
                   · exact ⟨by simp only; omega, by simp only; omega, by simp only; omega, hz true (dep + 1) hst.symm (by rw [if_pos (by omega)])⟩
                   · simp only; omega)
                | (refine LE_mk ((i + 1, dep - 1, true)) ?_ ?_ sN sN sN
                   · exact ⟨by simp only; omega, by simp only; omega, by simp only; omega, hz true (dep - 1) hst.symm (by rw [if_neg (by omega), if_pos (by omega)])⟩
                   · simp only; omega)
                | (refine LE_mk ((i + 1, dep, true)) ?_ ?_ sN sN sN
                   · exact ⟨by simp only; omega, by simp only; omega, by simp only; omega, hz true (dep) hst.symm (by rw [if_neg (by omega), if_neg (by omega)])⟩
                   · simp only; omega))
            | false =>
              have hst : divB s[i] = false := by rw [← hdv, hop, hbl, decide_eq_false h10]; rfl
              rw [hop] at c6
              repeat' (first
                  | ((with_reducible apply awO_ev); (· rfl); (· exact sv))
                  | ((with_reducible apply awO_eqnil); (· rfl); (· rfl); (· exact sv); (· exact sv); (· exact svp); (· rfl); (· (first | decide | (simp only []; omega) | omega)); intro nb hnb; simp only [put_some])
                  | ((with_reducible apply awO_neqnil); (· rfl); (· rfl); (· exact sv); (· exact sv); (· exact svp); (· rfl); (· (first | decide | (simp only []; omega) | omega)); intro nb hnb; simp only [put_some])
                  | ((with_reducible apply aw_seq); intro _ _)
                  | ((with_reducible apply aw_region))
                  | ((with_reducible apply aw_block))
                  | ((with_reducible apply awO_nil); (try simp only [CT, ↓reduceIte, Nat.reduceEqDiff]))
                  | ((with_reducible apply aw_exit); (try simp only [CT, ↓reduceIte, Nat.reduceEqDiff]))
                  | ((with_reducible apply aw_skip); (try simp only [CT, ↓reduceIte, Nat.reduceEqDiff]))
                  | ((with_reducible apply aw_ret); (try simp only [CT, ↓reduceIte, Nat.reduceEqDiff]))
                  | ((with_reducible apply awO_y); (· rfl); (· rfl); (· decide); (· exact sv); (· exact sv))
                  | ((with_reducible apply awO_n); (· rfl); (· rfl); (· decide); (· exact sv); (· rfl); (· rfl); (· decide))
                  | ((with_reducible apply awO_u); (· rfl); (· rfl); (· exact svr); (· rfl); (· decide))
                  | ((with_reducible apply aw_cond_true); (· exact sv))
                  | ((with_reducible apply aw_cond_false); (· exact sv))
                  | (refine Kont.go ‹Kont _ _ _ _› _ ?_)
                  | ((with_reducible apply awO_un); (· rfl); (· decide); (· exact sv))
                  | ((with_reducible apply awO_c); (· rfl); (· rfl); (· exact sv); (· (first | with_reducible exact c1 | with_reducible exact c4 | with_reducible exact c5 | with_reducible exact c6)); (· rfl); (· rfl); (· rfl); (· decide))
                  | ((with_reducible apply awO_f); (· rfl); (· rfl); (· exact sv); (· exact sv); (· (first | with_reducible exact c1 | with_reducible exact c4 | with_reducible exact c5 | with_reducible exact c6)); (· rfl); (· rfl); (· decide))
                  | ((with_reducible apply awO_m); (· rfl); (· rfl); (· exact sv); (· (first | with_reducible exact c1 | with_reducible exact c4 | with_reducible exact c5 | with_reducible exact c6)); (· exact svq); (· exact svq); (· exact svq); (· exact svq); (· rfl); (· (first | decide | (simp only []; omega) | omega)); (with_reducible apply awO_st); (· exact svs))
                  | ((with_reducible apply awO_guard); (· rfl); (· rfl); (· exact sv); all_goals (intro hg; (try simp only [Bool.not_true, Bool.not_false]); (try simp only [decide_eq_true_eq, decide_eq_false_iff_not, Bool.not_true, Bool.not_false, Bool.not_eq_true', Bool.not_eq_false', Bool.not_not] at hg); try (exfalso; omega)))
                  | ((with_reducible apply aw_cond); (· exact sv); all_goals (intro hg; (try simp only [decide_eq_true_eq, decide_eq_false_iff_not, Bool.not_true, Bool.not_false, Bool.not_eq_true', Bool.not_eq_false', Bool.not_not] at hg); try (exfalso; omega)))
                  | ((with_reducible apply retQ_mk); (· (first | exact .inr rfl | exact .inl rfl)); (· exact sv); (· exact sv); rotate_left; (· rfl))
                  | ((with_reducible apply wk_id); (with_reducible apply retQ_mk); (· (first | exact .inr rfl | exact .inl rfl)); (· exact sv); (· exact sv); rotate_left; (· rfl))
                  | ((try with_reducible apply wk_id); (with_reducible apply retQ_mk1); (· (first | exact .inr rfl | exact .inl rfl)); (· exact sv); (· exact sv); (· exact sv); (· exact sv); rotate_left; rotate_left; (· simp); (· rfl))
                  | ((try with_reducible apply wk_id); (with_reducible apply retQ_mk2); (· (first | exact .inr rfl | exact .inl rfl)); (· exact sv); (· exact sv); (· exact sv); (· exact sv); (· exact sv); (· exact sv); rotate_left; rotate_left; rotate_left; (· simp); (· simp); (· rfl)))
              all_goals (first
                | (exfalso; omega)
                | (exfalso; apply hcm; exact ⟨by omega, ‹_›⟩)
                | (refine LE_mk ((i + 1, dep + 1, false)) ?_ ?_ sN sN sN
                   · exact ⟨by simp only; omega, by simp only; omega, by simp only; omega, hz false (dep + 1) hst.symm (by rw [if_pos (by omega)])⟩
                   · simp only; omega)
                | (refine LE_mk ((i + 1, dep - 1, false)) ?_ ?_ sN sN sN
                   · exact ⟨by simp only; omega, by simp only; omega, by simp only; omega, hz false (dep - 1) hst.symm (by rw [if_neg (by omega), if_pos (by omega)])⟩
                   · simp only; omega)
                | (refine LE_mk ((i + 1, dep, false)) ?_ ?_ sN sN sN
                   · exact ⟨by simp only; omega, by simp only; omega, by simp only; omega, hz false (dep) hst.symm (by rw [if_neg (by omega), if_neg (by omega)])⟩
                   · simp only; omega))
  · rw [List.drop_eq_nil_of_le (by omega : s.length ≤ i)] at hI
    repeat' (first
        | ((with_reducible apply awO_ev); (· rfl); (· exact sv))
        | ((with_reducible apply awO_eqnil); (· rfl); (· rfl); (· exact sv); (· exact sv); (· exact svp); (· rfl); (· (first | decide | (simp only []; omega) | omega)); intro nb hnb; simp only [put_some])
        | ((with_reducible apply awO_neqnil); (· rfl); (· rfl); (· exact sv); (· exact sv); (· exact svp); (· rfl); (· (first | decide | (simp only []; omega) | omega)); intro nb hnb; simp only [put_some])
        | ((with_reducible apply aw_seq); intro _ _)
        | ((with_reducible apply aw_region))
        | ((with_reducible apply aw_block))
        | ((with_reducible apply awO_nil); (try simp only [CT, ↓reduceIte, Nat.reduceEqDiff]))
        | ((with_reducible apply aw_exit); (try simp only [CT, ↓reduceIte, Nat.reduceEqDiff]))
        | ((with_reducible apply aw_skip); (try simp only [CT, ↓reduceIte, Nat.reduceEqDiff]))
        | ((with_reducible apply aw_ret); (try simp only [CT, ↓reduceIte, Nat.reduceEqDiff]))
        | ((with_reducible apply awO_y); (· rfl); (· rfl); (· decide); (· exact sv); (· exact sv))
        | ((with_reducible apply awO_n); (· rfl); (· rfl); (· decide); (· exact sv); (· rfl); (· rfl); (· decide))
        | ((with_reducible apply awO_u); (· rfl); (· rfl); (· exact svr); (· rfl); (· decide))
        | ((with_reducible apply aw_cond_true); (· exact sv))
        | ((with_reducible apply aw_cond_false); (· exact sv))
        | (refine Kont.go ‹Kont _ _ _ _› _ ?_)
        | ((with_reducible apply awO_guard); (· rfl); (· rfl); (· exact sv); all_goals (intro hg; (try simp only [Bool.not_true, Bool.not_false]); (try simp only [decide_eq_true_eq, decide_eq_false_iff_not, Bool.not_true, Bool.not_false, Bool.not_eq_true', Bool.not_eq_false', Bool.not_not] at hg); try (exfalso; omega)))
        | ((with_reducible apply aw_cond); (· exact sv); all_goals (intro hg; (try simp only [decide_eq_true_eq, decide_eq_false_iff_not, Bool.not_true, Bool.not_false, Bool.not_eq_true', Bool.not_eq_false', Bool.not_not] at hg); try (exfalso; omega)))
        | ((with_reducible apply retQ_mk); (· (first | exact .inr rfl | exact .inl rfl)); (· exact sv); (· exact sv); rotate_left; (· rfl))
        | ((with_reducible apply wk_id); (with_reducible apply retQ_mk); (· (first | exact .inr rfl | exact .inl rfl)); (· exact sv); (· exact sv); rotate_left; (· rfl))
        | ((try with_reducible apply wk_id); (with_reducible apply retQ_mk1); (· (first | exact .inr rfl | exact .inl rfl)); (· exact sv); (· exact sv); (· exact sv); (· exact sv); rotate_left; rotate_left; (· simp); (· rfl))
        | ((try with_reducible apply wk_id); (with_reducible apply retQ_mk2); (· (first | exact .inr rfl | exact .inl rfl)); (· exact sv); (· exact sv); (· exact sv); (· exact sv); (· exact sv); (· exact sv); rotate_left; rotate_left; rotate_left; (· simp); (· simp); (· rfl)))
    refine tp_mk (b := 0) ?_ (by omega); rw [hI]; simp [cmd]
end
end Go.Proofs.Ytikolicdgkckeaa
