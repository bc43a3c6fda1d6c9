/- The laws TtyKeys and TtyParts, on the abstract machine. -/
import Derived.Test.YtnnggogelnafnaaTtJ
namespace Go.Proofs.Ytnnggogelnafnaa
open Go.RowKit
set_option linter.unusedVariables false
set_option linter.unusedSimpArgs false
set_option maxRecDepth 100000
set_option maxHeartbeats 8000000
theorem ttyKeys_ab (t : Tty) (b : UInt8) (s : List UInt8) (h : TBd t) (hs : s.length ≤ 140737488351232) : Ab Try.prog 6 [dT t, au b, az s] (ab true) := by
  obtain ⟨h1, h2, h3, h4⟩ := h.w
  have c1 := small_ab t h1 h2 h3 h4
  have c2 := rvalid_ab t h1 h2 h3 h4
  cases hsm : smallB t with
  | false =>
    rw [hsm] at c1
    clear h h1 h2 h3 h4
    refine Fn_of_aw (keep := []) Try.func6 rfl rfl (by simp [Try.ntmps6]) ?_
    simp only [num_cons, num_nil, Try.ntmps6, Try.results6]
    repeat' (first
        | ((with_reducible apply awO_ev); (· rfl); (· exact sv))
        | ((with_reducible apply awO_eqnil); (· rfl); (· rfl); (· exact sv); (· exact sv); (· exact svp); (· rfl); (· (first | decide | (simp only []; omega) | omega)); intro nb hnb; simp only [put_some])
        | ((with_reducible apply awO_neqnil); (· rfl); (· rfl); (· exact sv); (· exact sv); (· exact svp); (· rfl); (· (first | decide | (simp only []; omega) | omega)); intro nb hnb; simp only [put_some])
        | ((with_reducible apply aw_seq); intro _ _)
        | ((with_reducible apply aw_region))
        | ((with_reducible apply aw_block))
        | ((with_reducible apply awO_nil); (try simp only [CT, ↓reduceIte, Nat.reduceEqDiff]))
        | ((with_reducible apply aw_exit); (try simp only [CT, ↓reduceIte, Nat.reduceEqDiff]))
        | ((with_reducible apply aw_skip); (try simp only [CT, ↓reduceIte, Nat.reduceEqDiff]))
        | ((with_reducible apply aw_ret); (try simp only [CT, ↓reduceIte, Nat.reduceEqDiff]))
        | ((with_reducible apply awO_y); (· rfl); (· rfl); (· decide); (· exact sv); (· exact sv))
        | ((with_reducible apply awO_n); (· rfl); (· rfl); (· decide); (· exact sv); (· rfl); (· rfl); (· decide))
        | ((with_reducible apply awO_u); (· rfl); (· rfl); (· exact svr); (· rfl); (· decide))
        | ((with_reducible apply aw_cond_true); (· exact sv))
        | ((with_reducible apply aw_cond_false); (· exact sv))
        | (refine Kont.go ‹Kont _ _ _ _› _ ?_)
        | ((with_reducible apply awO_un); (· rfl); (· decide); (· exact sv))
        | ((with_reducible apply awO_c); (· rfl); (· rfl); (· exact sv); (· (first | with_reducible exact c1 | with_reducible exact awake_ab)); (· rfl); (· rfl); (· rfl); (· decide))
        | ((with_reducible apply awO_f); (· rfl); (· rfl); (· exact sv); (· exact sv); (· (first | with_reducible exact c1 | with_reducible exact awake_ab)); (· rfl); (· rfl); (· decide))
        | ((with_reducible apply awO_m); (· rfl); (· rfl); (· exact sv); (· (first | with_reducible exact c1 | with_reducible exact awake_ab)); (· exact svq); (· exact svq); (· exact svq); (· exact svq); (· rfl); (· (first | decide | (simp only []; omega) | omega)); (with_reducible apply awO_st); (· exact svs))
        | ((with_reducible apply awO_guard); (· rfl); (· rfl); (· exact sv); all_goals (intro hg; (try simp only [Bool.not_true, Bool.not_false]); (try simp only [decide_eq_true_eq, decide_eq_false_iff_not, Bool.not_true, Bool.not_false, Bool.not_eq_true', Bool.not_eq_false', Bool.not_not] at hg); try (exfalso; omega)))
        | ((with_reducible apply aw_cond); (· exact sv); all_goals (intro hg; (try simp only [decide_eq_true_eq, decide_eq_false_iff_not, Bool.not_true, Bool.not_false, Bool.not_eq_true', Bool.not_eq_false', Bool.not_not] at hg); try (exfalso; omega)))
        | ((with_reducible apply retQ_mk); (· (first | exact .inr rfl | exact .inl rfl)); (· exact sv); (· exact sv); rotate_left; (· rfl))
        | ((with_reducible apply wk_id); (with_reducible apply retQ_mk); (· (first | exact .inr rfl | exact .inl rfl)); (· exact sv); (· exact sv); rotate_left; (· rfl))
        | ((try with_reducible apply wk_id); (with_reducible apply retQ_mk1); (· (first | exact .inr rfl | exact .inl rfl)); (· exact sv); (· exact sv); (· exact sv); (· exact sv); rotate_left; rotate_left; (· simp); (· rfl))
        | ((try with_reducible apply wk_id); (with_reducible apply retQ_mk2); (· (first | exact .inr rfl | exact .inl rfl)); (· exact sv); (· exact sv); (· exact sv); (· exact sv); (· exact sv); (· exact sv); rotate_left; rotate_left; rotate_left; (· simp); (· simp); (· rfl)))
    all_goals rfl
  | true =>
    rw [hsm] at c1
    obtain ⟨b1, b2, b3, b4⟩ := small_bd hsm
    clear h h1 h2 h3 h4
    by_cases hv : tErr t = 0
    · rw [hv] at c2
      by_cases hl : s.length ≤ 300
      · have c3 := key_ab t b (by omega) (by omega)
        have c4 := rkey_ab t b (by omega) (by omega)
        have c5 := same_self (keyF t b).1 (keyF_lines t b (by omega))
        have c6 := feed_ab t s (by omega) (by omega) (by omega)
        have c7 := rfeed_ab t s (by omega) (by omega) (by omega)
        have c8 := same_self (feedF t s).1 (feedF_lines s t (by omega))
        have c9 := numbers_self (feedF t s).2 (by have := feedF_sigs s t; omega)
        clear hv hsm b4
        refine Fn_of_aw (keep := []) Try.func6 rfl rfl (by simp [Try.ntmps6]) ?_
        simp only [num_cons, num_nil, Try.ntmps6, Try.results6]
        repeat' (first
            | ((with_reducible apply awO_ev); (· rfl); (· exact sv))
            | ((with_reducible apply awO_eqnil); (· rfl); (· rfl); (· exact sv); (· exact sv); (· exact svp); (· rfl); (· (first | decide | (simp only []; omega) | omega)); intro nb hnb; simp only [put_some])
            | ((with_reducible apply awO_neqnil); (· rfl); (· rfl); (· exact sv); (· exact sv); (· exact svp); (· rfl); (· (first | decide | (simp only []; omega) | omega)); intro nb hnb; simp only [put_some])
            | ((with_reducible apply aw_seq); intro _ _)
            | ((with_reducible apply aw_region))
            | ((with_reducible apply aw_block))
            | ((with_reducible apply awO_nil); (try simp only [CT, ↓reduceIte, Nat.reduceEqDiff]))
            | ((with_reducible apply aw_exit); (try simp only [CT, ↓reduceIte, Nat.reduceEqDiff]))
            | ((with_reducible apply aw_skip); (try simp only [CT, ↓reduceIte, Nat.reduceEqDiff]))
            | ((with_reducible apply aw_ret); (try simp only [CT, ↓reduceIte, Nat.reduceEqDiff]))
            | ((with_reducible apply awO_y); (· rfl); (· rfl); (· decide); (· exact sv); (· exact sv))
            | ((with_reducible apply awO_n); (· rfl); (· rfl); (· decide); (· exact sv); (· rfl); (· rfl); (· decide))
            | ((with_reducible apply awO_u); (· rfl); (· rfl); (· exact svr); (· rfl); (· decide))
            | ((with_reducible apply aw_cond_true); (· exact sv))
            | ((with_reducible apply aw_cond_false); (· exact sv))
            | (refine Kont.go ‹Kont _ _ _ _› _ ?_)
            | ((with_reducible apply awO_un); (· rfl); (· decide); (· exact sv))
            | ((with_reducible apply awO_c); (· rfl); (· rfl); (· exact sv); (· (first | with_reducible exact c1 | with_reducible exact c2 | with_reducible exact c3 | with_reducible exact c4 | with_reducible exact c5 | with_reducible exact c6 | with_reducible exact c7 | with_reducible exact c8 | with_reducible exact c9 | with_reducible exact awake_ab)); (· rfl); (· rfl); (· rfl); (· decide))
            | ((with_reducible apply awO_f); (· rfl); (· rfl); (· exact sv); (· exact sv); (· (first | with_reducible exact c1 | with_reducible exact c2 | with_reducible exact c3 | with_reducible exact c4 | with_reducible exact c5 | with_reducible exact c6 | with_reducible exact c7 | with_reducible exact c8 | with_reducible exact c9 | with_reducible exact awake_ab)); (· rfl); (· rfl); (· decide))
            | ((with_reducible apply awO_m); (· rfl); (· rfl); (· exact sv); (· (first | with_reducible exact c1 | with_reducible exact c2 | with_reducible exact c3 | with_reducible exact c4 | with_reducible exact c5 | with_reducible exact c6 | with_reducible exact c7 | with_reducible exact c8 | with_reducible exact c9 | with_reducible exact awake_ab)); (· exact svq); (· exact svq); (· exact svq); (· exact svq); (· rfl); (· (first | decide | (simp only []; omega) | omega)); (with_reducible apply awO_st); (· exact svs))
            | ((with_reducible apply awO_guard); (· rfl); (· rfl); (· exact sv); all_goals (intro hg; (try simp only [Bool.not_true, Bool.not_false]); (try simp only [decide_eq_true_eq, decide_eq_false_iff_not, Bool.not_true, Bool.not_false, Bool.not_eq_true', Bool.not_eq_false', Bool.not_not] at hg); try (exfalso; omega)))
            | ((with_reducible apply aw_cond); (· exact sv); all_goals (intro hg; (try simp only [decide_eq_true_eq, decide_eq_false_iff_not, Bool.not_true, Bool.not_false, Bool.not_eq_true', Bool.not_eq_false', Bool.not_not] at hg); try (exfalso; omega)))
            | ((with_reducible apply retQ_mk); (· (first | exact .inr rfl | exact .inl rfl)); (· exact sv); (· exact sv); rotate_left; (· rfl))
            | ((with_reducible apply wk_id); (with_reducible apply retQ_mk); (· (first | exact .inr rfl | exact .inl rfl)); (· exact sv); (· exact sv); rotate_left; (· rfl))
            | ((try with_reducible apply wk_id); (with_reducible apply retQ_mk1); (· (first | exact .inr rfl | exact .inl rfl)); (· exact sv); (· exact sv); (· exact sv); (· exact sv); rotate_left; rotate_left; (· simp); (· rfl))
            | ((try with_reducible apply wk_id); (with_reducible apply retQ_mk2); (· (first | exact .inr rfl | exact .inl rfl)); (· exact sv); (· exact sv); (· exact sv); (· exact sv); (· exact sv); (· exact sv); rotate_left; rotate_left; rotate_left; (· simp); (· simp); (· rfl)))
        all_goals rfl
      · clear hv hsm b4
        refine Fn_of_aw (keep := []) Try.func6 rfl rfl (by simp [Try.ntmps6]) ?_
        simp only [num_cons, num_nil, Try.ntmps6, Try.results6]
        repeat' (first
            | ((with_reducible apply awO_ev); (· rfl); (· exact sv))
            | ((with_reducible apply awO_eqnil); (· rfl); (· rfl); (· exact sv); (· exact sv); (· exact svp); (· rfl); (· (first | decide | (simp only []; omega) | omega)); intro nb hnb; simp only [put_some])
            | ((with_reducible apply awO_neqnil); (· rfl); (· rfl); (· exact sv); (· exact sv); (· exact svp); (· rfl); (· (first | decide | (simp only []; omega) | omega)); intro nb hnb; simp only [put_some])
            | ((with_reducible apply aw_seq); intro _ _)
            | ((with_reducible apply aw_region))
            | ((with_reducible apply aw_block))
            | ((with_reducible apply awO_nil); (try simp only [CT, ↓reduceIte, Nat.reduceEqDiff]))
            | ((with_reducible apply aw_exit); (try simp only [CT, ↓reduceIte, Nat.reduceEqDiff]))
            | ((with_reducible apply aw_skip); (try simp only [CT, ↓reduceIte, Nat.reduceEqDiff]))
            | ((with_reducible apply aw_ret); (try simp only [CT, ↓reduceIte, Nat.reduceEqDiff]))
            | ((with_reducible apply awO_y); (· rfl); (· rfl); (· decide); (· exact sv); (· exact sv))
            | ((with_reducible apply awO_n); (· rfl); (· rfl); (· decide); (· exact sv); (· rfl); (· rfl); (· decide))
            | ((with_reducible apply awO_u); (· rfl); (· rfl); (· exact svr); (· rfl); (· decide))
            | ((with_reducible apply aw_cond_true); (· exact sv))
            | ((with_reducible apply aw_cond_false); (· exact sv))
            | (refine Kont.go ‹Kont _ _ _ _› _ ?_)
            | ((with_reducible apply awO_un); (· rfl); (· decide); (· exact sv))
            | ((with_reducible apply awO_c); (· rfl); (· rfl); (· exact sv); (· (first | with_reducible exact c1 | with_reducible exact c2 | with_reducible exact awake_ab)); (· rfl); (· rfl); (· rfl); (· decide))
            | ((with_reducible apply awO_f); (· rfl); (· rfl); (· exact sv); (· exact sv); (· (first | with_reducible exact c1 | with_reducible exact c2 | with_reducible exact awake_ab)); (· rfl); (· rfl); (· decide))
            | ((with_reducible apply awO_m); (· rfl); (· rfl); (· exact sv); (· (first | with_reducible exact c1 | with_reducible exact c2 | with_reducible exact awake_ab)); (· exact svq); (· exact svq); (· exact svq); (· exact svq); (· rfl); (· (first | decide | (simp only []; omega) | omega)); (with_reducible apply awO_st); (· exact svs))
            | ((with_reducible apply awO_guard); (· rfl); (· rfl); (· exact sv); all_goals (intro hg; (try simp only [Bool.not_true, Bool.not_false]); (try simp only [decide_eq_true_eq, decide_eq_false_iff_not, Bool.not_true, Bool.not_false, Bool.not_eq_true', Bool.not_eq_false', Bool.not_not] at hg); try (exfalso; omega)))
            | ((with_reducible apply aw_cond); (· exact sv); all_goals (intro hg; (try simp only [decide_eq_true_eq, decide_eq_false_iff_not, Bool.not_true, Bool.not_false, Bool.not_eq_true', Bool.not_eq_false', Bool.not_not] at hg); try (exfalso; omega)))
            | ((with_reducible apply retQ_mk); (· (first | exact .inr rfl | exact .inl rfl)); (· exact sv); (· exact sv); rotate_left; (· rfl))
            | ((with_reducible apply wk_id); (with_reducible apply retQ_mk); (· (first | exact .inr rfl | exact .inl rfl)); (· exact sv); (· exact sv); rotate_left; (· rfl))
            | ((try with_reducible apply wk_id); (with_reducible apply retQ_mk1); (· (first | exact .inr rfl | exact .inl rfl)); (· exact sv); (· exact sv); (· exact sv); (· exact sv); rotate_left; rotate_left; (· simp); (· rfl))
            | ((try with_reducible apply wk_id); (with_reducible apply retQ_mk2); (· (first | exact .inr rfl | exact .inl rfl)); (· exact sv); (· exact sv); (· exact sv); (· exact sv); (· exact sv); (· exact sv); rotate_left; rotate_left; rotate_left; (· simp); (· simp); (· rfl)))
        all_goals rfl
    · clear hsm b4
      refine Fn_of_aw (keep := []) Try.func6 rfl rfl (by simp [Try.ntmps6]) ?_
      simp only [num_cons, num_nil, Try.ntmps6, Try.results6]
      repeat' (first
          | ((with_reducible apply awO_ev); (· rfl); (· exact sv))
          | ((with_reducible apply awO_eqnil); (· rfl); (· rfl); (· exact sv); (· exact sv); (· exact svp); (· rfl); (· (first | decide | (simp only []; omega) | omega)); intro nb hnb; simp only [put_some])
          | ((with_reducible apply awO_neqnil); (· rfl); (· rfl); (· exact sv); (· exact sv); (· exact svp); (· rfl); (· (first | decide | (simp only []; omega) | omega)); intro nb hnb; simp only [put_some])
          | ((with_reducible apply aw_seq); intro _ _)
          | ((with_reducible apply aw_region))
          | ((with_reducible apply aw_block))
          | ((with_reducible apply awO_nil); (try simp only [CT, ↓reduceIte, Nat.reduceEqDiff]))
          | ((with_reducible apply aw_exit); (try simp only [CT, ↓reduceIte, Nat.reduceEqDiff]))
          | ((with_reducible apply aw_skip); (try simp only [CT, ↓reduceIte, Nat.reduceEqDiff]))
          | ((with_reducible apply aw_ret); (try simp only [CT, ↓reduceIte, Nat.reduceEqDiff]))
          | ((with_reducible apply awO_y); (· rfl); (· rfl); (· decide); (· exact sv); (· exact sv))
          | ((with_reducible apply awO_n); (· rfl); (· rfl); (· decide); (· exact sv); (· rfl); (· rfl); (· decide))
          | ((with_reducible apply awO_u); (· rfl); (· rfl); (· exact svr); (· rfl); (· decide))
          | ((with_reducible apply aw_cond_true); (· exact sv))
          | ((with_reducible apply aw_cond_false); (· exact sv))
          | (refine Kont.go ‹Kont _ _ _ _› _ ?_)
          | ((with_reducible apply awO_un); (· rfl); (· decide); (· exact sv))
          | ((with_reducible apply awO_c); (· rfl); (· rfl); (· exact sv); (· (first | with_reducible exact c1 | with_reducible exact c2 | with_reducible exact awake_ab)); (· rfl); (· rfl); (· rfl); (· decide))
          | ((with_reducible apply awO_f); (· rfl); (· rfl); (· exact sv); (· exact sv); (· (first | with_reducible exact c1 | with_reducible exact c2 | with_reducible exact awake_ab)); (· rfl); (· rfl); (· decide))
          | ((with_reducible apply awO_m); (· rfl); (· rfl); (· exact sv); (· (first | with_reducible exact c1 | with_reducible exact c2 | with_reducible exact awake_ab)); (· exact svq); (· exact svq); (· exact svq); (· exact svq); (· rfl); (· (first | decide | (simp only []; omega) | omega)); (with_reducible apply awO_st); (· exact svs))
          | ((with_reducible apply awO_guard); (· rfl); (· rfl); (· exact sv); all_goals (intro hg; (try simp only [Bool.not_true, Bool.not_false]); (try simp only [decide_eq_true_eq, decide_eq_false_iff_not, Bool.not_true, Bool.not_false, Bool.not_eq_true', Bool.not_eq_false', Bool.not_not] at hg); try (exfalso; omega)))
          | ((with_reducible apply aw_cond); (· exact sv); all_goals (intro hg; (try simp only [decide_eq_true_eq, decide_eq_false_iff_not, Bool.not_true, Bool.not_false, Bool.not_eq_true', Bool.not_eq_false', Bool.not_not] at hg); try (exfalso; omega)))
          | ((with_reducible apply retQ_mk); (· (first | exact .inr rfl | exact .inl rfl)); (· exact sv); (· exact sv); rotate_left; (· rfl))
          | ((with_reducible apply wk_id); (with_reducible apply retQ_mk); (· (first | exact .inr rfl | exact .inl rfl)); (· exact sv); (· exact sv); rotate_left; (· rfl))
          | ((try with_reducible apply wk_id); (with_reducible apply retQ_mk1); (· (first | exact .inr rfl | exact .inl rfl)); (· exact sv); (· exact sv); (· exact sv); (· exact sv); rotate_left; rotate_left; (· simp); (· rfl))
          | ((try with_reducible apply wk_id); (with_reducible apply retQ_mk2); (· (first | exact .inr rfl | exact .inl rfl)); (· exact sv); (· exact sv); (· exact sv); (· exact sv); (· exact sv); (· exact sv); rotate_left; rotate_left; rotate_left; (· simp); (· simp); (· rfl)))
      all_goals rfl
theorem feedF_append (a b : List UInt8) : ∀ (t : Tty), feedF t (a ++ b) = ((feedF (feedF t a).1 b).1, (feedF t a).2 ++ (feedF (feedF t a).1 b).2) := by
  induction a with
  | nil => intro t; simp [feedF]
  | cons x a ih => intro t; simp only [List.cons_append, feedF, ih, List.append_assoc]
theorem ttyParts_ab (t : Tty) (a b : List UInt8) (h : TBd t) (ha : a.length ≤ 140737488351232) (hb : b.length ≤ 140737488351232) : Ab Try.prog 5 [dT t, az a, az b] (ab true) := by
  obtain ⟨h1, h2, h3, h4⟩ := h.w
  have c1 := small_ab t h1 h2 h3 h4
  have c2 := rvalid_ab t h1 h2 h3 h4
  cases hsm : smallB t with
  | false =>
    rw [hsm] at c1
    clear h h1 h2 h3 h4
    refine Fn_of_aw (keep := []) Try.func5 rfl rfl (by simp [Try.ntmps5]) ?_
    simp only [num_cons, num_nil, Try.ntmps5, Try.results5]
    repeat' (first
        | ((with_reducible apply awO_ev); (· rfl); (· exact sv))
        | ((with_reducible apply awO_eqnil); (· rfl); (· rfl); (· exact sv); (· exact sv); (· exact svp); (· rfl); (· (first | decide | (simp only []; omega) | omega)); intro nb hnb; simp only [put_some])
        | ((with_reducible apply awO_neqnil); (· rfl); (· rfl); (· exact sv); (· exact sv); (· exact svp); (· rfl); (· (first | decide | (simp only []; omega) | omega)); intro nb hnb; simp only [put_some])
        | ((with_reducible apply aw_seq); intro _ _)
        | ((with_reducible apply aw_region))
        | ((with_reducible apply aw_block))
        | ((with_reducible apply awO_nil); (try simp only [CT, ↓reduceIte, Nat.reduceEqDiff]))
        | ((with_reducible apply aw_exit); (try simp only [CT, ↓reduceIte, Nat.reduceEqDiff]))
        | ((with_reducible apply aw_skip); (try simp only [CT, ↓reduceIte, Nat.reduceEqDiff]))
        | ((with_reducible apply aw_ret); (try simp only [CT, ↓reduceIte, Nat.reduceEqDiff]))
        | ((with_reducible apply awO_y); (· rfl); (· rfl); (· decide); (· exact sv); (· exact sv))
        | ((with_reducible apply awO_n); (· rfl); (· rfl); (· decide); (· exact sv); (· rfl); (· rfl); (· decide))
        | ((with_reducible apply awO_u); (· rfl); (· rfl); (· exact svr); (· rfl); (· decide))
        | ((with_reducible apply aw_cond_true); (· exact sv))
        | ((with_reducible apply aw_cond_false); (· exact sv))
        | (refine Kont.go ‹Kont _ _ _ _› _ ?_)
        | ((with_reducible apply awO_un); (· rfl); (· decide); (· exact sv))
        | ((with_reducible apply awO_c); (· rfl); (· rfl); (· exact sv); (· (first | with_reducible exact c1 | with_reducible exact awake_ab)); (· rfl); (· rfl); (· rfl); (· decide))
        | ((with_reducible apply awO_f); (· rfl); (· rfl); (· exact sv); (· exact sv); (· (first | with_reducible exact c1 | with_reducible exact awake_ab)); (· rfl); (· rfl); (· decide))
        | ((with_reducible apply awO_m); (· rfl); (· rfl); (· exact sv); (· (first | with_reducible exact c1 | with_reducible exact awake_ab)); (· exact svq); (· exact svq); (· exact svq); (· exact svq); (· rfl); (· (first | decide | (simp only []; omega) | omega)); (with_reducible apply awO_st); (· exact svs))
        | ((with_reducible apply awO_guard); (· rfl); (· rfl); (· exact sv); all_goals (intro hg; (try simp only [Bool.not_true, Bool.not_false]); (try simp only [decide_eq_true_eq, decide_eq_false_iff_not, Bool.not_true, Bool.not_false, Bool.not_eq_true', Bool.not_eq_false', Bool.not_not] at hg); try (exfalso; omega)))
        | ((with_reducible apply aw_cond); (· exact sv); all_goals (intro hg; (try simp only [decide_eq_true_eq, decide_eq_false_iff_not, Bool.not_true, Bool.not_false, Bool.not_eq_true', Bool.not_eq_false', Bool.not_not] at hg); try (exfalso; omega)))
        | ((with_reducible apply retQ_mk); (· (first | exact .inr rfl | exact .inl rfl)); (· exact sv); (· exact sv); rotate_left; (· rfl))
        | ((with_reducible apply wk_id); (with_reducible apply retQ_mk); (· (first | exact .inr rfl | exact .inl rfl)); (· exact sv); (· exact sv); rotate_left; (· rfl))
        | ((try with_reducible apply wk_id); (with_reducible apply retQ_mk1); (· (first | exact .inr rfl | exact .inl rfl)); (· exact sv); (· exact sv); (· exact sv); (· exact sv); rotate_left; rotate_left; (· simp); (· rfl))
        | ((try with_reducible apply wk_id); (with_reducible apply retQ_mk2); (· (first | exact .inr rfl | exact .inl rfl)); (· exact sv); (· exact sv); (· exact sv); (· exact sv); (· exact sv); (· exact sv); rotate_left; rotate_left; rotate_left; (· simp); (· simp); (· rfl)))
    all_goals rfl
  | true =>
    rw [hsm] at c1
    obtain ⟨b1, b2, b3, b4⟩ := small_bd hsm
    clear h h1 h2 h3 h4
    by_cases hv : tErr t = 0
    · rw [hv] at c2
      by_cases hl : a.length ≤ 200 ∧ b.length ≤ 200
      · obtain ⟨hl1, hl2⟩ := hl
        have c3 := feed_ab t a (by omega) (by omega) (by omega)
        have c4 := feed_ab (feedF t a).1 b (by omega) (feedF_edit a t (by omega)) (feedF_lines a t (by omega))
        have c5 := feed_ab t (a ++ b) (by simp; omega) (by omega) (by omega)
        rw [feedF_append] at c5
        have q1 := feedF_lines b _ (feedF_lines a t (by omega))
        have q2 := feedF_sigs a t
        have q3 := feedF_sigs b (feedF t a).1
        generalize (feedF (feedF t a).1 b) = Y at *
        generalize (feedF t a) = X at *
        simp only at c5
        have c6 := same_self Y.1 q1
        have c7 := numbers_self X.2 (by omega)
        have c8 := numbers_self Y.2 (by omega)
        have e1 : (X.2 ++ Y.2).length = X.2.length + Y.2.length := List.length_append
        have e2 : ((X.2 ++ Y.2).map ai).take X.2.length = X.2.map ai := by rw [List.map_append, List.take_left' (by simp)]
        have e3 : ((X.2 ++ Y.2).map ai).drop X.2.length = Y.2.map ai := by rw [List.map_append, List.drop_left' (by simp)]
        rw [e1] at c5
        have c9 : Ab Try.prog 19 [.rd X.2.length (List.map ai (List.take X.2.length (X.2 ++ Y.2))), .rd X.2.length (X.2.map ai)] (ab true) := by rw [← take_map, e2]; exact c7
        have c10 : Ab Try.prog 19 [.rd (X.2.length + Y.2.length - X.2.length) (List.map ai (List.drop X.2.length (X.2 ++ Y.2))), .rd Y.2.length (Y.2.map ai)] (ab true) := by
          rw [Nat.add_sub_cancel_left, List.drop_left' rfl]; exact c8
        clear hv hsm b4
        refine Fn_of_aw (keep := []) Try.func5 rfl rfl (by simp [Try.ntmps5]) ?_
        simp only [num_cons, num_nil, Try.ntmps5, Try.results5]
        repeat' (first
            | ((with_reducible apply awO_ev); (· rfl); (· exact sv))
            | ((with_reducible apply awO_eqnil); (· rfl); (· rfl); (· exact sv); (· exact sv); (· exact svp); (· rfl); (· (first | decide | (simp only []; omega) | omega)); intro nb hnb; simp only [put_some])
            | ((with_reducible apply awO_neqnil); (· rfl); (· rfl); (· exact sv); (· exact sv); (· exact svp); (· rfl); (· (first | decide | (simp only []; omega) | omega)); intro nb hnb; simp only [put_some])
            | ((with_reducible apply aw_seq); intro _ _)
            | ((with_reducible apply aw_region))
            | ((with_reducible apply aw_block))
            | ((with_reducible apply awO_nil); (try simp only [CT, ↓reduceIte, Nat.reduceEqDiff]))
            | ((with_reducible apply aw_exit); (try simp only [CT, ↓reduceIte, Nat.reduceEqDiff]))
            | ((with_reducible apply aw_skip); (try simp only [CT, ↓reduceIte, Nat.reduceEqDiff]))
            | ((with_reducible apply aw_ret); (try simp only [CT, ↓reduceIte, Nat.reduceEqDiff]))
            | ((with_reducible apply awO_y); (· rfl); (· rfl); (· decide); (· exact sv); (· exact sv))
            | ((with_reducible apply awO_n); (· rfl); (· rfl); (· decide); (· exact sv); (· rfl); (· rfl); (· decide))
            | ((with_reducible apply awO_u); (· rfl); (· rfl); (· exact svr); (· rfl); (· decide))
            | ((with_reducible apply aw_cond_true); (· exact sv))
            | ((with_reducible apply aw_cond_false); (· exact sv))
            | (refine Kont.go ‹Kont _ _ _ _› _ ?_)
            | ((with_reducible apply awO_un); (· rfl); (· decide); (· exact sv))
            | ((with_reducible apply awO_c); (· rfl); (· rfl); (· exact sv); (· (first | with_reducible exact c1 | with_reducible exact c2 | with_reducible exact c3 | with_reducible exact c4 | with_reducible exact c5 | with_reducible exact c6 | with_reducible exact c7 | with_reducible exact c8 | with_reducible exact c9 | with_reducible exact c10 | with_reducible exact awake_ab)); (· rfl); (· rfl); (· rfl); (· decide))
            | ((with_reducible apply awO_f); (· rfl); (· rfl); (· exact sv); (· exact sv); (· (first | with_reducible exact c1 | with_reducible exact c2 | with_reducible exact c3 | with_reducible exact c4 | with_reducible exact c5 | with_reducible exact c6 | with_reducible exact c7 | with_reducible exact c8 | with_reducible exact c9 | with_reducible exact c10 | with_reducible exact awake_ab)); (· rfl); (· rfl); (· decide))
            | ((with_reducible apply awO_m); (· rfl); (· rfl); (· exact sv); (· (first | with_reducible exact c1 | with_reducible exact c2 | with_reducible exact c3 | with_reducible exact c4 | with_reducible exact c5 | with_reducible exact c6 | with_reducible exact c7 | with_reducible exact c8 | with_reducible exact c9 | with_reducible exact c10 | with_reducible exact awake_ab)); (· exact svq); (· exact svq); (· exact svq); (· exact svq); (· rfl); (· (first | decide | (simp only []; omega) | omega)); (with_reducible apply awO_st); (· exact svs))
            | ((with_reducible apply awO_guard); (· rfl); (· rfl); (· exact sv); all_goals (intro hg; (try simp only [Bool.not_true, Bool.not_false]); (try simp only [decide_eq_true_eq, decide_eq_false_iff_not, Bool.not_true, Bool.not_false, Bool.not_eq_true', Bool.not_eq_false', Bool.not_not] at hg); try (exfalso; omega)))
            | ((with_reducible apply aw_cond); (· exact sv); all_goals (intro hg; (try simp only [decide_eq_true_eq, decide_eq_false_iff_not, Bool.not_true, Bool.not_false, Bool.not_eq_true', Bool.not_eq_false', Bool.not_not] at hg); try (exfalso; omega)))
            | ((with_reducible apply retQ_mk); (· (first | exact .inr rfl | exact .inl rfl)); (· exact sv); (· exact sv); rotate_left; (· rfl))
            | ((with_reducible apply wk_id); (with_reducible apply retQ_mk); (· (first | exact .inr rfl | exact .inl rfl)); (· exact sv); (· exact sv); rotate_left; (· rfl))
            | ((try with_reducible apply wk_id); (with_reducible apply retQ_mk1); (· (first | exact .inr rfl | exact .inl rfl)); (· exact sv); (· exact sv); (· exact sv); (· exact sv); rotate_left; rotate_left; (· simp); (· rfl))
            | ((try with_reducible apply wk_id); (with_reducible apply retQ_mk2); (· (first | exact .inr rfl | exact .inl rfl)); (· exact sv); (· exact sv); (· exact sv); (· exact sv); (· exact sv); (· exact sv); rotate_left; rotate_left; rotate_left; (· simp); (· simp); (· rfl)))
        all_goals first | rfl | skip
      · clear hv hsm b4
        refine Fn_of_aw (keep := []) Try.func5 rfl rfl (by simp [Try.ntmps5]) ?_
        simp only [num_cons, num_nil, Try.ntmps5, Try.results5]
        repeat' (first
            | ((with_reducible apply awO_ev); (· rfl); (· exact sv))
            | ((with_reducible apply awO_eqnil); (· rfl); (· rfl); (· exact sv); (· exact sv); (· exact svp); (· rfl); (· (first | decide | (simp only []; omega) | omega)); intro nb hnb; simp only [put_some])
            | ((with_reducible apply awO_neqnil); (· rfl); (· rfl); (· exact sv); (· exact sv); (· exact svp); (· rfl); (· (first | decide | (simp only []; omega) | omega)); intro nb hnb; simp only [put_some])
            | ((with_reducible apply aw_seq); intro _ _)
            | ((with_reducible apply aw_region))
            | ((with_reducible apply aw_block))
            | ((with_reducible apply awO_nil); (try simp only [CT, ↓reduceIte, Nat.reduceEqDiff]))
            | ((with_reducible apply aw_exit); (try simp only [CT, ↓reduceIte, Nat.reduceEqDiff]))
            | ((with_reducible apply aw_skip); (try simp only [CT, ↓reduceIte, Nat.reduceEqDiff]))
            | ((with_reducible apply aw_ret); (try simp only [CT, ↓reduceIte, Nat.reduceEqDiff]))
            | ((with_reducible apply awO_y); (· rfl); (· rfl); (· decide); (· exact sv); (· exact sv))
            | ((with_reducible apply awO_n); (· rfl); (· rfl); (· decide); (· exact sv); (· rfl); (· rfl); (· decide))
            | ((with_reducible apply awO_u); (· rfl); (· rfl); (· exact svr); (· rfl); (· decide))
            | ((with_reducible apply aw_cond_true); (· exact sv))
            | ((with_reducible apply aw_cond_false); (· exact sv))
            | (refine Kont.go ‹Kont _ _ _ _› _ ?_)
            | ((with_reducible apply awO_un); (· rfl); (· decide); (· exact sv))
            | ((with_reducible apply awO_c); (· rfl); (· rfl); (· exact sv); (· (first | with_reducible exact c1 | with_reducible exact c2 | with_reducible exact awake_ab)); (· rfl); (· rfl); (· rfl); (· decide))
            | ((with_reducible apply awO_f); (· rfl); (· rfl); (· exact sv); (· exact sv); (· (first | with_reducible exact c1 | with_reducible exact c2 | with_reducible exact awake_ab)); (· rfl); (· rfl); (· decide))
            | ((with_reducible apply awO_m); (· rfl); (· rfl); (· exact sv); (· (first | with_reducible exact c1 | with_reducible exact c2 | with_reducible exact awake_ab)); (· exact svq); (· exact svq); (· exact svq); (· exact svq); (· rfl); (· (first | decide | (simp only []; omega) | omega)); (with_reducible apply awO_st); (· exact svs))
            | ((with_reducible apply awO_guard); (· rfl); (· rfl); (· exact sv); all_goals (intro hg; (try simp only [Bool.not_true, Bool.not_false]); (try simp only [decide_eq_true_eq, decide_eq_false_iff_not, Bool.not_true, Bool.not_false, Bool.not_eq_true', Bool.not_eq_false', Bool.not_not] at hg); try (exfalso; omega)))
            | ((with_reducible apply aw_cond); (· exact sv); all_goals (intro hg; (try simp only [decide_eq_true_eq, decide_eq_false_iff_not, Bool.not_true, Bool.not_false, Bool.not_eq_true', Bool.not_eq_false', Bool.not_not] at hg); try (exfalso; omega)))
            | ((with_reducible apply retQ_mk); (· (first | exact .inr rfl | exact .inl rfl)); (· exact sv); (· exact sv); rotate_left; (· rfl))
            | ((with_reducible apply wk_id); (with_reducible apply retQ_mk); (· (first | exact .inr rfl | exact .inl rfl)); (· exact sv); (· exact sv); rotate_left; (· rfl))
            | ((try with_reducible apply wk_id); (with_reducible apply retQ_mk1); (· (first | exact .inr rfl | exact .inl rfl)); (· exact sv); (· exact sv); (· exact sv); (· exact sv); rotate_left; rotate_left; (· simp); (· rfl))
            | ((try with_reducible apply wk_id); (with_reducible apply retQ_mk2); (· (first | exact .inr rfl | exact .inl rfl)); (· exact sv); (· exact sv); (· exact sv); (· exact sv); (· exact sv); (· exact sv); rotate_left; rotate_left; rotate_left; (· simp); (· simp); (· rfl)))
        all_goals rfl
    · clear hsm b4
      refine Fn_of_aw (keep := []) Try.func5 rfl rfl (by simp [Try.ntmps5]) ?_
      simp only [num_cons, num_nil, Try.ntmps5, Try.results5]
      repeat' (first
          | ((with_reducible apply awO_ev); (· rfl); (· exact sv))
          | ((with_reducible apply awO_eqnil); (· rfl); (· rfl); (· exact sv); (· exact sv); (· exact svp); (· rfl); (· (first | decide | (simp only []; omega) | omega)); intro nb hnb; simp only [put_some])
          | ((with_reducible apply awO_neqnil); (· rfl); (· rfl); (· exact sv); (· exact sv); (· exact svp); (· rfl); (· (first | decide | (simp only []; omega) | omega)); intro nb hnb; simp only [put_some])
          | ((with_reducible apply aw_seq); intro _ _)
          | ((with_reducible apply aw_region))
          | ((with_reducible apply aw_block))
          | ((with_reducible apply awO_nil); (try simp only [CT, ↓reduceIte, Nat.reduceEqDiff]))
          | ((with_reducible apply aw_exit); (try simp only [CT, ↓reduceIte, Nat.reduceEqDiff]))
          | ((with_reducible apply aw_skip); (try simp only [CT, ↓reduceIte, Nat.reduceEqDiff]))
          | ((with_reducible apply aw_ret); (try simp only [CT, ↓reduceIte, Nat.reduceEqDiff]))
          | ((with_reducible apply awO_y); (· rfl); (· rfl); (· decide); (· exact sv); (· exact sv))
          | ((with_reducible apply awO_n); (· rfl); (· rfl); (· decide); (· exact sv); (· rfl); (· rfl); (· decide))
          | ((with_reducible apply awO_u); (· rfl); (· rfl); (· exact svr); (· rfl); (· decide))
          | ((with_reducible apply aw_cond_true); (· exact sv))
          | ((with_reducible apply aw_cond_false); (· exact sv))
          | (refine Kont.go ‹Kont _ _ _ _› _ ?_)
          | ((with_reducible apply awO_un); (· rfl); (· decide); (· exact sv))
          | ((with_reducible apply awO_c); (· rfl); (· rfl); (· exact sv); (· (first | with_reducible exact c1 | with_reducible exact c2 | with_reducible exact awake_ab)); (· rfl); (· rfl); (· rfl); (· decide))
          | ((with_reducible apply awO_f); (· rfl); (· rfl); (· exact sv); (· exact sv); (· (first | with_reducible exact c1 | with_reducible exact c2 | with_reducible exact awake_ab)); (· rfl); (· rfl); (· decide))
          | ((with_reducible apply awO_m); (· rfl); (· rfl); (· exact sv); (· (first | with_reducible exact c1 | with_reducible exact c2 | with_reducible exact awake_ab)); (· exact svq); (· exact svq); (· exact svq); (· exact svq); (· rfl); (· (first | decide | (simp only []; omega) | omega)); (with_reducible apply awO_st); (· exact svs))
          | ((with_reducible apply awO_guard); (· rfl); (· rfl); (· exact sv); all_goals (intro hg; (try simp only [Bool.not_true, Bool.not_false]); (try simp only [decide_eq_true_eq, decide_eq_false_iff_not, Bool.not_true, Bool.not_false, Bool.not_eq_true', Bool.not_eq_false', Bool.not_not] at hg); try (exfalso; omega)))
          | ((with_reducible apply aw_cond); (· exact sv); all_goals (intro hg; (try simp only [decide_eq_true_eq, decide_eq_false_iff_not, Bool.not_true, Bool.not_false, Bool.not_eq_true', Bool.not_eq_false', Bool.not_not] at hg); try (exfalso; omega)))
          | ((with_reducible apply retQ_mk); (· (first | exact .inr rfl | exact .inl rfl)); (· exact sv); (· exact sv); rotate_left; (· rfl))
          | ((with_reducible apply wk_id); (with_reducible apply retQ_mk); (· (first | exact .inr rfl | exact .inl rfl)); (· exact sv); (· exact sv); rotate_left; (· rfl))
          | ((try with_reducible apply wk_id); (with_reducible apply retQ_mk1); (· (first | exact .inr rfl | exact .inl rfl)); (· exact sv); (· exact sv); (· exact sv); (· exact sv); rotate_left; rotate_left; (· simp); (· rfl))
          | ((try with_reducible apply wk_id); (with_reducible apply retQ_mk2); (· (first | exact .inr rfl | exact .inl rfl)); (· exact sv); (· exact sv); (· exact sv); (· exact sv); (· exact sv); (· exact sv); rotate_left; rotate_left; rotate_left; (· simp); (· simp); (· rfl)))
      all_goals rfl
end Go.Proofs.Ytnnggogelnafnaa
