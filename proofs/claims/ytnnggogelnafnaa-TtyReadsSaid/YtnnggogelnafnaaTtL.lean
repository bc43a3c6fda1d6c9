/- The laws TtyReads, TtyKeys, TtyParts, on the abstract machine. -/
import Derived.Test.YtnnggogelnafnaaTtJ
namespace Go.Proofs.Ytnnggogelnafnaa
open Go.RowKit
set_option linter.unusedVariables false
set_option linter.unusedSimpArgs false
set_option maxRecDepth 100000
set_option maxHeartbeats 8000000
theorem ttyReads_ab (t : Tty) (n : Int) (s : List UInt8) (h : TBd t) (hs : s.length ≤ 140737488351232) : Ab Try.prog 3 [dT t, ai n, az s] (ab true) := by
  obtain ⟨h1, h2, h3, h4⟩ := h.w
  have c1 := small_ab t h1 h2 h3 h4
  have c2 := rvalid_ab t h1 h2 h3 h4
  cases hsm : smallB t with
  | false =>
    rw [hsm] at c1
    clear h h1 h2 h3 h4
    refine Fn_of_aw (keep := []) Try.func3 rfl rfl (by simp [Try.ntmps3]) ?_
    simp only [num_cons, num_nil, Try.ntmps3, Try.results3]
    repeat' (first
        | ((with_reducible apply awO_ev); (· rfl); (· exact sv))
        | ((with_reducible apply awO_eqnil); (· rfl); (· rfl); (· exact sv); (· exact sv); (· exact svp); (· rfl); (· (first | decide | (simp only []; omega) | omega)); intro nb hnb; simp only [put_some])
        | ((with_reducible apply awO_neqnil); (· rfl); (· rfl); (· exact sv); (· exact sv); (· exact svp); (· rfl); (· (first | decide | (simp only []; omega) | omega)); intro nb hnb; simp only [put_some])
        | ((with_reducible apply aw_seq); intro _ _)
        | ((with_reducible apply aw_region))
        | ((with_reducible apply aw_block))
        | ((with_reducible apply awO_nil); (try simp only [CT, ↓reduceIte, Nat.reduceEqDiff]))
        | ((with_reducible apply aw_exit); (try simp only [CT, ↓reduceIte, Nat.reduceEqDiff]))
        | ((with_reducible apply aw_skip); (try simp only [CT, ↓reduceIte, Nat.reduceEqDiff]))
        | ((with_reducible apply aw_ret); (try simp only [CT, ↓reduceIte, Nat.reduceEqDiff]))
        | ((with_reducible apply awO_y); (· rfl); (· rfl); (· decide); (· exact sv); (· exact sv))
        | ((with_reducible apply awO_n); (· rfl); (· rfl); (· decide); (· exact sv); (· rfl); (· rfl); (· decide))
        | ((with_reducible apply awO_u); (· rfl); (· rfl); (· exact svr); (· rfl); (· decide))
        | ((with_reducible apply aw_cond_true); (· exact sv))
        | ((with_reducible apply aw_cond_false); (· exact sv))
        | (refine Kont.go ‹Kont _ _ _ _› _ ?_)
        | ((with_reducible apply awO_un); (· rfl); (· decide); (· exact sv))
        | ((with_reducible apply awO_c); (· rfl); (· rfl); (· exact sv); (· (first | with_reducible exact c1 | with_reducible exact awake_ab)); (· rfl); (· rfl); (· rfl); (· decide))
        | ((with_reducible apply awO_f); (· rfl); (· rfl); (· exact sv); (· exact sv); (· (first | with_reducible exact c1 | with_reducible exact awake_ab)); (· rfl); (· rfl); (· decide))
        | ((with_reducible apply awO_m); (· rfl); (· rfl); (· exact sv); (· (first | with_reducible exact c1 | with_reducible exact awake_ab)); (· exact svq); (· exact svq); (· exact svq); (· exact svq); (· rfl); (· (first | decide | (simp only []; omega) | omega)); (with_reducible apply awO_st); (· exact svs))
        | ((with_reducible apply awO_guard); (· rfl); (· rfl); (· exact sv); all_goals (intro hg; (try simp only [Bool.not_true, Bool.not_false]); (try simp only [decide_eq_true_eq, decide_eq_false_iff_not, Bool.not_true, Bool.not_false, Bool.not_eq_true', Bool.not_eq_false', Bool.not_not] at hg); try (exfalso; omega)))
        | ((with_reducible apply aw_cond); (· exact sv); all_goals (intro hg; (try simp only [decide_eq_true_eq, decide_eq_false_iff_not, Bool.not_true, Bool.not_false, Bool.not_eq_true', Bool.not_eq_false', Bool.not_not] at hg); try (exfalso; omega)))
        | ((with_reducible apply retQ_mk); (· (first | exact .inr rfl | exact .inl rfl)); (· exact sv); (· exact sv); rotate_left; (· rfl))
        | ((with_reducible apply wk_id); (with_reducible apply retQ_mk); (· (first | exact .inr rfl | exact .inl rfl)); (· exact sv); (· exact sv); rotate_left; (· rfl))
        | ((try with_reducible apply wk_id); (with_reducible apply retQ_mk1); (· (first | exact .inr rfl | exact .inl rfl)); (· exact sv); (· exact sv); (· exact sv); (· exact sv); rotate_left; rotate_left; (· simp); (· rfl))
        | ((try with_reducible apply wk_id); (with_reducible apply retQ_mk2); (· (first | exact .inr rfl | exact .inl rfl)); (· exact sv); (· exact sv); (· exact sv); (· exact sv); (· exact sv); (· exact sv); rotate_left; rotate_left; rotate_left; (· simp); (· simp); (· rfl)))
    all_goals rfl
  | true =>
    rw [hsm] at c1
    obtain ⟨b1, b2, b3, b4⟩ := small_bd hsm
    clear h h1 h2 h3 h4
    by_cases hv : tErr t = 0
    · rw [hv] at c2
      by_cases hl : s.length ≤ 70000
      · have c3 := read_ab t n (by omega) (fun x hx => by have := b4 x hx; omega)
        have c4 := rread_ab t n (by omega) (fun x hx => by have := b4 x hx; omega)
        have c5 := same_self (readF t n).1 (readF_lines t n (by omega))
        have c6 := write_ab t s (by omega) (by omega) (by omega)
        have c7 := rwrite_ab t s (by omega) (tErr_out hv)
        have c8 := same_self (writeF t s) (by show t.lines.length ≤ 1000000; omega)
        clear hv hsm b4
        refine Fn_of_aw (keep := []) Try.func3 rfl rfl (by simp [Try.ntmps3]) ?_
        simp only [num_cons, num_nil, Try.ntmps3, Try.results3]
        repeat' (first
            | ((with_reducible apply awO_ev); (· rfl); (· exact sv))
            | ((with_reducible apply awO_eqnil); (· rfl); (· rfl); (· exact sv); (· exact sv); (· exact svp); (· rfl); (· (first | decide | (simp only []; omega) | omega)); intro nb hnb; simp only [put_some])
            | ((with_reducible apply awO_neqnil); (· rfl); (· rfl); (· exact sv); (· exact sv); (· exact svp); (· rfl); (· (first | decide | (simp only []; omega) | omega)); intro nb hnb; simp only [put_some])
            | ((with_reducible apply aw_seq); intro _ _)
            | ((with_reducible apply aw_region))
            | ((with_reducible apply aw_block))
            | ((with_reducible apply awO_nil); (try simp only [CT, ↓reduceIte, Nat.reduceEqDiff]))
            | ((with_reducible apply aw_exit); (try simp only [CT, ↓reduceIte, Nat.reduceEqDiff]))
            | ((with_reducible apply aw_skip); (try simp only [CT, ↓reduceIte, Nat.reduceEqDiff]))
            | ((with_reducible apply aw_ret); (try simp only [CT, ↓reduceIte, Nat.reduceEqDiff]))
            | ((with_reducible apply awO_y); (· rfl); (· rfl); (· decide); (· exact sv); (· exact sv))
            | ((with_reducible apply awO_n); (· rfl); (· rfl); (· decide); (· exact sv); (· rfl); (· rfl); (· decide))
            | ((with_reducible apply awO_u); (· rfl); (· rfl); (· exact svr); (· rfl); (· decide))
            | ((with_reducible apply aw_cond_true); (· exact sv))
            | ((with_reducible apply aw_cond_false); (· exact sv))
            | (refine Kont.go ‹Kont _ _ _ _› _ ?_)
            | ((with_reducible apply awO_un); (· rfl); (· decide); (· exact sv))
            | ((with_reducible apply awO_c); (· rfl); (· rfl); (· exact sv); (· (first | with_reducible exact c1 | with_reducible exact c2 | with_reducible exact c3 | with_reducible exact c4 | with_reducible exact c5 | with_reducible exact c6 | with_reducible exact c7 | with_reducible exact c8 | with_reducible exact awake_ab)); (· rfl); (· rfl); (· rfl); (· decide))
            | ((with_reducible apply awO_f); (· rfl); (· rfl); (· exact sv); (· exact sv); (· (first | with_reducible exact c1 | with_reducible exact c2 | with_reducible exact c3 | with_reducible exact c4 | with_reducible exact c5 | with_reducible exact c6 | with_reducible exact c7 | with_reducible exact c8 | with_reducible exact awake_ab)); (· rfl); (· rfl); (· decide))
            | ((with_reducible apply awO_m); (· rfl); (· rfl); (· exact sv); (· (first | with_reducible exact c1 | with_reducible exact c2 | with_reducible exact c3 | with_reducible exact c4 | with_reducible exact c5 | with_reducible exact c6 | with_reducible exact c7 | with_reducible exact c8 | with_reducible exact awake_ab)); (· exact svq); (· exact svq); (· exact svq); (· exact svq); (· rfl); (· (first | decide | (simp only []; omega) | omega)); (with_reducible apply awO_st); (· exact svs))
            | ((with_reducible apply aw_draw); (· decide +kernel); (simp only [List.size_toArray, List.length_cons, List.length_nil, Nat.reduceAdd]))
            | ((with_reducible apply awY_done); (· decide +kernel); (try simp only [CT, ↓reduceIte, Nat.reduceEqDiff]))
            | ((with_reducible apply awY_q); (· exact sQ); (· repeat (first | (with_reducible exact NP_ret) | (with_reducible apply NP_then) | (with_reducible apply NP_blk) | (with_reducible apply NP_wk) | (with_reducible apply NP_end))); (· exact svg); (· rfl); (· exact sv))
            | ((with_reducible apply awY_qy); (· exact sQ); (· repeat (first | (with_reducible exact NP_ret) | (with_reducible apply NP_then) | (with_reducible apply NP_blk) | (with_reducible apply NP_wk) | (with_reducible apply NP_end))); (· exact svg); (· rfl); (· rfl); (· (first | decide | (simp only []; omega) | omega)); (· exact sv); (· exact sv))
            | ((with_reducible apply awY_qn); (· exact sQ); (· repeat (first | (with_reducible exact NP_ret) | (with_reducible apply NP_then) | (with_reducible apply NP_blk) | (with_reducible apply NP_wk) | (with_reducible apply NP_end))); (· exact svg); (· rfl); (· rfl); (· (first | decide | (simp only []; omega) | omega)); (· exact sv); (· rfl); (· rfl); (· (first | decide | (simp only []; omega) | omega)); simp only [put_some])
            | ((with_reducible apply awY_qu); (· exact sQ); (· repeat (first | (with_reducible exact NP_ret) | (with_reducible apply NP_then) | (with_reducible apply NP_blk) | (with_reducible apply NP_wk) | (with_reducible apply NP_end))); (· exact svg); (· rfl); (· rfl); (· exact svr); (· rfl); (· (first | decide | (simp only []; omega) | omega)); simp only [put_some])
            | ((with_reducible apply awY_tn); (· exact sT); (· repeat (first | (with_reducible exact NP_ret) | (with_reducible apply NP_then) | (with_reducible apply NP_blk) | (with_reducible apply NP_wk) | (with_reducible apply NP_end))); (· exact svg); (· rfl); (· rfl); (· (first | decide | (simp only []; omega) | omega)); (· exact sv); (· rfl); (· rfl); (· (first | decide | (simp only []; omega) | omega)); simp only [put_some])
            | ((with_reducible apply awY_tu); (· exact sT); (· repeat (first | (with_reducible exact NP_ret) | (with_reducible apply NP_then) | (with_reducible apply NP_blk) | (with_reducible apply NP_wk) | (with_reducible apply NP_end))); (· exact svg); (· rfl); (· rfl); (· exact svr); (· rfl); (· (first | decide | (simp only []; omega) | omega)); simp only [put_some])
            | ((with_reducible apply endQ_rfl))
            | ((with_reducible apply endQ_sub); (· exact sE); (· exact sN))
            | ((with_reducible apply awI_ev); (· exact svg); (· rfl); (· exact sv))
            | ((with_reducible apply awI_c); (· exact svg); (· rfl); (· rfl); (· exact sv); (· (first | with_reducible exact c1 | with_reducible exact c2 | with_reducible exact c3 | with_reducible exact c4 | with_reducible exact c5 | with_reducible exact c6 | with_reducible exact c7 | with_reducible exact c8 | with_reducible exact awake_ab)); (· rfl); (· rfl); (· rfl); (· (first | decide | (simp only []; omega) | omega)); simp only [put_some])
            | ((with_reducible apply awI_f); (· exact svg); (· rfl); (· rfl); (· exact sv); (· exact sv); (· (first | with_reducible exact c1 | with_reducible exact c2 | with_reducible exact c3 | with_reducible exact c4 | with_reducible exact c5 | with_reducible exact c6 | with_reducible exact c7 | with_reducible exact c8 | with_reducible exact awake_ab)); (· rfl); (· rfl); (· (first | decide | (simp only []; omega) | omega)); simp only [put_some])
            | ((with_reducible apply awI_cy); (· exact svg); (· rfl); (· rfl); (· (first | decide | (simp only []; omega) | omega)); (· exact sv); (· rfl); (· exact sv); (· (first | with_reducible exact c1 | with_reducible exact c2 | with_reducible exact c3 | with_reducible exact c4 | with_reducible exact c5 | with_reducible exact c6 | with_reducible exact c7 | with_reducible exact c8 | with_reducible exact awake_ab)); (· rfl); (· rfl); (· rfl); (· (first | decide | (simp only []; omega) | omega)); simp only [put_some])
            | ((with_reducible apply awI_fy); (· exact svg); (· rfl); (· rfl); (· (first | decide | (simp only []; omega) | omega)); (· exact sv); (· rfl); (· exact sv); (· exact sv); (· (first | with_reducible exact c1 | with_reducible exact c2 | with_reducible exact c3 | with_reducible exact c4 | with_reducible exact c5 | with_reducible exact c6 | with_reducible exact c7 | with_reducible exact c8 | with_reducible exact awake_ab)); (· rfl); (· rfl); (· (first | decide | (simp only []; omega) | omega)); simp only [put_some])
            | ((with_reducible apply awO_guard); (· rfl); (· rfl); (· exact sv); all_goals (intro hg; (try simp only [Bool.not_true, Bool.not_false]); (try simp only [decide_eq_true_eq, decide_eq_false_iff_not, Bool.not_true, Bool.not_false, Bool.not_eq_true', Bool.not_eq_false', Bool.not_not] at hg); try (exfalso; omega)))
            | ((with_reducible apply aw_cond); (· exact sv); all_goals (intro hg; (try simp only [decide_eq_true_eq, decide_eq_false_iff_not, Bool.not_true, Bool.not_false, Bool.not_eq_true', Bool.not_eq_false', Bool.not_not] at hg); try (exfalso; omega)))
            | ((with_reducible apply awY_guard); (· exact sR); (· exact svg); (· rfl); (· rfl); (· exact svl); all_goals (intro hg; (try simp only [Bool.not_true, Bool.not_false]); (try simp only [decide_eq_true_eq, decide_eq_false_iff_not, Bool.not_true, Bool.not_false, Bool.not_eq_true', Bool.not_eq_false', Bool.not_not] at hg); try (exfalso; omega)))
            | ((with_reducible apply retQ_mk); (· (first | exact .inr rfl | exact .inl rfl)); (· exact sv); (· exact sv); rotate_left; (· rfl))
            | ((with_reducible apply wk_id); (with_reducible apply retQ_mk); (· (first | exact .inr rfl | exact .inl rfl)); (· exact sv); (· exact sv); rotate_left; (· rfl))
            | ((try with_reducible apply wk_id); (with_reducible apply retQ_mk1); (· (first | exact .inr rfl | exact .inl rfl)); (· exact sv); (· exact sv); (· exact sv); (· exact sv); rotate_left; rotate_left; (· simp); (· rfl))
            | ((try with_reducible apply wk_id); (with_reducible apply retQ_mk2); (· (first | exact .inr rfl | exact .inl rfl)); (· exact sv); (· exact sv); (· exact sv); (· exact sv); (· exact sv); (· exact sv); rotate_left; rotate_left; rotate_left; (· simp); (· simp); (· rfl))
            | ((with_reducible apply awY_p); (· exact sH); (first | ((with_reducible apply awP_1); (· decide +kernel)) | ((with_reducible apply awP_2); (· exact sP)))))
        all_goals rfl
      · clear hv hsm b4
        refine Fn_of_aw (keep := []) Try.func3 rfl rfl (by simp [Try.ntmps3]) ?_
        simp only [num_cons, num_nil, Try.ntmps3, Try.results3]
        repeat' (first
            | ((with_reducible apply awO_ev); (· rfl); (· exact sv))
            | ((with_reducible apply awO_eqnil); (· rfl); (· rfl); (· exact sv); (· exact sv); (· exact svp); (· rfl); (· (first | decide | (simp only []; omega) | omega)); intro nb hnb; simp only [put_some])
            | ((with_reducible apply awO_neqnil); (· rfl); (· rfl); (· exact sv); (· exact sv); (· exact svp); (· rfl); (· (first | decide | (simp only []; omega) | omega)); intro nb hnb; simp only [put_some])
            | ((with_reducible apply aw_seq); intro _ _)
            | ((with_reducible apply aw_region))
            | ((with_reducible apply aw_block))
            | ((with_reducible apply awO_nil); (try simp only [CT, ↓reduceIte, Nat.reduceEqDiff]))
            | ((with_reducible apply aw_exit); (try simp only [CT, ↓reduceIte, Nat.reduceEqDiff]))
            | ((with_reducible apply aw_skip); (try simp only [CT, ↓reduceIte, Nat.reduceEqDiff]))
            | ((with_reducible apply aw_ret); (try simp only [CT, ↓reduceIte, Nat.reduceEqDiff]))
            | ((with_reducible apply awO_y); (· rfl); (· rfl); (· decide); (· exact sv); (· exact sv))
            | ((with_reducible apply awO_n); (· rfl); (· rfl); (· decide); (· exact sv); (· rfl); (· rfl); (· decide))
            | ((with_reducible apply awO_u); (· rfl); (· rfl); (· exact svr); (· rfl); (· decide))
            | ((with_reducible apply aw_cond_true); (· exact sv))
            | ((with_reducible apply aw_cond_false); (· exact sv))
            | (refine Kont.go ‹Kont _ _ _ _› _ ?_)
            | ((with_reducible apply awO_un); (· rfl); (· decide); (· exact sv))
            | ((with_reducible apply awO_c); (· rfl); (· rfl); (· exact sv); (· (first | with_reducible exact c1 | with_reducible exact c2 | with_reducible exact awake_ab)); (· rfl); (· rfl); (· rfl); (· decide))
            | ((with_reducible apply awO_f); (· rfl); (· rfl); (· exact sv); (· exact sv); (· (first | with_reducible exact c1 | with_reducible exact c2 | with_reducible exact awake_ab)); (· rfl); (· rfl); (· decide))
            | ((with_reducible apply awO_m); (· rfl); (· rfl); (· exact sv); (· (first | with_reducible exact c1 | with_reducible exact c2 | with_reducible exact awake_ab)); (· exact svq); (· exact svq); (· exact svq); (· exact svq); (· rfl); (· (first | decide | (simp only []; omega) | omega)); (with_reducible apply awO_st); (· exact svs))
            | ((with_reducible apply awO_guard); (· rfl); (· rfl); (· exact sv); all_goals (intro hg; (try simp only [Bool.not_true, Bool.not_false]); (try simp only [decide_eq_true_eq, decide_eq_false_iff_not, Bool.not_true, Bool.not_false, Bool.not_eq_true', Bool.not_eq_false', Bool.not_not] at hg); try (exfalso; omega)))
            | ((with_reducible apply aw_cond); (· exact sv); all_goals (intro hg; (try simp only [decide_eq_true_eq, decide_eq_false_iff_not, Bool.not_true, Bool.not_false, Bool.not_eq_true', Bool.not_eq_false', Bool.not_not] at hg); try (exfalso; omega)))
            | ((with_reducible apply retQ_mk); (· (first | exact .inr rfl | exact .inl rfl)); (· exact sv); (· exact sv); rotate_left; (· rfl))
            | ((with_reducible apply wk_id); (with_reducible apply retQ_mk); (· (first | exact .inr rfl | exact .inl rfl)); (· exact sv); (· exact sv); rotate_left; (· rfl))
            | ((try with_reducible apply wk_id); (with_reducible apply retQ_mk1); (· (first | exact .inr rfl | exact .inl rfl)); (· exact sv); (· exact sv); (· exact sv); (· exact sv); rotate_left; rotate_left; (· simp); (· rfl))
            | ((try with_reducible apply wk_id); (with_reducible apply retQ_mk2); (· (first | exact .inr rfl | exact .inl rfl)); (· exact sv); (· exact sv); (· exact sv); (· exact sv); (· exact sv); (· exact sv); rotate_left; rotate_left; rotate_left; (· simp); (· simp); (· rfl)))
        all_goals rfl
    · clear hsm b4
      refine Fn_of_aw (keep := []) Try.func3 rfl rfl (by simp [Try.ntmps3]) ?_
      simp only [num_cons, num_nil, Try.ntmps3, Try.results3]
      repeat' (first
          | ((with_reducible apply awO_ev); (· rfl); (· exact sv))
          | ((with_reducible apply awO_eqnil); (· rfl); (· rfl); (· exact sv); (· exact sv); (· exact svp); (· rfl); (· (first | decide | (simp only []; omega) | omega)); intro nb hnb; simp only [put_some])
          | ((with_reducible apply awO_neqnil); (· rfl); (· rfl); (· exact sv); (· exact sv); (· exact svp); (· rfl); (· (first | decide | (simp only []; omega) | omega)); intro nb hnb; simp only [put_some])
          | ((with_reducible apply aw_seq); intro _ _)
          | ((with_reducible apply aw_region))
          | ((with_reducible apply aw_block))
          | ((with_reducible apply awO_nil); (try simp only [CT, ↓reduceIte, Nat.reduceEqDiff]))
          | ((with_reducible apply aw_exit); (try simp only [CT, ↓reduceIte, Nat.reduceEqDiff]))
          | ((with_reducible apply aw_skip); (try simp only [CT, ↓reduceIte, Nat.reduceEqDiff]))
          | ((with_reducible apply aw_ret); (try simp only [CT, ↓reduceIte, Nat.reduceEqDiff]))
          | ((with_reducible apply awO_y); (· rfl); (· rfl); (· decide); (· exact sv); (· exact sv))
          | ((with_reducible apply awO_n); (· rfl); (· rfl); (· decide); (· exact sv); (· rfl); (· rfl); (· decide))
          | ((with_reducible apply awO_u); (· rfl); (· rfl); (· exact svr); (· rfl); (· decide))
          | ((with_reducible apply aw_cond_true); (· exact sv))
          | ((with_reducible apply aw_cond_false); (· exact sv))
          | (refine Kont.go ‹Kont _ _ _ _› _ ?_)
          | ((with_reducible apply awO_un); (· rfl); (· decide); (· exact sv))
          | ((with_reducible apply awO_c); (· rfl); (· rfl); (· exact sv); (· (first | with_reducible exact c1 | with_reducible exact c2 | with_reducible exact awake_ab)); (· rfl); (· rfl); (· rfl); (· decide))
          | ((with_reducible apply awO_f); (· rfl); (· rfl); (· exact sv); (· exact sv); (· (first | with_reducible exact c1 | with_reducible exact c2 | with_reducible exact awake_ab)); (· rfl); (· rfl); (· decide))
          | ((with_reducible apply awO_m); (· rfl); (· rfl); (· exact sv); (· (first | with_reducible exact c1 | with_reducible exact c2 | with_reducible exact awake_ab)); (· exact svq); (· exact svq); (· exact svq); (· exact svq); (· rfl); (· (first | decide | (simp only []; omega) | omega)); (with_reducible apply awO_st); (· exact svs))
          | ((with_reducible apply awO_guard); (· rfl); (· rfl); (· exact sv); all_goals (intro hg; (try simp only [Bool.not_true, Bool.not_false]); (try simp only [decide_eq_true_eq, decide_eq_false_iff_not, Bool.not_true, Bool.not_false, Bool.not_eq_true', Bool.not_eq_false', Bool.not_not] at hg); try (exfalso; omega)))
          | ((with_reducible apply aw_cond); (· exact sv); all_goals (intro hg; (try simp only [decide_eq_true_eq, decide_eq_false_iff_not, Bool.not_true, Bool.not_false, Bool.not_eq_true', Bool.not_eq_false', Bool.not_not] at hg); try (exfalso; omega)))
          | ((with_reducible apply retQ_mk); (· (first | exact .inr rfl | exact .inl rfl)); (· exact sv); (· exact sv); rotate_left; (· rfl))
          | ((with_reducible apply wk_id); (with_reducible apply retQ_mk); (· (first | exact .inr rfl | exact .inl rfl)); (· exact sv); (· exact sv); rotate_left; (· rfl))
          | ((try with_reducible apply wk_id); (with_reducible apply retQ_mk1); (· (first | exact .inr rfl | exact .inl rfl)); (· exact sv); (· exact sv); (· exact sv); (· exact sv); rotate_left; rotate_left; (· simp); (· rfl))
          | ((try with_reducible apply wk_id); (with_reducible apply retQ_mk2); (· (first | exact .inr rfl | exact .inl rfl)); (· exact sv); (· exact sv); (· exact sv); (· exact sv); (· exact sv); (· exact sv); rotate_left; rotate_left; rotate_left; (· simp); (· simp); (· rfl)))
      all_goals rfl
end Go.Proofs.Ytnnggogelnafnaa
