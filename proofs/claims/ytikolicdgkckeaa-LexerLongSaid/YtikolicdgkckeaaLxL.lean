/- The law LexerLong, on the abstract machine. -/
import Derived.Test.YtikolicdgkckeaaLxY
import Derived.Test.YtikolicdgkckeaaLxX
namespace Go.Proofs.Ytikolicdgkckeaa
open Go.RowKit
set_option linter.unusedVariables false
set_option linter.unusedSimpArgs false
set_option maxRecDepth 100000
set_option maxHeartbeats 8000000
theorem allF_long {s : List UInt8} (h : 16384 < s.length) : allF s = ([], 0, 3) := by
  unfold allF
  rw [allT]
  have : nextF s ((0 : Nat) : Int) = (⟨0, 0, 0, []⟩, 3) := by unfold nextF; rw [if_pos h]
  rw [this]
  rfl
theorem close_aq {r : List UInt8} (h : ¬ 16384 < (39 :: 97 :: 39 :: r : List UInt8).length) : closeF (39 :: 97 :: 39 :: r) 0 = (3, 0) := by
  have hc : con (39 :: 97 :: 39 :: r) 0 = (3, 0) := by rw [con_39 (by decide)]; rfl
  unfold closeF
  rw [if_neg h, if_neg]
  · show (((0 + (con (39 :: 97 :: 39 :: r) 0).1 : Nat) : Int), (con (39 :: 97 :: 39 :: r) 0).2) = _
    rw [hc]; rfl
  · rintro (h | h | h)
    · omega
    · simp at h; omega
    · cases h
theorem cnvU8 {n : Int} (h0 : 0 ≤ n) (h1 : n ≤ 255) : cnv Try.prog 5 3 (.int .u8 n) = some (.int .i64 n) := by
  rw [cnv_int (k := .i64) .u8 n (by kernel_rfl) (by kernel_rfl), wrap64 (by omega) (by omega)]
attribute [go_sem] cnvU8
theorem lexerLong_ab (k : Int) (hk : 0 ≤ k ∧ k ≤ 255) : Ab Try.prog 8 [.v (.int .u8 k)] (ab true) := by
  obtain ⟨hk0, hk1⟩ := hk
  by_cases h3 : k ≤ 3
  · skip
    refine Fn_of_aw (keep := []) Try.func8 rfl rfl (by simp [Try.ntmps8]) ?_
    simp only [num_cons, num_nil, Try.ntmps8, Try.results8]
    repeat' (first
        | ((with_reducible apply awO_ev); (· rfl); (· exact sv))
        | ((with_reducible apply awO_eqnil); (· rfl); (· rfl); (· exact sv); (· exact sv); (· exact svp); (· rfl); (· (first | decide | (simp only []; omega) | omega)); intro nb hnb; simp only [put_some])
        | ((with_reducible apply awO_neqnil); (· rfl); (· rfl); (· exact sv); (· exact sv); (· exact svp); (· rfl); (· (first | decide | (simp only []; omega) | omega)); intro nb hnb; simp only [put_some])
        | ((with_reducible apply aw_seq); intro _ _)
        | ((with_reducible apply aw_region))
        | ((with_reducible apply aw_block))
        | ((with_reducible apply awO_nil); (try simp only [CT, ↓reduceIte, Nat.reduceEqDiff]))
        | ((with_reducible apply aw_exit); (try simp only [CT, ↓reduceIte, Nat.reduceEqDiff]))
        | ((with_reducible apply aw_skip); (try simp only [CT, ↓reduceIte, Nat.reduceEqDiff]))
        | ((with_reducible apply aw_ret); (try simp only [CT, ↓reduceIte, Nat.reduceEqDiff]))
        | ((with_reducible apply awO_y); (· rfl); (· rfl); (· decide); (· exact sv); (· exact sv))
        | ((with_reducible apply awO_n); (· rfl); (· rfl); (· decide); (· exact sv); (· rfl); (· rfl); (· decide))
        | ((with_reducible apply awO_u); (· rfl); (· rfl); (· exact svr); (· rfl); (· decide))
        | ((with_reducible apply aw_cond_true); (· exact sv))
        | ((with_reducible apply aw_cond_false); (· exact sv))
        | (refine Kont.go ‹Kont _ _ _ _› _ ?_)
        | ((with_reducible apply awO_guard); (· rfl); (· rfl); (· exact sv); all_goals (intro hg; (try simp only [Bool.not_true, Bool.not_false]); (try simp only [decide_eq_true_eq, decide_eq_false_iff_not, Bool.not_true, Bool.not_false, Bool.not_eq_true', Bool.not_eq_false', Bool.not_not] at hg); try (exfalso; omega)))
        | ((with_reducible apply aw_cond); (· exact sv); all_goals (intro hg; (try simp only [decide_eq_true_eq, decide_eq_false_iff_not, Bool.not_true, Bool.not_false, Bool.not_eq_true', Bool.not_eq_false', Bool.not_not] at hg); try (exfalso; omega)))
        | ((with_reducible apply retQ_mk); (· (first | exact .inr rfl | exact .inl rfl)); (· exact sv); (· exact sv); rotate_left; (· rfl))
        | ((with_reducible apply wk_id); (with_reducible apply retQ_mk); (· (first | exact .inr rfl | exact .inl rfl)); (· exact sv); (· exact sv); rotate_left; (· rfl))
        | ((try with_reducible apply wk_id); (with_reducible apply retQ_mk1); (· (first | exact .inr rfl | exact .inl rfl)); (· exact sv); (· exact sv); (· exact sv); (· exact sv); rotate_left; rotate_left; (· simp); (· rfl))
        | ((try with_reducible apply wk_id); (with_reducible apply retQ_mk2); (· (first | exact .inr rfl | exact .inl rfl)); (· exact sv); (· exact sv); (· exact sv); (· exact sv); (· exact sv); (· exact sv); rotate_left; rotate_left; rotate_left; (· simp); (· simp); (· rfl)))
    refine aw_loopF (fun x : Nat × List UInt8 => [(4, ai x.1), (3, az (39 :: 97 :: 39 :: x.2))]) (fun _ => []) (fun x => x.1 ≤ 14 ∧ x.2.length + 3 = 3 * 2 ^ x.1 ∧ x.2.length + 3 ≤ 32768) (fun x => 14 - x.1) (0, []) ⟨by simp, by simp, by simp⟩ ?_ ?_ ?_
    · (simp only [LP, look_cons, look_nil, and_true, true_and, ↓reduceIte, Nat.reduceEqDiff, Option.some.injEq, AV.v.injEq, Value.int.injEq, Int.natCast_add, Int.cast_ofNat_Int])
    · (simp only [LP, look_cons, look_nil, and_true, true_and, ↓reduceIte, Nat.reduceEqDiff, Option.some.injEq, AV.v.injEq, Value.int.injEq, Int.natCast_add, Int.cast_ofNat_Int])
    rintro ⟨i, r⟩ ⟨hi, hl, hb⟩
    simp only at hi hl hb
    (simp only [LP, List.append_assoc, List.nil_append, List.cons_append, List.append_nil, List.contains_cons, List.contains_nil, Nat.reduceBEq, Bool.or_false, Bool.or_true, Bool.true_or, Bool.false_or, ↓reduceIte, Bool.false_eq_true])
    by_cases hc : r.length + 3 ≤ 16384
    · have hi13 : i < 14 := by
        rcases Nat.lt_or_ge i 14 with h | h
        · exact h
        · obtain rfl : i = 14 := by omega
          omega
      repeat' (first
          | ((with_reducible apply awO_ev); (· rfl); (· exact sv))
          | ((with_reducible apply awO_eqnil); (· rfl); (· rfl); (· exact sv); (· exact sv); (· exact svp); (· rfl); (· (first | decide | (simp only []; omega) | omega)); intro nb hnb; simp only [put_some])
          | ((with_reducible apply awO_neqnil); (· rfl); (· rfl); (· exact sv); (· exact sv); (· exact svp); (· rfl); (· (first | decide | (simp only []; omega) | omega)); intro nb hnb; simp only [put_some])
          | ((with_reducible apply aw_seq); intro _ _)
          | ((with_reducible apply aw_region))
          | ((with_reducible apply aw_block))
          | ((with_reducible apply awO_nil); (try simp only [CT, ↓reduceIte, Nat.reduceEqDiff]))
          | ((with_reducible apply aw_exit); (try simp only [CT, ↓reduceIte, Nat.reduceEqDiff]))
          | ((with_reducible apply aw_skip); (try simp only [CT, ↓reduceIte, Nat.reduceEqDiff]))
          | ((with_reducible apply aw_ret); (try simp only [CT, ↓reduceIte, Nat.reduceEqDiff]))
          | ((with_reducible apply awO_y); (· rfl); (· rfl); (· decide); (· exact sv); (· exact sv))
          | ((with_reducible apply awO_n); (· rfl); (· rfl); (· decide); (· exact sv); (· rfl); (· rfl); (· decide))
          | ((with_reducible apply awO_u); (· rfl); (· rfl); (· exact svr); (· rfl); (· decide))
          | ((with_reducible apply aw_cond_true); (· exact sv))
          | ((with_reducible apply aw_cond_false); (· exact sv))
          | (refine Kont.go ‹Kont _ _ _ _› _ ?_)
          | ((with_reducible apply awO_guard); (· rfl); (· rfl); (· exact sv); all_goals (intro hg; (try simp only [Bool.not_true, Bool.not_false]); (try simp only [decide_eq_true_eq, decide_eq_false_iff_not, Bool.not_true, Bool.not_false, Bool.not_eq_true', Bool.not_eq_false', Bool.not_not] at hg); try (exfalso; omega)))
          | ((with_reducible apply aw_cond); (· exact sv); all_goals (intro hg; (try simp only [decide_eq_true_eq, decide_eq_false_iff_not, Bool.not_true, Bool.not_false, Bool.not_eq_true', Bool.not_eq_false', Bool.not_not] at hg); try (exfalso; omega)))
          | ((with_reducible apply retQ_mk); (· (first | exact .inr rfl | exact .inl rfl)); (· exact sv); (· exact sv); rotate_left; (· rfl))
          | ((with_reducible apply wk_id); (with_reducible apply retQ_mk); (· (first | exact .inr rfl | exact .inl rfl)); (· exact sv); (· exact sv); rotate_left; (· rfl))
          | ((try with_reducible apply wk_id); (with_reducible apply retQ_mk1); (· (first | exact .inr rfl | exact .inl rfl)); (· exact sv); (· exact sv); (· exact sv); (· exact sv); rotate_left; rotate_left; (· simp); (· rfl))
          | ((try with_reducible apply wk_id); (with_reducible apply retQ_mk2); (· (first | exact .inr rfl | exact .inl rfl)); (· exact sv); (· exact sv); (· exact sv); (· exact sv); (· exact sv); (· exact sv); rotate_left; rotate_left; rotate_left; (· simp); (· simp); (· rfl)))
      refine LE_mk ((i + 1, r ++ (39 :: 97 :: 39 :: r))) ?_ ?_ sN sN sN
      · exact ⟨by simp only; omega, by simp only [List.length_append, List.length_cons, Nat.pow_succ]; omega, by simp only [List.length_append, List.length_cons]; omega⟩
      · simp only; omega
    · have hT : (List.take ((16382 + k).toNat - 3) r).length = (16382 + k).toNat - 3 := by simp only [List.length_take]; omega
      have hS : (39 :: 97 :: 39 :: List.take ((16382 + k).toNat - 3) r).length = (16382 + k).toNat := by simp only [List.length_cons, hT]; omega
      have c1 := all_ab (39 :: 97 :: 39 :: List.take ((16382 + k).toNat - 3) r) (by omega)
      have c2 := close_ab (39 :: 97 :: 39 :: List.take ((16382 + k).toNat - 3) r) 0 (by omega)
      have c3 := next_ab (39 :: 97 :: 39 :: List.take ((16382 + k).toNat - 3) r) 0 (by omega)
      by_cases hk3 : k = 3
      · have hlen : 16384 < (39 :: 97 :: 39 :: List.take ((16382 + k).toNat - 3) r).length := by omega
        rw [allF_long hlen] at c1
        rw [show closeF (39 :: 97 :: 39 :: List.take ((16382 + k).toNat - 3) r) 0 = (0, 3) from by unfold closeF; rw [if_pos hlen]] at c2
        rw [show nextF (39 :: 97 :: 39 :: List.take ((16382 + k).toNat - 3) r) 0 = (⟨0, 0, 0, []⟩, 3) from by unfold nextF; rw [if_pos hlen]] at c3
        replace c1 : Ab Try.prog 23 [az (39 :: 97 :: 39 :: List.take ((16382 + k).toNat - 3) r)] (.tp [.v (.slice none 0 0), ai 0, ai 3]) := c1
        repeat' (first
            | ((with_reducible apply awO_ev); (· rfl); (· exact sv))
            | ((with_reducible apply awO_eqnil); (· rfl); (· rfl); (· exact sv); (· exact sv); (· exact svp); (· rfl); (· (first | decide | (simp only []; omega) | omega)); intro nb hnb; simp only [put_some])
            | ((with_reducible apply awO_neqnil); (· rfl); (· rfl); (· exact sv); (· exact sv); (· exact svp); (· rfl); (· (first | decide | (simp only []; omega) | omega)); intro nb hnb; simp only [put_some])
            | ((with_reducible apply aw_seq); intro _ _)
            | ((with_reducible apply aw_region))
            | ((with_reducible apply aw_block))
            | ((with_reducible apply awO_nil); (try simp only [CT, ↓reduceIte, Nat.reduceEqDiff]))
            | ((with_reducible apply aw_exit); (try simp only [CT, ↓reduceIte, Nat.reduceEqDiff]))
            | ((with_reducible apply aw_skip); (try simp only [CT, ↓reduceIte, Nat.reduceEqDiff]))
            | ((with_reducible apply aw_ret); (try simp only [CT, ↓reduceIte, Nat.reduceEqDiff]))
            | ((with_reducible apply awO_y); (· rfl); (· rfl); (· decide); (· exact sv); (· exact sv))
            | ((with_reducible apply awO_n); (· rfl); (· rfl); (· decide); (· exact sv); (· rfl); (· rfl); (· decide))
            | ((with_reducible apply awO_u); (· rfl); (· rfl); (· exact svr); (· rfl); (· decide))
            | ((with_reducible apply aw_cond_true); (· exact sv))
            | ((with_reducible apply aw_cond_false); (· exact sv))
            | (refine Kont.go ‹Kont _ _ _ _› _ ?_)
            | ((with_reducible apply awO_un); (· rfl); (· decide); (· exact sv))
            | ((with_reducible apply awO_c); (· rfl); (· rfl); (· exact sv); (· (first | with_reducible exact c1 | with_reducible exact c2 | with_reducible exact c3 | with_reducible exact awake_ab)); (· rfl); (· rfl); (· rfl); (· decide))
            | ((with_reducible apply awO_f); (· rfl); (· rfl); (· exact sv); (· exact sv); (· (first | with_reducible exact c1 | with_reducible exact c2 | with_reducible exact c3 | with_reducible exact awake_ab)); (· rfl); (· rfl); (· decide))
            | ((with_reducible apply awO_m); (· rfl); (· rfl); (· exact sv); (· (first | with_reducible exact c1 | with_reducible exact c2 | with_reducible exact c3 | with_reducible exact awake_ab)); (· exact svq); (· exact svq); (· exact svq); (· exact svq); (· rfl); (· (first | decide | (simp only []; omega) | omega)); (with_reducible apply awO_st); (· exact svs))
            | ((with_reducible apply aw_draw); (· decide +kernel); (simp only [List.size_toArray, List.length_cons, List.length_nil, Nat.reduceAdd]))
            | ((with_reducible apply awY_done); (· decide +kernel); (try simp only [CT, ↓reduceIte, Nat.reduceEqDiff]))
            | ((with_reducible apply awY_q); (· exact sQ); (· repeat (first | (with_reducible exact NP_ret) | (with_reducible apply NP_then) | (with_reducible apply NP_blk) | (with_reducible apply NP_wk) | (with_reducible apply NP_end))); (· exact svg); (· rfl); (· exact sv))
            | ((with_reducible apply awY_qy); (· exact sQ); (· repeat (first | (with_reducible exact NP_ret) | (with_reducible apply NP_then) | (with_reducible apply NP_blk) | (with_reducible apply NP_wk) | (with_reducible apply NP_end))); (· exact svg); (· rfl); (· rfl); (· (first | decide | (simp only []; omega) | omega)); (· exact sv); (· exact sv))
            | ((with_reducible apply awY_qn); (· exact sQ); (· repeat (first | (with_reducible exact NP_ret) | (with_reducible apply NP_then) | (with_reducible apply NP_blk) | (with_reducible apply NP_wk) | (with_reducible apply NP_end))); (· exact svg); (· rfl); (· rfl); (· (first | decide | (simp only []; omega) | omega)); (· exact sv); (· rfl); (· rfl); (· (first | decide | (simp only []; omega) | omega)); simp only [put_some])
            | ((with_reducible apply awY_qu); (· exact sQ); (· repeat (first | (with_reducible exact NP_ret) | (with_reducible apply NP_then) | (with_reducible apply NP_blk) | (with_reducible apply NP_wk) | (with_reducible apply NP_end))); (· exact svg); (· rfl); (· rfl); (· exact svr); (· rfl); (· (first | decide | (simp only []; omega) | omega)); simp only [put_some])
            | ((with_reducible apply awY_tn); (· exact sT); (· repeat (first | (with_reducible exact NP_ret) | (with_reducible apply NP_then) | (with_reducible apply NP_blk) | (with_reducible apply NP_wk) | (with_reducible apply NP_end))); (· exact svg); (· rfl); (· rfl); (· (first | decide | (simp only []; omega) | omega)); (· exact sv); (· rfl); (· rfl); (· (first | decide | (simp only []; omega) | omega)); simp only [put_some])
            | ((with_reducible apply awY_tu); (· exact sT); (· repeat (first | (with_reducible exact NP_ret) | (with_reducible apply NP_then) | (with_reducible apply NP_blk) | (with_reducible apply NP_wk) | (with_reducible apply NP_end))); (· exact svg); (· rfl); (· rfl); (· exact svr); (· rfl); (· (first | decide | (simp only []; omega) | omega)); simp only [put_some])
            | ((with_reducible apply endQ_rfl))
            | ((with_reducible apply endQ_sub); (· exact sE); (· exact sN))
            | ((with_reducible apply awI_ev); (· exact svg); (· rfl); (· exact sv))
            | ((with_reducible apply awI_c); (· exact svg); (· rfl); (· rfl); (· exact sv); (· (first | with_reducible exact c1 | with_reducible exact c2 | with_reducible exact c3 | with_reducible exact awake_ab)); (· rfl); (· rfl); (· rfl); (· (first | decide | (simp only []; omega) | omega)); simp only [put_some])
            | ((with_reducible apply awI_f); (· exact svg); (· rfl); (· rfl); (· exact sv); (· exact sv); (· (first | with_reducible exact c1 | with_reducible exact c2 | with_reducible exact c3 | with_reducible exact awake_ab)); (· rfl); (· rfl); (· (first | decide | (simp only []; omega) | omega)); simp only [put_some])
            | ((with_reducible apply awI_cy); (· exact svg); (· rfl); (· rfl); (· (first | decide | (simp only []; omega) | omega)); (· exact sv); (· rfl); (· exact sv); (· (first | with_reducible exact c1 | with_reducible exact c2 | with_reducible exact c3 | with_reducible exact awake_ab)); (· rfl); (· rfl); (· rfl); (· (first | decide | (simp only []; omega) | omega)); simp only [put_some])
            | ((with_reducible apply awI_fy); (· exact svg); (· rfl); (· rfl); (· (first | decide | (simp only []; omega) | omega)); (· exact sv); (· rfl); (· exact sv); (· exact sv); (· (first | with_reducible exact c1 | with_reducible exact c2 | with_reducible exact c3 | with_reducible exact awake_ab)); (· rfl); (· rfl); (· (first | decide | (simp only []; omega) | omega)); simp only [put_some])
            | ((with_reducible apply awO_guard); (· rfl); (· rfl); (· exact sv); all_goals (intro hg; (try simp only [Bool.not_true, Bool.not_false]); (try simp only [decide_eq_true_eq, decide_eq_false_iff_not, Bool.not_true, Bool.not_false, Bool.not_eq_true', Bool.not_eq_false', Bool.not_not] at hg); try (exfalso; omega)))
            | ((with_reducible apply aw_cond); (· exact sv); all_goals (intro hg; (try simp only [decide_eq_true_eq, decide_eq_false_iff_not, Bool.not_true, Bool.not_false, Bool.not_eq_true', Bool.not_eq_false', Bool.not_not] at hg); try (exfalso; omega)))
            | ((with_reducible apply awY_guard); (· exact sR); (· exact svg); (· rfl); (· rfl); (· exact svl); all_goals (intro hg; (try simp only [Bool.not_true, Bool.not_false]); (try simp only [decide_eq_true_eq, decide_eq_false_iff_not, Bool.not_true, Bool.not_false, Bool.not_eq_true', Bool.not_eq_false', Bool.not_not] at hg); try (exfalso; omega)))
            | ((with_reducible apply retQ_mk); (· (first | exact .inr rfl | exact .inl rfl)); (· exact sv); (· exact sv); rotate_left; (· rfl))
            | ((with_reducible apply wk_id); (with_reducible apply retQ_mk); (· (first | exact .inr rfl | exact .inl rfl)); (· exact sv); (· exact sv); rotate_left; (· rfl))
            | ((try with_reducible apply wk_id); (with_reducible apply retQ_mk1); (· (first | exact .inr rfl | exact .inl rfl)); (· exact sv); (· exact sv); (· exact sv); (· exact sv); rotate_left; rotate_left; (· simp); (· rfl))
            | ((try with_reducible apply wk_id); (with_reducible apply retQ_mk2); (· (first | exact .inr rfl | exact .inl rfl)); (· exact sv); (· exact sv); (· exact sv); (· exact sv); (· exact sv); (· exact sv); rotate_left; rotate_left; rotate_left; (· simp); (· simp); (· rfl))
            | ((with_reducible apply awY_p); (· exact sH); (first | ((with_reducible apply awP_1); (· decide +kernel)) | ((with_reducible apply awP_2); (· exact sP)))))
        all_goals rfl
      · have hlen : ¬ 16384 < (39 :: 97 :: 39 :: List.take ((16382 + k).toNat - 3) r).length := by omega
        rw [close_aq hlen] at c2
        have e1 := allT_e hlen ((39 :: 97 :: 39 :: List.take ((16382 + k).toNat - 3) r).length + 2) 0
        have e3 := nextF_e (z := 0) hlen
        rw [show allT (39 :: 97 :: 39 :: List.take ((16382 + k).toNat - 3) r) ((39 :: 97 :: 39 :: List.take ((16382 + k).toNat - 3) r).length + 2) 0 = allF (39 :: 97 :: 39 :: List.take ((16382 + k).toNat - 3) r) from rfl] at e1
        generalize allF (39 :: 97 :: 39 :: List.take ((16382 + k).toNat - 3) r) = A at c1 e1
        generalize nextF (39 :: 97 :: 39 :: List.take ((16382 + k).toNat - 3) r) 0 = B at c3 e3
        obtain ⟨L, p, e⟩ := A
        obtain ⟨t, e'⟩ := B
        obtain ⟨kd, ps, fi, tx⟩ := t
        simp only at e1 e3
        replace e3 : e' ≠ 3 := by omega
        by_cases he : e = 0
        · subst he
          replace c1 : Ab Try.prog 23 [az (39 :: 97 :: 39 :: List.take ((16382 + k).toNat - 3) r)] (.tp [toksA L, ai p, ai 0]) := c1
          repeat' (first
              | ((with_reducible apply awO_ev); (· rfl); (· exact sv))
              | ((with_reducible apply awO_eqnil); (· rfl); (· rfl); (· exact sv); (· exact sv); (· exact svp); (· rfl); (· (first | decide | (simp only []; omega) | omega)); intro nb hnb; simp only [put_some])
              | ((with_reducible apply awO_neqnil); (· rfl); (· rfl); (· exact sv); (· exact sv); (· exact svp); (· rfl); (· (first | decide | (simp only []; omega) | omega)); intro nb hnb; simp only [put_some])
              | ((with_reducible apply aw_seq); intro _ _)
              | ((with_reducible apply aw_region))
              | ((with_reducible apply aw_block))
              | ((with_reducible apply awO_nil); (try simp only [CT, ↓reduceIte, Nat.reduceEqDiff]))
              | ((with_reducible apply aw_exit); (try simp only [CT, ↓reduceIte, Nat.reduceEqDiff]))
              | ((with_reducible apply aw_skip); (try simp only [CT, ↓reduceIte, Nat.reduceEqDiff]))
              | ((with_reducible apply aw_ret); (try simp only [CT, ↓reduceIte, Nat.reduceEqDiff]))
              | ((with_reducible apply awO_y); (· rfl); (· rfl); (· decide); (· exact sv); (· exact sv))
              | ((with_reducible apply awO_n); (· rfl); (· rfl); (· decide); (· exact sv); (· rfl); (· rfl); (· decide))
              | ((with_reducible apply awO_u); (· rfl); (· rfl); (· exact svr); (· rfl); (· decide))
              | ((with_reducible apply aw_cond_true); (· exact sv))
              | ((with_reducible apply aw_cond_false); (· exact sv))
              | (refine Kont.go ‹Kont _ _ _ _› _ ?_)
              | ((with_reducible apply awO_un); (· rfl); (· decide); (· exact sv))
              | ((with_reducible apply awO_c); (· rfl); (· rfl); (· exact sv); (· (first | with_reducible exact c1 | with_reducible exact c2 | with_reducible exact c3 | with_reducible exact awake_ab)); (· rfl); (· rfl); (· rfl); (· decide))
              | ((with_reducible apply awO_f); (· rfl); (· rfl); (· exact sv); (· exact sv); (· (first | with_reducible exact c1 | with_reducible exact c2 | with_reducible exact c3 | with_reducible exact awake_ab)); (· rfl); (· rfl); (· decide))
              | ((with_reducible apply awO_m); (· rfl); (· rfl); (· exact sv); (· (first | with_reducible exact c1 | with_reducible exact c2 | with_reducible exact c3 | with_reducible exact awake_ab)); (· exact svq); (· exact svq); (· exact svq); (· exact svq); (· rfl); (· (first | decide | (simp only []; omega) | omega)); (with_reducible apply awO_st); (· exact svs))
              | ((with_reducible apply aw_draw); (· decide +kernel); (simp only [List.size_toArray, List.length_cons, List.length_nil, Nat.reduceAdd]))
              | ((with_reducible apply awY_done); (· decide +kernel); (try simp only [CT, ↓reduceIte, Nat.reduceEqDiff]))
              | ((with_reducible apply awY_q); (· exact sQ); (· repeat (first | (with_reducible exact NP_ret) | (with_reducible apply NP_then) | (with_reducible apply NP_blk) | (with_reducible apply NP_wk) | (with_reducible apply NP_end))); (· exact svg); (· rfl); (· exact sv))
              | ((with_reducible apply awY_qy); (· exact sQ); (· repeat (first | (with_reducible exact NP_ret) | (with_reducible apply NP_then) | (with_reducible apply NP_blk) | (with_reducible apply NP_wk) | (with_reducible apply NP_end))); (· exact svg); (· rfl); (· rfl); (· (first | decide | (simp only []; omega) | omega)); (· exact sv); (· exact sv))
              | ((with_reducible apply awY_qn); (· exact sQ); (· repeat (first | (with_reducible exact NP_ret) | (with_reducible apply NP_then) | (with_reducible apply NP_blk) | (with_reducible apply NP_wk) | (with_reducible apply NP_end))); (· exact svg); (· rfl); (· rfl); (· (first | decide | (simp only []; omega) | omega)); (· exact sv); (· rfl); (· rfl); (· (first | decide | (simp only []; omega) | omega)); simp only [put_some])
              | ((with_reducible apply awY_qu); (· exact sQ); (· repeat (first | (with_reducible exact NP_ret) | (with_reducible apply NP_then) | (with_reducible apply NP_blk) | (with_reducible apply NP_wk) | (with_reducible apply NP_end))); (· exact svg); (· rfl); (· rfl); (· exact svr); (· rfl); (· (first | decide | (simp only []; omega) | omega)); simp only [put_some])
              | ((with_reducible apply awY_tn); (· exact sT); (· repeat (first | (with_reducible exact NP_ret) | (with_reducible apply NP_then) | (with_reducible apply NP_blk) | (with_reducible apply NP_wk) | (with_reducible apply NP_end))); (· exact svg); (· rfl); (· rfl); (· (first | decide | (simp only []; omega) | omega)); (· exact sv); (· rfl); (· rfl); (· (first | decide | (simp only []; omega) | omega)); simp only [put_some])
              | ((with_reducible apply awY_tu); (· exact sT); (· repeat (first | (with_reducible exact NP_ret) | (with_reducible apply NP_then) | (with_reducible apply NP_blk) | (with_reducible apply NP_wk) | (with_reducible apply NP_end))); (· exact svg); (· rfl); (· rfl); (· exact svr); (· rfl); (· (first | decide | (simp only []; omega) | omega)); simp only [put_some])
              | ((with_reducible apply endQ_rfl))
              | ((with_reducible apply endQ_sub); (· exact sE); (· exact sN))
              | ((with_reducible apply awI_ev); (· exact svg); (· rfl); (· exact sv))
              | ((with_reducible apply awI_c); (· exact svg); (· rfl); (· rfl); (· exact sv); (· (first | with_reducible exact c1 | with_reducible exact c2 | with_reducible exact c3 | with_reducible exact awake_ab)); (· rfl); (· rfl); (· rfl); (· (first | decide | (simp only []; omega) | omega)); simp only [put_some])
              | ((with_reducible apply awI_f); (· exact svg); (· rfl); (· rfl); (· exact sv); (· exact sv); (· (first | with_reducible exact c1 | with_reducible exact c2 | with_reducible exact c3 | with_reducible exact awake_ab)); (· rfl); (· rfl); (· (first | decide | (simp only []; omega) | omega)); simp only [put_some])
              | ((with_reducible apply awI_cy); (· exact svg); (· rfl); (· rfl); (· (first | decide | (simp only []; omega) | omega)); (· exact sv); (· rfl); (· exact sv); (· (first | with_reducible exact c1 | with_reducible exact c2 | with_reducible exact c3 | with_reducible exact awake_ab)); (· rfl); (· rfl); (· rfl); (· (first | decide | (simp only []; omega) | omega)); simp only [put_some])
              | ((with_reducible apply awI_fy); (· exact svg); (· rfl); (· rfl); (· (first | decide | (simp only []; omega) | omega)); (· exact sv); (· rfl); (· exact sv); (· exact sv); (· (first | with_reducible exact c1 | with_reducible exact c2 | with_reducible exact c3 | with_reducible exact awake_ab)); (· rfl); (· rfl); (· (first | decide | (simp only []; omega) | omega)); simp only [put_some])
              | ((with_reducible apply awO_guard); (· rfl); (· rfl); (· exact sv); all_goals (intro hg; (try simp only [Bool.not_true, Bool.not_false]); (try simp only [decide_eq_true_eq, decide_eq_false_iff_not, Bool.not_true, Bool.not_false, Bool.not_eq_true', Bool.not_eq_false', Bool.not_not] at hg); try (exfalso; omega)))
              | ((with_reducible apply aw_cond); (· exact sv); all_goals (intro hg; (try simp only [decide_eq_true_eq, decide_eq_false_iff_not, Bool.not_true, Bool.not_false, Bool.not_eq_true', Bool.not_eq_false', Bool.not_not] at hg); try (exfalso; omega)))
              | ((with_reducible apply awY_guard); (· exact sR); (· exact svg); (· rfl); (· rfl); (· exact svl); all_goals (intro hg; (try simp only [Bool.not_true, Bool.not_false]); (try simp only [decide_eq_true_eq, decide_eq_false_iff_not, Bool.not_true, Bool.not_false, Bool.not_eq_true', Bool.not_eq_false', Bool.not_not] at hg); try (exfalso; omega)))
              | ((with_reducible apply retQ_mk); (· (first | exact .inr rfl | exact .inl rfl)); (· exact sv); (· exact sv); rotate_left; (· rfl))
              | ((with_reducible apply wk_id); (with_reducible apply retQ_mk); (· (first | exact .inr rfl | exact .inl rfl)); (· exact sv); (· exact sv); rotate_left; (· rfl))
              | ((try with_reducible apply wk_id); (with_reducible apply retQ_mk1); (· (first | exact .inr rfl | exact .inl rfl)); (· exact sv); (· exact sv); (· exact sv); (· exact sv); rotate_left; rotate_left; (· simp); (· rfl))
              | ((try with_reducible apply wk_id); (with_reducible apply retQ_mk2); (· (first | exact .inr rfl | exact .inl rfl)); (· exact sv); (· exact sv); (· exact sv); (· exact sv); (· exact sv); (· exact sv); rotate_left; rotate_left; rotate_left; (· simp); (· simp); (· rfl))
              | ((with_reducible apply awY_p); (· exact sH); (first | ((with_reducible apply awP_1); (· decide +kernel)) | ((with_reducible apply awP_2); (· exact sP)))))
          all_goals rfl
        · unfold allA at c1
          simp only at c1
          rw [if_neg he] at c1
          replace e1 : e ≠ 3 := by omega
          repeat' (first
              | ((with_reducible apply awO_ev); (· rfl); (· exact sv))
              | ((with_reducible apply awO_eqnil); (· rfl); (· rfl); (· exact sv); (· exact sv); (· exact svp); (· rfl); (· (first | decide | (simp only []; omega) | omega)); intro nb hnb; simp only [put_some])
              | ((with_reducible apply awO_neqnil); (· rfl); (· rfl); (· exact sv); (· exact sv); (· exact svp); (· rfl); (· (first | decide | (simp only []; omega) | omega)); intro nb hnb; simp only [put_some])
              | ((with_reducible apply aw_seq); intro _ _)
              | ((with_reducible apply aw_region))
              | ((with_reducible apply aw_block))
              | ((with_reducible apply awO_nil); (try simp only [CT, ↓reduceIte, Nat.reduceEqDiff]))
              | ((with_reducible apply aw_exit); (try simp only [CT, ↓reduceIte, Nat.reduceEqDiff]))
              | ((with_reducible apply aw_skip); (try simp only [CT, ↓reduceIte, Nat.reduceEqDiff]))
              | ((with_reducible apply aw_ret); (try simp only [CT, ↓reduceIte, Nat.reduceEqDiff]))
              | ((with_reducible apply awO_y); (· rfl); (· rfl); (· decide); (· exact sv); (· exact sv))
              | ((with_reducible apply awO_n); (· rfl); (· rfl); (· decide); (· exact sv); (· rfl); (· rfl); (· decide))
              | ((with_reducible apply awO_u); (· rfl); (· rfl); (· exact svr); (· rfl); (· decide))
              | ((with_reducible apply aw_cond_true); (· exact sv))
              | ((with_reducible apply aw_cond_false); (· exact sv))
              | (refine Kont.go ‹Kont _ _ _ _› _ ?_)
              | ((with_reducible apply awO_un); (· rfl); (· decide); (· exact sv))
              | ((with_reducible apply awO_c); (· rfl); (· rfl); (· exact sv); (· (first | with_reducible exact c1 | with_reducible exact c2 | with_reducible exact c3 | with_reducible exact awake_ab)); (· rfl); (· rfl); (· rfl); (· decide))
              | ((with_reducible apply awO_f); (· rfl); (· rfl); (· exact sv); (· exact sv); (· (first | with_reducible exact c1 | with_reducible exact c2 | with_reducible exact c3 | with_reducible exact awake_ab)); (· rfl); (· rfl); (· decide))
              | ((with_reducible apply awO_m); (· rfl); (· rfl); (· exact sv); (· (first | with_reducible exact c1 | with_reducible exact c2 | with_reducible exact c3 | with_reducible exact awake_ab)); (· exact svq); (· exact svq); (· exact svq); (· exact svq); (· rfl); (· (first | decide | (simp only []; omega) | omega)); (with_reducible apply awO_st); (· exact svs))
              | ((with_reducible apply aw_draw); (· decide +kernel); (simp only [List.size_toArray, List.length_cons, List.length_nil, Nat.reduceAdd]))
              | ((with_reducible apply awY_done); (· decide +kernel); (try simp only [CT, ↓reduceIte, Nat.reduceEqDiff]))
              | ((with_reducible apply awY_q); (· exact sQ); (· repeat (first | (with_reducible exact NP_ret) | (with_reducible apply NP_then) | (with_reducible apply NP_blk) | (with_reducible apply NP_wk) | (with_reducible apply NP_end))); (· exact svg); (· rfl); (· exact sv))
              | ((with_reducible apply awY_qy); (· exact sQ); (· repeat (first | (with_reducible exact NP_ret) | (with_reducible apply NP_then) | (with_reducible apply NP_blk) | (with_reducible apply NP_wk) | (with_reducible apply NP_end))); (· exact svg); (· rfl); (· rfl); (· (first | decide | (simp only []; omega) | omega)); (· exact sv); (· exact sv))
              | ((with_reducible apply awY_qn); (· exact sQ); (· repeat (first | (with_reducible exact NP_ret) | (with_reducible apply NP_then) | (with_reducible apply NP_blk) | (with_reducible apply NP_wk) | (with_reducible apply NP_end))); (· exact svg); (· rfl); (· rfl); (· (first | decide | (simp only []; omega) | omega)); (· exact sv); (· rfl); (· rfl); (· (first | decide | (simp only []; omega) | omega)); simp only [put_some])
              | ((with_reducible apply awY_qu); (· exact sQ); (· repeat (first | (with_reducible exact NP_ret) | (with_reducible apply NP_then) | (with_reducible apply NP_blk) | (with_reducible apply NP_wk) | (with_reducible apply NP_end))); (· exact svg); (· rfl); (· rfl); (· exact svr); (· rfl); (· (first | decide | (simp only []; omega) | omega)); simp only [put_some])
              | ((with_reducible apply awY_tn); (· exact sT); (· repeat (first | (with_reducible exact NP_ret) | (with_reducible apply NP_then) | (with_reducible apply NP_blk) | (with_reducible apply NP_wk) | (with_reducible apply NP_end))); (· exact svg); (· rfl); (· rfl); (· (first | decide | (simp only []; omega) | omega)); (· exact sv); (· rfl); (· rfl); (· (first | decide | (simp only []; omega) | omega)); simp only [put_some])
              | ((with_reducible apply awY_tu); (· exact sT); (· repeat (first | (with_reducible exact NP_ret) | (with_reducible apply NP_then) | (with_reducible apply NP_blk) | (with_reducible apply NP_wk) | (with_reducible apply NP_end))); (· exact svg); (· rfl); (· rfl); (· exact svr); (· rfl); (· (first | decide | (simp only []; omega) | omega)); simp only [put_some])
              | ((with_reducible apply endQ_rfl))
              | ((with_reducible apply endQ_sub); (· exact sE); (· exact sN))
              | ((with_reducible apply awI_ev); (· exact svg); (· rfl); (· exact sv))
              | ((with_reducible apply awI_c); (· exact svg); (· rfl); (· rfl); (· exact sv); (· (first | with_reducible exact c1 | with_reducible exact c2 | with_reducible exact c3 | with_reducible exact awake_ab)); (· rfl); (· rfl); (· rfl); (· (first | decide | (simp only []; omega) | omega)); simp only [put_some])
              | ((with_reducible apply awI_f); (· exact svg); (· rfl); (· rfl); (· exact sv); (· exact sv); (· (first | with_reducible exact c1 | with_reducible exact c2 | with_reducible exact c3 | with_reducible exact awake_ab)); (· rfl); (· rfl); (· (first | decide | (simp only []; omega) | omega)); simp only [put_some])
              | ((with_reducible apply awI_cy); (· exact svg); (· rfl); (· rfl); (· (first | decide | (simp only []; omega) | omega)); (· exact sv); (· rfl); (· exact sv); (· (first | with_reducible exact c1 | with_reducible exact c2 | with_reducible exact c3 | with_reducible exact awake_ab)); (· rfl); (· rfl); (· rfl); (· (first | decide | (simp only []; omega) | omega)); simp only [put_some])
              | ((with_reducible apply awI_fy); (· exact svg); (· rfl); (· rfl); (· (first | decide | (simp only []; omega) | omega)); (· exact sv); (· rfl); (· exact sv); (· exact sv); (· (first | with_reducible exact c1 | with_reducible exact c2 | with_reducible exact c3 | with_reducible exact awake_ab)); (· rfl); (· rfl); (· (first | decide | (simp only []; omega) | omega)); simp only [put_some])
              | ((with_reducible apply awO_guard); (· rfl); (· rfl); (· exact sv); all_goals (intro hg; (try simp only [Bool.not_true, Bool.not_false]); (try simp only [decide_eq_true_eq, decide_eq_false_iff_not, Bool.not_true, Bool.not_false, Bool.not_eq_true', Bool.not_eq_false', Bool.not_not] at hg); try (exfalso; omega)))
              | ((with_reducible apply aw_cond); (· exact sv); all_goals (intro hg; (try simp only [decide_eq_true_eq, decide_eq_false_iff_not, Bool.not_true, Bool.not_false, Bool.not_eq_true', Bool.not_eq_false', Bool.not_not] at hg); try (exfalso; omega)))
              | ((with_reducible apply awY_guard); (· exact sR); (· exact svg); (· rfl); (· rfl); (· exact svl); all_goals (intro hg; (try simp only [Bool.not_true, Bool.not_false]); (try simp only [decide_eq_true_eq, decide_eq_false_iff_not, Bool.not_true, Bool.not_false, Bool.not_eq_true', Bool.not_eq_false', Bool.not_not] at hg); try (exfalso; omega)))
              | ((with_reducible apply retQ_mk); (· (first | exact .inr rfl | exact .inl rfl)); (· exact sv); (· exact sv); rotate_left; (· rfl))
              | ((with_reducible apply wk_id); (with_reducible apply retQ_mk); (· (first | exact .inr rfl | exact .inl rfl)); (· exact sv); (· exact sv); rotate_left; (· rfl))
              | ((try with_reducible apply wk_id); (with_reducible apply retQ_mk1); (· (first | exact .inr rfl | exact .inl rfl)); (· exact sv); (· exact sv); (· exact sv); (· exact sv); rotate_left; rotate_left; (· simp); (· rfl))
              | ((try with_reducible apply wk_id); (with_reducible apply retQ_mk2); (· (first | exact .inr rfl | exact .inl rfl)); (· exact sv); (· exact sv); (· exact sv); (· exact sv); (· exact sv); (· exact sv); rotate_left; rotate_left; rotate_left; (· simp); (· simp); (· rfl))
              | ((with_reducible apply awY_p); (· exact sH); (first | ((with_reducible apply awP_1); (· decide +kernel)) | ((with_reducible apply awP_2); (· exact sP)))))
          all_goals rfl
  · skip
    refine Fn_of_aw (keep := []) Try.func8 rfl rfl (by simp [Try.ntmps8]) ?_
    simp only [num_cons, num_nil, Try.ntmps8, Try.results8]
    repeat' (first
        | ((with_reducible apply awO_ev); (· rfl); (· exact sv))
        | ((with_reducible apply awO_eqnil); (· rfl); (· rfl); (· exact sv); (· exact sv); (· exact svp); (· rfl); (· (first | decide | (simp only []; omega) | omega)); intro nb hnb; simp only [put_some])
        | ((with_reducible apply awO_neqnil); (· rfl); (· rfl); (· exact sv); (· exact sv); (· exact svp); (· rfl); (· (first | decide | (simp only []; omega) | omega)); intro nb hnb; simp only [put_some])
        | ((with_reducible apply aw_seq); intro _ _)
        | ((with_reducible apply aw_region))
        | ((with_reducible apply aw_block))
        | ((with_reducible apply awO_nil); (try simp only [CT, ↓reduceIte, Nat.reduceEqDiff]))
        | ((with_reducible apply aw_exit); (try simp only [CT, ↓reduceIte, Nat.reduceEqDiff]))
        | ((with_reducible apply aw_skip); (try simp only [CT, ↓reduceIte, Nat.reduceEqDiff]))
        | ((with_reducible apply aw_ret); (try simp only [CT, ↓reduceIte, Nat.reduceEqDiff]))
        | ((with_reducible apply awO_y); (· rfl); (· rfl); (· decide); (· exact sv); (· exact sv))
        | ((with_reducible apply awO_n); (· rfl); (· rfl); (· decide); (· exact sv); (· rfl); (· rfl); (· decide))
        | ((with_reducible apply awO_u); (· rfl); (· rfl); (· exact svr); (· rfl); (· decide))
        | ((with_reducible apply aw_cond_true); (· exact sv))
        | ((with_reducible apply aw_cond_false); (· exact sv))
        | (refine Kont.go ‹Kont _ _ _ _› _ ?_)
        | ((with_reducible apply awO_un); (· rfl); (· decide); (· exact sv))
        | ((with_reducible apply awO_c); (· rfl); (· rfl); (· exact sv); (· (first | with_reducible exact awake_ab)); (· rfl); (· rfl); (· rfl); (· decide))
        | ((with_reducible apply awO_f); (· rfl); (· rfl); (· exact sv); (· exact sv); (· (first | with_reducible exact awake_ab)); (· rfl); (· rfl); (· decide))
        | ((with_reducible apply awO_m); (· rfl); (· rfl); (· exact sv); (· (first | with_reducible exact awake_ab)); (· exact svq); (· exact svq); (· exact svq); (· exact svq); (· rfl); (· (first | decide | (simp only []; omega) | omega)); (with_reducible apply awO_st); (· exact svs))
        | ((with_reducible apply awO_guard); (· rfl); (· rfl); (· exact sv); all_goals (intro hg; (try simp only [Bool.not_true, Bool.not_false]); (try simp only [decide_eq_true_eq, decide_eq_false_iff_not, Bool.not_true, Bool.not_false, Bool.not_eq_true', Bool.not_eq_false', Bool.not_not] at hg); try (exfalso; omega)))
        | ((with_reducible apply aw_cond); (· exact sv); all_goals (intro hg; (try simp only [decide_eq_true_eq, decide_eq_false_iff_not, Bool.not_true, Bool.not_false, Bool.not_eq_true', Bool.not_eq_false', Bool.not_not] at hg); try (exfalso; omega)))
        | ((with_reducible apply retQ_mk); (· (first | exact .inr rfl | exact .inl rfl)); (· exact sv); (· exact sv); rotate_left; (· rfl))
        | ((with_reducible apply wk_id); (with_reducible apply retQ_mk); (· (first | exact .inr rfl | exact .inl rfl)); (· exact sv); (· exact sv); rotate_left; (· rfl))
        | ((try with_reducible apply wk_id); (with_reducible apply retQ_mk1); (· (first | exact .inr rfl | exact .inl rfl)); (· exact sv); (· exact sv); (· exact sv); (· exact sv); rotate_left; rotate_left; (· simp); (· rfl))
        | ((try with_reducible apply wk_id); (with_reducible apply retQ_mk2); (· (first | exact .inr rfl | exact .inl rfl)); (· exact sv); (· exact sv); (· exact sv); (· exact sv); (· exact sv); (· exact sv); rotate_left; rotate_left; rotate_left; (· simp); (· simp); (· rfl)))
    all_goals rfl
end Go.Proofs.Ytikolicdgkckeaa
