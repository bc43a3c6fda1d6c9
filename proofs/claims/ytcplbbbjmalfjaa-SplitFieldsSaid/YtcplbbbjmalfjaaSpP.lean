/- The document's runs and Fields for split, and the law SplitFields, on the abstract machine. -/
import Derived.Test.YtcplbbbjmalfjaaSpN
import Derived.Test.YtcplbbbjmalfjaaSpO
namespace Go.Proofs.Ytcplbbbjmalfjaa
open Go.RowKit
set_option linter.unusedVariables false
set_option linter.unusedSimpArgs false
set_option maxRecDepth 100000
set_option maxHeartbeats 8000000
/-- One element more. -/
def addR (R : List El) (x : El) : List El := match R.getLast? with
  | some y => if y.k = x.k then R.dropLast ++ [⟨y.t ++ x.t, y.k⟩] else R ++ [x]
  | none => [x]
theorem addR_snoc (Q : List El) (y x : El) : addR (Q ++ [y]) x = if y.k = x.k then Q ++ [⟨y.t ++ x.t, y.k⟩] else Q ++ [y] ++ [x] := by
  simp [addR]
theorem fold_runs : ∀ (X Q : List El) (y : El), X.foldl addR (Q ++ [y]) = Q ++ runsOf (y :: X)
  | [], Q, y => by simp [runsOf, cat]
  | x :: r, Q, y => by
    rw [List.foldl_cons, addR_snoc]
    by_cases h : y.k = x.k
    · rw [if_pos h, fold_runs r Q, runsOf, runsOf]
      have hx : decide (x.k = y.k) = true := by simp [h]
      simp only [List.takeWhile_cons, List.dropWhile_cons, hx, if_true, cat, List.append_assoc]
    · rw [if_neg h, fold_runs r (Q ++ [y]) x]
      have hx : decide (x.k = y.k) = false := by simpa using fun e => h e.symm
      rw [runsOf.eq_def (y :: x :: r)]
      simp only [List.takeWhile_cons, List.dropWhile_cons, hx, Bool.false_eq_true, if_false, cat, List.append_nil, List.append_assoc, List.cons_append, List.nil_append]
theorem runs_fold (X : List El) : X.foldl addR [] = runsOf X := by
  cases X with
  | nil => simp [runsOf]
  | cons x r =>
    have := fold_runs r [] x
    rw [List.foldl_cons]
    exact this
theorem foldl_take_succ {X : List El} {i : Nat} (h : i < X.length) : (X.take (i + 1)).foldl addR [] = addR ((X.take i).foldl addR []) X[i] := by
  rw [List.take_succ_eq_append_getElem h, List.foldl_append]; rfl
theorem fold_len (X : List El) : (X.foldl addR []).length ≤ X.length := by rw [runs_fold]; exact runsOf_len _ X (Nat.le_refl _)
theorem cat_runs : ∀ (n : Nat) (X : List El), X.length ≤ n → cat (runsOf X) = cat X := by
  intro n
  induction n with
  | zero =>
    intro X hX
    obtain rfl : X = [] := List.eq_nil_of_length_eq_zero (by omega)
    simp [runsOf]
  | succ n ih =>
    intro X hX
    cases X with
    | nil => simp [runsOf]
    | cons x r =>
      have h1 := dropWhile_le (p := fun y => decide (y.k = x.k)) r
      simp only [List.length_cons] at hX
      rw [runsOf, cat, ih _ (by omega), cat, List.append_assoc, ← cat_append, List.takeWhile_append_dropWhile]
theorem cat_fold (X : List El) : cat (X.foldl addR []) = cat X := by rw [runs_fold]; exact cat_runs _ X (Nat.le_refl _)
theorem elC_set (R : List El) (s : List UInt8) : ∀ k (h : k < R.length), (elC R).set (k * 2) (az s) = elC (R.set k ⟨s, R[k].k⟩) := by
  induction R with
  | nil => intro k h; simp at h
  | cons x r ih =>
    intro k h
    cases k with
    | zero => rfl
    | succ k =>
      have hk : k < r.length := by simpa using h
      have := ih k hk
      show (az x.t :: ai x.k :: elC r).set (Nat.succ k * 2) (az s) = az x.t :: ai x.k :: elC (r.set k ⟨s, r[k].k⟩)
      rw [show Nat.succ k * 2 = k * 2 + 1 + 1 by omega, List.set_cons_succ, List.set_cons_succ, this]
theorem el_at1 {R : List El} {k : Nat} (h : k < R.length) : (List.drop (k * 2 + 1) (elC R))[0]? = some (ai R[k].k) := by
  rw [← List.drop_drop, elC_drop, List.drop_eq_getElem_cons h]; rfl
attribute [go_sem] el_at1
theorem addR_last {R : List El} {x : El} (h : R.length - 1 < R.length) : addR R x = if R[R.length - 1].k = x.k then R.set (R.length - 1) ⟨R[R.length - 1].t ++ x.t, R[R.length - 1].k⟩ else R ++ [x] := by
  rcases List.eq_nil_or_concat R with rfl | ⟨Q, y, rfl⟩
  · simp at h
  · simp only [List.concat_eq_append, addR_snoc]
    have hl : (Q ++ [y]).length - 1 = Q.length := by simp
    simp only [hl]
    have : (Q ++ [y])[Q.length]'(by simp) = y := by simp
    rw [this, List.set_append_right _ _ (Nat.le_refl _), Nat.sub_self]
    rfl
theorem cat_last {R : List El} (h : R.length - 1 < R.length) : R[R.length - 1].t.length ≤ (cat R).length := cat_get_len h
theorem rruns_ab (ifs : List UInt8) (X : List El) (hX : X.length ≤ 100000) (hc : (cat X).length ≤ 100000) : Ab Try.prog 31 [reA ifs X] (elsA (runsOf X)) := by
  rw [← runs_fold]
  refine Fn_of_aw (keep := []) Try.func31 rfl rfl (by simp [Try.ntmps31]) ?_
  simp only [num_cons, num_nil, Try.ntmps31, Try.results31]
  repeat' (first
      | ((with_reducible apply awO_ev); (· rfl); (· exact sv))
      | ((with_reducible apply awO_eqnil); (· rfl); (· rfl); (· exact sv); (· exact sv); (· exact svp); (· rfl); (· (first | decide | (simp only []; omega) | omega)); intro nb hnb; simp only [put_some])
      | ((with_reducible apply awO_neqnil); (· rfl); (· rfl); (· exact sv); (· exact sv); (· exact svp); (· rfl); (· (first | decide | (simp only []; omega) | omega)); intro nb hnb; simp only [put_some])
      | ((with_reducible apply aw_seq); intro _ _)
      | ((with_reducible apply aw_region))
      | ((with_reducible apply aw_block))
      | ((with_reducible apply awO_nil); (try simp only [CT, ↓reduceIte, Nat.reduceEqDiff]))
      | ((with_reducible apply aw_exit); (try simp only [CT, ↓reduceIte, Nat.reduceEqDiff]))
      | ((with_reducible apply aw_skip); (try simp only [CT, ↓reduceIte, Nat.reduceEqDiff]))
      | ((with_reducible apply aw_ret); (try simp only [CT, ↓reduceIte, Nat.reduceEqDiff]))
      | ((with_reducible apply awO_y); (· rfl); (· rfl); (· decide); (· exact sv); (· exact sv))
      | ((with_reducible apply awO_n); (· rfl); (· rfl); (· decide); (· exact sv); (· rfl); (· rfl); (· decide))
      | ((with_reducible apply awO_u); (· rfl); (· rfl); (· exact svr); (· rfl); (· decide))
      | ((with_reducible apply aw_cond_true); (· exact sv))
      | ((with_reducible apply aw_cond_false); (· exact sv))
      | (refine Kont.go ‹Kont _ _ _ _› _ ?_)
      | ((with_reducible apply awO_guard); (· rfl); (· rfl); (· exact sv); all_goals (intro hg; (try simp only [Bool.not_true, Bool.not_false]); (try simp only [decide_eq_true_eq, decide_eq_false_iff_not, Bool.not_true, Bool.not_false, Bool.not_eq_true', Bool.not_eq_false', Bool.not_not, beq_eq_false_iff_ne, ne_eq, beq_iff_eq, decide_eq_decide] at hg); try (exfalso; omega)))
      | ((with_reducible apply aw_cond); (· exact sv); all_goals (intro hg; (try simp only [decide_eq_true_eq, decide_eq_false_iff_not, Bool.not_true, Bool.not_false, Bool.not_eq_true', Bool.not_eq_false', Bool.not_not, beq_eq_false_iff_ne, ne_eq, beq_iff_eq, decide_eq_decide] at hg); try (exfalso; omega)))
      | ((with_reducible apply retQ_mk); (· (first | exact .inr rfl | exact .inl rfl)); (· exact sv); (· exact sv); rotate_left; (· rfl))
      | ((with_reducible apply wk_id); (with_reducible apply retQ_mk); (· (first | exact .inr rfl | exact .inl rfl)); (· exact sv); (· exact sv); rotate_left; (· rfl))
      | ((try with_reducible apply wk_id); (with_reducible apply retQ_mk1); (· (first | exact .inr rfl | exact .inl rfl)); (· exact sv); (· exact sv); (· exact sv); (· exact sv); rotate_left; rotate_left; (· simp); (· rfl))
      | ((try with_reducible apply wk_id); (with_reducible apply retQ_mk2); (· (first | exact .inr rfl | exact .inl rfl)); (· exact sv); (· exact sv); (· exact sv); (· exact sv); (· exact sv); (· exact sv); rotate_left; rotate_left; rotate_left; (· simp); (· simp); (· rfl)))
  refine aw_virt 3 100 2 rfl (by omega) (by simp) ?_
  refine aw_st svs ?_
  refine aw_loopF (fun i : Nat => [(4, ai i), (3, .os 100 0 2 ((X.take i).foldl addR []).length)]) (fun i => [(100, elC ((X.take i).foldl addR []))]) (fun i => i ≤ X.length) (fun i => X.length - i) 0 (by omega) ?_ ?_ ?_
  · exact ⟨rfl, rfl, trivial⟩
  · exact ⟨rfl, trivial⟩
  intro i hi
  (simp only [LP, List.append_assoc, List.nil_append, List.cons_append, List.append_nil, List.contains_cons, List.contains_nil, Nat.reduceBEq, Bool.or_false, Bool.or_true, Bool.true_or, Bool.false_or, ↓reduceIte, Bool.false_eq_true])
  have hrl := fold_len (X.take i)
  rw [List.length_take] at hrl
  by_cases hil : i < X.length
  · have e1 := foldl_take_succ hil
    have hcl := cat_get_len hil
    have hcr : (cat ((X.take i).foldl addR [])).length = (cat (X.take i)).length := by rw [cat_fold]
    have hct := cat_take_len X i
    generalize (X.take i).foldl addR [] = R at *
    by_cases hR : R.length = 0
    · obtain rfl := List.eq_nil_of_length_eq_zero hR
      have e2 : addR [] X[i] = [X[i]] := rfl
      rw [e2] at e1
      repeat' (first
          | ((with_reducible apply awO_ev); (· rfl); (· exact sv))
          | ((with_reducible apply awO_eqnil); (· rfl); (· rfl); (· exact sv); (· exact sv); (· exact svp); (· rfl); (· (first | decide | (simp only []; omega) | omega)); intro nb hnb; simp only [put_some])
          | ((with_reducible apply awO_neqnil); (· rfl); (· rfl); (· exact sv); (· exact sv); (· exact svp); (· rfl); (· (first | decide | (simp only []; omega) | omega)); intro nb hnb; simp only [put_some])
          | ((with_reducible apply aw_seq); intro _ _)
          | ((with_reducible apply aw_region))
          | ((with_reducible apply aw_block))
          | ((with_reducible apply awO_nil); (try simp only [CT, ↓reduceIte, Nat.reduceEqDiff]))
          | ((with_reducible apply aw_exit); (try simp only [CT, ↓reduceIte, Nat.reduceEqDiff]))
          | ((with_reducible apply aw_skip); (try simp only [CT, ↓reduceIte, Nat.reduceEqDiff]))
          | ((with_reducible apply aw_ret); (try simp only [CT, ↓reduceIte, Nat.reduceEqDiff]))
          | ((with_reducible apply awO_y); (· rfl); (· rfl); (· decide); (· exact sv); (· exact sv))
          | ((with_reducible apply awO_n); (· rfl); (· rfl); (· decide); (· exact sv); (· rfl); (· rfl); (· decide))
          | ((with_reducible apply awO_u); (· rfl); (· rfl); (· exact svr); (· rfl); (· decide))
          | ((with_reducible apply aw_cond_true); (· exact sv))
          | ((with_reducible apply aw_cond_false); (· exact sv))
          | (refine Kont.go ‹Kont _ _ _ _› _ ?_)
          | ((with_reducible apply awO_un); (· rfl); (· decide); (· exact sv))
          | ((with_reducible apply awO_c); (· rfl); (· rfl); (· exact sv); (· (first | fail)); (· rfl); (· rfl); (· rfl); (· decide))
          | ((with_reducible apply awO_f); (· rfl); (· rfl); (· exact sv); (· exact sv); (· (first | fail)); (· rfl); (· rfl); (· decide))
          | ((with_reducible apply awO_m); (· rfl); (· rfl); (· exact sv); (· (first | fail)); (· exact svq); (· exact svq); (· exact svq); (· exact svq); (· rfl); (· (first | decide | (simp only []; omega) | omega)); (with_reducible apply awO_st); (· exact svs))
          | ((with_reducible apply aw_draw); (· decide +kernel); (simp only [List.size_toArray, List.length_cons, List.length_nil, Nat.reduceAdd]))
          | ((with_reducible apply awY_done); (· decide +kernel); (try simp only [CT, ↓reduceIte, Nat.reduceEqDiff]))
          | ((with_reducible apply awY_q); (· exact sQ); (· repeat (first | (with_reducible exact NP_ret) | (with_reducible apply NP_then) | (with_reducible apply NP_blk) | (with_reducible apply NP_wk) | (with_reducible apply NP_end))); (· exact svg); (· rfl); (· exact sv))
          | ((with_reducible apply awY_qy); (· exact sQ); (· repeat (first | (with_reducible exact NP_ret) | (with_reducible apply NP_then) | (with_reducible apply NP_blk) | (with_reducible apply NP_wk) | (with_reducible apply NP_end))); (· exact svg); (· rfl); (· rfl); (· (first | decide | (simp only []; omega) | omega)); (· exact sv); (· exact sv))
          | ((with_reducible apply awY_qn); (· exact sQ); (· repeat (first | (with_reducible exact NP_ret) | (with_reducible apply NP_then) | (with_reducible apply NP_blk) | (with_reducible apply NP_wk) | (with_reducible apply NP_end))); (· exact svg); (· rfl); (· rfl); (· (first | decide | (simp only []; omega) | omega)); (· exact sv); (· rfl); (· rfl); (· (first | decide | (simp only []; omega) | omega)); simp only [put_some])
          | ((with_reducible apply awY_qu); (· exact sQ); (· repeat (first | (with_reducible exact NP_ret) | (with_reducible apply NP_then) | (with_reducible apply NP_blk) | (with_reducible apply NP_wk) | (with_reducible apply NP_end))); (· exact svg); (· rfl); (· rfl); (· exact svr); (· rfl); (· (first | decide | (simp only []; omega) | omega)); simp only [put_some])
          | ((with_reducible apply awY_tn); (· exact sT); (· repeat (first | (with_reducible exact NP_ret) | (with_reducible apply NP_then) | (with_reducible apply NP_blk) | (with_reducible apply NP_wk) | (with_reducible apply NP_end))); (· exact svg); (· rfl); (· rfl); (· (first | decide | (simp only []; omega) | omega)); (· exact sv); (· rfl); (· rfl); (· (first | decide | (simp only []; omega) | omega)); simp only [put_some])
          | ((with_reducible apply awY_tu); (· exact sT); (· repeat (first | (with_reducible exact NP_ret) | (with_reducible apply NP_then) | (with_reducible apply NP_blk) | (with_reducible apply NP_wk) | (with_reducible apply NP_end))); (· exact svg); (· rfl); (· rfl); (· exact svr); (· rfl); (· (first | decide | (simp only []; omega) | omega)); simp only [put_some])
          | ((with_reducible apply endQ_rfl))
          | ((with_reducible apply endQ_sub); (· exact sE); (· exact sN))
          | ((with_reducible apply awI_ev); (· exact svg); (· rfl); (· exact sv))
          | ((with_reducible apply awI_c); (· exact svg); (· rfl); (· rfl); (· exact sv); (· (first | fail)); (· rfl); (· rfl); (· rfl); (· (first | decide | (simp only []; omega) | omega)); simp only [put_some])
          | ((with_reducible apply awI_f); (· exact svg); (· rfl); (· rfl); (· exact sv); (· exact sv); (· (first | fail)); (· rfl); (· rfl); (· (first | decide | (simp only []; omega) | omega)); simp only [put_some])
          | ((with_reducible apply awI_cy); (· exact svg); (· rfl); (· rfl); (· (first | decide | (simp only []; omega) | omega)); (· exact sv); (· rfl); (· exact sv); (· (first | fail)); (· rfl); (· rfl); (· rfl); (· (first | decide | (simp only []; omega) | omega)); simp only [put_some])
          | ((with_reducible apply awI_fy); (· exact svg); (· rfl); (· rfl); (· (first | decide | (simp only []; omega) | omega)); (· exact sv); (· rfl); (· exact sv); (· exact sv); (· (first | fail)); (· rfl); (· rfl); (· (first | decide | (simp only []; omega) | omega)); simp only [put_some])
          | ((with_reducible apply awO_guard); (· rfl); (· rfl); (· exact sv); all_goals (intro hg; (try simp only [Bool.not_true, Bool.not_false]); (try simp only [decide_eq_true_eq, decide_eq_false_iff_not, Bool.not_true, Bool.not_false, Bool.not_eq_true', Bool.not_eq_false', Bool.not_not, beq_eq_false_iff_ne, ne_eq, beq_iff_eq, decide_eq_decide] at hg); try (exfalso; omega)))
          | ((with_reducible apply aw_cond); (· exact sv); all_goals (intro hg; (try simp only [decide_eq_true_eq, decide_eq_false_iff_not, Bool.not_true, Bool.not_false, Bool.not_eq_true', Bool.not_eq_false', Bool.not_not, beq_eq_false_iff_ne, ne_eq, beq_iff_eq, decide_eq_decide] at hg); try (exfalso; omega)))
          | ((with_reducible apply awY_guard); (· exact sR); (· exact svg); (· rfl); (· rfl); (· exact svl); all_goals (intro hg; (try simp only [Bool.not_true, Bool.not_false]); (try simp only [decide_eq_true_eq, decide_eq_false_iff_not, Bool.not_true, Bool.not_false, Bool.not_eq_true', Bool.not_eq_false', Bool.not_not, beq_eq_false_iff_ne, ne_eq, beq_iff_eq, decide_eq_decide] at hg); try (exfalso; omega)))
          | ((with_reducible apply retQ_mk); (· (first | exact .inr rfl | exact .inl rfl)); (· exact sv); (· exact sv); rotate_left; (· rfl))
          | ((with_reducible apply wk_id); (with_reducible apply retQ_mk); (· (first | exact .inr rfl | exact .inl rfl)); (· exact sv); (· exact sv); rotate_left; (· rfl))
          | ((try with_reducible apply wk_id); (with_reducible apply retQ_mk1); (· (first | exact .inr rfl | exact .inl rfl)); (· exact sv); (· exact sv); (· exact sv); (· exact sv); rotate_left; rotate_left; (· simp); (· rfl))
          | ((try with_reducible apply wk_id); (with_reducible apply retQ_mk2); (· (first | exact .inr rfl | exact .inl rfl)); (· exact sv); (· exact sv); (· exact sv); (· exact sv); (· exact sv); (· exact sv); rotate_left; rotate_left; rotate_left; (· simp); (· simp); (· rfl))
          | ((with_reducible apply awY_p); (· exact sH); (first | ((with_reducible apply awP_1); (· decide +kernel)) | ((with_reducible apply awP_2); (· exact sP)))))
      refine LE_mk (i + 1) ?_ ?_ ?_ sN ?_
      · omega
      · omega
      · refine ⟨rfl, ?_, trivial⟩
        show some _ = some _
        rw [e1]; rfl
      · refine ⟨?_, trivial⟩
        show some _ = some _
        rw [e1]; rfl
    · have hl : R.length - 1 < R.length := by omega
      have hyt := cat_last hl
      rw [addR_last hl] at e1
      by_cases hk : R[R.length - 1].k = X[i].k
      · rw [if_pos hk] at e1
        have e2 := elC_set R (R[R.length - 1].t ++ X[i].t) _ hl
        repeat' (first
            | ((with_reducible apply awO_ev); (· rfl); (· exact sv))
            | ((with_reducible apply awO_eqnil); (· rfl); (· rfl); (· exact sv); (· exact sv); (· exact svp); (· rfl); (· (first | decide | (simp only []; omega) | omega)); intro nb hnb; simp only [put_some])
            | ((with_reducible apply awO_neqnil); (· rfl); (· rfl); (· exact sv); (· exact sv); (· exact svp); (· rfl); (· (first | decide | (simp only []; omega) | omega)); intro nb hnb; simp only [put_some])
            | ((with_reducible apply aw_seq); intro _ _)
            | ((with_reducible apply aw_region))
            | ((with_reducible apply aw_block))
            | ((with_reducible apply awO_nil); (try simp only [CT, ↓reduceIte, Nat.reduceEqDiff]))
            | ((with_reducible apply aw_exit); (try simp only [CT, ↓reduceIte, Nat.reduceEqDiff]))
            | ((with_reducible apply aw_skip); (try simp only [CT, ↓reduceIte, Nat.reduceEqDiff]))
            | ((with_reducible apply aw_ret); (try simp only [CT, ↓reduceIte, Nat.reduceEqDiff]))
            | ((with_reducible apply awO_y); (· rfl); (· rfl); (· decide); (· exact sv); (· exact sv))
            | ((with_reducible apply awO_n); (· rfl); (· rfl); (· decide); (· exact sv); (· rfl); (· rfl); (· decide))
            | ((with_reducible apply awO_u); (· rfl); (· rfl); (· exact svr); (· rfl); (· decide))
            | ((with_reducible apply aw_cond_true); (· exact sv))
            | ((with_reducible apply aw_cond_false); (· exact sv))
            | (refine Kont.go ‹Kont _ _ _ _› _ ?_)
            | ((with_reducible apply awO_un); (· rfl); (· decide); (· exact sv))
            | ((with_reducible apply awO_c); (· rfl); (· rfl); (· exact sv); (· (first | fail)); (· rfl); (· rfl); (· rfl); (· decide))
            | ((with_reducible apply awO_f); (· rfl); (· rfl); (· exact sv); (· exact sv); (· (first | fail)); (· rfl); (· rfl); (· decide))
            | ((with_reducible apply awO_m); (· rfl); (· rfl); (· exact sv); (· (first | fail)); (· exact svq); (· exact svq); (· exact svq); (· exact svq); (· rfl); (· (first | decide | (simp only []; omega) | omega)); (with_reducible apply awO_st); (· exact svs))
            | ((with_reducible apply aw_draw); (· decide +kernel); (simp only [List.size_toArray, List.length_cons, List.length_nil, Nat.reduceAdd]))
            | ((with_reducible apply awY_done); (· decide +kernel); (try simp only [CT, ↓reduceIte, Nat.reduceEqDiff]))
            | ((with_reducible apply awY_q); (· exact sQ); (· repeat (first | (with_reducible exact NP_ret) | (with_reducible apply NP_then) | (with_reducible apply NP_blk) | (with_reducible apply NP_wk) | (with_reducible apply NP_end))); (· exact svg); (· rfl); (· exact sv))
            | ((with_reducible apply awY_qy); (· exact sQ); (· repeat (first | (with_reducible exact NP_ret) | (with_reducible apply NP_then) | (with_reducible apply NP_blk) | (with_reducible apply NP_wk) | (with_reducible apply NP_end))); (· exact svg); (· rfl); (· rfl); (· (first | decide | (simp only []; omega) | omega)); (· exact sv); (· exact sv))
            | ((with_reducible apply awY_qn); (· exact sQ); (· repeat (first | (with_reducible exact NP_ret) | (with_reducible apply NP_then) | (with_reducible apply NP_blk) | (with_reducible apply NP_wk) | (with_reducible apply NP_end))); (· exact svg); (· rfl); (· rfl); (· (first | decide | (simp only []; omega) | omega)); (· exact sv); (· rfl); (· rfl); (· (first | decide | (simp only []; omega) | omega)); simp only [put_some])
            | ((with_reducible apply awY_qu); (· exact sQ); (· repeat (first | (with_reducible exact NP_ret) | (with_reducible apply NP_then) | (with_reducible apply NP_blk) | (with_reducible apply NP_wk) | (with_reducible apply NP_end))); (· exact svg); (· rfl); (· rfl); (· exact svr); (· rfl); (· (first | decide | (simp only []; omega) | omega)); simp only [put_some])
            | ((with_reducible apply awY_tn); (· exact sT); (· repeat (first | (with_reducible exact NP_ret) | (with_reducible apply NP_then) | (with_reducible apply NP_blk) | (with_reducible apply NP_wk) | (with_reducible apply NP_end))); (· exact svg); (· rfl); (· rfl); (· (first | decide | (simp only []; omega) | omega)); (· exact sv); (· rfl); (· rfl); (· (first | decide | (simp only []; omega) | omega)); simp only [put_some])
            | ((with_reducible apply awY_tu); (· exact sT); (· repeat (first | (with_reducible exact NP_ret) | (with_reducible apply NP_then) | (with_reducible apply NP_blk) | (with_reducible apply NP_wk) | (with_reducible apply NP_end))); (· exact svg); (· rfl); (· rfl); (· exact svr); (· rfl); (· (first | decide | (simp only []; omega) | omega)); simp only [put_some])
            | ((with_reducible apply endQ_rfl))
            | ((with_reducible apply endQ_sub); (· exact sE); (· exact sN))
            | ((with_reducible apply awI_ev); (· exact svg); (· rfl); (· exact sv))
            | ((with_reducible apply awI_c); (· exact svg); (· rfl); (· rfl); (· exact sv); (· (first | fail)); (· rfl); (· rfl); (· rfl); (· (first | decide | (simp only []; omega) | omega)); simp only [put_some])
            | ((with_reducible apply awI_f); (· exact svg); (· rfl); (· rfl); (· exact sv); (· exact sv); (· (first | fail)); (· rfl); (· rfl); (· (first | decide | (simp only []; omega) | omega)); simp only [put_some])
            | ((with_reducible apply awI_cy); (· exact svg); (· rfl); (· rfl); (· (first | decide | (simp only []; omega) | omega)); (· exact sv); (· rfl); (· exact sv); (· (first | fail)); (· rfl); (· rfl); (· rfl); (· (first | decide | (simp only []; omega) | omega)); simp only [put_some])
            | ((with_reducible apply awI_fy); (· exact svg); (· rfl); (· rfl); (· (first | decide | (simp only []; omega) | omega)); (· exact sv); (· rfl); (· exact sv); (· exact sv); (· (first | fail)); (· rfl); (· rfl); (· (first | decide | (simp only []; omega) | omega)); simp only [put_some])
            | ((with_reducible apply awO_guard); (· rfl); (· rfl); (· exact sv); all_goals (intro hg; (try simp only [Bool.not_true, Bool.not_false]); (try simp only [decide_eq_true_eq, decide_eq_false_iff_not, Bool.not_true, Bool.not_false, Bool.not_eq_true', Bool.not_eq_false', Bool.not_not, beq_eq_false_iff_ne, ne_eq, beq_iff_eq, decide_eq_decide] at hg); try (exfalso; omega)))
            | ((with_reducible apply aw_cond); (· exact sv); all_goals (intro hg; (try simp only [decide_eq_true_eq, decide_eq_false_iff_not, Bool.not_true, Bool.not_false, Bool.not_eq_true', Bool.not_eq_false', Bool.not_not, beq_eq_false_iff_ne, ne_eq, beq_iff_eq, decide_eq_decide] at hg); try (exfalso; omega)))
            | ((with_reducible apply awY_guard); (· exact sR); (· exact svg); (· rfl); (· rfl); (· exact svl); all_goals (intro hg; (try simp only [Bool.not_true, Bool.not_false]); (try simp only [decide_eq_true_eq, decide_eq_false_iff_not, Bool.not_true, Bool.not_false, Bool.not_eq_true', Bool.not_eq_false', Bool.not_not, beq_eq_false_iff_ne, ne_eq, beq_iff_eq, decide_eq_decide] at hg); try (exfalso; omega)))
            | ((with_reducible apply retQ_mk); (· (first | exact .inr rfl | exact .inl rfl)); (· exact sv); (· exact sv); rotate_left; (· rfl))
            | ((with_reducible apply wk_id); (with_reducible apply retQ_mk); (· (first | exact .inr rfl | exact .inl rfl)); (· exact sv); (· exact sv); rotate_left; (· rfl))
            | ((try with_reducible apply wk_id); (with_reducible apply retQ_mk1); (· (first | exact .inr rfl | exact .inl rfl)); (· exact sv); (· exact sv); (· exact sv); (· exact sv); rotate_left; rotate_left; (· simp); (· rfl))
            | ((try with_reducible apply wk_id); (with_reducible apply retQ_mk2); (· (first | exact .inr rfl | exact .inl rfl)); (· exact sv); (· exact sv); (· exact sv); (· exact sv); (· exact sv); (· exact sv); rotate_left; rotate_left; rotate_left; (· simp); (· simp); (· rfl))
            | ((with_reducible apply awY_p); (· exact sH); (first | ((with_reducible apply awP_1); (· decide +kernel)) | ((with_reducible apply awP_2); (· exact sP)))))
        refine LE_mk (i + 1) ?_ ?_ ?_ sN ?_
        · omega
        · omega
        · refine ⟨rfl, ?_, trivial⟩
          show some _ = some _
          rw [e1, List.length_set]
        · refine ⟨?_, trivial⟩
          show some _ = some _
          rw [e1, ← e2]
      · rw [if_neg hk] at e1
        repeat' (first
            | ((with_reducible apply awO_ev); (· rfl); (· exact sv))
            | ((with_reducible apply awO_eqnil); (· rfl); (· rfl); (· exact sv); (· exact sv); (· exact svp); (· rfl); (· (first | decide | (simp only []; omega) | omega)); intro nb hnb; simp only [put_some])
            | ((with_reducible apply awO_neqnil); (· rfl); (· rfl); (· exact sv); (· exact sv); (· exact svp); (· rfl); (· (first | decide | (simp only []; omega) | omega)); intro nb hnb; simp only [put_some])
            | ((with_reducible apply aw_seq); intro _ _)
            | ((with_reducible apply aw_region))
            | ((with_reducible apply aw_block))
            | ((with_reducible apply awO_nil); (try simp only [CT, ↓reduceIte, Nat.reduceEqDiff]))
            | ((with_reducible apply aw_exit); (try simp only [CT, ↓reduceIte, Nat.reduceEqDiff]))
            | ((with_reducible apply aw_skip); (try simp only [CT, ↓reduceIte, Nat.reduceEqDiff]))
            | ((with_reducible apply aw_ret); (try simp only [CT, ↓reduceIte, Nat.reduceEqDiff]))
            | ((with_reducible apply awO_y); (· rfl); (· rfl); (· decide); (· exact sv); (· exact sv))
            | ((with_reducible apply awO_n); (· rfl); (· rfl); (· decide); (· exact sv); (· rfl); (· rfl); (· decide))
            | ((with_reducible apply awO_u); (· rfl); (· rfl); (· exact svr); (· rfl); (· decide))
            | ((with_reducible apply aw_cond_true); (· exact sv))
            | ((with_reducible apply aw_cond_false); (· exact sv))
            | (refine Kont.go ‹Kont _ _ _ _› _ ?_)
            | ((with_reducible apply awO_un); (· rfl); (· decide); (· exact sv))
            | ((with_reducible apply awO_c); (· rfl); (· rfl); (· exact sv); (· (first | fail)); (· rfl); (· rfl); (· rfl); (· decide))
            | ((with_reducible apply awO_f); (· rfl); (· rfl); (· exact sv); (· exact sv); (· (first | fail)); (· rfl); (· rfl); (· decide))
            | ((with_reducible apply awO_m); (· rfl); (· rfl); (· exact sv); (· (first | fail)); (· exact svq); (· exact svq); (· exact svq); (· exact svq); (· rfl); (· (first | decide | (simp only []; omega) | omega)); (with_reducible apply awO_st); (· exact svs))
            | ((with_reducible apply aw_draw); (· decide +kernel); (simp only [List.size_toArray, List.length_cons, List.length_nil, Nat.reduceAdd]))
            | ((with_reducible apply awY_done); (· decide +kernel); (try simp only [CT, ↓reduceIte, Nat.reduceEqDiff]))
            | ((with_reducible apply awY_q); (· exact sQ); (· repeat (first | (with_reducible exact NP_ret) | (with_reducible apply NP_then) | (with_reducible apply NP_blk) | (with_reducible apply NP_wk) | (with_reducible apply NP_end))); (· exact svg); (· rfl); (· exact sv))
            | ((with_reducible apply awY_qy); (· exact sQ); (· repeat (first | (with_reducible exact NP_ret) | (with_reducible apply NP_then) | (with_reducible apply NP_blk) | (with_reducible apply NP_wk) | (with_reducible apply NP_end))); (· exact svg); (· rfl); (· rfl); (· (first | decide | (simp only []; omega) | omega)); (· exact sv); (· exact sv))
            | ((with_reducible apply awY_qn); (· exact sQ); (· repeat (first | (with_reducible exact NP_ret) | (with_reducible apply NP_then) | (with_reducible apply NP_blk) | (with_reducible apply NP_wk) | (with_reducible apply NP_end))); (· exact svg); (· rfl); (· rfl); (· (first | decide | (simp only []; omega) | omega)); (· exact sv); (· rfl); (· rfl); (· (first | decide | (simp only []; omega) | omega)); simp only [put_some])
            | ((with_reducible apply awY_qu); (· exact sQ); (· repeat (first | (with_reducible exact NP_ret) | (with_reducible apply NP_then) | (with_reducible apply NP_blk) | (with_reducible apply NP_wk) | (with_reducible apply NP_end))); (· exact svg); (· rfl); (· rfl); (· exact svr); (· rfl); (· (first | decide | (simp only []; omega) | omega)); simp only [put_some])
            | ((with_reducible apply awY_tn); (· exact sT); (· repeat (first | (with_reducible exact NP_ret) | (with_reducible apply NP_then) | (with_reducible apply NP_blk) | (with_reducible apply NP_wk) | (with_reducible apply NP_end))); (· exact svg); (· rfl); (· rfl); (· (first | decide | (simp only []; omega) | omega)); (· exact sv); (· rfl); (· rfl); (· (first | decide | (simp only []; omega) | omega)); simp only [put_some])
            | ((with_reducible apply awY_tu); (· exact sT); (· repeat (first | (with_reducible exact NP_ret) | (with_reducible apply NP_then) | (with_reducible apply NP_blk) | (with_reducible apply NP_wk) | (with_reducible apply NP_end))); (· exact svg); (· rfl); (· rfl); (· exact svr); (· rfl); (· (first | decide | (simp only []; omega) | omega)); simp only [put_some])
            | ((with_reducible apply endQ_rfl))
            | ((with_reducible apply endQ_sub); (· exact sE); (· exact sN))
            | ((with_reducible apply awI_ev); (· exact svg); (· rfl); (· exact sv))
            | ((with_reducible apply awI_c); (· exact svg); (· rfl); (· rfl); (· exact sv); (· (first | fail)); (· rfl); (· rfl); (· rfl); (· (first | decide | (simp only []; omega) | omega)); simp only [put_some])
            | ((with_reducible apply awI_f); (· exact svg); (· rfl); (· rfl); (· exact sv); (· exact sv); (· (first | fail)); (· rfl); (· rfl); (· (first | decide | (simp only []; omega) | omega)); simp only [put_some])
            | ((with_reducible apply awI_cy); (· exact svg); (· rfl); (· rfl); (· (first | decide | (simp only []; omega) | omega)); (· exact sv); (· rfl); (· exact sv); (· (first | fail)); (· rfl); (· rfl); (· rfl); (· (first | decide | (simp only []; omega) | omega)); simp only [put_some])
            | ((with_reducible apply awI_fy); (· exact svg); (· rfl); (· rfl); (· (first | decide | (simp only []; omega) | omega)); (· exact sv); (· rfl); (· exact sv); (· exact sv); (· (first | fail)); (· rfl); (· rfl); (· (first | decide | (simp only []; omega) | omega)); simp only [put_some])
            | ((with_reducible apply awO_guard); (· rfl); (· rfl); (· exact sv); all_goals (intro hg; (try simp only [Bool.not_true, Bool.not_false]); (try simp only [decide_eq_true_eq, decide_eq_false_iff_not, Bool.not_true, Bool.not_false, Bool.not_eq_true', Bool.not_eq_false', Bool.not_not, beq_eq_false_iff_ne, ne_eq, beq_iff_eq, decide_eq_decide] at hg); try (exfalso; omega)))
            | ((with_reducible apply aw_cond); (· exact sv); all_goals (intro hg; (try simp only [decide_eq_true_eq, decide_eq_false_iff_not, Bool.not_true, Bool.not_false, Bool.not_eq_true', Bool.not_eq_false', Bool.not_not, beq_eq_false_iff_ne, ne_eq, beq_iff_eq, decide_eq_decide] at hg); try (exfalso; omega)))
            | ((with_reducible apply awY_guard); (· exact sR); (· exact svg); (· rfl); (· rfl); (· exact svl); all_goals (intro hg; (try simp only [Bool.not_true, Bool.not_false]); (try simp only [decide_eq_true_eq, decide_eq_false_iff_not, Bool.not_true, Bool.not_false, Bool.not_eq_true', Bool.not_eq_false', Bool.not_not, beq_eq_false_iff_ne, ne_eq, beq_iff_eq, decide_eq_decide] at hg); try (exfalso; omega)))
            | ((with_reducible apply retQ_mk); (· (first | exact .inr rfl | exact .inl rfl)); (· exact sv); (· exact sv); rotate_left; (· rfl))
            | ((with_reducible apply wk_id); (with_reducible apply retQ_mk); (· (first | exact .inr rfl | exact .inl rfl)); (· exact sv); (· exact sv); rotate_left; (· rfl))
            | ((try with_reducible apply wk_id); (with_reducible apply retQ_mk1); (· (first | exact .inr rfl | exact .inl rfl)); (· exact sv); (· exact sv); (· exact sv); (· exact sv); rotate_left; rotate_left; (· simp); (· rfl))
            | ((try with_reducible apply wk_id); (with_reducible apply retQ_mk2); (· (first | exact .inr rfl | exact .inl rfl)); (· exact sv); (· exact sv); (· exact sv); (· exact sv); (· exact sv); (· exact sv); rotate_left; rotate_left; rotate_left; (· simp); (· simp); (· rfl))
            | ((with_reducible apply awY_p); (· exact sH); (first | ((with_reducible apply awP_1); (· decide +kernel)) | ((with_reducible apply awP_2); (· exact sP)))))
        refine LE_mk (i + 1) ?_ ?_ ?_ sN ?_
        · omega
        · omega
        · refine ⟨rfl, ?_, trivial⟩
          show some _ = some _
          rw [e1, List.length_append]; rfl
        · refine ⟨?_, trivial⟩
          show some _ = some _
          rw [e1, elC_append]; rfl
  · have e1 : X.take i = X := List.take_of_length_le (by omega)
    rw [e1]
    repeat' (first
        | ((with_reducible apply awO_ev); (· rfl); (· exact sv))
        | ((with_reducible apply awO_eqnil); (· rfl); (· rfl); (· exact sv); (· exact sv); (· exact svp); (· rfl); (· (first | decide | (simp only []; omega) | omega)); intro nb hnb; simp only [put_some])
        | ((with_reducible apply awO_neqnil); (· rfl); (· rfl); (· exact sv); (· exact sv); (· exact svp); (· rfl); (· (first | decide | (simp only []; omega) | omega)); intro nb hnb; simp only [put_some])
        | ((with_reducible apply aw_seq); intro _ _)
        | ((with_reducible apply aw_region))
        | ((with_reducible apply aw_block))
        | ((with_reducible apply awO_nil); (try simp only [CT, ↓reduceIte, Nat.reduceEqDiff]))
        | ((with_reducible apply aw_exit); (try simp only [CT, ↓reduceIte, Nat.reduceEqDiff]))
        | ((with_reducible apply aw_skip); (try simp only [CT, ↓reduceIte, Nat.reduceEqDiff]))
        | ((with_reducible apply aw_ret); (try simp only [CT, ↓reduceIte, Nat.reduceEqDiff]))
        | ((with_reducible apply awO_y); (· rfl); (· rfl); (· decide); (· exact sv); (· exact sv))
        | ((with_reducible apply awO_n); (· rfl); (· rfl); (· decide); (· exact sv); (· rfl); (· rfl); (· decide))
        | ((with_reducible apply awO_u); (· rfl); (· rfl); (· exact svr); (· rfl); (· decide))
        | ((with_reducible apply aw_cond_true); (· exact sv))
        | ((with_reducible apply aw_cond_false); (· exact sv))
        | (refine Kont.go ‹Kont _ _ _ _› _ ?_)
        | ((with_reducible apply awO_un); (· rfl); (· decide); (· exact sv))
        | ((with_reducible apply awO_c); (· rfl); (· rfl); (· exact sv); (· (first | fail)); (· rfl); (· rfl); (· rfl); (· decide))
        | ((with_reducible apply awO_f); (· rfl); (· rfl); (· exact sv); (· exact sv); (· (first | fail)); (· rfl); (· rfl); (· decide))
        | ((with_reducible apply awO_m); (· rfl); (· rfl); (· exact sv); (· (first | fail)); (· exact svq); (· exact svq); (· exact svq); (· exact svq); (· rfl); (· (first | decide | (simp only []; omega) | omega)); (with_reducible apply awO_st); (· exact svs))
        | ((with_reducible apply aw_draw); (· decide +kernel); (simp only [List.size_toArray, List.length_cons, List.length_nil, Nat.reduceAdd]))
        | ((with_reducible apply awY_done); (· decide +kernel); (try simp only [CT, ↓reduceIte, Nat.reduceEqDiff]))
        | ((with_reducible apply awY_q); (· exact sQ); (· repeat (first | (with_reducible exact NP_ret) | (with_reducible apply NP_then) | (with_reducible apply NP_blk) | (with_reducible apply NP_wk) | (with_reducible apply NP_end))); (· exact svg); (· rfl); (· exact sv))
        | ((with_reducible apply awY_qy); (· exact sQ); (· repeat (first | (with_reducible exact NP_ret) | (with_reducible apply NP_then) | (with_reducible apply NP_blk) | (with_reducible apply NP_wk) | (with_reducible apply NP_end))); (· exact svg); (· rfl); (· rfl); (· (first | decide | (simp only []; omega) | omega)); (· exact sv); (· exact sv))
        | ((with_reducible apply awY_qn); (· exact sQ); (· repeat (first | (with_reducible exact NP_ret) | (with_reducible apply NP_then) | (with_reducible apply NP_blk) | (with_reducible apply NP_wk) | (with_reducible apply NP_end))); (· exact svg); (· rfl); (· rfl); (· (first | decide | (simp only []; omega) | omega)); (· exact sv); (· rfl); (· rfl); (· (first | decide | (simp only []; omega) | omega)); simp only [put_some])
        | ((with_reducible apply awY_qu); (· exact sQ); (· repeat (first | (with_reducible exact NP_ret) | (with_reducible apply NP_then) | (with_reducible apply NP_blk) | (with_reducible apply NP_wk) | (with_reducible apply NP_end))); (· exact svg); (· rfl); (· rfl); (· exact svr); (· rfl); (· (first | decide | (simp only []; omega) | omega)); simp only [put_some])
        | ((with_reducible apply awY_tn); (· exact sT); (· repeat (first | (with_reducible exact NP_ret) | (with_reducible apply NP_then) | (with_reducible apply NP_blk) | (with_reducible apply NP_wk) | (with_reducible apply NP_end))); (· exact svg); (· rfl); (· rfl); (· (first | decide | (simp only []; omega) | omega)); (· exact sv); (· rfl); (· rfl); (· (first | decide | (simp only []; omega) | omega)); simp only [put_some])
        | ((with_reducible apply awY_tu); (· exact sT); (· repeat (first | (with_reducible exact NP_ret) | (with_reducible apply NP_then) | (with_reducible apply NP_blk) | (with_reducible apply NP_wk) | (with_reducible apply NP_end))); (· exact svg); (· rfl); (· rfl); (· exact svr); (· rfl); (· (first | decide | (simp only []; omega) | omega)); simp only [put_some])
        | ((with_reducible apply endQ_rfl))
        | ((with_reducible apply endQ_sub); (· exact sE); (· exact sN))
        | ((with_reducible apply awI_ev); (· exact svg); (· rfl); (· exact sv))
        | ((with_reducible apply awI_c); (· exact svg); (· rfl); (· rfl); (· exact sv); (· (first | fail)); (· rfl); (· rfl); (· rfl); (· (first | decide | (simp only []; omega) | omega)); simp only [put_some])
        | ((with_reducible apply awI_f); (· exact svg); (· rfl); (· rfl); (· exact sv); (· exact sv); (· (first | fail)); (· rfl); (· rfl); (· (first | decide | (simp only []; omega) | omega)); simp only [put_some])
        | ((with_reducible apply awI_cy); (· exact svg); (· rfl); (· rfl); (· (first | decide | (simp only []; omega) | omega)); (· exact sv); (· rfl); (· exact sv); (· (first | fail)); (· rfl); (· rfl); (· rfl); (· (first | decide | (simp only []; omega) | omega)); simp only [put_some])
        | ((with_reducible apply awI_fy); (· exact svg); (· rfl); (· rfl); (· (first | decide | (simp only []; omega) | omega)); (· exact sv); (· rfl); (· exact sv); (· exact sv); (· (first | fail)); (· rfl); (· rfl); (· (first | decide | (simp only []; omega) | omega)); simp only [put_some])
        | ((with_reducible apply awO_guard); (· rfl); (· rfl); (· exact sv); all_goals (intro hg; (try simp only [Bool.not_true, Bool.not_false]); (try simp only [decide_eq_true_eq, decide_eq_false_iff_not, Bool.not_true, Bool.not_false, Bool.not_eq_true', Bool.not_eq_false', Bool.not_not, beq_eq_false_iff_ne, ne_eq, beq_iff_eq, decide_eq_decide] at hg); try (exfalso; omega)))
        | ((with_reducible apply aw_cond); (· exact sv); all_goals (intro hg; (try simp only [decide_eq_true_eq, decide_eq_false_iff_not, Bool.not_true, Bool.not_false, Bool.not_eq_true', Bool.not_eq_false', Bool.not_not, beq_eq_false_iff_ne, ne_eq, beq_iff_eq, decide_eq_decide] at hg); try (exfalso; omega)))
        | ((with_reducible apply awY_guard); (· exact sR); (· exact svg); (· rfl); (· rfl); (· exact svl); all_goals (intro hg; (try simp only [Bool.not_true, Bool.not_false]); (try simp only [decide_eq_true_eq, decide_eq_false_iff_not, Bool.not_true, Bool.not_false, Bool.not_eq_true', Bool.not_eq_false', Bool.not_not, beq_eq_false_iff_ne, ne_eq, beq_iff_eq, decide_eq_decide] at hg); try (exfalso; omega)))
        | ((with_reducible apply retQ_mk); (· (first | exact .inr rfl | exact .inl rfl)); (· exact sv); (· exact sv); rotate_left; (· rfl))
        | ((with_reducible apply wk_id); (with_reducible apply retQ_mk); (· (first | exact .inr rfl | exact .inl rfl)); (· exact sv); (· exact sv); rotate_left; (· rfl))
        | ((try with_reducible apply wk_id); (with_reducible apply retQ_mk1); (· (first | exact .inr rfl | exact .inl rfl)); (· exact sv); (· exact sv); (· exact sv); (· exact sv); rotate_left; rotate_left; (· simp); (· rfl))
        | ((try with_reducible apply wk_id); (with_reducible apply retQ_mk2); (· (first | exact .inr rfl | exact .inl rfl)); (· exact sv); (· exact sv); (· exact sv); (· exact sv); (· exact sv); (· exact sv); rotate_left; rotate_left; rotate_left; (· simp); (· simp); (· rfl))
        | ((with_reducible apply awY_p); (· exact sH); (first | ((with_reducible apply awP_1); (· decide +kernel)) | ((with_reducible apply awP_2); (· exact sP)))))
    all_goals rfl
end Go.Proofs.Ytcplbbbjmalfjaa
