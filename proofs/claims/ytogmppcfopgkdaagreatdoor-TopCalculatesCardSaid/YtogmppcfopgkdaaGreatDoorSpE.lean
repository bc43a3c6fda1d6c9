/- split: runs and Fields, on the abstract machine. -/
import Derived.Test.YtogmppcfopgkdaaGreatDoorSpC
namespace Go.Proofs.YtogmppcfopgkdaaGreatDoor
open Go.RowKit
set_option linter.unusedVariables false
set_option linter.unusedSimpArgs false
set_option maxRecDepth 100000
set_option maxHeartbeats 8000000
theorem dropWhile_le {p : El → Bool} (L : List El) : (L.dropWhile p).length ≤ L.length := (List.dropWhile_sublist p (l := L)).length_le
/-- Elements as runs. -/
def runsOf (L : List El) : List El :=
  match L with
  | [] => []
  | x :: r => ⟨x.t ++ cat (r.takeWhile fun y => decide (y.k = x.k)), x.k⟩ :: runsOf (r.dropWhile fun y => decide (y.k = x.k))
  termination_by L.length
  decreasing_by (have := dropWhile_le (p := fun y => decide (y.k = x.k)) r; simp only [List.length_cons]; omega)
theorem runsOf_len : ∀ (n : Nat) (L : List El), L.length ≤ n → (runsOf L).length ≤ L.length := by
  intro n
  induction n with
  | zero =>
    intro L hL
    obtain rfl : L = [] := List.eq_nil_of_length_eq_zero (by omega)
    simp [runsOf]
  | succ n ih =>
    intro L hL
    cases L with
    | nil => simp [runsOf]
    | cons x r =>
      have h1 := dropWhile_le (p := fun y => decide (y.k = x.k)) r
      simp only [List.length_cons] at hL
      have := ih (r.dropWhile fun y => decide (y.k = x.k)) (by omega)
      rw [runsOf]
      simp only [List.length_cons]
      omega
theorem cat_drop_len (L : List El) (i : Nat) : (cat (L.drop i)).length ≤ (cat L).length := by
  have := congrArg List.length (congrArg cat (List.take_append_drop i L))
  rw [cat_append, List.length_append] at this
  omega
theorem takeWhile_take {p : El → Bool} : ∀ (L : List El) (n : Nat), n ≤ L.length → (∀ j (h : j < n) (h' : j < L.length), p L[j] = true) → (n = L.length ∨ ∃ h : n < L.length, p L[n] = false) → L.takeWhile p = L.take n ∧ L.dropWhile p = L.drop n
  | [], n, hn, _, _ => by simp
  | x :: r, 0, hn, h1, h2 => by
    rcases h2 with h2 | ⟨h, h2⟩
    · simp at h2
    · simp only [List.getElem_cons_zero] at h2
      simp [List.takeWhile_cons, List.dropWhile_cons, h2]
  | x :: r, n + 1, hn, h1, h2 => by
    have hx : p x = true := h1 0 (by omega) (by simp)
    have := takeWhile_take r n (by simpa using hn) (fun j h h' => by have := h1 (j + 1) (by omega) (by simpa using h'); simpa using this) (by
      rcases h2 with h2 | ⟨h, h2⟩
      · left; simpa using h2
      · right; exact ⟨by simpa using h, by simpa using h2⟩)
    simp [List.takeWhile_cons, List.dropWhile_cons, hx, this.1, this.2]
theorem el_drop1 {D : List El} (h : 0 < D.length) : (List.drop 1 (elC D))[0]? = some (ai (D[0]'h).k) := by
  cases D with
  | nil => simp at h
  | cons x r => rfl
attribute [go_sem] el_drop1
theorem runs_step {D : List El} {n : Nat} (h0 : 1 ≤ n) (h1 : n ≤ D.length) (h2 : ∀ j (h : j < D.length), 1 ≤ j → j < n → D[j].k = D[0].k) (h3 : n = D.length ∨ ∃ h : n < D.length, ¬ D[n].k = D[0].k) : runsOf D = ⟨cat (D.take n), (D[0]'(by omega)).k⟩ :: runsOf (D.drop n) := by
  match D, n, h0, h1, h2, h3 with
  | x :: r, n + 1, h0, h1, h2, h3 =>
    have := takeWhile_take (p := fun y => decide (y.k = x.k)) r n (by simpa using h1) (fun j h h' => by have := h2 (j + 1) (by simpa using h') (by omega) (by omega); simpa using this) (by
      rcases h3 with h3 | ⟨h, h3⟩
      · left; simpa using h3
      · right; exact ⟨by simpa using h, by simpa using h3⟩)
    rw [runsOf, this.1, this.2]
    rfl
theorem runs_ab (L : List El) (hL : L.length ≤ 100000) (hc : (cat L).length ≤ 100000) : Ab Tryz.prog 76 [elsA L] (elsA (runsOf L)) := by
  have hrl := runsOf_len _ L (Nat.le_refl _)
  refine Fn_of_aw (keep := []) Tryz.func76 rfl rfl (by simp [Tryz.ntmps76]) ?_
  simp only [num_cons, num_nil, Tryz.ntmps76, Tryz.results76]
  repeat' (first
 | ((with_reducible apply awO_ev); (· rfl); (· exact sv))
 | ((with_reducible apply aw_seq); intro _ _)
 | (with_reducible apply aw_region)
 | (with_reducible apply aw_block)
 | ((with_reducible first | apply awO_nil | apply aw_exit | apply aw_skip | apply aw_ret); (try simp only [CT, ↓reduceIte, Nat.reduceEqDiff]))
 | (refine Kont.go ‹Kont _ _ _ _› _ ?_))
  refine aw_virt 3 100 2 rfl (by omega) (by simp) ?_
  refine aw_st svs ?_
  refine aw_loopF (fun s : Nat × List El => [(0, elsA (L.drop s.1)), (3, .os 100 0 2 s.2.length)]) (fun s => [(100, elC s.2)]) (fun s => s.1 ≤ L.length ∧ runsOf L = s.2 ++ runsOf (L.drop s.1)) (fun s => L.length - s.1) (0, []) ⟨by omega, rfl⟩ ?_ ?_ ?_
  · exact ⟨rfl, rfl, trivial⟩
  · exact ⟨rfl, trivial⟩
  intro ⟨i, R⟩ ⟨hi, hI⟩
  simp only at hi hI
  have hRl : R.length ≤ L.length := by have := congrArg List.length hI; rw [List.length_append] at this; omega
  (simp only [LP, List.append_assoc, List.nil_append, List.cons_append, List.append_nil, List.contains_cons, List.contains_nil, Nat.reduceBEq, Bool.or_false, Bool.or_true, Bool.true_or, Bool.false_or, ↓reduceIte, Bool.false_eq_true])
  by_cases hil : i < L.length
  · have hdl : (L.drop i).length = L.length - i := List.length_drop
    have hcd := cat_drop_len L i
    have hdd : ∀ n, (L.drop i).drop n = L.drop (i + n) := fun n => by rw [List.drop_drop]
    generalize hD : L.drop i = D at *
    have hne : 0 < D.length := by omega
    have fin : ∀ n, 1 ≤ n → n ≤ D.length → (∀ j (h : j < D.length), 1 ≤ j → j < n → D[j].k = D[0].k) → (n = D.length ∨ ∃ h : n < D.length, ¬ D[n].k = D[0].k) → runsOf L = (R ++ [⟨cat (D.take n), D[0].k⟩]) ++ runsOf (L.drop (i + n)) ∧ Ab Tryz.prog 124 [.rd n ((elC D).take (n * 2))] (az (cat (D.take n))) := fun n a1 a2 a3 a4 => by
      refine ⟨by rw [hI, runs_step a1 a2 a3 a4, hdd]; simp, ?_⟩
      have c := join_ab (D.take n) (by rw [List.length_take]; omega) (by have := cat_take_len D n; omega)
      rw [elC_take]
      unfold elsA at c
      rwa [List.length_take, Nat.min_eq_left a2] at c
    repeat' (first
 | ((with_reducible apply awO_ev); (· rfl); (· exact sv))
 | ((with_reducible apply aw_seq); intro _ _)
 | (with_reducible apply aw_region)
 | (with_reducible apply aw_block)
 | ((with_reducible first | apply awO_nil | apply aw_exit | apply aw_skip | apply aw_ret); (try simp only [CT, ↓reduceIte, Nat.reduceEqDiff]))
 | (refine Kont.go ‹Kont _ _ _ _› _ ?_)
 | ((first | ((with_reducible apply awO_guardN); (· rfl); (· rfl); (· exact sv); (· exact nB)) | ((with_reducible apply aw_condN); (· exact sv))); (· exact pN); (· exact pN); all_goals (intro hg; try (exfalso; omega))))
    refine aw_loopF (fun n : Nat => [(4, ai n)]) (fun n => [(100, elC R)]) (fun n => 1 ≤ n ∧ n ≤ D.length ∧ ∀ j (h : j < D.length), 1 ≤ j → j < n → D[j].k = D[0].k) (fun n => D.length - n) 1 ⟨by omega, by omega, fun j _ h1 h2 => by omega⟩ ?_ ?_ ?_
    · exact ⟨rfl, trivial⟩
    · exact ⟨rfl, trivial⟩
    intro n ⟨hn1, hn2, hn3⟩
    (simp only [LP, List.append_assoc, List.nil_append, List.cons_append, List.append_nil, List.contains_cons, List.contains_nil, Nat.reduceBEq, Bool.or_false, Bool.or_true, Bool.true_or, Bool.false_or, ↓reduceIte, Bool.false_eq_true])
    by_cases hnl : n < D.length
    · by_cases hk : D[n].k = D[0].k
      · skip
        repeat' (first
 | ((with_reducible apply awO_ev); (· rfl); (· exact sv))
 | ((with_reducible apply aw_seq); intro _ _)
 | (with_reducible apply aw_region)
 | (with_reducible apply aw_block)
 | ((with_reducible first | apply awO_nil | apply aw_exit | apply aw_skip | apply aw_ret); (try simp only [CT, ↓reduceIte, Nat.reduceEqDiff]))
 | (refine Kont.go ‹Kont _ _ _ _› _ ?_)
 | ((with_reducible apply aw_draw); (· decide +kernel); (simp only [List.size_toArray, List.length_cons, List.length_nil, Nat.reduceAdd]))
 | ((with_reducible apply awY_done); (· decide +kernel); (try simp only [CT, ↓reduceIte, Nat.reduceEqDiff]))
 | ((with_reducible apply awY_q); (· exact sQ); (· exact np); (· exact svg); (· rfl); (· exact sv))
 | ((with_reducible apply awY_qy); (· exact sQ); (· exact np); (· exact svg); (· rfl); (· rfl); (· exact nd); (· exact sv); (· exact sv))
 | ((first | ((with_reducible apply awO_guardN); (· rfl); (· rfl); (· exact sv); (· exact nB)) | ((with_reducible apply aw_condN); (· exact sv))); (· exact pN); (· exact pN); all_goals (intro hg; try (exfalso; omega)))
 | ((with_reducible apply awY_guard); (· exact sR); (· exact svg); (· rfl); (· rfl); (· exact svl); all_goals (intro hg; (try simp only [Bool.not_true, Bool.not_false]); (try simp only [decide_eq_true_eq, decide_eq_false_iff_not, Bool.not_true, Bool.not_false, Bool.not_eq_true', Bool.not_eq_false', Bool.not_not, beq_eq_false_iff_ne, ne_eq, beq_iff_eq, decide_eq_decide] at hg); try (exfalso; omega))))
        refine LE_mk (n + 1) ?_ ?_ sN sN sN
        · refine ⟨by omega, by omega, fun j hj h1 h2 => ?_⟩
          by_cases e : j = n
          · subst e; exact hk
          · exact hn3 j hj h1 (by omega)
        · omega
      · obtain ⟨f1, c1⟩ := fin n hn1 hn2 hn3 (.inr ⟨hnl, hk⟩)
        repeat' (first
 | ((with_reducible apply awO_ev); (· rfl); (· exact sv))
 | ((with_reducible apply aw_seq); intro _ _)
 | (with_reducible apply aw_region)
 | ((with_reducible first | apply awO_nil | apply aw_exit | apply aw_skip | apply aw_ret); (try simp only [CT, ↓reduceIte, Nat.reduceEqDiff]))
 | (refine Kont.go ‹Kont _ _ _ _› _ ?_)
 | ((with_reducible apply aw_draw); (· decide +kernel); (simp only [List.size_toArray, List.length_cons, List.length_nil, Nat.reduceAdd]))
 | ((with_reducible apply awY_done); (· decide +kernel); (try simp only [CT, ↓reduceIte, Nat.reduceEqDiff]))
 | ((with_reducible apply awY_q); (· exact sQ); (· exact np); (· exact svg); (· rfl); (· exact sv))
 | ((with_reducible apply awY_qy); (· exact sQ); (· exact np); (· exact svg); (· rfl); (· rfl); (· exact nd); (· exact sv); (· exact sv))
 | ((with_reducible apply awI_ev); (· exact svg); (· rfl); (· exact sv))
 | ((with_reducible apply awI_c); (· exact svg); (· rfl); (· rfl); (· exact sv); (· (first | exact c1)); (· rfl); (· rfl); (· rfl); (· exact nd); simp only [put_some])
 | ((first | ((with_reducible apply awO_guardN); (· rfl); (· rfl); (· exact sv); (· exact nB)) | ((with_reducible apply aw_condN); (· exact sv))); (· exact pN); (· exact pN); all_goals (intro hg; try (exfalso; omega)))
 | ((with_reducible apply awY_guard); (· exact sR); (· exact svg); (· rfl); (· rfl); (· exact svl); all_goals (intro hg; (try simp only [Bool.not_true, Bool.not_false]); (try simp only [decide_eq_true_eq, decide_eq_false_iff_not, Bool.not_true, Bool.not_false, Bool.not_eq_true', Bool.not_eq_false', Bool.not_not, beq_eq_false_iff_ne, ne_eq, beq_iff_eq, decide_eq_decide] at hg); try (exfalso; omega)))
 | ((with_reducible apply awY_p); (· exact sH); (first | ((with_reducible apply awP_1); (· decide +kernel)) | ((with_reducible apply awP_2); (· exact sP)))))
        refine LE_mk (i + n, R ++ [⟨cat (D.take n), D[0].k⟩]) ?_ ?_ ?_ sN ?_
        · exact ⟨by simp only; omega, f1⟩
        · simp only; omega
        · refine ⟨?_, ?_, trivial⟩
          · show some (AV.rd _ (elC (D[n] :: D.drop (n + 1)))) = some (elsA (L.drop (i + n)))
            rw [← hdd, ← elsA_drop hn2, ← dropE hnl, elC_drop]
          · show some _ = some _
            rw [List.length_append]; rfl
        · refine ⟨?_, trivial⟩
          show some _ = some _
          rw [elC_append]; rfl
    · obtain ⟨f1, c1⟩ := fin n hn1 hn2 hn3 (.inl (by omega))
      rw [List.take_of_length_le (by rw [elC_len]; omega)] at c1
      repeat' (first
 | ((with_reducible apply awO_ev); (· rfl); (· exact sv))
 | ((with_reducible apply aw_seq); intro _ _)
 | (with_reducible apply aw_region)
 | ((with_reducible first | apply awO_nil | apply aw_exit | apply aw_skip | apply aw_ret); (try simp only [CT, ↓reduceIte, Nat.reduceEqDiff]))
 | ((with_reducible apply aw_cond_false); (· exact sv))
 | (refine Kont.go ‹Kont _ _ _ _› _ ?_)
 | ((with_reducible apply aw_draw); (· decide +kernel); (simp only [List.size_toArray, List.length_cons, List.length_nil, Nat.reduceAdd]))
 | ((with_reducible apply awY_done); (· decide +kernel); (try simp only [CT, ↓reduceIte, Nat.reduceEqDiff]))
 | ((with_reducible apply awY_q); (· exact sQ); (· exact np); (· exact svg); (· rfl); (· exact sv))
 | ((with_reducible apply awY_qn); (· exact sQ); (· exact np); (· exact svg); (· rfl); (· rfl); (· exact nd); (· exact sv); (· rfl); (· rfl); (· exact nd); simp only [put_some])
 | ((with_reducible apply awI_ev); (· exact svg); (· rfl); (· exact sv))
 | ((with_reducible apply awI_c); (· exact svg); (· rfl); (· rfl); (· exact sv); (· (first | exact c1)); (· rfl); (· rfl); (· rfl); (· exact nd); simp only [put_some])
 | ((with_reducible apply awY_guard); (· exact sR); (· exact svg); (· rfl); (· rfl); (· exact svl); all_goals (intro hg; (try simp only [Bool.not_true, Bool.not_false]); (try simp only [decide_eq_true_eq, decide_eq_false_iff_not, Bool.not_true, Bool.not_false, Bool.not_eq_true', Bool.not_eq_false', Bool.not_not, beq_eq_false_iff_ne, ne_eq, beq_iff_eq, decide_eq_decide] at hg); try (exfalso; omega)))
 | ((with_reducible apply awY_p); (· exact sH); (first | ((with_reducible apply awP_1); (· decide +kernel)) | ((with_reducible apply awP_2); (· exact sP)))))
      refine LE_mk (i + n, R ++ [⟨cat (D.take n), D[0].k⟩]) ?_ ?_ ?_ sN ?_
      · exact ⟨by simp only; omega, f1⟩
      · simp only; omega
      · refine ⟨?_, ?_, trivial⟩
        · show some _ = some (elsA (L.drop (i + n)))
          rw [← hdd, ← elsA_drop hn2]
        · show some _ = some _
          rw [List.length_append]; rfl
      · refine ⟨?_, trivial⟩
        show some _ = some _
        rw [elC_append]; rfl
  · have hD : L.drop i = [] := List.drop_eq_nil_of_le (by omega)
    have hdl : (L.drop i).length = L.length - i := List.length_drop
    rw [hD, runsOf, List.append_nil] at hI
    repeat' (first
 | ((with_reducible apply awO_ev); (· rfl); (· exact sv))
 | ((with_reducible apply aw_seq); intro _ _)
 | (with_reducible apply aw_region)
 | ((with_reducible first | apply awO_nil | apply aw_exit | apply aw_skip | apply aw_ret); (try simp only [CT, ↓reduceIte, Nat.reduceEqDiff]))
 | (refine Kont.go ‹Kont _ _ _ _› _ ?_)
 | ((first | ((with_reducible apply awO_guardN); (· rfl); (· rfl); (· exact sv); (· exact nB)) | ((with_reducible apply aw_condN); (· exact sv))); (· exact pN); (· exact pN); all_goals (intro hg; try (exfalso; omega)))
 | ((with_reducible apply retQ_mk); (· exact rI); (· exact sv); (· exact sv); rotate_left; (· rfl)))
    all_goals rw [hI]
end Go.Proofs.YtogmppcfopgkdaaGreatDoor
/- split: Fields, on the abstract machine; sizes. -/
namespace Go.Proofs.YtogmppcfopgkdaaGreatDoor
open Go.RowKit
set_option linter.unusedVariables false
set_option linter.unusedSimpArgs false
set_option maxRecDepth 100000
set_option maxHeartbeats 8000000
theorem skW_drop (ifs : List UInt8) (L : List El) : ∃ m, m ≤ L.length ∧ skW ifs L = L.drop m := by
  induction L with
  | nil => exact ⟨0, by simp, rfl⟩
  | cons x r ih =>
    by_cases h : whB ifs x = true
    · obtain ⟨m, hm, e⟩ := ih
      refine ⟨m + 1, by simp; omega, ?_⟩
      rw [skW, List.dropWhile_cons, if_pos h]; exact e
    · exact ⟨0, by simp, by rw [skW, List.dropWhile_cons, if_neg h]; rfl⟩
theorem cat_skW (ifs : List UInt8) (L : List El) : (cat (skW ifs L)).length ≤ (cat L).length := by
  obtain ⟨m, _, e⟩ := skW_drop ifs L
  rw [e]; exact cat_drop_len L m
theorem fld_mem {f now : List El} (h : f ∈ fld now) : f = now := by
  unfold fld at h; split at h <;> simp_all
theorem fld_len (now : List El) : (fld now).length ≤ 1 := by unfold fld; split <;> simp
theorem divd_bd (ifs : List UInt8) : ∀ (n : Nat) (L now : List El), L.length ≤ n → (divd ifs L now).length ≤ L.length + 1 ∧ ∀ f ∈ divd ifs L now, f.length ≤ L.length + now.length ∧ (cat f).length ≤ (cat L).length + (cat now).length := by
  intro n
  induction n with
  | zero =>
    intro L now hL
    obtain rfl : L = [] := List.eq_nil_of_length_eq_zero (by omega)
    rw [divd]
    refine ⟨by have := fld_len now; simp; omega, fun f hf => ?_⟩
    rw [fld_mem hf]; exact ⟨by omega, by omega⟩
  | succ n ih =>
    intro L now hL
    cases L with
    | nil =>
      rw [divd]
      refine ⟨by have := fld_len now; simp; omega, fun f hf => ?_⟩
      rw [fld_mem hf]; exact ⟨by omega, by omega⟩
    | cons x r =>
      have hs := skW_le ifs r
      have hc := cat_skW ifs r
      have hf := fld_len now
      simp only [List.length_cons] at hL
      rw [divd]
      split
      · obtain ⟨a, b⟩ := ih r [] (by omega)
        refine ⟨by simp only [List.length_append, List.length_cons]; omega, fun f hf => ?_⟩
        rcases List.mem_append.1 hf with h | h
        · rw [fld_mem h]; exact ⟨by omega, by omega⟩
        · have := b f h; simp only [List.length_cons, cat, List.length_append, List.length_nil] at this ⊢; omega
      split
      · split
        · obtain ⟨a, b⟩ := ih (skW ifs r) now (by omega)
          refine ⟨by simp only [List.length_cons]; omega, fun f hf => ?_⟩
          have := b f hf; simp only [List.length_cons, cat, List.length_append] at this ⊢; omega
        · obtain ⟨a, b⟩ := ih (skW ifs r) [] (by omega)
          refine ⟨by simp only [List.length_append, List.length_cons]; omega, fun f hf => ?_⟩
          rcases List.mem_append.1 hf with h | h
          · rw [fld_mem h]; exact ⟨by omega, by omega⟩
          · have := b f h; simp only [List.length_cons, cat, List.length_append, List.length_nil] at this ⊢; omega
      split
      · obtain ⟨a, b⟩ := ih (skW ifs r) [] (by omega)
        refine ⟨by simp only [List.length_cons]; omega, fun f hf => ?_⟩
        rcases List.mem_cons.1 hf with h | h
        · rw [h]; exact ⟨by omega, by omega⟩
        · have := b f h; simp only [List.length_cons, cat, List.length_append, List.length_nil] at this ⊢; omega
      · obtain ⟨a, b⟩ := ih r (now ++ [x]) (by omega)
        refine ⟨by simp only [List.length_cons]; omega, fun f hf => ?_⟩
        have := b f hf
        rw [cat_append] at this
        simp only [List.length_cons, cat, List.length_append, List.length_nil] at this ⊢; omega
theorem cat_elemsOf (x : El) : (cat (elemsOf x)).length ≤ x.t.length := by
  have hm : ∀ (l : List UInt8) (k : Int), cat (l.map fun c => ⟨[c], k⟩) = l := fun l k => by
    induction l with
    | nil => rfl
    | cons c r ih => simp [cat, ih]
  unfold elemsOf
  (repeat' split) <;> simp [cat, hm]
theorem cat_elems (L : List El) : (cat (elems L)).length ≤ (cat L).length := by
  induction L with
  | nil => simp [elems, cat]
  | cons x r ih =>
    have := cat_elemsOf x
    simp only [elems, List.flatMap_cons, cat_append, cat, List.length_append] at ih ⊢
    omega
/-- The fields of runs. -/
def fieldsOf (L : List El) (ifs : List UInt8) : List (List El) := (divd ifs (elems L) []).map runsOf
abbrev flsA (F : List (List El)) : AV := .rd F.length (flsC F)
theorem map_take_succ {F : List (List El)} {i : Nat} (h : i < F.length) : (F.take (i + 1)).map runsOf = (F.take i).map runsOf ++ [runsOf F[i]] := by
  rw [List.take_succ_eq_append_getElem h, List.map_append]; rfl
theorem fields_ab (L : List El) (ifs : List UInt8) (hL : L.length ≤ 10000) (hc : (cat L).length ≤ 10000) : Ab Tryz.prog 45 [elsA L, az ifs] (flsA (fieldsOf L ifs)) := by
  have hel := elems_len L
  have hec := cat_elems L
  have c1 := elements_ab L hL hc
  have c2 := divide_ab (elems L) ifs (elems_ok L) (by omega)
  obtain ⟨b1, b2⟩ := divd_bd ifs _ (elems L) [] (Nat.le_refl _)
  unfold fieldsOf
  generalize divd ifs (elems L) [] = F at *
  have c3 : ∀ i (h : i < F.length), Ab Tryz.prog 76 [elsA F[i]] (elsA (runsOf F[i])) := fun i h => by
    have := b2 F[i] (List.getElem_mem h)
    simp only [cat, List.length_nil] at this
    exact runs_ab F[i] (by omega) (by omega)
  refine Fn_of_aw (keep := []) Tryz.func45 rfl rfl (by simp [Tryz.ntmps45]) ?_
  simp only [num_cons, num_nil, Tryz.ntmps45, Tryz.results45]
  repeat' (first
 | ((with_reducible apply awO_ev); (· rfl); (· exact sv))
 | ((with_reducible apply aw_seq); intro _ _)
 | (with_reducible apply aw_region)
 | (with_reducible apply aw_block)
 | ((with_reducible first | apply awO_nil | apply aw_exit | apply aw_skip | apply aw_ret); (try simp only [CT, ↓reduceIte, Nat.reduceEqDiff]))
 | (refine Kont.go ‹Kont _ _ _ _› _ ?_)
 | ((with_reducible apply awO_c); (· rfl); (· rfl); (· exact sv); (· (first | exact c1 | exact c2)); (· rfl); (· rfl); (· rfl); (· decide)))
  refine aw_virt 5 100 1 rfl (by omega) (by simp) ?_
  refine aw_st svs ?_
  refine aw_loopF (fun i : Nat => [(13, ai i), (5, .os 100 0 1 i)]) (fun i => [(100, flsC ((F.take i).map runsOf))]) (fun i => i ≤ F.length) (fun i => F.length - i) 0 (by omega) ?_ ?_ ?_
  · exact ⟨rfl, rfl, trivial⟩
  · exact ⟨rfl, trivial⟩
  intro i hi
  (simp only [LP, List.append_assoc, List.nil_append, List.cons_append, List.append_nil, List.contains_cons, List.contains_nil, Nat.reduceBEq, Bool.or_false, Bool.or_true, Bool.true_or, Bool.false_or, ↓reduceIte, Bool.false_eq_true])
  by_cases hil : i < F.length
  · have c4 := c3 i hil
    have e1 := map_take_succ hil
    repeat' (first
 | ((with_reducible apply awO_ev); (· rfl); (· exact sv))
 | ((with_reducible apply aw_seq); intro _ _)
 | (with_reducible apply aw_region)
 | (with_reducible apply aw_block)
 | ((with_reducible first | apply awO_nil | apply aw_exit | apply aw_skip | apply aw_ret); (try simp only [CT, ↓reduceIte, Nat.reduceEqDiff]))
 | (refine Kont.go ‹Kont _ _ _ _› _ ?_)
 | ((with_reducible apply awO_c); (· rfl); (· rfl); (· exact sv); (· (first | exact c4)); (· rfl); (· rfl); (· rfl); (· decide))
 | ((first | ((with_reducible apply awO_guardN); (· rfl); (· rfl); (· exact sv); (· exact nB)) | ((with_reducible apply aw_condN); (· exact sv))); (· exact pN); (· exact pN); all_goals (intro hg; try (exfalso; omega))))
    refine LE_mk (i + 1) ?_ ?_ ?_ sN ?_
    · omega
    · omega
    · exact ⟨rfl, rfl, trivial⟩
    · refine ⟨?_, trivial⟩
      show some _ = some _
      rw [e1]; simp [flsC]
  · have e1 : F.take i = F := List.take_of_length_le (by omega)
    have e2 : i = F.length := by omega
    rw [e1]
    repeat' (first
 | ((with_reducible apply awO_ev); (· rfl); (· exact sv))
 | ((with_reducible apply aw_seq); intro _ _)
 | (with_reducible apply aw_region)
 | ((with_reducible first | apply awO_nil | apply aw_exit | apply aw_skip | apply aw_ret); (try simp only [CT, ↓reduceIte, Nat.reduceEqDiff]))
 | (refine Kont.go ‹Kont _ _ _ _› _ ?_)
 | ((first | ((with_reducible apply awO_guardN); (· rfl); (· rfl); (· exact sv); (· exact nB)) | ((with_reducible apply aw_condN); (· exact sv))); (· exact pN); (· exact pN); all_goals (intro hg; try (exfalso; omega)))
 | ((with_reducible apply retQ_mk); (· exact rI); (· exact sv); (· exact sv); rotate_left; (· rfl)))
    all_goals (rw [e2]; simp [flsA])
end Go.Proofs.YtogmppcfopgkdaaGreatDoor
