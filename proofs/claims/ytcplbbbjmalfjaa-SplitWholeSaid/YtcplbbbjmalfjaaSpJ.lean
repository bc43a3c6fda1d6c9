/- The laws SplitBorders and SplitTexts, on the abstract machine. -/
import Derived.Test.YtcplbbbjmalfjaaSpI
namespace Go.Proofs.Ytcplbbbjmalfjaa
open Go.RowKit
set_option linter.unusedVariables false
set_option linter.unusedSimpArgs false
set_option maxRecDepth 100000
set_option maxHeartbeats 8000000
theorem skW_app (ifs : List UInt8) (A B : List El) : skW ifs (A ++ ⟨[], 3⟩ :: B) = skW ifs A ++ ⟨[], 3⟩ :: B := by
  induction A with
  | nil => simp [skW, whB, sepB]
  | cons x r ih =>
    simp only [skW, List.cons_append, List.dropWhile_cons] at ih ⊢
    split
    · exact ih
    · rfl
theorem delB_app (ifs : List UInt8) (A B : List El) : delB ifs (A ++ ⟨[], 3⟩ :: B) = delB ifs A := by
  cases A with
  | nil => simp [delB, sepB]
  | cons x r => rfl
theorem divd_br (ifs : List UInt8) (now B : List El) : divd ifs ([] ++ ⟨[], 3⟩ :: B) now = divd ifs [] now ++ divd ifs B [] := by
  have e1 := divd.eq_def ifs (⟨[], 3⟩ :: B) now
  have e2 := divd.eq_def ifs [] now
  simp only at e1 e2
  rw [List.nil_append, e1, e2, if_pos trivial]
theorem divd_border (ifs : List UInt8) : ∀ (n : Nat) (A now B : List El), A.length ≤ n → divd ifs (A ++ ⟨[], 3⟩ :: B) now = divd ifs A now ++ divd ifs B [] := by
  intro n
  induction n with
  | zero =>
    intro A now B hA
    obtain rfl : A = [] := List.eq_nil_of_length_eq_zero (by omega)
    exact divd_br ifs now B
  | succ n ih =>
    intro A now B hA
    cases A with
    | nil => exact divd_br ifs now B
    | cons x r =>
      simp only [List.length_cons] at hA
      have hs := skW_le ifs r
      have e1 := divd.eq_def ifs (x :: r) now
      have e2 := divd.eq_def ifs (x :: (r ++ ⟨[], 3⟩ :: B)) now
      simp only at e1 e2
      rw [List.cons_append, e1, e2, skW_app, delB_app]
      split
      · rw [ih r [] B (by omega), List.append_assoc]
      split
      · split
        · exact ih _ now B (by omega)
        · rw [ih _ [] B (by omega), List.append_assoc]
      split
      · rw [ih _ [] B (by omega), List.cons_append]
      · exact ih r _ B (by omega)
theorem fields_border (a b : List El) (ifs : List UInt8) : fieldsOf (a ++ [⟨[], 3⟩] ++ b) ifs = fieldsOf a ifs ++ fieldsOf b ifs := by
  have : elems (a ++ [⟨[], 3⟩] ++ b) = elems a ++ ⟨[], 3⟩ :: elems b := by
    rw [elems_append, elems_append]
    simp [elems, elemsOf]
  rw [fieldsOf, this, divd_border ifs _ _ _ _ (Nat.le_refl _), List.map_append]
  rfl
theorem fields_bd (L : List El) (ifs : List UInt8) (hL : L.length ≤ 1000) (hc : (cat L).length ≤ 1000) : (fieldsOf L ifs).length ≤ 2001 ∧ ∀ f ∈ fieldsOf L ifs, f.length ≤ 2000 := by
  have h1 := elems_len L
  obtain ⟨b1, b2⟩ := divd_bd ifs _ (elems L) [] (Nat.le_refl _)
  refine ⟨by rw [fieldsOf, List.length_map]; omega, fun f hf => ?_⟩
  simp only [fieldsOf, List.mem_map] at hf
  obtain ⟨g, hg, rfl⟩ := hf
  have := (b2 g hg).1
  have := runsOf_len _ g (Nat.le_refl _)
  simp only [List.length_nil] at *
  omega
theorem smB_spec {L : List El} (h : smB L = true) : L.length ≤ 12 ∧ (cat L).length ≤ 80 := by simpa [smB] using h
theorem splitBorders_ab (a b : List El) (ifs : List UInt8) (ha : a.length ≤ 9000000000000000) (hat : ∀ x ∈ a, x.t.length ≤ 9000000000000000) (hb : b.length ≤ 9000000000000000) (hbt : ∀ x ∈ b, x.t.length ≤ 9000000000000000) (hi : ifs.length ≤ 9000000000000000) : Ab Try.prog 7 [elsA a, elsA b, az ifs] (ab true) := by
  have c0 := awake_ab
  have c1 := small_ab a ha hat
  have c2 := small_ab b hb hbt
  cases hA : smB a with
  | false =>
    rw [hA] at c1
    refine Fn_of_aw (keep := []) Try.func7 rfl rfl (by simp [Try.ntmps7]) ?_
    simp only [num_cons, num_nil, Try.ntmps7, Try.results7]
    repeat' (first
 | ((with_reducible apply awO_ev); (· rfl); (· exact sv))
 | ((with_reducible apply awO_eqnil); (· rfl); (· rfl); (· exact sv); (· exact sv); (· exact svp); (· rfl); (· exact nd); intro nb hnb; simp only [put_some])
 | ((with_reducible apply awO_neqnil); (· rfl); (· rfl); (· exact sv); (· exact sv); (· exact svp); (· rfl); (· exact nd); intro nb hnb; simp only [put_some])
 | ((with_reducible apply aw_seq); intro _ _)
 | ((with_reducible apply aw_region))
 | ((with_reducible apply aw_block))
 | ((with_reducible apply awO_nil); (try simp only [CT, ↓reduceIte, Nat.reduceEqDiff]))
 | ((with_reducible apply aw_exit); (try simp only [CT, ↓reduceIte, Nat.reduceEqDiff]))
 | ((with_reducible apply aw_skip); (try simp only [CT, ↓reduceIte, Nat.reduceEqDiff]))
 | ((with_reducible apply aw_ret); (try simp only [CT, ↓reduceIte, Nat.reduceEqDiff]))
 | ((with_reducible apply awO_y); (· rfl); (· rfl); (· decide); (· exact sv); (· exact sv))
 | ((with_reducible apply awO_n); (· rfl); (· rfl); (· decide); (· exact sv); (· rfl); (· rfl); (· decide))
 | ((with_reducible apply awO_u); (· rfl); (· rfl); (· exact svr); (· rfl); (· decide))
 | ((with_reducible apply aw_cond_true); (· exact sv))
 | ((with_reducible apply aw_cond_false); (· exact sv))
 | (refine Kont.go ‹Kont _ _ _ _› _ ?_)
 | ((with_reducible apply awO_un); (· rfl); (· decide); (· exact sv))
 | ((with_reducible apply awO_c); (· rfl); (· rfl); (· exact sv); (· (first | exact c0 | exact c1)); (· rfl); (· rfl); (· rfl); (· decide))
 | ((with_reducible apply awO_f); (· rfl); (· rfl); (· exact sv); (· exact sv); (· (first | exact c0 | exact c1)); (· rfl); (· rfl); (· decide))
 | ((with_reducible apply awO_m); (· rfl); (· rfl); (· exact sv); (· (first | exact c0 | exact c1)); (· exact svq); (· exact svq); (· exact svq); (· exact svq); (· rfl); (· exact nd); (with_reducible apply awO_st); (· exact svs))
 | ((with_reducible apply awO_pc1); (· rfl); (· exact sv); (· exact sv); (· (first | decide | omega | (simp only [elC_len, List.length_append, List.length_map, List.length_cons, List.length_nil]; omega) | (simp; done) | (simp; omega))); (· (first | rfl | exact svq)); (with_reducible apply awO_st); (· exact svs))
 | ((with_reducible apply awO_pc2); (· rfl); (· exact sv); (· exact sv); (· (first | decide | omega | (simp only [elC_len, List.length_append, List.length_map, List.length_cons, List.length_nil]; omega) | (simp; done) | (simp; omega))); (· (first | rfl | exact svq)); (with_reducible apply awO_st); (· exact svs))
 | ((with_reducible apply awO_guard); (· rfl); (· rfl); (· exact sv); all_goals (intro hg; (try simp only [Bool.not_true, Bool.not_false]); (try simp only [decide_eq_true_eq, decide_eq_false_iff_not, Bool.not_true, Bool.not_false, Bool.not_eq_true', Bool.not_eq_false', Bool.not_not, beq_eq_false_iff_ne, ne_eq, beq_iff_eq, decide_eq_decide] at hg); try (exfalso; omega)))
 | ((with_reducible apply aw_cond); (· exact sv); all_goals (intro hg; (try simp only [decide_eq_true_eq, decide_eq_false_iff_not, Bool.not_true, Bool.not_false, Bool.not_eq_true', Bool.not_eq_false', Bool.not_not, beq_eq_false_iff_ne, ne_eq, beq_iff_eq, decide_eq_decide] at hg); try (exfalso; omega)))
 | ((with_reducible apply retQ_mk); (· (first | exact .inr rfl | exact .inl rfl)); (· exact sv); (· exact sv); rotate_left; (· rfl))
 | ((with_reducible apply wk_id); (with_reducible apply retQ_mk); (· (first | exact .inr rfl | exact .inl rfl)); (· exact sv); (· exact sv); rotate_left; (· rfl))
 | ((try with_reducible apply wk_id); (with_reducible apply retQ_mk1); (· (first | exact .inr rfl | exact .inl rfl)); (· exact sv); (· exact sv); (· exact sv); (· exact sv); rotate_left; rotate_left; (· simp); (· rfl))
 | ((try with_reducible apply wk_id); (with_reducible apply retQ_mk2); (· (first | exact .inr rfl | exact .inl rfl)); (· exact sv); (· exact sv); (· exact sv); (· exact sv); (· exact sv); (· exact sv); rotate_left; rotate_left; rotate_left; (· simp); (· simp); (· rfl)))
    all_goals rfl
  | true =>
    rw [hA] at c1
    cases hB : smB b with
    | false =>
      rw [hB] at c2
      refine Fn_of_aw (keep := []) Try.func7 rfl rfl (by simp [Try.ntmps7]) ?_
      simp only [num_cons, num_nil, Try.ntmps7, Try.results7]
      repeat' (first
 | ((with_reducible apply awO_ev); (· rfl); (· exact sv))
 | ((with_reducible apply awO_eqnil); (· rfl); (· rfl); (· exact sv); (· exact sv); (· exact svp); (· rfl); (· exact nd); intro nb hnb; simp only [put_some])
 | ((with_reducible apply awO_neqnil); (· rfl); (· rfl); (· exact sv); (· exact sv); (· exact svp); (· rfl); (· exact nd); intro nb hnb; simp only [put_some])
 | ((with_reducible apply aw_seq); intro _ _)
 | ((with_reducible apply aw_region))
 | ((with_reducible apply aw_block))
 | ((with_reducible apply awO_nil); (try simp only [CT, ↓reduceIte, Nat.reduceEqDiff]))
 | ((with_reducible apply aw_exit); (try simp only [CT, ↓reduceIte, Nat.reduceEqDiff]))
 | ((with_reducible apply aw_skip); (try simp only [CT, ↓reduceIte, Nat.reduceEqDiff]))
 | ((with_reducible apply aw_ret); (try simp only [CT, ↓reduceIte, Nat.reduceEqDiff]))
 | ((with_reducible apply awO_y); (· rfl); (· rfl); (· decide); (· exact sv); (· exact sv))
 | ((with_reducible apply awO_n); (· rfl); (· rfl); (· decide); (· exact sv); (· rfl); (· rfl); (· decide))
 | ((with_reducible apply awO_u); (· rfl); (· rfl); (· exact svr); (· rfl); (· decide))
 | ((with_reducible apply aw_cond_true); (· exact sv))
 | ((with_reducible apply aw_cond_false); (· exact sv))
 | (refine Kont.go ‹Kont _ _ _ _› _ ?_)
 | ((with_reducible apply awO_un); (· rfl); (· decide); (· exact sv))
 | ((with_reducible apply awO_c); (· rfl); (· rfl); (· exact sv); (· (first | exact c0 | exact c1 | exact c2)); (· rfl); (· rfl); (· rfl); (· decide))
 | ((with_reducible apply awO_f); (· rfl); (· rfl); (· exact sv); (· exact sv); (· (first | exact c0 | exact c1 | exact c2)); (· rfl); (· rfl); (· decide))
 | ((with_reducible apply awO_m); (· rfl); (· rfl); (· exact sv); (· (first | exact c0 | exact c1 | exact c2)); (· exact svq); (· exact svq); (· exact svq); (· exact svq); (· rfl); (· exact nd); (with_reducible apply awO_st); (· exact svs))
 | ((with_reducible apply awO_pc1); (· rfl); (· exact sv); (· exact sv); (· (first | decide | omega | (simp only [elC_len, List.length_append, List.length_map, List.length_cons, List.length_nil]; omega) | (simp; done) | (simp; omega))); (· (first | rfl | exact svq)); (with_reducible apply awO_st); (· exact svs))
 | ((with_reducible apply awO_pc2); (· rfl); (· exact sv); (· exact sv); (· (first | decide | omega | (simp only [elC_len, List.length_append, List.length_map, List.length_cons, List.length_nil]; omega) | (simp; done) | (simp; omega))); (· (first | rfl | exact svq)); (with_reducible apply awO_st); (· exact svs))
 | ((with_reducible apply awO_guard); (· rfl); (· rfl); (· exact sv); all_goals (intro hg; (try simp only [Bool.not_true, Bool.not_false]); (try simp only [decide_eq_true_eq, decide_eq_false_iff_not, Bool.not_true, Bool.not_false, Bool.not_eq_true', Bool.not_eq_false', Bool.not_not, beq_eq_false_iff_ne, ne_eq, beq_iff_eq, decide_eq_decide] at hg); try (exfalso; omega)))
 | ((with_reducible apply aw_cond); (· exact sv); all_goals (intro hg; (try simp only [decide_eq_true_eq, decide_eq_false_iff_not, Bool.not_true, Bool.not_false, Bool.not_eq_true', Bool.not_eq_false', Bool.not_not, beq_eq_false_iff_ne, ne_eq, beq_iff_eq, decide_eq_decide] at hg); try (exfalso; omega)))
 | ((with_reducible apply retQ_mk); (· (first | exact .inr rfl | exact .inl rfl)); (· exact sv); (· exact sv); rotate_left; (· rfl))
 | ((with_reducible apply wk_id); (with_reducible apply retQ_mk); (· (first | exact .inr rfl | exact .inl rfl)); (· exact sv); (· exact sv); rotate_left; (· rfl))
 | ((try with_reducible apply wk_id); (with_reducible apply retQ_mk1); (· (first | exact .inr rfl | exact .inl rfl)); (· exact sv); (· exact sv); (· exact sv); (· exact sv); rotate_left; rotate_left; (· simp); (· rfl))
 | ((try with_reducible apply wk_id); (with_reducible apply retQ_mk2); (· (first | exact .inr rfl | exact .inl rfl)); (· exact sv); (· exact sv); (· exact sv); (· exact sv); (· exact sv); (· exact sv); rotate_left; rotate_left; rotate_left; (· simp); (· simp); (· rfl)))
      all_goals rfl
    | true =>
      rw [hB] at c2
      obtain ⟨a1, a2⟩ := smB_spec hA
      obtain ⟨b1, b2⟩ := smB_spec hB
      by_cases h20 : 20 < ifs.length
      · skip
        refine Fn_of_aw (keep := []) Try.func7 rfl rfl (by simp [Try.ntmps7]) ?_
        simp only [num_cons, num_nil, Try.ntmps7, Try.results7]
        repeat' (first
 | ((with_reducible apply awO_ev); (· rfl); (· exact sv))
 | ((with_reducible apply awO_eqnil); (· rfl); (· rfl); (· exact sv); (· exact sv); (· exact svp); (· rfl); (· exact nd); intro nb hnb; simp only [put_some])
 | ((with_reducible apply awO_neqnil); (· rfl); (· rfl); (· exact sv); (· exact sv); (· exact svp); (· rfl); (· exact nd); intro nb hnb; simp only [put_some])
 | ((with_reducible apply aw_seq); intro _ _)
 | ((with_reducible apply aw_region))
 | ((with_reducible apply aw_block))
 | ((with_reducible apply awO_nil); (try simp only [CT, ↓reduceIte, Nat.reduceEqDiff]))
 | ((with_reducible apply aw_exit); (try simp only [CT, ↓reduceIte, Nat.reduceEqDiff]))
 | ((with_reducible apply aw_skip); (try simp only [CT, ↓reduceIte, Nat.reduceEqDiff]))
 | ((with_reducible apply aw_ret); (try simp only [CT, ↓reduceIte, Nat.reduceEqDiff]))
 | ((with_reducible apply awO_y); (· rfl); (· rfl); (· decide); (· exact sv); (· exact sv))
 | ((with_reducible apply awO_n); (· rfl); (· rfl); (· decide); (· exact sv); (· rfl); (· rfl); (· decide))
 | ((with_reducible apply awO_u); (· rfl); (· rfl); (· exact svr); (· rfl); (· decide))
 | ((with_reducible apply aw_cond_true); (· exact sv))
 | ((with_reducible apply aw_cond_false); (· exact sv))
 | (refine Kont.go ‹Kont _ _ _ _› _ ?_)
 | ((with_reducible apply awO_un); (· rfl); (· decide); (· exact sv))
 | ((with_reducible apply awO_c); (· rfl); (· rfl); (· exact sv); (· (first | exact c0 | exact c1 | exact c2)); (· rfl); (· rfl); (· rfl); (· decide))
 | ((with_reducible apply awO_f); (· rfl); (· rfl); (· exact sv); (· exact sv); (· (first | exact c0 | exact c1 | exact c2)); (· rfl); (· rfl); (· decide))
 | ((with_reducible apply awO_m); (· rfl); (· rfl); (· exact sv); (· (first | exact c0 | exact c1 | exact c2)); (· exact svq); (· exact svq); (· exact svq); (· exact svq); (· rfl); (· exact nd); (with_reducible apply awO_st); (· exact svs))
 | ((with_reducible apply awO_pc1); (· rfl); (· exact sv); (· exact sv); (· (first | decide | omega | (simp only [elC_len, List.length_append, List.length_map, List.length_cons, List.length_nil]; omega) | (simp; done) | (simp; omega))); (· (first | rfl | exact svq)); (with_reducible apply awO_st); (· exact svs))
 | ((with_reducible apply awO_pc2); (· rfl); (· exact sv); (· exact sv); (· (first | decide | omega | (simp only [elC_len, List.length_append, List.length_map, List.length_cons, List.length_nil]; omega) | (simp; done) | (simp; omega))); (· (first | rfl | exact svq)); (with_reducible apply awO_st); (· exact svs))
 | ((with_reducible apply awO_guard); (· rfl); (· rfl); (· exact sv); all_goals (intro hg; (try simp only [Bool.not_true, Bool.not_false]); (try simp only [decide_eq_true_eq, decide_eq_false_iff_not, Bool.not_true, Bool.not_false, Bool.not_eq_true', Bool.not_eq_false', Bool.not_not, beq_eq_false_iff_ne, ne_eq, beq_iff_eq, decide_eq_decide] at hg); try (exfalso; omega)))
 | ((with_reducible apply aw_cond); (· exact sv); all_goals (intro hg; (try simp only [decide_eq_true_eq, decide_eq_false_iff_not, Bool.not_true, Bool.not_false, Bool.not_eq_true', Bool.not_eq_false', Bool.not_not, beq_eq_false_iff_ne, ne_eq, beq_iff_eq, decide_eq_decide] at hg); try (exfalso; omega)))
 | ((with_reducible apply retQ_mk); (· (first | exact .inr rfl | exact .inl rfl)); (· exact sv); (· exact sv); rotate_left; (· rfl))
 | ((with_reducible apply wk_id); (with_reducible apply retQ_mk); (· (first | exact .inr rfl | exact .inl rfl)); (· exact sv); (· exact sv); rotate_left; (· rfl))
 | ((try with_reducible apply wk_id); (with_reducible apply retQ_mk1); (· (first | exact .inr rfl | exact .inl rfl)); (· exact sv); (· exact sv); (· exact sv); (· exact sv); rotate_left; rotate_left; (· simp); (· rfl))
 | ((try with_reducible apply wk_id); (with_reducible apply retQ_mk2); (· (first | exact .inr rfl | exact .inl rfl)); (· exact sv); (· exact sv); (· exact sv); (· exact sv); (· exact sv); (· exact sv); rotate_left; rotate_left; rotate_left; (· simp); (· simp); (· rfl)))
        all_goals rfl
      have c3 := fields_ab a ifs (by omega) (by omega)
      have c4 := fields_ab b ifs (by omega) (by omega)
      have c5 := fields_ab (a ++ [⟨[], 3⟩] ++ b) ifs (by simp; omega) (by rw [cat_append, cat_append]; simp [cat]; omega)
      have hbd := fields_bd (a ++ [⟨[], 3⟩] ++ b) ifs (by simp; omega) (by rw [cat_append, cat_append]; simp [cat]; omega)
      have c6 := sameFields_self (fieldsOf (a ++ [⟨[], 3⟩] ++ b) ifs) (by omega) (fun f hf => by have := hbd.2 f hf; omega)
      have hl1 := (fields_bd a ifs (by omega) (by omega)).1
      have hl2 := (fields_bd b ifs (by omega) (by omega)).1
      rw [fields_border] at c5 c6
      generalize fieldsOf a ifs = Fa at *
      generalize fieldsOf b ifs = Fb at *
      have e5 : elsA (a ++ [⟨[], 3⟩] ++ b) = .rd (a.length + 1 + b.length) (elC a ++ [az [], ai 3] ++ elC b) := by
        rw [elsA, elC_append, elC_append]; simp [elC]; omega
      have e6 : flsA (Fa ++ Fb) = .rd (Fa.length + Fb.length) (flsC Fa ++ flsC Fb) := by simp [flsA, flsC]
      rw [e5, e6] at c5
      rw [e6] at c6
      refine Fn_of_aw (keep := []) Try.func7 rfl rfl (by simp [Try.ntmps7]) ?_
      simp only [num_cons, num_nil, Try.ntmps7, Try.results7]
      repeat' (first
 | ((with_reducible apply awO_ev); (· rfl); (· exact sv))
 | ((with_reducible apply awO_eqnil); (· rfl); (· rfl); (· exact sv); (· exact sv); (· exact svp); (· rfl); (· exact nd); intro nb hnb; simp only [put_some])
 | ((with_reducible apply awO_neqnil); (· rfl); (· rfl); (· exact sv); (· exact sv); (· exact svp); (· rfl); (· exact nd); intro nb hnb; simp only [put_some])
 | ((with_reducible apply aw_seq); intro _ _)
 | ((with_reducible apply aw_region))
 | ((with_reducible apply aw_block))
 | ((with_reducible apply awO_nil); (try simp only [CT, ↓reduceIte, Nat.reduceEqDiff]))
 | ((with_reducible apply aw_exit); (try simp only [CT, ↓reduceIte, Nat.reduceEqDiff]))
 | ((with_reducible apply aw_skip); (try simp only [CT, ↓reduceIte, Nat.reduceEqDiff]))
 | ((with_reducible apply aw_ret); (try simp only [CT, ↓reduceIte, Nat.reduceEqDiff]))
 | ((with_reducible apply awO_y); (· rfl); (· rfl); (· decide); (· exact sv); (· exact sv))
 | ((with_reducible apply awO_n); (· rfl); (· rfl); (· decide); (· exact sv); (· rfl); (· rfl); (· decide))
 | ((with_reducible apply awO_u); (· rfl); (· rfl); (· exact svr); (· rfl); (· decide))
 | ((with_reducible apply aw_cond_true); (· exact sv))
 | ((with_reducible apply aw_cond_false); (· exact sv))
 | (refine Kont.go ‹Kont _ _ _ _› _ ?_)
 | ((with_reducible apply awO_un); (· rfl); (· decide); (· exact sv))
 | ((with_reducible apply awO_c); (· rfl); (· rfl); (· exact sv); (· (first | exact c0 | exact c1 | exact c2 | exact c3 | exact c4 | exact c5 | exact c6)); (· rfl); (· rfl); (· rfl); (· decide))
 | ((with_reducible apply awO_f); (· rfl); (· rfl); (· exact sv); (· exact sv); (· (first | exact c0 | exact c1 | exact c2 | exact c3 | exact c4 | exact c5 | exact c6)); (· rfl); (· rfl); (· decide))
 | ((with_reducible apply awO_m); (· rfl); (· rfl); (· exact sv); (· (first | exact c0 | exact c1 | exact c2 | exact c3 | exact c4 | exact c5 | exact c6)); (· exact svq); (· exact svq); (· exact svq); (· exact svq); (· rfl); (· exact nd); (with_reducible apply awO_st); (· exact svs))
 | ((with_reducible apply awO_pc1); (· rfl); (· exact sv); (· exact sv); (· (first | decide | omega | (simp only [elC_len, List.length_append, List.length_map, List.length_cons, List.length_nil]; omega) | (simp; done) | (simp; omega))); (· (first | rfl | exact svq)); (with_reducible apply awO_st); (· exact svs))
 | ((with_reducible apply awO_pc2); (· rfl); (· exact sv); (· exact sv); (· (first | decide | omega | (simp only [elC_len, List.length_append, List.length_map, List.length_cons, List.length_nil]; omega) | (simp; done) | (simp; omega))); (· (first | rfl | exact svq)); (with_reducible apply awO_st); (· exact svs))
 | ((with_reducible apply awO_guard); (· rfl); (· rfl); (· exact sv); all_goals (intro hg; (try simp only [Bool.not_true, Bool.not_false]); (try simp only [decide_eq_true_eq, decide_eq_false_iff_not, Bool.not_true, Bool.not_false, Bool.not_eq_true', Bool.not_eq_false', Bool.not_not, beq_eq_false_iff_ne, ne_eq, beq_iff_eq, decide_eq_decide] at hg); try (exfalso; omega)))
 | ((with_reducible apply aw_cond); (· exact sv); all_goals (intro hg; (try simp only [decide_eq_true_eq, decide_eq_false_iff_not, Bool.not_true, Bool.not_false, Bool.not_eq_true', Bool.not_eq_false', Bool.not_not, beq_eq_false_iff_ne, ne_eq, beq_iff_eq, decide_eq_decide] at hg); try (exfalso; omega)))
 | ((with_reducible apply retQ_mk); (· (first | exact .inr rfl | exact .inl rfl)); (· exact sv); (· exact sv); rotate_left; (· rfl))
 | ((with_reducible apply wk_id); (with_reducible apply retQ_mk); (· (first | exact .inr rfl | exact .inl rfl)); (· exact sv); (· exact sv); rotate_left; (· rfl))
 | ((try with_reducible apply wk_id); (with_reducible apply retQ_mk1); (· (first | exact .inr rfl | exact .inl rfl)); (· exact sv); (· exact sv); (· exact sv); (· exact sv); rotate_left; rotate_left; (· simp); (· rfl))
 | ((try with_reducible apply wk_id); (with_reducible apply retQ_mk2); (· (first | exact .inr rfl | exact .inl rfl)); (· exact sv); (· exact sv); (· exact sv); (· exact sv); (· exact sv); (· exact sv); rotate_left; rotate_left; rotate_left; (· simp); (· simp); (· rfl)))
      all_goals rfl
end Go.Proofs.Ytcplbbbjmalfjaa
