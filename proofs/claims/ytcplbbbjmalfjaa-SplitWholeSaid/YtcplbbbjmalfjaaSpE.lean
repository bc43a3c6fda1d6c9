/- split: Fields, on the abstract machine; sizes. -/
import Derived.Test.YtcplbbbjmalfjaaSpD
namespace Go.Proofs.Ytcplbbbjmalfjaa
open Go.RowKit
set_option linter.unusedVariables false
set_option linter.unusedSimpArgs false
set_option maxRecDepth 100000
set_option maxHeartbeats 8000000
theorem skW_drop (ifs : List UInt8) (L : List El) : ∃ m, m ≤ L.length ∧ skW ifs L = L.drop m := by
  induction L with
  | nil => exact ⟨0, by simp, rfl⟩
  | cons x r ih =>
    by_cases h : whB ifs x = true
    · obtain ⟨m, hm, e⟩ := ih
      refine ⟨m + 1, by simp; omega, ?_⟩
      rw [skW, List.dropWhile_cons, if_pos h]; exact e
    · exact ⟨0, by simp, by rw [skW, List.dropWhile_cons, if_neg h]; rfl⟩
theorem cat_skW (ifs : List UInt8) (L : List El) : (cat (skW ifs L)).length ≤ (cat L).length := by
  obtain ⟨m, _, e⟩ := skW_drop ifs L
  rw [e]; exact cat_drop_len L m
theorem fld_mem {f now : List El} (h : f ∈ fld now) : f = now := by
  unfold fld at h; split at h <;> simp_all
theorem fld_len (now : List El) : (fld now).length ≤ 1 := by unfold fld; split <;> simp
theorem divd_bd (ifs : List UInt8) : ∀ (n : Nat) (L now : List El), L.length ≤ n → (divd ifs L now).length ≤ L.length + 1 ∧ ∀ f ∈ divd ifs L now, f.length ≤ L.length + now.length ∧ (cat f).length ≤ (cat L).length + (cat now).length := by
  intro n
  induction n with
  | zero =>
    intro L now hL
    obtain rfl : L = [] := List.eq_nil_of_length_eq_zero (by omega)
    rw [divd]
    refine ⟨by have := fld_len now; simp; omega, fun f hf => ?_⟩
    rw [fld_mem hf]; exact ⟨by omega, by omega⟩
  | succ n ih =>
    intro L now hL
    cases L with
    | nil =>
      rw [divd]
      refine ⟨by have := fld_len now; simp; omega, fun f hf => ?_⟩
      rw [fld_mem hf]; exact ⟨by omega, by omega⟩
    | cons x r =>
      have hs := skW_le ifs r
      have hc := cat_skW ifs r
      have hf := fld_len now
      simp only [List.length_cons] at hL
      rw [divd]
      split
      · obtain ⟨a, b⟩ := ih r [] (by omega)
        refine ⟨by simp only [List.length_append, List.length_cons]; omega, fun f hf => ?_⟩
        rcases List.mem_append.1 hf with h | h
        · rw [fld_mem h]; exact ⟨by omega, by omega⟩
        · have := b f h; simp only [List.length_cons, cat, List.length_append, List.length_nil] at this ⊢; omega
      split
      · split
        · obtain ⟨a, b⟩ := ih (skW ifs r) now (by omega)
          refine ⟨by simp only [List.length_cons]; omega, fun f hf => ?_⟩
          have := b f hf; simp only [List.length_cons, cat, List.length_append] at this ⊢; omega
        · obtain ⟨a, b⟩ := ih (skW ifs r) [] (by omega)
          refine ⟨by simp only [List.length_append, List.length_cons]; omega, fun f hf => ?_⟩
          rcases List.mem_append.1 hf with h | h
          · rw [fld_mem h]; exact ⟨by omega, by omega⟩
          · have := b f h; simp only [List.length_cons, cat, List.length_append, List.length_nil] at this ⊢; omega
      split
      · obtain ⟨a, b⟩ := ih (skW ifs r) [] (by omega)
        refine ⟨by simp only [List.length_cons]; omega, fun f hf => ?_⟩
        rcases List.mem_cons.1 hf with h | h
        · rw [h]; exact ⟨by omega, by omega⟩
        · have := b f h; simp only [List.length_cons, cat, List.length_append, List.length_nil] at this ⊢; omega
      · obtain ⟨a, b⟩ := ih r (now ++ [x]) (by omega)
        refine ⟨by simp only [List.length_cons]; omega, fun f hf => ?_⟩
        have := b f hf
        rw [cat_append] at this
        simp only [List.length_cons, cat, List.length_append, List.length_nil] at this ⊢; omega
theorem cat_elemsOf (x : El) : (cat (elemsOf x)).length ≤ x.t.length := by
  have hm : ∀ (l : List UInt8) (k : Int), cat (l.map fun c => ⟨[c], k⟩) = l := fun l k => by
    induction l with
    | nil => rfl
    | cons c r ih => simp [cat, ih]
  unfold elemsOf
  (repeat' split) <;> simp [cat, hm]
theorem cat_elems (L : List El) : (cat (elems L)).length ≤ (cat L).length := by
  induction L with
  | nil => simp [elems, cat]
  | cons x r ih =>
    have := cat_elemsOf x
    simp only [elems, List.flatMap_cons, cat_append, cat, List.length_append] at ih ⊢
    omega
/-- The fields of runs. -/
def fieldsOf (L : List El) (ifs : List UInt8) : List (List El) := (divd ifs (elems L) []).map runsOf
abbrev flsA (F : List (List El)) : AV := .rd F.length (flsC F)
theorem map_take_succ {F : List (List El)} {i : Nat} (h : i < F.length) : (F.take (i + 1)).map runsOf = (F.take i).map runsOf ++ [runsOf F[i]] := by
  rw [List.take_succ_eq_append_getElem h, List.map_append]; rfl
theorem fields_ab (L : List El) (ifs : List UInt8) (hL : L.length ≤ 10000) (hc : (cat L).length ≤ 10000) : Ab Try.prog 12 [elsA L, az ifs] (flsA (fieldsOf L ifs)) := by
  have hel := elems_len L
  have hec := cat_elems L
  have c1 := elements_ab L hL hc
  have c2 := divide_ab (elems L) ifs (elems_ok L) (by omega)
  obtain ⟨b1, b2⟩ := divd_bd ifs _ (elems L) [] (Nat.le_refl _)
  unfold fieldsOf
  generalize divd ifs (elems L) [] = F at *
  have c3 : ∀ i (h : i < F.length), Ab Try.prog 28 [elsA F[i]] (elsA (runsOf F[i])) := fun i h => by
    have := b2 F[i] (List.getElem_mem h)
    simp only [cat, List.length_nil] at this
    exact runs_ab F[i] (by omega) (by omega)
  refine Fn_of_aw (keep := []) Try.func12 rfl rfl (by simp [Try.ntmps12]) ?_
  simp only [num_cons, num_nil, Try.ntmps12, Try.results12]
  repeat' (first
 | ((with_reducible apply awO_ev); (· rfl); (· exact sv))
 | ((with_reducible apply awO_eqnil); (· rfl); (· rfl); (· exact sv); (· exact sv); (· exact svp); (· rfl); (· exact nd); intro nb hnb; simp only [put_some])
 | ((with_reducible apply awO_neqnil); (· rfl); (· rfl); (· exact sv); (· exact sv); (· exact svp); (· rfl); (· exact nd); intro nb hnb; simp only [put_some])
 | ((with_reducible apply aw_seq); intro _ _)
 | ((with_reducible apply aw_region))
 | ((with_reducible apply aw_block))
 | ((with_reducible apply awO_nil); (try simp only [CT, ↓reduceIte, Nat.reduceEqDiff]))
 | ((with_reducible apply aw_exit); (try simp only [CT, ↓reduceIte, Nat.reduceEqDiff]))
 | ((with_reducible apply aw_skip); (try simp only [CT, ↓reduceIte, Nat.reduceEqDiff]))
 | ((with_reducible apply aw_ret); (try simp only [CT, ↓reduceIte, Nat.reduceEqDiff]))
 | ((with_reducible apply awO_y); (· rfl); (· rfl); (· decide); (· exact sv); (· exact sv))
 | ((with_reducible apply awO_n); (· rfl); (· rfl); (· decide); (· exact sv); (· rfl); (· rfl); (· decide))
 | ((with_reducible apply awO_u); (· rfl); (· rfl); (· exact svr); (· rfl); (· decide))
 | ((with_reducible apply aw_cond_true); (· exact sv))
 | ((with_reducible apply aw_cond_false); (· exact sv))
 | (refine Kont.go ‹Kont _ _ _ _› _ ?_)
 | ((with_reducible apply awO_un); (· rfl); (· decide); (· exact sv))
 | ((with_reducible apply awO_c); (· rfl); (· rfl); (· exact sv); (· (first | exact c1 | exact c2)); (· rfl); (· rfl); (· rfl); (· decide))
 | ((with_reducible apply awO_f); (· rfl); (· rfl); (· exact sv); (· exact sv); (· (first | exact c1 | exact c2)); (· rfl); (· rfl); (· decide))
 | ((with_reducible apply awO_m); (· rfl); (· rfl); (· exact sv); (· (first | exact c1 | exact c2)); (· exact svq); (· exact svq); (· exact svq); (· exact svq); (· rfl); (· exact nd); (with_reducible apply awO_st); (· exact svs))
 | ((with_reducible apply awO_guard); (· rfl); (· rfl); (· exact sv); all_goals (intro hg; (try simp only [Bool.not_true, Bool.not_false]); (try simp only [decide_eq_true_eq, decide_eq_false_iff_not, Bool.not_true, Bool.not_false, Bool.not_eq_true', Bool.not_eq_false', Bool.not_not, beq_eq_false_iff_ne, ne_eq, beq_iff_eq, decide_eq_decide] at hg); try (exfalso; omega)))
 | ((with_reducible apply aw_cond); (· exact sv); all_goals (intro hg; (try simp only [decide_eq_true_eq, decide_eq_false_iff_not, Bool.not_true, Bool.not_false, Bool.not_eq_true', Bool.not_eq_false', Bool.not_not, beq_eq_false_iff_ne, ne_eq, beq_iff_eq, decide_eq_decide] at hg); try (exfalso; omega)))
 | ((with_reducible apply retQ_mk); (· (first | exact .inr rfl | exact .inl rfl)); (· exact sv); (· exact sv); rotate_left; (· rfl))
 | ((with_reducible apply wk_id); (with_reducible apply retQ_mk); (· (first | exact .inr rfl | exact .inl rfl)); (· exact sv); (· exact sv); rotate_left; (· rfl))
 | ((try with_reducible apply wk_id); (with_reducible apply retQ_mk1); (· (first | exact .inr rfl | exact .inl rfl)); (· exact sv); (· exact sv); (· exact sv); (· exact sv); rotate_left; rotate_left; (· simp); (· rfl))
 | ((try with_reducible apply wk_id); (with_reducible apply retQ_mk2); (· (first | exact .inr rfl | exact .inl rfl)); (· exact sv); (· exact sv); (· exact sv); (· exact sv); (· exact sv); (· exact sv); rotate_left; rotate_left; rotate_left; (· simp); (· simp); (· rfl)))
  refine aw_virt 5 100 1 rfl (by omega) (by simp) ?_
  refine aw_st svs ?_
  refine aw_loopF (fun i : Nat => [(13, ai i), (5, .os 100 0 1 i)]) (fun i => [(100, flsC ((F.take i).map runsOf))]) (fun i => i ≤ F.length) (fun i => F.length - i) 0 (by omega) ?_ ?_ ?_
  · exact ⟨rfl, rfl, trivial⟩
  · exact ⟨rfl, trivial⟩
  intro i hi
  (simp only [LP, List.append_assoc, List.nil_append, List.cons_append, List.append_nil, List.contains_cons, List.contains_nil, Nat.reduceBEq, Bool.or_false, Bool.or_true, Bool.true_or, Bool.false_or, ↓reduceIte, Bool.false_eq_true])
  by_cases hil : i < F.length
  · have c4 := c3 i hil
    have e1 := map_take_succ hil
    repeat' (first
 | ((with_reducible apply awO_ev); (· rfl); (· exact sv))
 | ((with_reducible apply awO_eqnil); (· rfl); (· rfl); (· exact sv); (· exact sv); (· exact svp); (· rfl); (· exact nd); intro nb hnb; simp only [put_some])
 | ((with_reducible apply awO_neqnil); (· rfl); (· rfl); (· exact sv); (· exact sv); (· exact svp); (· rfl); (· exact nd); intro nb hnb; simp only [put_some])
 | ((with_reducible apply aw_seq); intro _ _)
 | ((with_reducible apply aw_region))
 | ((with_reducible apply aw_block))
 | ((with_reducible apply awO_nil); (try simp only [CT, ↓reduceIte, Nat.reduceEqDiff]))
 | ((with_reducible apply aw_exit); (try simp only [CT, ↓reduceIte, Nat.reduceEqDiff]))
 | ((with_reducible apply aw_skip); (try simp only [CT, ↓reduceIte, Nat.reduceEqDiff]))
 | ((with_reducible apply aw_ret); (try simp only [CT, ↓reduceIte, Nat.reduceEqDiff]))
 | ((with_reducible apply awO_y); (· rfl); (· rfl); (· decide); (· exact sv); (· exact sv))
 | ((with_reducible apply awO_n); (· rfl); (· rfl); (· decide); (· exact sv); (· rfl); (· rfl); (· decide))
 | ((with_reducible apply awO_u); (· rfl); (· rfl); (· exact svr); (· rfl); (· decide))
 | ((with_reducible apply aw_cond_true); (· exact sv))
 | ((with_reducible apply aw_cond_false); (· exact sv))
 | (refine Kont.go ‹Kont _ _ _ _› _ ?_)
 | ((with_reducible apply awO_un); (· rfl); (· decide); (· exact sv))
 | ((with_reducible apply awO_c); (· rfl); (· rfl); (· exact sv); (· (first | exact c4)); (· rfl); (· rfl); (· rfl); (· decide))
 | ((with_reducible apply awO_f); (· rfl); (· rfl); (· exact sv); (· exact sv); (· (first | exact c4)); (· rfl); (· rfl); (· decide))
 | ((with_reducible apply awO_m); (· rfl); (· rfl); (· exact sv); (· (first | exact c4)); (· exact svq); (· exact svq); (· exact svq); (· exact svq); (· rfl); (· exact nd); (with_reducible apply awO_st); (· exact svs))
 | ((with_reducible apply awO_guard); (· rfl); (· rfl); (· exact sv); all_goals (intro hg; (try simp only [Bool.not_true, Bool.not_false]); (try simp only [decide_eq_true_eq, decide_eq_false_iff_not, Bool.not_true, Bool.not_false, Bool.not_eq_true', Bool.not_eq_false', Bool.not_not, beq_eq_false_iff_ne, ne_eq, beq_iff_eq, decide_eq_decide] at hg); try (exfalso; omega)))
 | ((with_reducible apply aw_cond); (· exact sv); all_goals (intro hg; (try simp only [decide_eq_true_eq, decide_eq_false_iff_not, Bool.not_true, Bool.not_false, Bool.not_eq_true', Bool.not_eq_false', Bool.not_not, beq_eq_false_iff_ne, ne_eq, beq_iff_eq, decide_eq_decide] at hg); try (exfalso; omega)))
 | ((with_reducible apply retQ_mk); (· (first | exact .inr rfl | exact .inl rfl)); (· exact sv); (· exact sv); rotate_left; (· rfl))
 | ((with_reducible apply wk_id); (with_reducible apply retQ_mk); (· (first | exact .inr rfl | exact .inl rfl)); (· exact sv); (· exact sv); rotate_left; (· rfl))
 | ((try with_reducible apply wk_id); (with_reducible apply retQ_mk1); (· (first | exact .inr rfl | exact .inl rfl)); (· exact sv); (· exact sv); (· exact sv); (· exact sv); rotate_left; rotate_left; (· simp); (· rfl))
 | ((try with_reducible apply wk_id); (with_reducible apply retQ_mk2); (· (first | exact .inr rfl | exact .inl rfl)); (· exact sv); (· exact sv); (· exact sv); (· exact sv); (· exact sv); (· exact sv); rotate_left; rotate_left; rotate_left; (· simp); (· simp); (· rfl)))
    refine LE_mk (i + 1) ?_ ?_ ?_ sN ?_
    · omega
    · omega
    · exact ⟨rfl, rfl, trivial⟩
    · refine ⟨?_, trivial⟩
      show some _ = some _
      rw [e1]; simp [flsC]
  · have e1 : F.take i = F := List.take_of_length_le (by omega)
    have e2 : i = F.length := by omega
    rw [e1]
    repeat' (first
 | ((with_reducible apply awO_ev); (· rfl); (· exact sv))
 | ((with_reducible apply awO_eqnil); (· rfl); (· rfl); (· exact sv); (· exact sv); (· exact svp); (· rfl); (· exact nd); intro nb hnb; simp only [put_some])
 | ((with_reducible apply awO_neqnil); (· rfl); (· rfl); (· exact sv); (· exact sv); (· exact svp); (· rfl); (· exact nd); intro nb hnb; simp only [put_some])
 | ((with_reducible apply aw_seq); intro _ _)
 | ((with_reducible apply aw_region))
 | ((with_reducible apply aw_block))
 | ((with_reducible apply awO_nil); (try simp only [CT, ↓reduceIte, Nat.reduceEqDiff]))
 | ((with_reducible apply aw_exit); (try simp only [CT, ↓reduceIte, Nat.reduceEqDiff]))
 | ((with_reducible apply aw_skip); (try simp only [CT, ↓reduceIte, Nat.reduceEqDiff]))
 | ((with_reducible apply aw_ret); (try simp only [CT, ↓reduceIte, Nat.reduceEqDiff]))
 | ((with_reducible apply awO_y); (· rfl); (· rfl); (· decide); (· exact sv); (· exact sv))
 | ((with_reducible apply awO_n); (· rfl); (· rfl); (· decide); (· exact sv); (· rfl); (· rfl); (· decide))
 | ((with_reducible apply awO_u); (· rfl); (· rfl); (· exact svr); (· rfl); (· decide))
 | ((with_reducible apply aw_cond_true); (· exact sv))
 | ((with_reducible apply aw_cond_false); (· exact sv))
 | (refine Kont.go ‹Kont _ _ _ _› _ ?_)
 | ((with_reducible apply awO_un); (· rfl); (· decide); (· exact sv))
 | ((with_reducible apply awO_c); (· rfl); (· rfl); (· exact sv); (· (first | fail)); (· rfl); (· rfl); (· rfl); (· decide))
 | ((with_reducible apply awO_f); (· rfl); (· rfl); (· exact sv); (· exact sv); (· (first | fail)); (· rfl); (· rfl); (· decide))
 | ((with_reducible apply awO_m); (· rfl); (· rfl); (· exact sv); (· (first | fail)); (· exact svq); (· exact svq); (· exact svq); (· exact svq); (· rfl); (· exact nd); (with_reducible apply awO_st); (· exact svs))
 | ((with_reducible apply awO_guard); (· rfl); (· rfl); (· exact sv); all_goals (intro hg; (try simp only [Bool.not_true, Bool.not_false]); (try simp only [decide_eq_true_eq, decide_eq_false_iff_not, Bool.not_true, Bool.not_false, Bool.not_eq_true', Bool.not_eq_false', Bool.not_not, beq_eq_false_iff_ne, ne_eq, beq_iff_eq, decide_eq_decide] at hg); try (exfalso; omega)))
 | ((with_reducible apply aw_cond); (· exact sv); all_goals (intro hg; (try simp only [decide_eq_true_eq, decide_eq_false_iff_not, Bool.not_true, Bool.not_false, Bool.not_eq_true', Bool.not_eq_false', Bool.not_not, beq_eq_false_iff_ne, ne_eq, beq_iff_eq, decide_eq_decide] at hg); try (exfalso; omega)))
 | ((with_reducible apply retQ_mk); (· (first | exact .inr rfl | exact .inl rfl)); (· exact sv); (· exact sv); rotate_left; (· rfl))
 | ((with_reducible apply wk_id); (with_reducible apply retQ_mk); (· (first | exact .inr rfl | exact .inl rfl)); (· exact sv); (· exact sv); rotate_left; (· rfl))
 | ((try with_reducible apply wk_id); (with_reducible apply retQ_mk1); (· (first | exact .inr rfl | exact .inl rfl)); (· exact sv); (· exact sv); (· exact sv); (· exact sv); rotate_left; rotate_left; (· simp); (· rfl))
 | ((try with_reducible apply wk_id); (with_reducible apply retQ_mk2); (· (first | exact .inr rfl | exact .inl rfl)); (· exact sv); (· exact sv); (· exact sv); (· exact sv); (· exact sv); (· exact sv); rotate_left; rotate_left; rotate_left; (· simp); (· simp); (· rfl)))
    all_goals (rw [e2]; simp [flsA])
end Go.Proofs.Ytcplbbbjmalfjaa
