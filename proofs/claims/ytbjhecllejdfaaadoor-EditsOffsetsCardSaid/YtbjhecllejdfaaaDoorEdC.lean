/- Edits: Place, Lines and Offset, and the document's, on the abstract machine. -/
import Derived.Test.YtbjhecllejdfaaaDoorEdB
import Derived.Test.YtbjhecllejdfaaaDoorBldN
import Derived.Test.YtbjhecllejdfaaaDoorMgD
namespace Go.Proofs.YtbjhecllejdfaaaDoor
open Go.RowKit
set_option linter.unusedVariables false
set_option linter.unusedSimpArgs false
set_option maxRecDepth 100000
set_option maxHeartbeats 8000000
theorem ifI_lt {a b : Int} {α : Type} {x y : α} (h : a < b) : (if a < b then x else y) = x := if_pos h
theorem ifI_ge {a b : Int} {α : Type} {x y : α} (h : b ≤ a) : (if a < b then x else y) = y := if_neg (by omega)
theorem ifI_max {n : Nat} : (if (n : Int) > 0 then (n : Int) else 0) = n := by split <;> omega
attribute [go_sem] ifI_lt ifI_ge ifI_max
/-- An offset within a string. -/
def clA (n : Nat) (a : Int) : Nat := if a < 0 then 0 else if (n : Int) < a then n else a.toNat
theorem clA_le (n : Nat) (a : Int) : clA n a ≤ n := by unfold clA; (repeat' split) <;> omega
theorem clA_neg {n : Nat} {a : Int} (h : a < 0) : clA n a = 0 := if_pos h
theorem clA_big {n : Nat} {a : Int} (h : (n : Int) < a) : clA n a = n := by unfold clA; rw [if_neg (by omega), if_pos h]
theorem clA_in {n : Nat} {a : Int} (h0 : 0 ≤ a) (h : a ≤ n) : ((clA n a : Nat) : Int) = a := by unfold clA; rw [if_neg (by omega), if_neg (by omega)]; omega
theorem plc_stepN (s : List UInt8) (i : Nat) (h : i < s.length) : plc s (i + 1) = if s[i].toNat = 10 then ((plc s i).1 + 1, i + 1) else plc s i := by
  rw [plc_step s i h]
  by_cases hc : s[i] = 10
  · have h2 : s[i].toNat = 10 := by rw [hc]; rfl
    rw [if_pos hc, if_pos h2]
  · have h2 : ¬ s[i].toNat = 10 := fun e => hc (UInt8.toNat_inj.1 e)
    rw [if_neg hc, if_neg h2]
theorem plc_bd (s : List UInt8) : ∀ i, i ≤ s.length → (plc s i).1 ≤ i ∧ (plc s i).2 ≤ i
  | 0, _ => by rw [plc_zero]; exact ⟨Nat.le_refl _, Nat.le_refl _⟩
  | i + 1, h => by
    have := plc_bd s i (by omega)
    rw [plc_step s i (by omega)]
    split
    · exact ⟨by show _ + 1 ≤ _; omega, Nat.le_refl _⟩
    · omega
theorem placeF_fn (s : List UInt8) (i : Nat) (hi : i ≤ s.length) (hs : s.length ≤ 100000) :
    Fn Tryd.prog 27 [ai i, .pt 2 0, .pt 6 0, .pt 7 0] [(2, [az s]), (6, [ai 1]), (7, [ai 0])] (.tp []) [(2, [az s]), (6, [ai ((plc s i).1 + 1 : Nat)]), (7, [ai (plc s i).2])] [2, 6, 7] := by
  refine Fn_of_aw (keep := [2, 6, 7]) Tryd.func27 rfl rfl (by simp [Tryd.ntmps27]) ?_
  simp only [num_cons, num_nil, Tryd.ntmps27, Tryd.results27]
  repeat' (first
 | ((with_reducible apply awO_ev); (· rfl); (· exact sv))
 | ((with_reducible apply aw_seq); intro _ _)
 | (with_reducible apply aw_region)
 | (with_reducible apply aw_block)
 | ((first | (with_reducible apply awO_nil) | (with_reducible apply aw_exit) | (with_reducible apply aw_skip) | (with_reducible apply aw_ret)); (try simp only [CT, ↓reduceIte, Nat.reduceEqDiff]))
 | ((with_reducible apply awO_y); (· rfl); (· rfl); (· decide); (· exact sv); (· exact sv))
 | ((with_reducible apply awO_n); (· rfl); (· rfl); (· decide); (· exact sv); (· rfl); (· rfl); (· decide))
 | ((with_reducible apply awO_u); (· rfl); (· rfl); (· exact svr); (· rfl); (· decide))
 | ((with_reducible apply aw_cond_true); (· exact sv))
 | ((with_reducible apply aw_cond_false); (· exact sv))
 | ((with_reducible apply awO_un); (· rfl); (· decide); (· exact sv))
 | (refine Kont.go ‹Kont _ _ _ _› _ ?_)
 | ((first | ((with_reducible apply awO_guard); (· rfl); (· rfl); (· exact sv)) | ((with_reducible apply aw_cond); (· exact sv))); all_goals (intro hg; (try simp only [Bool.not_true, Bool.not_false]); (try simp only [decide_eq_true_eq, decide_eq_false_iff_not, Bool.not_true, Bool.not_false, Bool.not_eq_true', Bool.not_eq_false', Bool.not_not, beq_eq_false_iff_ne, ne_eq, beq_iff_eq, decide_eq_decide] at hg); try (exfalso; omega)))
 | ((with_reducible apply retQ_mk); (· (first | exact .inr rfl | exact .inl rfl)); (· exact sv); (· exact sv); rotate_left; (· rfl))
 | ((with_reducible apply wk_id); (with_reducible apply retQ_mk); (· (first | exact .inr rfl | exact .inl rfl)); (· exact sv); (· exact sv); rotate_left; (· rfl))
 | ((try with_reducible apply wk_id); (with_reducible apply retQ_mk1); (· (first | exact .inr rfl | exact .inl rfl)); (· exact sv); (· exact sv); (· exact sv); (· exact sv); rotate_left; rotate_left; (· simp); (· rfl))
 | ((try with_reducible apply wk_id); (with_reducible apply retQ_mk2); (· (first | exact .inr rfl | exact .inl rfl)); (· exact sv); (· exact sv); (· exact sv); (· exact sv); (· exact sv); (· exact sv); rotate_left; rotate_left; rotate_left; (· simp); (· simp); (· rfl)))
  refine aw_loopF (fun j : Nat => [(5, ai j)]) (fun j => [(2, [az s]), (6, [ai ((plc s j).1 + 1 : Nat)]), (7, [ai (plc s j).2])]) (fun j => j ≤ i) (fun j => i - j) 0 (by omega) ?_ ?_ ?_
  · exact ⟨rfl, trivial⟩
  · rw [plc_zero]
    exact ⟨rfl, rfl, rfl, trivial⟩
  intro j hj
  (simp only [LP, List.append_assoc, List.nil_append, List.cons_append, List.append_nil, List.contains_cons, List.contains_nil, Nat.reduceBEq, Bool.or_false, Bool.or_true, Bool.true_or, Bool.false_or, ↓reduceIte, Bool.false_eq_true])
  have hb := plc_bd s j (by omega)
  by_cases hjl : j < i
  · have e := plc_stepN s j (by omega)
    by_cases hc : s[j].toNat = 10
    · rw [if_pos hc] at e
      repeat' (first
 | ((with_reducible apply awO_ev); (· rfl); (· exact sv))
 | ((with_reducible apply aw_seq); intro _ _)
 | (with_reducible apply aw_region)
 | (with_reducible apply aw_block)
 | ((first | (with_reducible apply awO_nil) | (with_reducible apply aw_exit) | (with_reducible apply aw_skip) | (with_reducible apply aw_ret)); (try simp only [CT, ↓reduceIte, Nat.reduceEqDiff]))
 | ((with_reducible apply awO_y); (· rfl); (· rfl); (· decide); (· exact sv); (· exact sv))
 | ((with_reducible apply awO_n); (· rfl); (· rfl); (· decide); (· exact sv); (· rfl); (· rfl); (· decide))
 | ((with_reducible apply awO_u); (· rfl); (· rfl); (· exact svr); (· rfl); (· decide))
 | ((with_reducible apply aw_cond_true); (· exact sv))
 | ((with_reducible apply aw_cond_false); (· exact sv))
 | ((with_reducible apply awO_un); (· rfl); (· decide); (· exact sv))
 | (refine Kont.go ‹Kont _ _ _ _› _ ?_)
 | ((first | ((with_reducible apply awO_guard); (· rfl); (· rfl); (· exact sv)) | ((with_reducible apply aw_cond); (· exact sv))); all_goals (intro hg; (try simp only [Bool.not_true, Bool.not_false]); (try simp only [decide_eq_true_eq, decide_eq_false_iff_not, Bool.not_true, Bool.not_false, Bool.not_eq_true', Bool.not_eq_false', Bool.not_not, beq_eq_false_iff_ne, ne_eq, beq_iff_eq, decide_eq_decide] at hg); try (exfalso; omega)))
 | ((with_reducible apply retQ_mk); (· (first | exact .inr rfl | exact .inl rfl)); (· exact sv); (· exact sv); rotate_left; (· rfl))
 | ((with_reducible apply wk_id); (with_reducible apply retQ_mk); (· (first | exact .inr rfl | exact .inl rfl)); (· exact sv); (· exact sv); rotate_left; (· rfl))
 | ((try with_reducible apply wk_id); (with_reducible apply retQ_mk1); (· (first | exact .inr rfl | exact .inl rfl)); (· exact sv); (· exact sv); (· exact sv); (· exact sv); rotate_left; rotate_left; (· simp); (· rfl))
 | ((try with_reducible apply wk_id); (with_reducible apply retQ_mk2); (· (first | exact .inr rfl | exact .inl rfl)); (· exact sv); (· exact sv); (· exact sv); (· exact sv); (· exact sv); (· exact sv); rotate_left; rotate_left; rotate_left; (· simp); (· simp); (· rfl)))
      refine LE_mk (j + 1) ?_ ?_ sN sN ?_
      · omega
      · omega
      · rw [e]
        exact ⟨rfl, rfl, rfl, trivial⟩
    · rw [if_neg hc] at e
      repeat' (first
 | ((with_reducible apply awO_ev); (· rfl); (· exact sv))
 | ((with_reducible apply aw_seq); intro _ _)
 | (with_reducible apply aw_region)
 | (with_reducible apply aw_block)
 | ((first | (with_reducible apply awO_nil) | (with_reducible apply aw_exit) | (with_reducible apply aw_skip) | (with_reducible apply aw_ret)); (try simp only [CT, ↓reduceIte, Nat.reduceEqDiff]))
 | ((with_reducible apply awO_y); (· rfl); (· rfl); (· decide); (· exact sv); (· exact sv))
 | ((with_reducible apply awO_n); (· rfl); (· rfl); (· decide); (· exact sv); (· rfl); (· rfl); (· decide))
 | ((with_reducible apply awO_u); (· rfl); (· rfl); (· exact svr); (· rfl); (· decide))
 | ((with_reducible apply aw_cond_true); (· exact sv))
 | ((with_reducible apply aw_cond_false); (· exact sv))
 | ((with_reducible apply awO_un); (· rfl); (· decide); (· exact sv))
 | (refine Kont.go ‹Kont _ _ _ _› _ ?_)
 | ((first | ((with_reducible apply awO_guard); (· rfl); (· rfl); (· exact sv)) | ((with_reducible apply aw_cond); (· exact sv))); all_goals (intro hg; (try simp only [Bool.not_true, Bool.not_false]); (try simp only [decide_eq_true_eq, decide_eq_false_iff_not, Bool.not_true, Bool.not_false, Bool.not_eq_true', Bool.not_eq_false', Bool.not_not, beq_eq_false_iff_ne, ne_eq, beq_iff_eq, decide_eq_decide] at hg); try (exfalso; omega)))
 | ((with_reducible apply retQ_mk); (· (first | exact .inr rfl | exact .inl rfl)); (· exact sv); (· exact sv); rotate_left; (· rfl))
 | ((with_reducible apply wk_id); (with_reducible apply retQ_mk); (· (first | exact .inr rfl | exact .inl rfl)); (· exact sv); (· exact sv); rotate_left; (· rfl))
 | ((try with_reducible apply wk_id); (with_reducible apply retQ_mk1); (· (first | exact .inr rfl | exact .inl rfl)); (· exact sv); (· exact sv); (· exact sv); (· exact sv); rotate_left; rotate_left; (· simp); (· rfl))
 | ((try with_reducible apply wk_id); (with_reducible apply retQ_mk2); (· (first | exact .inr rfl | exact .inl rfl)); (· exact sv); (· exact sv); (· exact sv); (· exact sv); (· exact sv); (· exact sv); rotate_left; rotate_left; rotate_left; (· simp); (· simp); (· rfl)))
      refine LE_mk (j + 1) ?_ ?_ sN sN ?_
      · omega
      · omega
      · rw [e]
        exact ⟨rfl, rfl, rfl, trivial⟩
  · have e : i = j := by omega
    subst e
    repeat' (first
 | ((with_reducible apply awO_ev); (· rfl); (· exact sv))
 | ((with_reducible apply aw_seq); intro _ _)
 | (with_reducible apply aw_region)
 | (with_reducible apply aw_block)
 | ((first | (with_reducible apply awO_nil) | (with_reducible apply aw_exit) | (with_reducible apply aw_skip) | (with_reducible apply aw_ret)); (try simp only [CT, ↓reduceIte, Nat.reduceEqDiff]))
 | ((with_reducible apply awO_y); (· rfl); (· rfl); (· decide); (· exact sv); (· exact sv))
 | ((with_reducible apply awO_n); (· rfl); (· rfl); (· decide); (· exact sv); (· rfl); (· rfl); (· decide))
 | ((with_reducible apply awO_u); (· rfl); (· rfl); (· exact svr); (· rfl); (· decide))
 | ((with_reducible apply aw_cond_true); (· exact sv))
 | ((with_reducible apply aw_cond_false); (· exact sv))
 | ((with_reducible apply awO_un); (· rfl); (· decide); (· exact sv))
 | (refine Kont.go ‹Kont _ _ _ _› _ ?_)
 | ((first | ((with_reducible apply awO_guard); (· rfl); (· rfl); (· exact sv)) | ((with_reducible apply aw_cond); (· exact sv))); all_goals (intro hg; (try simp only [Bool.not_true, Bool.not_false]); (try simp only [decide_eq_true_eq, decide_eq_false_iff_not, Bool.not_true, Bool.not_false, Bool.not_eq_true', Bool.not_eq_false', Bool.not_not, beq_eq_false_iff_ne, ne_eq, beq_iff_eq, decide_eq_decide] at hg); try (exfalso; omega)))
 | ((with_reducible apply retQ_mk); (· (first | exact .inr rfl | exact .inl rfl)); (· exact sv); (· exact sv); rotate_left; (· rfl))
 | ((with_reducible apply wk_id); (with_reducible apply retQ_mk); (· (first | exact .inr rfl | exact .inl rfl)); (· exact sv); (· exact sv); rotate_left; (· rfl))
 | ((try with_reducible apply wk_id); (with_reducible apply retQ_mk1); (· (first | exact .inr rfl | exact .inl rfl)); (· exact sv); (· exact sv); (· exact sv); (· exact sv); rotate_left; rotate_left; (· simp); (· rfl))
 | ((try with_reducible apply wk_id); (with_reducible apply retQ_mk2); (· (first | exact .inr rfl | exact .inl rfl)); (· exact sv); (· exact sv); (· exact sv); (· exact sv); (· exact sv); (· exact sv); rotate_left; rotate_left; rotate_left; (· simp); (· simp); (· rfl)))
    all_goals exact retQ_mkL (.inl rfl) rfl rfl rfl ⟨⟨by simp, rfl⟩, ⟨by simp, rfl⟩, ⟨by simp, rfl⟩, trivial⟩ rfl
/-- Line and column. -/
def lc (s : List UInt8) (a : Int) : AV := .tp [ai ((plc s (clA s.length a)).1 + 1 : Nat), ai ((clA s.length a - (plc s (clA s.length a)).2 + 1 : Nat) : Int)]
theorem lc_eq {s : List UInt8} {i : Nat} (h : i ≤ s.length) : AV.tp [ai ((plc s i).1 + 1 : Nat), ai ((i : Int) - ((plc s i).2 : Nat) + 1)] = .tp [ai ((plc s i).1 + 1 : Nat), ai ((i - (plc s i).2 + 1 : Nat) : Int)] := by
  have := plc_bd s i h
  congr 4
  omega
theorem place_ab (s : List UInt8) (a : Int) (hs : s.length ≤ 100000) : Ab Tryd.prog 11 [az s, ai a] (lc s a) := by
  have hl := clA_le s.length a
  have hb := plc_bd s _ hl
  have c1 := placeF_fn s _ hl hs
  unfold lc
  rw [← lc_eq hl]
  by_cases h0 : a < 0
  · rw [clA_neg h0] at *
    refine Fn_of_aw (keep := []) Tryd.func11 rfl rfl (by simp [Tryd.ntmps11]) ?_
    simp only [num_cons, num_nil, Tryd.ntmps11, Tryd.results11]
    repeat' (first
 | ((with_reducible apply awO_ev); (· rfl); (· exact sv))
 | ((with_reducible apply aw_seq); intro _ _)
 | (with_reducible apply aw_region)
 | (with_reducible apply aw_block)
 | ((first | (with_reducible apply awO_nil) | (with_reducible apply aw_exit) | (with_reducible apply aw_skip) | (with_reducible apply aw_ret)); (try simp only [CT, ↓reduceIte, Nat.reduceEqDiff]))
 | ((with_reducible apply awO_y); (· rfl); (· rfl); (· decide); (· exact sv); (· exact sv))
 | ((with_reducible apply awO_n); (· rfl); (· rfl); (· decide); (· exact sv); (· rfl); (· rfl); (· decide))
 | ((with_reducible apply awO_u); (· rfl); (· rfl); (· exact svr); (· rfl); (· decide))
 | ((with_reducible apply aw_cond_true); (· exact sv))
 | ((with_reducible apply aw_cond_false); (· exact sv))
 | ((with_reducible apply awO_un); (· rfl); (· decide); (· exact sv))
 | (refine Kont.go ‹Kont _ _ _ _› _ ?_)
 | ((with_reducible apply awO_c); (· rfl); (· rfl); (· exact sv); (· (first | exact c1)); (· rfl); (· rfl); (· rfl); (· decide))
 | ((with_reducible apply awO_f); (· rfl); (· rfl); (· exact sv); (· exact sv); (· (first | exact c1)); (· rfl); (· rfl); (· decide))
 | ((with_reducible apply awO_m); (· rfl); (· rfl); (· exact sv); (· (first | exact c1)); (· exact svq); (· exact svq); (· exact svq); (· exact svq); (· rfl); (· exact nd); (with_reducible apply awO_st); (· exact svs))
 | ((with_reducible apply awO_k); (· rfl); (· rfl); (· exact sv); (· exact sv); (· (first | exact c1)); (· exact svq); (· exact svq); (· exact svq); (· exact svq); (· rfl); (· exact nd); (with_reducible apply awO_st); (· exact svs))
 | ((with_reducible apply aw_draw); (· decide +kernel); (simp only [List.size_toArray, List.length_cons, List.length_nil, Nat.reduceAdd]))
 | ((with_reducible apply awY_done); (· decide +kernel); (try simp only [CT, ↓reduceIte, Nat.reduceEqDiff]))
 | ((with_reducible apply awY_q); (· exact sQ); (· exact np); (· exact svg); (· rfl); (· exact sv))
 | ((with_reducible apply awY_qy); (· exact sQ); (· exact np); (· exact svg); (· rfl); (· rfl); (· exact nd); (· exact sv); (· exact sv))
 | ((with_reducible apply awY_qn); (· exact sQ); (· exact np); (· exact svg); (· rfl); (· rfl); (· exact nd); (· exact sv); (· rfl); (· rfl); (· exact nd); simp only [put_some])
 | ((with_reducible apply awY_qu); (· exact sQ); (· exact np); (· exact svg); (· rfl); (· rfl); (· exact svr); (· rfl); (· exact nd); simp only [put_some])
 | ((with_reducible apply awY_tn); (· exact sT); (· exact np); (· exact svg); (· rfl); (· rfl); (· exact nd); (· exact sv); (· rfl); (· rfl); (· exact nd); simp only [put_some])
 | ((with_reducible apply awY_tu); (· exact sT); (· exact np); (· exact svg); (· rfl); (· rfl); (· exact svr); (· rfl); (· exact nd); simp only [put_some])
 | ((with_reducible apply endQ_rfl))
 | ((with_reducible apply endQ_sub); (· exact sE); (· exact sN))
 | ((with_reducible apply awI_ev); (· exact svg); (· rfl); (· exact sv))
 | ((with_reducible apply awI_c); (· exact svg); (· rfl); (· rfl); (· exact sv); (· (first | exact c1)); (· rfl); (· rfl); (· rfl); (· exact nd); simp only [put_some])
 | ((with_reducible apply awI_f); (· exact svg); (· rfl); (· rfl); (· exact sv); (· exact sv); (· (first | exact c1)); (· rfl); (· rfl); (· exact nd); simp only [put_some])
 | ((with_reducible apply awI_cy); (· exact svg); (· rfl); (· rfl); (· exact nd); (· exact sv); (· rfl); (· exact sv); (· (first | exact c1)); (· rfl); (· rfl); (· rfl); (· exact nd); simp only [put_some])
 | ((with_reducible apply awI_fy); (· exact svg); (· rfl); (· rfl); (· exact nd); (· exact sv); (· rfl); (· exact sv); (· exact sv); (· (first | exact c1)); (· rfl); (· rfl); (· exact nd); simp only [put_some])
 | ((first | ((with_reducible apply awO_guard); (· rfl); (· rfl); (· exact sv)) | ((with_reducible apply aw_cond); (· exact sv))); all_goals (intro hg; (try simp only [Bool.not_true, Bool.not_false]); (try simp only [decide_eq_true_eq, decide_eq_false_iff_not, Bool.not_true, Bool.not_false, Bool.not_eq_true', Bool.not_eq_false', Bool.not_not, beq_eq_false_iff_ne, ne_eq, beq_iff_eq, decide_eq_decide] at hg); try (exfalso; omega)))
 | ((with_reducible apply awY_guard); (· exact sR); (· exact svg); (· rfl); (· rfl); (· exact svl); all_goals (intro hg; (try simp only [Bool.not_true, Bool.not_false]); (try simp only [decide_eq_true_eq, decide_eq_false_iff_not, Bool.not_true, Bool.not_false, Bool.not_eq_true', Bool.not_eq_false', Bool.not_not, beq_eq_false_iff_ne, ne_eq, beq_iff_eq, decide_eq_decide] at hg); try (exfalso; omega)))
 | ((with_reducible apply retQ_mk); (· (first | exact .inr rfl | exact .inl rfl)); (· exact sv); (· exact sv); rotate_left; (· rfl))
 | ((with_reducible apply awY_p); (· exact sH); (first | ((with_reducible apply awP_1); (· decide +kernel)) | ((with_reducible apply awP_2); (· exact sP)))))
    all_goals rfl
  · by_cases h1 : (s.length : Int) < a
    · rw [clA_big h1] at *
      refine Fn_of_aw (keep := []) Tryd.func11 rfl rfl (by simp [Tryd.ntmps11]) ?_
      simp only [num_cons, num_nil, Tryd.ntmps11, Tryd.results11]
      repeat' (first
 | ((with_reducible apply awO_ev); (· rfl); (· exact sv))
 | ((with_reducible apply aw_seq); intro _ _)
 | (with_reducible apply aw_region)
 | (with_reducible apply aw_block)
 | ((first | (with_reducible apply awO_nil) | (with_reducible apply aw_exit) | (with_reducible apply aw_skip) | (with_reducible apply aw_ret)); (try simp only [CT, ↓reduceIte, Nat.reduceEqDiff]))
 | ((with_reducible apply awO_y); (· rfl); (· rfl); (· decide); (· exact sv); (· exact sv))
 | ((with_reducible apply awO_n); (· rfl); (· rfl); (· decide); (· exact sv); (· rfl); (· rfl); (· decide))
 | ((with_reducible apply awO_u); (· rfl); (· rfl); (· exact svr); (· rfl); (· decide))
 | ((with_reducible apply aw_cond_true); (· exact sv))
 | ((with_reducible apply aw_cond_false); (· exact sv))
 | ((with_reducible apply awO_un); (· rfl); (· decide); (· exact sv))
 | (refine Kont.go ‹Kont _ _ _ _› _ ?_)
 | ((with_reducible apply awO_c); (· rfl); (· rfl); (· exact sv); (· (first | exact c1)); (· rfl); (· rfl); (· rfl); (· decide))
 | ((with_reducible apply awO_f); (· rfl); (· rfl); (· exact sv); (· exact sv); (· (first | exact c1)); (· rfl); (· rfl); (· decide))
 | ((with_reducible apply awO_m); (· rfl); (· rfl); (· exact sv); (· (first | exact c1)); (· exact svq); (· exact svq); (· exact svq); (· exact svq); (· rfl); (· exact nd); (with_reducible apply awO_st); (· exact svs))
 | ((with_reducible apply awO_k); (· rfl); (· rfl); (· exact sv); (· exact sv); (· (first | exact c1)); (· exact svq); (· exact svq); (· exact svq); (· exact svq); (· rfl); (· exact nd); (with_reducible apply awO_st); (· exact svs))
 | ((with_reducible apply aw_draw); (· decide +kernel); (simp only [List.size_toArray, List.length_cons, List.length_nil, Nat.reduceAdd]))
 | ((with_reducible apply awY_done); (· decide +kernel); (try simp only [CT, ↓reduceIte, Nat.reduceEqDiff]))
 | ((with_reducible apply awY_q); (· exact sQ); (· exact np); (· exact svg); (· rfl); (· exact sv))
 | ((with_reducible apply awY_qy); (· exact sQ); (· exact np); (· exact svg); (· rfl); (· rfl); (· exact nd); (· exact sv); (· exact sv))
 | ((with_reducible apply awY_qn); (· exact sQ); (· exact np); (· exact svg); (· rfl); (· rfl); (· exact nd); (· exact sv); (· rfl); (· rfl); (· exact nd); simp only [put_some])
 | ((with_reducible apply awY_qu); (· exact sQ); (· exact np); (· exact svg); (· rfl); (· rfl); (· exact svr); (· rfl); (· exact nd); simp only [put_some])
 | ((with_reducible apply awY_tn); (· exact sT); (· exact np); (· exact svg); (· rfl); (· rfl); (· exact nd); (· exact sv); (· rfl); (· rfl); (· exact nd); simp only [put_some])
 | ((with_reducible apply awY_tu); (· exact sT); (· exact np); (· exact svg); (· rfl); (· rfl); (· exact svr); (· rfl); (· exact nd); simp only [put_some])
 | ((with_reducible apply endQ_rfl))
 | ((with_reducible apply endQ_sub); (· exact sE); (· exact sN))
 | ((with_reducible apply awI_ev); (· exact svg); (· rfl); (· exact sv))
 | ((with_reducible apply awI_c); (· exact svg); (· rfl); (· rfl); (· exact sv); (· (first | exact c1)); (· rfl); (· rfl); (· rfl); (· exact nd); simp only [put_some])
 | ((with_reducible apply awI_f); (· exact svg); (· rfl); (· rfl); (· exact sv); (· exact sv); (· (first | exact c1)); (· rfl); (· rfl); (· exact nd); simp only [put_some])
 | ((with_reducible apply awI_cy); (· exact svg); (· rfl); (· rfl); (· exact nd); (· exact sv); (· rfl); (· exact sv); (· (first | exact c1)); (· rfl); (· rfl); (· rfl); (· exact nd); simp only [put_some])
 | ((with_reducible apply awI_fy); (· exact svg); (· rfl); (· rfl); (· exact nd); (· exact sv); (· rfl); (· exact sv); (· exact sv); (· (first | exact c1)); (· rfl); (· rfl); (· exact nd); simp only [put_some])
 | ((first | ((with_reducible apply awO_guard); (· rfl); (· rfl); (· exact sv)) | ((with_reducible apply aw_cond); (· exact sv))); all_goals (intro hg; (try simp only [Bool.not_true, Bool.not_false]); (try simp only [decide_eq_true_eq, decide_eq_false_iff_not, Bool.not_true, Bool.not_false, Bool.not_eq_true', Bool.not_eq_false', Bool.not_not, beq_eq_false_iff_ne, ne_eq, beq_iff_eq, decide_eq_decide] at hg); try (exfalso; omega)))
 | ((with_reducible apply awY_guard); (· exact sR); (· exact svg); (· rfl); (· rfl); (· exact svl); all_goals (intro hg; (try simp only [Bool.not_true, Bool.not_false]); (try simp only [decide_eq_true_eq, decide_eq_false_iff_not, Bool.not_true, Bool.not_false, Bool.not_eq_true', Bool.not_eq_false', Bool.not_not, beq_eq_false_iff_ne, ne_eq, beq_iff_eq, decide_eq_decide] at hg); try (exfalso; omega)))
 | ((with_reducible apply retQ_mk); (· (first | exact .inr rfl | exact .inl rfl)); (· exact sv); (· exact sv); rotate_left; (· rfl))
 | ((with_reducible apply awY_p); (· exact sH); (first | ((with_reducible apply awP_1); (· decide +kernel)) | ((with_reducible apply awP_2); (· exact sP)))))
      all_goals rfl
    · have e := clA_in (n := s.length) (a := a) (by omega) (by omega)
      generalize clA s.length a = i at *
      subst e
      refine Fn_of_aw (keep := []) Tryd.func11 rfl rfl (by simp [Tryd.ntmps11]) ?_
      simp only [num_cons, num_nil, Tryd.ntmps11, Tryd.results11]
      repeat' (first
 | ((with_reducible apply awO_ev); (· rfl); (· exact sv))
 | ((with_reducible apply aw_seq); intro _ _)
 | (with_reducible apply aw_region)
 | (with_reducible apply aw_block)
 | ((first | (with_reducible apply awO_nil) | (with_reducible apply aw_exit) | (with_reducible apply aw_skip) | (with_reducible apply aw_ret)); (try simp only [CT, ↓reduceIte, Nat.reduceEqDiff]))
 | ((with_reducible apply awO_y); (· rfl); (· rfl); (· decide); (· exact sv); (· exact sv))
 | ((with_reducible apply awO_n); (· rfl); (· rfl); (· decide); (· exact sv); (· rfl); (· rfl); (· decide))
 | ((with_reducible apply awO_u); (· rfl); (· rfl); (· exact svr); (· rfl); (· decide))
 | ((with_reducible apply aw_cond_true); (· exact sv))
 | ((with_reducible apply aw_cond_false); (· exact sv))
 | ((with_reducible apply awO_un); (· rfl); (· decide); (· exact sv))
 | (refine Kont.go ‹Kont _ _ _ _› _ ?_)
 | ((with_reducible apply awO_c); (· rfl); (· rfl); (· exact sv); (· (first | exact c1)); (· rfl); (· rfl); (· rfl); (· decide))
 | ((with_reducible apply awO_f); (· rfl); (· rfl); (· exact sv); (· exact sv); (· (first | exact c1)); (· rfl); (· rfl); (· decide))
 | ((with_reducible apply awO_m); (· rfl); (· rfl); (· exact sv); (· (first | exact c1)); (· exact svq); (· exact svq); (· exact svq); (· exact svq); (· rfl); (· exact nd); (with_reducible apply awO_st); (· exact svs))
 | ((with_reducible apply awO_k); (· rfl); (· rfl); (· exact sv); (· exact sv); (· (first | exact c1)); (· exact svq); (· exact svq); (· exact svq); (· exact svq); (· rfl); (· exact nd); (with_reducible apply awO_st); (· exact svs))
 | ((with_reducible apply aw_draw); (· decide +kernel); (simp only [List.size_toArray, List.length_cons, List.length_nil, Nat.reduceAdd]))
 | ((with_reducible apply awY_done); (· decide +kernel); (try simp only [CT, ↓reduceIte, Nat.reduceEqDiff]))
 | ((with_reducible apply awY_q); (· exact sQ); (· exact np); (· exact svg); (· rfl); (· exact sv))
 | ((with_reducible apply awY_qy); (· exact sQ); (· exact np); (· exact svg); (· rfl); (· rfl); (· exact nd); (· exact sv); (· exact sv))
 | ((with_reducible apply awY_qn); (· exact sQ); (· exact np); (· exact svg); (· rfl); (· rfl); (· exact nd); (· exact sv); (· rfl); (· rfl); (· exact nd); simp only [put_some])
 | ((with_reducible apply awY_qu); (· exact sQ); (· exact np); (· exact svg); (· rfl); (· rfl); (· exact svr); (· rfl); (· exact nd); simp only [put_some])
 | ((with_reducible apply awY_tn); (· exact sT); (· exact np); (· exact svg); (· rfl); (· rfl); (· exact nd); (· exact sv); (· rfl); (· rfl); (· exact nd); simp only [put_some])
 | ((with_reducible apply awY_tu); (· exact sT); (· exact np); (· exact svg); (· rfl); (· rfl); (· exact svr); (· rfl); (· exact nd); simp only [put_some])
 | ((with_reducible apply endQ_rfl))
 | ((with_reducible apply endQ_sub); (· exact sE); (· exact sN))
 | ((with_reducible apply awI_ev); (· exact svg); (· rfl); (· exact sv))
 | ((with_reducible apply awI_c); (· exact svg); (· rfl); (· rfl); (· exact sv); (· (first | exact c1)); (· rfl); (· rfl); (· rfl); (· exact nd); simp only [put_some])
 | ((with_reducible apply awI_f); (· exact svg); (· rfl); (· rfl); (· exact sv); (· exact sv); (· (first | exact c1)); (· rfl); (· rfl); (· exact nd); simp only [put_some])
 | ((with_reducible apply awI_cy); (· exact svg); (· rfl); (· rfl); (· exact nd); (· exact sv); (· rfl); (· exact sv); (· (first | exact c1)); (· rfl); (· rfl); (· rfl); (· exact nd); simp only [put_some])
 | ((with_reducible apply awI_fy); (· exact svg); (· rfl); (· rfl); (· exact nd); (· exact sv); (· rfl); (· exact sv); (· exact sv); (· (first | exact c1)); (· rfl); (· rfl); (· exact nd); simp only [put_some])
 | ((first | ((with_reducible apply awO_guard); (· rfl); (· rfl); (· exact sv)) | ((with_reducible apply aw_cond); (· exact sv))); all_goals (intro hg; (try simp only [Bool.not_true, Bool.not_false]); (try simp only [decide_eq_true_eq, decide_eq_false_iff_not, Bool.not_true, Bool.not_false, Bool.not_eq_true', Bool.not_eq_false', Bool.not_not, beq_eq_false_iff_ne, ne_eq, beq_iff_eq, decide_eq_decide] at hg); try (exfalso; omega)))
 | ((with_reducible apply awY_guard); (· exact sR); (· exact svg); (· rfl); (· rfl); (· exact svl); all_goals (intro hg; (try simp only [Bool.not_true, Bool.not_false]); (try simp only [decide_eq_true_eq, decide_eq_false_iff_not, Bool.not_true, Bool.not_false, Bool.not_eq_true', Bool.not_eq_false', Bool.not_not, beq_eq_false_iff_ne, ne_eq, beq_iff_eq, decide_eq_decide] at hg); try (exfalso; omega)))
 | ((with_reducible apply retQ_mk); (· (first | exact .inr rfl | exact .inl rfl)); (· exact sv); (· exact sv); rotate_left; (· rfl))
 | ((with_reducible apply awY_p); (· exact sH); (first | ((with_reducible apply awP_1); (· decide +kernel)) | ((with_reducible apply awP_2); (· exact sP)))))
      all_goals rfl
theorem limited_ab (n : Nat) (a : Int) : Ab Tryd.prog 28 [ai a, ai n] (ai (clA n a)) := by
  by_cases h0 : a < 0
  · rw [clA_neg h0]
    refine Fn_of_aw (keep := []) Tryd.func28 rfl rfl (by simp [Tryd.ntmps28]) ?_
    simp only [num_cons, num_nil, Tryd.ntmps28, Tryd.results28]
    repeat' (first
 | ((with_reducible apply awO_ev); (· rfl); (· exact sv))
 | ((with_reducible apply aw_seq); intro _ _)
 | (with_reducible apply aw_region)
 | (with_reducible apply aw_block)
 | ((first | (with_reducible apply awO_nil) | (with_reducible apply aw_exit) | (with_reducible apply aw_skip) | (with_reducible apply aw_ret)); (try simp only [CT, ↓reduceIte, Nat.reduceEqDiff]))
 | ((with_reducible apply awO_y); (· rfl); (· rfl); (· decide); (· exact sv); (· exact sv))
 | ((with_reducible apply awO_n); (· rfl); (· rfl); (· decide); (· exact sv); (· rfl); (· rfl); (· decide))
 | ((with_reducible apply awO_u); (· rfl); (· rfl); (· exact svr); (· rfl); (· decide))
 | ((with_reducible apply aw_cond_true); (· exact sv))
 | ((with_reducible apply aw_cond_false); (· exact sv))
 | ((with_reducible apply awO_un); (· rfl); (· decide); (· exact sv))
 | (refine Kont.go ‹Kont _ _ _ _› _ ?_)
 | ((first | ((with_reducible apply awO_guard); (· rfl); (· rfl); (· exact sv)) | ((with_reducible apply aw_cond); (· exact sv))); all_goals (intro hg; (try simp only [Bool.not_true, Bool.not_false]); (try simp only [decide_eq_true_eq, decide_eq_false_iff_not, Bool.not_true, Bool.not_false, Bool.not_eq_true', Bool.not_eq_false', Bool.not_not, beq_eq_false_iff_ne, ne_eq, beq_iff_eq, decide_eq_decide] at hg); try (exfalso; omega)))
 | ((with_reducible apply retQ_mk); (· (first | exact .inr rfl | exact .inl rfl)); (· exact sv); (· exact sv); rotate_left; (· rfl)))
    all_goals rfl
  · by_cases h1 : (n : Int) < a
    · rw [clA_big h1]
      refine Fn_of_aw (keep := []) Tryd.func28 rfl rfl (by simp [Tryd.ntmps28]) ?_
      simp only [num_cons, num_nil, Tryd.ntmps28, Tryd.results28]
      repeat' (first
 | ((with_reducible apply awO_ev); (· rfl); (· exact sv))
 | ((with_reducible apply aw_seq); intro _ _)
 | (with_reducible apply aw_region)
 | (with_reducible apply aw_block)
 | ((first | (with_reducible apply awO_nil) | (with_reducible apply aw_exit) | (with_reducible apply aw_skip) | (with_reducible apply aw_ret)); (try simp only [CT, ↓reduceIte, Nat.reduceEqDiff]))
 | ((with_reducible apply awO_y); (· rfl); (· rfl); (· decide); (· exact sv); (· exact sv))
 | ((with_reducible apply awO_n); (· rfl); (· rfl); (· decide); (· exact sv); (· rfl); (· rfl); (· decide))
 | ((with_reducible apply awO_u); (· rfl); (· rfl); (· exact svr); (· rfl); (· decide))
 | ((with_reducible apply aw_cond_true); (· exact sv))
 | ((with_reducible apply aw_cond_false); (· exact sv))
 | ((with_reducible apply awO_un); (· rfl); (· decide); (· exact sv))
 | (refine Kont.go ‹Kont _ _ _ _› _ ?_)
 | ((first | ((with_reducible apply awO_guard); (· rfl); (· rfl); (· exact sv)) | ((with_reducible apply aw_cond); (· exact sv))); all_goals (intro hg; (try simp only [Bool.not_true, Bool.not_false]); (try simp only [decide_eq_true_eq, decide_eq_false_iff_not, Bool.not_true, Bool.not_false, Bool.not_eq_true', Bool.not_eq_false', Bool.not_not, beq_eq_false_iff_ne, ne_eq, beq_iff_eq, decide_eq_decide] at hg); try (exfalso; omega)))
 | ((with_reducible apply retQ_mk); (· (first | exact .inr rfl | exact .inl rfl)); (· exact sv); (· exact sv); rotate_left; (· rfl)))
      all_goals rfl
    · have e := clA_in (n := n) (a := a) (by omega) (by omega)
      generalize clA n a = i at *
      subst e
      refine Fn_of_aw (keep := []) Tryd.func28 rfl rfl (by simp [Tryd.ntmps28]) ?_
      simp only [num_cons, num_nil, Tryd.ntmps28, Tryd.results28]
      repeat' (first
 | ((with_reducible apply awO_ev); (· rfl); (· exact sv))
 | ((with_reducible apply aw_seq); intro _ _)
 | (with_reducible apply aw_region)
 | (with_reducible apply aw_block)
 | ((first | (with_reducible apply awO_nil) | (with_reducible apply aw_exit) | (with_reducible apply aw_skip) | (with_reducible apply aw_ret)); (try simp only [CT, ↓reduceIte, Nat.reduceEqDiff]))
 | ((with_reducible apply awO_y); (· rfl); (· rfl); (· decide); (· exact sv); (· exact sv))
 | ((with_reducible apply awO_n); (· rfl); (· rfl); (· decide); (· exact sv); (· rfl); (· rfl); (· decide))
 | ((with_reducible apply awO_u); (· rfl); (· rfl); (· exact svr); (· rfl); (· decide))
 | ((with_reducible apply aw_cond_true); (· exact sv))
 | ((with_reducible apply aw_cond_false); (· exact sv))
 | ((with_reducible apply awO_un); (· rfl); (· decide); (· exact sv))
 | (refine Kont.go ‹Kont _ _ _ _› _ ?_)
 | ((first | ((with_reducible apply awO_guard); (· rfl); (· rfl); (· exact sv)) | ((with_reducible apply aw_cond); (· exact sv))); all_goals (intro hg; (try simp only [Bool.not_true, Bool.not_false]); (try simp only [decide_eq_true_eq, decide_eq_false_iff_not, Bool.not_true, Bool.not_false, Bool.not_eq_true', Bool.not_eq_false', Bool.not_not, beq_eq_false_iff_ne, ne_eq, beq_iff_eq, decide_eq_decide] at hg); try (exfalso; omega)))
 | ((with_reducible apply retQ_mk); (· (first | exact .inr rfl | exact .inl rfl)); (· exact sv); (· exact sv); rotate_left; (· rfl)))
      all_goals rfl
theorem rplace_ab (s : List UInt8) (a : Int) (hs : s.length ≤ 100000) : Ab Tryd.prog 12 [az s, ai a] (lc s a) := by
  have hl := clA_le s.length a
  have c1 := limited_ab s.length a
  unfold lc
  rw [← lc_eq hl]
  generalize clA s.length a = i at *
  refine Fn_of_aw (keep := []) Tryd.func12 rfl rfl (by simp [Tryd.ntmps12]) ?_
  simp only [num_cons, num_nil, Tryd.ntmps12, Tryd.results12]
  repeat' (first
 | ((with_reducible apply awO_ev); (· rfl); (· exact sv))
 | ((with_reducible apply aw_seq); intro _ _)
 | (with_reducible apply aw_region)
 | (with_reducible apply aw_block)
 | ((first | (with_reducible apply awO_nil) | (with_reducible apply aw_exit) | (with_reducible apply aw_skip) | (with_reducible apply aw_ret)); (try simp only [CT, ↓reduceIte, Nat.reduceEqDiff]))
 | ((with_reducible apply awO_y); (· rfl); (· rfl); (· decide); (· exact sv); (· exact sv))
 | ((with_reducible apply awO_n); (· rfl); (· rfl); (· decide); (· exact sv); (· rfl); (· rfl); (· decide))
 | ((with_reducible apply awO_u); (· rfl); (· rfl); (· exact svr); (· rfl); (· decide))
 | ((with_reducible apply aw_cond_true); (· exact sv))
 | ((with_reducible apply aw_cond_false); (· exact sv))
 | ((with_reducible apply awO_un); (· rfl); (· decide); (· exact sv))
 | (refine Kont.go ‹Kont _ _ _ _› _ ?_)
 | ((with_reducible apply awO_c); (· rfl); (· rfl); (· exact sv); (· (first | exact c1)); (· rfl); (· rfl); (· rfl); (· decide))
 | ((with_reducible apply awO_f); (· rfl); (· rfl); (· exact sv); (· exact sv); (· (first | exact c1)); (· rfl); (· rfl); (· decide))
 | ((with_reducible apply awO_m); (· rfl); (· rfl); (· exact sv); (· (first | exact c1)); (· exact svq); (· exact svq); (· exact svq); (· exact svq); (· rfl); (· exact nd); (with_reducible apply awO_st); (· exact svs))
 | ((first | ((with_reducible apply awO_guard); (· rfl); (· rfl); (· exact sv)) | ((with_reducible apply aw_cond); (· exact sv))); all_goals (intro hg; (try simp only [Bool.not_true, Bool.not_false]); (try simp only [decide_eq_true_eq, decide_eq_false_iff_not, Bool.not_true, Bool.not_false, Bool.not_eq_true', Bool.not_eq_false', Bool.not_not, beq_eq_false_iff_ne, ne_eq, beq_iff_eq, decide_eq_decide] at hg); try (exfalso; omega)))
 | ((with_reducible apply retQ_mk); (· (first | exact .inr rfl | exact .inl rfl)); (· exact sv); (· exact sv); rotate_left; (· rfl)))
  refine aw_loopF (fun j : Nat => [(8, ai j), (6, ai ((plc s j).1 + 1 : Nat)), (7, ai (plc s j).2)]) (fun _ => []) (fun j => j ≤ i) (fun j => i - j) 0 (by omega) ?_ ?_ ?_
  · rw [plc_zero]
    exact ⟨rfl, rfl, rfl, trivial⟩
  · exact trivial
  intro j hj
  (simp only [LP, List.append_assoc, List.nil_append, List.cons_append, List.append_nil, List.contains_cons, List.contains_nil, Nat.reduceBEq, Bool.or_false, Bool.or_true, Bool.true_or, Bool.false_or, ↓reduceIte, Bool.false_eq_true])
  have hb := plc_bd s j (by omega)
  by_cases hjl : j < i
  · have e := plc_stepN s j (by omega)
    by_cases hc : s[j].toNat = 10
    · rw [if_pos hc] at e
      repeat' (first
 | ((with_reducible apply awO_ev); (· rfl); (· exact sv))
 | ((with_reducible apply aw_seq); intro _ _)
 | (with_reducible apply aw_region)
 | (with_reducible apply aw_block)
 | ((first | (with_reducible apply awO_nil) | (with_reducible apply aw_exit) | (with_reducible apply aw_skip) | (with_reducible apply aw_ret)); (try simp only [CT, ↓reduceIte, Nat.reduceEqDiff]))
 | ((with_reducible apply awO_y); (· rfl); (· rfl); (· decide); (· exact sv); (· exact sv))
 | ((with_reducible apply awO_n); (· rfl); (· rfl); (· decide); (· exact sv); (· rfl); (· rfl); (· decide))
 | ((with_reducible apply awO_u); (· rfl); (· rfl); (· exact svr); (· rfl); (· decide))
 | ((with_reducible apply aw_cond_true); (· exact sv))
 | ((with_reducible apply aw_cond_false); (· exact sv))
 | ((with_reducible apply awO_un); (· rfl); (· decide); (· exact sv))
 | (refine Kont.go ‹Kont _ _ _ _› _ ?_)
 | ((first | ((with_reducible apply awO_guard); (· rfl); (· rfl); (· exact sv)) | ((with_reducible apply aw_cond); (· exact sv))); all_goals (intro hg; (try simp only [Bool.not_true, Bool.not_false]); (try simp only [decide_eq_true_eq, decide_eq_false_iff_not, Bool.not_true, Bool.not_false, Bool.not_eq_true', Bool.not_eq_false', Bool.not_not, beq_eq_false_iff_ne, ne_eq, beq_iff_eq, decide_eq_decide] at hg); try (exfalso; omega)))
 | ((with_reducible apply retQ_mk); (· (first | exact .inr rfl | exact .inl rfl)); (· exact sv); (· exact sv); rotate_left; (· rfl)))
      refine LE_mk (j + 1) ?_ ?_ ?_ sN sN
      · omega
      · omega
      · rw [e]
        exact ⟨rfl, rfl, rfl, trivial⟩
    · rw [if_neg hc] at e
      repeat' (first
 | ((with_reducible apply awO_ev); (· rfl); (· exact sv))
 | ((with_reducible apply aw_seq); intro _ _)
 | (with_reducible apply aw_region)
 | (with_reducible apply aw_block)
 | ((first | (with_reducible apply awO_nil) | (with_reducible apply aw_exit) | (with_reducible apply aw_skip) | (with_reducible apply aw_ret)); (try simp only [CT, ↓reduceIte, Nat.reduceEqDiff]))
 | ((with_reducible apply awO_y); (· rfl); (· rfl); (· decide); (· exact sv); (· exact sv))
 | ((with_reducible apply awO_n); (· rfl); (· rfl); (· decide); (· exact sv); (· rfl); (· rfl); (· decide))
 | ((with_reducible apply awO_u); (· rfl); (· rfl); (· exact svr); (· rfl); (· decide))
 | ((with_reducible apply aw_cond_true); (· exact sv))
 | ((with_reducible apply aw_cond_false); (· exact sv))
 | ((with_reducible apply awO_un); (· rfl); (· decide); (· exact sv))
 | (refine Kont.go ‹Kont _ _ _ _› _ ?_)
 | ((first | ((with_reducible apply awO_guard); (· rfl); (· rfl); (· exact sv)) | ((with_reducible apply aw_cond); (· exact sv))); all_goals (intro hg; (try simp only [Bool.not_true, Bool.not_false]); (try simp only [decide_eq_true_eq, decide_eq_false_iff_not, Bool.not_true, Bool.not_false, Bool.not_eq_true', Bool.not_eq_false', Bool.not_not, beq_eq_false_iff_ne, ne_eq, beq_iff_eq, decide_eq_decide] at hg); try (exfalso; omega)))
 | ((with_reducible apply retQ_mk); (· (first | exact .inr rfl | exact .inl rfl)); (· exact sv); (· exact sv); rotate_left; (· rfl)))
      refine LE_mk (j + 1) ?_ ?_ ?_ sN sN
      · omega
      · omega
      · rw [e]
        exact ⟨rfl, rfl, rfl, trivial⟩
  · have e : i = j := by omega
    subst e
    repeat' (first
 | ((with_reducible apply awO_ev); (· rfl); (· exact sv))
 | ((with_reducible apply aw_seq); intro _ _)
 | (with_reducible apply aw_region)
 | (with_reducible apply aw_block)
 | ((first | (with_reducible apply awO_nil) | (with_reducible apply aw_exit) | (with_reducible apply aw_skip) | (with_reducible apply aw_ret)); (try simp only [CT, ↓reduceIte, Nat.reduceEqDiff]))
 | ((with_reducible apply awO_y); (· rfl); (· rfl); (· decide); (· exact sv); (· exact sv))
 | ((with_reducible apply awO_n); (· rfl); (· rfl); (· decide); (· exact sv); (· rfl); (· rfl); (· decide))
 | ((with_reducible apply awO_u); (· rfl); (· rfl); (· exact svr); (· rfl); (· decide))
 | ((with_reducible apply aw_cond_true); (· exact sv))
 | ((with_reducible apply aw_cond_false); (· exact sv))
 | ((with_reducible apply awO_un); (· rfl); (· decide); (· exact sv))
 | (refine Kont.go ‹Kont _ _ _ _› _ ?_)
 | ((first | ((with_reducible apply awO_guard); (· rfl); (· rfl); (· exact sv)) | ((with_reducible apply aw_cond); (· exact sv))); all_goals (intro hg; (try simp only [Bool.not_true, Bool.not_false]); (try simp only [decide_eq_true_eq, decide_eq_false_iff_not, Bool.not_true, Bool.not_false, Bool.not_eq_true', Bool.not_eq_false', Bool.not_not, beq_eq_false_iff_ne, ne_eq, beq_iff_eq, decide_eq_decide] at hg); try (exfalso; omega)))
 | ((with_reducible apply retQ_mk); (· (first | exact .inr rfl | exact .inl rfl)); (· exact sv); (· exact sv); rotate_left; (· rfl)))
    all_goals rfl
end Go.Proofs.YtbjhecllejdfaaaDoor
