/- Keymap: Show of the program and of the document, on the abstract machine. -/
import Derived.Test.YtoncfnbgajnhgaaDoorKmG
import Derived.Test.YtoncfnbgajnhgaaDoorBldW
namespace Go.Proofs.YtoncfnbgajnhgaaDoor
open Go.RowKit
set_option linter.unusedVariables false
set_option linter.unusedSimpArgs false
set_option maxRecDepth 100000
set_option maxHeartbeats 8000000
section
variable {P : Program} {t : TypeId} {x y : Operand}
theorem bin_shr4 (c : UInt8) (k : IntKind) : bin P .shr t x y (.int .u8 c.toNat) (.int k 4) = some (.int .u8 ((c.toNat / 16 : Nat) : Int)) := by
  show some (Value.int .u8 ((c.toNat : Int).fdiv (2 ^ (min (4 : Int).toNat 8)))) = _
  rw [show (2 ^ (min (4 : Int).toNat 8) : Int) = 16 from rfl, Int.fdiv_eq_ediv_of_nonneg _ (by omega)]
  congr 2
theorem bin_and15 (c : UInt8) : bin P .and t x y (.int .u8 c.toNat) (.int .u8 15) = some (.int .u8 ((c.toNat % 16 : Nat) : Int)) := by
  have h : ∀ n : Fin 256, IntKind.u8.wrap ((BitVec.ofInt 8 (n.1 : Int) &&& BitVec.ofInt 8 15).toNat : Int) = ((n.1 % 16 : Nat) : Int) := by decide
  show some (Value.int .u8 (IntKind.u8.wrap ((BitVec.ofInt 8 (c.toNat : Int) &&& BitVec.ofInt 8 15).toNat : Int))) = _
  have := h ⟨c.toNat, UInt8.toNat_lt c⟩
  simp only at this
  rw [this]
theorem bin_quo16 (c : UInt8) : bin P .quo t x y (.int .u8 c.toNat) (.int .u8 16) = some (.int .u8 ((c.toNat / 16 : Nat) : Int)) := by
  have hc := UInt8.toNat_lt c
  rw [bin_quo _ _ _ (by decide), Int.tdiv_eq_ediv_of_nonneg (by omega), wrapU8 (by omega) (by omega)]
  congr 2
theorem bin_rem16 (c : UInt8) : bin P .rem t x y (.int .u8 c.toNat) (.int .u8 16) = some (.int .u8 ((c.toNat % 16 : Nat) : Int)) := by
  rw [bin_rem _ _ _ (by decide), Int.tmod_eq_emod_of_nonneg (by omega)]
  congr 2
attribute [go_sem high] bin_shr4 bin_and15 bin_quo16 bin_rem16
end
theorem gvn {k : Nat} (h : k < 32) : (((gVal 0).drop k).map AV.v)[0]? = some (az (nmT[k]?.getD [])) := by
  have hl : k < nmT.length := by rw [nmT_len]; exact h
  rw [List.getElem?_map, List.getElem?_drop, Nat.add_zero]
  simp only [gVal, if_true, List.getElem?_map, List.getElem?_eq_getElem hl, Option.map_some, Option.getD_some]
attribute [go_sem] gvn
theorem hexG (c : UInt8) : hexD[c.toNat / 16]?.getD 0 = hexD[c.toNat / 16]'(by have := UInt8.toNat_lt c; show _ < 16; omega) ∧ hexD[c.toNat % 16]?.getD 0 = hexD[c.toNat % 16]'(by show _ < 16; omega) := by
  have := UInt8.toNat_lt c
  have h1 : c.toNat / 16 < hexD.length := by show _ < 16; omega
  have h2 : c.toNat % 16 < hexD.length := by show _ < 16; omega
  exact ⟨by rw [List.getElem?_eq_getElem h1]; rfl, by rw [List.getElem?_eq_getElem h2]; rfl⟩
theorem shw_take {l : List UInt8} {i : Nat} (h : i < l.length) : shw (l.take (i + 1)) = shw (l.take i) ++ sh1 l[i] := by
  rw [List.take_succ_eq_append_getElem h, shw_append]; simp [shw]
theorem show_ab (l : List UInt8) (hl : l.length ≤ 100000) : Ab Tryd.prog 12 [az l] (az (shw l)) := by
  refine Fn_of_aw (keep := []) Tryd.func12 rfl rfl (by simp [Tryd.ntmps12]) ?_
  simp only [num_cons, num_nil, Tryd.ntmps12, Tryd.results12]
  refine aw_of_awB tBld 5 ?_
  repeat' (first
 | ((with_reducible apply awBO_new); (· rfl); (· rfl); (· exact zBld); (· rfl); (· exact nd); (· decide); (with_reducible apply awBO_st); (· exact svs))
 | ((with_reducible apply awBO_ws); (· rfl); (· rfl); (· exact sv); (· exact ws_wrs); (· (first | omega | (simp only [List.length_append, List.length_take, List.length_drop, List.length_cons, List.length_nil]; omega))); (· rfl); (· exact nd))
 | ((with_reducible apply awBO_str); (· rfl); (· rfl); (· exact sv); (· exact str_wrt); (· rfl); (· exact nd); (with_reducible apply awBO_st); (· exact svs))
 | ((with_reducible apply awBO_ev); (· rfl); (· exact sv))
 | ((with_reducible apply awB_seq); intro _ _)
 | ((with_reducible apply awB_region))
 | ((with_reducible apply awB_block))
 | ((with_reducible apply awBO_nil); (try simp only [CTB, ↓reduceIte, Nat.reduceEqDiff]))
 | ((with_reducible apply awB_exit); (try simp only [CTB, ↓reduceIte, Nat.reduceEqDiff]))
 | ((with_reducible apply awB_skip); (try simp only [CTB, ↓reduceIte, Nat.reduceEqDiff]))
 | ((with_reducible apply awB_ret); (try simp only [CTB, ↓reduceIte, Nat.reduceEqDiff]))
 | ((with_reducible apply awBO_y); (· rfl); (· rfl); (· decide); (· exact sv); (· exact sv))
 | ((with_reducible apply awBO_n); (· rfl); (· rfl); (· decide); (· exact sv); (· rfl); (· rfl); (· decide))
 | ((with_reducible apply awBO_u); (· rfl); (· rfl); (· exact svr); (· rfl); (· decide))
 | ((with_reducible apply awB_cond_true); (· exact sv))
 | ((with_reducible apply awB_cond_false); (· exact sv))
 | (refine KontB.go ‹KontB _ _ _ _ _ _› _ _ ?_)
 | ((with_reducible apply awBO_wb); (· rfl); (· rfl); (· exact sv); (· exact wb_wrb); (· (first | omega | (simp only [List.length_append, List.length_take, List.length_drop, List.length_cons, List.length_nil]; omega))); (· rfl); (· exact nd))
 | ((with_reducible apply awBO_guard); (· rfl); (· rfl); (· exact sv); all_goals (intro hg; (try simp only [Bool.not_true, Bool.not_false]); (try simp only [decide_eq_true_eq, decide_eq_false_iff_not, Bool.not_true, Bool.not_false, Bool.not_eq_true', Bool.not_eq_false', Bool.not_not, beq_eq_false_iff_ne, ne_eq, beq_iff_eq, decide_eq_decide] at hg); try (exfalso; omega)))
 | ((with_reducible apply awB_cond); (· exact sv); all_goals (intro hg; (try simp only [decide_eq_true_eq, decide_eq_false_iff_not, Bool.not_true, Bool.not_false, Bool.not_eq_true', Bool.not_eq_false', Bool.not_not, beq_eq_false_iff_ne, ne_eq, beq_iff_eq, decide_eq_decide] at hg); try (exfalso; omega)))
 | ((with_reducible apply retQ_mk); (· (first | exact .inr rfl | exact .inl rfl)); (· exact sv); (· exact sv); rotate_left; (· rfl))
 | ((with_reducible apply wk_id); (with_reducible apply retQ_mk); (· (first | exact .inr rfl | exact .inl rfl)); (· exact sv); (· exact sv); rotate_left; (· rfl))
 | ((try with_reducible apply wk_id); (with_reducible apply retQ_mk1); (· (first | exact .inr rfl | exact .inl rfl)); (· exact sv); (· exact sv); (· exact sv); (· exact sv); rotate_left; rotate_left; (· simp); (· rfl))
 | ((try with_reducible apply wk_id); (with_reducible apply retQ_mk2); (· (first | exact .inr rfl | exact .inl rfl)); (· exact sv); (· exact sv); (· exact sv); (· exact sv); (· exact sv); (· exact sv); rotate_left; rotate_left; rotate_left; (· simp); (· simp); (· rfl)))
  refine awB_loopF (fun i : Nat => [(4, ai i)]) (fun _ => []) (fun i => some (3, shw (l.take i))) (fun i => i ≤ l.length) (fun i => l.length - i) 0 (by omega) rfl ?_ ?_ ?_
  · exact ⟨rfl, trivial⟩
  · exact trivial
  intro i hi
  (simp only [LP, List.append_assoc, List.nil_append, List.cons_append, List.append_nil, List.contains_cons, List.contains_nil, Nat.reduceBEq, Bool.or_false, Bool.or_true, Bool.true_or, Bool.false_or, ↓reduceIte, Bool.false_eq_true])
  have hlt := shw_len (l.take i)
  rw [List.length_take] at hlt
  by_cases hil : i < l.length
  · have e := shw_take hil
    have hs1 := sh1_len l[i]
    have hc := UInt8.toNat_lt l[i]
    by_cases k0 : l[i].toNat < 32 ∧ l[i].toNat ≠ 0 ∧ l[i].toNat < 28
    · have hnm := nmT_key l[i] k0.1
      rw [if_neg (by omega)] at hnm
      have hnl := congrArg List.length hnm
      repeat' (first
 | ((with_reducible apply awBO_new); (· rfl); (· rfl); (· exact zBld); (· rfl); (· exact nd); (· decide); (with_reducible apply awBO_st); (· exact svs))
 | ((with_reducible apply awBO_ws); (· rfl); (· rfl); (· exact sv); (· exact ws_wrs); (· (first | omega | (simp only [List.length_append, List.length_take, List.length_drop, List.length_cons, List.length_nil]; omega))); (· rfl); (· exact nd))
 | ((with_reducible apply awBO_str); (· rfl); (· rfl); (· exact sv); (· exact str_wrt); (· rfl); (· exact nd); (with_reducible apply awBO_st); (· exact svs))
 | ((with_reducible apply awBO_ev); (· rfl); (· exact sv))
 | ((with_reducible apply awB_seq); intro _ _)
 | ((with_reducible apply awB_region))
 | ((with_reducible apply awB_block))
 | ((with_reducible apply awBO_nil); (try simp only [CTB, ↓reduceIte, Nat.reduceEqDiff]))
 | ((with_reducible apply awB_exit); (try simp only [CTB, ↓reduceIte, Nat.reduceEqDiff]))
 | ((with_reducible apply awB_skip); (try simp only [CTB, ↓reduceIte, Nat.reduceEqDiff]))
 | ((with_reducible apply awB_ret); (try simp only [CTB, ↓reduceIte, Nat.reduceEqDiff]))
 | ((with_reducible apply awBO_y); (· rfl); (· rfl); (· decide); (· exact sv); (· exact sv))
 | ((with_reducible apply awBO_n); (· rfl); (· rfl); (· decide); (· exact sv); (· rfl); (· rfl); (· decide))
 | ((with_reducible apply awBO_u); (· rfl); (· rfl); (· exact svr); (· rfl); (· decide))
 | ((with_reducible apply awB_cond_true); (· exact sv))
 | ((with_reducible apply awB_cond_false); (· exact sv))
 | (refine KontB.go ‹KontB _ _ _ _ _ _› _ _ ?_)
 | ((with_reducible apply awBO_wb); (· rfl); (· rfl); (· exact sv); (· exact wb_wrb); (· (first | omega | (simp only [List.length_append, List.length_take, List.length_drop, List.length_cons, List.length_nil]; omega))); (· rfl); (· exact nd))
 | ((with_reducible apply awBO_guard); (· rfl); (· rfl); (· exact sv); all_goals (intro hg; (try simp only [Bool.not_true, Bool.not_false]); (try simp only [decide_eq_true_eq, decide_eq_false_iff_not, Bool.not_true, Bool.not_false, Bool.not_eq_true', Bool.not_eq_false', Bool.not_not, beq_eq_false_iff_ne, ne_eq, beq_iff_eq, decide_eq_decide] at hg); try (exfalso; omega)))
 | ((with_reducible apply awB_cond); (· exact sv); all_goals (intro hg; (try simp only [decide_eq_true_eq, decide_eq_false_iff_not, Bool.not_true, Bool.not_false, Bool.not_eq_true', Bool.not_eq_false', Bool.not_not, beq_eq_false_iff_ne, ne_eq, beq_iff_eq, decide_eq_decide] at hg); try (exfalso; omega)))
 | ((with_reducible apply retQ_mk); (· (first | exact .inr rfl | exact .inl rfl)); (· exact sv); (· exact sv); rotate_left; (· rfl))
 | ((with_reducible apply wk_id); (with_reducible apply retQ_mk); (· (first | exact .inr rfl | exact .inl rfl)); (· exact sv); (· exact sv); rotate_left; (· rfl))
 | ((try with_reducible apply wk_id); (with_reducible apply retQ_mk1); (· (first | exact .inr rfl | exact .inl rfl)); (· exact sv); (· exact sv); (· exact sv); (· exact sv); rotate_left; rotate_left; (· simp); (· rfl))
 | ((try with_reducible apply wk_id); (with_reducible apply retQ_mk2); (· (first | exact .inr rfl | exact .inl rfl)); (· exact sv); (· exact sv); (· exact sv); (· exact sv); (· exact sv); (· exact sv); rotate_left; rotate_left; rotate_left; (· simp); (· simp); (· rfl)))
      refine LEB_mk (i + 1) ?_ ?_ ?_ sN sN sN
      · omega
      · omega
      · rw [e, ← hnm]
    have hnm : l[i].toNat < 32 → (nmT[l[i].toNat]?.getD []).length = 0 := fun h => by rw [nmT_key _ h, if_pos (by omega)]; rfl
    by_cases k1 : l[i].toNat = 127
    · have e1 : sh1 l[i] = [92, 100] := by unfold sh1; rw [if_neg (by omega), if_neg (by omega), if_neg (by omega), if_pos k1]
      repeat' (first
 | ((with_reducible apply awBO_new); (· rfl); (· rfl); (· exact zBld); (· rfl); (· exact nd); (· decide); (with_reducible apply awBO_st); (· exact svs))
 | ((with_reducible apply awBO_ws); (· rfl); (· rfl); (· exact sv); (· exact ws_wrs); (· (first | omega | (simp only [List.length_append, List.length_take, List.length_drop, List.length_cons, List.length_nil]; omega))); (· rfl); (· exact nd))
 | ((with_reducible apply awBO_str); (· rfl); (· rfl); (· exact sv); (· exact str_wrt); (· rfl); (· exact nd); (with_reducible apply awBO_st); (· exact svs))
 | ((with_reducible apply awBO_ev); (· rfl); (· exact sv))
 | ((with_reducible apply awB_seq); intro _ _)
 | ((with_reducible apply awB_region))
 | ((with_reducible apply awB_block))
 | ((with_reducible apply awBO_nil); (try simp only [CTB, ↓reduceIte, Nat.reduceEqDiff]))
 | ((with_reducible apply awB_exit); (try simp only [CTB, ↓reduceIte, Nat.reduceEqDiff]))
 | ((with_reducible apply awB_skip); (try simp only [CTB, ↓reduceIte, Nat.reduceEqDiff]))
 | ((with_reducible apply awB_ret); (try simp only [CTB, ↓reduceIte, Nat.reduceEqDiff]))
 | ((with_reducible apply awBO_y); (· rfl); (· rfl); (· decide); (· exact sv); (· exact sv))
 | ((with_reducible apply awBO_n); (· rfl); (· rfl); (· decide); (· exact sv); (· rfl); (· rfl); (· decide))
 | ((with_reducible apply awBO_u); (· rfl); (· rfl); (· exact svr); (· rfl); (· decide))
 | ((with_reducible apply awB_cond_true); (· exact sv))
 | ((with_reducible apply awB_cond_false); (· exact sv))
 | (refine KontB.go ‹KontB _ _ _ _ _ _› _ _ ?_)
 | ((with_reducible apply awBO_wb); (· rfl); (· rfl); (· exact sv); (· exact wb_wrb); (· (first | omega | (simp only [List.length_append, List.length_take, List.length_drop, List.length_cons, List.length_nil]; omega))); (· rfl); (· exact nd))
 | ((with_reducible apply awBO_guard); (· rfl); (· rfl); (· exact sv); all_goals (intro hg; (try simp only [Bool.not_true, Bool.not_false]); (try simp only [decide_eq_true_eq, decide_eq_false_iff_not, Bool.not_true, Bool.not_false, Bool.not_eq_true', Bool.not_eq_false', Bool.not_not, beq_eq_false_iff_ne, ne_eq, beq_iff_eq, decide_eq_decide] at hg); try (exfalso; omega)))
 | ((with_reducible apply awB_cond); (· exact sv); all_goals (intro hg; (try simp only [decide_eq_true_eq, decide_eq_false_iff_not, Bool.not_true, Bool.not_false, Bool.not_eq_true', Bool.not_eq_false', Bool.not_not, beq_eq_false_iff_ne, ne_eq, beq_iff_eq, decide_eq_decide] at hg); try (exfalso; omega)))
 | ((with_reducible apply retQ_mk); (· (first | exact .inr rfl | exact .inl rfl)); (· exact sv); (· exact sv); rotate_left; (· rfl))
 | ((with_reducible apply wk_id); (with_reducible apply retQ_mk); (· (first | exact .inr rfl | exact .inl rfl)); (· exact sv); (· exact sv); rotate_left; (· rfl))
 | ((try with_reducible apply wk_id); (with_reducible apply retQ_mk1); (· (first | exact .inr rfl | exact .inl rfl)); (· exact sv); (· exact sv); (· exact sv); (· exact sv); rotate_left; rotate_left; (· simp); (· rfl))
 | ((try with_reducible apply wk_id); (with_reducible apply retQ_mk2); (· (first | exact .inr rfl | exact .inl rfl)); (· exact sv); (· exact sv); (· exact sv); (· exact sv); (· exact sv); (· exact sv); rotate_left; rotate_left; rotate_left; (· simp); (· simp); (· rfl)))
      refine LEB_mk (i + 1) ?_ ?_ ?_ sN sN sN
      · omega
      · omega
      · rw [e, e1]
    by_cases k2 : l[i].toNat = 92
    · have e1 : sh1 l[i] = [92, 92] := by unfold sh1; rw [if_neg (by omega), if_neg (by omega), if_neg (by omega), if_neg (by omega), if_pos k2]
      repeat' (first
 | ((with_reducible apply awBO_new); (· rfl); (· rfl); (· exact zBld); (· rfl); (· exact nd); (· decide); (with_reducible apply awBO_st); (· exact svs))
 | ((with_reducible apply awBO_ws); (· rfl); (· rfl); (· exact sv); (· exact ws_wrs); (· (first | omega | (simp only [List.length_append, List.length_take, List.length_drop, List.length_cons, List.length_nil]; omega))); (· rfl); (· exact nd))
 | ((with_reducible apply awBO_str); (· rfl); (· rfl); (· exact sv); (· exact str_wrt); (· rfl); (· exact nd); (with_reducible apply awBO_st); (· exact svs))
 | ((with_reducible apply awBO_ev); (· rfl); (· exact sv))
 | ((with_reducible apply awB_seq); intro _ _)
 | ((with_reducible apply awB_region))
 | ((with_reducible apply awB_block))
 | ((with_reducible apply awBO_nil); (try simp only [CTB, ↓reduceIte, Nat.reduceEqDiff]))
 | ((with_reducible apply awB_exit); (try simp only [CTB, ↓reduceIte, Nat.reduceEqDiff]))
 | ((with_reducible apply awB_skip); (try simp only [CTB, ↓reduceIte, Nat.reduceEqDiff]))
 | ((with_reducible apply awB_ret); (try simp only [CTB, ↓reduceIte, Nat.reduceEqDiff]))
 | ((with_reducible apply awBO_y); (· rfl); (· rfl); (· decide); (· exact sv); (· exact sv))
 | ((with_reducible apply awBO_n); (· rfl); (· rfl); (· decide); (· exact sv); (· rfl); (· rfl); (· decide))
 | ((with_reducible apply awBO_u); (· rfl); (· rfl); (· exact svr); (· rfl); (· decide))
 | ((with_reducible apply awB_cond_true); (· exact sv))
 | ((with_reducible apply awB_cond_false); (· exact sv))
 | (refine KontB.go ‹KontB _ _ _ _ _ _› _ _ ?_)
 | ((with_reducible apply awBO_wb); (· rfl); (· rfl); (· exact sv); (· exact wb_wrb); (· (first | omega | (simp only [List.length_append, List.length_take, List.length_drop, List.length_cons, List.length_nil]; omega))); (· rfl); (· exact nd))
 | ((with_reducible apply awBO_guard); (· rfl); (· rfl); (· exact sv); all_goals (intro hg; (try simp only [Bool.not_true, Bool.not_false]); (try simp only [decide_eq_true_eq, decide_eq_false_iff_not, Bool.not_true, Bool.not_false, Bool.not_eq_true', Bool.not_eq_false', Bool.not_not, beq_eq_false_iff_ne, ne_eq, beq_iff_eq, decide_eq_decide] at hg); try (exfalso; omega)))
 | ((with_reducible apply awB_cond); (· exact sv); all_goals (intro hg; (try simp only [decide_eq_true_eq, decide_eq_false_iff_not, Bool.not_true, Bool.not_false, Bool.not_eq_true', Bool.not_eq_false', Bool.not_not, beq_eq_false_iff_ne, ne_eq, beq_iff_eq, decide_eq_decide] at hg); try (exfalso; omega)))
 | ((with_reducible apply retQ_mk); (· (first | exact .inr rfl | exact .inl rfl)); (· exact sv); (· exact sv); rotate_left; (· rfl))
 | ((with_reducible apply wk_id); (with_reducible apply retQ_mk); (· (first | exact .inr rfl | exact .inl rfl)); (· exact sv); (· exact sv); rotate_left; (· rfl))
 | ((try with_reducible apply wk_id); (with_reducible apply retQ_mk1); (· (first | exact .inr rfl | exact .inl rfl)); (· exact sv); (· exact sv); (· exact sv); (· exact sv); rotate_left; rotate_left; (· simp); (· rfl))
 | ((try with_reducible apply wk_id); (with_reducible apply retQ_mk2); (· (first | exact .inr rfl | exact .inl rfl)); (· exact sv); (· exact sv); (· exact sv); (· exact sv); (· exact sv); (· exact sv); rotate_left; rotate_left; rotate_left; (· simp); (· simp); (· rfl)))
      refine LEB_mk (i + 1) ?_ ?_ ?_ sN sN sN
      · omega
      · omega
      · rw [e, e1]
    by_cases k3 : 32 ≤ l[i].toNat ∧ l[i].toNat ≤ 126
    · have e1 : sh1 l[i] = [l[i]] := by unfold sh1; rw [if_neg (by omega), if_neg (by omega), if_neg (by omega), if_neg (by omega), if_neg (by omega), if_neg (by omega), if_pos k3]
      repeat' (first
 | ((with_reducible apply awBO_new); (· rfl); (· rfl); (· exact zBld); (· rfl); (· exact nd); (· decide); (with_reducible apply awBO_st); (· exact svs))
 | ((with_reducible apply awBO_ws); (· rfl); (· rfl); (· exact sv); (· exact ws_wrs); (· (first | omega | (simp only [List.length_append, List.length_take, List.length_drop, List.length_cons, List.length_nil]; omega))); (· rfl); (· exact nd))
 | ((with_reducible apply awBO_str); (· rfl); (· rfl); (· exact sv); (· exact str_wrt); (· rfl); (· exact nd); (with_reducible apply awBO_st); (· exact svs))
 | ((with_reducible apply awBO_ev); (· rfl); (· exact sv))
 | ((with_reducible apply awB_seq); intro _ _)
 | ((with_reducible apply awB_region))
 | ((with_reducible apply awB_block))
 | ((with_reducible apply awBO_nil); (try simp only [CTB, ↓reduceIte, Nat.reduceEqDiff]))
 | ((with_reducible apply awB_exit); (try simp only [CTB, ↓reduceIte, Nat.reduceEqDiff]))
 | ((with_reducible apply awB_skip); (try simp only [CTB, ↓reduceIte, Nat.reduceEqDiff]))
 | ((with_reducible apply awB_ret); (try simp only [CTB, ↓reduceIte, Nat.reduceEqDiff]))
 | ((with_reducible apply awBO_y); (· rfl); (· rfl); (· decide); (· exact sv); (· exact sv))
 | ((with_reducible apply awBO_n); (· rfl); (· rfl); (· decide); (· exact sv); (· rfl); (· rfl); (· decide))
 | ((with_reducible apply awBO_u); (· rfl); (· rfl); (· exact svr); (· rfl); (· decide))
 | ((with_reducible apply awB_cond_true); (· exact sv))
 | ((with_reducible apply awB_cond_false); (· exact sv))
 | (refine KontB.go ‹KontB _ _ _ _ _ _› _ _ ?_)
 | ((with_reducible apply awBO_wb); (· rfl); (· rfl); (· exact sv); (· exact wb_wrb); (· (first | omega | (simp only [List.length_append, List.length_take, List.length_drop, List.length_cons, List.length_nil]; omega))); (· rfl); (· exact nd))
 | ((with_reducible apply awBO_guard); (· rfl); (· rfl); (· exact sv); all_goals (intro hg; (try simp only [Bool.not_true, Bool.not_false]); (try simp only [decide_eq_true_eq, decide_eq_false_iff_not, Bool.not_true, Bool.not_false, Bool.not_eq_true', Bool.not_eq_false', Bool.not_not, beq_eq_false_iff_ne, ne_eq, beq_iff_eq, decide_eq_decide] at hg); try (exfalso; omega)))
 | ((with_reducible apply awB_cond); (· exact sv); all_goals (intro hg; (try simp only [decide_eq_true_eq, decide_eq_false_iff_not, Bool.not_true, Bool.not_false, Bool.not_eq_true', Bool.not_eq_false', Bool.not_not, beq_eq_false_iff_ne, ne_eq, beq_iff_eq, decide_eq_decide] at hg); try (exfalso; omega)))
 | ((with_reducible apply retQ_mk); (· (first | exact .inr rfl | exact .inl rfl)); (· exact sv); (· exact sv); rotate_left; (· rfl))
 | ((with_reducible apply wk_id); (with_reducible apply retQ_mk); (· (first | exact .inr rfl | exact .inl rfl)); (· exact sv); (· exact sv); rotate_left; (· rfl))
 | ((try with_reducible apply wk_id); (with_reducible apply retQ_mk1); (· (first | exact .inr rfl | exact .inl rfl)); (· exact sv); (· exact sv); (· exact sv); (· exact sv); rotate_left; rotate_left; (· simp); (· rfl))
 | ((try with_reducible apply wk_id); (with_reducible apply retQ_mk2); (· (first | exact .inr rfl | exact .inl rfl)); (· exact sv); (· exact sv); (· exact sv); (· exact sv); (· exact sv); (· exact sv); rotate_left; rotate_left; rotate_left; (· simp); (· simp); (· rfl)))
      refine LEB_mk (i + 1) ?_ ?_ ?_ sN sN sN
      · omega
      · omega
      · rw [e, e1]
    · have e1 : sh1 l[i] = [92, 120, hexD[l[i].toNat / 16]?.getD 0, hexD[l[i].toNat % 16]?.getD 0] := by unfold sh1; rw [if_neg (by omega), if_neg (by omega), if_neg (by omega), if_neg (by omega), if_neg (by omega), if_neg (by omega), if_neg k3]
      rw [(hexG l[i]).1, (hexG l[i]).2] at e1
      repeat' (first
 | ((with_reducible apply awBO_new); (· rfl); (· rfl); (· exact zBld); (· rfl); (· exact nd); (· decide); (with_reducible apply awBO_st); (· exact svs))
 | ((with_reducible apply awBO_ws); (· rfl); (· rfl); (· exact sv); (· exact ws_wrs); (· (first | omega | (simp only [List.length_append, List.length_take, List.length_drop, List.length_cons, List.length_nil]; omega))); (· rfl); (· exact nd))
 | ((with_reducible apply awBO_str); (· rfl); (· rfl); (· exact sv); (· exact str_wrt); (· rfl); (· exact nd); (with_reducible apply awBO_st); (· exact svs))
 | ((with_reducible apply awBO_ev); (· rfl); (· exact sv))
 | ((with_reducible apply awB_seq); intro _ _)
 | ((with_reducible apply awB_region))
 | ((with_reducible apply awB_block))
 | ((with_reducible apply awBO_nil); (try simp only [CTB, ↓reduceIte, Nat.reduceEqDiff]))
 | ((with_reducible apply awB_exit); (try simp only [CTB, ↓reduceIte, Nat.reduceEqDiff]))
 | ((with_reducible apply awB_skip); (try simp only [CTB, ↓reduceIte, Nat.reduceEqDiff]))
 | ((with_reducible apply awB_ret); (try simp only [CTB, ↓reduceIte, Nat.reduceEqDiff]))
 | ((with_reducible apply awBO_y); (· rfl); (· rfl); (· decide); (· exact sv); (· exact sv))
 | ((with_reducible apply awBO_n); (· rfl); (· rfl); (· decide); (· exact sv); (· rfl); (· rfl); (· decide))
 | ((with_reducible apply awBO_u); (· rfl); (· rfl); (· exact svr); (· rfl); (· decide))
 | ((with_reducible apply awB_cond_true); (· exact sv))
 | ((with_reducible apply awB_cond_false); (· exact sv))
 | (refine KontB.go ‹KontB _ _ _ _ _ _› _ _ ?_)
 | ((with_reducible apply awBO_wb); (· rfl); (· rfl); (· exact sv); (· exact wb_wrb); (· (first | omega | (simp only [List.length_append, List.length_take, List.length_drop, List.length_cons, List.length_nil]; omega))); (· rfl); (· exact nd))
 | ((with_reducible apply awBO_guard); (· rfl); (· rfl); (· exact sv); all_goals (intro hg; (try simp only [Bool.not_true, Bool.not_false]); (try simp only [decide_eq_true_eq, decide_eq_false_iff_not, Bool.not_true, Bool.not_false, Bool.not_eq_true', Bool.not_eq_false', Bool.not_not, beq_eq_false_iff_ne, ne_eq, beq_iff_eq, decide_eq_decide] at hg); try (exfalso; omega)))
 | ((with_reducible apply awB_cond); (· exact sv); all_goals (intro hg; (try simp only [decide_eq_true_eq, decide_eq_false_iff_not, Bool.not_true, Bool.not_false, Bool.not_eq_true', Bool.not_eq_false', Bool.not_not, beq_eq_false_iff_ne, ne_eq, beq_iff_eq, decide_eq_decide] at hg); try (exfalso; omega)))
 | ((with_reducible apply retQ_mk); (· (first | exact .inr rfl | exact .inl rfl)); (· exact sv); (· exact sv); rotate_left; (· rfl))
 | ((with_reducible apply wk_id); (with_reducible apply retQ_mk); (· (first | exact .inr rfl | exact .inl rfl)); (· exact sv); (· exact sv); rotate_left; (· rfl))
 | ((try with_reducible apply wk_id); (with_reducible apply retQ_mk1); (· (first | exact .inr rfl | exact .inl rfl)); (· exact sv); (· exact sv); (· exact sv); (· exact sv); rotate_left; rotate_left; (· simp); (· rfl))
 | ((try with_reducible apply wk_id); (with_reducible apply retQ_mk2); (· (first | exact .inr rfl | exact .inl rfl)); (· exact sv); (· exact sv); (· exact sv); (· exact sv); (· exact sv); (· exact sv); rotate_left; rotate_left; rotate_left; (· simp); (· simp); (· rfl)))
      all_goals
        refine LEB_mk (i + 1) (by omega) (by omega) ?_ sN sN sN
        rw [e, e1]; simp
  · have e : l.take i = l := List.take_of_length_le (by omega)
    repeat' (first
 | ((with_reducible apply awBO_new); (· rfl); (· rfl); (· exact zBld); (· rfl); (· exact nd); (· decide); (with_reducible apply awBO_st); (· exact svs))
 | ((with_reducible apply awBO_ws); (· rfl); (· rfl); (· exact sv); (· exact ws_wrs); (· (first | omega | (simp only [List.length_append, List.length_take, List.length_drop, List.length_cons, List.length_nil]; omega))); (· rfl); (· exact nd))
 | ((with_reducible apply awBO_str); (· rfl); (· rfl); (· exact sv); (· exact str_wrt); (· rfl); (· exact nd); (with_reducible apply awBO_st); (· exact svs))
 | ((with_reducible apply awBO_ev); (· rfl); (· exact sv))
 | ((with_reducible apply awB_seq); intro _ _)
 | ((with_reducible apply awB_region))
 | ((with_reducible apply awB_block))
 | ((with_reducible apply awBO_nil); (try simp only [CTB, ↓reduceIte, Nat.reduceEqDiff]))
 | ((with_reducible apply awB_exit); (try simp only [CTB, ↓reduceIte, Nat.reduceEqDiff]))
 | ((with_reducible apply awB_skip); (try simp only [CTB, ↓reduceIte, Nat.reduceEqDiff]))
 | ((with_reducible apply awB_ret); (try simp only [CTB, ↓reduceIte, Nat.reduceEqDiff]))
 | ((with_reducible apply awBO_y); (· rfl); (· rfl); (· decide); (· exact sv); (· exact sv))
 | ((with_reducible apply awBO_n); (· rfl); (· rfl); (· decide); (· exact sv); (· rfl); (· rfl); (· decide))
 | ((with_reducible apply awBO_u); (· rfl); (· rfl); (· exact svr); (· rfl); (· decide))
 | ((with_reducible apply awB_cond_true); (· exact sv))
 | ((with_reducible apply awB_cond_false); (· exact sv))
 | (refine KontB.go ‹KontB _ _ _ _ _ _› _ _ ?_)
 | ((with_reducible apply awBO_wb); (· rfl); (· rfl); (· exact sv); (· exact wb_wrb); (· (first | omega | (simp only [List.length_append, List.length_take, List.length_drop, List.length_cons, List.length_nil]; omega))); (· rfl); (· exact nd))
 | ((with_reducible apply awBO_guard); (· rfl); (· rfl); (· exact sv); all_goals (intro hg; (try simp only [Bool.not_true, Bool.not_false]); (try simp only [decide_eq_true_eq, decide_eq_false_iff_not, Bool.not_true, Bool.not_false, Bool.not_eq_true', Bool.not_eq_false', Bool.not_not, beq_eq_false_iff_ne, ne_eq, beq_iff_eq, decide_eq_decide] at hg); try (exfalso; omega)))
 | ((with_reducible apply awB_cond); (· exact sv); all_goals (intro hg; (try simp only [decide_eq_true_eq, decide_eq_false_iff_not, Bool.not_true, Bool.not_false, Bool.not_eq_true', Bool.not_eq_false', Bool.not_not, beq_eq_false_iff_ne, ne_eq, beq_iff_eq, decide_eq_decide] at hg); try (exfalso; omega)))
 | ((with_reducible apply retQ_mk); (· (first | exact .inr rfl | exact .inl rfl)); (· exact sv); (· exact sv); rotate_left; (· rfl))
 | ((with_reducible apply wk_id); (with_reducible apply retQ_mk); (· (first | exact .inr rfl | exact .inl rfl)); (· exact sv); (· exact sv); rotate_left; (· rfl))
 | ((try with_reducible apply wk_id); (with_reducible apply retQ_mk1); (· (first | exact .inr rfl | exact .inl rfl)); (· exact sv); (· exact sv); (· exact sv); (· exact sv); rotate_left; rotate_left; (· simp); (· rfl))
 | ((try with_reducible apply wk_id); (with_reducible apply retQ_mk2); (· (first | exact .inr rfl | exact .inl rfl)); (· exact sv); (· exact sv); (· exact sv); (· exact sv); (· exact sv); (· exact sv); rotate_left; rotate_left; rotate_left; (· simp); (· simp); (· rfl)))
    all_goals rw [e]
theorem take_one {l : List UInt8} {i : Nat} (h : i < l.length) : (l.drop i).take 1 = [l[i]] := by
  rw [List.drop_eq_getElem_cons h]; rfl
theorem rshow_ab (c : UInt8) : Ab Tryd.prog 29 [au c] (az (sh1 c)) := by
  have hc := UInt8.toNat_lt c
  unfold sh1
  by_cases k1 : c.toNat = 9
  · rw [if_pos k1]
    refine Fn_of_aw (keep := []) Tryd.func29 rfl rfl (by simp [Tryd.ntmps29]) ?_
    simp only [num_cons, num_nil, Tryd.ntmps29, Tryd.results29]
    repeat' (first
 | ((with_reducible apply awO_ev); (· rfl); (· exact sv))
 | ((with_reducible apply aw_seq); intro _ _)
 | (with_reducible apply aw_region)
 | (with_reducible apply aw_block)
 | ((first | (with_reducible apply awO_nil) | (with_reducible apply aw_exit) | (with_reducible apply aw_skip) | (with_reducible apply aw_ret)); (try simp only [CT, ↓reduceIte, Nat.reduceEqDiff]))
 | ((with_reducible apply awO_y); (· rfl); (· rfl); (· decide); (· exact sv); (· exact sv))
 | ((with_reducible apply awO_n); (· rfl); (· rfl); (· decide); (· exact sv); (· rfl); (· rfl); (· decide))
 | ((with_reducible apply awO_u); (· rfl); (· rfl); (· exact svr); (· rfl); (· decide))
 | ((with_reducible apply aw_cond_true); (· exact sv))
 | ((with_reducible apply aw_cond_false); (· exact sv))
 | ((with_reducible apply awO_un); (· rfl); (· decide); (· exact sv))
 | (refine Kont.go ‹Kont _ _ _ _› _ ?_)
 | ((first | ((with_reducible apply awO_guard); (· rfl); (· rfl); (· exact sv)) | ((with_reducible apply aw_cond); (· exact sv))); all_goals (intro hg; (try simp only [Bool.not_true, Bool.not_false]); (try simp only [decide_eq_true_eq, decide_eq_false_iff_not, Bool.not_true, Bool.not_false, Bool.not_eq_true', Bool.not_eq_false', Bool.not_not, beq_eq_false_iff_ne, ne_eq, beq_iff_eq, decide_eq_decide] at hg); try (exfalso; omega)))
 | ((with_reducible apply retQ_mk); (· (first | exact .inr rfl | exact .inl rfl)); (· exact sv); (· exact sv); rotate_left; (· rfl)))
    all_goals rfl
  rw [if_neg k1]
  by_cases k2 : c.toNat = 10
  · rw [if_pos k2]
    refine Fn_of_aw (keep := []) Tryd.func29 rfl rfl (by simp [Tryd.ntmps29]) ?_
    simp only [num_cons, num_nil, Tryd.ntmps29, Tryd.results29]
    repeat' (first
 | ((with_reducible apply awO_ev); (· rfl); (· exact sv))
 | ((with_reducible apply aw_seq); intro _ _)
 | (with_reducible apply aw_region)
 | (with_reducible apply aw_block)
 | ((first | (with_reducible apply awO_nil) | (with_reducible apply aw_exit) | (with_reducible apply aw_skip) | (with_reducible apply aw_ret)); (try simp only [CT, ↓reduceIte, Nat.reduceEqDiff]))
 | ((with_reducible apply awO_y); (· rfl); (· rfl); (· decide); (· exact sv); (· exact sv))
 | ((with_reducible apply awO_n); (· rfl); (· rfl); (· decide); (· exact sv); (· rfl); (· rfl); (· decide))
 | ((with_reducible apply awO_u); (· rfl); (· rfl); (· exact svr); (· rfl); (· decide))
 | ((with_reducible apply aw_cond_true); (· exact sv))
 | ((with_reducible apply aw_cond_false); (· exact sv))
 | ((with_reducible apply awO_un); (· rfl); (· decide); (· exact sv))
 | (refine Kont.go ‹Kont _ _ _ _› _ ?_)
 | ((first | ((with_reducible apply awO_guard); (· rfl); (· rfl); (· exact sv)) | ((with_reducible apply aw_cond); (· exact sv))); all_goals (intro hg; (try simp only [Bool.not_true, Bool.not_false]); (try simp only [decide_eq_true_eq, decide_eq_false_iff_not, Bool.not_true, Bool.not_false, Bool.not_eq_true', Bool.not_eq_false', Bool.not_not, beq_eq_false_iff_ne, ne_eq, beq_iff_eq, decide_eq_decide] at hg); try (exfalso; omega)))
 | ((with_reducible apply retQ_mk); (· (first | exact .inr rfl | exact .inl rfl)); (· exact sv); (· exact sv); rotate_left; (· rfl)))
    all_goals rfl
  rw [if_neg k2]
  by_cases k3 : c.toNat = 27
  · rw [if_pos k3]
    refine Fn_of_aw (keep := []) Tryd.func29 rfl rfl (by simp [Tryd.ntmps29]) ?_
    simp only [num_cons, num_nil, Tryd.ntmps29, Tryd.results29]
    repeat' (first
 | ((with_reducible apply awO_ev); (· rfl); (· exact sv))
 | ((with_reducible apply aw_seq); intro _ _)
 | (with_reducible apply aw_region)
 | (with_reducible apply aw_block)
 | ((first | (with_reducible apply awO_nil) | (with_reducible apply aw_exit) | (with_reducible apply aw_skip) | (with_reducible apply aw_ret)); (try simp only [CT, ↓reduceIte, Nat.reduceEqDiff]))
 | ((with_reducible apply awO_y); (· rfl); (· rfl); (· decide); (· exact sv); (· exact sv))
 | ((with_reducible apply awO_n); (· rfl); (· rfl); (· decide); (· exact sv); (· rfl); (· rfl); (· decide))
 | ((with_reducible apply awO_u); (· rfl); (· rfl); (· exact svr); (· rfl); (· decide))
 | ((with_reducible apply aw_cond_true); (· exact sv))
 | ((with_reducible apply aw_cond_false); (· exact sv))
 | ((with_reducible apply awO_un); (· rfl); (· decide); (· exact sv))
 | (refine Kont.go ‹Kont _ _ _ _› _ ?_)
 | ((first | ((with_reducible apply awO_guard); (· rfl); (· rfl); (· exact sv)) | ((with_reducible apply aw_cond); (· exact sv))); all_goals (intro hg; (try simp only [Bool.not_true, Bool.not_false]); (try simp only [decide_eq_true_eq, decide_eq_false_iff_not, Bool.not_true, Bool.not_false, Bool.not_eq_true', Bool.not_eq_false', Bool.not_not, beq_eq_false_iff_ne, ne_eq, beq_iff_eq, decide_eq_decide] at hg); try (exfalso; omega)))
 | ((with_reducible apply retQ_mk); (· (first | exact .inr rfl | exact .inl rfl)); (· exact sv); (· exact sv); rotate_left; (· rfl)))
    all_goals rfl
  rw [if_neg k3]
  by_cases k4 : c.toNat = 127
  · rw [if_pos k4]
    refine Fn_of_aw (keep := []) Tryd.func29 rfl rfl (by simp [Tryd.ntmps29]) ?_
    simp only [num_cons, num_nil, Tryd.ntmps29, Tryd.results29]
    repeat' (first
 | ((with_reducible apply awO_ev); (· rfl); (· exact sv))
 | ((with_reducible apply aw_seq); intro _ _)
 | (with_reducible apply aw_region)
 | (with_reducible apply aw_block)
 | ((first | (with_reducible apply awO_nil) | (with_reducible apply aw_exit) | (with_reducible apply aw_skip) | (with_reducible apply aw_ret)); (try simp only [CT, ↓reduceIte, Nat.reduceEqDiff]))
 | ((with_reducible apply awO_y); (· rfl); (· rfl); (· decide); (· exact sv); (· exact sv))
 | ((with_reducible apply awO_n); (· rfl); (· rfl); (· decide); (· exact sv); (· rfl); (· rfl); (· decide))
 | ((with_reducible apply awO_u); (· rfl); (· rfl); (· exact svr); (· rfl); (· decide))
 | ((with_reducible apply aw_cond_true); (· exact sv))
 | ((with_reducible apply aw_cond_false); (· exact sv))
 | ((with_reducible apply awO_un); (· rfl); (· decide); (· exact sv))
 | (refine Kont.go ‹Kont _ _ _ _› _ ?_)
 | ((first | ((with_reducible apply awO_guard); (· rfl); (· rfl); (· exact sv)) | ((with_reducible apply aw_cond); (· exact sv))); all_goals (intro hg; (try simp only [Bool.not_true, Bool.not_false]); (try simp only [decide_eq_true_eq, decide_eq_false_iff_not, Bool.not_true, Bool.not_false, Bool.not_eq_true', Bool.not_eq_false', Bool.not_not, beq_eq_false_iff_ne, ne_eq, beq_iff_eq, decide_eq_decide] at hg); try (exfalso; omega)))
 | ((with_reducible apply retQ_mk); (· (first | exact .inr rfl | exact .inl rfl)); (· exact sv); (· exact sv); rotate_left; (· rfl)))
    all_goals rfl
  rw [if_neg k4]
  by_cases k5 : c.toNat = 92
  · rw [if_pos k5]
    refine Fn_of_aw (keep := []) Tryd.func29 rfl rfl (by simp [Tryd.ntmps29]) ?_
    simp only [num_cons, num_nil, Tryd.ntmps29, Tryd.results29]
    repeat' (first
 | ((with_reducible apply awO_ev); (· rfl); (· exact sv))
 | ((with_reducible apply aw_seq); intro _ _)
 | (with_reducible apply aw_region)
 | (with_reducible apply aw_block)
 | ((first | (with_reducible apply awO_nil) | (with_reducible apply aw_exit) | (with_reducible apply aw_skip) | (with_reducible apply aw_ret)); (try simp only [CT, ↓reduceIte, Nat.reduceEqDiff]))
 | ((with_reducible apply awO_y); (· rfl); (· rfl); (· decide); (· exact sv); (· exact sv))
 | ((with_reducible apply awO_n); (· rfl); (· rfl); (· decide); (· exact sv); (· rfl); (· rfl); (· decide))
 | ((with_reducible apply awO_u); (· rfl); (· rfl); (· exact svr); (· rfl); (· decide))
 | ((with_reducible apply aw_cond_true); (· exact sv))
 | ((with_reducible apply aw_cond_false); (· exact sv))
 | ((with_reducible apply awO_un); (· rfl); (· decide); (· exact sv))
 | (refine Kont.go ‹Kont _ _ _ _› _ ?_)
 | ((first | ((with_reducible apply awO_guard); (· rfl); (· rfl); (· exact sv)) | ((with_reducible apply aw_cond); (· exact sv))); all_goals (intro hg; (try simp only [Bool.not_true, Bool.not_false]); (try simp only [decide_eq_true_eq, decide_eq_false_iff_not, Bool.not_true, Bool.not_false, Bool.not_eq_true', Bool.not_eq_false', Bool.not_not, beq_eq_false_iff_ne, ne_eq, beq_iff_eq, decide_eq_decide] at hg); try (exfalso; omega)))
 | ((with_reducible apply retQ_mk); (· (first | exact .inr rfl | exact .inl rfl)); (· exact sv); (· exact sv); rotate_left; (· rfl)))
    all_goals rfl
  rw [if_neg k5]
  by_cases k6 : 1 ≤ c.toNat ∧ c.toNat ≤ 26
  · rw [if_pos k6]
    have e : ((c.toNat : Int) - 1 + 97).toNat = c.toNat - 1 + 97 := by omega
    refine Fn_of_aw (keep := []) Tryd.func29 rfl rfl (by simp [Tryd.ntmps29]) ?_
    simp only [num_cons, num_nil, Tryd.ntmps29, Tryd.results29]
    repeat' (first
 | ((with_reducible apply awO_ev); (· rfl); (· exact sv))
 | ((with_reducible apply aw_seq); intro _ _)
 | (with_reducible apply aw_region)
 | (with_reducible apply aw_block)
 | ((first | (with_reducible apply awO_nil) | (with_reducible apply aw_exit) | (with_reducible apply aw_skip) | (with_reducible apply aw_ret)); (try simp only [CT, ↓reduceIte, Nat.reduceEqDiff]))
 | ((with_reducible apply awO_y); (· rfl); (· rfl); (· decide); (· exact sv); (· exact sv))
 | ((with_reducible apply awO_n); (· rfl); (· rfl); (· decide); (· exact sv); (· rfl); (· rfl); (· decide))
 | ((with_reducible apply awO_u); (· rfl); (· rfl); (· exact svr); (· rfl); (· decide))
 | ((with_reducible apply aw_cond_true); (· exact sv))
 | ((with_reducible apply aw_cond_false); (· exact sv))
 | ((with_reducible apply awO_un); (· rfl); (· decide); (· exact sv))
 | (refine Kont.go ‹Kont _ _ _ _› _ ?_)
 | ((first | ((with_reducible apply awO_guard); (· rfl); (· rfl); (· exact sv)) | ((with_reducible apply aw_cond); (· exact sv))); all_goals (intro hg; (try simp only [Bool.not_true, Bool.not_false]); (try simp only [decide_eq_true_eq, decide_eq_false_iff_not, Bool.not_true, Bool.not_false, Bool.not_eq_true', Bool.not_eq_false', Bool.not_not, beq_eq_false_iff_ne, ne_eq, beq_iff_eq, decide_eq_decide] at hg); try (exfalso; omega)))
 | ((with_reducible apply retQ_mk); (· (first | exact .inr rfl | exact .inl rfl)); (· exact sv); (· exact sv); rotate_left; (· rfl)))
    all_goals rw [e]
  rw [if_neg k6]
  by_cases k7 : 32 ≤ c.toNat ∧ c.toNat ≤ 126
  · rw [if_pos k7]
    refine Fn_of_aw (keep := []) Tryd.func29 rfl rfl (by simp [Tryd.ntmps29]) ?_
    simp only [num_cons, num_nil, Tryd.ntmps29, Tryd.results29]
    repeat' (first
 | ((with_reducible apply awO_ev); (· rfl); (· exact sv))
 | ((with_reducible apply aw_seq); intro _ _)
 | (with_reducible apply aw_region)
 | (with_reducible apply aw_block)
 | ((first | (with_reducible apply awO_nil) | (with_reducible apply aw_exit) | (with_reducible apply aw_skip) | (with_reducible apply aw_ret)); (try simp only [CT, ↓reduceIte, Nat.reduceEqDiff]))
 | ((with_reducible apply awO_y); (· rfl); (· rfl); (· decide); (· exact sv); (· exact sv))
 | ((with_reducible apply awO_n); (· rfl); (· rfl); (· decide); (· exact sv); (· rfl); (· rfl); (· decide))
 | ((with_reducible apply awO_u); (· rfl); (· rfl); (· exact svr); (· rfl); (· decide))
 | ((with_reducible apply aw_cond_true); (· exact sv))
 | ((with_reducible apply aw_cond_false); (· exact sv))
 | ((with_reducible apply awO_un); (· rfl); (· decide); (· exact sv))
 | (refine Kont.go ‹Kont _ _ _ _› _ ?_)
 | ((first | ((with_reducible apply awO_guard); (· rfl); (· rfl); (· exact sv)) | ((with_reducible apply aw_cond); (· exact sv))); all_goals (intro hg; (try simp only [Bool.not_true, Bool.not_false]); (try simp only [decide_eq_true_eq, decide_eq_false_iff_not, Bool.not_true, Bool.not_false, Bool.not_eq_true', Bool.not_eq_false', Bool.not_not, beq_eq_false_iff_ne, ne_eq, beq_iff_eq, decide_eq_decide] at hg); try (exfalso; omega)))
 | ((with_reducible apply retQ_mk); (· (first | exact .inr rfl | exact .inl rfl)); (· exact sv); (· exact sv); rotate_left; (· rfl)))
    all_goals rfl
  · rw [if_neg k7, (hexG c).1, (hexG c).2]
    have h1 : c.toNat / 16 < hexD.length := by show _ < 16; omega
    have h2 : c.toNat % 16 < hexD.length := by show _ < 16; omega
    refine Fn_of_aw (keep := []) Tryd.func29 rfl rfl (by simp [Tryd.ntmps29]) ?_
    simp only [num_cons, num_nil, Tryd.ntmps29, Tryd.results29]
    repeat' (first
 | ((with_reducible apply awO_ev); (· rfl); (· exact sv))
 | ((with_reducible apply aw_seq); intro _ _)
 | (with_reducible apply aw_region)
 | (with_reducible apply aw_block)
 | ((first | (with_reducible apply awO_nil) | (with_reducible apply aw_exit) | (with_reducible apply aw_skip) | (with_reducible apply aw_ret)); (try simp only [CT, ↓reduceIte, Nat.reduceEqDiff]))
 | ((with_reducible apply awO_y); (· rfl); (· rfl); (· decide); (· exact sv); (· exact sv))
 | ((with_reducible apply awO_n); (· rfl); (· rfl); (· decide); (· exact sv); (· rfl); (· rfl); (· decide))
 | ((with_reducible apply awO_u); (· rfl); (· rfl); (· exact svr); (· rfl); (· decide))
 | ((with_reducible apply aw_cond_true); (· exact sv))
 | ((with_reducible apply aw_cond_false); (· exact sv))
 | ((with_reducible apply awO_un); (· rfl); (· decide); (· exact sv))
 | (refine Kont.go ‹Kont _ _ _ _› _ ?_)
 | ((with_reducible apply aw_drawZ); (· decide +kernel); (· decide +kernel))
 | ((with_reducible apply awZ_done); (try simp only [CT, ↓reduceIte, Nat.reduceEqDiff]))
 | ((with_reducible apply awZ_q); (· rfl); (· exact np); (· rfl); (· exact sv))
 | ((with_reducible apply awZ_qy); (· rfl); (· exact np); (· rfl); (· rfl); (· exact nd); (· exact sv); (· exact sv))
 | ((with_reducible apply awZ_qn); (· rfl); (· exact np); (· rfl); (· rfl); (· exact nd); (· exact sv); (· rfl); (· rfl); (· exact nd); simp only [put_some])
 | ((with_reducible apply awZ_qu); (· rfl); (· exact np); (· rfl); (· rfl); (· exact svr); (· rfl); (· exact nd); simp only [put_some])
 | ((with_reducible apply awZ_tn); (· decide +kernel); (· exact np); (· rfl); (· rfl); (· exact nd); (· exact sv); (· rfl); (· rfl); (· exact nd); simp only [put_some])
 | ((with_reducible apply awZ_tu); (· decide +kernel); (· exact np); (· rfl); (· rfl); (· exact svr); (· rfl); (· exact nd); simp only [put_some])
 | ((with_reducible apply awZ_ev); (· decide +kernel); (· rfl); (· exact sv))
 | ((with_reducible apply awZ_guard); (· decide +kernel); (· rfl); (· rfl); (· exact svl); all_goals (intro hg; (try simp only [Bool.not_true, Bool.not_false]); (try simp only [decide_eq_true_eq, decide_eq_false_iff_not, Bool.not_true, Bool.not_false, Bool.not_eq_true', Bool.not_eq_false', Bool.not_not, beq_eq_false_iff_ne, ne_eq, beq_iff_eq, decide_eq_decide] at hg); try (exfalso; omega)))
 | ((first | ((with_reducible apply awO_guard); (· rfl); (· rfl); (· exact sv)) | ((with_reducible apply aw_cond); (· exact sv))); all_goals (intro hg; (try simp only [Bool.not_true, Bool.not_false]); (try simp only [decide_eq_true_eq, decide_eq_false_iff_not, Bool.not_true, Bool.not_false, Bool.not_eq_true', Bool.not_eq_false', Bool.not_not, beq_eq_false_iff_ne, ne_eq, beq_iff_eq, decide_eq_decide] at hg); try (exfalso; omega)))
 | ((with_reducible apply retQ_mk); (· (first | exact .inr rfl | exact .inl rfl)); (· exact sv); (· exact sv); rotate_left; (· rfl)))
    all_goals (rw [one_byte (l := hexD) h1, one_byte (l := hexD) h2]; rfl)
theorem rshowF_ab (l : List UInt8) (hl : l.length ≤ 100000) : Ab Tryd.prog 13 [az l] (az (shw l)) := by
  refine Fn_of_aw (keep := []) Tryd.func13 rfl rfl (by simp [Tryd.ntmps13]) ?_
  simp only [num_cons, num_nil, Tryd.ntmps13, Tryd.results13]
  repeat' (first
 | ((with_reducible apply awO_ev); (· rfl); (· exact sv))
 | ((with_reducible apply aw_seq); intro _ _)
 | (with_reducible apply aw_region)
 | (with_reducible apply aw_block)
 | ((first | (with_reducible apply awO_nil) | (with_reducible apply aw_exit) | (with_reducible apply aw_skip) | (with_reducible apply aw_ret)); (try simp only [CT, ↓reduceIte, Nat.reduceEqDiff]))
 | ((with_reducible apply awO_y); (· rfl); (· rfl); (· decide); (· exact sv); (· exact sv))
 | ((with_reducible apply awO_n); (· rfl); (· rfl); (· decide); (· exact sv); (· rfl); (· rfl); (· decide))
 | ((with_reducible apply awO_u); (· rfl); (· rfl); (· exact svr); (· rfl); (· decide))
 | ((with_reducible apply aw_cond_true); (· exact sv))
 | ((with_reducible apply aw_cond_false); (· exact sv))
 | ((with_reducible apply awO_un); (· rfl); (· decide); (· exact sv))
 | (refine Kont.go ‹Kont _ _ _ _› _ ?_)
 | ((first | ((with_reducible apply awO_guard); (· rfl); (· rfl); (· exact sv)) | ((with_reducible apply aw_cond); (· exact sv))); all_goals (intro hg; (try simp only [Bool.not_true, Bool.not_false]); (try simp only [decide_eq_true_eq, decide_eq_false_iff_not, Bool.not_true, Bool.not_false, Bool.not_eq_true', Bool.not_eq_false', Bool.not_not, beq_eq_false_iff_ne, ne_eq, beq_iff_eq, decide_eq_decide] at hg); try (exfalso; omega)))
 | ((with_reducible apply retQ_mk); (· (first | exact .inr rfl | exact .inl rfl)); (· exact sv); (· exact sv); rotate_left; (· rfl)))
  refine aw_loopF (fun i : Nat => [(4, ai i), (3, az (shw (l.take i)))]) (fun _ => []) (fun i => i ≤ l.length) (fun i => l.length - i) 0 (by omega) ?_ ?_ ?_
  · exact ⟨rfl, rfl, trivial⟩
  · exact trivial
  intro i hi
  (simp only [LP, List.append_assoc, List.nil_append, List.cons_append, List.append_nil, List.contains_cons, List.contains_nil, Nat.reduceBEq, Bool.or_false, Bool.or_true, Bool.true_or, Bool.false_or, ↓reduceIte, Bool.false_eq_true])
  have hlt := shw_len (l.take i)
  rw [List.length_take] at hlt
  by_cases hil : i < l.length
  · have e := shw_take hil
    have hs1 := sh1_len l[i]
    have c1 := rshow_ab l[i]
    repeat' (first
 | ((with_reducible apply awO_ev); (· rfl); (· exact sv))
 | ((with_reducible apply aw_seq); intro _ _)
 | (with_reducible apply aw_region)
 | (with_reducible apply aw_block)
 | ((first | (with_reducible apply awO_nil) | (with_reducible apply aw_exit) | (with_reducible apply aw_skip) | (with_reducible apply aw_ret)); (try simp only [CT, ↓reduceIte, Nat.reduceEqDiff]))
 | ((with_reducible apply awO_y); (· rfl); (· rfl); (· decide); (· exact sv); (· exact sv))
 | ((with_reducible apply awO_n); (· rfl); (· rfl); (· decide); (· exact sv); (· rfl); (· rfl); (· decide))
 | ((with_reducible apply awO_u); (· rfl); (· rfl); (· exact svr); (· rfl); (· decide))
 | ((with_reducible apply aw_cond_true); (· exact sv))
 | ((with_reducible apply aw_cond_false); (· exact sv))
 | ((with_reducible apply awO_un); (· rfl); (· decide); (· exact sv))
 | (refine Kont.go ‹Kont _ _ _ _› _ ?_)
 | ((with_reducible apply awO_c); (· rfl); (· rfl); (· exact sv); (· (first | exact c1)); (· rfl); (· rfl); (· rfl); (· decide))
 | ((with_reducible apply awO_f); (· rfl); (· rfl); (· exact sv); (· exact sv); (· (first | exact c1)); (· rfl); (· rfl); (· decide))
 | ((with_reducible apply awO_m); (· rfl); (· rfl); (· exact sv); (· (first | exact c1)); (· exact svq); (· exact svq); (· exact svq); (· exact svq); (· rfl); (· exact nd); (with_reducible apply awO_st); (· exact svs))
 | ((first | ((with_reducible apply awO_guard); (· rfl); (· rfl); (· exact sv)) | ((with_reducible apply aw_cond); (· exact sv))); all_goals (intro hg; (try simp only [Bool.not_true, Bool.not_false]); (try simp only [decide_eq_true_eq, decide_eq_false_iff_not, Bool.not_true, Bool.not_false, Bool.not_eq_true', Bool.not_eq_false', Bool.not_not, beq_eq_false_iff_ne, ne_eq, beq_iff_eq, decide_eq_decide] at hg); try (exfalso; omega)))
 | ((with_reducible apply retQ_mk); (· (first | exact .inr rfl | exact .inl rfl)); (· exact sv); (· exact sv); rotate_left; (· rfl)))
    refine LE_mk (i + 1) (by omega) (by omega) ?_ sN sN
    rw [e]
    exact ⟨rfl, rfl, trivial⟩
  · have e : l.take i = l := List.take_of_length_le (by omega)
    rw [e]
    repeat' (first
 | ((with_reducible apply awO_ev); (· rfl); (· exact sv))
 | ((with_reducible apply aw_seq); intro _ _)
 | (with_reducible apply aw_region)
 | (with_reducible apply aw_block)
 | ((first | (with_reducible apply awO_nil) | (with_reducible apply aw_exit) | (with_reducible apply aw_skip) | (with_reducible apply aw_ret)); (try simp only [CT, ↓reduceIte, Nat.reduceEqDiff]))
 | ((with_reducible apply awO_y); (· rfl); (· rfl); (· decide); (· exact sv); (· exact sv))
 | ((with_reducible apply awO_n); (· rfl); (· rfl); (· decide); (· exact sv); (· rfl); (· rfl); (· decide))
 | ((with_reducible apply awO_u); (· rfl); (· rfl); (· exact svr); (· rfl); (· decide))
 | ((with_reducible apply aw_cond_true); (· exact sv))
 | ((with_reducible apply aw_cond_false); (· exact sv))
 | ((with_reducible apply awO_un); (· rfl); (· decide); (· exact sv))
 | (refine Kont.go ‹Kont _ _ _ _› _ ?_)
 | ((first | ((with_reducible apply awO_guard); (· rfl); (· rfl); (· exact sv)) | ((with_reducible apply aw_cond); (· exact sv))); all_goals (intro hg; (try simp only [Bool.not_true, Bool.not_false]); (try simp only [decide_eq_true_eq, decide_eq_false_iff_not, Bool.not_true, Bool.not_false, Bool.not_eq_true', Bool.not_eq_false', Bool.not_not, beq_eq_false_iff_ne, ne_eq, beq_iff_eq, decide_eq_decide] at hg); try (exfalso; omega)))
 | ((with_reducible apply retQ_mk); (· (first | exact .inr rfl | exact .inl rfl)); (· exact sv); (· exact sv); rotate_left; (· rfl)))
    all_goals rfl
end Go.Proofs.YtoncfnbgajnhgaaDoor
