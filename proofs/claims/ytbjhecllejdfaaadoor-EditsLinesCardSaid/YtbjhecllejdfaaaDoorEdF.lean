/- Edits: Same, Apply and Invert, and the document's, on the abstract machine. -/
import Derived.Test.YtbjhecllejdfaaaDoorEdE
namespace Go.Proofs.YtbjhecllejdfaaaDoor
open Go.RowKit
set_option linter.unusedVariables false
set_option linter.unusedSimpArgs false
set_option maxRecDepth 100000
set_option maxHeartbeats 8000000
theorem eqEd : eqK Tryd.prog 53 = some [0, 0, 2] := by kernel_rfl
attribute [go_sem] eqEd
theorem same_ab (L : List Ed) (hL : L.length ≤ 1000000) : Ab Tryd.prog 23 [edA L, edA L] (ab true) := by
  refine Fn_of_aw (keep := []) Tryd.func23 rfl rfl (by simp [Tryd.ntmps23]) ?_
  simp only [num_cons, num_nil, Tryd.ntmps23, Tryd.results23]
  repeat' (first
 | ((with_reducible apply awO_ev); (· rfl); (· exact sv))
 | ((with_reducible apply aw_seq); intro _ _)
 | (with_reducible apply aw_region)
 | (with_reducible apply aw_block)
 | ((first | (with_reducible apply awO_nil) | (with_reducible apply aw_exit) | (with_reducible apply aw_skip) | (with_reducible apply aw_ret)); (try simp only [CT, ↓reduceIte, Nat.reduceEqDiff]))
 | ((with_reducible apply awO_y); (· rfl); (· rfl); (· decide); (· exact sv); (· exact sv))
 | ((with_reducible apply awO_n); (· rfl); (· rfl); (· decide); (· exact sv); (· rfl); (· rfl); (· decide))
 | ((with_reducible apply awO_u); (· rfl); (· rfl); (· exact svr); (· rfl); (· decide))
 | ((with_reducible apply aw_cond_true); (· exact sv))
 | ((with_reducible apply aw_cond_false); (· exact sv))
 | ((with_reducible apply awO_un); (· rfl); (· decide); (· exact sv))
 | (refine Kont.go ‹Kont _ _ _ _› _ ?_)
 | ((first | ((with_reducible apply awO_guard); (· rfl); (· rfl); (· exact sv)) | ((with_reducible apply aw_cond); (· exact sv))); all_goals (intro hg; (try simp only [Bool.not_true, Bool.not_false]); (try simp only [decide_eq_true_eq, decide_eq_false_iff_not, Bool.not_true, Bool.not_false, Bool.not_eq_true', Bool.not_eq_false', Bool.not_not, beq_eq_false_iff_ne, ne_eq, beq_iff_eq, decide_eq_decide] at hg); try (exfalso; omega)))
 | ((with_reducible apply retQ_mk); (· (first | exact .inr rfl | exact .inl rfl)); (· exact sv); (· exact sv); rotate_left; (· rfl)))
  refine aw_loopF (fun i : Nat => [(5, ai i)]) (fun _ => []) (fun i => i ≤ L.length) (fun i => L.length - i) 0 (by omega) ?_ ?_ ?_
  · exact ⟨rfl, trivial⟩
  · exact trivial
  intro i hi
  (simp only [LP, List.append_assoc, List.nil_append, List.cons_append, List.append_nil, List.contains_cons, List.contains_nil, Nat.reduceBEq, Bool.or_false, Bool.or_true, Bool.true_or, Bool.false_or, ↓reduceIte, Bool.false_eq_true])
  by_cases hil : i < L.length
  · skip
    repeat' (first
 | ((with_reducible apply awO_ev); (· rfl); (· exact sv))
 | ((with_reducible apply aw_seq); intro _ _)
 | (with_reducible apply aw_region)
 | (with_reducible apply aw_block)
 | ((first | (with_reducible apply awO_nil) | (with_reducible apply aw_exit) | (with_reducible apply aw_skip) | (with_reducible apply aw_ret)); (try simp only [CT, ↓reduceIte, Nat.reduceEqDiff]))
 | ((with_reducible apply awO_y); (· rfl); (· rfl); (· decide); (· exact sv); (· exact sv))
 | ((with_reducible apply awO_n); (· rfl); (· rfl); (· decide); (· exact sv); (· rfl); (· rfl); (· decide))
 | ((with_reducible apply awO_u); (· rfl); (· rfl); (· exact svr); (· rfl); (· decide))
 | ((with_reducible apply aw_cond_true); (· exact sv))
 | ((with_reducible apply aw_cond_false); (· exact sv))
 | ((with_reducible apply awO_un); (· rfl); (· decide); (· exact sv))
 | (refine Kont.go ‹Kont _ _ _ _› _ ?_)
 | ((with_reducible apply aw_drawZ); (· decide +kernel); (· decide +kernel))
 | ((with_reducible apply awZ_done); (try simp only [CT, ↓reduceIte, Nat.reduceEqDiff]))
 | ((with_reducible apply awZ_q); (· rfl); (· exact np); (· rfl); (· exact sv))
 | ((with_reducible apply awZ_qy); (· rfl); (· exact np); (· rfl); (· rfl); (· exact nd); (· exact sv); (· exact sv))
 | ((with_reducible apply awZ_qn); (· rfl); (· exact np); (· rfl); (· rfl); (· exact nd); (· exact sv); (· rfl); (· rfl); (· exact nd); simp only [put_some])
 | ((with_reducible apply awZ_qu); (· rfl); (· exact np); (· rfl); (· rfl); (· exact svr); (· rfl); (· exact nd); simp only [put_some])
 | ((with_reducible apply awZ_tn); (· decide +kernel); (· exact np); (· rfl); (· rfl); (· exact nd); (· exact sv); (· rfl); (· rfl); (· exact nd); simp only [put_some])
 | ((with_reducible apply awZ_tu); (· decide +kernel); (· exact np); (· rfl); (· rfl); (· exact svr); (· rfl); (· exact nd); simp only [put_some])
 | ((with_reducible apply awZ_ev); (· decide +kernel); (· rfl); (· exact sv))
 | ((with_reducible apply awZ_guard); (· decide +kernel); (· rfl); (· rfl); (· exact svl); all_goals (intro hg; (try simp only [Bool.not_true, Bool.not_false]); (try simp only [decide_eq_true_eq, decide_eq_false_iff_not, Bool.not_true, Bool.not_false, Bool.not_eq_true', Bool.not_eq_false', Bool.not_not, beq_eq_false_iff_ne, ne_eq, beq_iff_eq, decide_eq_decide] at hg); try (exfalso; omega)))
 | ((first | ((with_reducible apply awO_guard); (· rfl); (· rfl); (· exact sv)) | ((with_reducible apply aw_cond); (· exact sv))); all_goals (intro hg; (try simp only [Bool.not_true, Bool.not_false]); (try simp only [decide_eq_true_eq, decide_eq_false_iff_not, Bool.not_true, Bool.not_false, Bool.not_eq_true', Bool.not_eq_false', Bool.not_not, beq_eq_false_iff_ne, ne_eq, beq_iff_eq, decide_eq_decide] at hg); try (exfalso; omega)))
 | ((with_reducible apply retQ_mk); (· (first | exact .inr rfl | exact .inl rfl)); (· exact sv); (· exact sv); rotate_left; (· rfl)))
    refine LE_mk (i + 1) ?_ ?_ sN sN sN
    · omega
    · omega
  · skip
    repeat' (first
 | ((with_reducible apply awO_ev); (· rfl); (· exact sv))
 | ((with_reducible apply aw_seq); intro _ _)
 | (with_reducible apply aw_region)
 | (with_reducible apply aw_block)
 | ((first | (with_reducible apply awO_nil) | (with_reducible apply aw_exit) | (with_reducible apply aw_skip) | (with_reducible apply aw_ret)); (try simp only [CT, ↓reduceIte, Nat.reduceEqDiff]))
 | ((with_reducible apply awO_y); (· rfl); (· rfl); (· decide); (· exact sv); (· exact sv))
 | ((with_reducible apply awO_n); (· rfl); (· rfl); (· decide); (· exact sv); (· rfl); (· rfl); (· decide))
 | ((with_reducible apply awO_u); (· rfl); (· rfl); (· exact svr); (· rfl); (· decide))
 | ((with_reducible apply aw_cond_true); (· exact sv))
 | ((with_reducible apply aw_cond_false); (· exact sv))
 | ((with_reducible apply awO_un); (· rfl); (· decide); (· exact sv))
 | (refine Kont.go ‹Kont _ _ _ _› _ ?_)
 | ((first | ((with_reducible apply awO_guard); (· rfl); (· rfl); (· exact sv)) | ((with_reducible apply aw_cond); (· exact sv))); all_goals (intro hg; (try simp only [Bool.not_true, Bool.not_false]); (try simp only [decide_eq_true_eq, decide_eq_false_iff_not, Bool.not_true, Bool.not_false, Bool.not_eq_true', Bool.not_eq_false', Bool.not_not, beq_eq_false_iff_ne, ne_eq, beq_iff_eq, decide_eq_decide] at hg); try (exfalso; omega)))
 | ((with_reducible apply retQ_mk); (· (first | exact .inr rfl | exact .inl rfl)); (· exact sv); (· exact sv); rotate_left; (· rfl)))
    all_goals rfl
theorem Ord_get {n : Nat} : ∀ {L : List Ed} {a : Int}, Ord n a L → 0 ≤ a → ∀ k (h : k < L.length), 0 ≤ L[k].f ∧ L[k].f ≤ L[k].t ∧ L[k].t ≤ n
  | e :: l, a, ⟨h1, h2, h3, h4⟩, ha, 0, _ => ⟨by simp; omega, h2, h3⟩
  | e :: l, a, ⟨h1, h2, h3, h4⟩, ha, k + 1, h => by
    simp only [List.getElem_cons_succ]
    exact Ord_get h4 (by omega) k (by simpa using h)
theorem vld_ord {s : List UInt8} {L : List Ed} (h : vldE s L = 0) : L.length ≤ 256 ∧ Ord s.length 0 L ∧ (s.length : Int) + addE L ≤ 16384 := by
  unfold vldE at h
  split at h
  · cases h
  · exact ⟨by omega, vlE_ord _ L 0 _ (by omega) h, vlE_size _ L 0 _ h⟩
/-- The edited string. -/
def apR (s : List UInt8) (L : List Ed) : List UInt8 := if vldE s L = 0 then apE s 0 L else s
theorem apply_ab (s : List UInt8) (L : List Ed) (hs : s.length ≤ 100000) (hL : L.length ≤ 9000000000000000) (ho : edOk L) : Ab Tryd.prog 17 [az s, edA L] (.tp [az (apR s L), ai (vldE s L)]) := by
  have c1 := valid_ab s L hs hL ho
  by_cases h0 : vldE s L = 0
  · obtain ⟨h1, h2, h3⟩ := vld_ord h0
    have hlen := apE_len s L 0 (by omega) h2
    rw [apR, if_pos h0, h0]
    rw [h0] at c1
    refine Fn_of_aw (keep := []) Tryd.func17 rfl rfl (by simp [Tryd.ntmps17]) ?_
    simp only [num_cons, num_nil, Tryd.ntmps17, Tryd.results17]
    refine aw_of_awB tBld 5 ?_
    repeat' (first
 | ((with_reducible apply awBO_new); (· rfl); (· rfl); (· exact zBld); (· rfl); (· exact nd); (· decide); (with_reducible apply awBO_st); (· exact svs))
 | ((with_reducible apply awBO_ws); (· rfl); (· rfl); (· exact sv); (· exact ws_wrs); (· (first | omega | (simp only [List.length_append, List.length_take, List.length_drop, List.length_cons, List.length_nil]; omega))); (· rfl); (· exact nd))
 | ((with_reducible apply awBO_str); (· rfl); (· rfl); (· exact sv); (· exact str_wrt); (· rfl); (· exact nd); (with_reducible apply awBO_st); (· exact svs))
 | ((with_reducible apply awBO_ev); (· rfl); (· exact sv))
 | ((with_reducible apply awB_seq); intro _ _)
 | ((with_reducible apply awB_region))
 | ((with_reducible apply awB_block))
 | ((with_reducible apply awBO_nil); (try simp only [CTB, ↓reduceIte, Nat.reduceEqDiff]))
 | ((with_reducible apply awB_exit); (try simp only [CTB, ↓reduceIte, Nat.reduceEqDiff]))
 | ((with_reducible apply awB_skip); (try simp only [CTB, ↓reduceIte, Nat.reduceEqDiff]))
 | ((with_reducible apply awB_ret); (try simp only [CTB, ↓reduceIte, Nat.reduceEqDiff]))
 | ((with_reducible apply awBO_y); (· rfl); (· rfl); (· decide); (· exact sv); (· exact sv))
 | ((with_reducible apply awBO_n); (· rfl); (· rfl); (· decide); (· exact sv); (· rfl); (· rfl); (· decide))
 | ((with_reducible apply awBO_u); (· rfl); (· rfl); (· exact svr); (· rfl); (· decide))
 | ((with_reducible apply awB_cond_true); (· exact sv))
 | ((with_reducible apply awB_cond_false); (· exact sv))
 | (refine KontB.go ‹KontB _ _ _ _ _ _› _ _ ?_)
 | ((with_reducible apply awBO_c); (· rfl); (· rfl); (· exact sv); (· (first | exact c1)); (· rfl); (· rfl); (· rfl); (· decide))
 | ((with_reducible apply awBO_f); (· rfl); (· rfl); (· exact sv); (· exact sv); (· (first | exact c1)); (· rfl); (· rfl); (· decide))
 | ((with_reducible apply awBO_guard); (· rfl); (· rfl); (· exact sv); all_goals (intro hg; (try simp only [Bool.not_true, Bool.not_false]); (try simp only [decide_eq_true_eq, decide_eq_false_iff_not, Bool.not_true, Bool.not_false, Bool.not_eq_true', Bool.not_eq_false', Bool.not_not, beq_eq_false_iff_ne, ne_eq, beq_iff_eq, decide_eq_decide] at hg); try (exfalso; omega)))
 | ((with_reducible apply awB_cond); (· exact sv); all_goals (intro hg; (try simp only [decide_eq_true_eq, decide_eq_false_iff_not, Bool.not_true, Bool.not_false, Bool.not_eq_true', Bool.not_eq_false', Bool.not_not, beq_eq_false_iff_ne, ne_eq, beq_iff_eq, decide_eq_decide] at hg); try (exfalso; omega)))
 | ((with_reducible apply retQ_mk); (· (first | exact .inr rfl | exact .inl rfl)); (· exact sv); (· exact sv); rotate_left; (· rfl))
 | ((with_reducible apply wk_id); (with_reducible apply retQ_mk); (· (first | exact .inr rfl | exact .inl rfl)); (· exact sv); (· exact sv); rotate_left; (· rfl))
 | ((try with_reducible apply wk_id); (with_reducible apply retQ_mk1); (· (first | exact .inr rfl | exact .inl rfl)); (· exact sv); (· exact sv); (· exact sv); (· exact sv); rotate_left; rotate_left; (· simp); (· rfl))
 | ((try with_reducible apply wk_id); (with_reducible apply retQ_mk2); (· (first | exact .inr rfl | exact .inl rfl)); (· exact sv); (· exact sv); (· exact sv); (· exact sv); (· exact sv); (· exact sv); rotate_left; rotate_left; rotate_left; (· simp); (· simp); (· rfl)))
    refine awB_loopF (fun x : Nat × Int × List UInt8 => [(20, ai x.1), (8, ai x.2.1)]) (fun _ => []) (fun x => some (7, x.2.2)) (fun x => x.1 ≤ L.length ∧ apE s 0 L = x.2.2 ++ apE s x.2.1.toNat (L.drop x.1) ∧ Ord s.length x.2.1 (L.drop x.1) ∧ 0 ≤ x.2.1 ∧ x.2.1 ≤ s.length) (fun x => L.length - x.1) (0, 0, []) ⟨by simp only; omega, rfl, h2, by simp only; omega, by simp only; omega⟩ rfl ?_ ?_ ?_
    · exact ⟨rfl, rfl, trivial⟩
    · exact trivial
    intro ⟨i, last, out⟩ ⟨hi, hI, hO, hb1, hb2⟩
    (simp only [LP, List.append_assoc, List.nil_append, List.cons_append, List.append_nil, List.contains_cons, List.contains_nil, Nat.reduceBEq, Bool.or_false, Bool.or_true, Bool.true_or, Bool.false_or, ↓reduceIte, Bool.false_eq_true])
    simp only at hi hI hO hb1 hb2
    have hol := congrArg List.length hI
    rw [List.length_append] at hol
    by_cases hil : i < L.length
    · obtain ⟨o1, o2, o3, o4, o5⟩ := ho i hil
      rw [List.drop_eq_getElem_cons hil] at hO hI
      obtain ⟨q1, q2, q3, q4⟩ := hO
      rw [apE] at hI
      have hpl := prt_len (s := s) (a := last.toNat) (b := L[i].f.toNat) (by omega) (by omega)
      have hol := congrArg List.length hI
      simp only [List.length_append] at hol
      repeat' (first
 | ((with_reducible apply awBO_new); (· rfl); (· rfl); (· exact zBld); (· rfl); (· exact nd); (· decide); (with_reducible apply awBO_st); (· exact svs))
 | ((with_reducible apply awBO_ws); (· rfl); (· rfl); (· exact sv); (· exact ws_wrs); (· (first | omega | (simp only [List.length_append, List.length_take, List.length_drop, List.length_cons, List.length_nil]; omega))); (· rfl); (· exact nd))
 | ((with_reducible apply awBO_str); (· rfl); (· rfl); (· exact sv); (· exact str_wrt); (· rfl); (· exact nd); (with_reducible apply awBO_st); (· exact svs))
 | ((with_reducible apply awBO_ev); (· rfl); (· exact sv))
 | ((with_reducible apply awB_seq); intro _ _)
 | ((with_reducible apply awB_region))
 | ((with_reducible apply awB_block))
 | ((with_reducible apply awBO_nil); (try simp only [CTB, ↓reduceIte, Nat.reduceEqDiff]))
 | ((with_reducible apply awB_exit); (try simp only [CTB, ↓reduceIte, Nat.reduceEqDiff]))
 | ((with_reducible apply awB_skip); (try simp only [CTB, ↓reduceIte, Nat.reduceEqDiff]))
 | ((with_reducible apply awB_ret); (try simp only [CTB, ↓reduceIte, Nat.reduceEqDiff]))
 | ((with_reducible apply awBO_y); (· rfl); (· rfl); (· decide); (· exact sv); (· exact sv))
 | ((with_reducible apply awBO_n); (· rfl); (· rfl); (· decide); (· exact sv); (· rfl); (· rfl); (· decide))
 | ((with_reducible apply awBO_u); (· rfl); (· rfl); (· exact svr); (· rfl); (· decide))
 | ((with_reducible apply awB_cond_true); (· exact sv))
 | ((with_reducible apply awB_cond_false); (· exact sv))
 | (refine KontB.go ‹KontB _ _ _ _ _ _› _ _ ?_)
 | ((with_reducible apply awBO_c); (· rfl); (· rfl); (· exact sv); (· (first | fail)); (· rfl); (· rfl); (· rfl); (· decide))
 | ((with_reducible apply awBO_f); (· rfl); (· rfl); (· exact sv); (· exact sv); (· (first | fail)); (· rfl); (· rfl); (· decide))
 | ((with_reducible apply awBO_guard); (· rfl); (· rfl); (· exact sv); all_goals (intro hg; (try simp only [Bool.not_true, Bool.not_false]); (try simp only [decide_eq_true_eq, decide_eq_false_iff_not, Bool.not_true, Bool.not_false, Bool.not_eq_true', Bool.not_eq_false', Bool.not_not, beq_eq_false_iff_ne, ne_eq, beq_iff_eq, decide_eq_decide] at hg); try (exfalso; omega)))
 | ((with_reducible apply awB_cond); (· exact sv); all_goals (intro hg; (try simp only [decide_eq_true_eq, decide_eq_false_iff_not, Bool.not_true, Bool.not_false, Bool.not_eq_true', Bool.not_eq_false', Bool.not_not, beq_eq_false_iff_ne, ne_eq, beq_iff_eq, decide_eq_decide] at hg); try (exfalso; omega)))
 | ((with_reducible apply retQ_mk); (· (first | exact .inr rfl | exact .inl rfl)); (· exact sv); (· exact sv); rotate_left; (· rfl))
 | ((with_reducible apply wk_id); (with_reducible apply retQ_mk); (· (first | exact .inr rfl | exact .inl rfl)); (· exact sv); (· exact sv); rotate_left; (· rfl))
 | ((try with_reducible apply wk_id); (with_reducible apply retQ_mk1); (· (first | exact .inr rfl | exact .inl rfl)); (· exact sv); (· exact sv); (· exact sv); (· exact sv); rotate_left; rotate_left; (· simp); (· rfl))
 | ((try with_reducible apply wk_id); (with_reducible apply retQ_mk2); (· (first | exact .inr rfl | exact .inl rfl)); (· exact sv); (· exact sv); (· exact sv); (· exact sv); (· exact sv); (· exact sv); rotate_left; rotate_left; rotate_left; (· simp); (· simp); (· rfl)))
      refine LEB_mk (i + 1, L[i].t, out ++ prt s last.toNat L[i].f.toNat ++ L[i].x) ?_ ?_ rfl ?_ sN sN
      · exact ⟨by simp only; omega, by simp only [hI, List.append_assoc], q4, by simp only; omega, by simp only; omega⟩
      · simp only; omega
      · exact ⟨rfl, rfl, trivial⟩
    · rw [List.drop_eq_nil_of_le (by omega), apE] at hI
      repeat' (first
 | ((with_reducible apply awBO_new); (· rfl); (· rfl); (· exact zBld); (· rfl); (· exact nd); (· decide); (with_reducible apply awBO_st); (· exact svs))
 | ((with_reducible apply awBO_ws); (· rfl); (· rfl); (· exact sv); (· exact ws_wrs); (· (first | omega | (simp only [List.length_append, List.length_take, List.length_drop, List.length_cons, List.length_nil]; omega))); (· rfl); (· exact nd))
 | ((with_reducible apply awBO_str); (· rfl); (· rfl); (· exact sv); (· exact str_wrt); (· rfl); (· exact nd); (with_reducible apply awBO_st); (· exact svs))
 | ((with_reducible apply awBO_ev); (· rfl); (· exact sv))
 | ((with_reducible apply awB_seq); intro _ _)
 | ((with_reducible apply awB_region))
 | ((with_reducible apply awB_block))
 | ((with_reducible apply awBO_nil); (try simp only [CTB, ↓reduceIte, Nat.reduceEqDiff]))
 | ((with_reducible apply awB_exit); (try simp only [CTB, ↓reduceIte, Nat.reduceEqDiff]))
 | ((with_reducible apply awB_skip); (try simp only [CTB, ↓reduceIte, Nat.reduceEqDiff]))
 | ((with_reducible apply awB_ret); (try simp only [CTB, ↓reduceIte, Nat.reduceEqDiff]))
 | ((with_reducible apply awBO_y); (· rfl); (· rfl); (· decide); (· exact sv); (· exact sv))
 | ((with_reducible apply awBO_n); (· rfl); (· rfl); (· decide); (· exact sv); (· rfl); (· rfl); (· decide))
 | ((with_reducible apply awBO_u); (· rfl); (· rfl); (· exact svr); (· rfl); (· decide))
 | ((with_reducible apply awB_cond_true); (· exact sv))
 | ((with_reducible apply awB_cond_false); (· exact sv))
 | (refine KontB.go ‹KontB _ _ _ _ _ _› _ _ ?_)
 | ((with_reducible apply awBO_c); (· rfl); (· rfl); (· exact sv); (· (first | fail)); (· rfl); (· rfl); (· rfl); (· decide))
 | ((with_reducible apply awBO_f); (· rfl); (· rfl); (· exact sv); (· exact sv); (· (first | fail)); (· rfl); (· rfl); (· decide))
 | ((with_reducible apply awBO_guard); (· rfl); (· rfl); (· exact sv); all_goals (intro hg; (try simp only [Bool.not_true, Bool.not_false]); (try simp only [decide_eq_true_eq, decide_eq_false_iff_not, Bool.not_true, Bool.not_false, Bool.not_eq_true', Bool.not_eq_false', Bool.not_not, beq_eq_false_iff_ne, ne_eq, beq_iff_eq, decide_eq_decide] at hg); try (exfalso; omega)))
 | ((with_reducible apply awB_cond); (· exact sv); all_goals (intro hg; (try simp only [decide_eq_true_eq, decide_eq_false_iff_not, Bool.not_true, Bool.not_false, Bool.not_eq_true', Bool.not_eq_false', Bool.not_not, beq_eq_false_iff_ne, ne_eq, beq_iff_eq, decide_eq_decide] at hg); try (exfalso; omega)))
 | ((with_reducible apply retQ_mk); (· (first | exact .inr rfl | exact .inl rfl)); (· exact sv); (· exact sv); rotate_left; (· rfl))
 | ((with_reducible apply wk_id); (with_reducible apply retQ_mk); (· (first | exact .inr rfl | exact .inl rfl)); (· exact sv); (· exact sv); rotate_left; (· rfl))
 | ((try with_reducible apply wk_id); (with_reducible apply retQ_mk1); (· (first | exact .inr rfl | exact .inl rfl)); (· exact sv); (· exact sv); (· exact sv); (· exact sv); rotate_left; rotate_left; (· simp); (· rfl))
 | ((try with_reducible apply wk_id); (with_reducible apply retQ_mk2); (· (first | exact .inr rfl | exact .inl rfl)); (· exact sv); (· exact sv); (· exact sv); (· exact sv); (· exact sv); (· exact sv); rotate_left; rotate_left; rotate_left; (· simp); (· simp); (· rfl)))
      all_goals rw [hI]
  · rw [apR, if_neg h0]
    generalize vldE s L = v at *
    refine Fn_of_aw (keep := []) Tryd.func17 rfl rfl (by simp [Tryd.ntmps17]) ?_
    simp only [num_cons, num_nil, Tryd.ntmps17, Tryd.results17]
    repeat' (first
 | ((with_reducible apply awO_ev); (· rfl); (· exact sv))
 | ((with_reducible apply aw_seq); intro _ _)
 | (with_reducible apply aw_region)
 | (with_reducible apply aw_block)
 | ((first | (with_reducible apply awO_nil) | (with_reducible apply aw_exit) | (with_reducible apply aw_skip) | (with_reducible apply aw_ret)); (try simp only [CT, ↓reduceIte, Nat.reduceEqDiff]))
 | ((with_reducible apply awO_y); (· rfl); (· rfl); (· decide); (· exact sv); (· exact sv))
 | ((with_reducible apply awO_n); (· rfl); (· rfl); (· decide); (· exact sv); (· rfl); (· rfl); (· decide))
 | ((with_reducible apply awO_u); (· rfl); (· rfl); (· exact svr); (· rfl); (· decide))
 | ((with_reducible apply aw_cond_true); (· exact sv))
 | ((with_reducible apply aw_cond_false); (· exact sv))
 | ((with_reducible apply awO_un); (· rfl); (· decide); (· exact sv))
 | (refine Kont.go ‹Kont _ _ _ _› _ ?_)
 | ((with_reducible apply awO_c); (· rfl); (· rfl); (· exact sv); (· (first | exact c1)); (· rfl); (· rfl); (· rfl); (· decide))
 | ((with_reducible apply awO_f); (· rfl); (· rfl); (· exact sv); (· exact sv); (· (first | exact c1)); (· rfl); (· rfl); (· decide))
 | ((with_reducible apply awO_m); (· rfl); (· rfl); (· exact sv); (· (first | exact c1)); (· exact svq); (· exact svq); (· exact svq); (· exact svq); (· rfl); (· exact nd); (with_reducible apply awO_st); (· exact svs))
 | ((first | ((with_reducible apply awO_guard); (· rfl); (· rfl); (· exact sv)) | ((with_reducible apply aw_cond); (· exact sv))); all_goals (intro hg; (try simp only [Bool.not_true, Bool.not_false]); (try simp only [decide_eq_true_eq, decide_eq_false_iff_not, Bool.not_true, Bool.not_false, Bool.not_eq_true', Bool.not_eq_false', Bool.not_not, beq_eq_false_iff_ne, ne_eq, beq_iff_eq, decide_eq_decide] at hg); try (exfalso; omega)))
 | ((with_reducible apply retQ_mk); (· (first | exact .inr rfl | exact .inl rfl)); (· exact sv); (· exact sv); rotate_left; (· rfl)))
    all_goals rfl
theorem rapply_ab (s : List UInt8) (L : List Ed) (hs : s.length ≤ 100000) (ho : edOk L) (h0 : vldE s L = 0) : Ab Tryd.prog 34 [az s, edA L] (az (apE s 0 L)) := by
  obtain ⟨h1, h2, h3⟩ := vld_ord h0
  have hlen := apE_len s L 0 (by omega) h2
  refine Fn_of_aw (keep := []) Tryd.func34 rfl rfl (by simp [Tryd.ntmps34]) ?_
  simp only [num_cons, num_nil, Tryd.ntmps34, Tryd.results34]
  repeat' (first
 | ((with_reducible apply awO_ev); (· rfl); (· exact sv))
 | ((with_reducible apply aw_seq); intro _ _)
 | (with_reducible apply aw_region)
 | (with_reducible apply aw_block)
 | ((first | (with_reducible apply awO_nil) | (with_reducible apply aw_exit) | (with_reducible apply aw_skip) | (with_reducible apply aw_ret)); (try simp only [CT, ↓reduceIte, Nat.reduceEqDiff]))
 | ((with_reducible apply awO_y); (· rfl); (· rfl); (· decide); (· exact sv); (· exact sv))
 | ((with_reducible apply awO_n); (· rfl); (· rfl); (· decide); (· exact sv); (· rfl); (· rfl); (· decide))
 | ((with_reducible apply awO_u); (· rfl); (· rfl); (· exact svr); (· rfl); (· decide))
 | ((with_reducible apply aw_cond_true); (· exact sv))
 | ((with_reducible apply aw_cond_false); (· exact sv))
 | ((with_reducible apply awO_un); (· rfl); (· decide); (· exact sv))
 | (refine Kont.go ‹Kont _ _ _ _› _ ?_)
 | ((first | ((with_reducible apply awO_guard); (· rfl); (· rfl); (· exact sv)) | ((with_reducible apply aw_cond); (· exact sv))); all_goals (intro hg; (try simp only [Bool.not_true, Bool.not_false]); (try simp only [decide_eq_true_eq, decide_eq_false_iff_not, Bool.not_true, Bool.not_false, Bool.not_eq_true', Bool.not_eq_false', Bool.not_not, beq_eq_false_iff_ne, ne_eq, beq_iff_eq, decide_eq_decide] at hg); try (exfalso; omega)))
 | ((with_reducible apply retQ_mk); (· (first | exact .inr rfl | exact .inl rfl)); (· exact sv); (· exact sv); rotate_left; (· rfl)))
  refine aw_loopF (fun x : Nat × Int × List UInt8 => [(7, ai x.1), (6, ai x.2.1), (5, az x.2.2)]) (fun _ => []) (fun x => x.1 ≤ L.length ∧ apE s 0 L = x.2.2 ++ apE s x.2.1.toNat (L.drop x.1) ∧ Ord s.length x.2.1 (L.drop x.1) ∧ 0 ≤ x.2.1 ∧ x.2.1 ≤ s.length) (fun x => L.length - x.1) (0, 0, []) ⟨by simp only; omega, rfl, h2, by simp only; omega, by simp only; omega⟩ ?_ ?_ ?_
  · exact ⟨rfl, rfl, rfl, trivial⟩
  · exact trivial
  intro ⟨i, last, out⟩ ⟨hi, hI, hO, hb1, hb2⟩
  (simp only [LP, List.append_assoc, List.nil_append, List.cons_append, List.append_nil, List.contains_cons, List.contains_nil, Nat.reduceBEq, Bool.or_false, Bool.or_true, Bool.true_or, Bool.false_or, ↓reduceIte, Bool.false_eq_true])
  simp only at hi hI hO hb1 hb2
  have hol := congrArg List.length hI
  rw [List.length_append] at hol
  by_cases hil : i < L.length
  · obtain ⟨o1, o2, o3, o4, o5⟩ := ho i hil
    rw [List.drop_eq_getElem_cons hil] at hO hI
    obtain ⟨q1, q2, q3, q4⟩ := hO
    rw [apE] at hI
    have hpl := prt_len (s := s) (a := last.toNat) (b := L[i].f.toNat) (by omega) (by omega)
    have hol := congrArg List.length hI
    simp only [List.length_append] at hol
    repeat' (first
 | ((with_reducible apply awO_ev); (· rfl); (· exact sv))
 | ((with_reducible apply aw_seq); intro _ _)
 | (with_reducible apply aw_region)
 | (with_reducible apply aw_block)
 | ((first | (with_reducible apply awO_nil) | (with_reducible apply aw_exit) | (with_reducible apply aw_skip) | (with_reducible apply aw_ret)); (try simp only [CT, ↓reduceIte, Nat.reduceEqDiff]))
 | ((with_reducible apply awO_y); (· rfl); (· rfl); (· decide); (· exact sv); (· exact sv))
 | ((with_reducible apply awO_n); (· rfl); (· rfl); (· decide); (· exact sv); (· rfl); (· rfl); (· decide))
 | ((with_reducible apply awO_u); (· rfl); (· rfl); (· exact svr); (· rfl); (· decide))
 | ((with_reducible apply aw_cond_true); (· exact sv))
 | ((with_reducible apply aw_cond_false); (· exact sv))
 | ((with_reducible apply awO_un); (· rfl); (· decide); (· exact sv))
 | (refine Kont.go ‹Kont _ _ _ _› _ ?_)
 | ((with_reducible apply aw_drawZ); (· decide +kernel); (· decide +kernel))
 | ((with_reducible apply awZ_done); (try simp only [CT, ↓reduceIte, Nat.reduceEqDiff]))
 | ((with_reducible apply awZ_q); (· rfl); (· exact np); (· rfl); (· exact sv))
 | ((with_reducible apply awZ_qy); (· rfl); (· exact np); (· rfl); (· rfl); (· exact nd); (· exact sv); (· exact sv))
 | ((with_reducible apply awZ_qn); (· rfl); (· exact np); (· rfl); (· rfl); (· exact nd); (· exact sv); (· rfl); (· rfl); (· exact nd); simp only [put_some])
 | ((with_reducible apply awZ_qu); (· rfl); (· exact np); (· rfl); (· rfl); (· exact svr); (· rfl); (· exact nd); simp only [put_some])
 | ((with_reducible apply awZ_tn); (· decide +kernel); (· exact np); (· rfl); (· rfl); (· exact nd); (· exact sv); (· rfl); (· rfl); (· exact nd); simp only [put_some])
 | ((with_reducible apply awZ_tu); (· decide +kernel); (· exact np); (· rfl); (· rfl); (· exact svr); (· rfl); (· exact nd); simp only [put_some])
 | ((with_reducible apply awZ_ev); (· decide +kernel); (· rfl); (· exact sv))
 | ((with_reducible apply awZ_guard); (· decide +kernel); (· rfl); (· rfl); (· exact svl); all_goals (intro hg; (try simp only [Bool.not_true, Bool.not_false]); (try simp only [decide_eq_true_eq, decide_eq_false_iff_not, Bool.not_true, Bool.not_false, Bool.not_eq_true', Bool.not_eq_false', Bool.not_not, beq_eq_false_iff_ne, ne_eq, beq_iff_eq, decide_eq_decide] at hg); try (exfalso; omega)))
 | ((first | ((with_reducible apply awO_guard); (· rfl); (· rfl); (· exact sv)) | ((with_reducible apply aw_cond); (· exact sv))); all_goals (intro hg; (try simp only [Bool.not_true, Bool.not_false]); (try simp only [decide_eq_true_eq, decide_eq_false_iff_not, Bool.not_true, Bool.not_false, Bool.not_eq_true', Bool.not_eq_false', Bool.not_not, beq_eq_false_iff_ne, ne_eq, beq_iff_eq, decide_eq_decide] at hg); try (exfalso; omega)))
 | ((with_reducible apply retQ_mk); (· (first | exact .inr rfl | exact .inl rfl)); (· exact sv); (· exact sv); rotate_left; (· rfl)))
    refine LE_mk (i + 1, L[i].t, out ++ prt s last.toNat L[i].f.toNat ++ L[i].x) ?_ ?_ ?_ sN sN
    · exact ⟨by simp only; omega, by simp only [hI, List.append_assoc], q4, by simp only; omega, by simp only; omega⟩
    · simp only; omega
    · exact ⟨rfl, rfl, rfl, trivial⟩
  · rw [List.drop_eq_nil_of_le (by omega), apE] at hI
    repeat' (first
 | ((with_reducible apply awO_ev); (· rfl); (· exact sv))
 | ((with_reducible apply aw_seq); intro _ _)
 | (with_reducible apply aw_region)
 | (with_reducible apply aw_block)
 | ((first | (with_reducible apply awO_nil) | (with_reducible apply aw_exit) | (with_reducible apply aw_skip) | (with_reducible apply aw_ret)); (try simp only [CT, ↓reduceIte, Nat.reduceEqDiff]))
 | ((with_reducible apply awO_y); (· rfl); (· rfl); (· decide); (· exact sv); (· exact sv))
 | ((with_reducible apply awO_n); (· rfl); (· rfl); (· decide); (· exact sv); (· rfl); (· rfl); (· decide))
 | ((with_reducible apply awO_u); (· rfl); (· rfl); (· exact svr); (· rfl); (· decide))
 | ((with_reducible apply aw_cond_true); (· exact sv))
 | ((with_reducible apply aw_cond_false); (· exact sv))
 | ((with_reducible apply awO_un); (· rfl); (· decide); (· exact sv))
 | (refine Kont.go ‹Kont _ _ _ _› _ ?_)
 | ((first | ((with_reducible apply awO_guard); (· rfl); (· rfl); (· exact sv)) | ((with_reducible apply aw_cond); (· exact sv))); all_goals (intro hg; (try simp only [Bool.not_true, Bool.not_false]); (try simp only [decide_eq_true_eq, decide_eq_false_iff_not, Bool.not_true, Bool.not_false, Bool.not_eq_true', Bool.not_eq_false', Bool.not_not, beq_eq_false_iff_ne, ne_eq, beq_iff_eq, decide_eq_decide] at hg); try (exfalso; omega)))
 | ((with_reducible apply retQ_mk); (· (first | exact .inr rfl | exact .inl rfl)); (· exact sv); (· exact sv); rotate_left; (· rfl)))
    all_goals rw [hI]
theorem rapplyF_ab (s : List UInt8) (L : List Ed) (hs : s.length ≤ 100000) (hL : L.length ≤ 9000000000000000) (ho : edOk L) : Ab Tryd.prog 18 [az s, edA L] (.tp [az (apR s L), ai (vldE s L)]) := by
  have c1 := rvalid_ab s L hs hL ho
  by_cases h0 : vldE s L = 0
  · have c2 := rapply_ab s L hs ho h0
    rw [apR, if_pos h0, h0]
    rw [h0] at c1
    refine Fn_of_aw (keep := []) Tryd.func18 rfl rfl (by simp [Tryd.ntmps18]) ?_
    simp only [num_cons, num_nil, Tryd.ntmps18, Tryd.results18]
    repeat' (first
 | ((with_reducible apply awO_ev); (· rfl); (· exact sv))
 | ((with_reducible apply aw_seq); intro _ _)
 | (with_reducible apply aw_region)
 | (with_reducible apply aw_block)
 | ((first | (with_reducible apply awO_nil) | (with_reducible apply aw_exit) | (with_reducible apply aw_skip) | (with_reducible apply aw_ret)); (try simp only [CT, ↓reduceIte, Nat.reduceEqDiff]))
 | ((with_reducible apply awO_y); (· rfl); (· rfl); (· decide); (· exact sv); (· exact sv))
 | ((with_reducible apply awO_n); (· rfl); (· rfl); (· decide); (· exact sv); (· rfl); (· rfl); (· decide))
 | ((with_reducible apply awO_u); (· rfl); (· rfl); (· exact svr); (· rfl); (· decide))
 | ((with_reducible apply aw_cond_true); (· exact sv))
 | ((with_reducible apply aw_cond_false); (· exact sv))
 | ((with_reducible apply awO_un); (· rfl); (· decide); (· exact sv))
 | (refine Kont.go ‹Kont _ _ _ _› _ ?_)
 | ((with_reducible apply awO_c); (· rfl); (· rfl); (· exact sv); (· (first | exact c1 | exact c2)); (· rfl); (· rfl); (· rfl); (· decide))
 | ((with_reducible apply awO_f); (· rfl); (· rfl); (· exact sv); (· exact sv); (· (first | exact c1 | exact c2)); (· rfl); (· rfl); (· decide))
 | ((with_reducible apply awO_m); (· rfl); (· rfl); (· exact sv); (· (first | exact c1 | exact c2)); (· exact svq); (· exact svq); (· exact svq); (· exact svq); (· rfl); (· exact nd); (with_reducible apply awO_st); (· exact svs))
 | ((first | ((with_reducible apply awO_guard); (· rfl); (· rfl); (· exact sv)) | ((with_reducible apply aw_cond); (· exact sv))); all_goals (intro hg; (try simp only [Bool.not_true, Bool.not_false]); (try simp only [decide_eq_true_eq, decide_eq_false_iff_not, Bool.not_true, Bool.not_false, Bool.not_eq_true', Bool.not_eq_false', Bool.not_not, beq_eq_false_iff_ne, ne_eq, beq_iff_eq, decide_eq_decide] at hg); try (exfalso; omega)))
 | ((with_reducible apply retQ_mk); (· (first | exact .inr rfl | exact .inl rfl)); (· exact sv); (· exact sv); rotate_left; (· rfl)))
    all_goals rfl
  · rw [apR, if_neg h0]
    generalize vldE s L = v at *
    refine Fn_of_aw (keep := []) Tryd.func18 rfl rfl (by simp [Tryd.ntmps18]) ?_
    simp only [num_cons, num_nil, Tryd.ntmps18, Tryd.results18]
    repeat' (first
 | ((with_reducible apply awO_ev); (· rfl); (· exact sv))
 | ((with_reducible apply aw_seq); intro _ _)
 | (with_reducible apply aw_region)
 | (with_reducible apply aw_block)
 | ((first | (with_reducible apply awO_nil) | (with_reducible apply aw_exit) | (with_reducible apply aw_skip) | (with_reducible apply aw_ret)); (try simp only [CT, ↓reduceIte, Nat.reduceEqDiff]))
 | ((with_reducible apply awO_y); (· rfl); (· rfl); (· decide); (· exact sv); (· exact sv))
 | ((with_reducible apply awO_n); (· rfl); (· rfl); (· decide); (· exact sv); (· rfl); (· rfl); (· decide))
 | ((with_reducible apply awO_u); (· rfl); (· rfl); (· exact svr); (· rfl); (· decide))
 | ((with_reducible apply aw_cond_true); (· exact sv))
 | ((with_reducible apply aw_cond_false); (· exact sv))
 | ((with_reducible apply awO_un); (· rfl); (· decide); (· exact sv))
 | (refine Kont.go ‹Kont _ _ _ _› _ ?_)
 | ((with_reducible apply awO_c); (· rfl); (· rfl); (· exact sv); (· (first | exact c1)); (· rfl); (· rfl); (· rfl); (· decide))
 | ((with_reducible apply awO_f); (· rfl); (· rfl); (· exact sv); (· exact sv); (· (first | exact c1)); (· rfl); (· rfl); (· decide))
 | ((with_reducible apply awO_m); (· rfl); (· rfl); (· exact sv); (· (first | exact c1)); (· exact svq); (· exact svq); (· exact svq); (· exact svq); (· rfl); (· exact nd); (with_reducible apply awO_st); (· exact svs))
 | ((first | ((with_reducible apply awO_guard); (· rfl); (· rfl); (· exact sv)) | ((with_reducible apply aw_cond); (· exact sv))); all_goals (intro hg; (try simp only [Bool.not_true, Bool.not_false]); (try simp only [decide_eq_true_eq, decide_eq_false_iff_not, Bool.not_true, Bool.not_false, Bool.not_eq_true', Bool.not_eq_false', Bool.not_not, beq_eq_false_iff_ne, ne_eq, beq_iff_eq, decide_eq_decide] at hg); try (exfalso; omega)))
 | ((with_reducible apply retQ_mk); (· (first | exact .inr rfl | exact .inl rfl)); (· exact sv); (· exact sv); rotate_left; (· rfl)))
    all_goals rfl
end Go.Proofs.YtbjhecllejdfaaaDoor
