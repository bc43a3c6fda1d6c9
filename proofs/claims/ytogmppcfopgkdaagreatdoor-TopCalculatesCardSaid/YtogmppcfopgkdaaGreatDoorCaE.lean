/- Arithmetic expressions: the parser's small functions, on the abstract machine. -/
import Derived.Test.YtogmppcfopgkdaaGreatDoorCaD
import Derived.Test.YtogmppcfopgkdaaGreatDoorChN
namespace Go.Proofs.YtogmppcfopgkdaaGreatDoor
open Go.RowKit
set_option linter.unusedVariables false
set_option linter.unusedSimpArgs false
set_option maxRecDepth 100000
set_option maxHeartbeats 8000000
abbrev binC (L : List (List UInt8 × Int × Int)) : List AV := L.flatMap fun o => [az o.1, ai o.2.1, ai o.2.2]
theorem binaries_ab : Ab Tryz.prog 98 [] (.rd 18 (binC binL)) := by
  refine Fn_of_aw (keep := []) Tryz.func98 rfl rfl (by simp [Tryz.ntmps98]) ?_
  simp only [num_cons, num_nil, Tryz.ntmps98, Tryz.results98]
  exact wkA
theorem compound_ab (op : Int) : Ab Tryz.prog 99 [ai op] (ab (cmpB op)) := by
  refine Fn_of_aw (keep := []) Tryz.func99 rfl rfl (by simp [Tryz.ntmps99]) ?_
  simp only [num_cons, num_nil, Tryz.ntmps99, Tryz.results99]
  repeat' (first
 | ((with_reducible apply awO_ev); (· rfl); (· exact sv))
 | ((with_reducible apply aw_seq); intro _ _)
 | (with_reducible apply aw_region)
 | (with_reducible apply aw_block)
 | ((with_reducible first | apply awO_nil | apply aw_exit | apply aw_skip | apply aw_ret); (try simp only [CT, ↓reduceIte, Nat.reduceEqDiff]))
 | (refine Kont.go ‹Kont _ _ _ _› _ ?_)
 | ((first | ((with_reducible apply awO_guardN); (· rfl); (· rfl); (· exact sv); (· exact nB)) | ((with_reducible apply aw_condN); (· exact sv))); (· exact pN); (· exact pN); all_goals (intro hg; try (exfalso; omega)))
 | ((with_reducible apply retQ_mk); (· exact rI); (· exact sv); (· exact sv); rotate_left; (· rfl)))
  all_goals (unfold cmpB; (refine ab_eq ?_; simp only [Bool.false_eq_true, decide_eq_true_eq, true_iff, false_iff, iff_true, iff_false, not_true, not_false_eq_true]; omega))
def sufB (p l : List UInt8) : Bool := decide (p.length ≤ l.length ∧ l.drop (l.length - p.length) = p)
theorem slHasSuffix_ab (l p : List UInt8) (hl : l.length ≤ 1000000) (hp : p.length ≤ 100000) : Ab Tryz.prog 146 [az l, az p] (ab (sufB p l)) := by
  refine Fn_of_aw (keep := []) Tryz.func146 rfl rfl (by simp [Tryz.ntmps146]) ?_
  simp only [num_cons, num_nil, Tryz.ntmps146, Tryz.results146]
  repeat' (first
 | ((with_reducible apply awO_ev); (· rfl); (· exact sv))
 | ((with_reducible apply aw_seq); intro _ _)
 | (with_reducible apply aw_region)
 | ((with_reducible first | apply awO_nil | apply aw_exit | apply aw_skip | apply aw_ret); (try simp only [CT, ↓reduceIte, Nat.reduceEqDiff]))
 | ((with_reducible apply awO_y); (· rfl); (· rfl); (· decide); (· exact sv); (· exact sv))
 | ((with_reducible apply awO_n); (· rfl); (· rfl); (· decide); (· exact sv); (· rfl); (· rfl); (· decide))
 | (refine Kont.go ‹Kont _ _ _ _› _ ?_)
 | ((first | ((with_reducible apply awO_guardN); (· rfl); (· rfl); (· exact sv); (· exact nB)) | ((with_reducible apply aw_condN); (· exact sv))); (· exact pN); (· exact pN); all_goals (intro hg; try (exfalso; omega)))
 | ((with_reducible apply retQ_mk); (· exact rI); (· exact sv); (· exact sv); rotate_left; (· rfl)))
  all_goals (refine ab_eq ?_; simp only [sufB, decide_eq_true_eq, Bool.false_eq_true, false_iff])
  · constructor
    · intro h; exact ⟨by omega, h⟩
    · exact fun h => h.2
  · intro h; omega
theorem hasSuffix_ab (l p : List UInt8) (hl : l.length ≤ 1000000) (hp : p.length ≤ 100000) : Ab Tryz.prog 96 [az l, az p] (ab (sufB p l)) := by
  refine Fn_of_aw (keep := []) Tryz.func96 rfl rfl (by simp [Tryz.ntmps96]) ?_
  simp only [num_cons, num_nil, Tryz.ntmps96, Tryz.results96]
  repeat' (first
 | ((with_reducible apply awO_ev); (· rfl); (· exact sv))
 | ((with_reducible apply aw_seq); intro _ _)
 | (with_reducible apply aw_region)
 | ((with_reducible first | apply awO_nil | apply aw_exit | apply aw_skip | apply aw_ret); (try simp only [CT, ↓reduceIte, Nat.reduceEqDiff]))
 | (refine Kont.go ‹Kont _ _ _ _› _ ?_)
 | ((with_reducible apply awO_c); (· rfl); (· rfl); (· exact sv); (· (first | exact slHasSuffix_ab _ _ hl hp)); (· rfl); (· rfl); (· rfl); (· decide))
 | ((with_reducible apply retQ_mk); (· exact rI); (· exact sv); (· exact sv); rotate_left; (· rfl)))
  rfl
theorem slTrimSuffix_ab (l p : List UInt8) (hl : l.length ≤ 1000000) (hp : p.length ≤ 100000) (h : sufB p l = true) : Ab Tryz.prog 147 [az l, az p] (az (l.take (l.length - p.length))) := by
  have c1 := slHasSuffix_ab l p hl hp
  rw [h] at c1
  have h' := h
  simp only [sufB, decide_eq_true_eq] at h'
  refine Fn_of_aw (keep := []) Tryz.func147 rfl rfl (by simp [Tryz.ntmps147]) ?_
  simp only [num_cons, num_nil, Tryz.ntmps147, Tryz.results147]
  exact wkB
theorem trimSuffix_ab (l p : List UInt8) (hl : l.length ≤ 1000000) (hp : p.length ≤ 100000) (h : sufB p l = true) : Ab Tryz.prog 97 [az l, az p] (az (l.take (l.length - p.length))) := by
  refine Fn_of_aw (keep := []) Tryz.func97 rfl rfl (by simp [Tryz.ntmps97]) ?_
  simp only [num_cons, num_nil, Tryz.ntmps97, Tryz.results97]
  repeat' (first
 | ((with_reducible apply awO_ev); (· rfl); (· exact sv))
 | ((with_reducible apply aw_seq); intro _ _)
 | (with_reducible apply aw_region)
 | ((with_reducible first | apply awO_nil | apply aw_exit | apply aw_skip | apply aw_ret); (try simp only [CT, ↓reduceIte, Nat.reduceEqDiff]))
 | (refine Kont.go ‹Kont _ _ _ _› _ ?_)
 | ((with_reducible apply awO_c); (· rfl); (· rfl); (· exact sv); (· (first | exact slTrimSuffix_ab _ _ hl hp h)); (· rfl); (· rfl); (· rfl); (· decide))
 | ((with_reducible apply retQ_mk); (· exact rI); (· exact sv); (· exact sv); rotate_left; (· rfl)))
  rfl
theorem suf_last (l : List UInt8) : sufB [61] l = decide (l.getLast? = some 61) := by
  rw [Bool.eq_iff_iff]
  simp only [sufB, decide_eq_true_eq, List.length_cons, List.length_nil]
  rcases List.eq_nil_or_concat l with rfl | ⟨r, x, rfl⟩
  · simp
  · simp
/-- What the loop in assignment looks at from j on. -/
def asgJ (u : List UInt8) (j : Nat) : Option Int := ((binL.drop j).find? fun o => decide (o.1 = u) && cmpB o.2.2).map (·.2.2)
theorem binL_len : binL.length = 18 := rfl
theorem asgJ_end {u : List UInt8} {j : Nat} (h : 18 ≤ j) : asgJ u j = none := by
  unfold asgJ
  rw [List.drop_eq_nil_of_le (by rw [binL_len]; exact h)]
  rfl
theorem asgJ_yes {u : List UInt8} {j : Nat} (h : j < binL.length) (h1 : binL[j].1 = u) (h2 : cmpB binL[j].2.2 = true) : asgJ u j = some binL[j].2.2 := by
  unfold asgJ
  rw [List.drop_eq_getElem_cons h, List.find?_cons_of_pos (by rw [h2, decide_eq_true h1]; rfl)]
  rfl
theorem asgJ_no {u : List UInt8} {j : Nat} (h : j < binL.length) (h1 : ¬ (binL[j].1 = u ∧ cmpB binL[j].2.2 = true)) : asgJ u j = asgJ u (j + 1) := by
  unfold asgJ
  rw [List.drop_eq_getElem_cons h, List.find?_cons_of_neg]
  simpa only [Bool.and_eq_true, decide_eq_true_eq] using h1
theorem assignment_ab (t : Tk) (hl : t.text.length ≤ 1000000) : Ab Tryz.prog 58 [tkA t] (.tp [ai ((asgF t).getD 0), ab (asgF t).isSome]) := by
  obtain ⟨kd, p, x⟩ := t
  simp only at hl
  have c1 := hasSuffix_ab x [61] hl (by simp)
  have c3 := binaries_ab
  rw [suf_last] at c1
  by_cases hk : kd = 3
  rotate_left
  · have e : asgF ⟨kd, p, x⟩ = none := by unfold asgF; rw [if_neg (fun h => hk h.1)]
    rw [e]
    refine Fn_of_aw (keep := []) Tryz.func58 rfl rfl (by simp [Tryz.ntmps58]) ?_
    simp only [num_cons, num_nil, Tryz.ntmps58, Tryz.results58]
    exact wkA
  by_cases hg : x.getLast? = some 61
  rotate_left
  · have e : asgF ⟨kd, p, x⟩ = none := by unfold asgF; rw [if_neg (fun h => hg h.2)]
    rw [e]
    rw [decide_eq_false hg] at c1
    refine Fn_of_aw (keep := []) Tryz.func58 rfl rfl (by simp [Tryz.ntmps58]) ?_
    simp only [num_cons, num_nil, Tryz.ntmps58, Tryz.results58]
    exact wkA
  have c2 := trimSuffix_ab x [61] hl (by simp) (by rw [suf_last, decide_eq_true hg])
  have hx : x.take (x.length - 1) = x.dropLast := by rw [List.dropLast_eq_take]
  rw [decide_eq_true hg] at c1
  simp only [List.length_cons, List.length_nil, Nat.zero_add] at c2
  rw [hx] at c2
  by_cases hn : x.dropLast = []
  · have e : asgF ⟨kd, p, x⟩ = some 0 := by unfold asgF; rw [if_pos ⟨hk, hg⟩, if_pos hn]
    rw [e]
    rw [hn] at c2
    refine Fn_of_aw (keep := []) Tryz.func58 rfl rfl (by simp [Tryz.ntmps58]) ?_
    simp only [num_cons, num_nil, Tryz.ntmps58, Tryz.results58]
    exact wkA
  have e : asgF ⟨kd, p, x⟩ = asgJ x.dropLast 0 := by unfold asgF; rw [if_pos ⟨hk, hg⟩, if_neg hn]; rfl
  rw [e]
  generalize hu : x.dropLast = u at *
  have hul : ¬ u.length = 0 := fun h => hn (List.length_eq_zero_iff.1 h)
  generalize hR : asgJ u 0 = R
  subst hk
  refine Fn_of_aw (keep := []) Tryz.func58 rfl rfl (by simp [Tryz.ntmps58]) ?_
  simp only [num_cons, num_nil, Tryz.ntmps58, Tryz.results58]
  repeat' (first
 | ((with_reducible apply awO_ev); (· rfl); (· exact sv))
 | ((with_reducible apply aw_seq); intro _ _)
 | (with_reducible apply aw_region)
 | (with_reducible apply aw_block)
 | ((with_reducible first | apply awO_nil | apply aw_exit | apply aw_skip | apply aw_ret); (try simp only [CT, ↓reduceIte, Nat.reduceEqDiff]))
 | ((with_reducible apply awO_y); (· rfl); (· rfl); (· decide); (· exact sv); (· exact sv))
 | ((with_reducible apply aw_cond_false); (· exact sv))
 | ((with_reducible apply awO_un); (· rfl); (· decide); (· exact sv))
 | (refine Kont.go ‹Kont _ _ _ _› _ ?_)
 | ((with_reducible apply awO_c); (· rfl); (· rfl); (· exact sv); (· (first | exact c1 | exact c2 | exact c3)); (· rfl); (· rfl); (· rfl); (· decide))
 | ((first | ((with_reducible apply awO_guardN); (· rfl); (· rfl); (· exact sv); (· exact nB)) | ((with_reducible apply aw_condN); (· exact sv))); (· exact pN); (· exact pN); all_goals (intro hg; try (exfalso; omega))))
  refine aw_loopF (fun j : Nat => [(23, ai j)]) (fun _ => [(1, tkC ⟨3, p, x⟩)]) (fun j => j ≤ 18 ∧ asgJ u j = R) (fun j => 18 - j) 0 ⟨Nat.zero_le _, hR⟩ ?_ ?_ ?_
  · exact ⟨rfl, trivial⟩
  · exact ⟨rfl, trivial⟩
  rintro j ⟨hj, hJ⟩
  clear hR c1 c2 c3
  (simp only [LP, List.append_assoc, List.nil_append, List.cons_append, List.append_nil, List.contains_cons, List.contains_nil, Nat.reduceBEq, Bool.or_false, Bool.or_true, Bool.true_or, Bool.false_or, ↓reduceIte, Bool.false_eq_true])
  by_cases hjl : j < binL.length
  rotate_left
  · rw [asgJ_end (by rw [binL_len] at hjl; omega)] at hJ
    subst hJ
    rw [binL_len] at hjl
    exact wkA
  have hj18 : j < 18 := hjl
  have c4 := compound_ab binL[j].2.2
  by_cases e1 : binL[j].1 = u
  · cases e2 : cmpB binL[j].2.2 with
    | true =>
      rw [asgJ_yes hjl e1 e2] at hJ
      rw [e2] at c4
      subst hJ
      exact wkA
    | false =>
      rw [asgJ_no hjl (fun h => Bool.noConfusion (h.2.symm.trans e2))] at hJ
      rw [e2] at c4
      repeat' (first
 | ((with_reducible apply awO_ev); (· rfl); (· exact sv))
 | ((with_reducible apply aw_seq); intro _ _)
 | (with_reducible apply aw_region)
 | (with_reducible apply aw_block)
 | ((with_reducible first | apply awO_nil | apply aw_exit | apply aw_skip | apply aw_ret); (try simp only [CT, ↓reduceIte, Nat.reduceEqDiff]))
 | ((with_reducible apply awO_y); (· rfl); (· rfl); (· decide); (· exact sv); (· exact sv))
 | ((with_reducible apply awO_n); (· rfl); (· rfl); (· decide); (· exact sv); (· rfl); (· rfl); (· decide))
 | ((with_reducible apply aw_cond_false); (· exact sv))
 | ((with_reducible apply awO_un); (· rfl); (· decide); (· exact sv))
 | (refine Kont.go ‹Kont _ _ _ _› _ ?_)
 | ((with_reducible apply awO_c); (· rfl); (· rfl); (· exact sv); (· (first | exact c4)); (· rfl); (· rfl); (· rfl); (· decide))
 | ((first | ((with_reducible apply awO_guardN); (· rfl); (· rfl); (· exact sv); (· exact nB)) | ((with_reducible apply aw_condN); (· exact sv))); (· exact pN); (· exact pN); all_goals (intro hg; try (exfalso; omega))))
      all_goals first
        | contradiction
        | (refine LE_mk (j + 1) ?_ ?_ sN sN sN
           · exact ⟨hj18, hJ⟩
           · omega)
  · rw [asgJ_no hjl (fun h => e1 h.1)] at hJ
    exact wq3
/-- What the loop in operator looks at from j on. -/
def oprJ (u : List UInt8) (j : Nat) : Int × Int := (((binL.drop j).find? fun o => decide (o.1 = u)).map (·.2)).getD (0, 0)
theorem oprJ_end {u : List UInt8} {j : Nat} (h : 18 ≤ j) : oprJ u j = (0, 0) := by
  unfold oprJ
  rw [List.drop_eq_nil_of_le (by rw [binL_len]; exact h)]
  rfl
theorem oprJ_yes {u : List UInt8} {j : Nat} (h : j < binL.length) (h1 : binL[j].1 = u) : oprJ u j = binL[j].2 := by
  unfold oprJ
  rw [List.drop_eq_getElem_cons h, List.find?_cons_of_pos (by rw [decide_eq_true h1])]
  rfl
theorem oprJ_no {u : List UInt8} {j : Nat} (h : j < binL.length) (h1 : ¬ binL[j].1 = u) : oprJ u j = oprJ u (j + 1) := by
  unfold oprJ
  rw [List.drop_eq_getElem_cons h, List.find?_cons_of_neg]
  simpa only [decide_eq_true_eq] using h1
section
variable {s : List UInt8} {t : Tk}
theorem operator_fn (s : List UInt8) (t : Tk) : Fn Tryz.prog 145 [.pt 16 0] [(16, pcs s t)] (.tp [ai (oprF t).1, ai (oprF t).2]) [(16, pcs s t)] [16] := by
  obtain ⟨kd, p, x⟩ := t
  have c3 := binaries_ab
  by_cases hk : kd = 3
  rotate_left
  · have e : oprF ⟨kd, p, x⟩ = (0, 0) := by unfold oprF; rw [if_neg hk]
    rw [e]
    refine Fn_of_aw (keep := [16]) Tryz.func145 rfl rfl (by simp [Tryz.ntmps145]) (aw_wk ?_)
    simp only [num_cons, num_nil, Tryz.ntmps145, Tryz.results145]
    exact wkA
  have e : oprF ⟨kd, p, x⟩ = oprJ x 0 := by unfold oprF; rw [if_pos hk]; rfl
  rw [e]
  generalize hR : oprJ x 0 = R
  subst hk
  refine Fn_of_aw (keep := [16]) Tryz.func145 rfl rfl (by simp [Tryz.ntmps145]) (aw_wk ?_)
  simp only [num_cons, num_nil, Tryz.ntmps145, Tryz.results145]
  repeat' (first
 | ((with_reducible apply awO_ev); (· rfl); (· exact sv))
 | ((with_reducible apply aw_seq); intro _ _)
 | (with_reducible apply aw_region)
 | (with_reducible apply aw_block)
 | ((with_reducible first | apply awO_nil | apply aw_exit | apply aw_skip | apply aw_ret); (try simp only [CT, ↓reduceIte, Nat.reduceEqDiff]))
 | ((with_reducible apply aw_cond_true); (· exact sv))
 | (refine Kont.go ‹Kont _ _ _ _› _ ?_)
 | ((with_reducible apply awO_c); (· rfl); (· rfl); (· exact sv); (· (first | exact c3)); (· rfl); (· rfl); (· rfl); (· decide)))
  refine aw_loopF (fun j : Nat => [(14, ai j)]) (fun _ => [(16, pcs s ⟨3, p, x⟩)]) (fun j => j ≤ 18 ∧ oprJ x j = R) (fun j => 18 - j) 0 ⟨Nat.zero_le _, hR⟩ ?_ ?_ ?_
  · exact ⟨rfl, trivial⟩
  · exact ⟨rfl, trivial⟩
  rintro j ⟨hj, hJ⟩
  clear hR c3
  (simp only [LP, List.append_assoc, List.nil_append, List.cons_append, List.append_nil, List.contains_cons, List.contains_nil, Nat.reduceBEq, Bool.or_false, Bool.or_true, Bool.true_or, Bool.false_or, ↓reduceIte, Bool.false_eq_true])
  by_cases hjl : j < binL.length
  rotate_left
  · rw [oprJ_end (by rw [binL_len] at hjl; omega)] at hJ
    subst hJ
    rw [binL_len] at hjl
    exact wkA
  have hj18 : j < 18 := hjl
  by_cases e1 : binL[j].1 = x
  · rw [oprJ_yes hjl e1] at hJ
    subst hJ
    exact wkA
  · rw [oprJ_no hjl e1] at hJ
    repeat' (first
 | ((with_reducible apply awO_ev); (· rfl); (· exact sv))
 | ((with_reducible apply aw_seq); intro _ _)
 | (with_reducible apply aw_region)
 | (with_reducible apply aw_block)
 | ((with_reducible first | apply awO_nil | apply aw_exit | apply aw_skip | apply aw_ret); (try simp only [CT, ↓reduceIte, Nat.reduceEqDiff]))
 | (refine Kont.go ‹Kont _ _ _ _› _ ?_)
 | ((with_reducible apply aw_draw); (· decide +kernel); (simp only [List.size_toArray, List.length_cons, List.length_nil, Nat.reduceAdd]))
 | ((with_reducible apply awY_done); (· decide +kernel); (try simp only [CT, ↓reduceIte, Nat.reduceEqDiff]))
 | ((with_reducible apply awY_q); (· exact sQ); (· exact np); (· exact svg); (· rfl); (· exact sv))
 | ((first | ((with_reducible apply awO_guardN); (· rfl); (· rfl); (· exact sv); (· exact nB)) | ((with_reducible apply aw_condN); (· exact sv))); (· exact pN); (· exact pN); all_goals (intro hg; try (exfalso; omega)))
 | ((try with_reducible apply wk_id); (with_reducible apply retQ_mk1); (· exact rI); (· exact sv); (· exact sv); (· exact sv); (· exact sv); rotate_left; rotate_left; (· simp); (· rfl)))
    all_goals first
      | contradiction
      | (refine LE_mk (j + 1) ?_ ?_ sN sN sN
         · exact ⟨hj18, hJ⟩
         · omega)
theorem sees_fn (s : List UInt8) (t : Tk) (u : List UInt8) : Fn Tryz.prog 94 [.pt 16 0, az u] [(16, pcs s t)] (ab (seeF t u)) [(16, pcs s t)] [16] := by
  obtain ⟨kd, p, x⟩ := t
  refine Fn_of_aw (keep := [16]) Tryz.func94 rfl rfl (by simp [Tryz.ntmps94]) (aw_wk ?_)
  simp only [num_cons, num_nil, Tryz.ntmps94, Tryz.results94]
  repeat' (first
 | ((with_reducible apply awO_ev); (· rfl); (· exact sv))
 | ((with_reducible apply aw_seq); intro _ _)
 | (with_reducible apply aw_region)
 | ((with_reducible first | apply awO_nil | apply aw_exit | apply aw_skip | apply aw_ret); (try simp only [CT, ↓reduceIte, Nat.reduceEqDiff]))
 | ((with_reducible apply awO_y); (· rfl); (· rfl); (· decide); (· exact sv); (· exact sv))
 | ((with_reducible apply awO_n); (· rfl); (· rfl); (· decide); (· exact sv); (· rfl); (· rfl); (· decide))
 | (refine Kont.go ‹Kont _ _ _ _› _ ?_)
 | ((first | ((with_reducible apply awO_guardN); (· rfl); (· rfl); (· exact sv); (· exact nB)) | ((with_reducible apply aw_condN); (· exact sv))); (· exact pN); (· exact pN); all_goals (intro hg; try (exfalso; omega)))
 | ((try with_reducible apply wk_id); (with_reducible apply retQ_mk1); (· exact rI); (· exact sv); (· exact sv); (· exact sv); (· exact sv); rotate_left; rotate_left; (· simp); (· rfl)))
  all_goals first | rfl | skip
  all_goals (refine ab_eq ?_; simp only [seeF, decide_eq_true_eq, Bool.false_eq_true, false_iff]; first | (constructor; (intro h; exact ⟨by omega, h⟩); exact fun h => h.2) | (intro h; omega) | skip)
theorem advance_fn (hs : s.length ≤ 1000000) (ht : TkOk s t) : Fn Tryz.prog 61 [.pt 16 0] [(16, pcs s t)] (.tp []) [(16, pcs s (nxK s t))] [16] := by
  have c1 := after_fn hs ht
  obtain ⟨kd, p, x⟩ := t
  refine Fn_of_aw (keep := [16]) Tryz.func61 rfl rfl (by simp [Tryz.ntmps61]) (aw_wk ?_)
  simp only [num_cons, num_nil, Tryz.ntmps61, Tryz.results61]
  exact wkA
theorem reject_pan (s : List UInt8) (t : Tk) : Pan Tryz.prog 33 [.pt 16 0] [(16, pcs s t)] (fltV t.pos 6) := by
  obtain ⟨kd, p, x⟩ := t
  refine Pan_of_aw Tryz.func33 rfl rfl (by simp [Tryz.ntmps33]) ?_
  simp only [num_cons, num_nil, Tryz.ntmps33, Tryz.results33]
  repeat' (first
 | ((with_reducible apply awO_mki); (· rfl); (· rfl); (· exact svp); (· exact sv); (· exact sv); (· rfl); (· exact nd))
 | ((with_reducible apply awO_panic); (· rfl); (· rfl); (· exact sv); (· exact ⟨_, _, rfl⟩); (try simp only [CT, CTP, ↓reduceIte, Nat.reduceEqDiff]))
 | ((with_reducible apply awO_ev); (· rfl); (· exact sv))
 | (with_reducible apply aw_region))
  all_goals rfl
theorem expect_fn (hs : s.length ≤ 1000000) (ht : TkOk s t) (u : List UInt8) (h : seeF t u = true) : Fn Tryz.prog 95 [.pt 16 0, az u] [(16, pcs s t)] (.tp []) [(16, pcs s (nxK s t))] [16] := by
  have c1 := sees_fn s t u
  have c2 := advance_fn hs ht
  rw [h] at c1
  obtain ⟨kd, p, x⟩ := t
  refine Fn_of_aw (keep := [16]) Tryz.func95 rfl rfl (by simp [Tryz.ntmps95]) (aw_wk ?_)
  simp only [num_cons, num_nil, Tryz.ntmps95, Tryz.results95]
  exact wkA
theorem expect_pan (u : List UInt8) (h : seeF t u = false) : Pan Tryz.prog 95 [.pt 16 0, az u] [(16, pcs s t)] (fltV t.pos 6) := by
  have c1 := sees_fn s t u
  have c2 := reject_pan s t
  rw [h] at c1
  obtain ⟨kd, p, x⟩ := t
  refine Pan_of_aw Tryz.func95 rfl rfl (by simp [Tryz.ntmps95]) ?_
  simp only [num_cons, num_nil, Tryz.ntmps95, Tryz.results95]
  repeat' (first
 | ((with_reducible apply awO_ev); (· rfl); (· exact sv))
 | ((with_reducible apply aw_seq); intro _ _)
 | (with_reducible apply aw_region)
 | ((with_reducible first | apply awO_nil | apply aw_exit | apply aw_skip | apply aw_ret); (try simp only [CT, ↓reduceIte, Nat.reduceEqDiff]))
 | ((with_reducible apply aw_cond_true); (· exact sv))
 | (refine Kont.go ‹Kont _ _ _ _› _ ?_)
 | ((with_reducible apply awO_m); (· rfl); (· rfl); (· exact sv); (· (first | exact c1 | exact c2)); (· exact svq); (· exact svq); (· exact svq); (· exact svq); (· rfl); (· exact nd); (with_reducible apply awO_st); (· exact svs))
 | ((with_reducible apply awO_pan); (· rfl); (· rfl); (· exact sv); (· (first | exact c1 | exact c2)); (· exact svq); (· rfl); (· exact nd); (try simp only [CT, CTP, ↓reduceIte, Nat.reduceEqDiff])))
  all_goals rfl
theorem variable_fn (hs : s.length ≤ 1000000) (ht : TkOk s t) (h : nmB t.text = true) : Fn Tryz.prog 60 [.pt 16 0] [(16, pcs s t)] (az t.text) [(16, pcs s (nxK s t))] [16] := by
  have hle := ht.le
  have c1 := name_ab t.text (by omega)
  have c2 := advance_fn hs ht
  rw [h] at c1
  obtain ⟨kd, p, x⟩ := t
  refine Fn_of_aw (keep := [16]) Tryz.func60 rfl rfl (by simp [Tryz.ntmps60]) (aw_wk ?_)
  simp only [num_cons, num_nil, Tryz.ntmps60, Tryz.results60]
  exact wkA
theorem variable_pan (hs : s.length ≤ 1000000) (ht : TkOk s t) (h : nmB t.text = false) : Pan Tryz.prog 60 [.pt 16 0] [(16, pcs s t)] (fltV t.pos 10) := by
  have hle := ht.le
  have c1 := name_ab t.text (by omega)
  rw [h] at c1
  obtain ⟨kd, p, x⟩ := t
  refine Pan_of_aw Tryz.func60 rfl rfl (by simp [Tryz.ntmps60]) ?_
  simp only [num_cons, num_nil, Tryz.ntmps60, Tryz.results60]
  repeat' (first
 | ((with_reducible apply awO_mki); (· rfl); (· rfl); (· exact svp); (· exact sv); (· exact sv); (· rfl); (· exact nd))
 | ((with_reducible apply awO_panic); (· rfl); (· rfl); (· exact sv); (· exact ⟨_, _, rfl⟩); (try simp only [CT, CTP, ↓reduceIte, Nat.reduceEqDiff]))
 | ((with_reducible apply awO_ev); (· rfl); (· exact sv))
 | ((with_reducible apply aw_seq); intro _ _)
 | (with_reducible apply aw_region)
 | ((with_reducible first | apply awO_nil | apply aw_exit | apply aw_skip | apply aw_ret); (try simp only [CT, ↓reduceIte, Nat.reduceEqDiff]))
 | ((with_reducible apply aw_cond_true); (· exact sv))
 | (refine Kont.go ‹Kont _ _ _ _› _ ?_)
 | ((with_reducible apply awO_c); (· rfl); (· rfl); (· exact sv); (· (first | exact c1)); (· rfl); (· rfl); (· rfl); (· decide)))
  all_goals rfl
end
end Go.Proofs.YtogmppcfopgkdaaGreatDoor
