/- Keymap: Default of both, small tests, on the abstract machine. -/
import Derived.Test.YtoncfnbgajnhgaaDoorKmN
namespace Go.Proofs.YtoncfnbgajnhgaaDoor
open Go.RowKit
set_option linter.unusedVariables false
set_option linter.unusedSimpArgs false
set_option maxRecDepth 100000
set_option maxHeartbeats 8000000
/-- The usual bindings. -/
def dfB : List Bi := [⟨[1], 5⟩, ⟨[2], 3⟩, ⟨[3], 24⟩, ⟨[4], 23⟩, ⟨[5], 6⟩, ⟨[6], 4⟩, ⟨[8], 9⟩, ⟨[9], 22⟩, ⟨[10], 2⟩, ⟨[11], 11⟩, ⟨[13], 2⟩, ⟨[14], 21⟩, ⟨[16], 20⟩, ⟨[20], 19⟩, ⟨[21], 12⟩, ⟨[23], 14⟩, ⟨[24, 18], 18⟩, ⟨[24, 21], 17⟩, ⟨[24, 24], 26⟩, ⟨[25], 15⟩, ⟨[27, 32], 25⟩, ⟨[27, 91, 65], 20⟩, ⟨[27, 91, 66], 21⟩, ⟨[27, 91, 67], 4⟩, ⟨[27, 91, 68], 3⟩, ⟨[27, 98], 7⟩, ⟨[27, 100], 13⟩, ⟨[27, 102], 8⟩, ⟨[27, 108], 28⟩, ⟨[27, 117], 27⟩, ⟨[27, 121], 16⟩, ⟨[31], 17⟩, ⟨[127], 9⟩]
theorem dfB_len : dfB.length = 33 := by decide
theorem dfB_k16 : ∀ b ∈ dfB, b.k.length ≤ 3 := by decide
theorem dfB_k : ∀ i (h : i < dfB.length), dfB[i].k.length ≤ 9000000000000000 := fun i h => by
  have := dfB_k16 _ (List.getElem_mem h)
  omega
theorem dfB_vd : vdB dfB = 0 := by decide +kernel
/-- How many bytes of keys. -/
def totB (L : List Bi) : Nat := (L.map fun b => b.k.length).sum
theorem totB_append (a b : List Bi) : totB (a ++ b) = totB a + totB b := by unfold totB; rw [List.map_append, List.sum_append]
theorem totB_take {L : List Bi} {i : Nat} (h : i < L.length) : totB (L.take (i + 1)) = totB (L.take i) + L[i].k.length := by
  rw [List.take_succ_eq_append_getElem h, totB_append]; simp [totB]
theorem totB_le (L : List Bi) (i : Nat) : totB (L.take i) ≤ totB L := by
  have := totB_append (L.take i) (L.drop i)
  rw [List.take_append_drop] at this
  omega
def fewB (L : List Bi) : Bool := decide (L.length ≤ 600 ∧ totB L ≤ 6000)
theorem bnd_len (L : List Bi) (s : List UInt8) (n : Int) : (bnd L s n).1.length ≤ L.length + 1 := by
  have hle := posB_le L s
  unfold bnd
  (repeat' split) <;> simp only [List.length_append, List.length_cons, List.length_take, List.length_drop] <;> omega
theorem default_ab : Ab Tryd.prog 14 [] (biA dfB) := by
  refine Fn_of_aw (keep := []) Tryd.func14 rfl rfl (by simp [Tryd.ntmps14]) ?_
  simp only [num_cons, num_nil, Tryd.ntmps14, Tryd.results14]
  repeat' (first
 | ((with_reducible apply awO_ev); (· rfl); (· exact sv))
 | ((with_reducible apply aw_seq); intro _ _)
 | (with_reducible apply aw_region)
 | (with_reducible apply aw_block)
 | ((first | (with_reducible apply awO_nil) | (with_reducible apply aw_exit) | (with_reducible apply aw_skip) | (with_reducible apply aw_ret)); (try simp only [CT, ↓reduceIte, Nat.reduceEqDiff]))
 | ((with_reducible apply awO_y); (· rfl); (· rfl); (· decide); (· exact sv); (· exact sv))
 | ((with_reducible apply awO_n); (· rfl); (· rfl); (· decide); (· exact sv); (· rfl); (· rfl); (· decide))
 | ((with_reducible apply awO_u); (· rfl); (· rfl); (· exact svr); (· rfl); (· decide))
 | ((with_reducible apply aw_cond_true); (· exact sv))
 | ((with_reducible apply aw_cond_false); (· exact sv))
 | ((with_reducible apply awO_un); (· rfl); (· decide); (· exact sv))
 | (refine Kont.go ‹Kont _ _ _ _› _ ?_)
 | ((first | ((with_reducible apply awO_guard); (· rfl); (· rfl); (· exact sv)) | ((with_reducible apply aw_cond); (· exact sv))); all_goals (intro hg; (try simp only [Bool.not_true, Bool.not_false]); (try simp only [decide_eq_true_eq, decide_eq_false_iff_not, Bool.not_true, Bool.not_false, Bool.not_eq_true', Bool.not_eq_false', Bool.not_not, beq_eq_false_iff_ne, ne_eq, beq_iff_eq, decide_eq_decide] at hg); try (exfalso; omega)))
 | ((with_reducible apply retQ_mk); (· (first | exact .inr rfl | exact .inl rfl)); (· exact sv); (· exact sv); rotate_left; (· rfl)))
  all_goals rfl
theorem rdefault_ab : Ab Tryd.prog 16 [] (biA dfB) := by
  refine Fn_of_aw (keep := []) Tryd.func16 rfl rfl (by simp [Tryd.ntmps16]) ?_
  simp only [num_cons, num_nil, Tryd.ntmps16, Tryd.results16]
  repeat' (first
 | ((with_reducible apply awO_ev); (· rfl); (· exact sv))
 | ((with_reducible apply aw_seq); intro _ _)
 | (with_reducible apply aw_region)
 | (with_reducible apply aw_block)
 | ((first | (with_reducible apply awO_nil) | (with_reducible apply aw_exit) | (with_reducible apply aw_skip) | (with_reducible apply aw_ret)); (try simp only [CT, ↓reduceIte, Nat.reduceEqDiff]))
 | ((with_reducible apply awO_y); (· rfl); (· rfl); (· decide); (· exact sv); (· exact sv))
 | ((with_reducible apply awO_n); (· rfl); (· rfl); (· decide); (· exact sv); (· rfl); (· rfl); (· decide))
 | ((with_reducible apply awO_u); (· rfl); (· rfl); (· exact svr); (· rfl); (· decide))
 | ((with_reducible apply aw_cond_true); (· exact sv))
 | ((with_reducible apply aw_cond_false); (· exact sv))
 | ((with_reducible apply awO_un); (· rfl); (· decide); (· exact sv))
 | (refine Kont.go ‹Kont _ _ _ _› _ ?_)
 | ((first | ((with_reducible apply awO_guard); (· rfl); (· rfl); (· exact sv)) | ((with_reducible apply aw_cond); (· exact sv))); all_goals (intro hg; (try simp only [Bool.not_true, Bool.not_false]); (try simp only [decide_eq_true_eq, decide_eq_false_iff_not, Bool.not_true, Bool.not_false, Bool.not_eq_true', Bool.not_eq_false', Bool.not_not, beq_eq_false_iff_ne, ne_eq, beq_iff_eq, decide_eq_decide] at hg); try (exfalso; omega)))
 | ((with_reducible apply retQ_mk); (· (first | exact .inr rfl | exact .inl rfl)); (· exact sv); (· exact sv); rotate_left; (· rfl)))
  all_goals rfl
theorem few_ab (L : List Bi) (hL : BigB L) : Ab Tryd.prog 20 [biA L] (ab (fewB L)) := by
  have hn := hL.n
  by_cases h1 : 600 < L.length
  · rw [show fewB L = false by simp only [fewB, decide_eq_false_iff_not]; omega]
    refine Fn_of_aw (keep := []) Tryd.func20 rfl rfl (by simp [Tryd.ntmps20]) ?_
    simp only [num_cons, num_nil, Tryd.ntmps20, Tryd.results20]
    repeat' (first
 | ((with_reducible apply awO_ev); (· rfl); (· exact sv))
 | ((with_reducible apply aw_seq); intro _ _)
 | (with_reducible apply aw_region)
 | (with_reducible apply aw_block)
 | ((first | (with_reducible apply awO_nil) | (with_reducible apply aw_exit) | (with_reducible apply aw_skip) | (with_reducible apply aw_ret)); (try simp only [CT, ↓reduceIte, Nat.reduceEqDiff]))
 | ((with_reducible apply awO_y); (· rfl); (· rfl); (· decide); (· exact sv); (· exact sv))
 | ((with_reducible apply awO_n); (· rfl); (· rfl); (· decide); (· exact sv); (· rfl); (· rfl); (· decide))
 | ((with_reducible apply awO_u); (· rfl); (· rfl); (· exact svr); (· rfl); (· decide))
 | ((with_reducible apply aw_cond_true); (· exact sv))
 | ((with_reducible apply aw_cond_false); (· exact sv))
 | ((with_reducible apply awO_un); (· rfl); (· decide); (· exact sv))
 | (refine Kont.go ‹Kont _ _ _ _› _ ?_)
 | ((first | ((with_reducible apply awO_guard); (· rfl); (· rfl); (· exact sv)) | ((with_reducible apply aw_cond); (· exact sv))); all_goals (intro hg; (try simp only [Bool.not_true, Bool.not_false]); (try simp only [decide_eq_true_eq, decide_eq_false_iff_not, Bool.not_true, Bool.not_false, Bool.not_eq_true', Bool.not_eq_false', Bool.not_not, beq_eq_false_iff_ne, ne_eq, beq_iff_eq, decide_eq_decide] at hg); try (exfalso; omega)))
 | ((with_reducible apply retQ_mk); (· (first | exact .inr rfl | exact .inl rfl)); (· exact sv); (· exact sv); rotate_left; (· rfl)))
    all_goals rfl
  refine Fn_of_aw (keep := []) Tryd.func20 rfl rfl (by simp [Tryd.ntmps20]) ?_
  simp only [num_cons, num_nil, Tryd.ntmps20, Tryd.results20]
  repeat' (first
 | ((with_reducible apply awO_ev); (· rfl); (· exact sv))
 | ((with_reducible apply aw_seq); intro _ _)
 | (with_reducible apply aw_region)
 | (with_reducible apply aw_block)
 | ((first | (with_reducible apply awO_nil) | (with_reducible apply aw_exit) | (with_reducible apply aw_skip) | (with_reducible apply aw_ret)); (try simp only [CT, ↓reduceIte, Nat.reduceEqDiff]))
 | ((with_reducible apply awO_y); (· rfl); (· rfl); (· decide); (· exact sv); (· exact sv))
 | ((with_reducible apply awO_n); (· rfl); (· rfl); (· decide); (· exact sv); (· rfl); (· rfl); (· decide))
 | ((with_reducible apply awO_u); (· rfl); (· rfl); (· exact svr); (· rfl); (· decide))
 | ((with_reducible apply aw_cond_true); (· exact sv))
 | ((with_reducible apply aw_cond_false); (· exact sv))
 | ((with_reducible apply awO_un); (· rfl); (· decide); (· exact sv))
 | (refine Kont.go ‹Kont _ _ _ _› _ ?_)
 | ((first | ((with_reducible apply awO_guard); (· rfl); (· rfl); (· exact sv)) | ((with_reducible apply aw_cond); (· exact sv))); all_goals (intro hg; (try simp only [Bool.not_true, Bool.not_false]); (try simp only [decide_eq_true_eq, decide_eq_false_iff_not, Bool.not_true, Bool.not_false, Bool.not_eq_true', Bool.not_eq_false', Bool.not_not, beq_eq_false_iff_ne, ne_eq, beq_iff_eq, decide_eq_decide] at hg); try (exfalso; omega)))
 | ((with_reducible apply retQ_mk); (· (first | exact .inr rfl | exact .inl rfl)); (· exact sv); (· exact sv); rotate_left; (· rfl)))
  refine aw_loopF (fun i : Nat => [(4, ai i), (3, ai (totB (L.take i)))]) (fun _ => []) (fun i => i ≤ L.length ∧ totB (L.take i) ≤ 6000) (fun i => L.length - i) 0 ⟨by omega, by simp [totB]⟩ ?_ ?_ ?_
  · exact ⟨rfl, rfl, trivial⟩
  · exact trivial
  intro i ⟨hi, hI⟩
  (simp only [LP, List.append_assoc, List.nil_append, List.cons_append, List.append_nil, List.contains_cons, List.contains_nil, Nat.reduceBEq, Bool.or_false, Bool.or_true, Bool.true_or, Bool.false_or, ↓reduceIte, Bool.false_eq_true])
  by_cases hil : i < L.length
  · have o1 := hL.k i hil
    have et := totB_take hil
    by_cases k1 : totB (L.take i) + L[i].k.length ≤ 6000
    · skip
      repeat' (first
 | ((with_reducible apply awO_ev); (· rfl); (· exact sv))
 | ((with_reducible apply aw_seq); intro _ _)
 | (with_reducible apply aw_region)
 | (with_reducible apply aw_block)
 | ((first | (with_reducible apply awO_nil) | (with_reducible apply aw_exit) | (with_reducible apply aw_skip) | (with_reducible apply aw_ret)); (try simp only [CT, ↓reduceIte, Nat.reduceEqDiff]))
 | ((with_reducible apply awO_y); (· rfl); (· rfl); (· decide); (· exact sv); (· exact sv))
 | ((with_reducible apply awO_n); (· rfl); (· rfl); (· decide); (· exact sv); (· rfl); (· rfl); (· decide))
 | ((with_reducible apply awO_u); (· rfl); (· rfl); (· exact svr); (· rfl); (· decide))
 | ((with_reducible apply aw_cond_true); (· exact sv))
 | ((with_reducible apply aw_cond_false); (· exact sv))
 | ((with_reducible apply awO_un); (· rfl); (· decide); (· exact sv))
 | (refine Kont.go ‹Kont _ _ _ _› _ ?_)
 | ((first | ((with_reducible apply awO_guard); (· rfl); (· rfl); (· exact sv)) | ((with_reducible apply aw_cond); (· exact sv))); all_goals (intro hg; (try simp only [Bool.not_true, Bool.not_false]); (try simp only [decide_eq_true_eq, decide_eq_false_iff_not, Bool.not_true, Bool.not_false, Bool.not_eq_true', Bool.not_eq_false', Bool.not_not, beq_eq_false_iff_ne, ne_eq, beq_iff_eq, decide_eq_decide] at hg); try (exfalso; omega)))
 | ((with_reducible apply retQ_mk); (· (first | exact .inr rfl | exact .inl rfl)); (· exact sv); (· exact sv); rotate_left; (· rfl)))
      refine LE_mk (i + 1) ⟨by omega, by omega⟩ (by omega) ?_ sN sN
      rw [et]
      exact ⟨rfl, rfl, trivial⟩
    · have hle := totB_le L (i + 1)
      rw [show fewB L = false by simp only [fewB, decide_eq_false_iff_not]; omega]
      repeat' (first
 | ((with_reducible apply awO_ev); (· rfl); (· exact sv))
 | ((with_reducible apply aw_seq); intro _ _)
 | (with_reducible apply aw_region)
 | (with_reducible apply aw_block)
 | ((first | (with_reducible apply awO_nil) | (with_reducible apply aw_exit) | (with_reducible apply aw_skip) | (with_reducible apply aw_ret)); (try simp only [CT, ↓reduceIte, Nat.reduceEqDiff]))
 | ((with_reducible apply awO_y); (· rfl); (· rfl); (· decide); (· exact sv); (· exact sv))
 | ((with_reducible apply awO_n); (· rfl); (· rfl); (· decide); (· exact sv); (· rfl); (· rfl); (· decide))
 | ((with_reducible apply awO_u); (· rfl); (· rfl); (· exact svr); (· rfl); (· decide))
 | ((with_reducible apply aw_cond_true); (· exact sv))
 | ((with_reducible apply aw_cond_false); (· exact sv))
 | ((with_reducible apply awO_un); (· rfl); (· decide); (· exact sv))
 | (refine Kont.go ‹Kont _ _ _ _› _ ?_)
 | ((first | ((with_reducible apply awO_guard); (· rfl); (· rfl); (· exact sv)) | ((with_reducible apply aw_cond); (· exact sv))); all_goals (intro hg; (try simp only [Bool.not_true, Bool.not_false]); (try simp only [decide_eq_true_eq, decide_eq_false_iff_not, Bool.not_true, Bool.not_false, Bool.not_eq_true', Bool.not_eq_false', Bool.not_not, beq_eq_false_iff_ne, ne_eq, beq_iff_eq, decide_eq_decide] at hg); try (exfalso; omega)))
 | ((with_reducible apply retQ_mk); (· (first | exact .inr rfl | exact .inl rfl)); (· exact sv); (· exact sv); rotate_left; (· rfl)))
      all_goals rfl
  · rw [List.take_of_length_le (by omega)] at hI
    have hfew : fewB L = true := by simp only [fewB, decide_eq_true_eq]; omega
    repeat' (first
 | ((with_reducible apply awO_ev); (· rfl); (· exact sv))
 | ((with_reducible apply aw_seq); intro _ _)
 | (with_reducible apply aw_region)
 | (with_reducible apply aw_block)
 | ((first | (with_reducible apply awO_nil) | (with_reducible apply aw_exit) | (with_reducible apply aw_skip) | (with_reducible apply aw_ret)); (try simp only [CT, ↓reduceIte, Nat.reduceEqDiff]))
 | ((with_reducible apply awO_y); (· rfl); (· rfl); (· decide); (· exact sv); (· exact sv))
 | ((with_reducible apply awO_n); (· rfl); (· rfl); (· decide); (· exact sv); (· rfl); (· rfl); (· decide))
 | ((with_reducible apply awO_u); (· rfl); (· rfl); (· exact svr); (· rfl); (· decide))
 | ((with_reducible apply aw_cond_true); (· exact sv))
 | ((with_reducible apply aw_cond_false); (· exact sv))
 | ((with_reducible apply awO_un); (· rfl); (· decide); (· exact sv))
 | (refine Kont.go ‹Kont _ _ _ _› _ ?_)
 | ((first | ((with_reducible apply awO_guard); (· rfl); (· rfl); (· exact sv)) | ((with_reducible apply aw_cond); (· exact sv))); all_goals (intro hg; (try simp only [Bool.not_true, Bool.not_false]); (try simp only [decide_eq_true_eq, decide_eq_false_iff_not, Bool.not_true, Bool.not_false, Bool.not_eq_true', Bool.not_eq_false', Bool.not_not, beq_eq_false_iff_ne, ne_eq, beq_iff_eq, decide_eq_decide] at hg); try (exfalso; omega)))
 | ((with_reducible apply retQ_mk); (· (first | exact .inr rfl | exact .inl rfl)); (· exact sv); (· exact sv); rotate_left; (· rfl)))
    all_goals exact congrArg (fun b => ab b) hfew.symm
theorem exM_vd : bnd [] [122] 17 = ([⟨[122], 17⟩], 0) := by kernel_rfl
theorem exP1 : prsF [92, 67, 45, 120, 92, 77, 45, 98, 92, 100] = ([24, 27, 98, 127], 0) := by decide +kernel
theorem exP2 : prsF [92, 67, 45, 65] = ([], 6) := by decide +kernel
theorem exS : shw [24, 27, 98, 127] = [92, 67, 45, 120, 92, 101, 98, 92, 100] := by decide +kernel
theorem exF : fnA dfB [24] = 0 ∧ fnM dfB [24] = 1 ∧ fnA dfB [24, 24] = 26 ∧ fnM dfB [24, 24] = 0 := by decide +kernel
theorem exV : vdB [⟨[], 0⟩] = 1 := by decide +kernel
theorem awake_ab : Ab Tryd.prog 9 [] (ab true) := by
  have c1 := parse_ab [92, 67, 45, 120, 92, 77, 45, 98, 92, 100] (by decide)
  have c2 := parse_ab [92, 67, 45, 65] (by decide)
  rw [exP1] at c1
  rw [exP2] at c2
  have c3 := default_ab
  have c4 := find_ab dfB [24] (by decide) dfB_k (by decide)
  have c5 := find_ab dfB [24, 24] (by decide) dfB_k (by decide)
  obtain ⟨f1, f2, f3, f4⟩ := exF
  rw [f1, f2] at c4
  rw [f3, f4] at c5
  have c6 : Ab Tryd.prog 22 [.v (.slice none 0 0), az [122], ai 17] (.tp [biA [⟨[122], 17⟩], ai 0]) := by
    have := bind_ab [] [122] 17 (by decide) (fun i h => absurd h (by simp))
    rw [exM_vd] at this
    exact Fn_nz this
  have c7 := show_ab [24, 27, 98, 127] (by decide)
  rw [exS] at c7
  have c8 := valid_ab dfB (by decide) dfB_k
  rw [dfB_vd] at c8
  have c9 := valid_ab [⟨[], 0⟩] (by decide) (fun i h => by
    have : i = 0 := by simpa using h
    subst this
    show ([] : List UInt8).length ≤ _
    simp)
  rw [exV] at c9
  have hlen : biA dfB = .rd 33 (biC dfB) := rfl
  rw [hlen] at c3 c4 c5 c8
  generalize biC dfB = C at *
  refine Fn_of_aw (keep := []) Tryd.func9 rfl rfl (by simp [Tryd.ntmps9]) ?_
  simp only [num_cons, num_nil, Tryd.ntmps9, Tryd.results9]
  repeat' (first
 | ((with_reducible apply awO_ev); (· rfl); (· exact sv))
 | ((with_reducible apply aw_seq); intro _ _)
 | (with_reducible apply aw_region)
 | (with_reducible apply aw_block)
 | ((first | (with_reducible apply awO_nil) | (with_reducible apply aw_exit) | (with_reducible apply aw_skip) | (with_reducible apply aw_ret)); (try simp only [CT, ↓reduceIte, Nat.reduceEqDiff]))
 | ((with_reducible apply awO_y); (· rfl); (· rfl); (· decide); (· exact sv); (· exact sv))
 | ((with_reducible apply awO_n); (· rfl); (· rfl); (· decide); (· exact sv); (· rfl); (· rfl); (· decide))
 | ((with_reducible apply awO_u); (· rfl); (· rfl); (· exact svr); (· rfl); (· decide))
 | ((with_reducible apply aw_cond_true); (· exact sv))
 | ((with_reducible apply aw_cond_false); (· exact sv))
 | ((with_reducible apply awO_un); (· rfl); (· decide); (· exact sv))
 | (refine Kont.go ‹Kont _ _ _ _› _ ?_)
 | ((with_reducible apply awO_c); (· rfl); (· rfl); (· exact sv); (· (first | exact c1 | exact c2 | exact c3 | exact c4 | exact c5 | exact c6 | exact c7 | exact c8 | exact c9)); (· rfl); (· rfl); (· rfl); (· decide))
 | ((with_reducible apply awO_f); (· rfl); (· rfl); (· exact sv); (· exact sv); (· (first | exact c1 | exact c2 | exact c3 | exact c4 | exact c5 | exact c6 | exact c7 | exact c8 | exact c9)); (· rfl); (· rfl); (· decide))
 | ((with_reducible apply awO_m); (· rfl); (· rfl); (· exact sv); (· (first | exact c1 | exact c2 | exact c3 | exact c4 | exact c5 | exact c6 | exact c7 | exact c8 | exact c9)); (· exact svq); (· exact svq); (· exact svq); (· exact svq); (· rfl); (· exact nd); (with_reducible apply awO_st); (· exact svs))
 | ((first | ((with_reducible apply awO_guard); (· rfl); (· rfl); (· exact sv)) | ((with_reducible apply aw_cond); (· exact sv))); all_goals (intro hg; (try simp only [Bool.not_true, Bool.not_false]); (try simp only [decide_eq_true_eq, decide_eq_false_iff_not, Bool.not_true, Bool.not_false, Bool.not_eq_true', Bool.not_eq_false', Bool.not_not, beq_eq_false_iff_ne, ne_eq, beq_iff_eq, decide_eq_decide] at hg); try (exfalso; omega)))
 | ((with_reducible apply retQ_mk); (· (first | exact .inr rfl | exact .inl rfl)); (· exact sv); (· exact sv); rotate_left; (· rfl)))
  all_goals rfl
end Go.Proofs.YtoncfnbgajnhgaaDoor
