/- The laws of patterns: awake, on the abstract machine. -/
import Derived.Test.YtllhcgfdjfmmeaaPuG
import Derived.Test.YtllhcgfdjfmmeaaPuH
import Derived.Test.YtllhcgfdjfmmeaaPuI
import Derived.Test.YtllhcgfdjfmmeaaPtV
namespace Go.Proofs.Ytllhcgfdjfmmeaa
open Go.RowKit
set_option linter.unusedVariables false
set_option linter.unusedSimpArgs false
set_option maxRecDepth 100000
set_option maxHeartbeats 8000000
theorem lit_ab (s : List UInt8) : Ab Try.prog 31 [az s] (elsA [⟨s, 0⟩]) := by
  refine Fn_of_aw (keep := []) Try.func31 rfl rfl (by simp [Try.ntmps31]) ?_
  simp only [num_cons, num_nil, Try.ntmps31, Try.results31]
  repeat' (first
 | ((with_reducible apply awO_ev); (· rfl); (· exact sv))
 | ((with_reducible apply aw_seq); intro _ _)
 | (with_reducible apply aw_region)
 | (with_reducible apply aw_block)
 | ((first | (with_reducible apply awO_nil) | (with_reducible apply aw_exit) | (with_reducible apply aw_skip) | (with_reducible apply aw_ret)); (try simp only [CT, ↓reduceIte, Nat.reduceEqDiff]))
 | ((with_reducible apply awO_y); (· rfl); (· rfl); (· decide); (· exact sv); (· exact sv))
 | ((with_reducible apply awO_n); (· rfl); (· rfl); (· decide); (· exact sv); (· rfl); (· rfl); (· decide))
 | ((with_reducible apply awO_u); (· rfl); (· rfl); (· exact svr); (· rfl); (· decide))
 | ((with_reducible apply aw_cond_true); (· exact sv))
 | ((with_reducible apply aw_cond_false); (· exact sv))
 | ((with_reducible apply awO_un); (· rfl); (· decide); (· exact sv))
 | (refine Kont.go ‹Kont _ _ _ _› _ ?_)
 | ((first | ((with_reducible apply awO_guard); (· rfl); (· rfl); (· exact sv)) | ((with_reducible apply aw_cond); (· exact sv))); all_goals (intro hg; (try simp only [Bool.not_true, Bool.not_false]); (try simp only [decide_eq_true_eq, decide_eq_false_iff_not, Bool.not_true, Bool.not_false, Bool.not_eq_true', Bool.not_eq_false', Bool.not_not, beq_eq_false_iff_ne, ne_eq, beq_iff_eq, decide_eq_decide] at hg); try (exfalso; omega)))
 | ((with_reducible apply retQ_mk); (· (first | exact .inr rfl | exact .inl rfl)); (· exact sv); (· exact sv); rotate_left; (· rfl)))
  all_goals rfl
theorem quoted_ab (s : List UInt8) : Ab Try.prog 29 [az s] (elsA [⟨s, 1⟩]) := by
  refine Fn_of_aw (keep := []) Try.func29 rfl rfl (by simp [Try.ntmps29]) ?_
  simp only [num_cons, num_nil, Try.ntmps29, Try.results29]
  repeat' (first
 | ((with_reducible apply awO_ev); (· rfl); (· exact sv))
 | ((with_reducible apply aw_seq); intro _ _)
 | (with_reducible apply aw_region)
 | (with_reducible apply aw_block)
 | ((first | (with_reducible apply awO_nil) | (with_reducible apply aw_exit) | (with_reducible apply aw_skip) | (with_reducible apply aw_ret)); (try simp only [CT, ↓reduceIte, Nat.reduceEqDiff]))
 | ((with_reducible apply awO_y); (· rfl); (· rfl); (· decide); (· exact sv); (· exact sv))
 | ((with_reducible apply awO_n); (· rfl); (· rfl); (· decide); (· exact sv); (· rfl); (· rfl); (· decide))
 | ((with_reducible apply awO_u); (· rfl); (· rfl); (· exact svr); (· rfl); (· decide))
 | ((with_reducible apply aw_cond_true); (· exact sv))
 | ((with_reducible apply aw_cond_false); (· exact sv))
 | ((with_reducible apply awO_un); (· rfl); (· decide); (· exact sv))
 | (refine Kont.go ‹Kont _ _ _ _› _ ?_)
 | ((first | ((with_reducible apply awO_guard); (· rfl); (· rfl); (· exact sv)) | ((with_reducible apply aw_cond); (· exact sv))); all_goals (intro hg; (try simp only [Bool.not_true, Bool.not_false]); (try simp only [decide_eq_true_eq, decide_eq_false_iff_not, Bool.not_true, Bool.not_false, Bool.not_eq_true', Bool.not_eq_false', Bool.not_not, beq_eq_false_iff_ne, ne_eq, beq_iff_eq, decide_eq_decide] at hg); try (exfalso; omega)))
 | ((with_reducible apply retQ_mk); (· (first | exact .inr rfl | exact .inl rfl)); (· exact sv); (· exact sv); rotate_left; (· rfl)))
  all_goals rfl
theorem quoted_own (s : List UInt8) : Fn Try.prog 29 [az s] [] (.os 5 0 2 1) [(5, [az s, ai 1])] [] := by
  refine Fn_of_aw (keep := [5]) Try.func29 rfl rfl (by simp [Try.ntmps29]) ?_
  simp only [num_cons, num_nil, Try.ntmps29, Try.results29]
  repeat' (first
 | ((with_reducible apply awO_ev); (· rfl); (· exact sv))
 | ((with_reducible apply aw_seq); intro _ _)
 | (with_reducible apply aw_region)
 | (with_reducible apply aw_block)
 | ((first | (with_reducible apply awO_nil) | (with_reducible apply aw_exit) | (with_reducible apply aw_skip) | (with_reducible apply aw_ret)); (try simp only [CT, ↓reduceIte, Nat.reduceEqDiff]))
 | ((with_reducible apply awO_y); (· rfl); (· rfl); (· decide); (· exact sv); (· exact sv))
 | ((with_reducible apply awO_n); (· rfl); (· rfl); (· decide); (· exact sv); (· rfl); (· rfl); (· decide))
 | ((with_reducible apply awO_u); (· rfl); (· rfl); (· exact svr); (· rfl); (· decide))
 | ((with_reducible apply aw_cond_true); (· exact sv))
 | ((with_reducible apply aw_cond_false); (· exact sv))
 | ((with_reducible apply awO_un); (· rfl); (· decide); (· exact sv))
 | (refine Kont.go ‹Kont _ _ _ _› _ ?_)
 | ((first | ((with_reducible apply awO_guard); (· rfl); (· rfl); (· exact sv)) | ((with_reducible apply aw_cond); (· exact sv))); all_goals (intro hg; (try simp only [Bool.not_true, Bool.not_false]); (try simp only [decide_eq_true_eq, decide_eq_false_iff_not, Bool.not_true, Bool.not_false, Bool.not_eq_true', Bool.not_eq_false', Bool.not_not, beq_eq_false_iff_ne, ne_eq, beq_iff_eq, decide_eq_decide] at hg); try (exfalso; omega)))
 | ((with_reducible apply retQ_mk); (· (first | exact .inr rfl | exact .inl rfl)); (· exact sv); (· exact sv); rotate_left; (· rfl))
 | ((with_reducible apply wk_id); (with_reducible apply retQ_mk); (· (first | exact .inr rfl | exact .inl rfl)); (· exact sv); (· exact sv); rotate_left; (· rfl))
 | ((try with_reducible apply wk_id); (with_reducible apply retQ_mk1); (· (first | exact .inr rfl | exact .inl rfl)); (· exact sv); (· exact sv); (· exact sv); (· exact sv); rotate_left; rotate_left; (· simp); (· rfl))
 | ((try with_reducible apply wk_id); (with_reducible apply retQ_mk2); (· (first | exact .inr rfl | exact .inl rfl)); (· exact sv); (· exact sv); (· exact sv); (· exact sv); (· exact sv); (· exact sv); rotate_left; rotate_left; rotate_left; (· simp); (· simp); (· rfl)))
  all_goals rfl
theorem prefixes_ab (p : List It) (s : List UInt8) (hp : p.length ≤ 1000) (hs : s.length ≤ 10000) (hx : ∀ x ∈ p, x.s.length ≤ 100000 ∧ x.t.length ≤ 100000) : Ab Try.prog 30 [itsA p, az s] (ab (pfx p s false).isSome) := by
  have c1 := prefix_ab p s false hp hs hx
  generalize pfx p s false = o at *
  refine Fn_of_aw (keep := []) Try.func30 rfl rfl (by simp [Try.ntmps30]) ?_
  simp only [num_cons, num_nil, Try.ntmps30, Try.results30]
  repeat' (first
 | ((with_reducible apply awO_ev); (· rfl); (· exact sv))
 | ((with_reducible apply aw_seq); intro _ _)
 | (with_reducible apply aw_region)
 | (with_reducible apply aw_block)
 | ((first | (with_reducible apply awO_nil) | (with_reducible apply aw_exit) | (with_reducible apply aw_skip) | (with_reducible apply aw_ret)); (try simp only [CT, ↓reduceIte, Nat.reduceEqDiff]))
 | ((with_reducible apply awO_y); (· rfl); (· rfl); (· decide); (· exact sv); (· exact sv))
 | ((with_reducible apply awO_n); (· rfl); (· rfl); (· decide); (· exact sv); (· rfl); (· rfl); (· decide))
 | ((with_reducible apply awO_u); (· rfl); (· rfl); (· exact svr); (· rfl); (· decide))
 | ((with_reducible apply aw_cond_true); (· exact sv))
 | ((with_reducible apply aw_cond_false); (· exact sv))
 | ((with_reducible apply awO_un); (· rfl); (· decide); (· exact sv))
 | (refine Kont.go ‹Kont _ _ _ _› _ ?_)
 | ((with_reducible apply awO_c); (· rfl); (· rfl); (· exact sv); (· (first | exact c1)); (· rfl); (· rfl); (· rfl); (· decide))
 | ((with_reducible apply awO_f); (· rfl); (· rfl); (· exact sv); (· exact sv); (· (first | exact c1)); (· rfl); (· rfl); (· decide))
 | ((with_reducible apply awO_m); (· rfl); (· rfl); (· exact sv); (· (first | exact c1)); (· exact svq); (· exact svq); (· exact svq); (· exact svq); (· rfl); (· exact nd); (with_reducible apply awO_st); (· exact svs))
 | ((first | ((with_reducible apply awO_guard); (· rfl); (· rfl); (· exact sv)) | ((with_reducible apply aw_cond); (· exact sv))); all_goals (intro hg; (try simp only [Bool.not_true, Bool.not_false]); (try simp only [decide_eq_true_eq, decide_eq_false_iff_not, Bool.not_true, Bool.not_false, Bool.not_eq_true', Bool.not_eq_false', Bool.not_not, beq_eq_false_iff_ne, ne_eq, beq_iff_eq, decide_eq_decide] at hg); try (exfalso; omega)))
 | ((with_reducible apply retQ_mk); (· (first | exact .inr rfl | exact .inl rfl)); (· exact sv); (· exact sv); rotate_left; (· rfl)))
  all_goals rfl
/-! ### The examples -/
def exP : List It := [byI 97, stI, ⟨4, [], true, [⟨48, 57⟩]⟩]
theorem ex1 : compl (chs [⟨[97, 42, 91, 33, 48, 45, 57, 93], 0⟩]) = exP := by kernel_rfl
theorem ex2 : compl (chs [⟨[97, 42], 0⟩]) = [byI 97, stI] := by kernel_rfl
theorem ex3 : compl (chs [⟨[42, 99], 0⟩]) = [stI, byI 99] := by kernel_rfl
theorem ex4 : compl (chs [⟨[97, 42], 1⟩]) = [byI 97, byI 42] := by kernel_rfl
theorem ex5 : pfx [byI 97, stI] [97, 98, 99] true = some 3 := by kernel_rfl
theorem ex6 : sfx [stI, byI 99] [97, 98, 99] false = some 1 := by kernel_rfl
theorem ex7 : litO [byI 97, byI 42] = some [97, 42] := by kernel_rfl
theorem ex8 : mtB exP [97, 49, 98] = true := by kernel_rfl
theorem ex9 : mtB exP [97, 49] = false := by kernel_rfl
theorem ex10 : byt (compl (chs [⟨[91, 97, 93], 0⟩])) = false := by kernel_rfl
theorem ex11 : byt (compl (chs [⟨[91, 97], 0⟩])) = true := by kernel_rfl
theorem ex12 : (if vld exP = true then runR exP else []) = [⟨[97], 1⟩, ⟨[42], 0⟩, ⟨[91, 33], 0⟩, ⟨[48], 1⟩, ⟨[45], 0⟩, ⟨[57], 1⟩, ⟨[93], 0⟩] := by kernel_rfl
theorem small_mem {p : List It} (h : p.all (fun x => decide (x.s.length ≤ 40) && decide (x.t.length ≤ 40)) = true) : ∀ x ∈ p, x.s.length ≤ 40 ∧ x.t.length ≤ 40 := fun x hx => by
  have := List.all_eq_true.1 h x hx
  simpa using this
abbrev exA : AV := .rd 3 [ai 1, az [97], ab false, .rd 0 [], ai 3, az [], ab false, .rd 0 [], ai 4, az [], ab true, .rd 1 [au 48, au 57]]
theorem awake_ab : Ab Try.prog 12 [] (ab true) := by
  have l1 := lit_ab [97, 42, 91, 33, 48, 45, 57, 93]
  have c1 : Ab Try.prog 14 [elsA [⟨[97, 42, 91, 33, 48, 45, 57, 93], 0⟩]] exA := by
    have := compile_ab [⟨[97, 42, 91, 33, 48, 45, 57, 93], 0⟩] (by simp) (by simp [cat])
    rw [ex1] at this; exact this
  have l2 := lit_ab [97, 42]
  have c2 := compile_ab [⟨[97, 42], 0⟩] (by simp) (by simp [cat])
  rw [ex2] at c2
  have c2b := prefix_ab [byI 97, stI] [97, 98, 99] true (by simp) (by simp) (fun x h => by have := small_mem (p := [byI 97, stI]) (by decide) x h; omega)
  rw [ex5] at c2b
  simp only [oA, Option.getD_some, Option.isSome_some] at c2b
  have l3 := lit_ab [42, 99]
  have c3 := compile_ab [⟨[42, 99], 0⟩] (by simp) (by simp [cat])
  rw [ex3] at c3
  have c3b := suffix_ab [stI, byI 99] [97, 98, 99] false (by simp) (by simp) (fun x h => by have := small_mem (p := [stI, byI 99]) (by decide) x h; omega)
  rw [ex6] at c3b
  simp only [oA, Option.getD_some, Option.isSome_some] at c3b
  have l4 := quoted_ab [97, 42]
  have c4 := compile_ab [⟨[97, 42], 1⟩] (by simp) (by simp [cat])
  rw [ex4] at c4
  have c4b := literal_ab [byI 97, byI 42] (by simp) (fun x h => by have := small_mem (p := [byI 97, byI 42]) (by decide) x h; omega)
  rw [ex7] at c4b
  simp only [lA, Option.getD_some, Option.isSome_some] at c4b
  have hxP : ∀ x ∈ exP, x.s.length ≤ 40 ∧ x.t.length ≤ 40 := small_mem (by decide)
  have c5 : Ab Try.prog 19 [exA, az [97, 49, 98]] (ab true) := by
    have := match_ab exP [97, 49, 98] (by decide) (by simp) (fun x h => by have := hxP x h; omega)
    rw [ex8] at this; exact this
  have c6 : Ab Try.prog 19 [exA, az [97, 49]] (ab false) := by
    have := match_ab exP [97, 49] (by decide) (by simp) (fun x h => by have := hxP x h; omega)
    rw [ex9] at this; exact this
  have l7 := lit_ab [91, 97, 93]
  have c7 := special_ab [⟨[91, 97, 93], 0⟩] (by simp) (by simp [cat])
  rw [ex10] at c7
  have l8 := lit_ab [91, 97]
  have c8 := special_ab [⟨[91, 97], 0⟩] (by simp) (by simp [cat])
  rw [ex11] at c8
  have c9 : Ab Try.prog 17 [exA] (elsA [⟨[97], 1⟩, ⟨[42], 0⟩, ⟨[91, 33], 0⟩, ⟨[48], 1⟩, ⟨[45], 0⟩, ⟨[57], 1⟩, ⟨[93], 0⟩]) := by
    have := runs_ab exP (by decide) (fun x h => by have := hxP x h; omega)
    rw [ex12] at this; exact this
  refine Fn_of_aw (keep := []) Try.func12 rfl rfl (by simp [Try.ntmps12]) ?_
  simp only [num_cons, num_nil, Try.ntmps12, Try.results12]
  repeat' (first
 | ((with_reducible apply awO_ev); (· rfl); (· exact sv))
 | ((with_reducible apply aw_seq); intro _ _)
 | (with_reducible apply aw_region)
 | (with_reducible apply aw_block)
 | ((first | (with_reducible apply awO_nil) | (with_reducible apply aw_exit) | (with_reducible apply aw_skip) | (with_reducible apply aw_ret)); (try simp only [CT, ↓reduceIte, Nat.reduceEqDiff]))
 | ((with_reducible apply awO_y); (· rfl); (· rfl); (· decide); (· exact sv); (· exact sv))
 | ((with_reducible apply awO_n); (· rfl); (· rfl); (· decide); (· exact sv); (· rfl); (· rfl); (· decide))
 | ((with_reducible apply awO_u); (· rfl); (· rfl); (· exact svr); (· rfl); (· decide))
 | ((with_reducible apply aw_cond_true); (· exact sv))
 | ((with_reducible apply aw_cond_false); (· exact sv))
 | ((with_reducible apply awO_un); (· rfl); (· decide); (· exact sv))
 | (refine Kont.go ‹Kont _ _ _ _› _ ?_)
 | ((with_reducible apply awO_c); (· rfl); (· rfl); (· exact sv); (· (first | exact l1 | exact c1 | exact l2 | exact c2 | exact c2b | exact l3 | exact c3 | exact c3b | exact l4 | exact c4 | exact c4b | exact c5 | exact c6 | exact l7 | exact c7 | exact l8 | exact c8 | exact c9)); (· rfl); (· rfl); (· rfl); (· decide))
 | ((with_reducible apply awO_f); (· rfl); (· rfl); (· exact sv); (· exact sv); (· (first | exact l1 | exact c1 | exact l2 | exact c2 | exact c2b | exact l3 | exact c3 | exact c3b | exact l4 | exact c4 | exact c4b | exact c5 | exact c6 | exact l7 | exact c7 | exact l8 | exact c8 | exact c9)); (· rfl); (· rfl); (· decide))
 | ((with_reducible apply awO_m); (· rfl); (· rfl); (· exact sv); (· (first | exact l1 | exact c1 | exact l2 | exact c2 | exact c2b | exact l3 | exact c3 | exact c3b | exact l4 | exact c4 | exact c4b | exact c5 | exact c6 | exact l7 | exact c7 | exact l8 | exact c8 | exact c9)); (· exact svq); (· exact svq); (· exact svq); (· exact svq); (· rfl); (· exact nd); (with_reducible apply awO_st); (· exact svs))
 | ((first | ((with_reducible apply awO_guard); (· rfl); (· rfl); (· exact sv)) | ((with_reducible apply aw_cond); (· exact sv))); all_goals (intro hg; (try simp only [Bool.not_true, Bool.not_false]); (try simp only [decide_eq_true_eq, decide_eq_false_iff_not, Bool.not_true, Bool.not_false, Bool.not_eq_true', Bool.not_eq_false', Bool.not_not, beq_eq_false_iff_ne, ne_eq, beq_iff_eq, decide_eq_decide] at hg); try (exfalso; omega)))
 | ((with_reducible apply retQ_mk); (· (first | exact .inr rfl | exact .inl rfl)); (· exact sv); (· exact sv); rotate_left; (· rfl)))
  all_goals rfl
end Go.Proofs.Ytllhcgfdjfmmeaa
