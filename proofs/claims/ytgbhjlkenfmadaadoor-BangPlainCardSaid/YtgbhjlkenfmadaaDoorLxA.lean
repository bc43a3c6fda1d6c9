/- The lexer's small functions and those of its reference, on the abstract machine. -/
import Derived.Test.YtgbhjlkenfmadaaDoorStr
namespace Go.Proofs.YtgbhjlkenfmadaaDoor
open Go.RowKit
set_option linter.unusedVariables false
set_option linter.unusedSimpArgs false
set_option maxRecDepth 100000
set_option maxHeartbeats 4000000
def blankB (b : UInt8) : Bool := decide (b.toNat = 9 ∨ b.toNat = 32)
def digitB (b : UInt8) : Bool := decide (48 ≤ b.toNat ∧ b.toNat ≤ 57)
def letterB (b : UInt8) : Bool := decide (97 ≤ b.toNat ∧ b.toNat ≤ 122 ∨ 65 ≤ b.toNat ∧ b.toNat ≤ 90)
def startsB (b : UInt8) : Bool := decide (b.toNat = 95 ∨ 65 ≤ b.toNat ∧ b.toNat ≤ 90 ∨ 97 ≤ b.toNat ∧ b.toNat ≤ 122)
def opB (b : UInt8) : Bool := decide (b.toNat = 38 ∨ b.toNat = 124 ∨ b.toNat = 59 ∨ b.toNat = 40 ∨ b.toNat = 41 ∨ b.toNat = 60 ∨ b.toNat = 62)
def divB (b : UInt8) : Bool := decide (b.toNat = 38 ∨ b.toNat = 124 ∨ b.toNat = 59 ∨ b.toNat = 40 ∨ b.toNat = 41 ∨ b.toNat = 60 ∨ b.toNat = 62 ∨ b.toNat = 10 ∨ b.toNat = 9 ∨ b.toNat = 32)
def wordB (b : UInt8) : Bool := decide (b.toNat = 95 ∨ 65 ≤ b.toNat ∧ b.toNat ≤ 90 ∨ 97 ≤ b.toNat ∧ b.toNat ≤ 122 ∨ 48 ≤ b.toNat ∧ b.toNat ≤ 57)
def specB (b : UInt8) : Bool := decide (48 ≤ b.toNat ∧ b.toNat ≤ 57 ∨ b.toNat = 64 ∨ b.toNat = 42 ∨ b.toNat = 35 ∨ b.toNat = 63 ∨ b.toNat = 45 ∨ b.toNat = 36 ∨ b.toNat = 33)
theorem blank_ab (b : UInt8) : Ab Tryd.prog 68 [au b] (ab (blankB b)) := by
  refine Fn_of_aw (keep := []) Tryd.func68 rfl rfl (by simp [Tryd.ntmps68]) ?_
  simp only [num_cons, num_nil, Tryd.ntmps68, Tryd.results68]
  repeat' (first
 | ((with_reducible apply awO_ev); (· rfl); (· exact sv))
 | ((with_reducible apply aw_seq); intro _ _)
 | (with_reducible apply aw_region)
 | ((first | (with_reducible apply awO_nil) | (with_reducible apply aw_exit) | (with_reducible apply aw_skip) | (with_reducible apply aw_ret)); (try simp only [CT, ↓reduceIte, Nat.reduceEqDiff]))
 | ((with_reducible apply awO_y); (· rfl); (· rfl); (· decide); (· exact sv); (· exact sv))
 | ((with_reducible apply awO_n); (· rfl); (· rfl); (· decide); (· exact sv); (· rfl); (· rfl); (· decide))
 | (refine Kont.go ‹Kont _ _ _ _› _ ?_)
 | ((first | ((with_reducible apply awO_guard); (· rfl); (· rfl); (· exact sv)) | ((with_reducible apply aw_cond); (· exact sv))); all_goals (intro hg; (try simp only [Bool.not_true, Bool.not_false]); (try simp only [decide_eq_true_eq, decide_eq_false_iff_not, Bool.not_true, Bool.not_false, Bool.not_eq_true', Bool.not_eq_false', Bool.not_not, beq_eq_false_iff_ne, ne_eq, beq_iff_eq, decide_eq_decide] at hg); try (exfalso; omega)))
 | ((with_reducible apply retQ_mk); (· (first | exact .inr rfl | exact .inl rfl)); (· exact sv); (· exact sv); rotate_left; (· rfl)))
  all_goals (unfold blankB; (refine ab_eq ?_; simp only [Bool.false_eq_true, decide_eq_true_eq, true_iff, false_iff, iff_true, iff_false, not_true, not_false_eq_true]; omega))
theorem digit_ab (b : UInt8) : Ab Tryd.prog 78 [au b] (ab (digitB b)) := by
  refine Fn_of_aw (keep := []) Tryd.func78 rfl rfl (by simp [Tryd.ntmps78]) ?_
  simp only [num_cons, num_nil, Tryd.ntmps78, Tryd.results78]
  repeat' (first
 | ((with_reducible apply awO_ev); (· rfl); (· exact sv))
 | ((with_reducible apply aw_seq); intro _ _)
 | (with_reducible apply aw_region)
 | ((first | (with_reducible apply awO_nil) | (with_reducible apply aw_exit) | (with_reducible apply aw_skip) | (with_reducible apply aw_ret)); (try simp only [CT, ↓reduceIte, Nat.reduceEqDiff]))
 | ((with_reducible apply awO_y); (· rfl); (· rfl); (· decide); (· exact sv); (· exact sv))
 | ((with_reducible apply awO_n); (· rfl); (· rfl); (· decide); (· exact sv); (· rfl); (· rfl); (· decide))
 | (refine Kont.go ‹Kont _ _ _ _› _ ?_)
 | ((first | ((with_reducible apply awO_guard); (· rfl); (· rfl); (· exact sv)) | ((with_reducible apply aw_cond); (· exact sv))); all_goals (intro hg; (try simp only [Bool.not_true, Bool.not_false]); (try simp only [decide_eq_true_eq, decide_eq_false_iff_not, Bool.not_true, Bool.not_false, Bool.not_eq_true', Bool.not_eq_false', Bool.not_not, beq_eq_false_iff_ne, ne_eq, beq_iff_eq, decide_eq_decide] at hg); try (exfalso; omega)))
 | ((with_reducible apply retQ_mk); (· (first | exact .inr rfl | exact .inl rfl)); (· exact sv); (· exact sv); rotate_left; (· rfl)))
  all_goals (unfold digitB; (refine ab_eq ?_; simp only [Bool.false_eq_true, decide_eq_true_eq, true_iff, false_iff, iff_true, iff_false, not_true, not_false_eq_true]; omega))
theorem starts_ab (b : UInt8) : Ab Tryd.prog 77 [au b] (ab (startsB b)) := by
  refine Fn_of_aw (keep := []) Tryd.func77 rfl rfl (by simp [Tryd.ntmps77]) ?_
  simp only [num_cons, num_nil, Tryd.ntmps77, Tryd.results77]
  repeat' (first
 | ((with_reducible apply awO_ev); (· rfl); (· exact sv))
 | ((with_reducible apply aw_seq); intro _ _)
 | (with_reducible apply aw_region)
 | ((first | (with_reducible apply awO_nil) | (with_reducible apply aw_exit) | (with_reducible apply aw_skip) | (with_reducible apply aw_ret)); (try simp only [CT, ↓reduceIte, Nat.reduceEqDiff]))
 | ((with_reducible apply awO_y); (· rfl); (· rfl); (· decide); (· exact sv); (· exact sv))
 | ((with_reducible apply awO_n); (· rfl); (· rfl); (· decide); (· exact sv); (· rfl); (· rfl); (· decide))
 | ((with_reducible apply awO_u); (· rfl); (· rfl); (· exact svr); (· rfl); (· decide))
 | (refine Kont.go ‹Kont _ _ _ _› _ ?_)
 | ((first | ((with_reducible apply awO_guard); (· rfl); (· rfl); (· exact sv)) | ((with_reducible apply aw_cond); (· exact sv))); all_goals (intro hg; (try simp only [Bool.not_true, Bool.not_false]); (try simp only [decide_eq_true_eq, decide_eq_false_iff_not, Bool.not_true, Bool.not_false, Bool.not_eq_true', Bool.not_eq_false', Bool.not_not, beq_eq_false_iff_ne, ne_eq, beq_iff_eq, decide_eq_decide] at hg); try (exfalso; omega)))
 | ((with_reducible apply retQ_mk); (· (first | exact .inr rfl | exact .inl rfl)); (· exact sv); (· exact sv); rotate_left; (· rfl)))
  all_goals (unfold startsB; (refine ab_eq ?_; simp only [Bool.false_eq_true, decide_eq_true_eq, true_iff, false_iff, iff_true, iff_false, not_true, not_false_eq_true]; omega))
theorem divides_ab (b : UInt8) : Ab Tryd.prog 47 [au b] (ab (divB b)) := by
  refine Fn_of_aw (keep := []) Tryd.func47 rfl rfl (by simp [Tryd.ntmps47]) ?_
  simp only [num_cons, num_nil, Tryd.ntmps47, Tryd.results47]
  repeat' (first
 | ((with_reducible apply awO_ev); (· rfl); (· exact sv))
 | ((with_reducible apply aw_seq); intro _ _)
 | (with_reducible apply aw_region)
 | (with_reducible apply aw_block)
 | ((first | (with_reducible apply awO_nil) | (with_reducible apply aw_exit) | (with_reducible apply aw_skip) | (with_reducible apply aw_ret)); (try simp only [CT, ↓reduceIte, Nat.reduceEqDiff]))
 | (refine Kont.go ‹Kont _ _ _ _› _ ?_)
 | ((with_reducible apply awO_c); (· rfl); (· rfl); (· exact sv); (· (first | exact blank_ab _)); (· rfl); (· rfl); (· rfl); (· decide))
 | ((first | ((with_reducible apply awO_guard); (· rfl); (· rfl); (· exact sv)) | ((with_reducible apply aw_cond); (· exact sv))); all_goals (intro hg; (try simp only [Bool.not_true, Bool.not_false]); (try simp only [decide_eq_true_eq, decide_eq_false_iff_not, Bool.not_true, Bool.not_false, Bool.not_eq_true', Bool.not_eq_false', Bool.not_not, beq_eq_false_iff_ne, ne_eq, beq_iff_eq, decide_eq_decide] at hg); try (exfalso; omega)))
 | ((with_reducible apply retQ_mk); (· (first | exact .inr rfl | exact .inl rfl)); (· exact sv); (· exact sv); rotate_left; (· rfl)))
  all_goals (unfold divB; (try unfold blankB); (refine ab_eq ?_; simp only [Bool.false_eq_true, decide_eq_true_eq, true_iff, false_iff, iff_true, iff_false, not_true, not_false_eq_true]; omega))
end Go.Proofs.YtgbhjlkenfmadaaDoor
