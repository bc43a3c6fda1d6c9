/- The lexer's small functions and those of its reference, on the abstract machine. -/
import Derived.Test.YtgbhjlkenfmadaaGreatDoorStr
namespace Go.Proofs.YtgbhjlkenfmadaaGreatDoor
open Go.RowKit
set_option linter.unusedVariables false
set_option linter.unusedSimpArgs false
set_option maxRecDepth 100000
set_option maxHeartbeats 4000000
def blankB (b : UInt8) : Bool := decide (b.toNat = 9 ∨ b.toNat = 32)
def digitB (b : UInt8) : Bool := decide (48 ≤ b.toNat ∧ b.toNat ≤ 57)
def letterB (b : UInt8) : Bool := decide (97 ≤ b.toNat ∧ b.toNat ≤ 122 ∨ 65 ≤ b.toNat ∧ b.toNat ≤ 90)
def startsB (b : UInt8) : Bool := decide (b.toNat = 95 ∨ 65 ≤ b.toNat ∧ b.toNat ≤ 90 ∨ 97 ≤ b.toNat ∧ b.toNat ≤ 122)
def opB (b : UInt8) : Bool := decide (b.toNat = 38 ∨ b.toNat = 124 ∨ b.toNat = 59 ∨ b.toNat = 40 ∨ b.toNat = 41 ∨ b.toNat = 60 ∨ b.toNat = 62)
def divB (b : UInt8) : Bool := decide (b.toNat = 38 ∨ b.toNat = 124 ∨ b.toNat = 59 ∨ b.toNat = 40 ∨ b.toNat = 41 ∨ b.toNat = 60 ∨ b.toNat = 62 ∨ b.toNat = 10 ∨ b.toNat = 9 ∨ b.toNat = 32)
def wordB (b : UInt8) : Bool := decide (b.toNat = 95 ∨ 65 ≤ b.toNat ∧ b.toNat ≤ 90 ∨ 97 ≤ b.toNat ∧ b.toNat ≤ 122 ∨ 48 ≤ b.toNat ∧ b.toNat ≤ 57)
def specB (b : UInt8) : Bool := decide (48 ≤ b.toNat ∧ b.toNat ≤ 57 ∨ b.toNat = 64 ∨ b.toNat = 42 ∨ b.toNat = 35 ∨ b.toNat = 63 ∨ b.toNat = 45 ∨ b.toNat = 36 ∨ b.toNat = 33)
theorem blank_ab (b : UInt8) : Ab Tryz.prog 87 [au b] (ab (blankB b)) := by
  refine Fn_of_aw (keep := []) Tryz.func87 rfl rfl (by simp [Tryz.ntmps87]) ?_
  simp only [num_cons, num_nil, Tryz.ntmps87, Tryz.results87]
  repeat' (first
 | ((with_reducible apply awO_ev); (· rfl); (· exact sv))
 | ((with_reducible apply aw_seq); intro _ _)
 | (with_reducible apply aw_region)
 | ((with_reducible first | apply awO_nil | apply aw_exit | apply aw_skip | apply aw_ret); (try simp only [CT, ↓reduceIte, Nat.reduceEqDiff]))
 | ((with_reducible apply awO_y); (· rfl); (· rfl); (· decide); (· exact sv); (· exact sv))
 | ((with_reducible apply awO_n); (· rfl); (· rfl); (· decide); (· exact sv); (· rfl); (· rfl); (· decide))
 | (refine Kont.go ‹Kont _ _ _ _› _ ?_)
 | ((first | ((with_reducible apply awO_guardN); (· rfl); (· rfl); (· exact sv); (· exact nB)) | ((with_reducible apply aw_condN); (· exact sv))); (· exact pN); (· exact pN); all_goals (intro hg; try (exfalso; omega)))
 | ((with_reducible apply retQ_mk); (· exact rI); (· exact sv); (· exact sv); rotate_left; (· rfl)))
  all_goals (unfold blankB; (refine ab_eq ?_; simp only [Bool.false_eq_true, decide_eq_true_eq, true_iff, false_iff, iff_true, iff_false, not_true, not_false_eq_true]; omega))
theorem rblank_ab (b : UInt8) : Ab Tryz.prog 82 [au b] (ab (blankB b)) := by
  refine Fn_of_aw (keep := []) Tryz.func82 rfl rfl (by simp [Tryz.ntmps82]) ?_
  simp only [num_cons, num_nil, Tryz.ntmps82, Tryz.results82]
  repeat' (first
 | ((with_reducible apply awO_ev); (· rfl); (· exact sv))
 | ((with_reducible apply aw_seq); intro _ _)
 | (with_reducible apply aw_region)
 | (with_reducible apply aw_block)
 | ((with_reducible first | apply awO_nil | apply aw_exit | apply aw_skip | apply aw_ret); (try simp only [CT, ↓reduceIte, Nat.reduceEqDiff]))
 | ((with_reducible apply awO_y); (· rfl); (· rfl); (· decide); (· exact sv); (· exact sv))
 | ((with_reducible apply awO_n); (· rfl); (· rfl); (· decide); (· exact sv); (· rfl); (· rfl); (· decide))
 | ((with_reducible apply awO_u); (· rfl); (· rfl); (· exact svr); (· rfl); (· decide))
 | ((with_reducible apply aw_cond_true); (· exact sv))
 | ((with_reducible apply aw_cond_false); (· exact sv))
 | ((with_reducible apply awO_un); (· rfl); (· decide); (· exact sv))
 | (refine Kont.go ‹Kont _ _ _ _› _ ?_)
 | ((first | ((with_reducible apply awO_guardN); (· rfl); (· rfl); (· exact sv); (· exact nB)) | ((with_reducible apply aw_condN); (· exact sv))); (· exact pN); (· exact pN); all_goals (intro hg; try (exfalso; omega)))
 | ((with_reducible apply retQ_mk); (· exact rI); (· exact sv); (· exact sv); rotate_left; (· rfl)))
  all_goals (unfold blankB; (refine ab_eq ?_; simp only [Bool.false_eq_true, decide_eq_true_eq, true_iff, false_iff, iff_true, iff_false, not_true, not_false_eq_true]; omega))
theorem digit_ab (b : UInt8) : Ab Tryz.prog 97 [au b] (ab (digitB b)) := by
  refine Fn_of_aw (keep := []) Tryz.func97 rfl rfl (by simp [Tryz.ntmps97]) ?_
  simp only [num_cons, num_nil, Tryz.ntmps97, Tryz.results97]
  repeat' (first
 | ((with_reducible apply awO_ev); (· rfl); (· exact sv))
 | ((with_reducible apply aw_seq); intro _ _)
 | (with_reducible apply aw_region)
 | ((with_reducible first | apply awO_nil | apply aw_exit | apply aw_skip | apply aw_ret); (try simp only [CT, ↓reduceIte, Nat.reduceEqDiff]))
 | ((with_reducible apply awO_y); (· rfl); (· rfl); (· decide); (· exact sv); (· exact sv))
 | ((with_reducible apply awO_n); (· rfl); (· rfl); (· decide); (· exact sv); (· rfl); (· rfl); (· decide))
 | (refine Kont.go ‹Kont _ _ _ _› _ ?_)
 | ((first | ((with_reducible apply awO_guardN); (· rfl); (· rfl); (· exact sv); (· exact nB)) | ((with_reducible apply aw_condN); (· exact sv))); (· exact pN); (· exact pN); all_goals (intro hg; try (exfalso; omega)))
 | ((with_reducible apply retQ_mk); (· exact rI); (· exact sv); (· exact sv); rotate_left; (· rfl)))
  all_goals (unfold digitB; (refine ab_eq ?_; simp only [Bool.false_eq_true, decide_eq_true_eq, true_iff, false_iff, iff_true, iff_false, not_true, not_false_eq_true]; omega))
theorem rdigit_ab (b : UInt8) : Ab Tryz.prog 86 [au b] (ab (digitB b)) := by
  refine Fn_of_aw (keep := []) Tryz.func86 rfl rfl (by simp [Tryz.ntmps86]) ?_
  simp only [num_cons, num_nil, Tryz.ntmps86, Tryz.results86]
  repeat' (first
 | ((with_reducible apply awO_ev); (· rfl); (· exact sv))
 | ((with_reducible apply aw_seq); intro _ _)
 | (with_reducible apply aw_region)
 | (with_reducible apply aw_block)
 | ((with_reducible first | apply awO_nil | apply aw_exit | apply aw_skip | apply aw_ret); (try simp only [CT, ↓reduceIte, Nat.reduceEqDiff]))
 | ((with_reducible apply awO_y); (· rfl); (· rfl); (· decide); (· exact sv); (· exact sv))
 | ((with_reducible apply awO_n); (· rfl); (· rfl); (· decide); (· exact sv); (· rfl); (· rfl); (· decide))
 | ((with_reducible apply awO_u); (· rfl); (· rfl); (· exact svr); (· rfl); (· decide))
 | ((with_reducible apply aw_cond_true); (· exact sv))
 | ((with_reducible apply aw_cond_false); (· exact sv))
 | ((with_reducible apply awO_un); (· rfl); (· decide); (· exact sv))
 | (refine Kont.go ‹Kont _ _ _ _› _ ?_)
 | ((first | ((with_reducible apply awO_guardN); (· rfl); (· rfl); (· exact sv); (· exact nB)) | ((with_reducible apply aw_condN); (· exact sv))); (· exact pN); (· exact pN); all_goals (intro hg; try (exfalso; omega)))
 | ((with_reducible apply retQ_mk); (· exact rI); (· exact sv); (· exact sv); rotate_left; (· rfl)))
  all_goals (unfold digitB; (refine ab_eq ?_; simp only [Bool.false_eq_true, decide_eq_true_eq, true_iff, false_iff, iff_true, iff_false, not_true, not_false_eq_true]; omega))
theorem letter_ab (b : UInt8) : Ab Tryz.prog 148 [au b] (ab (letterB b)) := by
  refine Fn_of_aw (keep := []) Tryz.func148 rfl rfl (by simp [Tryz.ntmps148]) ?_
  simp only [num_cons, num_nil, Tryz.ntmps148, Tryz.results148]
  repeat' (first
 | ((with_reducible apply awO_ev); (· rfl); (· exact sv))
 | ((with_reducible apply aw_seq); intro _ _)
 | (with_reducible apply aw_region)
 | (with_reducible apply aw_block)
 | ((with_reducible first | apply awO_nil | apply aw_exit | apply aw_skip | apply aw_ret); (try simp only [CT, ↓reduceIte, Nat.reduceEqDiff]))
 | ((with_reducible apply awO_y); (· rfl); (· rfl); (· decide); (· exact sv); (· exact sv))
 | ((with_reducible apply awO_n); (· rfl); (· rfl); (· decide); (· exact sv); (· rfl); (· rfl); (· decide))
 | ((with_reducible apply awO_u); (· rfl); (· rfl); (· exact svr); (· rfl); (· decide))
 | ((with_reducible apply aw_cond_true); (· exact sv))
 | ((with_reducible apply aw_cond_false); (· exact sv))
 | ((with_reducible apply awO_un); (· rfl); (· decide); (· exact sv))
 | (refine Kont.go ‹Kont _ _ _ _› _ ?_)
 | ((first | ((with_reducible apply awO_guardN); (· rfl); (· rfl); (· exact sv); (· exact nB)) | ((with_reducible apply aw_condN); (· exact sv))); (· exact pN); (· exact pN); all_goals (intro hg; try (exfalso; omega)))
 | ((with_reducible apply retQ_mk); (· exact rI); (· exact sv); (· exact sv); rotate_left; (· rfl)))
  all_goals (unfold letterB; (refine ab_eq ?_; simp only [Bool.false_eq_true, decide_eq_true_eq, true_iff, false_iff, iff_true, iff_false, not_true, not_false_eq_true]; omega))
theorem starts_ab (b : UInt8) : Ab Tryz.prog 96 [au b] (ab (startsB b)) := by
  refine Fn_of_aw (keep := []) Tryz.func96 rfl rfl (by simp [Tryz.ntmps96]) ?_
  simp only [num_cons, num_nil, Tryz.ntmps96, Tryz.results96]
  repeat' (first
 | ((with_reducible apply awO_ev); (· rfl); (· exact sv))
 | ((with_reducible apply aw_seq); intro _ _)
 | (with_reducible apply aw_region)
 | ((with_reducible first | apply awO_nil | apply aw_exit | apply aw_skip | apply aw_ret); (try simp only [CT, ↓reduceIte, Nat.reduceEqDiff]))
 | ((with_reducible apply awO_y); (· rfl); (· rfl); (· decide); (· exact sv); (· exact sv))
 | ((with_reducible apply awO_n); (· rfl); (· rfl); (· decide); (· exact sv); (· rfl); (· rfl); (· decide))
 | ((with_reducible apply awO_u); (· rfl); (· rfl); (· exact svr); (· rfl); (· decide))
 | (refine Kont.go ‹Kont _ _ _ _› _ ?_)
 | ((first | ((with_reducible apply awO_guardN); (· rfl); (· rfl); (· exact sv); (· exact nB)) | ((with_reducible apply aw_condN); (· exact sv))); (· exact pN); (· exact pN); all_goals (intro hg; try (exfalso; omega)))
 | ((with_reducible apply retQ_mk); (· exact rI); (· exact sv); (· exact sv); rotate_left; (· rfl)))
  all_goals (unfold startsB; (refine ab_eq ?_; simp only [Bool.false_eq_true, decide_eq_true_eq, true_iff, false_iff, iff_true, iff_false, not_true, not_false_eq_true]; omega))
theorem opByte_ab (b : UInt8) : Ab Tryz.prog 84 [au b] (ab (opB b)) := by
  refine Fn_of_aw (keep := []) Tryz.func84 rfl rfl (by simp [Tryz.ntmps84]) ?_
  simp only [num_cons, num_nil, Tryz.ntmps84, Tryz.results84]
  repeat' (first
 | ((with_reducible apply awO_ev); (· rfl); (· exact sv))
 | ((with_reducible apply aw_seq); intro _ _)
 | (with_reducible apply aw_region)
 | (with_reducible apply aw_block)
 | ((with_reducible first | apply awO_nil | apply aw_exit | apply aw_skip | apply aw_ret); (try simp only [CT, ↓reduceIte, Nat.reduceEqDiff]))
 | ((with_reducible apply awO_y); (· rfl); (· rfl); (· decide); (· exact sv); (· exact sv))
 | ((with_reducible apply awO_n); (· rfl); (· rfl); (· decide); (· exact sv); (· rfl); (· rfl); (· decide))
 | ((with_reducible apply awO_u); (· rfl); (· rfl); (· exact svr); (· rfl); (· decide))
 | ((with_reducible apply aw_cond_true); (· exact sv))
 | ((with_reducible apply aw_cond_false); (· exact sv))
 | ((with_reducible apply awO_un); (· rfl); (· decide); (· exact sv))
 | (refine Kont.go ‹Kont _ _ _ _› _ ?_)
 | ((first | ((with_reducible apply awO_guardN); (· rfl); (· rfl); (· exact sv); (· exact nB)) | ((with_reducible apply aw_condN); (· exact sv))); (· exact pN); (· exact pN); all_goals (intro hg; try (exfalso; omega)))
 | ((with_reducible apply retQ_mk); (· exact rI); (· exact sv); (· exact sv); rotate_left; (· rfl)))
  all_goals (unfold opB; (refine ab_eq ?_; simp only [Bool.false_eq_true, decide_eq_true_eq, true_iff, false_iff, iff_true, iff_false, not_true, not_false_eq_true]; omega))
theorem divides_ab (b : UInt8) : Ab Tryz.prog 56 [au b] (ab (divB b)) := by
  refine Fn_of_aw (keep := []) Tryz.func56 rfl rfl (by simp [Tryz.ntmps56]) ?_
  simp only [num_cons, num_nil, Tryz.ntmps56, Tryz.results56]
  repeat' (first
 | ((with_reducible apply awO_ev); (· rfl); (· exact sv))
 | ((with_reducible apply aw_seq); intro _ _)
 | (with_reducible apply aw_region)
 | (with_reducible apply aw_block)
 | ((with_reducible first | apply awO_nil | apply aw_exit | apply aw_skip | apply aw_ret); (try simp only [CT, ↓reduceIte, Nat.reduceEqDiff]))
 | (refine Kont.go ‹Kont _ _ _ _› _ ?_)
 | ((with_reducible apply awO_c); (· rfl); (· rfl); (· exact sv); (· (first | exact blank_ab _)); (· rfl); (· rfl); (· rfl); (· decide))
 | ((first | ((with_reducible apply awO_guardN); (· rfl); (· rfl); (· exact sv); (· exact nB)) | ((with_reducible apply aw_condN); (· exact sv))); (· exact pN); (· exact pN); all_goals (intro hg; try (exfalso; omega)))
 | ((with_reducible apply retQ_mk); (· exact rI); (· exact sv); (· exact sv); rotate_left; (· rfl)))
  all_goals (unfold divB; (try unfold blankB); (refine ab_eq ?_; simp only [Bool.false_eq_true, decide_eq_true_eq, true_iff, false_iff, iff_true, iff_false, not_true, not_false_eq_true]; omega))
theorem word_ab (b : UInt8) : Ab Tryz.prog 137 [au b] (ab (wordB b)) := by
  refine Fn_of_aw (keep := []) Tryz.func137 rfl rfl (by simp [Tryz.ntmps137]) ?_
  simp only [num_cons, num_nil, Tryz.ntmps137, Tryz.results137]
  repeat' (first
 | ((with_reducible apply awO_ev); (· rfl); (· exact sv))
 | ((with_reducible apply aw_seq); intro _ _)
 | (with_reducible apply aw_region)
 | (with_reducible apply aw_block)
 | ((with_reducible first | apply awO_nil | apply aw_exit | apply aw_skip | apply aw_ret); (try simp only [CT, ↓reduceIte, Nat.reduceEqDiff]))
 | ((with_reducible apply awO_y); (· rfl); (· rfl); (· decide); (· exact sv); (· exact sv))
 | ((with_reducible apply awO_n); (· rfl); (· rfl); (· decide); (· exact sv); (· rfl); (· rfl); (· decide))
 | ((with_reducible apply awO_u); (· rfl); (· rfl); (· exact svr); (· rfl); (· decide))
 | ((with_reducible apply aw_cond_true); (· exact sv))
 | ((with_reducible apply aw_cond_false); (· exact sv))
 | ((with_reducible apply awO_un); (· rfl); (· decide); (· exact sv))
 | (refine Kont.go ‹Kont _ _ _ _› _ ?_)
 | ((with_reducible apply awO_c); (· rfl); (· rfl); (· exact sv); (· (first | exact letter_ab _ | exact rdigit_ab _)); (· rfl); (· rfl); (· rfl); (· decide))
 | ((with_reducible apply awO_f); (· rfl); (· rfl); (· exact sv); (· exact sv); (· (first | exact letter_ab _ | exact rdigit_ab _)); (· rfl); (· rfl); (· decide))
 | ((with_reducible apply awO_m); (· rfl); (· rfl); (· exact sv); (· (first | exact letter_ab _ | exact rdigit_ab _)); (· exact svq); (· exact svq); (· exact svq); (· exact svq); (· rfl); (· exact nd); (with_reducible apply awO_st); (· exact svs))
 | ((first | ((with_reducible apply awO_guardN); (· rfl); (· rfl); (· exact sv); (· exact nB)) | ((with_reducible apply aw_condN); (· exact sv))); (· exact pN); (· exact pN); all_goals (intro hg; try (exfalso; omega)))
 | ((with_reducible apply retQ_mk); (· exact rI); (· exact sv); (· exact sv); rotate_left; (· rfl)))
  all_goals (unfold wordB; (try unfold letterB at *); (try unfold digitB at *); (try simp only [decide_eq_true_eq, decide_eq_false_iff_not] at *); (refine ab_eq ?_; simp only [Bool.false_eq_true, decide_eq_true_eq, true_iff, false_iff, iff_true, iff_false, not_true, not_false_eq_true]; omega))
theorem has_ab (l : List UInt8) (c : UInt8) (hl : l.length ≤ 1000) : Ab Tryz.prog 149 [az l, au c] (ab (l.contains c)) := by
  refine Fn_of_aw (keep := []) Tryz.func149 rfl rfl (by simp [Tryz.ntmps149]) ?_
  simp only [num_cons, num_nil, Tryz.ntmps149, Tryz.results149]
  repeat' (first
 | ((with_reducible apply awO_ev); (· rfl); (· exact sv))
 | ((with_reducible apply aw_seq); intro _ _)
 | (with_reducible apply aw_region)
 | (with_reducible apply aw_block)
 | ((with_reducible first | apply awO_nil | apply aw_exit | apply aw_skip | apply aw_ret); (try simp only [CT, ↓reduceIte, Nat.reduceEqDiff]))
 | ((with_reducible apply awO_y); (· rfl); (· rfl); (· decide); (· exact sv); (· exact sv))
 | ((with_reducible apply awO_n); (· rfl); (· rfl); (· decide); (· exact sv); (· rfl); (· rfl); (· decide))
 | ((with_reducible apply awO_u); (· rfl); (· rfl); (· exact svr); (· rfl); (· decide))
 | ((with_reducible apply aw_cond_true); (· exact sv))
 | ((with_reducible apply aw_cond_false); (· exact sv))
 | ((with_reducible apply awO_un); (· rfl); (· decide); (· exact sv))
 | (refine Kont.go ‹Kont _ _ _ _› _ ?_)
 | ((first | ((with_reducible apply awO_guardN); (· rfl); (· rfl); (· exact sv); (· exact nB)) | ((with_reducible apply aw_condN); (· exact sv))); (· exact pN); (· exact pN); all_goals (intro hg; try (exfalso; omega)))
 | ((with_reducible apply retQ_mk); (· exact rI); (· exact sv); (· exact sv); rotate_left; (· rfl)))
  refine aw_loopF (fun k : Nat => [(5, ai k)]) (fun _ => []) (fun k => k ≤ l.length ∧ l.contains c = (l.drop k).contains c) (fun k => l.length - k) 0 ⟨by omega, rfl⟩ ?_ ?_ ?_
  · (simp only [LP, look_cons, look_nil, and_true, true_and, ↓reduceIte, Nat.reduceEqDiff, Option.some.injEq, AV.v.injEq, Value.int.injEq, Int.natCast_add, Int.cast_ofNat_Int])
  · (simp only [LP, look_cons, look_nil, and_true, true_and, ↓reduceIte, Nat.reduceEqDiff, Option.some.injEq, AV.v.injEq, Value.int.injEq, Int.natCast_add, Int.cast_ofNat_Int])
  intro k ⟨hk, hI⟩
  (simp only [LP, List.append_assoc, List.nil_append, List.cons_append, List.append_nil, List.contains_cons, List.contains_nil, Nat.reduceBEq, Bool.or_false, Bool.or_true, Bool.true_or, Bool.false_or, ↓reduceIte, Bool.false_eq_true])
  by_cases hkl : k < l.length
  · rw [List.drop_eq_getElem_cons hkl, List.contains_cons] at hI
    have e : (c == l[k]) = decide ((l[k].toNat : Int) = c.toNat) := by
      rw [Bool.eq_iff_iff, beq_iff_eq, decide_eq_true_eq]
      constructor
      · intro h; rw [h]
      · intro h; exact (UInt8.toNat_inj.1 (by omega)).symm
    repeat' (first
 | ((with_reducible apply awO_ev); (· rfl); (· exact sv))
 | ((with_reducible apply aw_seq); intro _ _)
 | (with_reducible apply aw_region)
 | (with_reducible apply aw_block)
 | ((with_reducible first | apply awO_nil | apply aw_exit | apply aw_skip | apply aw_ret); (try simp only [CT, ↓reduceIte, Nat.reduceEqDiff]))
 | ((with_reducible apply awO_y); (· rfl); (· rfl); (· decide); (· exact sv); (· exact sv))
 | ((with_reducible apply awO_n); (· rfl); (· rfl); (· decide); (· exact sv); (· rfl); (· rfl); (· decide))
 | ((with_reducible apply awO_u); (· rfl); (· rfl); (· exact svr); (· rfl); (· decide))
 | ((with_reducible apply aw_cond_true); (· exact sv))
 | ((with_reducible apply aw_cond_false); (· exact sv))
 | ((with_reducible apply awO_un); (· rfl); (· decide); (· exact sv))
 | (refine Kont.go ‹Kont _ _ _ _› _ ?_)
 | ((first | ((with_reducible apply awO_guardN); (· rfl); (· rfl); (· exact sv); (· exact nB)) | ((with_reducible apply aw_condN); (· exact sv))); (· exact pN); (· exact pN); all_goals (intro hg; try (exfalso; omega)))
 | ((with_reducible apply retQ_mk); (· exact rI); (· exact sv); (· exact sv); rotate_left; (· rfl)))
    · rw [hI, e, decide_eq_true hg]; rfl
    · refine LE_mk (k + 1) ?_ ?_ sN sN sN
      · exact ⟨hkl, by rw [hI, e, decide_eq_false hg]; rfl⟩
      · omega
  · skip
    repeat' (first
 | ((with_reducible apply awO_ev); (· rfl); (· exact sv))
 | ((with_reducible apply aw_seq); intro _ _)
 | (with_reducible apply aw_region)
 | (with_reducible apply aw_block)
 | ((with_reducible first | apply awO_nil | apply aw_exit | apply aw_skip | apply aw_ret); (try simp only [CT, ↓reduceIte, Nat.reduceEqDiff]))
 | ((with_reducible apply awO_y); (· rfl); (· rfl); (· decide); (· exact sv); (· exact sv))
 | ((with_reducible apply awO_n); (· rfl); (· rfl); (· decide); (· exact sv); (· rfl); (· rfl); (· decide))
 | ((with_reducible apply awO_u); (· rfl); (· rfl); (· exact svr); (· rfl); (· decide))
 | ((with_reducible apply aw_cond_true); (· exact sv))
 | ((with_reducible apply aw_cond_false); (· exact sv))
 | ((with_reducible apply awO_un); (· rfl); (· decide); (· exact sv))
 | (refine Kont.go ‹Kont _ _ _ _› _ ?_)
 | ((first | ((with_reducible apply awO_guardN); (· rfl); (· rfl); (· exact sv); (· exact nB)) | ((with_reducible apply aw_condN); (· exact sv))); (· exact pN); (· exact pN); all_goals (intro hg; try (exfalso; omega)))
 | ((with_reducible apply retQ_mk); (· exact rI); (· exact sv); (· exact sv); rotate_left; (· rfl)))
    rw [hI, List.drop_eq_nil_of_le (by omega)]; rfl
theorem spec_ab (b : UInt8) : Ab Tryz.prog 138 [au b] (ab (specB b)) := by
  refine Fn_of_aw (keep := []) Tryz.func138 rfl rfl (by simp [Tryz.ntmps138]) ?_
  simp only [num_cons, num_nil, Tryz.ntmps138, Tryz.results138]
  repeat' (first
 | ((with_reducible apply awO_ev); (· rfl); (· exact sv))
 | ((with_reducible apply aw_seq); intro _ _)
 | (with_reducible apply aw_region)
 | (with_reducible apply aw_block)
 | ((with_reducible first | apply awO_nil | apply aw_exit | apply aw_skip | apply aw_ret); (try simp only [CT, ↓reduceIte, Nat.reduceEqDiff]))
 | ((with_reducible apply awO_y); (· rfl); (· rfl); (· decide); (· exact sv); (· exact sv))
 | ((with_reducible apply awO_n); (· rfl); (· rfl); (· decide); (· exact sv); (· rfl); (· rfl); (· decide))
 | ((with_reducible apply awO_u); (· rfl); (· rfl); (· exact svr); (· rfl); (· decide))
 | ((with_reducible apply aw_cond_true); (· exact sv))
 | ((with_reducible apply aw_cond_false); (· exact sv))
 | ((with_reducible apply awO_un); (· rfl); (· decide); (· exact sv))
 | (refine Kont.go ‹Kont _ _ _ _› _ ?_)
 | ((with_reducible apply awO_c); (· rfl); (· rfl); (· exact sv); (· (first | exact rdigit_ab _ | exact has_ab _ _ (by decide))); (· rfl); (· rfl); (· rfl); (· decide))
 | ((with_reducible apply awO_f); (· rfl); (· rfl); (· exact sv); (· exact sv); (· (first | exact rdigit_ab _ | exact has_ab _ _ (by decide))); (· rfl); (· rfl); (· decide))
 | ((with_reducible apply awO_m); (· rfl); (· rfl); (· exact sv); (· (first | exact rdigit_ab _ | exact has_ab _ _ (by decide))); (· exact svq); (· exact svq); (· exact svq); (· exact svq); (· rfl); (· exact nd); (with_reducible apply awO_st); (· exact svs))
 | ((first | ((with_reducible apply awO_guardN); (· rfl); (· rfl); (· exact sv); (· exact nB)) | ((with_reducible apply aw_condN); (· exact sv))); (· exact pN); (· exact pN); all_goals (intro hg; try (exfalso; omega)))
 | ((with_reducible apply retQ_mk); (· exact rI); (· exact sv); (· exact sv); rotate_left; (· rfl)))
  all_goals (refine ab_eq ?_; have h' := hg; simp only [digitB, decide_eq_true_eq, decide_eq_false_iff_not] at h'; unfold specB; simp only [decide_eq_true_eq, Bool.or_eq_true, beq_iff_eq, ← UInt8.toNat_inj, UInt8.reduceToNat, true_iff]; omega)
end Go.Proofs.YtgbhjlkenfmadaaGreatDoor
/- What the lexer computes: plain functions on the rest of the text. No program is named here. -/
namespace Go.Proofs.YtgbhjlkenfmadaaGreatDoor
set_option linter.unusedVariables false
set_option linter.unusedSimpArgs false
/-- Whether an expansion goes on behind a dollar. -/
def dolB : List UInt8 → Bool
  | [] => false
  | c :: _ => startsB c || specB c || decide (c.toNat = 123 ∨ c.toNat = 40)
/-- Whether a construct begins here. -/
def begB : List UInt8 → Bool
  | [] => false
  | c :: r => decide (c.toNat = 92 ∨ c.toNat = 39 ∨ c.toNat = 34 ∨ c.toNat = 96) || (decide (c.toNat = 36) && dolB r)
/-- The length of a comment. -/
def comN : List UInt8 → Nat
  | [] => 0
  | c :: r => if c.toNat = 10 then 0 else comN r + 1
def joinB : List UInt8 → Bool
  | a :: b :: _ => decide (a.toNat = 92 ∧ b.toNat = 10)
  | _ => false
def wordN : List UInt8 → Nat
  | [] => 0
  | c :: r => if wordB c = true then wordN r + 1 else 0
/-- To the closing single quote. -/
def sngN : List UInt8 → Nat → Nat × Int
  | [], _ => (0, 7)
  | c :: r, o => if c.toNat = 39 then (o + 1, 0) else sngN r (o + 1)
def bqtN : List UInt8 → Nat → Nat × Int
  | [], _ => (0, 7)
  | [c], o => if c.toNat = 96 then (o + 1, 0) else if c.toNat = 92 then (o, 7) else (0, 7)
  | c :: d :: r, o => if c.toNat = 96 then (o + 1, 0) else if c.toNat = 92 then bqtN r (o + 2) else bqtN (d :: r) (o + 1)
mutual
/-- A construct: its length or the place of its error, and the error. -/
def con (l : List UInt8) (pl : Nat) : Nat × Int :=
  match l with
  | [] => (0, 0)
  | c :: r =>
    if c.toNat = 92 then (if r.length = 0 then (0, 7) else (2, 0))
    else if c.toNat = 39 then sngN r 1
    else if c.toNat = 34 then dbl r 1
    else if c.toNat = 96 then bqtN r 1
    else match r with
      | [] => (0, 0)
      | d :: t =>
        if d.toNat = 40 then
          (match t with
          | [] => cmd [] 2 0 true
          | e :: u => if e.toNat = 40 then ari u 3 0 else cmd (e :: u) 2 0 true)
        else if d.toNat = 123 then brc t 2 pl
        else if startsB d = true then (1 + wordN (d :: t), 0) else (2, 0)
termination_by 3 * l.length
def pas (l : List UInt8) (pl : Nat) : Nat × Int :=
  match l with
  | [] => (1, 0)
  | c :: r => if (pl ≠ 0 ∧ (c.toNat = 39 ∨ c.toNat = 34)) ∨ begB (c :: r) = false then (1, 0) else con (c :: r) pl
termination_by 3 * l.length + 1
def dbl (l : List UInt8) (o : Nat) : Nat × Int :=
  match l with
  | [] => (0, 7)
  | c :: r => if c.toNat = 34 then (o + 1, 0) else
    if (pas (c :: r) 1).2 ≠ 0 then (o + (pas (c :: r) 1).1, (pas (c :: r) 1).2) else
    if (pas (c :: r) 1).1 = 0 then (0, 0) else dbl (r.drop ((pas (c :: r) 1).1 - 1)) (o + (pas (c :: r) 1).1)
termination_by 3 * l.length + 2
def brc (l : List UInt8) (o pl : Nat) : Nat × Int :=
  match l with
  | [] => (0, 7)
  | c :: r => if c.toNat = 125 then (o + 1, 0) else if c.toNat = 34 ∧ pl = 1 then (o, 6) else
    if (pas (c :: r) pl).2 ≠ 0 then (o + (pas (c :: r) pl).1, (pas (c :: r) pl).2) else
    if (pas (c :: r) pl).1 = 0 then (0, 0) else brc (r.drop ((pas (c :: r) pl).1 - 1)) (o + (pas (c :: r) pl).1) pl
termination_by 3 * l.length + 2
def cmd (l : List UInt8) (o dep : Nat) (st : Bool) : Nat × Int :=
  match l with
  | [] => (0, 7)
  | c :: r => if joinB (c :: r) = true then cmd (r.drop 1) (o + 2) dep st else
    if c.toNat = 35 ∧ st = true then cmd (r.drop (comN (c :: r) - 1)) (o + comN (c :: r)) dep st else
    if begB (c :: r) = true then
      (if (con (c :: r) 0).2 ≠ 0 then (o + (con (c :: r) 0).1, (con (c :: r) 0).2) else
       if (con (c :: r) 0).1 = 0 then (0, 0) else cmd (r.drop ((con (c :: r) 0).1 - 1)) (o + (con (c :: r) 0).1) dep false)
    else if c.toNat = 41 ∧ dep = 0 then (o + 1, 0)
    else cmd r (o + 1) (if c.toNat = 40 then dep + 1 else if c.toNat = 41 then dep - 1 else dep) (divB c)
termination_by 3 * l.length + 2
def ari (l : List UInt8) (o dep : Nat) : Nat × Int :=
  match l with
  | [] => (0, 7)
  | c :: r => if c.toNat = 41 ∧ dep = 0 then
      (match r with
       | [] => (0, 7)
       | d :: _ => if d.toNat = 41 then (o + 2, 0) else (o, 6))
    else if (pas (c :: r) 2).2 ≠ 0 then (o + (pas (c :: r) 2).1, (pas (c :: r) 2).2) else
    if (pas (c :: r) 2).1 = 0 then (0, 0) else ari (r.drop ((pas (c :: r) 2).1 - 1)) (o + (pas (c :: r) 2).1) (if c.toNat = 40 then dep + 1 else if c.toNat = 41 then dep - 1 else dep)
termination_by 3 * l.length + 2
end
theorem comN_le (l : List UInt8) : comN l ≤ l.length := by
  induction l with
  | nil => exact Nat.le_refl _
  | cons c r ih => simp only [comN, List.length_cons]; split <;> omega
theorem wordN_le (l : List UInt8) : wordN l ≤ l.length := by
  induction l with
  | nil => exact Nat.le_refl _
  | cons c r ih => simp only [wordN, List.length_cons]; split <;> omega
/-- What is known of a result within n bytes: the place, and where there's no error: it's behind o. -/
def Rok (p : Nat × Int) (o n : Nat) : Prop := p.1 ≤ o + n ∧ (p.2 = 0 → o + 1 ≤ p.1) ∧ 0 ≤ p.2 ∧ p.2 ≤ 7
theorem sngN_ok (l : List UInt8) : ∀ o, Rok (sngN l o) o l.length := by
  induction l with
  | nil => intro o; exact ⟨by simp [sngN], by simp [sngN], by simp [sngN], by simp [sngN]⟩
  | cons c r ih =>
    intro o
    simp only [sngN]
    split
    · exact ⟨by simp, by simp, by simp, by simp⟩
    · obtain ⟨h1, h2, h3, h4⟩ := ih (o + 1)
      exact ⟨by simp only [List.length_cons]; omega, fun h => by have := h2 h; omega, h3, h4⟩
theorem bqtN_ok : ∀ (n : Nat) (l : List UInt8), l.length ≤ n → ∀ o, Rok (bqtN l o) o l.length := by
  intro n
  induction n with
  | zero =>
    intro l hl o
    obtain rfl : l = [] := List.eq_nil_of_length_eq_zero (by omega)
    exact ⟨by simp [bqtN], by simp [bqtN], by simp [bqtN], by simp [bqtN]⟩
  | succ n ih =>
    intro l hl o
    match l, hl with
    | [], _ => exact ⟨by simp [bqtN], by simp [bqtN], by simp [bqtN], by simp [bqtN]⟩
    | [c], _ => simp only [bqtN]; (repeat' split) <;> exact ⟨by simp, by simp, by simp, by simp⟩
    | c :: d :: r, hl =>
      simp only [List.length_cons] at hl ⊢
      simp only [bqtN]
      (repeat' split)
      · exact ⟨by simp only; omega, by simp, by simp, by simp⟩
      · obtain ⟨h1, h2, h3, h4⟩ := ih r (by omega) (o + 2)
        exact ⟨by omega, fun h => by have := h2 h; omega, h3, h4⟩
      · obtain ⟨h1, h2, h3, h4⟩ := ih (d :: r) (by simp; omega) (o + 1)
        simp only [List.length_cons] at h1
        exact ⟨by omega, fun h => by have := h2 h; omega, h3, h4⟩
theorem Rok.up {p : Nat × Int} {o n o' n' : Nat} (h : Rok p o n) (h1 : o + n ≤ o' + n') (h2 : o' ≤ o) : Rok p o' n' := by
  obtain ⟨a, b, c, d⟩ := h
  exact ⟨by omega, fun e => by have := b e; omega, c, d⟩
theorem Rok.mk0 {a o n : Nat} {e : Int} (h1 : a ≤ o + n) (h2 : e = 0 → o + 1 ≤ a) (h3 : 0 ≤ e) (h4 : e ≤ 7) : Rok (a, e) o n := ⟨h1, h2, h3, h4⟩
/-- A step of a loop: p is what was passed, f the rest of the loop. -/
theorem Rok.loop {p : Nat × Int} {c : UInt8} {r : List UInt8} {o : Nat} {f : List UInt8 → Nat → Nat × Int} (hp : Rok p 0 (r.length + 1)) (hf : ∀ l o, l.length ≤ r.length → Rok (f l o) o l.length) :
    Rok (if p.2 ≠ 0 then (o + p.1, p.2) else if p.1 = 0 then (0, 0) else f (r.drop (p.1 - 1)) (o + p.1)) o (r.length + 1) := by
  obtain ⟨a, b, c, d⟩ := hp
  split
  · next h => exact ⟨by simp only; omega, fun e => absurd e h, c, d⟩
  · next h =>
    have hb := b (by simpa using h)
    rw [if_neg (by omega)]
    refine (hf (r.drop (p.1 - 1)) (o + p.1) (by simp only [List.length_drop]; omega)).up (by simp only [List.length_drop]; omega) (by omega)
theorem all_ok : ∀ (n : Nat), (∀ (l : List UInt8) (pl : Nat), l.length ≤ n → begB l = true → Rok (con l pl) 0 l.length) ∧ (∀ (l : List UInt8) (pl : Nat), l.length ≤ n → 0 < l.length → Rok (pas l pl) 0 l.length) ∧
    (∀ (l : List UInt8) (o : Nat), l.length ≤ n → Rok (dbl l o) o l.length) ∧ (∀ (l : List UInt8) (o pl : Nat), l.length ≤ n → Rok (brc l o pl) o l.length) ∧
    (∀ (l : List UInt8) (o dep : Nat) (st : Bool), l.length ≤ n → Rok (cmd l o dep st) o l.length) ∧ (∀ (l : List UInt8) (o dep : Nat), l.length ≤ n → Rok (ari l o dep) o l.length) := by
  intro n
  induction n with
  | zero =>
    refine ⟨?_, ?_, ?_, ?_, ?_, ?_⟩
    · intro l pl hl hb
      obtain rfl : l = [] := List.eq_nil_of_length_eq_zero (by omega)
      simp [begB] at hb
    · intro l pl hl h0; omega
    all_goals
      intro l
      intros
      obtain rfl : l = [] := List.eq_nil_of_length_eq_zero (by omega)
      simp [dbl, brc, cmd, ari, Rok]
  | succ n ih =>
    obtain ⟨i1, i2, i3, i4, i5, i6⟩ := ih
    have hcon : ∀ (l : List UInt8) (pl : Nat), l.length ≤ n + 1 → begB l = true → Rok (con l pl) 0 l.length := by
      intro l pl hl hb
      match l, hl, hb with
      | c :: r, hl, hb =>
        simp only [List.length_cons] at hl ⊢
        rw [con.eq_def]
        simp only
        split
        · split
          · exact .mk0 (by omega) (by decide) (by decide) (by decide)
          · exact .mk0 (by omega) (by omega) (by decide) (by decide)
        split
        · exact (sngN_ok r 1).up (by omega) (by omega)
        split
        · exact (i3 r 1 (by omega)).up (by omega) (by omega)
        split
        · exact (bqtN_ok _ r (Nat.le_refl _) 1).up (by omega) (by omega)
        match r, hl, hb with
        | [], hl, hb =>
          exfalso
          simp [begB, dolB] at hb
          omega
        | d :: t, hl, hb =>
          simp only [List.length_cons] at hl ⊢
          split
          · match t, hl with
            | [], hl => exact (i5 [] 2 0 true (by simp)).up (by simp) (by omega)
            | e :: u, hl =>
              simp only [List.length_cons] at hl ⊢
              split
              · exact (i6 u 3 0 (by omega)).up (by omega) (by omega)
              · exact (i5 (e :: u) 2 0 true (by simp only [List.length_cons]; omega)).up (by simp only [List.length_cons]; omega) (by omega)
          split
          · exact (i4 t 2 pl (by omega)).up (by omega) (by omega)
          split
          · have := wordN_le (d :: t)
            simp only [List.length_cons] at this
            exact .mk0 (by omega) (by omega) (by decide) (by decide)
          · exact .mk0 (by omega) (by omega) (by decide) (by decide)
    have hpas : ∀ (l : List UInt8) (pl : Nat), l.length ≤ n + 1 → 0 < l.length → Rok (pas l pl) 0 l.length := by
      intro l pl hl h0
      match l, hl, h0 with
      | c :: r, hl, _ =>
        rw [pas]
        split
        · exact .mk0 (by simp) (by omega) (by decide) (by decide)
        · next h => exact hcon (c :: r) pl hl (by cases hb : begB (c :: r) <;> simp_all)
    refine ⟨hcon, hpas, ?_, ?_, ?_, ?_⟩
    · intro l o hl
      match l, hl with
      | [], _ => simp [dbl, Rok]
      | c :: r, hl =>
        have hp := hpas (c :: r) 1 hl (by simp)
        simp only [List.length_cons] at hl hp ⊢
        rw [dbl]
        split
        · exact .mk0 (by omega) (by omega) (by decide) (by decide)
        · exact Rok.loop (c := c) (f := fun l o => dbl l o) hp (fun l o h => i3 l o (by omega))
    · intro l o pl hl
      match l, hl with
      | [], _ => simp [brc, Rok]
      | c :: r, hl =>
        have hp := hpas (c :: r) pl hl (by simp)
        simp only [List.length_cons] at hl hp ⊢
        rw [brc]
        split
        · exact .mk0 (by omega) (by omega) (by decide) (by decide)
        split
        · exact .mk0 (by omega) (by omega) (by decide) (by decide)
        · exact Rok.loop (c := c) (f := fun l o => brc l o pl) hp (fun l o h => i4 l o pl (by omega))
    · intro l o dep st hl
      match l, hl with
      | [], _ => simp [cmd, Rok]
      | c :: r, hl =>
        have hc := comN_le (c :: r)
        simp only [List.length_cons] at hl hc ⊢
        rw [cmd]
        split
        · next hj =>
          have h1 : 1 ≤ r.length := by
            cases r with
            | nil => simp [joinB] at hj
            | cons d r => simp
          exact (i5 (r.drop 1) (o + 2) dep st (by simp; omega)).up (by simp; omega) (by omega)
        split
        · next hj =>
          have h1 : 1 ≤ comN (c :: r) := by simp only [comN]; rw [if_neg (by omega)]; omega
          exact (i5 _ _ dep st (by simp; omega)).up (by simp; omega) (by omega)
        split
        · next hb =>
          have hp := hcon (c :: r) 0 hl hb
          simp only [List.length_cons] at hp
          exact Rok.loop (c := c) (f := fun l o => cmd l o dep false) hp (fun l o h => i5 l o dep false (by omega))
        split
        · exact .mk0 (by omega) (by omega) (by decide) (by decide)
        · exact (i5 r (o + 1) _ _ (by omega)).up (by omega) (by omega)
    · intro l o dep hl
      match l, hl with
      | [], _ => simp [ari, Rok]
      | c :: r, hl =>
        have hp := hpas (c :: r) 2 hl (by simp)
        simp only [List.length_cons] at hl hp ⊢
        rw [ari.eq_def]
        simp only
        split
        · match r, hl with
          | [], _ => exact .mk0 (by omega) (by omega) (by decide) (by decide)
          | d :: t, _ =>
            simp only [List.length_cons]
            split
            · exact .mk0 (by omega) (by omega) (by decide) (by decide)
            · exact .mk0 (by omega) (by omega) (by decide) (by decide)
        · exact Rok.loop (c := c) (f := fun l o => ari l o _) hp (fun l o h => i6 l o _ (by omega))
theorem con_ok {l : List UInt8} (pl : Nat) (h : begB l = true) : Rok (con l pl) 0 l.length := (all_ok l.length).1 l pl (Nat.le_refl _) h
theorem pas_ok {l : List UInt8} (pl : Nat) (h : 0 < l.length) : Rok (pas l pl) 0 l.length := (all_ok l.length).2.1 l pl (Nat.le_refl _) h
end Go.Proofs.YtgbhjlkenfmadaaGreatDoor
/- The lexer's scanning functions that call no construct, on the abstract machine. -/
namespace Go.Proofs.YtgbhjlkenfmadaaGreatDoor
open Go.RowKit
set_option linter.unusedVariables false
set_option linter.unusedSimpArgs false
set_option maxRecDepth 100000
set_option maxHeartbeats 4000000
abbrev tpr (a : Nat) (p : Nat × Int) : AV := .tp [ai ((a + p.1 : Nat) : Int), ai p.2]
theorem tp_mk {a b : Nat} {e : Int} {p : Nat × Int} {x : Int} (hp : p = (b, e)) (h1 : x = ((a + b : Nat) : Int)) : AV.tp [.v (.int .i64 x), .v (.int .i64 e)] = tpr a p := by rw [hp, h1]
theorem dropc {s : List UInt8} {i : Nat} (h : i < s.length) : s.drop i = s[i] :: s.drop (i + 1) := List.drop_eq_getElem_cons h
theorem join_pre (l : List UInt8) : ([92, 10] : List UInt8).isPrefixOf l = joinB l := by
  match l with
  | [] => rfl
  | [a] => simp [joinB, List.isPrefixOf]
  | a :: b :: r =>
    rw [Bool.eq_iff_iff]
    simp only [List.isPrefixOf, Bool.and_true, Bool.and_eq_true, beq_iff_eq, joinB, decide_eq_true_eq, ← UInt8.toNat_inj, UInt8.reduceToNat]
    omega
theorem joins_ab (s : List UInt8) (i : Nat) (z : Int) (hz : z = i) (hi : i ≤ s.length) (hs : s.length ≤ 1000000) : Ab Tryz.prog 88 [az s, ai z] (ab (joinB (s.drop i))) := by
  subst hz
  rw [← join_pre]
  refine Fn_of_aw (keep := []) Tryz.func88 rfl rfl (by simp [Tryz.ntmps88]) ?_
  simp only [num_cons, num_nil, Tryz.ntmps88, Tryz.results88]
  repeat' (first
 | ((with_reducible apply awO_ev); (· rfl); (· exact sv))
 | ((with_reducible apply aw_seq); intro _ _)
 | (with_reducible apply aw_region)
 | ((with_reducible first | apply awO_nil | apply aw_exit | apply aw_skip | apply aw_ret); (try simp only [CT, ↓reduceIte, Nat.reduceEqDiff]))
 | (refine Kont.go ‹Kont _ _ _ _› _ ?_)
 | ((with_reducible apply awO_c); (· rfl); (· rfl); (· exact sv); (· (first | exact hasPrefix_ab _ _)); (· rfl); (· rfl); (· rfl); (· decide))
 | ((with_reducible apply retQ_mk); (· exact rI); (· exact sv); (· exact sv); rotate_left; (· rfl)))
  rfl
theorem comN_idx (l : List UInt8) : (idxB l 10 = -1 → comN l = l.length) ∧ (0 ≤ idxB l 10 → (comN l : Int) = idxB l 10) := by
  induction l with
  | nil => exact ⟨fun _ => rfl, fun h => absurd h (by decide)⟩
  | cons c r ih =>
    have e : c = 10 ↔ c.toNat = 10 := by rw [← UInt8.toNat_inj]; rfl
    have := idxB_ge r 10
    simp only [idxB, comN, List.length_cons]
    by_cases hc : c = 10
    · rw [if_pos hc, if_pos (e.1 hc)]; exact ⟨fun h => absurd h (by decide), fun _ => rfl⟩
    · rw [if_neg hc, if_neg (fun h => hc (e.2 h))]
      split
      · next h => exact ⟨fun _ => by rw [ih.1 h], fun h => absurd h (by decide)⟩
      · next h => exact ⟨fun h' => by omega, fun h' => by have := ih.2 (by omega); omega⟩
theorem comment_ab (s : List UInt8) (i : Nat) (z : Int) (hz : z = i) (hi : i ≤ s.length) (hs : s.length ≤ 1000000) : Ab Tryz.prog 89 [az s, ai z] (ai ((i + comN (s.drop i) : Nat) : Int)) := by
  subst hz
  have h1 := comN_idx (s.drop i)
  have h2 := idxB_ge (s.drop i) 10
  have h3 := idxB_lt (s.drop i) 10
  have h4 : (s.drop i).length = s.length - i := List.length_drop
  refine Fn_of_aw (keep := []) Tryz.func89 rfl rfl (by simp [Tryz.ntmps89]) ?_
  simp only [num_cons, num_nil, Tryz.ntmps89, Tryz.results89]
  repeat' (first
 | ((with_reducible apply awO_ev); (· rfl); (· exact sv))
 | ((with_reducible apply aw_seq); intro _ _)
 | (with_reducible apply aw_region)
 | ((with_reducible first | apply awO_nil | apply aw_exit | apply aw_skip | apply aw_ret); (try simp only [CT, ↓reduceIte, Nat.reduceEqDiff]))
 | (refine Kont.go ‹Kont _ _ _ _› _ ?_)
 | ((with_reducible apply awO_c); (· rfl); (· rfl); (· exact sv); (· (first | exact indexByte_ab _ 10)); (· rfl); (· rfl); (· rfl); (· decide))
 | ((first | ((with_reducible apply awO_guardN); (· rfl); (· rfl); (· exact sv); (· exact nB)) | ((with_reducible apply aw_condN); (· exact sv))); (· exact pN); (· exact pN); all_goals (intro hg; try (exfalso; omega)))
 | ((with_reducible apply retQ_mk); (· exact rI); (· exact sv); (· exact sv); rotate_left; (· rfl)))
  · refine ai_eq ?_; have := h1.1 (by omega); omega
  · refine ai_eq ?_; have := h1.2 (by omega); omega
theorem idxB_mem (l : List UInt8) (c : UInt8) : 0 ≤ idxB l c ↔ c ∈ l := by
  induction l with
  | nil => exact ⟨fun h => absurd h (by show ¬ (0 : Int) ≤ -1; decide), fun h => by cases h⟩
  | cons b l ih =>
    have := idxB_ge l c
    simp only [idxB, List.mem_cons]
    by_cases h : b = c
    · rw [if_pos h]; exact ⟨fun _ => .inl h.symm, fun _ => by omega⟩
    · rw [if_neg h]
      split
      · next h' => exact ⟨fun h2 => absurd h2 (by decide), fun h2 => by rcases h2 with h2 | h2; exact absurd h2.symm h; have := ih.2 h2; omega⟩
      · next h' => exact ⟨fun h2 => .inr (ih.1 (by omega)), fun h2 => by rcases h2 with h2 | h2; exact absurd h2.symm h; have := ih.2 h2; omega⟩
theorem dol_cons (c : UInt8) (r : List UInt8) : dolB (c :: r) = decide (startsB c = true ∨ digitB c = true ∨ c ∈ ([64, 42, 35, 63, 45, 36, 33, 123, 40] : List UInt8)) := by
  rw [Bool.eq_iff_iff]
  simp only [dolB, specB, digitB, startsB, Bool.or_eq_true, decide_eq_true_eq, List.mem_cons, List.not_mem_nil, or_false, ← UInt8.toNat_inj, UInt8.reduceToNat]
  omega
theorem dollar_ab (s : List UInt8) (i : Nat) (z : Int) (hz : z = i) (hs : s.length ≤ 1000000) : Ab Tryz.prog 90 [az s, ai z] (ab (dolB (s.drop i))) := by
  subst hz
  by_cases hi : i < s.length
  · rw [dropc hi, dol_cons]
    have hm := idxB_mem [64, 42, 35, 63, 45, 36, 33, 123, 40] s[i]
    refine Fn_of_aw (keep := []) Tryz.func90 rfl rfl (by simp [Tryz.ntmps90]) ?_
    simp only [num_cons, num_nil, Tryz.ntmps90, Tryz.results90]
    repeat' (first
 | ((with_reducible apply awO_ev); (· rfl); (· exact sv))
 | ((with_reducible apply aw_seq); intro _ _)
 | (with_reducible apply aw_region)
 | ((with_reducible first | apply awO_nil | apply aw_exit | apply aw_skip | apply aw_ret); (try simp only [CT, ↓reduceIte, Nat.reduceEqDiff]))
 | ((with_reducible apply awO_y); (· rfl); (· rfl); (· decide); (· exact sv); (· exact sv))
 | ((with_reducible apply awO_n); (· rfl); (· rfl); (· decide); (· exact sv); (· rfl); (· rfl); (· decide))
 | ((with_reducible apply awO_un); (· rfl); (· decide); (· exact sv))
 | (refine Kont.go ‹Kont _ _ _ _› _ ?_)
 | ((with_reducible apply awO_c); (· rfl); (· rfl); (· exact sv); (· (first | exact starts_ab _ | exact digit_ab _ | exact indexByte_ab _ _)); (· rfl); (· rfl); (· rfl); (· decide))
 | ((first | ((with_reducible apply awO_guardN); (· rfl); (· rfl); (· exact sv); (· exact nB)) | ((with_reducible apply aw_condN); (· exact sv))); (· exact pN); (· exact pN); all_goals (intro hg; try (exfalso; omega)))
 | ((with_reducible apply retQ_mk); (· exact rI); (· exact sv); (· exact sv); rotate_left; (· rfl)))
    all_goals (refine ab_eq ?_; simp only [decide_eq_true_eq, true_iff, hm])
    all_goals simp_all
  · rw [List.drop_eq_nil_of_le (by omega)]
    refine Fn_of_aw (keep := []) Tryz.func90 rfl rfl (by simp [Tryz.ntmps90]) ?_
    simp only [num_cons, num_nil, Tryz.ntmps90, Tryz.results90]
    repeat' (first
 | ((with_reducible apply awO_ev); (· rfl); (· exact sv))
 | ((with_reducible apply aw_seq); intro _ _)
 | (with_reducible apply aw_region)
 | ((with_reducible first | apply awO_nil | apply aw_exit | apply aw_skip | apply aw_ret); (try simp only [CT, ↓reduceIte, Nat.reduceEqDiff]))
 | ((with_reducible apply awO_n); (· rfl); (· rfl); (· decide); (· exact sv); (· rfl); (· rfl); (· decide))
 | ((with_reducible apply awO_u); (· rfl); (· rfl); (· exact svr); (· rfl); (· decide))
 | (refine Kont.go ‹Kont _ _ _ _› _ ?_)
 | ((first | ((with_reducible apply awO_guardN); (· rfl); (· rfl); (· exact sv); (· exact nB)) | ((with_reducible apply aw_condN); (· exact sv))); (· exact pN); (· exact pN); all_goals (intro hg; try (exfalso; omega)))
 | ((with_reducible apply retQ_mk); (· exact rI); (· exact sv); (· exact sv); rotate_left; (· rfl)))
    rfl
theorem begins_ab (s : List UInt8) (i : Nat) (z : Int) (hz : z = i) (hi : i < s.length) (hs : s.length ≤ 1000000) : Ab Tryz.prog 57 [az s, ai z] (ab (begB (s.drop i))) := by
  subst hz
  rw [dropc hi]
  refine Fn_of_aw (keep := []) Tryz.func57 rfl rfl (by simp [Tryz.ntmps57]) ?_
  simp only [num_cons, num_nil, Tryz.ntmps57, Tryz.results57]
  repeat' (first
 | ((with_reducible apply awO_ev); (· rfl); (· exact sv))
 | ((with_reducible apply aw_seq); intro _ _)
 | (with_reducible apply aw_region)
 | (with_reducible apply aw_block)
 | ((with_reducible first | apply awO_nil | apply aw_exit | apply aw_skip | apply aw_ret); (try simp only [CT, ↓reduceIte, Nat.reduceEqDiff]))
 | (refine Kont.go ‹Kont _ _ _ _› _ ?_)
 | ((with_reducible apply awO_c); (· rfl); (· rfl); (· exact sv); (· (first | exact dollar_ab s (i + 1) _ (by omega) hs)); (· rfl); (· rfl); (· rfl); (· decide))
 | ((first | ((with_reducible apply awO_guardN); (· rfl); (· rfl); (· exact sv); (· exact nB)) | ((with_reducible apply aw_condN); (· exact sv))); (· exact pN); (· exact pN); all_goals (intro hg; try (exfalso; omega)))
 | ((with_reducible apply retQ_mk); (· exact rI); (· exact sv); (· exact sv); rotate_left; (· rfl)))
  all_goals (refine ab_eq ?_; simp only [begB, Bool.or_eq_true, Bool.and_eq_true, decide_eq_true_eq, Bool.false_eq_true, true_iff, false_iff])
  all_goals (first | omega | exact .inr ⟨by omega, hg⟩ | (simp_all; done) | (intro h; simp_all; omega) | skip)
theorem backquoted_ab (s : List UInt8) (a : Nat) (z : Int) (hz : z = a) (ha : a < s.length) (hs : s.length ≤ 1000000) : Ab Tryz.prog 92 [az s, ai z] (tpr a (bqtN (s.drop (a + 1)) 1)) := by
  subst hz
  refine Fn_of_aw (keep := []) Tryz.func92 rfl rfl (by simp [Tryz.ntmps92]) ?_
  simp only [num_cons, num_nil, Tryz.ntmps92, Tryz.results92]
  repeat' (first
 | ((with_reducible apply awO_ev); (· rfl); (· exact sv))
 | ((with_reducible apply aw_seq); intro _ _)
 | (with_reducible apply aw_region)
 | (with_reducible apply aw_block)
 | ((with_reducible first | apply awO_nil | apply aw_exit | apply aw_skip | apply aw_ret); (try simp only [CT, ↓reduceIte, Nat.reduceEqDiff]))
 | (refine Kont.go ‹Kont _ _ _ _› _ ?_))
  refine aw_loopF (fun i : Nat => [(6, ai i)]) (fun _ => []) (fun i => a + 1 ≤ i ∧ i ≤ s.length ∧ bqtN (s.drop (a + 1)) 1 = bqtN (s.drop i) (i - a)) (fun i => s.length - i) (a + 1) ⟨by omega, by omega, by congr 1; omega⟩ ?_ ?_ ?_
  · (simp only [LP, look_cons, look_nil, and_true, true_and, ↓reduceIte, Nat.reduceEqDiff, Option.some.injEq, AV.v.injEq, Value.int.injEq, Int.natCast_add, Int.cast_ofNat_Int])
  · (simp only [LP, look_cons, look_nil, and_true, true_and, ↓reduceIte, Nat.reduceEqDiff, Option.some.injEq, AV.v.injEq, Value.int.injEq, Int.natCast_add, Int.cast_ofNat_Int])
  intro i ⟨hi0, hi, hI⟩
  (simp only [LP, List.append_assoc, List.nil_append, List.cons_append, List.append_nil, List.contains_cons, List.contains_nil, Nat.reduceBEq, Bool.or_false, Bool.or_true, Bool.true_or, Bool.false_or, ↓reduceIte, Bool.false_eq_true])
  by_cases hil : i < s.length
  · rw [dropc hil] at hI
    by_cases hil2 : i + 1 < s.length
    · rw [dropc hil2] at hI
      simp only [bqtN] at hI
      repeat' (first
 | ((with_reducible apply awO_ev); (· rfl); (· exact sv))
 | ((with_reducible apply aw_seq); intro _ _)
 | (with_reducible apply aw_region)
 | (with_reducible apply aw_block)
 | ((with_reducible first | apply awO_nil | apply aw_exit | apply aw_skip | apply aw_ret); (try simp only [CT, ↓reduceIte, Nat.reduceEqDiff]))
 | (refine Kont.go ‹Kont _ _ _ _› _ ?_)
 | ((first | ((with_reducible apply awO_guardN); (· rfl); (· rfl); (· exact sv); (· exact nB)) | ((with_reducible apply aw_condN); (· exact sv))); (· exact pN); (· exact pN); all_goals (intro hg; try (exfalso; omega)))
 | ((with_reducible apply retQ_mk); (· exact rI); (· exact sv); (· exact sv); rotate_left; (· rfl)))
      · refine tp_mk (b := i - a + 1) ?_ (by omega); rw [hI, if_pos (by omega)]
      · refine LE_mk (i + 1 + 1) ?_ ?_ sN sN sN
        · refine ⟨by omega, by omega, ?_⟩; rw [hI, if_neg (by omega), if_pos (by omega)]; congr 1; omega
        · omega
      · refine LE_mk (i + 1) ?_ ?_ sN sN sN
        · refine ⟨by omega, by omega, ?_⟩; rw [hI, if_neg (by omega), if_neg (by omega), ← dropc hil2]; congr 1; omega
        · omega
    · rw [List.drop_eq_nil_of_le (by omega : s.length ≤ i + 1)] at hI
      simp only [bqtN] at hI
      repeat' (first
 | ((with_reducible apply awO_ev); (· rfl); (· exact sv))
 | ((with_reducible apply aw_seq); intro _ _)
 | (with_reducible apply aw_region)
 | (with_reducible apply aw_block)
 | ((with_reducible first | apply awO_nil | apply aw_exit | apply aw_skip | apply aw_ret); (try simp only [CT, ↓reduceIte, Nat.reduceEqDiff]))
 | (refine Kont.go ‹Kont _ _ _ _› _ ?_)
 | ((first | ((with_reducible apply awO_guardN); (· rfl); (· rfl); (· exact sv); (· exact nB)) | ((with_reducible apply aw_condN); (· exact sv))); (· exact pN); (· exact pN); all_goals (intro hg; try (exfalso; omega)))
 | ((with_reducible apply retQ_mk); (· exact rI); (· exact sv); (· exact sv); rotate_left; (· rfl)))
      · refine tp_mk (b := i - a + 1) ?_ (by omega); rw [hI, if_pos (by omega)]
      · refine tp_mk (b := i - a) ?_ (by omega); rw [hI, if_neg (by omega), if_pos (by omega)]
      · refine LE_mk (i + 1) ?_ ?_ sN sN sN
        · refine ⟨by omega, by omega, ?_⟩; rw [hI, if_neg (by omega), if_neg (by omega), List.drop_eq_nil_of_le (by omega : s.length ≤ i + 1)]; rfl
        · omega
  · rw [List.drop_eq_nil_of_le (by omega : s.length ≤ i)] at hI
    repeat' (first
 | ((with_reducible apply awO_ev); (· rfl); (· exact sv))
 | ((with_reducible apply aw_seq); intro _ _)
 | (with_reducible apply aw_region)
 | ((with_reducible first | apply awO_nil | apply aw_exit | apply aw_skip | apply aw_ret); (try simp only [CT, ↓reduceIte, Nat.reduceEqDiff]))
 | (refine Kont.go ‹Kont _ _ _ _› _ ?_)
 | ((first | ((with_reducible apply awO_guardN); (· rfl); (· rfl); (· exact sv); (· exact nB)) | ((with_reducible apply aw_condN); (· exact sv))); (· exact pN); (· exact pN); all_goals (intro hg; try (exfalso; omega)))
 | ((with_reducible apply retQ_mk); (· exact rI); (· exact sv); (· exact sv); rotate_left; (· rfl)))
    refine tp_mk (b := 0) ?_ (by omega); rw [hI]; rfl
end Go.Proofs.YtgbhjlkenfmadaaGreatDoor
/- The lexer's constructs, on the abstract machine: one length from the shorter ones. -/
namespace Go.Proofs.YtgbhjlkenfmadaaGreatDoor
open Go.RowKit
set_option linter.unusedVariables false
set_option linter.unusedSimpArgs false
set_option maxRecDepth 100000
set_option maxHeartbeats 8000000
def plN (q d : Bool) : Nat := if q = false then 0 else if d = true then 1 else 2
abbrev plc (q d : Bool) : AV := .ag [ab q, ab d]
/-- The contract of construct for what is left of at most n bytes. -/
def CONH (n : Nat) : Prop := ∀ (s : List UInt8) (i : Nat) (z : Int) (q d : Bool), s.length ≤ 1000000 → z = i → i < s.length → s.length - i ≤ n → begB (s.drop i) = true → (d = true → q = true) → Ab Tryz.prog 58 [az s, ai z, plc q d] (tpr i (con (s.drop i) (plN q d)))
section
variable {n : Nat} (H : CONH n)
theorem pas_one {c : UInt8} {r : List UInt8} {pl : Nat} (h : (pl ≠ 0 ∧ (c.toNat = 39 ∨ c.toNat = 34)) ∨ begB (c :: r) = false) : pas (c :: r) pl = (1, 0) := by rw [pas, if_pos h]
theorem pas_con {c : UInt8} {r : List UInt8} {pl : Nat} (h1 : pl = 0 ∨ ¬ (c.toNat = 39 ∨ c.toNat = 34)) (h2 : begB (c :: r) = true) : pas (c :: r) pl = con (c :: r) pl := by
  rw [pas, if_neg]
  rintro (h | h)
  · rcases h1 with h1 | h1
    · exact h.1 h1
    · exact h1 h.2
  · rw [h2] at h; cases h
include H in
theorem inside_ab (s : List UInt8) (i : Nat) (z : Int) (d : Bool) (hs : s.length ≤ 1000000) (hz : z = i) (hi : i < s.length) (hn : s.length - i ≤ n) : Ab Tryz.prog 124 [az s, ai z, plc true d] (tpr i (pas (s.drop i) (plN true d))) := by
  subst hz
  have hd := dropc hi
  have hp : plN true d ≠ 0 := by unfold plN; rw [if_neg (by simp)]; split <;> decide
  by_cases hb : begB (s.drop i) = true
  · have c1 := begins_ab s i i rfl hi hs
    have c2 := H s i i true d hs rfl hi hn hb (fun _ => rfl)
    rw [hb] at c1
    rw [hd] at hb ⊢
    rw [hd] at c2
    by_cases hq : s[i].toNat = 39 ∨ s[i].toNat = 34
    · rw [pas_one (.inl ⟨hp, hq⟩)]
      refine Fn_of_aw (keep := []) Tryz.func124 rfl rfl (by simp [Tryz.ntmps124]) ?_
      simp only [num_cons, num_nil, Tryz.ntmps124, Tryz.results124]
      repeat' (first
 | ((with_reducible apply awO_ev); (· rfl); (· exact sv))
 | ((with_reducible apply aw_seq); intro _ _)
 | (with_reducible apply aw_region)
 | ((with_reducible first | apply awO_nil | apply aw_exit | apply aw_skip | apply aw_ret); (try simp only [CT, ↓reduceIte, Nat.reduceEqDiff]))
 | ((with_reducible apply awO_y); (· rfl); (· rfl); (· decide); (· exact sv); (· exact sv))
 | ((with_reducible apply awO_n); (· rfl); (· rfl); (· decide); (· exact sv); (· rfl); (· rfl); (· decide))
 | ((with_reducible apply aw_cond_true); (· exact sv))
 | (refine Kont.go ‹Kont _ _ _ _› _ ?_)
 | ((first | ((with_reducible apply awO_guardN); (· rfl); (· rfl); (· exact sv); (· exact nB)) | ((with_reducible apply aw_condN); (· exact sv))); (· exact pN); (· exact pN); all_goals (intro hg; try (exfalso; omega)))
 | ((with_reducible apply retQ_mk); (· exact rI); (· exact sv); (· exact sv); rotate_left; (· rfl)))
      all_goals (first | (exfalso; omega) | exact tp_mk (b := 1) rfl (by omega))
    · rw [pas_con (.inr hq) hb]
      refine Fn_of_aw (keep := []) Tryz.func124 rfl rfl (by simp [Tryz.ntmps124]) ?_
      simp only [num_cons, num_nil, Tryz.ntmps124, Tryz.results124]
      repeat' (first
 | ((with_reducible apply awO_ev); (· rfl); (· exact sv))
 | ((with_reducible apply aw_seq); intro _ _)
 | (with_reducible apply aw_region)
 | ((with_reducible first | apply awO_nil | apply aw_exit | apply aw_skip | apply aw_ret); (try simp only [CT, ↓reduceIte, Nat.reduceEqDiff]))
 | ((with_reducible apply awO_y); (· rfl); (· rfl); (· decide); (· exact sv); (· exact sv))
 | ((with_reducible apply aw_cond_false); (· exact sv))
 | ((with_reducible apply awO_un); (· rfl); (· decide); (· exact sv))
 | (refine Kont.go ‹Kont _ _ _ _› _ ?_)
 | ((with_reducible apply awO_c); (· rfl); (· rfl); (· exact sv); (· (first | with_reducible exact c1 | with_reducible exact c2)); (· rfl); (· rfl); (· rfl); (· decide))
 | ((first | ((with_reducible apply awO_guardN); (· rfl); (· rfl); (· exact sv); (· exact nB)) | ((with_reducible apply aw_condN); (· exact sv))); (· exact pN); (· exact pN); all_goals (intro hg; try (exfalso; omega)))
 | ((with_reducible apply retQ_mk); (· exact rI); (· exact sv); (· exact sv); rotate_left; (· rfl)))
      all_goals (first | (exfalso; omega) | rfl)
  · have hb' : begB (s.drop i) = false := by simpa using hb
    have c1 := begins_ab s i i rfl hi hs
    rw [hb'] at c1
    rw [hd] at hb' ⊢
    rw [pas_one (.inr hb')]
    refine Fn_of_aw (keep := []) Tryz.func124 rfl rfl (by simp [Tryz.ntmps124]) ?_
    simp only [num_cons, num_nil, Tryz.ntmps124, Tryz.results124]
    repeat' (first
 | ((with_reducible apply awO_ev); (· rfl); (· exact sv))
 | ((with_reducible apply aw_seq); intro _ _)
 | (with_reducible apply aw_region)
 | ((with_reducible first | apply awO_nil | apply aw_exit | apply aw_skip | apply aw_ret); (try simp only [CT, ↓reduceIte, Nat.reduceEqDiff]))
 | ((with_reducible apply awO_y); (· rfl); (· rfl); (· decide); (· exact sv); (· exact sv))
 | ((with_reducible apply awO_n); (· rfl); (· rfl); (· decide); (· exact sv); (· rfl); (· rfl); (· decide))
 | ((with_reducible apply aw_cond_true); (· exact sv))
 | ((with_reducible apply awO_un); (· rfl); (· decide); (· exact sv))
 | (refine Kont.go ‹Kont _ _ _ _› _ ?_)
 | ((with_reducible apply awO_c); (· rfl); (· rfl); (· exact sv); (· (first | with_reducible exact c1)); (· rfl); (· rfl); (· rfl); (· decide))
 | ((first | ((with_reducible apply awO_guardN); (· rfl); (· rfl); (· exact sv); (· exact nB)) | ((with_reducible apply aw_condN); (· exact sv))); (· exact pN); (· exact pN); all_goals (intro hg; try (exfalso; omega)))
 | ((with_reducible apply retQ_mk); (· exact rI); (· exact sv); (· exact sv); rotate_left; (· rfl)))
    all_goals exact tp_mk (b := 1) rfl (by omega)
theorem dbl_end {c : UInt8} {r : List UInt8} {o : Nat} (h : c.toNat = 34) : dbl (c :: r) o = (o + 1, 0) := by rw [dbl, if_pos h]
theorem dbl_err {c : UInt8} {r : List UInt8} {o : Nat} (h : ¬ c.toNat = 34) (h2 : ¬ (pas (c :: r) 1).2 = 0) : dbl (c :: r) o = (o + (pas (c :: r) 1).1, (pas (c :: r) 1).2) := by rw [dbl, if_neg h, if_pos h2]
theorem drop_pas {s : List UInt8} {i k : Nat} (h : i < s.length) (hk : 1 ≤ k) : (s.drop (i + 1)).drop (k - 1) = s.drop (i + k) := by rw [List.drop_drop]; congr 1; omega
include H in
theorem double_ab (s : List UInt8) (a : Nat) (z : Int) (hs : s.length ≤ 1000000) (hz : z = a) (ha : a < s.length) (hn : s.length - a ≤ n + 1) : Ab Tryz.prog 91 [az s, ai z] (tpr a (dbl (s.drop (a + 1)) 1)) := by
  subst hz
  refine Fn_of_aw (keep := []) Tryz.func91 rfl rfl (by simp [Tryz.ntmps91]) ?_
  simp only [num_cons, num_nil, Tryz.ntmps91, Tryz.results91]
  repeat' (first
 | ((with_reducible apply awO_ev); (· rfl); (· exact sv))
 | ((with_reducible apply aw_seq); intro _ _)
 | (with_reducible apply aw_region)
 | (with_reducible apply aw_block)
 | ((with_reducible first | apply awO_nil | apply aw_exit | apply aw_skip | apply aw_ret); (try simp only [CT, ↓reduceIte, Nat.reduceEqDiff]))
 | (refine Kont.go ‹Kont _ _ _ _› _ ?_))
  refine aw_loopF (fun i : Nat => [(6, ai i)]) (fun _ => []) (fun i => a + 1 ≤ i ∧ i ≤ s.length ∧ dbl (s.drop (a + 1)) 1 = dbl (s.drop i) (i - a)) (fun i => s.length - i) (a + 1) ⟨by omega, by omega, by congr 1; omega⟩ ?_ ?_ ?_
  · (simp only [LP, look_cons, look_nil, and_true, true_and, ↓reduceIte, Nat.reduceEqDiff, Option.some.injEq, AV.v.injEq, Value.int.injEq, Int.natCast_add, Int.cast_ofNat_Int])
  · (simp only [LP, look_cons, look_nil, and_true, true_and, ↓reduceIte, Nat.reduceEqDiff, Option.some.injEq, AV.v.injEq, Value.int.injEq, Int.natCast_add, Int.cast_ofNat_Int])
  intro i ⟨hi0, hi, hI⟩
  (simp only [LP, List.append_assoc, List.nil_append, List.cons_append, List.append_nil, List.contains_cons, List.contains_nil, Nat.reduceBEq, Bool.or_false, Bool.or_true, Bool.true_or, Bool.false_or, ↓reduceIte, Bool.false_eq_true])
  by_cases hil : i < s.length
  · have c1 := inside_ab H s i i true hs rfl hil (by omega)
    have hok := pas_ok (l := s.drop i) (plN true true) (by rw [List.length_drop]; omega)
    rw [dropc hil] at hI c1 hok
    have e1 : plN true true = 1 := rfl
    rw [e1] at c1 hok
    obtain ⟨k1, k2, k3, k4⟩ := hok
    simp only [List.length_cons, List.length_drop] at k1
    generalize hp : pas (s[i] :: s.drop (i + 1)) 1 = p at *
    obtain ⟨pe, pr⟩ := p
    simp only at k1 k2 k3 k4
    repeat' (first
 | ((with_reducible apply awO_ev); (· rfl); (· exact sv))
 | ((with_reducible apply aw_seq); intro _ _)
 | (with_reducible apply aw_region)
 | (with_reducible apply aw_block)
 | ((with_reducible first | apply awO_nil | apply aw_exit | apply aw_skip | apply aw_ret); (try simp only [CT, ↓reduceIte, Nat.reduceEqDiff]))
 | (refine Kont.go ‹Kont _ _ _ _› _ ?_)
 | ((with_reducible apply awO_c); (· rfl); (· rfl); (· exact sv); (· (first | with_reducible exact c1)); (· rfl); (· rfl); (· rfl); (· decide))
 | ((first | ((with_reducible apply awO_guardN); (· rfl); (· rfl); (· exact sv); (· exact nB)) | ((with_reducible apply aw_condN); (· exact sv))); (· exact pN); (· exact pN); all_goals (intro hg; try (exfalso; omega)))
 | ((with_reducible apply retQ_mk); (· exact rI); (· exact sv); (· exact sv); rotate_left; (· rfl)))
    · exact tp_mk (b := i - a + 1) (by rw [hI, dbl_end (by omega)]) (by omega)
    · refine tp_mk (b := i - a + pe) ?_ (by omega); rw [hI, dbl_err (by omega) (by rw [hp]; exact hg), hp]
    · refine LE_mk (i + pe) ?_ ?_ sN sN sN
      · have := k2 hg
        refine ⟨by omega, by omega, ?_⟩
        rw [hI, dbl, if_neg (by omega), hp]
        simp only
        rw [if_neg (by simpa using hg), if_neg (by omega), drop_pas hil (by omega)]; congr 1; omega
      · have := k2 hg; omega
  · rw [List.drop_eq_nil_of_le (by omega : s.length ≤ i)] at hI
    repeat' (first
 | ((with_reducible apply awO_ev); (· rfl); (· exact sv))
 | ((with_reducible apply aw_seq); intro _ _)
 | (with_reducible apply aw_region)
 | ((with_reducible first | apply awO_nil | apply aw_exit | apply aw_skip | apply aw_ret); (try simp only [CT, ↓reduceIte, Nat.reduceEqDiff]))
 | (refine Kont.go ‹Kont _ _ _ _› _ ?_)
 | ((first | ((with_reducible apply awO_guardN); (· rfl); (· rfl); (· exact sv); (· exact nB)) | ((with_reducible apply aw_condN); (· exact sv))); (· exact pN); (· exact pN); all_goals (intro hg; try (exfalso; omega)))
 | ((with_reducible apply retQ_mk); (· exact rI); (· exact sv); (· exact sv); rotate_left; (· rfl)))
    refine tp_mk (b := 0) ?_ (by omega); rw [hI]; simp [dbl]
end
end Go.Proofs.YtgbhjlkenfmadaaGreatDoor
/- The lexer's braced, arithmetic and command, on the abstract machine. -/
namespace Go.Proofs.YtgbhjlkenfmadaaGreatDoor
open Go.RowKit
set_option linter.unusedVariables false
set_option linter.unusedSimpArgs false
set_option maxRecDepth 100000
set_option maxHeartbeats 8000000
section
variable {n : Nat} (H : CONH n)
include H in
theorem braced_ab (s : List UInt8) (a : Nat) (z : Int) (q d : Bool) (hs : s.length ≤ 1000000) (hz : z = a) (ha : a + 2 ≤ s.length) (hn : s.length - a ≤ n + 1) (hqd : d = true → q = true) : Ab Tryz.prog 95 [az s, ai z, plc q d] (tpr a (brc (s.drop (a + 2)) 2 (plN q d))) := by
  subst hz
  have hpl : (plN q d = 1 ↔ d = true) ∧ (plN q d = 0 ↔ q = false) := by unfold plN; cases q <;> cases d <;> simp_all
  refine Fn_of_aw (keep := []) Tryz.func95 rfl rfl (by simp [Tryz.ntmps95]) ?_
  simp only [num_cons, num_nil, Tryz.ntmps95, Tryz.results95]
  repeat' (first
 | ((with_reducible apply awO_ev); (· rfl); (· exact sv))
 | ((with_reducible apply aw_seq); intro _ _)
 | (with_reducible apply aw_region)
 | (with_reducible apply aw_block)
 | ((with_reducible first | apply awO_nil | apply aw_exit | apply aw_skip | apply aw_ret); (try simp only [CT, ↓reduceIte, Nat.reduceEqDiff]))
 | (refine Kont.go ‹Kont _ _ _ _› _ ?_))
  refine aw_loopF (fun i : Nat => [(8, ai i)]) (fun _ => [(5, [ab q, ab d])]) (fun i => a + 2 ≤ i ∧ i ≤ s.length ∧ brc (s.drop (a + 2)) 2 (plN q d) = brc (s.drop i) (i - a) (plN q d)) (fun i => s.length - i) (a + 2) ⟨by omega, by omega, by congr 1; omega⟩ ?_ ?_ ?_
  · (simp only [LP, look_cons, look_nil, and_true, true_and, ↓reduceIte, Nat.reduceEqDiff, Option.some.injEq, AV.v.injEq, Value.int.injEq, Int.natCast_add, Int.cast_ofNat_Int])
  · (simp only [LP, look_cons, look_nil, and_true, true_and, ↓reduceIte, Nat.reduceEqDiff, Option.some.injEq, AV.v.injEq, Value.int.injEq, Int.natCast_add, Int.cast_ofNat_Int])
  intro i ⟨hi0, hi, hI⟩
  (simp only [LP, List.append_assoc, List.nil_append, List.cons_append, List.append_nil, List.contains_cons, List.contains_nil, Nat.reduceBEq, Bool.or_false, Bool.or_true, Bool.true_or, Bool.false_or, ↓reduceIte, Bool.false_eq_true])
  by_cases hil : i < s.length
  · rw [dropc hil] at hI
    by_cases h125 : s[i].toNat = 125
    · rw [brc, if_pos h125] at hI
      repeat' (first
 | ((with_reducible apply awO_ev); (· rfl); (· exact sv))
 | ((with_reducible apply aw_seq); intro _ _)
 | (with_reducible apply aw_region)
 | (with_reducible apply aw_block)
 | ((with_reducible first | apply awO_nil | apply aw_exit | apply aw_skip | apply aw_ret); (try simp only [CT, ↓reduceIte, Nat.reduceEqDiff]))
 | (refine Kont.go ‹Kont _ _ _ _› _ ?_)
 | ((first | ((with_reducible apply awO_guardN); (· rfl); (· rfl); (· exact sv); (· exact nB)) | ((with_reducible apply aw_condN); (· exact sv))); (· exact pN); (· exact pN); all_goals (intro hg; try (exfalso; omega)))
 | ((with_reducible apply retQ_mk); (· exact rI); (· exact sv); (· exact sv); rotate_left; (· rfl)))
      exact tp_mk (b := i - a + 1) hI (by omega)
    rw [brc, if_neg h125] at hI
    by_cases h34 : s[i].toNat = 34 ∧ plN q d = 1
    · rw [if_pos h34] at hI
      have hd := hpl.1.1 h34.2
      have hq := hqd hd
      subst hd; subst hq
      obtain ⟨h34, _⟩ := h34
      repeat' (first
 | ((with_reducible apply awO_ev); (· rfl); (· exact sv))
 | ((with_reducible apply aw_seq); intro _ _)
 | (with_reducible apply aw_region)
 | (with_reducible apply aw_block)
 | ((with_reducible first | apply awO_nil | apply aw_exit | apply aw_skip | apply aw_ret); (try simp only [CT, ↓reduceIte, Nat.reduceEqDiff]))
 | ((with_reducible apply awO_y); (· rfl); (· rfl); (· decide); (· exact sv); (· exact sv))
 | ((with_reducible apply aw_cond_true); (· exact sv))
 | (refine Kont.go ‹Kont _ _ _ _› _ ?_)
 | ((first | ((with_reducible apply awO_guardN); (· rfl); (· rfl); (· exact sv); (· exact nB)) | ((with_reducible apply aw_condN); (· exact sv))); (· exact pN); (· exact pN); all_goals (intro hg; try (exfalso; omega)))
 | ((with_reducible apply retQ_mk); (· exact rI); (· exact sv); (· exact sv); rotate_left; (· rfl)))
      exact tp_mk (b := i - a) hI (by omega)
    rw [if_neg h34] at hI
    have c1 := begins_ab s i i rfl hil hs
    rw [dropc hil] at c1
    by_cases hone : (plN q d ≠ 0 ∧ (s[i].toNat = 39 ∨ s[i].toNat = 34)) ∨ begB (s[i] :: s.drop (i + 1)) = false
    · rw [pas_one hone] at hI
      simp only [ne_eq, not_true_eq_false, if_false] at hI
      rw [if_neg (by decide)] at hI
      simp only [Nat.sub_self, List.drop_zero] at hI
      repeat' (first
 | ((with_reducible apply awO_ev); (· rfl); (· exact sv))
 | ((with_reducible apply aw_seq); intro _ _)
 | (with_reducible apply aw_region)
 | (with_reducible apply aw_block)
 | ((with_reducible first | apply awO_nil | apply aw_exit | apply aw_skip | apply aw_ret); (try simp only [CT, ↓reduceIte, Nat.reduceEqDiff]))
 | ((with_reducible apply awO_y); (· rfl); (· rfl); (· decide); (· exact sv); (· exact sv))
 | ((with_reducible apply awO_n); (· rfl); (· rfl); (· decide); (· exact sv); (· rfl); (· rfl); (· decide))
 | ((with_reducible apply aw_cond_true); (· exact sv))
 | ((with_reducible apply aw_cond_false); (· exact sv))
 | ((with_reducible apply awO_un); (· rfl); (· decide); (· exact sv))
 | (refine Kont.go ‹Kont _ _ _ _› _ ?_)
 | ((with_reducible apply awO_c); (· rfl); (· rfl); (· exact sv); (· (first | with_reducible exact c1)); (· rfl); (· rfl); (· rfl); (· decide))
 | ((first | ((with_reducible apply awO_guardN); (· rfl); (· rfl); (· exact sv); (· exact nB)) | ((with_reducible apply aw_condN); (· exact sv))); (· exact pN); (· exact pN); all_goals (intro hg; try (exfalso; omega)))
 | ((with_reducible apply retQ_mk); (· exact rI); (· exact sv); (· exact sv); rotate_left; (· rfl)))
      all_goals (first
        | (refine LE_mk (i + 1) ?_ ?_ sN sN sN
           · refine ⟨by omega, by omega, ?_⟩; rw [hI]; congr 1; omega
           · omega)
        | skip)
      all_goals (exfalso; rcases hone with ⟨h1, h2⟩ | h1)
      all_goals (first | omega | (simp_all; done) | (have := hpl.2; have := hpl.1; cases q <;> cases d <;> simp_all <;> omega) | skip)
    · have hb : begB (s[i] :: s.drop (i + 1)) = true := by cases hh : begB (s[i] :: s.drop (i + 1)) <;> simp_all
      have hnq : plN q d = 0 ∨ ¬ (s[i].toNat = 39 ∨ s[i].toNat = 34) := by
        by_cases h0 : plN q d = 0
        · exact .inl h0
        · exact .inr fun h => hone (.inl ⟨h0, h⟩)
      have c2 := H s i i q d hs rfl hil (by omega) (by rw [dropc hil]; exact hb) hqd
      rw [pas_con hnq hb] at hI
      have hok := con_ok (l := s.drop i) (plN q d) (by rw [dropc hil]; exact hb)
      rw [hb] at c1
      rw [dropc hil] at c2 hok
      obtain ⟨k1, k2, k3, k4⟩ := hok
      simp only [List.length_cons, List.length_drop] at k1
      generalize hp : con (s[i] :: s.drop (i + 1)) (plN q d) = p at *
      obtain ⟨pe, pr⟩ := p
      simp only at k1 k2 k3 k4 hI
      have hnq' : ¬ (q = true ∧ (s[i].toNat = 39 ∨ s[i].toNat = 34)) := by
        rintro ⟨h1, h2⟩
        rcases hnq with h | h
        · have := hpl.2.1 h; rw [h1] at this; cases this
        · exact h h2
      have hnd : ¬ (d = true ∧ s[i].toNat = 34) := fun h => h34 ⟨h.2, hpl.1.2 h.1⟩
      repeat' (first
 | ((with_reducible apply awO_ev); (· rfl); (· exact sv))
 | ((with_reducible apply aw_seq); intro _ _)
 | (with_reducible apply aw_region)
 | (with_reducible apply aw_block)
 | ((with_reducible first | apply awO_nil | apply aw_exit | apply aw_skip | apply aw_ret); (try simp only [CT, ↓reduceIte, Nat.reduceEqDiff]))
 | ((with_reducible apply awO_y); (· rfl); (· rfl); (· decide); (· exact sv); (· exact sv))
 | ((with_reducible apply awO_n); (· rfl); (· rfl); (· decide); (· exact sv); (· rfl); (· rfl); (· decide))
 | ((with_reducible apply aw_cond_true); (· exact sv))
 | ((with_reducible apply aw_cond_false); (· exact sv))
 | ((with_reducible apply awO_un); (· rfl); (· decide); (· exact sv))
 | (refine Kont.go ‹Kont _ _ _ _› _ ?_)
 | ((with_reducible apply awO_c); (· rfl); (· rfl); (· exact sv); (· (first | with_reducible exact c1 | with_reducible exact c2)); (· rfl); (· rfl); (· rfl); (· decide))
 | ((first | ((with_reducible apply awO_guardN); (· rfl); (· rfl); (· exact sv); (· exact nB)) | ((with_reducible apply aw_condN); (· exact sv))); (· exact pN); (· exact pN); all_goals (intro hg; try (exfalso; omega)))
 | ((with_reducible apply retQ_mk); (· exact rI); (· exact sv); (· exact sv); rotate_left; (· rfl)))
      all_goals (first
        | (exfalso; omega)
        | (exact absurd ⟨‹_›, by omega⟩ hnd)
        | (exact absurd ⟨‹_›, by omega⟩ hnq')
        | (refine tp_mk (b := i - a + pe) ?_ (by omega); rw [hI, if_pos hg])
        | (refine LE_mk (i + pe) ?_ ?_ sN sN sN
           · have := k2 hg
             refine ⟨by omega, by omega, ?_⟩
             rw [hI, if_neg (by simpa using hg), if_neg (by omega), drop_pas hil (by omega)]; congr 1; omega
           · have := k2 hg; omega)
        | skip)
  · rw [List.drop_eq_nil_of_le (by omega : s.length ≤ i)] at hI
    repeat' (first
 | ((with_reducible apply awO_ev); (· rfl); (· exact sv))
 | ((with_reducible apply aw_seq); intro _ _)
 | (with_reducible apply aw_region)
 | ((with_reducible first | apply awO_nil | apply aw_exit | apply aw_skip | apply aw_ret); (try simp only [CT, ↓reduceIte, Nat.reduceEqDiff]))
 | (refine Kont.go ‹Kont _ _ _ _› _ ?_)
 | ((first | ((with_reducible apply awO_guardN); (· rfl); (· rfl); (· exact sv); (· exact nB)) | ((with_reducible apply aw_condN); (· exact sv))); (· exact pN); (· exact pN); all_goals (intro hg; try (exfalso; omega)))
 | ((with_reducible apply retQ_mk); (· exact rI); (· exact sv); (· exact sv); rotate_left; (· rfl)))
    refine tp_mk (b := 0) ?_ (by omega); rw [hI]; simp [brc]
end
end Go.Proofs.YtgbhjlkenfmadaaGreatDoor
