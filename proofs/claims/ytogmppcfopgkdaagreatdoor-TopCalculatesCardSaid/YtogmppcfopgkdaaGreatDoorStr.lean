/- strings.IndexByte and strings.HasPrefix, on the abstract machine. -/
import Derived.Test.YtogmppcfopgkdaaGreatDoorStEq
namespace Go.Proofs.YtogmppcfopgkdaaGreatDoor
open Go.RowKit
set_option linter.unusedVariables false
set_option linter.unusedSimpArgs false
set_option maxHeartbeats 1000000 in
set_option maxRecDepth 100000 in
theorem indexByte_calls (s : ByteArray) (c : Int) (w : World) :
    Calls Tryz.prog 92 #[.string s, .int .u8 c] w fun e w' => e = .returned (.int .i64 (Lib.indexByte s.data.toList c.toNat.toUInt8)) ∧ w' = w := by
  go_enter Tryz.func92, Tryz.ntmps92
  go_wp2
  rw [run_callFunc_extern Tryz.func143 (by kernel_rfl) (by kernel_rfl) (by kernel_rfl) (e := Extern.BytealgIndexByte.indexByte) (by kernel_rfl), Lib.run_indexByteString]
  simp only [Result.andThen]
  rw [Oper.upon_value]
  go_wp2
  go_ret
  exact ⟨rfl, rfl⟩
/-- Where the byte c stands first in l, or -1. -/
def idxB : List UInt8 → UInt8 → Int
  | [], _ => -1
  | b :: l, c => if b = c then 0 else if idxB l c = -1 then -1 else idxB l c + 1
theorem idxB_eq (l : List UInt8) (c : UInt8) : Lib.indexByte l c = idxB l c := by
  induction l with
  | nil => rfl
  | cons b l ih => simp only [Lib.indexByte, idxB, ih, beq_iff_eq]
theorem idxB_ge (l : List UInt8) (c : UInt8) : -1 ≤ idxB l c := by
  induction l with
  | nil => exact Int.le_refl _
  | cons b l ih => simp only [idxB]; (repeat' split) <;> omega
theorem slIndexByte_ab (l : List UInt8) (c : UInt8) : Ab Tryz.prog 92 [az l, au c] (ai (idxB l c)) := by
  refine Ab_plain (xs := [.string (str l), .int .u8 c.toNat]) (by kernel_rfl) fun w => (indexByte_calls (str l) c.toNat w).mono fun e w' ⟨he, hw⟩ => ⟨?_, hw⟩
  rw [he, ← idxB_eq]
  congr 3
  simp
theorem indexByte_ab (l : List UInt8) (c : UInt8) : Ab Tryz.prog 56 [az l, au c] (ai (idxB l c)) := by
  refine Fn_of_aw (keep := []) Tryz.func56 rfl rfl (by simp [Tryz.ntmps56]) ?_
  simp only [num_cons, num_nil, Tryz.ntmps56, Tryz.results56]
  repeat' (first
 | ((with_reducible apply awO_ev); (· rfl); (· exact sv))
 | ((with_reducible apply aw_seq); intro _ _)
 | (with_reducible apply aw_region)
 | ((with_reducible first | apply awO_nil | apply aw_exit | apply aw_skip | apply aw_ret); (try simp only [CT, ↓reduceIte, Nat.reduceEqDiff]))
 | (refine Kont.go ‹Kont _ _ _ _› _ ?_)
 | ((with_reducible apply awO_c); (· rfl); (· rfl); (· exact sv); (· (first | exact slIndexByte_ab _ _)); (· rfl); (· rfl); (· rfl); (· decide))
 | ((with_reducible apply retQ_mk); (· exact rI); (· exact sv); (· exact sv); rotate_left; (· rfl)))
  rfl
theorem isPrefixOf_take {p l : List UInt8} : p.isPrefixOf l = decide (p.length ≤ l.length ∧ l.take p.length = p) := by
  rw [Bool.eq_iff_iff, List.isPrefixOf_iff_prefix, decide_eq_true_eq, List.prefix_iff_eq_take]
  constructor
  · intro h; refine ⟨?_, h.symm⟩; have := congrArg List.length h; rw [List.length_take] at this; omega
  · intro h; exact h.2.symm
theorem slHasPrefix_ab (l p : List UInt8) : Ab Tryz.prog 91 [az l, az p] (ab (p.isPrefixOf l)) := by
  refine Fn_of_aw (keep := []) Tryz.func91 rfl rfl (by simp [Tryz.ntmps91]) ?_
  simp only [num_cons, num_nil, Tryz.ntmps91, Tryz.results91]
  repeat' (first
 | ((with_reducible apply awO_ev); (· rfl); (· exact sv))
 | ((with_reducible apply aw_seq); intro _ _)
 | (with_reducible apply aw_region)
 | ((with_reducible first | apply awO_nil | apply aw_exit | apply aw_skip | apply aw_ret); (try simp only [CT, ↓reduceIte, Nat.reduceEqDiff]))
 | ((with_reducible apply awO_y); (· rfl); (· rfl); (· decide); (· exact sv); (· exact sv))
 | ((with_reducible apply awO_n); (· rfl); (· rfl); (· decide); (· exact sv); (· rfl); (· rfl); (· decide))
 | (refine Kont.go ‹Kont _ _ _ _› _ ?_)
 | ((first | ((with_reducible apply awO_guardN); (· rfl); (· rfl); (· exact sv); (· exact nB)) | ((with_reducible apply aw_condN); (· exact sv))); (· exact pN); (· exact pN); all_goals (intro hg; try (exfalso; omega)))
 | ((with_reducible apply retQ_mk); (· exact rI); (· exact sv); (· exact sv); rotate_left; (· rfl)))
  all_goals (refine ab_eq ?_; rw [isPrefixOf_take]; simp only [decide_eq_true_eq, Bool.false_eq_true, false_iff])
  · constructor
    · intro h; exact ⟨by omega, h⟩
    · exact fun h => h.2
  · intro h; omega
theorem hasPrefix_ab (l p : List UInt8) : Ab Tryz.prog 55 [az l, az p] (ab (p.isPrefixOf l)) := by
  refine Fn_of_aw (keep := []) Tryz.func55 rfl rfl (by simp [Tryz.ntmps55]) ?_
  simp only [num_cons, num_nil, Tryz.ntmps55, Tryz.results55]
  repeat' (first
 | ((with_reducible apply awO_ev); (· rfl); (· exact sv))
 | ((with_reducible apply aw_seq); intro _ _)
 | (with_reducible apply aw_region)
 | ((with_reducible first | apply awO_nil | apply aw_exit | apply aw_skip | apply aw_ret); (try simp only [CT, ↓reduceIte, Nat.reduceEqDiff]))
 | (refine Kont.go ‹Kont _ _ _ _› _ ?_)
 | ((with_reducible apply awO_c); (· rfl); (· rfl); (· exact sv); (· (first | exact slHasPrefix_ab _ _)); (· rfl); (· rfl); (· rfl); (· decide))
 | ((with_reducible apply retQ_mk); (· exact rI); (· exact sv); (· exact sv); rotate_left; (· rfl)))
  rfl
end Go.Proofs.YtogmppcfopgkdaaGreatDoor
