/- The abstract machine: operations on bits, numbers of 64 bits without sign. No program is named here. -/
import Derived.Test.YtogmppcfopgkdaaGreatDoorRng
namespace Go.Proofs.YtogmppcfopgkdaaGreatDoor
open Go.RowKit
set_option linter.unusedVariables false
set_option linter.unusedSimpArgs false
def orW (a b : Int) : Int := IntKind.i64.wrap ((BitVec.ofInt 64 a ||| BitVec.ofInt 64 b).toNat)
def andW (a b : Int) : Int := IntKind.i64.wrap ((BitVec.ofInt 64 a &&& BitVec.ofInt 64 b).toNat)
def xorW (a b : Int) : Int := IntKind.i64.wrap ((BitVec.ofInt 64 a ^^^ BitVec.ofInt 64 b).toNat)
def shlW (a b : Int) : Int := IntKind.i64.wrap (a * 2 ^ min (andW b 63).toNat 64)
def shrW (a b : Int) : Int := a.fdiv (2 ^ min (andW b 63).toNat 64)
def I64 (n : Int) : Prop := -9223372036854775808 ≤ n ∧ n ≤ 9223372036854775807
theorem I64_wrap (n : Int) : I64 (IntKind.i64.wrap n) := by
  rw [IntKind.wrap_i64]
  unfold I64
  omega
theorem andW_63 (b : Int) : 0 ≤ andW b 63 := by
  have h1 : (BitVec.ofInt 64 b &&& BitVec.ofInt 64 63).toNat ≤ 63 := by
    rw [BitVec.toNat_and]
    exact Nat.le_trans Nat.and_le_right (by decide)
  unfold andW
  rw [IntKind.wrap_i64]
  omega
theorem I64_shr {a : Int} (b : Int) (h : I64 a) : I64 (shrW a b) := by
  unfold shrW
  have h2 : (1 : Int) ≤ 2 ^ min (andW b 63).toNat 64 := by
    have : (0 : Int) < 2 ^ min (andW b 63).toNat 64 := Int.pow_pos (by decide)
    omega
  generalize (2 : Int) ^ min (andW b 63).toNat 64 = d at h2
  obtain ⟨h3, h4⟩ := h
  rw [Int.fdiv_eq_ediv_of_nonneg _ (by omega)]
  constructor
  · refine Int.le_ediv_of_mul_le (by omega) ?_
    have : -9223372036854775808 * d ≤ -9223372036854775808 * 1 := by omega
    omega
  · rcases Int.lt_or_le a 0 with h0 | h0
    · have := Int.ediv_neg_of_neg_of_pos h0 (show 0 < d by omega); omega
    · have := Int.ediv_le_self d h0; omega
section
variable {P : Program} {t : TypeId} {x y : Operand}
theorem bin_or64 (a b : Int) : bin P .or t x y (.int .i64 a) (.int .i64 b) = some (.int .i64 (orW a b)) := rfl
theorem bin_and64 (a b : Int) : bin P .and t x y (.int .i64 a) (.int .i64 b) = some (.int .i64 (andW a b)) := rfl
theorem bin_xor64 (a b : Int) : bin P .xor t x y (.int .i64 a) (.int .i64 b) = some (.int .i64 (xorW a b)) := rfl
theorem bin_or8 (a b : UInt8) : bin P .or t x y (.int .u8 a.toNat) (.int .u8 b.toNat) = some (.int .u8 (a ||| b).toNat) := by
  have h0 : ∀ c : UInt8, BitVec.ofInt 8 (c.toNat : Int) = c.toBitVec := fun c => by
    rw [BitVec.ofInt_natCast]
    apply BitVec.eq_of_toNat_eq
    rw [BitVec.toNat_ofNat]
    exact Nat.mod_eq_of_lt c.toNat_lt
  have h1 : bin P .or t x y (.int .u8 a.toNat) (.int .u8 b.toNat) = some (.int .u8 (IntKind.u8.wrap ((BitVec.ofInt 8 a.toNat ||| BitVec.ofInt 8 b.toNat).toNat))) := rfl
  rw [h1, h0, h0]
  have h2 : (a.toBitVec ||| b.toBitVec).toNat = (a ||| b).toNat := rfl
  rw [h2]
  have h3 := (a ||| b).toNat_lt
  generalize (a ||| b).toNat = n at h3
  simp only [IntKind.wrap, IntKind.signed, IntKind.bits]
  simp
  omega
theorem bin_shl63 (a b : Int) : bin P .shl t x y (.int .i64 a) (.int .i64 (andW b 63)) = some (.int .i64 (shlW a b)) := by
  have := andW_63 b
  simp [bin, pr_bind, pr_pure, eqGuard, binOp, Op.shift, shlW, IntKind.bits, Int.not_lt.2 this]
theorem bin_shr63 (a b : Int) : bin P .shr t x y (.int .i64 a) (.int .i64 (andW b 63)) = some (.int .i64 (shrW a b)) := by
  have := andW_63 b
  simp [bin, pr_bind, pr_pure, eqGuard, binOp, Op.shift, shrW, IntKind.bits, Int.not_lt.2 this]
theorem una_xor64 (n : Int) : una P .xor (.int .i64 n) = some (.int .i64 (xorW (-1) n)) := rfl
theorem wrapU64 {x : Int} (h1 : 0 ≤ x) (h2 : x ≤ 18446744073709551615) : IntKind.u64.wrap x = x := by
  simp [IntKind.wrap, IntKind.signed, IntKind.bits]
  omega
end
attribute [go_sem] bin_or64 bin_and64 bin_xor64 bin_or8 bin_shl63 bin_shr63 una_xor64 wrapU64
end Go.Proofs.YtogmppcfopgkdaaGreatDoor
