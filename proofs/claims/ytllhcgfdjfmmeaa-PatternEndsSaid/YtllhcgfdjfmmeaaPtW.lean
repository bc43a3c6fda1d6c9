/- pattern: a set of bytes as an array, on the abstract machine. -/
import Derived.Test.YtllhcgfdjfmmeaaPtJ
import Derived.Test.YtllhcgfdjfmmeaaPtH
import Derived.Test.YtllhcgfdjfmmeaaMgD
namespace Go.Proofs.Ytllhcgfdjfmmeaa
open Go.RowKit
set_option linter.unusedVariables false
set_option linter.unusedSimpArgs false
set_option maxRecDepth 100000
set_option maxHeartbeats 8000000
/-- The array of a set. -/
def bC (f : Nat → Bool) : List AV := (List.range 256).map fun c => ab (f c)
theorem bC_len (f : Nat → Bool) : (bC f).length = 256 := by simp [bC]
theorem bC_get (f : Nat → Bool) {c : Nat} (h : c < 256) : (bC f)[c]? = some (ab (f c)) := by simp [bC, h]
theorem bC_drop (f : Nat → Bool) {c : Nat} (h : c < 256) : (bC f).drop c = ab (f c) :: (bC f).drop (c + 1) := by
  rw [List.drop_eq_getElem_cons (by rw [bC_len]; exact h)]
  have := bC_get f h
  rw [List.getElem?_eq_getElem (by rw [bC_len]; exact h)] at this
  injection this with this
  rw [this]
theorem bC_okC (f : Nat → Bool) : (bC f).all okC = true := by simp [bC, okC, Value.oneCell']
theorem bC_data (f : Nat → Bool) : (bC f).all dataC = true := by simp [bC, dataC]
theorem bC_free (f : Nat → Bool) (k : Nat) : freeOf k (bC f) = true := by simp [freeOf, bC, mentM, partM, cellM]
theorem bC_any (f : Nat → Bool) (k : Nat) : (bC f).any (cellM k) = false := by simp [bC, cellM]
theorem bC_okR (f : Nat → Bool) (ks : List Nat) : (bC f).all (okR ks) = true := by simp [bC, okR, okRP, okRC]
theorem bC_take (f : Nat → Bool) : (bC f).take 256 = bC f := List.take_of_length_le (by rw [bC_len]; omega)
theorem bC_ext {f g : Nat → Bool} (h : ∀ c, c < 256 → f c = g c) : bC f = bC g := by
  unfold bC
  refine List.map_congr_left fun c hc => ?_
  rw [h c (by simpa using hc)]
theorem bC_set (f : Nat → Bool) {c : Nat} (h : c < 256) : (bC f).set c (.v (.bool true)) = bC (fun d => f d || decide (d = c)) := by
  refine List.ext_getElem? fun d => ?_
  rw [List.getElem?_set]
  by_cases hd : d < 256
  · rw [bC_get (fun d => f d || decide (d = c)) hd]
    split
    · next e => subst e; rw [if_pos (by rw [bC_len]; exact h)]; simp
    · next e => rw [bC_get f hd]; simp [Ne.symm e]
  · rw [List.getElem?_eq_none (by rw [bC_len]; omega)]
    split
    · next e => subst e; omega
    · rw [List.getElem?_eq_none (by rw [bC_len]; omega)]
theorem bC_ro (hp : Hp) (keep : List Nat) (f : Nat → Bool) : roCs hp keep (bC f) = some (bC f) := roCs_data (bC_data f)
def bZ : List Value := List.replicate 256 (.bool false)
theorem bZ_map : bZ.map AV.v = bC (bts []) := by kernel_rfl
theorem tyZset : zT Try.prog 72 = some bZ := by kernel_rfl
theorem cnvU8 {n : Int} (h0 : 0 ≤ n) (h1 : n ≤ 255) : cnv Try.prog 5 3 (.int .u8 n) = some (.int .i64 n) := by
  rw [cnv_int (k := .i64) .u8 n (by kernel_rfl) (by kernel_rfl), wrap64 (by omega) (by omega)]
theorem cnvI8 {c : Nat} (h1 : c ≤ 255) : cnv Try.prog 3 5 (.int .i64 c) = some (.int .u8 (UInt8.ofNat c).toNat) := by
  rw [cnv_int (k := .u8) .i64 c (by kernel_rfl) (by kernel_rfl), toNat_ofNat (by omega)]
  congr 2
  rw [IntKind.wrap_u8]; omega
attribute [go_sem] cnvU8 cnvI8 bC_len bC_drop bC_okC bC_data bC_free bC_okR bC_any bC_set bC_take bC_ro bZ_map tyZset
end Go.Proofs.Ytllhcgfdjfmmeaa
