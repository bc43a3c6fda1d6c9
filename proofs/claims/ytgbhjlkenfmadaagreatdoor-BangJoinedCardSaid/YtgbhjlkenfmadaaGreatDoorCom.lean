/- Words for contracts on the abstract machine; plain calls of the library. -/
import Derived.Test.YtgbhjlkenfmadaaGreatDoorTypes
import Derived.Lib.Strings
import Derived.Lib.Slices
import Derived.Lib.Walk
import Derived.Lib.Bytealg
namespace Go.Proofs.YtgbhjlkenfmadaaGreatDoor
open Go.RowKit
set_option linter.unusedVariables false
set_option linter.unusedSimpArgs false
abbrev ai (n : Int) : AV := .v (.int .i64 n)
abbrev ab (b : Bool) : AV := .v (.bool b)
abbrev az (l : List UInt8) : AV := .v (.string (str l))
abbrev au (b : UInt8) : AV := .v (.int .u8 b.toNat)
theorem ab_eq {b c : Bool} (h : b = true ↔ c = true) : AV.v (.bool b) = ab c := by rw [Bool.eq_iff_iff.2 h]
theorem ai_eq {b c : Int} (h : b = c) : AV.v (.int .i64 b) = ai c := by rw [h]
theorem az_eq {b c : List UInt8} (h : b = c) : AV.v (.string (str b)) = az c := by rw [h]
/-- A function that only computes. -/
theorem Ab_plain {P : Program} {f : FuncId} {xs : List Value} {x : Value} (hc : callable P f = true) (h : ∀ w, Calls P f xs.toArray w fun e w' => e = .returned x ∧ w' = w) : Ab P f (xs.map .v) (.v x) := by
  refine ⟨hc, fun w bad ρ vs _ _ _ hr => ?_⟩
  have e : vs = xs.toArray := by
    apply Array.ext'
    apply List.ext_getElem?
    intro j
    have hn : vs.size = xs.length := by simpa using hr.1
    by_cases hj : j < xs.length
    · have := (hr.2 j (.v xs[j]) vs[j] (by simp [hj]) (by simp [hn, hj])).v_eq
      simp [hn, hj, this]
    · rw [List.getElem?_eq_none (by simp [hn]; omega), List.getElem?_eq_none (by simp; omega)]
  subst e
  exact (h w).mono fun e w' ⟨he, hw⟩ => ⟨x, ρ, he, .im (.v _), HR.nil, by rw [hw]; exact Keeps.refl _ _, fun b ⟨k, cs, hk, _⟩ => by simp [look] at hk, fun k hk => by cases hk⟩
theorem knob : ownKnob Tryz.prog.godebug = none := by kernel_rfl
theorem laidOut : laidOutB Tryz.prog = true := by kernel_rfl
end Go.Proofs.YtgbhjlkenfmadaaGreatDoor
