/- The examples of the chapter (awake), on the abstract machine. -/
import Derived.Test.YtgbhjlkenfmadaaGreatDoorLxI
import Derived.Test.YtgbhjlkenfmadaaGreatDoorStEq
namespace Go.Proofs.YtgbhjlkenfmadaaGreatDoor
open Go.RowKit
set_option linter.unusedVariables false
set_option linter.unusedSimpArgs false
set_option maxRecDepth 100000
set_option maxHeartbeats 8000000
theorem tyQTok : eqK Tryz.prog 45 = some [0, 0, 0, 2] := by kernel_rfl
attribute [go_sem] tyQTok
theorem wrd_nil (o : Nat) : wrd [] o = (o, 0) := by rw [wrd]
theorem wrd_stop {c : UInt8} {r : List UInt8} {o : Nat} (h : divB c = true) : wrd (c :: r) o = (o, 0) := by rw [wrd, if_pos h]
theorem wrd_one {c : UInt8} {r : List UInt8} {o : Nat} (h : divB c = false) (h2 : begB (c :: r) = false) : wrd (c :: r) o = wrd r (o + 1) := by
  rw [wrd, if_neg (by rw [h]; decide), pas_one (.inr h2)]; simp
end Go.Proofs.YtgbhjlkenfmadaaGreatDoor
