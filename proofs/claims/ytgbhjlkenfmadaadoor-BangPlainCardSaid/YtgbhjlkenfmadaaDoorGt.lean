/- The package variables that are known when a law begins: bytealg.MaxLen is an integer. -/
import Derived.Test.YtgbhjlkenfmadaaDoorBase
namespace Go.Proofs.YtgbhjlkenfmadaaDoor
/-- The blocks of the known variables, with what is known of their cells. -/
def gTab : List (Nat × List (Value → Prop)) := [(0, [fun v => ∃ m, v = .int .i64 m])]
/-- The cells of the variables whose values are known. -/
def gVal : Nat → List Value := fun _ => []
end Go.Proofs.YtgbhjlkenfmadaaDoor
