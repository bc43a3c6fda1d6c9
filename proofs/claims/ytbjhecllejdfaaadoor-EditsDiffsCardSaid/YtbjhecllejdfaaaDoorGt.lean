/- The package variables that are known when a law begins: bytealg.MaxLen is an integer. -/
import Derived.Test.YtbjhecllejdfaaaDoorBase
namespace Go.Proofs.YtbjhecllejdfaaaDoor
/-- The blocks of the known variables, with what is known of their cells. -/
def gTab : List (Nat × List (Value → Prop)) := [(0, [fun v => ∃ m, v = .int .i64 m])]
end Go.Proofs.YtbjhecllejdfaaaDoor
