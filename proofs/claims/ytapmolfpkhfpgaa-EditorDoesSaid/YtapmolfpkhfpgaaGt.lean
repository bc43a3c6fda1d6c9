/- The package variables that are known when a law begins: none. -/
import Derived.Test.YtapmolfpkhfpgaaBase
namespace Go.Proofs.Ytapmolfpkhfpgaa
/-- The blocks of the known variables, with what is known of their cells. -/
def gTab : List (Nat × List (Value → Prop)) := []
/-- The cells of the variables whose values are known. -/
def gVal : Nat → List Value := fun _ => []
end Go.Proofs.Ytapmolfpkhfpgaa
