/- The package variables that are known when a law begins: the names of the keys. -/
import Derived.Test.YtoncfnbgajnhgaaDoorBase
namespace Go.Proofs.YtoncfnbgajnhgaaDoor
/-- The blocks of the known variables, with what is known of their cells. -/
def gTab : List (Nat × List (Value → Prop)) := []
/-- The names of the keys from 0 to 31. -/
def nmT : List (List UInt8) := [[], [92, 67, 45, 97], [92, 67, 45, 98], [92, 67, 45, 99], [92, 67, 45, 100], [92, 67, 45, 101], [92, 67, 45, 102], [92, 67, 45, 103], [92, 67, 45, 104], [92, 116], [92, 110], [92, 67, 45, 107], [92, 67, 45, 108], [92, 67, 45, 109], [92, 67, 45, 110], [92, 67, 45, 111], [92, 67, 45, 112], [92, 67, 45, 113], [92, 67, 45, 114], [92, 67, 45, 115], [92, 67, 45, 116], [92, 67, 45, 117], [92, 67, 45, 118], [92, 67, 45, 119], [92, 67, 45, 120], [92, 67, 45, 121], [92, 67, 45, 122], [92, 101], [], [], [], []]
/-- The cells of the variables whose values are known. -/
def gVal : Nat → List Value := fun b => if b = 0 then nmT.map fun l => .string (str l) else []
end Go.Proofs.YtoncfnbgajnhgaaDoor
