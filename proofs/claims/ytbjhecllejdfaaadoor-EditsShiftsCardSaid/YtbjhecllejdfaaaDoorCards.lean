/-
  DERIVED. GIVEN WITH THE SEED: THE CARDS: each row of YtbjhecllejdfaaaDoorRows.lean that lists a variable, with what it lists TIED to the program's text (the seventh form; the later family's looks); each row that meets fmt, with fmt's text TOLD by the authors' own Lean function (tested against real Go, not proved from fmt's source: count such statements apart). THE CARD IS WHAT COUNTS. Prove the row's statement (the work); the ties are given (YtbjhecllejdfaaaDoorTie.lean); close each card by the builder's one call (the guide's Derived/Test/ToyasCard.lean, 'card_holds'). Laid BY PROGRAM, IN A SANDBOX (cutbox-door.mjs). By AI agents, Wed Nov 11 2026. No macro, syntax, notation, axiom, sorry.
-/
import Derived.Test.YtbjhecllejdfaaaDoorRows
import GoSem.ClaimSeven
namespace Go.Proofs.YtbjhecllejdfaaaDoor
namespace Rows

/-- THE TIED CARD OF 'jobshelllaw02.EditsPlaces'. -/
def editsPlacesCard : Claim7 := { stood := { row := editsPlacesRow, standIns := [], harness := (true, "97ced5a7e6ed4dfcc442eace204a47778f2645db44d6df4734f063d7d9e8496b"), looks := false }, kinds := [], alts := [], laidByText := true, laidKinds := [.data, .pinned], laidTests := true, laidLooks := .later }
def EditsPlacesCardSaid : Prop := Claim7.holds Tryd.pinned (.plain (OpenSpec.ofChange editsPlacesSpec)) editsPlacesCard

/-- THE TIED CARD OF 'jobshelllaw02.EditsOffsets'. -/
def editsOffsetsCard : Claim7 := { stood := { row := editsOffsetsRow, standIns := [], harness := (true, "97ced5a7e6ed4dfcc442eace204a47778f2645db44d6df4734f063d7d9e8496b"), looks := false }, kinds := [], alts := [], laidByText := true, laidKinds := [.data, .pinned], laidTests := true, laidLooks := .later }
def EditsOffsetsCardSaid : Prop := Claim7.holds Tryd.pinned (.plain (OpenSpec.ofChange editsOffsetsSpec)) editsOffsetsCard

/-- THE TIED CARD OF 'jobshelllaw02.EditsLines'. -/
def editsLinesCard : Claim7 := { stood := { row := editsLinesRow, standIns := [], harness := (true, "97ced5a7e6ed4dfcc442eace204a47778f2645db44d6df4734f063d7d9e8496b"), looks := false }, kinds := [], alts := [], laidByText := true, laidKinds := [.data, .pinned], laidTests := true, laidLooks := .later }
def EditsLinesCardSaid : Prop := Claim7.holds Tryd.pinned (.plain (OpenSpec.ofChange editsLinesSpec)) editsLinesCard

/-- THE TIED CARD OF 'jobshelllaw02.EditsApplies'. -/
def editsAppliesCard : Claim7 := { stood := { row := editsAppliesRow, standIns := [], harness := (true, "97ced5a7e6ed4dfcc442eace204a47778f2645db44d6df4734f063d7d9e8496b"), looks := false }, kinds := [], alts := [], laidByText := true, laidKinds := [.data, .pinned], laidTests := true, laidLooks := .later }
def EditsAppliesCardSaid : Prop := Claim7.holds Tryd.pinned (.plain (OpenSpec.ofChange editsAppliesSpec)) editsAppliesCard

/-- THE TIED CARD OF 'jobshelllaw02.EditsShifts'. -/
def editsShiftsCard : Claim7 := { stood := { row := editsShiftsRow, standIns := [], harness := (true, "97ced5a7e6ed4dfcc442eace204a47778f2645db44d6df4734f063d7d9e8496b"), looks := false }, kinds := [], alts := [], laidByText := true, laidKinds := [.data, .pinned], laidTests := true, laidLooks := .later }
def EditsShiftsCardSaid : Prop := Claim7.holds Tryd.pinned (.plain (OpenSpec.ofChange editsShiftsSpec)) editsShiftsCard

/-- THE TIED CARD OF 'jobshelllaw02.EditsDiffs'. -/
def editsDiffsCard : Claim7 := { stood := { row := editsDiffsRow, standIns := [], harness := (true, "97ced5a7e6ed4dfcc442eace204a47778f2645db44d6df4734f063d7d9e8496b"), looks := false }, kinds := [], alts := [], laidByText := true, laidKinds := [.data, .pinned], laidTests := true, laidLooks := .later }
def EditsDiffsCardSaid : Prop := Claim7.holds Tryd.pinned (.plain (OpenSpec.ofChange editsDiffsSpec)) editsDiffsCard

/-- THE TIED CARD OF 'jobshelllaw02.EditsInverts'. -/
def editsInvertsCard : Claim7 := { stood := { row := editsInvertsRow, standIns := [], harness := (true, "97ced5a7e6ed4dfcc442eace204a47778f2645db44d6df4734f063d7d9e8496b"), looks := false }, kinds := [], alts := [], laidByText := true, laidKinds := [.data, .pinned], laidTests := true, laidLooks := .later }
def EditsInvertsCardSaid : Prop := Claim7.holds Tryd.pinned (.plain (OpenSpec.ofChange editsInvertsSpec)) editsInvertsCard

/-- THE SECOND FORM's CARD OF 'jobshelllaw02.EditsPlaces'. -/
def editsPlacesUptoCard : Claim7 := { stood := { row := editsPlacesUptoRow, standIns := [], harness := (true, "97ced5a7e6ed4dfcc442eace204a47778f2645db44d6df4734f063d7d9e8496b"), looks := false }, kinds := [], alts := [], laidByText := true, laidKinds := [.data, .pinned], laidTests := true, laidLooks := .later }
def EditsPlacesUptoCardSaid : Prop := Claim7.holds Tryd.pinned (.plain (OpenSpec.upto editsPlacesSpec)) editsPlacesUptoCard

/-- THE SECOND FORM's CARD OF 'jobshelllaw02.EditsOffsets'. -/
def editsOffsetsUptoCard : Claim7 := { stood := { row := editsOffsetsUptoRow, standIns := [], harness := (true, "97ced5a7e6ed4dfcc442eace204a47778f2645db44d6df4734f063d7d9e8496b"), looks := false }, kinds := [], alts := [], laidByText := true, laidKinds := [.data, .pinned], laidTests := true, laidLooks := .later }
def EditsOffsetsUptoCardSaid : Prop := Claim7.holds Tryd.pinned (.plain (OpenSpec.upto editsOffsetsSpec)) editsOffsetsUptoCard

/-- THE SECOND FORM's CARD OF 'jobshelllaw02.EditsLines'. -/
def editsLinesUptoCard : Claim7 := { stood := { row := editsLinesUptoRow, standIns := [], harness := (true, "97ced5a7e6ed4dfcc442eace204a47778f2645db44d6df4734f063d7d9e8496b"), looks := false }, kinds := [], alts := [], laidByText := true, laidKinds := [.data, .pinned], laidTests := true, laidLooks := .later }
def EditsLinesUptoCardSaid : Prop := Claim7.holds Tryd.pinned (.plain (OpenSpec.upto editsLinesSpec)) editsLinesUptoCard

/-- THE SECOND FORM's CARD OF 'jobshelllaw02.EditsApplies'. -/
def editsAppliesUptoCard : Claim7 := { stood := { row := editsAppliesUptoRow, standIns := [], harness := (true, "97ced5a7e6ed4dfcc442eace204a47778f2645db44d6df4734f063d7d9e8496b"), looks := false }, kinds := [], alts := [], laidByText := true, laidKinds := [.data, .pinned], laidTests := true, laidLooks := .later }
def EditsAppliesUptoCardSaid : Prop := Claim7.holds Tryd.pinned (.plain (OpenSpec.upto editsAppliesSpec)) editsAppliesUptoCard

/-- THE SECOND FORM's CARD OF 'jobshelllaw02.EditsShifts'. -/
def editsShiftsUptoCard : Claim7 := { stood := { row := editsShiftsUptoRow, standIns := [], harness := (true, "97ced5a7e6ed4dfcc442eace204a47778f2645db44d6df4734f063d7d9e8496b"), looks := false }, kinds := [], alts := [], laidByText := true, laidKinds := [.data, .pinned], laidTests := true, laidLooks := .later }
def EditsShiftsUptoCardSaid : Prop := Claim7.holds Tryd.pinned (.plain (OpenSpec.upto editsShiftsSpec)) editsShiftsUptoCard

/-- THE SECOND FORM's CARD OF 'jobshelllaw02.EditsDiffs'. -/
def editsDiffsUptoCard : Claim7 := { stood := { row := editsDiffsUptoRow, standIns := [], harness := (true, "97ced5a7e6ed4dfcc442eace204a47778f2645db44d6df4734f063d7d9e8496b"), looks := false }, kinds := [], alts := [], laidByText := true, laidKinds := [.data, .pinned], laidTests := true, laidLooks := .later }
def EditsDiffsUptoCardSaid : Prop := Claim7.holds Tryd.pinned (.plain (OpenSpec.upto editsDiffsSpec)) editsDiffsUptoCard

/-- THE SECOND FORM's CARD OF 'jobshelllaw02.EditsInverts'. -/
def editsInvertsUptoCard : Claim7 := { stood := { row := editsInvertsUptoRow, standIns := [], harness := (true, "97ced5a7e6ed4dfcc442eace204a47778f2645db44d6df4734f063d7d9e8496b"), looks := false }, kinds := [], alts := [], laidByText := true, laidKinds := [.data, .pinned], laidTests := true, laidLooks := .later }
def EditsInvertsUptoCardSaid : Prop := Claim7.holds Tryd.pinned (.plain (OpenSpec.upto editsInvertsSpec)) editsInvertsUptoCard
end Rows
end Go.Proofs.YtbjhecllejdfaaaDoor
