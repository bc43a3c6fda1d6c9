/-
  DERIVED. GIVEN WITH THE SEED: THE CARDS: each row of YtogmppcfopgkdaaGreatDoorRows.lean that lists a variable, with what it lists TIED to the program's text (the seventh form; the later family's looks); each row that meets fmt, with fmt's text TOLD by the authors' own Lean function (tested against real Go, not proved from fmt's source: count such statements apart). THE CARD IS WHAT COUNTS. Prove the row's statement (the work); the ties are given (YtogmppcfopgkdaaGreatDoorTie.lean); close each card by the builder's one call (the guide's Derived/Test/ToyasCard.lean, 'card_holds'). Laid BY PROGRAM, IN A SANDBOX (cutbox-door.mjs). By AI agents, Wed Nov 11 2026. No macro, syntax, notation, axiom, sorry.
-/
import Derived.Test.YtogmppcfopgkdaaGreatDoorRows
import GoSem.ClaimSeven
namespace Go.Proofs.YtogmppcfopgkdaaGreatDoor
namespace Rows

/-- THE TIED CARD OF 'jobshelltop.TopCalculates'. -/
def topCalculatesCard : Claim7 := { stood := { row := topCalculatesRow, standIns := [], harness := (true, "df8b337b1af8c45c1a9f394c575fe84eaa98e571cb0eb6ad78025a421ce41dcb"), looks := true }, kinds := [], alts := [], laidByText := true, laidKinds := [.data, .data, .data, .data, .pinned], laidTests := true, laidLooks := .later }
def TopCalculatesCardSaid : Prop := Claim7.holds Tryz.pinned (.plain (OpenSpec.ofChange topCalculatesSpec)) topCalculatesCard

/-- THE SECOND FORM's CARD OF 'jobshelltop.TopCalculates'. -/
def topCalculatesUptoCard : Claim7 := { stood := { row := topCalculatesUptoRow, standIns := [], harness := (true, "df8b337b1af8c45c1a9f394c575fe84eaa98e571cb0eb6ad78025a421ce41dcb"), looks := true }, kinds := [], alts := [], laidByText := true, laidKinds := [.data, .data, .data, .data, .pinned], laidTests := true, laidLooks := .later }
def TopCalculatesUptoCardSaid : Prop := Claim7.holds Tryz.pinned (.plain (OpenSpec.upto topCalculatesSpec)) topCalculatesUptoCard
end Rows
end Go.Proofs.YtogmppcfopgkdaaGreatDoor
