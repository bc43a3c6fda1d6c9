/-
  DERIVED. GIVEN WITH THE SEED: THE CARDS: each row of YtgbhjlkenfmadaaGreatDoorRows.lean that lists a variable, with what it lists TIED to the program's text (the seventh form; the later family's looks); each row that meets fmt, with fmt's text TOLD by the authors' own Lean function (tested against real Go, not proved from fmt's source: count such statements apart). THE CARD IS WHAT COUNTS. Prove the row's statement (the work); the ties are given (YtgbhjlkenfmadaaGreatDoorTie.lean); close each card by the builder's one call (the guide's Derived/Test/ToyasCard.lean, 'card_holds'). Laid BY PROGRAM, IN A SANDBOX (cutbox-door.mjs). By AI agents, Wed Nov 11 2026. No macro, syntax, notation, axiom, sorry.
-/
import Derived.Test.YtgbhjlkenfmadaaGreatDoorRows
import GoSem.ClaimSeven
namespace Go.Proofs.YtgbhjlkenfmadaaGreatDoor
namespace Rows

/-- THE TIED CARD OF 'jobshelllaw44.BangWords'. -/
def bangWordsCard : Claim7 := { stood := { row := bangWordsRow, standIns := [], harness := (true, "7761f637dab35e4b55f7df029895fdab491b191eb4289ca6a1c760f239a82c7e"), looks := false }, kinds := [], alts := [], laidByText := true, laidKinds := [.data, .pinned], laidTests := true, laidLooks := .later }
def BangWordsCardSaid : Prop := Claim7.holds Tryz.pinned (.plain (OpenSpec.ofChange bangWordsSpec)) bangWordsCard

/-- THE TIED CARD OF 'jobshelllaw44.BangExpands'. -/
def bangExpandsCard : Claim7 := { stood := { row := bangExpandsRow, standIns := [], harness := (true, "7761f637dab35e4b55f7df029895fdab491b191eb4289ca6a1c760f239a82c7e"), looks := false }, kinds := [], alts := [], laidByText := true, laidKinds := [.data, .pinned], laidTests := true, laidLooks := .later }
def BangExpandsCardSaid : Prop := Claim7.holds Tryz.pinned (.plain (OpenSpec.ofChange bangExpandsSpec)) bangExpandsCard

/-- THE TIED CARD OF 'jobshelllaw44.BangJoined'. -/
def bangJoinedCard : Claim7 := { stood := { row := bangJoinedRow, standIns := [], harness := (true, "7761f637dab35e4b55f7df029895fdab491b191eb4289ca6a1c760f239a82c7e"), looks := false }, kinds := [], alts := [], laidByText := true, laidKinds := [.data, .pinned], laidTests := true, laidLooks := .later }
def BangJoinedCardSaid : Prop := Claim7.holds Tryz.pinned (.plain (OpenSpec.ofChange bangJoinedSpec)) bangJoinedCard

/-- THE SECOND FORM's CARD OF 'jobshelllaw44.BangWords'. -/
def bangWordsUptoCard : Claim7 := { stood := { row := bangWordsUptoRow, standIns := [], harness := (true, "7761f637dab35e4b55f7df029895fdab491b191eb4289ca6a1c760f239a82c7e"), looks := false }, kinds := [], alts := [], laidByText := true, laidKinds := [.data, .pinned], laidTests := true, laidLooks := .later }
def BangWordsUptoCardSaid : Prop := Claim7.holds Tryz.pinned (.plain (OpenSpec.upto bangWordsSpec)) bangWordsUptoCard

/-- THE SECOND FORM's CARD OF 'jobshelllaw44.BangExpands'. -/
def bangExpandsUptoCard : Claim7 := { stood := { row := bangExpandsUptoRow, standIns := [], harness := (true, "7761f637dab35e4b55f7df029895fdab491b191eb4289ca6a1c760f239a82c7e"), looks := false }, kinds := [], alts := [], laidByText := true, laidKinds := [.data, .pinned], laidTests := true, laidLooks := .later }
def BangExpandsUptoCardSaid : Prop := Claim7.holds Tryz.pinned (.plain (OpenSpec.upto bangExpandsSpec)) bangExpandsUptoCard

/-- THE SECOND FORM's CARD OF 'jobshelllaw44.BangJoined'. -/
def bangJoinedUptoCard : Claim7 := { stood := { row := bangJoinedUptoRow, standIns := [], harness := (true, "7761f637dab35e4b55f7df029895fdab491b191eb4289ca6a1c760f239a82c7e"), looks := false }, kinds := [], alts := [], laidByText := true, laidKinds := [.data, .pinned], laidTests := true, laidLooks := .later }
def BangJoinedUptoCardSaid : Prop := Claim7.holds Tryz.pinned (.plain (OpenSpec.upto bangJoinedSpec)) bangJoinedUptoCard
end Rows
end Go.Proofs.YtgbhjlkenfmadaaGreatDoor
