/-
  DERIVED. GIVEN WITH THE SEED: THE CARDS: each row of YtgbhjlkenfmadaaDoorRows.lean that lists a variable, with what it lists TIED to the program's text (the seventh form; the later family's looks); each row that meets fmt, with fmt's text TOLD by the authors' own Lean function (tested against real Go, not proved from fmt's source: count such statements apart). THE CARD IS WHAT COUNTS. Prove the row's statement (the work); the ties are given (YtgbhjlkenfmadaaDoorTie.lean); close each card by the builder's one call (the guide's Derived/Test/ToyasCard.lean, 'card_holds'). Laid BY PROGRAM, IN A SANDBOX (cutbox-door.mjs). By AI agents, Wed Nov 11 2026. No macro, syntax, notation, axiom, sorry.
-/
import Derived.Test.YtgbhjlkenfmadaaDoorRows
import GoSem.ClaimSeven
namespace Go.Proofs.YtgbhjlkenfmadaaDoor
namespace Rows

/-- THE TIED CARD OF 'jobshelllaw44.BangPlain'. -/
def bangPlainCard : Claim7 := { stood := { row := bangPlainRow, standIns := [], harness := (true, "02a88cf41181aa20b18bc7f86134e661934f09323da4e31bfd7c25822a4629e9"), looks := false }, kinds := [], alts := [], laidByText := true, laidKinds := [.data, .pinned], laidTests := true, laidLooks := .later }
def BangPlainCardSaid : Prop := Claim7.holds Tryd.pinned (.plain (OpenSpec.ofChange bangPlainSpec)) bangPlainCard

/-- THE TIED CARD OF 'jobshelllaw44.BangLast'. -/
def bangLastCard : Claim7 := { stood := { row := bangLastRow, standIns := [], harness := (true, "02a88cf41181aa20b18bc7f86134e661934f09323da4e31bfd7c25822a4629e9"), looks := false }, kinds := [], alts := [], laidByText := true, laidKinds := [.data, .pinned], laidTests := true, laidLooks := .later }
def BangLastCardSaid : Prop := Claim7.holds Tryd.pinned (.plain (OpenSpec.ofChange bangLastSpec)) bangLastCard

/-- THE TIED CARD OF 'jobshelllaw44.BangEach'. -/
def bangEachCard : Claim7 := { stood := { row := bangEachRow, standIns := [], harness := (true, "02a88cf41181aa20b18bc7f86134e661934f09323da4e31bfd7c25822a4629e9"), looks := false }, kinds := [], alts := [], laidByText := true, laidKinds := [.data, .pinned], laidTests := true, laidLooks := .later }
def BangEachCardSaid : Prop := Claim7.holds Tryd.pinned (.plain (OpenSpec.ofChange bangEachSpec)) bangEachCard

/-- THE SECOND FORM's CARD OF 'jobshelllaw44.BangPlain'. -/
def bangPlainUptoCard : Claim7 := { stood := { row := bangPlainUptoRow, standIns := [], harness := (true, "02a88cf41181aa20b18bc7f86134e661934f09323da4e31bfd7c25822a4629e9"), looks := false }, kinds := [], alts := [], laidByText := true, laidKinds := [.data, .pinned], laidTests := true, laidLooks := .later }
def BangPlainUptoCardSaid : Prop := Claim7.holds Tryd.pinned (.plain (OpenSpec.upto bangPlainSpec)) bangPlainUptoCard

/-- THE SECOND FORM's CARD OF 'jobshelllaw44.BangLast'. -/
def bangLastUptoCard : Claim7 := { stood := { row := bangLastUptoRow, standIns := [], harness := (true, "02a88cf41181aa20b18bc7f86134e661934f09323da4e31bfd7c25822a4629e9"), looks := false }, kinds := [], alts := [], laidByText := true, laidKinds := [.data, .pinned], laidTests := true, laidLooks := .later }
def BangLastUptoCardSaid : Prop := Claim7.holds Tryd.pinned (.plain (OpenSpec.upto bangLastSpec)) bangLastUptoCard

/-- THE SECOND FORM's CARD OF 'jobshelllaw44.BangEach'. -/
def bangEachUptoCard : Claim7 := { stood := { row := bangEachUptoRow, standIns := [], harness := (true, "02a88cf41181aa20b18bc7f86134e661934f09323da4e31bfd7c25822a4629e9"), looks := false }, kinds := [], alts := [], laidByText := true, laidKinds := [.data, .pinned], laidTests := true, laidLooks := .later }
def BangEachUptoCardSaid : Prop := Claim7.holds Tryd.pinned (.plain (OpenSpec.upto bangEachSpec)) bangEachUptoCard
end Rows
end Go.Proofs.YtgbhjlkenfmadaaDoor
