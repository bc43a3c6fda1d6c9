/-
  DERIVED. GIVEN WITH THE SEED: THE CARDS: each row of YtoncfnbgajnhgaaDoorRows.lean that lists a variable, with what it lists TIED to the program's text (the seventh form; the later family's looks); each row that meets fmt, with fmt's text TOLD by the authors' own Lean function (tested against real Go, not proved from fmt's source: count such statements apart). THE CARD IS WHAT COUNTS. Prove the row's statement (the work); the ties are given (YtoncfnbgajnhgaaDoorTie.lean); close each card by the builder's one call (the guide's Derived/Test/ToyasCard.lean, 'card_holds'). Laid BY PROGRAM, IN A SANDBOX (cutbox-door.mjs). By AI agents, Wed Nov 11 2026. No macro, syntax, notation, axiom, sorry.
-/
import Derived.Test.YtoncfnbgajnhgaaDoorRows
import GoSem.ClaimSeven
namespace Go.Proofs.YtoncfnbgajnhgaaDoor
namespace Rows

/-- THE TIED CARD OF 'jobshelllaw45.KeymapParses'. -/
def keymapParsesCard : Claim7 := { stood := { row := keymapParsesRow, standIns := [], harness := (true, "1be20c151c4ea84bebc9df64f35a45a634cea712ce48fab99521382092ff4624"), looks := false }, kinds := [], alts := [], laidByText := true, laidKinds := [.data], laidTests := true, laidLooks := .later }
def KeymapParsesCardSaid : Prop := Claim7.holds Tryd.pinned (.plain (OpenSpec.ofChange keymapParsesSpec)) keymapParsesCard

/-- THE TIED CARD OF 'jobshelllaw45.KeymapShows'. -/
def keymapShowsCard : Claim7 := { stood := { row := keymapShowsRow, standIns := [], harness := (true, "1be20c151c4ea84bebc9df64f35a45a634cea712ce48fab99521382092ff4624"), looks := false }, kinds := [], alts := [], laidByText := true, laidKinds := [.data], laidTests := true, laidLooks := .later }
def KeymapShowsCardSaid : Prop := Claim7.holds Tryd.pinned (.plain (OpenSpec.ofChange keymapShowsSpec)) keymapShowsCard

/-- THE TIED CARD OF 'jobshelllaw45.KeymapDefaults'. -/
def keymapDefaultsCard : Claim7 := { stood := { row := keymapDefaultsRow, standIns := [], harness := (true, "1be20c151c4ea84bebc9df64f35a45a634cea712ce48fab99521382092ff4624"), looks := false }, kinds := [], alts := [], laidByText := true, laidKinds := [.data], laidTests := true, laidLooks := .later }
def KeymapDefaultsCardSaid : Prop := Claim7.holds Tryd.pinned (.plain (OpenSpec.ofChange keymapDefaultsSpec)) keymapDefaultsCard

/-- THE TIED CARD OF 'jobshelllaw45.KeymapValids'. -/
def keymapValidsCard : Claim7 := { stood := { row := keymapValidsRow, standIns := [], harness := (true, "1be20c151c4ea84bebc9df64f35a45a634cea712ce48fab99521382092ff4624"), looks := false }, kinds := [], alts := [], laidByText := true, laidKinds := [.data], laidTests := true, laidLooks := .later }
def KeymapValidsCardSaid : Prop := Claim7.holds Tryd.pinned (.plain (OpenSpec.ofChange keymapValidsSpec)) keymapValidsCard

/-- THE TIED CARD OF 'jobshelllaw45.KeymapBinds'. -/
def keymapBindsCard : Claim7 := { stood := { row := keymapBindsRow, standIns := [], harness := (true, "1be20c151c4ea84bebc9df64f35a45a634cea712ce48fab99521382092ff4624"), looks := false }, kinds := [], alts := [], laidByText := true, laidKinds := [.data], laidTests := true, laidLooks := .later }
def KeymapBindsCardSaid : Prop := Claim7.holds Tryd.pinned (.plain (OpenSpec.ofChange keymapBindsSpec)) keymapBindsCard

/-- THE TIED CARD OF 'jobshelllaw45.KeymapFinds'. -/
def keymapFindsCard : Claim7 := { stood := { row := keymapFindsRow, standIns := [], harness := (true, "1be20c151c4ea84bebc9df64f35a45a634cea712ce48fab99521382092ff4624"), looks := false }, kinds := [], alts := [], laidByText := true, laidKinds := [.data], laidTests := true, laidLooks := .later }
def KeymapFindsCardSaid : Prop := Claim7.holds Tryd.pinned (.plain (OpenSpec.ofChange keymapFindsSpec)) keymapFindsCard

/-- THE SECOND FORM's CARD OF 'jobshelllaw45.KeymapParses'. -/
def keymapParsesUptoCard : Claim7 := { stood := { row := keymapParsesUptoRow, standIns := [], harness := (true, "1be20c151c4ea84bebc9df64f35a45a634cea712ce48fab99521382092ff4624"), looks := false }, kinds := [], alts := [], laidByText := true, laidKinds := [.data], laidTests := true, laidLooks := .later }
def KeymapParsesUptoCardSaid : Prop := Claim7.holds Tryd.pinned (.plain (OpenSpec.upto keymapParsesSpec)) keymapParsesUptoCard

/-- THE SECOND FORM's CARD OF 'jobshelllaw45.KeymapShows'. -/
def keymapShowsUptoCard : Claim7 := { stood := { row := keymapShowsUptoRow, standIns := [], harness := (true, "1be20c151c4ea84bebc9df64f35a45a634cea712ce48fab99521382092ff4624"), looks := false }, kinds := [], alts := [], laidByText := true, laidKinds := [.data], laidTests := true, laidLooks := .later }
def KeymapShowsUptoCardSaid : Prop := Claim7.holds Tryd.pinned (.plain (OpenSpec.upto keymapShowsSpec)) keymapShowsUptoCard

/-- THE SECOND FORM's CARD OF 'jobshelllaw45.KeymapDefaults'. -/
def keymapDefaultsUptoCard : Claim7 := { stood := { row := keymapDefaultsUptoRow, standIns := [], harness := (true, "1be20c151c4ea84bebc9df64f35a45a634cea712ce48fab99521382092ff4624"), looks := false }, kinds := [], alts := [], laidByText := true, laidKinds := [.data], laidTests := true, laidLooks := .later }
def KeymapDefaultsUptoCardSaid : Prop := Claim7.holds Tryd.pinned (.plain (OpenSpec.upto keymapDefaultsSpec)) keymapDefaultsUptoCard

/-- THE SECOND FORM's CARD OF 'jobshelllaw45.KeymapValids'. -/
def keymapValidsUptoCard : Claim7 := { stood := { row := keymapValidsUptoRow, standIns := [], harness := (true, "1be20c151c4ea84bebc9df64f35a45a634cea712ce48fab99521382092ff4624"), looks := false }, kinds := [], alts := [], laidByText := true, laidKinds := [.data], laidTests := true, laidLooks := .later }
def KeymapValidsUptoCardSaid : Prop := Claim7.holds Tryd.pinned (.plain (OpenSpec.upto keymapValidsSpec)) keymapValidsUptoCard

/-- THE SECOND FORM's CARD OF 'jobshelllaw45.KeymapBinds'. -/
def keymapBindsUptoCard : Claim7 := { stood := { row := keymapBindsUptoRow, standIns := [], harness := (true, "1be20c151c4ea84bebc9df64f35a45a634cea712ce48fab99521382092ff4624"), looks := false }, kinds := [], alts := [], laidByText := true, laidKinds := [.data], laidTests := true, laidLooks := .later }
def KeymapBindsUptoCardSaid : Prop := Claim7.holds Tryd.pinned (.plain (OpenSpec.upto keymapBindsSpec)) keymapBindsUptoCard

/-- THE SECOND FORM's CARD OF 'jobshelllaw45.KeymapFinds'. -/
def keymapFindsUptoCard : Claim7 := { stood := { row := keymapFindsUptoRow, standIns := [], harness := (true, "1be20c151c4ea84bebc9df64f35a45a634cea712ce48fab99521382092ff4624"), looks := false }, kinds := [], alts := [], laidByText := true, laidKinds := [.data], laidTests := true, laidLooks := .later }
def KeymapFindsUptoCardSaid : Prop := Claim7.holds Tryd.pinned (.plain (OpenSpec.upto keymapFindsSpec)) keymapFindsUptoCard
end Rows
end Go.Proofs.YtoncfnbgajnhgaaDoor
