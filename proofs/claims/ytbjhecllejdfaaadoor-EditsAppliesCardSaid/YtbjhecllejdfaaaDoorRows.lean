/-
  NARROWER THAN 'FOR EVERY INPUT', by the rows' own cells (each row's printed sentence says how): EditsPlaces: laid · EditsOffsets: laid · EditsLines: laid · EditsApplies: laid · EditsShifts: laid · EditsDiffs: laid · EditsInverts: laid.
  DERIVED. THE GIVEN ROWS OF THIS SEAT. 7 by the template 'for every input the law returns true; each argument reads behind the call as it read before'; 0 by the template 'total and deterministic' (their statements: YtbjhecllejdfaaaDoorTotals.lean).
  GIVEN WITH THE SEED: the statements are not yours to turn. If you find one false, say at which input.
  Laid BY PROGRAM, IN A SANDBOX (cutbox-rows.mjs): the forced cells as the released guide's own fill.sh prints them over the translation 19d68c8c91d25d39… (all of the seat's roots in one cut). By AI agents, Wed Nov 11 2026. No macro, syntax, notation, axiom, sorry.
-/
import Derived.Test.YtbjhecllejdfaaaDoorChecked
import GoSem.PinnedTables
import GoSem.Claim
import GoSem.ClaimJoined
import GoSem.ClaimMapViews
import Derived.JoinedTies
import Derived.KernelRfl
namespace Go.Proofs.YtbjhecllejdfaaaDoor
/- THE CELL 'sum', in the pinned program and in every row, IS THE sha256 OF THE DUMP (.gsa) THAT YtbjhecllejdfaaaDoorProg.lean LOADS. Nothing in Lean hashes anything: it is a label: what it is worth is what the hold of that sum in a sandbox is worth. -/
noncomputable def Tryd.pinned : Pinned := { name := "ytbjhecllejdfaaadoor", sum := "19d68c8c91d25d39c3b3677876efa05df681fb4e7eabbc3ddfaeffb1e9fdd5d2", checked := Tryd.checked }
namespace Rows
def none {H : Type} : Left H := { results := [], args := [] }

/- WHAT THE LISTED PACKAGE-LEVEL VARIABLES READ AS WHEN THE CALL BEGINS. Each datum BY PROGRAM (the guide's laid-datum.mjs) off the statement by which the dump's own 'gosem.cut.vars' lays the variable. In a bare row this is a premise. The card (YtbjhecllejdfaaaDoorCards.lean) ties it to the program's text. -/
def laid_unicode_utf8_acceptRanges {H : Type} : DataW H := .agg [.agg [.lit (.int .u8 128), .lit (.int .u8 191)], .agg [.lit (.int .u8 160), .lit (.int .u8 191)], .agg [.lit (.int .u8 128), .lit (.int .u8 159)], .agg [.lit (.int .u8 144), .lit (.int .u8 191)], .agg [.lit (.int .u8 128), .lit (.int .u8 143)], .agg [.lit (.int .u8 0), .lit (.int .u8 0)], .agg [.lit (.int .u8 0), .lit (.int .u8 0)], .agg [.lit (.int .u8 0), .lit (.int .u8 0)], .agg [.lit (.int .u8 0), .lit (.int .u8 0)], .agg [.lit (.int .u8 0), .lit (.int .u8 0)], .agg [.lit (.int .u8 0), .lit (.int .u8 0)], .agg [.lit (.int .u8 0), .lit (.int .u8 0)], .agg [.lit (.int .u8 0), .lit (.int .u8 0)], .agg [.lit (.int .u8 0), .lit (.int .u8 0)], .agg [.lit (.int .u8 0), .lit (.int .u8 0)], .agg [.lit (.int .u8 0), .lit (.int .u8 0)]]
/-- One of Go's own tables, pinned by name: the form's constant. -/
def laid_unicode_utf8_first : DataW Unit := Go.Pinned.utf8First

/-- 'jobshelllaw02.EditsPlaces': WHATEVER THE INPUT: true; the input reads as it did. -/
def editsPlacesSpec : ChangeSpec := { name := "editsPlaces", fn := fun _ => fun
  | [d1, d2] => { results := [.lit (.bool true)], args := [d1, d2] }
  | _ => none }
def editsPlacesRow : OpenClaim := { program := "ytbjhecllejdfaaadoor", sum := "19d68c8c91d25d39c3b3677876efa05df681fb4e7eabbc3ddfaeffb1e9fdd5d2", func := "jobshell/jobshelllaw02.EditsPlaces", spec := "editsPlaces", inPlace := ["internal/abi.NoEscape", "internal/bytealg.CountString", "internal/bytealg.IndexByteString", "internal/bytealg.IndexString"], unfollowed := true, recurses := true, named := ["unicode/utf8.first", "unicode/utf8.acceptRanges", "internal/bytealg.MaxLen"], apart := false, laid := [("unicode/utf8.acceptRanges", laid_unicode_utf8_acceptRanges), ("unicode/utf8.first", laid_unicode_utf8_first)] }
def EditsPlacesSaid : Prop := editsPlacesRow.holds Tryd.pinned (OpenSpec.ofChange editsPlacesSpec)

/-- ITS FALSE NEIGHBOUR: 'it returns false'. Refute it at one input. -/
def editsPlacesWrong : ChangeSpec := { name := "editsPlaces", fn := fun _ => fun
  | [d1, d2] => { results := [.lit (.bool false)], args := [d1, d2] }
  | _ => none }
def EditsPlacesWrongFalsely : Prop := editsPlacesRow.holds Tryd.pinned (OpenSpec.ofChange editsPlacesWrong)

/-- 'jobshelllaw02.EditsOffsets': WHATEVER THE INPUT: true; the input reads as it did. -/
def editsOffsetsSpec : ChangeSpec := { name := "editsOffsets", fn := fun _ => fun
  | [d1, d2, d3] => { results := [.lit (.bool true)], args := [d1, d2, d3] }
  | _ => none }
def editsOffsetsRow : OpenClaim := { program := "ytbjhecllejdfaaadoor", sum := "19d68c8c91d25d39c3b3677876efa05df681fb4e7eabbc3ddfaeffb1e9fdd5d2", func := "jobshell/jobshelllaw02.EditsOffsets", spec := "editsOffsets", inPlace := ["internal/abi.NoEscape", "internal/bytealg.CountString", "internal/bytealg.IndexByteString", "internal/bytealg.IndexString"], unfollowed := true, recurses := true, named := ["unicode/utf8.first", "unicode/utf8.acceptRanges", "internal/bytealg.MaxLen"], apart := false, laid := [("unicode/utf8.acceptRanges", laid_unicode_utf8_acceptRanges), ("unicode/utf8.first", laid_unicode_utf8_first)] }
def EditsOffsetsSaid : Prop := editsOffsetsRow.holds Tryd.pinned (OpenSpec.ofChange editsOffsetsSpec)

/-- ITS FALSE NEIGHBOUR: 'it returns false'. Refute it at one input. -/
def editsOffsetsWrong : ChangeSpec := { name := "editsOffsets", fn := fun _ => fun
  | [d1, d2, d3] => { results := [.lit (.bool false)], args := [d1, d2, d3] }
  | _ => none }
def EditsOffsetsWrongFalsely : Prop := editsOffsetsRow.holds Tryd.pinned (OpenSpec.ofChange editsOffsetsWrong)

/-- 'jobshelllaw02.EditsLines': WHATEVER THE INPUT: true; the input reads as it did. -/
def editsLinesSpec : ChangeSpec := { name := "editsLines", fn := fun _ => fun
  | [d] => { results := [.lit (.bool true)], args := [d] }
  | _ => none }
def editsLinesRow : OpenClaim := { program := "ytbjhecllejdfaaadoor", sum := "19d68c8c91d25d39c3b3677876efa05df681fb4e7eabbc3ddfaeffb1e9fdd5d2", func := "jobshell/jobshelllaw02.EditsLines", spec := "editsLines", inPlace := ["internal/abi.NoEscape", "internal/bytealg.CountString", "internal/bytealg.IndexByteString", "internal/bytealg.IndexString"], unfollowed := true, recurses := true, named := ["unicode/utf8.first", "unicode/utf8.acceptRanges", "internal/bytealg.MaxLen"], apart := false, laid := [("unicode/utf8.acceptRanges", laid_unicode_utf8_acceptRanges), ("unicode/utf8.first", laid_unicode_utf8_first)] }
def EditsLinesSaid : Prop := editsLinesRow.holds Tryd.pinned (OpenSpec.ofChange editsLinesSpec)

/-- ITS FALSE NEIGHBOUR: 'it returns false'. Refute it at one input. -/
def editsLinesWrong : ChangeSpec := { name := "editsLines", fn := fun _ => fun
  | [d] => { results := [.lit (.bool false)], args := [d] }
  | _ => none }
def EditsLinesWrongFalsely : Prop := editsLinesRow.holds Tryd.pinned (OpenSpec.ofChange editsLinesWrong)

/-- 'jobshelllaw02.EditsApplies': WHATEVER THE INPUT: true; the input reads as it did. -/
def editsAppliesSpec : ChangeSpec := { name := "editsApplies", fn := fun _ => fun
  | [d1, d2] => { results := [.lit (.bool true)], args := [d1, d2] }
  | _ => none }
def editsAppliesRow : OpenClaim := { program := "ytbjhecllejdfaaadoor", sum := "19d68c8c91d25d39c3b3677876efa05df681fb4e7eabbc3ddfaeffb1e9fdd5d2", func := "jobshell/jobshelllaw02.EditsApplies", spec := "editsApplies", inPlace := ["internal/abi.NoEscape", "internal/bytealg.CountString", "internal/bytealg.IndexByteString", "internal/bytealg.IndexString"], unfollowed := true, recurses := true, named := ["unicode/utf8.first", "unicode/utf8.acceptRanges", "internal/bytealg.MaxLen"], apart := false, laid := [("unicode/utf8.acceptRanges", laid_unicode_utf8_acceptRanges), ("unicode/utf8.first", laid_unicode_utf8_first)] }
def EditsAppliesSaid : Prop := editsAppliesRow.holds Tryd.pinned (OpenSpec.ofChange editsAppliesSpec)

/-- ITS FALSE NEIGHBOUR: 'it returns false'. Refute it at one input. -/
def editsAppliesWrong : ChangeSpec := { name := "editsApplies", fn := fun _ => fun
  | [d1, d2] => { results := [.lit (.bool false)], args := [d1, d2] }
  | _ => none }
def EditsAppliesWrongFalsely : Prop := editsAppliesRow.holds Tryd.pinned (OpenSpec.ofChange editsAppliesWrong)

/-- 'jobshelllaw02.EditsShifts': WHATEVER THE INPUT: true; the input reads as it did. -/
def editsShiftsSpec : ChangeSpec := { name := "editsShifts", fn := fun _ => fun
  | [d1, d2, d3] => { results := [.lit (.bool true)], args := [d1, d2, d3] }
  | _ => none }
def editsShiftsRow : OpenClaim := { program := "ytbjhecllejdfaaadoor", sum := "19d68c8c91d25d39c3b3677876efa05df681fb4e7eabbc3ddfaeffb1e9fdd5d2", func := "jobshell/jobshelllaw02.EditsShifts", spec := "editsShifts", inPlace := ["internal/abi.NoEscape", "internal/bytealg.CountString", "internal/bytealg.IndexByteString", "internal/bytealg.IndexString"], unfollowed := true, recurses := true, named := ["unicode/utf8.first", "unicode/utf8.acceptRanges", "internal/bytealg.MaxLen"], apart := false, laid := [("unicode/utf8.acceptRanges", laid_unicode_utf8_acceptRanges), ("unicode/utf8.first", laid_unicode_utf8_first)] }
def EditsShiftsSaid : Prop := editsShiftsRow.holds Tryd.pinned (OpenSpec.ofChange editsShiftsSpec)

/-- ITS FALSE NEIGHBOUR: 'it returns false'. Refute it at one input. -/
def editsShiftsWrong : ChangeSpec := { name := "editsShifts", fn := fun _ => fun
  | [d1, d2, d3] => { results := [.lit (.bool false)], args := [d1, d2, d3] }
  | _ => none }
def EditsShiftsWrongFalsely : Prop := editsShiftsRow.holds Tryd.pinned (OpenSpec.ofChange editsShiftsWrong)

/-- 'jobshelllaw02.EditsDiffs': WHATEVER THE INPUT: true; the input reads as it did. -/
def editsDiffsSpec : ChangeSpec := { name := "editsDiffs", fn := fun _ => fun
  | [d1, d2] => { results := [.lit (.bool true)], args := [d1, d2] }
  | _ => none }
def editsDiffsRow : OpenClaim := { program := "ytbjhecllejdfaaadoor", sum := "19d68c8c91d25d39c3b3677876efa05df681fb4e7eabbc3ddfaeffb1e9fdd5d2", func := "jobshell/jobshelllaw02.EditsDiffs", spec := "editsDiffs", inPlace := ["internal/abi.NoEscape", "internal/bytealg.CountString", "internal/bytealg.IndexByteString", "internal/bytealg.IndexString"], unfollowed := true, recurses := true, named := ["unicode/utf8.first", "unicode/utf8.acceptRanges", "internal/bytealg.MaxLen"], apart := false, laid := [("unicode/utf8.acceptRanges", laid_unicode_utf8_acceptRanges), ("unicode/utf8.first", laid_unicode_utf8_first)] }
def EditsDiffsSaid : Prop := editsDiffsRow.holds Tryd.pinned (OpenSpec.ofChange editsDiffsSpec)

/-- ITS FALSE NEIGHBOUR: 'it returns false'. Refute it at one input. -/
def editsDiffsWrong : ChangeSpec := { name := "editsDiffs", fn := fun _ => fun
  | [d1, d2] => { results := [.lit (.bool false)], args := [d1, d2] }
  | _ => none }
def EditsDiffsWrongFalsely : Prop := editsDiffsRow.holds Tryd.pinned (OpenSpec.ofChange editsDiffsWrong)

/-- 'jobshelllaw02.EditsInverts': WHATEVER THE INPUT: true; the input reads as it did. -/
def editsInvertsSpec : ChangeSpec := { name := "editsInverts", fn := fun _ => fun
  | [d1, d2] => { results := [.lit (.bool true)], args := [d1, d2] }
  | _ => none }
def editsInvertsRow : OpenClaim := { program := "ytbjhecllejdfaaadoor", sum := "19d68c8c91d25d39c3b3677876efa05df681fb4e7eabbc3ddfaeffb1e9fdd5d2", func := "jobshell/jobshelllaw02.EditsInverts", spec := "editsInverts", inPlace := ["internal/abi.NoEscape", "internal/bytealg.CountString", "internal/bytealg.IndexByteString", "internal/bytealg.IndexString"], unfollowed := true, recurses := true, named := ["unicode/utf8.first", "unicode/utf8.acceptRanges", "internal/bytealg.MaxLen"], apart := false, laid := [("unicode/utf8.acceptRanges", laid_unicode_utf8_acceptRanges), ("unicode/utf8.first", laid_unicode_utf8_first)] }
def EditsInvertsSaid : Prop := editsInvertsRow.holds Tryd.pinned (OpenSpec.ofChange editsInvertsSpec)

/-- ITS FALSE NEIGHBOUR: 'it returns false'. Refute it at one input. -/
def editsInvertsWrong : ChangeSpec := { name := "editsInverts", fn := fun _ => fun
  | [d1, d2] => { results := [.lit (.bool false)], args := [d1, d2] }
  | _ => none }
def EditsInvertsWrongFalsely : Prop := editsInvertsRow.holds Tryd.pinned (OpenSpec.ofChange editsInvertsWrong)

/- THE SECOND FORM. 'bulk': how many values and letters a reading holds, each counted each time it is reached (what is shared counts as often as it is met; a slice's spare places count too). A statement '..UptoSaid' is the law's where the arguments, and the package variables that the reading takes, are together of bulk at most 1048576: NARROWER than '..Said'. Prove '..Said' where nothing that the law and all that it calls make is longer than what came in: it says more and counts as full. Else prove '..UptoSaid'. A law counts once. -/
mutual
def uptoBulk {H : Type} : DataW H → Nat
  | .lit (.string bytes) => bytes.length + 1
  | .lit _ => 1
  | .nil => 1
  | .ptr d => uptoBulk d + 1
  | .slice elems spare => uptoBulkAll elems + uptoBulkAll spare + 1
  | .agg parts => uptoBulkAll parts + 1
  | .iface _ d => uptoBulk d + 1
  | .map entries => uptoBulkEntries entries + 1
  | .held _ => 1
def uptoBulkAll {H : Type} : List (DataW H) → Nat
  | [] => 0
  | d :: r => uptoBulk d + uptoBulkAll r
def uptoBulkEntries {H : Type} : List (Lit × DataW H) → Nat
  | [] => 0
  | x :: r => uptoBulkEntry x + uptoBulkEntries r
def uptoBulkEntry {H : Type} : Lit × DataW H → Nat
  | (.string bytes, d) => bytes.length + uptoBulk d + 1
  | (_, d) => uptoBulk d + 1
 end
def uptoSmall : (H : Type) → List (DataW H) → Bool := fun _ ds => decide (uptoBulkAll ds ≤ 1048576)
def OpenSpec.upto (s : _root_.Go.ChangeSpec) : _root_.Go.OpenSpec := { _root_.Go.OpenSpec.ofChange s with cond := some uptoSmall }

/-- 'jobshelllaw02.EditsPlaces', WHERE WHAT IT READS IS OF BULK AT MOST 1048576: true; the input reads as it did. -/
def editsPlacesUptoRow : OpenClaim := { program := "ytbjhecllejdfaaadoor", sum := "19d68c8c91d25d39c3b3677876efa05df681fb4e7eabbc3ddfaeffb1e9fdd5d2", func := "jobshell/jobshelllaw02.EditsPlaces", spec := "editsPlaces", inPlace := ["internal/abi.NoEscape", "internal/bytealg.CountString", "internal/bytealg.IndexByteString", "internal/bytealg.IndexString"], unfollowed := true, recurses := true, named := ["unicode/utf8.first", "unicode/utf8.acceptRanges", "internal/bytealg.MaxLen"], apart := false, laid := [("unicode/utf8.acceptRanges", laid_unicode_utf8_acceptRanges), ("unicode/utf8.first", laid_unicode_utf8_first)], narrowed := true }
def EditsPlacesUptoSaid : Prop := editsPlacesUptoRow.holds Tryd.pinned (OpenSpec.upto editsPlacesSpec)

/-- 'jobshelllaw02.EditsOffsets', WHERE WHAT IT READS IS OF BULK AT MOST 1048576: true; the input reads as it did. -/
def editsOffsetsUptoRow : OpenClaim := { program := "ytbjhecllejdfaaadoor", sum := "19d68c8c91d25d39c3b3677876efa05df681fb4e7eabbc3ddfaeffb1e9fdd5d2", func := "jobshell/jobshelllaw02.EditsOffsets", spec := "editsOffsets", inPlace := ["internal/abi.NoEscape", "internal/bytealg.CountString", "internal/bytealg.IndexByteString", "internal/bytealg.IndexString"], unfollowed := true, recurses := true, named := ["unicode/utf8.first", "unicode/utf8.acceptRanges", "internal/bytealg.MaxLen"], apart := false, laid := [("unicode/utf8.acceptRanges", laid_unicode_utf8_acceptRanges), ("unicode/utf8.first", laid_unicode_utf8_first)], narrowed := true }
def EditsOffsetsUptoSaid : Prop := editsOffsetsUptoRow.holds Tryd.pinned (OpenSpec.upto editsOffsetsSpec)

/-- 'jobshelllaw02.EditsLines', WHERE WHAT IT READS IS OF BULK AT MOST 1048576: true; the input reads as it did. -/
def editsLinesUptoRow : OpenClaim := { program := "ytbjhecllejdfaaadoor", sum := "19d68c8c91d25d39c3b3677876efa05df681fb4e7eabbc3ddfaeffb1e9fdd5d2", func := "jobshell/jobshelllaw02.EditsLines", spec := "editsLines", inPlace := ["internal/abi.NoEscape", "internal/bytealg.CountString", "internal/bytealg.IndexByteString", "internal/bytealg.IndexString"], unfollowed := true, recurses := true, named := ["unicode/utf8.first", "unicode/utf8.acceptRanges", "internal/bytealg.MaxLen"], apart := false, laid := [("unicode/utf8.acceptRanges", laid_unicode_utf8_acceptRanges), ("unicode/utf8.first", laid_unicode_utf8_first)], narrowed := true }
def EditsLinesUptoSaid : Prop := editsLinesUptoRow.holds Tryd.pinned (OpenSpec.upto editsLinesSpec)

/-- 'jobshelllaw02.EditsApplies', WHERE WHAT IT READS IS OF BULK AT MOST 1048576: true; the input reads as it did. -/
def editsAppliesUptoRow : OpenClaim := { program := "ytbjhecllejdfaaadoor", sum := "19d68c8c91d25d39c3b3677876efa05df681fb4e7eabbc3ddfaeffb1e9fdd5d2", func := "jobshell/jobshelllaw02.EditsApplies", spec := "editsApplies", inPlace := ["internal/abi.NoEscape", "internal/bytealg.CountString", "internal/bytealg.IndexByteString", "internal/bytealg.IndexString"], unfollowed := true, recurses := true, named := ["unicode/utf8.first", "unicode/utf8.acceptRanges", "internal/bytealg.MaxLen"], apart := false, laid := [("unicode/utf8.acceptRanges", laid_unicode_utf8_acceptRanges), ("unicode/utf8.first", laid_unicode_utf8_first)], narrowed := true }
def EditsAppliesUptoSaid : Prop := editsAppliesUptoRow.holds Tryd.pinned (OpenSpec.upto editsAppliesSpec)

/-- 'jobshelllaw02.EditsShifts', WHERE WHAT IT READS IS OF BULK AT MOST 1048576: true; the input reads as it did. -/
def editsShiftsUptoRow : OpenClaim := { program := "ytbjhecllejdfaaadoor", sum := "19d68c8c91d25d39c3b3677876efa05df681fb4e7eabbc3ddfaeffb1e9fdd5d2", func := "jobshell/jobshelllaw02.EditsShifts", spec := "editsShifts", inPlace := ["internal/abi.NoEscape", "internal/bytealg.CountString", "internal/bytealg.IndexByteString", "internal/bytealg.IndexString"], unfollowed := true, recurses := true, named := ["unicode/utf8.first", "unicode/utf8.acceptRanges", "internal/bytealg.MaxLen"], apart := false, laid := [("unicode/utf8.acceptRanges", laid_unicode_utf8_acceptRanges), ("unicode/utf8.first", laid_unicode_utf8_first)], narrowed := true }
def EditsShiftsUptoSaid : Prop := editsShiftsUptoRow.holds Tryd.pinned (OpenSpec.upto editsShiftsSpec)

/-- 'jobshelllaw02.EditsDiffs', WHERE WHAT IT READS IS OF BULK AT MOST 1048576: true; the input reads as it did. -/
def editsDiffsUptoRow : OpenClaim := { program := "ytbjhecllejdfaaadoor", sum := "19d68c8c91d25d39c3b3677876efa05df681fb4e7eabbc3ddfaeffb1e9fdd5d2", func := "jobshell/jobshelllaw02.EditsDiffs", spec := "editsDiffs", inPlace := ["internal/abi.NoEscape", "internal/bytealg.CountString", "internal/bytealg.IndexByteString", "internal/bytealg.IndexString"], unfollowed := true, recurses := true, named := ["unicode/utf8.first", "unicode/utf8.acceptRanges", "internal/bytealg.MaxLen"], apart := false, laid := [("unicode/utf8.acceptRanges", laid_unicode_utf8_acceptRanges), ("unicode/utf8.first", laid_unicode_utf8_first)], narrowed := true }
def EditsDiffsUptoSaid : Prop := editsDiffsUptoRow.holds Tryd.pinned (OpenSpec.upto editsDiffsSpec)

/-- 'jobshelllaw02.EditsInverts', WHERE WHAT IT READS IS OF BULK AT MOST 1048576: true; the input reads as it did. -/
def editsInvertsUptoRow : OpenClaim := { program := "ytbjhecllejdfaaadoor", sum := "19d68c8c91d25d39c3b3677876efa05df681fb4e7eabbc3ddfaeffb1e9fdd5d2", func := "jobshell/jobshelllaw02.EditsInverts", spec := "editsInverts", inPlace := ["internal/abi.NoEscape", "internal/bytealg.CountString", "internal/bytealg.IndexByteString", "internal/bytealg.IndexString"], unfollowed := true, recurses := true, named := ["unicode/utf8.first", "unicode/utf8.acceptRanges", "internal/bytealg.MaxLen"], apart := false, laid := [("unicode/utf8.acceptRanges", laid_unicode_utf8_acceptRanges), ("unicode/utf8.first", laid_unicode_utf8_first)], narrowed := true }
def EditsInvertsUptoSaid : Prop := editsInvertsUptoRow.holds Tryd.pinned (OpenSpec.upto editsInvertsSpec)

end Rows
end Go.Proofs.YtbjhecllejdfaaaDoor
