/-
  No cell of these rows narrows 'for every input' (looked for: loops, veiled, ifaces, maps, wideKeys, modest, calm, conditions, laid).
  DERIVED. THE GIVEN ROWS OF THIS SEAT. 6 by the template 'for every input the law returns true; each argument reads behind the call as it read before'; 0 by the template 'total and deterministic' (their statements: YtcplbbbjmalfjaaTotals.lean).
  GIVEN WITH THE SEED: the statements are not yours to turn. If you find one false, say at which input.
  Laid BY PROGRAM, IN A SANDBOX (cutbox-rows.mjs): the forced cells as the released guide's own fill.sh prints them over the translation c4752f4a02b6d1c1… (all of the seat's roots in one cut). By AI agents, Wed Nov 11 2026. No macro, syntax, notation, axiom, sorry.
-/
import Derived.Test.YtcplbbbjmalfjaaChecked
import GoSem.Claim
import GoSem.ClaimJoined
import GoSem.ClaimMapViews
import Derived.JoinedTies
import Derived.KernelRfl
namespace Go.Proofs.Ytcplbbbjmalfjaa
/- THE CELL 'sum', in the pinned program and in every row, IS THE sha256 OF THE DUMP (.gsa) THAT YtcplbbbjmalfjaaProg.lean LOADS. Nothing in Lean hashes anything: it is a label: what it is worth is what the hold of that sum in a sandbox is worth. -/
noncomputable def Try.pinned : Pinned := { name := "ytcplbbbjmalfjaa", sum := "c4752f4a02b6d1c1a5fa68ce31061d6cb04023c01f14b316a57596af9d4fcafe", checked := Try.checked }
namespace Rows
def none {H : Type} : Left H := { results := [], args := [] }

/-- 'jobshelllaw18.SplitFields': WHATEVER THE INPUT: true; the input reads as it did. -/
def splitFieldsSpec : ChangeSpec := { name := "splitFields", fn := fun _ => fun
  | [d1, d2] => { results := [.lit (.bool true)], args := [d1, d2] }
  | _ => none }
def splitFieldsRow : OpenClaim := { program := "ytcplbbbjmalfjaa", sum := "c4752f4a02b6d1c1a5fa68ce31061d6cb04023c01f14b316a57596af9d4fcafe", func := "jobshell/jobshelllaw18.SplitFields", spec := "splitFields", inPlace := ["internal/bytealg.IndexByteString", "internal/bytealg.IndexString", "internal/abi.NoEscape", "internal/bytealg.MakeNoZero"], unfollowed := true, recurses := true, named := ["internal/bytealg.MaxLen"], apart := false }
def SplitFieldsSaid : Prop := splitFieldsRow.holds Try.pinned (OpenSpec.ofChange splitFieldsSpec)

/-- ITS FALSE NEIGHBOUR: 'it returns false'. Refute it at one input. -/
def splitFieldsWrong : ChangeSpec := { name := "splitFields", fn := fun _ => fun
  | [d1, d2] => { results := [.lit (.bool false)], args := [d1, d2] }
  | _ => none }
def SplitFieldsWrongFalsely : Prop := splitFieldsRow.holds Try.pinned (OpenSpec.ofChange splitFieldsWrong)

/-- 'jobshelllaw18.SplitTexts': WHATEVER THE INPUT: true; the input reads as it did. -/
def splitTextsSpec : ChangeSpec := { name := "splitTexts", fn := fun _ => fun
  | [d1, d2, d3] => { results := [.lit (.bool true)], args := [d1, d2, d3] }
  | _ => none }
def splitTextsRow : OpenClaim := { program := "ytcplbbbjmalfjaa", sum := "c4752f4a02b6d1c1a5fa68ce31061d6cb04023c01f14b316a57596af9d4fcafe", func := "jobshell/jobshelllaw18.SplitTexts", spec := "splitTexts", inPlace := ["internal/bytealg.IndexByteString", "internal/bytealg.IndexString", "internal/abi.NoEscape", "internal/bytealg.MakeNoZero"], unfollowed := true, recurses := true, named := ["internal/bytealg.MaxLen"], apart := false }
def SplitTextsSaid : Prop := splitTextsRow.holds Try.pinned (OpenSpec.ofChange splitTextsSpec)

/-- ITS FALSE NEIGHBOUR: 'it returns false'. Refute it at one input. -/
def splitTextsWrong : ChangeSpec := { name := "splitTexts", fn := fun _ => fun
  | [d1, d2, d3] => { results := [.lit (.bool false)], args := [d1, d2, d3] }
  | _ => none }
def SplitTextsWrongFalsely : Prop := splitTextsRow.holds Try.pinned (OpenSpec.ofChange splitTextsWrong)

/-- 'jobshelllaw18.SplitReads': WHATEVER THE INPUT: true; the input reads as it did. -/
def splitReadsSpec : ChangeSpec := { name := "splitReads", fn := fun _ => fun
  | [d1, d2, d3] => { results := [.lit (.bool true)], args := [d1, d2, d3] }
  | _ => none }
def splitReadsRow : OpenClaim := { program := "ytcplbbbjmalfjaa", sum := "c4752f4a02b6d1c1a5fa68ce31061d6cb04023c01f14b316a57596af9d4fcafe", func := "jobshell/jobshelllaw18.SplitReads", spec := "splitReads", inPlace := ["internal/bytealg.IndexByteString", "internal/bytealg.IndexString", "internal/abi.NoEscape", "internal/bytealg.MakeNoZero"], unfollowed := true, recurses := true, named := ["internal/bytealg.MaxLen"], apart := false }
def SplitReadsSaid : Prop := splitReadsRow.holds Try.pinned (OpenSpec.ofChange splitReadsSpec)

/-- ITS FALSE NEIGHBOUR: 'it returns false'. Refute it at one input. -/
def splitReadsWrong : ChangeSpec := { name := "splitReads", fn := fun _ => fun
  | [d1, d2, d3] => { results := [.lit (.bool false)], args := [d1, d2, d3] }
  | _ => none }
def SplitReadsWrongFalsely : Prop := splitReadsRow.holds Try.pinned (OpenSpec.ofChange splitReadsWrong)

/-- 'jobshelllaw18.SplitBytes': WHATEVER THE INPUT: true; the input reads as it did. -/
def splitBytesSpec : ChangeSpec := { name := "splitBytes", fn := fun _ => fun
  | [d1, d2] => { results := [.lit (.bool true)], args := [d1, d2] }
  | _ => none }
def splitBytesRow : OpenClaim := { program := "ytcplbbbjmalfjaa", sum := "c4752f4a02b6d1c1a5fa68ce31061d6cb04023c01f14b316a57596af9d4fcafe", func := "jobshell/jobshelllaw18.SplitBytes", spec := "splitBytes", inPlace := ["internal/bytealg.IndexByteString", "internal/bytealg.IndexString", "internal/abi.NoEscape", "internal/bytealg.MakeNoZero"], unfollowed := true, recurses := true, named := ["internal/bytealg.MaxLen"], apart := false }
def SplitBytesSaid : Prop := splitBytesRow.holds Try.pinned (OpenSpec.ofChange splitBytesSpec)

/-- ITS FALSE NEIGHBOUR: 'it returns false'. Refute it at one input. -/
def splitBytesWrong : ChangeSpec := { name := "splitBytes", fn := fun _ => fun
  | [d1, d2] => { results := [.lit (.bool false)], args := [d1, d2] }
  | _ => none }
def SplitBytesWrongFalsely : Prop := splitBytesRow.holds Try.pinned (OpenSpec.ofChange splitBytesWrong)

/-- 'jobshelllaw18.SplitBorders': WHATEVER THE INPUT: true; the input reads as it did. -/
def splitBordersSpec : ChangeSpec := { name := "splitBorders", fn := fun _ => fun
  | [d1, d2, d3] => { results := [.lit (.bool true)], args := [d1, d2, d3] }
  | _ => none }
def splitBordersRow : OpenClaim := { program := "ytcplbbbjmalfjaa", sum := "c4752f4a02b6d1c1a5fa68ce31061d6cb04023c01f14b316a57596af9d4fcafe", func := "jobshell/jobshelllaw18.SplitBorders", spec := "splitBorders", inPlace := ["internal/bytealg.IndexByteString", "internal/bytealg.IndexString", "internal/abi.NoEscape", "internal/bytealg.MakeNoZero"], unfollowed := true, recurses := true, named := ["internal/bytealg.MaxLen"], apart := false }
def SplitBordersSaid : Prop := splitBordersRow.holds Try.pinned (OpenSpec.ofChange splitBordersSpec)

/-- ITS FALSE NEIGHBOUR: 'it returns false'. Refute it at one input. -/
def splitBordersWrong : ChangeSpec := { name := "splitBorders", fn := fun _ => fun
  | [d1, d2, d3] => { results := [.lit (.bool false)], args := [d1, d2, d3] }
  | _ => none }
def SplitBordersWrongFalsely : Prop := splitBordersRow.holds Try.pinned (OpenSpec.ofChange splitBordersWrong)

/-- 'jobshelllaw18.SplitWhole': WHATEVER THE INPUT: true; the input reads as it did. -/
def splitWholeSpec : ChangeSpec := { name := "splitWhole", fn := fun _ => fun
  | [d] => { results := [.lit (.bool true)], args := [d] }
  | _ => none }
def splitWholeRow : OpenClaim := { program := "ytcplbbbjmalfjaa", sum := "c4752f4a02b6d1c1a5fa68ce31061d6cb04023c01f14b316a57596af9d4fcafe", func := "jobshell/jobshelllaw18.SplitWhole", spec := "splitWhole", inPlace := ["internal/bytealg.IndexByteString", "internal/bytealg.IndexString", "internal/abi.NoEscape", "internal/bytealg.MakeNoZero"], unfollowed := true, recurses := true, named := ["internal/bytealg.MaxLen"], apart := false }
def SplitWholeSaid : Prop := splitWholeRow.holds Try.pinned (OpenSpec.ofChange splitWholeSpec)

/-- ITS FALSE NEIGHBOUR: 'it returns false'. Refute it at one input. -/
def splitWholeWrong : ChangeSpec := { name := "splitWhole", fn := fun _ => fun
  | [d] => { results := [.lit (.bool false)], args := [d] }
  | _ => none }
def SplitWholeWrongFalsely : Prop := splitWholeRow.holds Try.pinned (OpenSpec.ofChange splitWholeWrong)

/- THE SECOND FORM. 'bulk': how many values and letters a reading holds, each counted each time it is reached (what is shared counts as often as it is met; a slice's spare places count too). A statement '..UptoSaid' is the law's where the arguments, and the package variables that the reading takes, are together of bulk at most 1048576: NARROWER than '..Said'. Prove '..Said' where nothing that the law and all that it calls make is longer than what came in: it says more and counts as full. Else prove '..UptoSaid'. A law counts once. -/
mutual
def uptoBulk {H : Type} : DataW H → Nat
  | .lit (.string bytes) => bytes.length + 1
  | .lit _ => 1
  | .nil => 1
  | .ptr d => uptoBulk d + 1
  | .slice elems spare => uptoBulkAll elems + uptoBulkAll spare + 1
  | .agg parts => uptoBulkAll parts + 1
  | .iface _ d => uptoBulk d + 1
  | .map entries => uptoBulkEntries entries + 1
  | .held _ => 1
def uptoBulkAll {H : Type} : List (DataW H) → Nat
  | [] => 0
  | d :: r => uptoBulk d + uptoBulkAll r
def uptoBulkEntries {H : Type} : List (Lit × DataW H) → Nat
  | [] => 0
  | x :: r => uptoBulkEntry x + uptoBulkEntries r
def uptoBulkEntry {H : Type} : Lit × DataW H → Nat
  | (.string bytes, d) => bytes.length + uptoBulk d + 1
  | (_, d) => uptoBulk d + 1
 end
def uptoSmall : (H : Type) → List (DataW H) → Bool := fun _ ds => decide (uptoBulkAll ds ≤ 1048576)
def OpenSpec.upto (s : _root_.Go.ChangeSpec) : _root_.Go.OpenSpec := { _root_.Go.OpenSpec.ofChange s with cond := some uptoSmall }

/-- 'jobshelllaw18.SplitFields', WHERE WHAT IT READS IS OF BULK AT MOST 1048576: true; the input reads as it did. -/
def splitFieldsUptoRow : OpenClaim := { program := "ytcplbbbjmalfjaa", sum := "c4752f4a02b6d1c1a5fa68ce31061d6cb04023c01f14b316a57596af9d4fcafe", func := "jobshell/jobshelllaw18.SplitFields", spec := "splitFields", inPlace := ["internal/bytealg.IndexByteString", "internal/bytealg.IndexString", "internal/abi.NoEscape", "internal/bytealg.MakeNoZero"], unfollowed := true, recurses := true, named := ["internal/bytealg.MaxLen"], apart := false, narrowed := true }
def SplitFieldsUptoSaid : Prop := splitFieldsUptoRow.holds Try.pinned (OpenSpec.upto splitFieldsSpec)

/-- 'jobshelllaw18.SplitTexts', WHERE WHAT IT READS IS OF BULK AT MOST 1048576: true; the input reads as it did. -/
def splitTextsUptoRow : OpenClaim := { program := "ytcplbbbjmalfjaa", sum := "c4752f4a02b6d1c1a5fa68ce31061d6cb04023c01f14b316a57596af9d4fcafe", func := "jobshell/jobshelllaw18.SplitTexts", spec := "splitTexts", inPlace := ["internal/bytealg.IndexByteString", "internal/bytealg.IndexString", "internal/abi.NoEscape", "internal/bytealg.MakeNoZero"], unfollowed := true, recurses := true, named := ["internal/bytealg.MaxLen"], apart := false, narrowed := true }
def SplitTextsUptoSaid : Prop := splitTextsUptoRow.holds Try.pinned (OpenSpec.upto splitTextsSpec)

/-- 'jobshelllaw18.SplitReads', WHERE WHAT IT READS IS OF BULK AT MOST 1048576: true; the input reads as it did. -/
def splitReadsUptoRow : OpenClaim := { program := "ytcplbbbjmalfjaa", sum := "c4752f4a02b6d1c1a5fa68ce31061d6cb04023c01f14b316a57596af9d4fcafe", func := "jobshell/jobshelllaw18.SplitReads", spec := "splitReads", inPlace := ["internal/bytealg.IndexByteString", "internal/bytealg.IndexString", "internal/abi.NoEscape", "internal/bytealg.MakeNoZero"], unfollowed := true, recurses := true, named := ["internal/bytealg.MaxLen"], apart := false, narrowed := true }
def SplitReadsUptoSaid : Prop := splitReadsUptoRow.holds Try.pinned (OpenSpec.upto splitReadsSpec)

/-- 'jobshelllaw18.SplitBytes', WHERE WHAT IT READS IS OF BULK AT MOST 1048576: true; the input reads as it did. -/
def splitBytesUptoRow : OpenClaim := { program := "ytcplbbbjmalfjaa", sum := "c4752f4a02b6d1c1a5fa68ce31061d6cb04023c01f14b316a57596af9d4fcafe", func := "jobshell/jobshelllaw18.SplitBytes", spec := "splitBytes", inPlace := ["internal/bytealg.IndexByteString", "internal/bytealg.IndexString", "internal/abi.NoEscape", "internal/bytealg.MakeNoZero"], unfollowed := true, recurses := true, named := ["internal/bytealg.MaxLen"], apart := false, narrowed := true }
def SplitBytesUptoSaid : Prop := splitBytesUptoRow.holds Try.pinned (OpenSpec.upto splitBytesSpec)

/-- 'jobshelllaw18.SplitBorders', WHERE WHAT IT READS IS OF BULK AT MOST 1048576: true; the input reads as it did. -/
def splitBordersUptoRow : OpenClaim := { program := "ytcplbbbjmalfjaa", sum := "c4752f4a02b6d1c1a5fa68ce31061d6cb04023c01f14b316a57596af9d4fcafe", func := "jobshell/jobshelllaw18.SplitBorders", spec := "splitBorders", inPlace := ["internal/bytealg.IndexByteString", "internal/bytealg.IndexString", "internal/abi.NoEscape", "internal/bytealg.MakeNoZero"], unfollowed := true, recurses := true, named := ["internal/bytealg.MaxLen"], apart := false, narrowed := true }
def SplitBordersUptoSaid : Prop := splitBordersUptoRow.holds Try.pinned (OpenSpec.upto splitBordersSpec)

/-- 'jobshelllaw18.SplitWhole', WHERE WHAT IT READS IS OF BULK AT MOST 1048576: true; the input reads as it did. -/
def splitWholeUptoRow : OpenClaim := { program := "ytcplbbbjmalfjaa", sum := "c4752f4a02b6d1c1a5fa68ce31061d6cb04023c01f14b316a57596af9d4fcafe", func := "jobshell/jobshelllaw18.SplitWhole", spec := "splitWhole", inPlace := ["internal/bytealg.IndexByteString", "internal/bytealg.IndexString", "internal/abi.NoEscape", "internal/bytealg.MakeNoZero"], unfollowed := true, recurses := true, named := ["internal/bytealg.MaxLen"], apart := false, narrowed := true }
def SplitWholeUptoSaid : Prop := splitWholeUptoRow.holds Try.pinned (OpenSpec.upto splitWholeSpec)

end Rows
end Go.Proofs.Ytcplbbbjmalfjaa
