/-
  No cell of these rows narrows 'for every input' (looked for: loops, veiled, ifaces, maps, wideKeys, modest, calm, conditions, laid).
  DERIVED. THE GIVEN ROWS OF THIS SEAT. 9 by the template 'for every input the law returns true; each argument reads behind the call as it read before'; 0 by the template 'total and deterministic' (their statements: YtikolicdgkckeaaTotals.lean).
  GIVEN WITH THE SEED: the statements are not yours to turn. If you find one false, say at which input.
  Laid BY PROGRAM, IN A SANDBOX (cutbox-rows.mjs): the forced cells as the released guide's own fill.sh prints them over the translation 6bf039652d7e088a… (all of the seat's roots in one cut). By AI agents, Wed Nov 11 2026. No macro, syntax, notation, axiom, sorry.
-/
import Derived.Test.YtikolicdgkckeaaChecked
import GoSem.Claim
import GoSem.ClaimJoined
import GoSem.ClaimMapViews
import Derived.JoinedTies
import Derived.KernelRfl
namespace Go.Proofs.Ytikolicdgkckeaa
/- THE CELL 'sum', in the pinned program and in every row, IS THE sha256 OF THE DUMP (.gsa) THAT YtikolicdgkckeaaProg.lean LOADS. Nothing in Lean hashes anything: it is a label: what it is worth is what the hold of that sum in a sandbox is worth. -/
noncomputable def Try.pinned : Pinned := { name := "ytikolicdgkckeaa", sum := "6bf039652d7e088aca670fd4fddf191b3d9a3c87b37aeaf7543db07ed3054c78", checked := Try.checked }
namespace Rows
def none {H : Type} : Left H := { results := [], args := [] }

/-- 'jobshelllaw07.LexerKinds': WHATEVER THE INPUT: true; the input reads as it did. -/
def lexerKindsSpec : ChangeSpec := { name := "lexerKinds", fn := fun _ => fun
  | [d] => { results := [.lit (.bool true)], args := [d] }
  | _ => none }
def lexerKindsRow : OpenClaim := { program := "ytikolicdgkckeaa", sum := "6bf039652d7e088aca670fd4fddf191b3d9a3c87b37aeaf7543db07ed3054c78", func := "jobshell/jobshelllaw07.LexerKinds", spec := "lexerKinds", inPlace := ["internal/bytealg.IndexByteString"], recurses := true, apart := false }
def LexerKindsSaid : Prop := lexerKindsRow.holds Try.pinned (OpenSpec.ofChange lexerKindsSpec)

/-- ITS FALSE NEIGHBOUR: 'it returns false'. Refute it at one input. -/
def lexerKindsWrong : ChangeSpec := { name := "lexerKinds", fn := fun _ => fun
  | [d] => { results := [.lit (.bool false)], args := [d] }
  | _ => none }
def LexerKindsWrongFalsely : Prop := lexerKindsRow.holds Try.pinned (OpenSpec.ofChange lexerKindsWrong)

/-- 'jobshelllaw07.LexerSkips': WHATEVER THE INPUT: true; the input reads as it did. -/
def lexerSkipsSpec : ChangeSpec := { name := "lexerSkips", fn := fun _ => fun
  | [d1, d2] => { results := [.lit (.bool true)], args := [d1, d2] }
  | _ => none }
def lexerSkipsRow : OpenClaim := { program := "ytikolicdgkckeaa", sum := "6bf039652d7e088aca670fd4fddf191b3d9a3c87b37aeaf7543db07ed3054c78", func := "jobshell/jobshelllaw07.LexerSkips", spec := "lexerSkips", inPlace := ["internal/bytealg.IndexByteString"], recurses := true, apart := false }
def LexerSkipsSaid : Prop := lexerSkipsRow.holds Try.pinned (OpenSpec.ofChange lexerSkipsSpec)

/-- ITS FALSE NEIGHBOUR: 'it returns false'. Refute it at one input. -/
def lexerSkipsWrong : ChangeSpec := { name := "lexerSkips", fn := fun _ => fun
  | [d1, d2] => { results := [.lit (.bool false)], args := [d1, d2] }
  | _ => none }
def LexerSkipsWrongFalsely : Prop := lexerSkipsRow.holds Try.pinned (OpenSpec.ofChange lexerSkipsWrong)

/-- 'jobshelllaw07.LexerCloses': WHATEVER THE INPUT: true; the input reads as it did. -/
def lexerClosesSpec : ChangeSpec := { name := "lexerCloses", fn := fun _ => fun
  | [d1, d2] => { results := [.lit (.bool true)], args := [d1, d2] }
  | _ => none }
def lexerClosesRow : OpenClaim := { program := "ytikolicdgkckeaa", sum := "6bf039652d7e088aca670fd4fddf191b3d9a3c87b37aeaf7543db07ed3054c78", func := "jobshell/jobshelllaw07.LexerCloses", spec := "lexerCloses", inPlace := ["internal/bytealg.IndexByteString"], recurses := true, apart := false }
def LexerClosesSaid : Prop := lexerClosesRow.holds Try.pinned (OpenSpec.ofChange lexerClosesSpec)

/-- ITS FALSE NEIGHBOUR: 'it returns false'. Refute it at one input. -/
def lexerClosesWrong : ChangeSpec := { name := "lexerCloses", fn := fun _ => fun
  | [d1, d2] => { results := [.lit (.bool false)], args := [d1, d2] }
  | _ => none }
def LexerClosesWrongFalsely : Prop := lexerClosesRow.holds Try.pinned (OpenSpec.ofChange lexerClosesWrong)

/-- 'jobshelllaw07.LexerNexts': WHATEVER THE INPUT: true; the input reads as it did. -/
def lexerNextsSpec : ChangeSpec := { name := "lexerNexts", fn := fun _ => fun
  | [d1, d2] => { results := [.lit (.bool true)], args := [d1, d2] }
  | _ => none }
def lexerNextsRow : OpenClaim := { program := "ytikolicdgkckeaa", sum := "6bf039652d7e088aca670fd4fddf191b3d9a3c87b37aeaf7543db07ed3054c78", func := "jobshell/jobshelllaw07.LexerNexts", spec := "lexerNexts", inPlace := ["internal/bytealg.IndexByteString"], recurses := true, apart := false }
def LexerNextsSaid : Prop := lexerNextsRow.holds Try.pinned (OpenSpec.ofChange lexerNextsSpec)

/-- ITS FALSE NEIGHBOUR: 'it returns false'. Refute it at one input. -/
def lexerNextsWrong : ChangeSpec := { name := "lexerNexts", fn := fun _ => fun
  | [d1, d2] => { results := [.lit (.bool false)], args := [d1, d2] }
  | _ => none }
def LexerNextsWrongFalsely : Prop := lexerNextsRow.holds Try.pinned (OpenSpec.ofChange lexerNextsWrong)

/-- 'jobshelllaw07.LexerAll': WHATEVER THE INPUT: true; the input reads as it did. -/
def lexerAllSpec : ChangeSpec := { name := "lexerAll", fn := fun _ => fun
  | [d] => { results := [.lit (.bool true)], args := [d] }
  | _ => none }
def lexerAllRow : OpenClaim := { program := "ytikolicdgkckeaa", sum := "6bf039652d7e088aca670fd4fddf191b3d9a3c87b37aeaf7543db07ed3054c78", func := "jobshell/jobshelllaw07.LexerAll", spec := "lexerAll", inPlace := ["internal/bytealg.IndexByteString"], recurses := true, apart := false }
def LexerAllSaid : Prop := lexerAllRow.holds Try.pinned (OpenSpec.ofChange lexerAllSpec)

/-- ITS FALSE NEIGHBOUR: 'it returns false'. Refute it at one input. -/
def lexerAllWrong : ChangeSpec := { name := "lexerAll", fn := fun _ => fun
  | [d] => { results := [.lit (.bool false)], args := [d] }
  | _ => none }
def LexerAllWrongFalsely : Prop := lexerAllRow.holds Try.pinned (OpenSpec.ofChange lexerAllWrong)

/-- 'jobshelllaw07.LexerLong': WHATEVER THE INPUT: true; the input reads as it did. -/
def lexerLongSpec : ChangeSpec := { name := "lexerLong", fn := fun _ => fun
  | [d] => { results := [.lit (.bool true)], args := [d] }
  | _ => none }
def lexerLongRow : OpenClaim := { program := "ytikolicdgkckeaa", sum := "6bf039652d7e088aca670fd4fddf191b3d9a3c87b37aeaf7543db07ed3054c78", func := "jobshell/jobshelllaw07.LexerLong", spec := "lexerLong", inPlace := ["internal/bytealg.IndexByteString"], recurses := true, apart := false }
def LexerLongSaid : Prop := lexerLongRow.holds Try.pinned (OpenSpec.ofChange lexerLongSpec)

/-- ITS FALSE NEIGHBOUR: 'it returns false'. Refute it at one input. -/
def lexerLongWrong : ChangeSpec := { name := "lexerLong", fn := fun _ => fun
  | [d] => { results := [.lit (.bool false)], args := [d] }
  | _ => none }
def LexerLongWrongFalsely : Prop := lexerLongRow.holds Try.pinned (OpenSpec.ofChange lexerLongWrong)

/-- 'jobshelllaw07.LexerCovers': WHATEVER THE INPUT: true; the input reads as it did. -/
def lexerCoversSpec : ChangeSpec := { name := "lexerCovers", fn := fun _ => fun
  | [d] => { results := [.lit (.bool true)], args := [d] }
  | _ => none }
def lexerCoversRow : OpenClaim := { program := "ytikolicdgkckeaa", sum := "6bf039652d7e088aca670fd4fddf191b3d9a3c87b37aeaf7543db07ed3054c78", func := "jobshell/jobshelllaw07.LexerCovers", spec := "lexerCovers", inPlace := ["internal/bytealg.IndexByteString"], recurses := true, apart := false }
def LexerCoversSaid : Prop := lexerCoversRow.holds Try.pinned (OpenSpec.ofChange lexerCoversSpec)

/-- ITS FALSE NEIGHBOUR: 'it returns false'. Refute it at one input. -/
def lexerCoversWrong : ChangeSpec := { name := "lexerCovers", fn := fun _ => fun
  | [d] => { results := [.lit (.bool false)], args := [d] }
  | _ => none }
def LexerCoversWrongFalsely : Prop := lexerCoversRow.holds Try.pinned (OpenSpec.ofChange lexerCoversWrong)

/-- 'jobshelllaw07.LexerLines': WHATEVER THE INPUT: true; the input reads as it did. -/
def lexerLinesSpec : ChangeSpec := { name := "lexerLines", fn := fun _ => fun
  | [d1, d2] => { results := [.lit (.bool true)], args := [d1, d2] }
  | _ => none }
def lexerLinesRow : OpenClaim := { program := "ytikolicdgkckeaa", sum := "6bf039652d7e088aca670fd4fddf191b3d9a3c87b37aeaf7543db07ed3054c78", func := "jobshell/jobshelllaw07.LexerLines", spec := "lexerLines", inPlace := ["internal/bytealg.IndexByteString"], recurses := true, apart := false }
def LexerLinesSaid : Prop := lexerLinesRow.holds Try.pinned (OpenSpec.ofChange lexerLinesSpec)

/-- ITS FALSE NEIGHBOUR: 'it returns false'. Refute it at one input. -/
def lexerLinesWrong : ChangeSpec := { name := "lexerLines", fn := fun _ => fun
  | [d1, d2] => { results := [.lit (.bool false)], args := [d1, d2] }
  | _ => none }
def LexerLinesWrongFalsely : Prop := lexerLinesRow.holds Try.pinned (OpenSpec.ofChange lexerLinesWrong)

/-- 'jobshelllaw07.LexerQuoted': WHATEVER THE INPUT: true; the input reads as it did. -/
def lexerQuotedSpec : ChangeSpec := { name := "lexerQuoted", fn := fun _ => fun
  | [d] => { results := [.lit (.bool true)], args := [d] }
  | _ => none }
def lexerQuotedRow : OpenClaim := { program := "ytikolicdgkckeaa", sum := "6bf039652d7e088aca670fd4fddf191b3d9a3c87b37aeaf7543db07ed3054c78", func := "jobshell/jobshelllaw07.LexerQuoted", spec := "lexerQuoted", inPlace := ["internal/bytealg.IndexByteString"], recurses := true, apart := false }
def LexerQuotedSaid : Prop := lexerQuotedRow.holds Try.pinned (OpenSpec.ofChange lexerQuotedSpec)

/-- ITS FALSE NEIGHBOUR: 'it returns false'. Refute it at one input. -/
def lexerQuotedWrong : ChangeSpec := { name := "lexerQuoted", fn := fun _ => fun
  | [d] => { results := [.lit (.bool false)], args := [d] }
  | _ => none }
def LexerQuotedWrongFalsely : Prop := lexerQuotedRow.holds Try.pinned (OpenSpec.ofChange lexerQuotedWrong)

/- THE SECOND FORM. 'bulk': how many values and letters a reading holds, each counted each time it is reached (what is shared counts as often as it is met; a slice's spare places count too). A statement '..UptoSaid' is the law's where the arguments, and the package variables that the reading takes, are together of bulk at most 1048576: NARROWER than '..Said'. Prove '..Said' where nothing that the law and all that it calls make is longer than what came in: it says more and counts as full. Else prove '..UptoSaid'. A law counts once. -/
mutual
def uptoBulk {H : Type} : DataW H → Nat
  | .lit (.string bytes) => bytes.length + 1
  | .lit _ => 1
  | .nil => 1
  | .ptr d => uptoBulk d + 1
  | .slice elems spare => uptoBulkAll elems + uptoBulkAll spare + 1
  | .agg parts => uptoBulkAll parts + 1
  | .iface _ d => uptoBulk d + 1
  | .map entries => uptoBulkEntries entries + 1
  | .held _ => 1
def uptoBulkAll {H : Type} : List (DataW H) → Nat
  | [] => 0
  | d :: r => uptoBulk d + uptoBulkAll r
def uptoBulkEntries {H : Type} : List (Lit × DataW H) → Nat
  | [] => 0
  | x :: r => uptoBulkEntry x + uptoBulkEntries r
def uptoBulkEntry {H : Type} : Lit × DataW H → Nat
  | (.string bytes, d) => bytes.length + uptoBulk d + 1
  | (_, d) => uptoBulk d + 1
 end
def uptoSmall : (H : Type) → List (DataW H) → Bool := fun _ ds => decide (uptoBulkAll ds ≤ 1048576)
def OpenSpec.upto (s : _root_.Go.ChangeSpec) : _root_.Go.OpenSpec := { _root_.Go.OpenSpec.ofChange s with cond := some uptoSmall }

/-- 'jobshelllaw07.LexerKinds', WHERE WHAT IT READS IS OF BULK AT MOST 1048576: true; the input reads as it did. -/
def lexerKindsUptoRow : OpenClaim := { program := "ytikolicdgkckeaa", sum := "6bf039652d7e088aca670fd4fddf191b3d9a3c87b37aeaf7543db07ed3054c78", func := "jobshell/jobshelllaw07.LexerKinds", spec := "lexerKinds", inPlace := ["internal/bytealg.IndexByteString"], recurses := true, apart := false, narrowed := true }
def LexerKindsUptoSaid : Prop := lexerKindsUptoRow.holds Try.pinned (OpenSpec.upto lexerKindsSpec)

/-- 'jobshelllaw07.LexerSkips', WHERE WHAT IT READS IS OF BULK AT MOST 1048576: true; the input reads as it did. -/
def lexerSkipsUptoRow : OpenClaim := { program := "ytikolicdgkckeaa", sum := "6bf039652d7e088aca670fd4fddf191b3d9a3c87b37aeaf7543db07ed3054c78", func := "jobshell/jobshelllaw07.LexerSkips", spec := "lexerSkips", inPlace := ["internal/bytealg.IndexByteString"], recurses := true, apart := false, narrowed := true }
def LexerSkipsUptoSaid : Prop := lexerSkipsUptoRow.holds Try.pinned (OpenSpec.upto lexerSkipsSpec)

/-- 'jobshelllaw07.LexerCloses', WHERE WHAT IT READS IS OF BULK AT MOST 1048576: true; the input reads as it did. -/
def lexerClosesUptoRow : OpenClaim := { program := "ytikolicdgkckeaa", sum := "6bf039652d7e088aca670fd4fddf191b3d9a3c87b37aeaf7543db07ed3054c78", func := "jobshell/jobshelllaw07.LexerCloses", spec := "lexerCloses", inPlace := ["internal/bytealg.IndexByteString"], recurses := true, apart := false, narrowed := true }
def LexerClosesUptoSaid : Prop := lexerClosesUptoRow.holds Try.pinned (OpenSpec.upto lexerClosesSpec)

/-- 'jobshelllaw07.LexerNexts', WHERE WHAT IT READS IS OF BULK AT MOST 1048576: true; the input reads as it did. -/
def lexerNextsUptoRow : OpenClaim := { program := "ytikolicdgkckeaa", sum := "6bf039652d7e088aca670fd4fddf191b3d9a3c87b37aeaf7543db07ed3054c78", func := "jobshell/jobshelllaw07.LexerNexts", spec := "lexerNexts", inPlace := ["internal/bytealg.IndexByteString"], recurses := true, apart := false, narrowed := true }
def LexerNextsUptoSaid : Prop := lexerNextsUptoRow.holds Try.pinned (OpenSpec.upto lexerNextsSpec)

/-- 'jobshelllaw07.LexerAll', WHERE WHAT IT READS IS OF BULK AT MOST 1048576: true; the input reads as it did. -/
def lexerAllUptoRow : OpenClaim := { program := "ytikolicdgkckeaa", sum := "6bf039652d7e088aca670fd4fddf191b3d9a3c87b37aeaf7543db07ed3054c78", func := "jobshell/jobshelllaw07.LexerAll", spec := "lexerAll", inPlace := ["internal/bytealg.IndexByteString"], recurses := true, apart := false, narrowed := true }
def LexerAllUptoSaid : Prop := lexerAllUptoRow.holds Try.pinned (OpenSpec.upto lexerAllSpec)

/-- 'jobshelllaw07.LexerLong', WHERE WHAT IT READS IS OF BULK AT MOST 1048576: true; the input reads as it did. -/
def lexerLongUptoRow : OpenClaim := { program := "ytikolicdgkckeaa", sum := "6bf039652d7e088aca670fd4fddf191b3d9a3c87b37aeaf7543db07ed3054c78", func := "jobshell/jobshelllaw07.LexerLong", spec := "lexerLong", inPlace := ["internal/bytealg.IndexByteString"], recurses := true, apart := false, narrowed := true }
def LexerLongUptoSaid : Prop := lexerLongUptoRow.holds Try.pinned (OpenSpec.upto lexerLongSpec)

/-- 'jobshelllaw07.LexerCovers', WHERE WHAT IT READS IS OF BULK AT MOST 1048576: true; the input reads as it did. -/
def lexerCoversUptoRow : OpenClaim := { program := "ytikolicdgkckeaa", sum := "6bf039652d7e088aca670fd4fddf191b3d9a3c87b37aeaf7543db07ed3054c78", func := "jobshell/jobshelllaw07.LexerCovers", spec := "lexerCovers", inPlace := ["internal/bytealg.IndexByteString"], recurses := true, apart := false, narrowed := true }
def LexerCoversUptoSaid : Prop := lexerCoversUptoRow.holds Try.pinned (OpenSpec.upto lexerCoversSpec)

/-- 'jobshelllaw07.LexerLines', WHERE WHAT IT READS IS OF BULK AT MOST 1048576: true; the input reads as it did. -/
def lexerLinesUptoRow : OpenClaim := { program := "ytikolicdgkckeaa", sum := "6bf039652d7e088aca670fd4fddf191b3d9a3c87b37aeaf7543db07ed3054c78", func := "jobshell/jobshelllaw07.LexerLines", spec := "lexerLines", inPlace := ["internal/bytealg.IndexByteString"], recurses := true, apart := false, narrowed := true }
def LexerLinesUptoSaid : Prop := lexerLinesUptoRow.holds Try.pinned (OpenSpec.upto lexerLinesSpec)

/-- 'jobshelllaw07.LexerQuoted', WHERE WHAT IT READS IS OF BULK AT MOST 1048576: true; the input reads as it did. -/
def lexerQuotedUptoRow : OpenClaim := { program := "ytikolicdgkckeaa", sum := "6bf039652d7e088aca670fd4fddf191b3d9a3c87b37aeaf7543db07ed3054c78", func := "jobshell/jobshelllaw07.LexerQuoted", spec := "lexerQuoted", inPlace := ["internal/bytealg.IndexByteString"], recurses := true, apart := false, narrowed := true }
def LexerQuotedUptoSaid : Prop := lexerQuotedUptoRow.holds Try.pinned (OpenSpec.upto lexerQuotedSpec)

end Rows
end Go.Proofs.Ytikolicdgkckeaa
