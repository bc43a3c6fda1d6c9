/-
  No cell of these rows narrows 'for every input' (looked for: loops, veiled, ifaces, maps, wideKeys, modest, calm, conditions, laid).
  DERIVED. THE GIVEN ROWS OF THIS SEAT. 5 by the template 'for every input the law returns true; each argument reads behind the call as it read before'; 0 by the template 'total and deterministic' (their statements: YtdjclejjabpdcaaTotals.lean).
  GIVEN WITH THE SEED: the statements are not yours to turn. If you find one false, say at which input.
  Laid BY PROGRAM, IN A SANDBOX (cutbox-rows.mjs): the forced cells as the released guide's own fill.sh prints them over the translation 39d52826a7a18312… (all of the seat's roots in one cut). By AI agents, Wed Nov 11 2026. No macro, syntax, notation, axiom, sorry.
-/
import Derived.Test.YtdjclejjabpdcaaChecked
import GoSem.Claim
import GoSem.ClaimJoined
import GoSem.ClaimMapViews
import Derived.JoinedTies
import Derived.KernelRfl
namespace Go.Proofs.Ytdjclejjabpdcaa
/- THE CELL 'sum', in the pinned program and in every row, IS THE sha256 OF THE DUMP (.gsa) THAT YtdjclejjabpdcaaProg.lean LOADS. Nothing in Lean hashes anything: it is a label: what it is worth is what the hold of that sum in a sandbox is worth. -/
noncomputable def Try.pinned : Pinned := { name := "ytdjclejjabpdcaa", sum := "39d52826a7a18312dae04ab7679aba08001015d23ffbb718bc027ff989bff36a", checked := Try.checked }
namespace Rows
def none {H : Type} : Left H := { results := [], args := [] }

/-- 'jobshelllaw32.SchedValid': WHATEVER THE INPUT: true; the input reads as it did. -/
def schedValidSpec : ChangeSpec := { name := "schedValid", fn := fun _ => fun
  | [d1, d2] => { results := [.lit (.bool true)], args := [d1, d2] }
  | _ => none }
def schedValidRow : OpenClaim := { program := "ytdjclejjabpdcaa", sum := "39d52826a7a18312dae04ab7679aba08001015d23ffbb718bc027ff989bff36a", func := "jobshell/jobshelllaw32.SchedValid", spec := "schedValid", apart := false }
def SchedValidSaid : Prop := schedValidRow.holds Try.pinned (OpenSpec.ofChange schedValidSpec)

/-- ITS FALSE NEIGHBOUR: 'it returns false'. Refute it at one input. -/
def schedValidWrong : ChangeSpec := { name := "schedValid", fn := fun _ => fun
  | [d1, d2] => { results := [.lit (.bool false)], args := [d1, d2] }
  | _ => none }
def SchedValidWrongFalsely : Prop := schedValidRow.holds Try.pinned (OpenSpec.ofChange schedValidWrong)

/-- 'jobshelllaw32.SchedPicks': WHATEVER THE INPUT: true; the input reads as it did. -/
def schedPicksSpec : ChangeSpec := { name := "schedPicks", fn := fun _ => fun
  | [d1, d2] => { results := [.lit (.bool true)], args := [d1, d2] }
  | _ => none }
def schedPicksRow : OpenClaim := { program := "ytdjclejjabpdcaa", sum := "39d52826a7a18312dae04ab7679aba08001015d23ffbb718bc027ff989bff36a", func := "jobshell/jobshelllaw32.SchedPicks", spec := "schedPicks", apart := false }
def SchedPicksSaid : Prop := schedPicksRow.holds Try.pinned (OpenSpec.ofChange schedPicksSpec)

/-- ITS FALSE NEIGHBOUR: 'it returns false'. Refute it at one input. -/
def schedPicksWrong : ChangeSpec := { name := "schedPicks", fn := fun _ => fun
  | [d1, d2] => { results := [.lit (.bool false)], args := [d1, d2] }
  | _ => none }
def SchedPicksWrongFalsely : Prop := schedPicksRow.holds Try.pinned (OpenSpec.ofChange schedPicksWrong)

/-- 'jobshelllaw32.SchedStays': WHATEVER THE INPUT: true; the input reads as it did. -/
def schedStaysSpec : ChangeSpec := { name := "schedStays", fn := fun _ => fun
  | [d1, d2, d3] => { results := [.lit (.bool true)], args := [d1, d2, d3] }
  | _ => none }
def schedStaysRow : OpenClaim := { program := "ytdjclejjabpdcaa", sum := "39d52826a7a18312dae04ab7679aba08001015d23ffbb718bc027ff989bff36a", func := "jobshell/jobshelllaw32.SchedStays", spec := "schedStays", apart := false }
def SchedStaysSaid : Prop := schedStaysRow.holds Try.pinned (OpenSpec.ofChange schedStaysSpec)

/-- ITS FALSE NEIGHBOUR: 'it returns false'. Refute it at one input. -/
def schedStaysWrong : ChangeSpec := { name := "schedStays", fn := fun _ => fun
  | [d1, d2, d3] => { results := [.lit (.bool false)], args := [d1, d2, d3] }
  | _ => none }
def SchedStaysWrongFalsely : Prop := schedStaysRow.holds Try.pinned (OpenSpec.ofChange schedStaysWrong)

/-- 'jobshelllaw32.SchedFair': WHATEVER THE INPUT: true; the input reads as it did. -/
def schedFairSpec : ChangeSpec := { name := "schedFair", fn := fun _ => fun
  | [d1, d2] => { results := [.lit (.bool true)], args := [d1, d2] }
  | _ => none }
def schedFairRow : OpenClaim := { program := "ytdjclejjabpdcaa", sum := "39d52826a7a18312dae04ab7679aba08001015d23ffbb718bc027ff989bff36a", func := "jobshell/jobshelllaw32.SchedFair", spec := "schedFair", apart := false }
def SchedFairSaid : Prop := schedFairRow.holds Try.pinned (OpenSpec.ofChange schedFairSpec)

/-- ITS FALSE NEIGHBOUR: 'it returns false'. Refute it at one input. -/
def schedFairWrong : ChangeSpec := { name := "schedFair", fn := fun _ => fun
  | [d1, d2] => { results := [.lit (.bool false)], args := [d1, d2] }
  | _ => none }
def SchedFairWrongFalsely : Prop := schedFairRow.holds Try.pinned (OpenSpec.ofChange schedFairWrong)

/-- 'jobshelllaw32.SchedBegins': WHATEVER THE INPUT: true; the input reads as it did. -/
def schedBeginsSpec : ChangeSpec := { name := "schedBegins", fn := fun _ => fun
  | [d1, d2, d3, d4] => { results := [.lit (.bool true)], args := [d1, d2, d3, d4] }
  | _ => none }
def schedBeginsRow : OpenClaim := { program := "ytdjclejjabpdcaa", sum := "39d52826a7a18312dae04ab7679aba08001015d23ffbb718bc027ff989bff36a", func := "jobshell/jobshelllaw32.SchedBegins", spec := "schedBegins", apart := false }
def SchedBeginsSaid : Prop := schedBeginsRow.holds Try.pinned (OpenSpec.ofChange schedBeginsSpec)

/-- ITS FALSE NEIGHBOUR: 'it returns false'. Refute it at one input. -/
def schedBeginsWrong : ChangeSpec := { name := "schedBegins", fn := fun _ => fun
  | [d1, d2, d3, d4] => { results := [.lit (.bool false)], args := [d1, d2, d3, d4] }
  | _ => none }
def SchedBeginsWrongFalsely : Prop := schedBeginsRow.holds Try.pinned (OpenSpec.ofChange schedBeginsWrong)

/- THE SECOND FORM. 'bulk': how many values and letters a reading holds, each counted each time it is reached (what is shared counts as often as it is met; a slice's spare places count too). A statement '..UptoSaid' is the law's where the arguments, and the package variables that the reading takes, are together of bulk at most 1048576: NARROWER than '..Said'. Prove '..Said' where nothing that the law and all that it calls make is longer than what came in: it says more and counts as full. Else prove '..UptoSaid'. A law counts once. -/
mutual
def uptoBulk {H : Type} : DataW H → Nat
  | .lit (.string bytes) => bytes.length + 1
  | .lit _ => 1
  | .nil => 1
  | .ptr d => uptoBulk d + 1
  | .slice elems spare => uptoBulkAll elems + uptoBulkAll spare + 1
  | .agg parts => uptoBulkAll parts + 1
  | .iface _ d => uptoBulk d + 1
  | .map entries => uptoBulkEntries entries + 1
  | .held _ => 1
def uptoBulkAll {H : Type} : List (DataW H) → Nat
  | [] => 0
  | d :: r => uptoBulk d + uptoBulkAll r
def uptoBulkEntries {H : Type} : List (Lit × DataW H) → Nat
  | [] => 0
  | x :: r => uptoBulkEntry x + uptoBulkEntries r
def uptoBulkEntry {H : Type} : Lit × DataW H → Nat
  | (.string bytes, d) => bytes.length + uptoBulk d + 1
  | (_, d) => uptoBulk d + 1
 end
def uptoSmall : (H : Type) → List (DataW H) → Bool := fun _ ds => decide (uptoBulkAll ds ≤ 1048576)
def OpenSpec.upto (s : _root_.Go.ChangeSpec) : _root_.Go.OpenSpec := { _root_.Go.OpenSpec.ofChange s with cond := some uptoSmall }

/-- 'jobshelllaw32.SchedValid', WHERE WHAT IT READS IS OF BULK AT MOST 1048576: true; the input reads as it did. -/
def schedValidUptoRow : OpenClaim := { program := "ytdjclejjabpdcaa", sum := "39d52826a7a18312dae04ab7679aba08001015d23ffbb718bc027ff989bff36a", func := "jobshell/jobshelllaw32.SchedValid", spec := "schedValid", apart := false, narrowed := true }
def SchedValidUptoSaid : Prop := schedValidUptoRow.holds Try.pinned (OpenSpec.upto schedValidSpec)

/-- 'jobshelllaw32.SchedPicks', WHERE WHAT IT READS IS OF BULK AT MOST 1048576: true; the input reads as it did. -/
def schedPicksUptoRow : OpenClaim := { program := "ytdjclejjabpdcaa", sum := "39d52826a7a18312dae04ab7679aba08001015d23ffbb718bc027ff989bff36a", func := "jobshell/jobshelllaw32.SchedPicks", spec := "schedPicks", apart := false, narrowed := true }
def SchedPicksUptoSaid : Prop := schedPicksUptoRow.holds Try.pinned (OpenSpec.upto schedPicksSpec)

/-- 'jobshelllaw32.SchedStays', WHERE WHAT IT READS IS OF BULK AT MOST 1048576: true; the input reads as it did. -/
def schedStaysUptoRow : OpenClaim := { program := "ytdjclejjabpdcaa", sum := "39d52826a7a18312dae04ab7679aba08001015d23ffbb718bc027ff989bff36a", func := "jobshell/jobshelllaw32.SchedStays", spec := "schedStays", apart := false, narrowed := true }
def SchedStaysUptoSaid : Prop := schedStaysUptoRow.holds Try.pinned (OpenSpec.upto schedStaysSpec)

/-- 'jobshelllaw32.SchedFair', WHERE WHAT IT READS IS OF BULK AT MOST 1048576: true; the input reads as it did. -/
def schedFairUptoRow : OpenClaim := { program := "ytdjclejjabpdcaa", sum := "39d52826a7a18312dae04ab7679aba08001015d23ffbb718bc027ff989bff36a", func := "jobshell/jobshelllaw32.SchedFair", spec := "schedFair", apart := false, narrowed := true }
def SchedFairUptoSaid : Prop := schedFairUptoRow.holds Try.pinned (OpenSpec.upto schedFairSpec)

/-- 'jobshelllaw32.SchedBegins', WHERE WHAT IT READS IS OF BULK AT MOST 1048576: true; the input reads as it did. -/
def schedBeginsUptoRow : OpenClaim := { program := "ytdjclejjabpdcaa", sum := "39d52826a7a18312dae04ab7679aba08001015d23ffbb718bc027ff989bff36a", func := "jobshell/jobshelllaw32.SchedBegins", spec := "schedBegins", apart := false, narrowed := true }
def SchedBeginsUptoSaid : Prop := schedBeginsUptoRow.holds Try.pinned (OpenSpec.upto schedBeginsSpec)

end Rows
end Go.Proofs.Ytdjclejjabpdcaa
