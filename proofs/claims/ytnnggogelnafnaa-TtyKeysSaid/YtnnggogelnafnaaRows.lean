/-
  No cell of these rows narrows 'for every input' (looked for: loops, veiled, ifaces, maps, wideKeys, modest, calm, conditions, laid).
  DERIVED. THE GIVEN ROWS OF THIS SEAT. 6 by the template 'for every input the law returns true; each argument reads behind the call as it read before'; 0 by the template 'total and deterministic' (their statements: YtnnggogelnafnaaTotals.lean).
  GIVEN WITH THE SEED: the statements are not yours to turn. If you find one false, say at which input.
  Laid BY PROGRAM, IN A SANDBOX (cutbox-rows.mjs): the forced cells as the released guide's own fill.sh prints them over the translation 7d59a7de67243d9b… (all of the seat's roots in one cut). By AI agents, Wed Nov 11 2026. No macro, syntax, notation, axiom, sorry.
-/
import Derived.Test.YtnnggogelnafnaaChecked
import GoSem.Claim
import GoSem.ClaimJoined
import GoSem.ClaimMapViews
import Derived.JoinedTies
import Derived.KernelRfl
namespace Go.Proofs.Ytnnggogelnafnaa
/- THE CELL 'sum', in the pinned program and in every row, IS THE sha256 OF THE DUMP (.gsa) THAT YtnnggogelnafnaaProg.lean LOADS. Nothing in Lean hashes anything: it is a label: what it is worth is what the hold of that sum in a sandbox is worth. -/
noncomputable def Try.pinned : Pinned := { name := "ytnnggogelnafnaa", sum := "7d59a7de67243d9bfc2a3291171894d69bcdfa2e24a7626181bc679c2000e5ed", checked := Try.checked }
namespace Rows
def none {H : Type} : Left H := { results := [], args := [] }

/-- 'jobshelllaw26.TtyReads': WHATEVER THE INPUT: true; the input reads as it did. -/
def ttyReadsSpec : ChangeSpec := { name := "ttyReads", fn := fun _ => fun
  | [d1, d2, d3] => { results := [.lit (.bool true)], args := [d1, d2, d3] }
  | _ => none }
def ttyReadsRow : OpenClaim := { program := "ytnnggogelnafnaa", sum := "7d59a7de67243d9bfc2a3291171894d69bcdfa2e24a7626181bc679c2000e5ed", func := "jobshell/jobshelllaw26.TtyReads", spec := "ttyReads", apart := false }
def TtyReadsSaid : Prop := ttyReadsRow.holds Try.pinned (OpenSpec.ofChange ttyReadsSpec)

/-- ITS FALSE NEIGHBOUR: 'it returns false'. Refute it at one input. -/
def ttyReadsWrong : ChangeSpec := { name := "ttyReads", fn := fun _ => fun
  | [d1, d2, d3] => { results := [.lit (.bool false)], args := [d1, d2, d3] }
  | _ => none }
def TtyReadsWrongFalsely : Prop := ttyReadsRow.holds Try.pinned (OpenSpec.ofChange ttyReadsWrong)

/-- 'jobshelllaw26.TtyTyped': WHATEVER THE INPUT: true; the input reads as it did. -/
def ttyTypedSpec : ChangeSpec := { name := "ttyTyped", fn := fun _ => fun
  | [d1, d2] => { results := [.lit (.bool true)], args := [d1, d2] }
  | _ => none }
def ttyTypedRow : OpenClaim := { program := "ytnnggogelnafnaa", sum := "7d59a7de67243d9bfc2a3291171894d69bcdfa2e24a7626181bc679c2000e5ed", func := "jobshell/jobshelllaw26.TtyTyped", spec := "ttyTyped", apart := false }
def TtyTypedSaid : Prop := ttyTypedRow.holds Try.pinned (OpenSpec.ofChange ttyTypedSpec)

/-- ITS FALSE NEIGHBOUR: 'it returns false'. Refute it at one input. -/
def ttyTypedWrong : ChangeSpec := { name := "ttyTyped", fn := fun _ => fun
  | [d1, d2] => { results := [.lit (.bool false)], args := [d1, d2] }
  | _ => none }
def TtyTypedWrongFalsely : Prop := ttyTypedRow.holds Try.pinned (OpenSpec.ofChange ttyTypedWrong)

/-- 'jobshelllaw26.TtyParts': WHATEVER THE INPUT: true; the input reads as it did. -/
def ttyPartsSpec : ChangeSpec := { name := "ttyParts", fn := fun _ => fun
  | [d1, d2, d3] => { results := [.lit (.bool true)], args := [d1, d2, d3] }
  | _ => none }
def ttyPartsRow : OpenClaim := { program := "ytnnggogelnafnaa", sum := "7d59a7de67243d9bfc2a3291171894d69bcdfa2e24a7626181bc679c2000e5ed", func := "jobshell/jobshelllaw26.TtyParts", spec := "ttyParts", apart := false }
def TtyPartsSaid : Prop := ttyPartsRow.holds Try.pinned (OpenSpec.ofChange ttyPartsSpec)

/-- ITS FALSE NEIGHBOUR: 'it returns false'. Refute it at one input. -/
def ttyPartsWrong : ChangeSpec := { name := "ttyParts", fn := fun _ => fun
  | [d1, d2, d3] => { results := [.lit (.bool false)], args := [d1, d2, d3] }
  | _ => none }
def TtyPartsWrongFalsely : Prop := ttyPartsRow.holds Try.pinned (OpenSpec.ofChange ttyPartsWrong)

/-- 'jobshelllaw26.TtyKeys': WHATEVER THE INPUT: true; the input reads as it did. -/
def ttyKeysSpec : ChangeSpec := { name := "ttyKeys", fn := fun _ => fun
  | [d1, d2, d3] => { results := [.lit (.bool true)], args := [d1, d2, d3] }
  | _ => none }
def ttyKeysRow : OpenClaim := { program := "ytnnggogelnafnaa", sum := "7d59a7de67243d9bfc2a3291171894d69bcdfa2e24a7626181bc679c2000e5ed", func := "jobshell/jobshelllaw26.TtyKeys", spec := "ttyKeys", apart := false }
def TtyKeysSaid : Prop := ttyKeysRow.holds Try.pinned (OpenSpec.ofChange ttyKeysSpec)

/-- ITS FALSE NEIGHBOUR: 'it returns false'. Refute it at one input. -/
def ttyKeysWrong : ChangeSpec := { name := "ttyKeys", fn := fun _ => fun
  | [d1, d2, d3] => { results := [.lit (.bool false)], args := [d1, d2, d3] }
  | _ => none }
def TtyKeysWrongFalsely : Prop := ttyKeysRow.holds Try.pinned (OpenSpec.ofChange ttyKeysWrong)

/-- 'jobshelllaw26.TtyValid': WHATEVER THE INPUT: true; the input reads as it did. -/
def ttyValidSpec : ChangeSpec := { name := "ttyValid", fn := fun _ => fun
  | [d] => { results := [.lit (.bool true)], args := [d] }
  | _ => none }
def ttyValidRow : OpenClaim := { program := "ytnnggogelnafnaa", sum := "7d59a7de67243d9bfc2a3291171894d69bcdfa2e24a7626181bc679c2000e5ed", func := "jobshell/jobshelllaw26.TtyValid", spec := "ttyValid", apart := false }
def TtyValidSaid : Prop := ttyValidRow.holds Try.pinned (OpenSpec.ofChange ttyValidSpec)

/-- ITS FALSE NEIGHBOUR: 'it returns false'. Refute it at one input. -/
def ttyValidWrong : ChangeSpec := { name := "ttyValid", fn := fun _ => fun
  | [d] => { results := [.lit (.bool false)], args := [d] }
  | _ => none }
def TtyValidWrongFalsely : Prop := ttyValidRow.holds Try.pinned (OpenSpec.ofChange ttyValidWrong)

/-- 'jobshelllaw26.TtyStays': WHATEVER THE INPUT: true; the input reads as it did. -/
def ttyStaysSpec : ChangeSpec := { name := "ttyStays", fn := fun _ => fun
  | [d] => { results := [.lit (.bool true)], args := [d] }
  | _ => none }
def ttyStaysRow : OpenClaim := { program := "ytnnggogelnafnaa", sum := "7d59a7de67243d9bfc2a3291171894d69bcdfa2e24a7626181bc679c2000e5ed", func := "jobshell/jobshelllaw26.TtyStays", spec := "ttyStays", apart := false }
def TtyStaysSaid : Prop := ttyStaysRow.holds Try.pinned (OpenSpec.ofChange ttyStaysSpec)

/-- ITS FALSE NEIGHBOUR: 'it returns false'. Refute it at one input. -/
def ttyStaysWrong : ChangeSpec := { name := "ttyStays", fn := fun _ => fun
  | [d] => { results := [.lit (.bool false)], args := [d] }
  | _ => none }
def TtyStaysWrongFalsely : Prop := ttyStaysRow.holds Try.pinned (OpenSpec.ofChange ttyStaysWrong)

/- THE SECOND FORM. 'bulk': how many values and letters a reading holds, each counted each time it is reached (what is shared counts as often as it is met; a slice's spare places count too). A statement '..UptoSaid' is the law's where the arguments, and the package variables that the reading takes, are together of bulk at most 1048576: NARROWER than '..Said'. Prove '..Said' where nothing that the law and all that it calls make is longer than what came in: it says more and counts as full. Else prove '..UptoSaid'. A law counts once. -/
mutual
def uptoBulk {H : Type} : DataW H → Nat
  | .lit (.string bytes) => bytes.length + 1
  | .lit _ => 1
  | .nil => 1
  | .ptr d => uptoBulk d + 1
  | .slice elems spare => uptoBulkAll elems + uptoBulkAll spare + 1
  | .agg parts => uptoBulkAll parts + 1
  | .iface _ d => uptoBulk d + 1
  | .map entries => uptoBulkEntries entries + 1
  | .held _ => 1
def uptoBulkAll {H : Type} : List (DataW H) → Nat
  | [] => 0
  | d :: r => uptoBulk d + uptoBulkAll r
def uptoBulkEntries {H : Type} : List (Lit × DataW H) → Nat
  | [] => 0
  | x :: r => uptoBulkEntry x + uptoBulkEntries r
def uptoBulkEntry {H : Type} : Lit × DataW H → Nat
  | (.string bytes, d) => bytes.length + uptoBulk d + 1
  | (_, d) => uptoBulk d + 1
 end
def uptoSmall : (H : Type) → List (DataW H) → Bool := fun _ ds => decide (uptoBulkAll ds ≤ 1048576)
def OpenSpec.upto (s : _root_.Go.ChangeSpec) : _root_.Go.OpenSpec := { _root_.Go.OpenSpec.ofChange s with cond := some uptoSmall }

/-- 'jobshelllaw26.TtyReads', WHERE WHAT IT READS IS OF BULK AT MOST 1048576: true; the input reads as it did. -/
def ttyReadsUptoRow : OpenClaim := { program := "ytnnggogelnafnaa", sum := "7d59a7de67243d9bfc2a3291171894d69bcdfa2e24a7626181bc679c2000e5ed", func := "jobshell/jobshelllaw26.TtyReads", spec := "ttyReads", apart := false, narrowed := true }
def TtyReadsUptoSaid : Prop := ttyReadsUptoRow.holds Try.pinned (OpenSpec.upto ttyReadsSpec)

/-- 'jobshelllaw26.TtyTyped', WHERE WHAT IT READS IS OF BULK AT MOST 1048576: true; the input reads as it did. -/
def ttyTypedUptoRow : OpenClaim := { program := "ytnnggogelnafnaa", sum := "7d59a7de67243d9bfc2a3291171894d69bcdfa2e24a7626181bc679c2000e5ed", func := "jobshell/jobshelllaw26.TtyTyped", spec := "ttyTyped", apart := false, narrowed := true }
def TtyTypedUptoSaid : Prop := ttyTypedUptoRow.holds Try.pinned (OpenSpec.upto ttyTypedSpec)

/-- 'jobshelllaw26.TtyParts', WHERE WHAT IT READS IS OF BULK AT MOST 1048576: true; the input reads as it did. -/
def ttyPartsUptoRow : OpenClaim := { program := "ytnnggogelnafnaa", sum := "7d59a7de67243d9bfc2a3291171894d69bcdfa2e24a7626181bc679c2000e5ed", func := "jobshell/jobshelllaw26.TtyParts", spec := "ttyParts", apart := false, narrowed := true }
def TtyPartsUptoSaid : Prop := ttyPartsUptoRow.holds Try.pinned (OpenSpec.upto ttyPartsSpec)

/-- 'jobshelllaw26.TtyKeys', WHERE WHAT IT READS IS OF BULK AT MOST 1048576: true; the input reads as it did. -/
def ttyKeysUptoRow : OpenClaim := { program := "ytnnggogelnafnaa", sum := "7d59a7de67243d9bfc2a3291171894d69bcdfa2e24a7626181bc679c2000e5ed", func := "jobshell/jobshelllaw26.TtyKeys", spec := "ttyKeys", apart := false, narrowed := true }
def TtyKeysUptoSaid : Prop := ttyKeysUptoRow.holds Try.pinned (OpenSpec.upto ttyKeysSpec)

/-- 'jobshelllaw26.TtyValid', WHERE WHAT IT READS IS OF BULK AT MOST 1048576: true; the input reads as it did. -/
def ttyValidUptoRow : OpenClaim := { program := "ytnnggogelnafnaa", sum := "7d59a7de67243d9bfc2a3291171894d69bcdfa2e24a7626181bc679c2000e5ed", func := "jobshell/jobshelllaw26.TtyValid", spec := "ttyValid", apart := false, narrowed := true }
def TtyValidUptoSaid : Prop := ttyValidUptoRow.holds Try.pinned (OpenSpec.upto ttyValidSpec)

/-- 'jobshelllaw26.TtyStays', WHERE WHAT IT READS IS OF BULK AT MOST 1048576: true; the input reads as it did. -/
def ttyStaysUptoRow : OpenClaim := { program := "ytnnggogelnafnaa", sum := "7d59a7de67243d9bfc2a3291171894d69bcdfa2e24a7626181bc679c2000e5ed", func := "jobshell/jobshelllaw26.TtyStays", spec := "ttyStays", apart := false, narrowed := true }
def TtyStaysUptoSaid : Prop := ttyStaysUptoRow.holds Try.pinned (OpenSpec.upto ttyStaysSpec)

end Rows
end Go.Proofs.Ytnnggogelnafnaa
