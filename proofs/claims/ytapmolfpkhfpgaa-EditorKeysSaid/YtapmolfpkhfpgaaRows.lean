/-
  No cell of these rows narrows 'for every input' (looked for: loops, veiled, ifaces, maps, wideKeys, modest, calm, conditions, laid).
  DERIVED. THE GIVEN ROWS OF THIS SEAT. 6 by the template 'for every input the law returns true; each argument reads behind the call as it read before'; 0 by the template 'total and deterministic' (their statements: YtapmolfpkhfpgaaTotals.lean).
  GIVEN WITH THE SEED: the statements are not yours to turn. If you find one false, say at which input.
  Laid BY PROGRAM, IN A SANDBOX (cutbox-rows.mjs): the forced cells as the released guide's own fill.sh prints them over the translation 7915d3fdadcf4b48… (all of the seat's roots in one cut). By AI agents, Wed Nov 11 2026. No macro, syntax, notation, axiom, sorry.
-/
import Derived.Test.YtapmolfpkhfpgaaChecked
import GoSem.Claim
import GoSem.ClaimJoined
import GoSem.ClaimMapViews
import Derived.JoinedTies
import Derived.KernelRfl
namespace Go.Proofs.Ytapmolfpkhfpgaa
/- THE CELL 'sum', in the pinned program and in every row, IS THE sha256 OF THE DUMP (.gsa) THAT YtapmolfpkhfpgaaProg.lean LOADS. Nothing in Lean hashes anything: it is a label: what it is worth is what the hold of that sum in a sandbox is worth. -/
noncomputable def Try.pinned : Pinned := { name := "ytapmolfpkhfpgaa", sum := "7915d3fdadcf4b48d68222d81450846ba2ec82fbc15867f41e6f4ce42dc789bc", checked := Try.checked }
namespace Rows
def none {H : Type} : Left H := { results := [], args := [] }

/-- 'jobshelllaw46.EditorValids': WHATEVER THE INPUT: true; the input reads as it did. -/
def editorValidsSpec : ChangeSpec := { name := "editorValids", fn := fun _ => fun
  | [d] => { results := [.lit (.bool true)], args := [d] }
  | _ => none }
def editorValidsRow : OpenClaim := { program := "ytapmolfpkhfpgaa", sum := "7915d3fdadcf4b48d68222d81450846ba2ec82fbc15867f41e6f4ce42dc789bc", func := "jobshell/jobshelllaw46.EditorValids", spec := "editorValids", inPlace := ["slices.overlaps[string]"], apart := false }
def EditorValidsSaid : Prop := editorValidsRow.holds Try.pinned (OpenSpec.ofChange editorValidsSpec)

/-- ITS FALSE NEIGHBOUR: 'it returns false'. Refute it at one input. -/
def editorValidsWrong : ChangeSpec := { name := "editorValids", fn := fun _ => fun
  | [d] => { results := [.lit (.bool false)], args := [d] }
  | _ => none }
def EditorValidsWrongFalsely : Prop := editorValidsRow.holds Try.pinned (OpenSpec.ofChange editorValidsWrong)

/-- 'jobshelllaw46.EditorDoes': WHATEVER THE INPUT: true; the input reads as it did. -/
def editorDoesSpec : ChangeSpec := { name := "editorDoes", fn := fun _ => fun
  | [d1, d2, d3] => { results := [.lit (.bool true)], args := [d1, d2, d3] }
  | _ => none }
def editorDoesRow : OpenClaim := { program := "ytapmolfpkhfpgaa", sum := "7915d3fdadcf4b48d68222d81450846ba2ec82fbc15867f41e6f4ce42dc789bc", func := "jobshell/jobshelllaw46.EditorDoes", spec := "editorDoes", inPlace := ["slices.overlaps[string]"], apart := false }
def EditorDoesSaid : Prop := editorDoesRow.holds Try.pinned (OpenSpec.ofChange editorDoesSpec)

/-- ITS FALSE NEIGHBOUR: 'it returns false'. Refute it at one input. -/
def editorDoesWrong : ChangeSpec := { name := "editorDoes", fn := fun _ => fun
  | [d1, d2, d3] => { results := [.lit (.bool false)], args := [d1, d2, d3] }
  | _ => none }
def EditorDoesWrongFalsely : Prop := editorDoesRow.holds Try.pinned (OpenSpec.ofChange editorDoesWrong)

/-- 'jobshelllaw46.EditorKeys': WHATEVER THE INPUT: true; the input reads as it did. -/
def editorKeysSpec : ChangeSpec := { name := "editorKeys", fn := fun _ => fun
  | [d1, d2, d3] => { results := [.lit (.bool true)], args := [d1, d2, d3] }
  | _ => none }
def editorKeysRow : OpenClaim := { program := "ytapmolfpkhfpgaa", sum := "7915d3fdadcf4b48d68222d81450846ba2ec82fbc15867f41e6f4ce42dc789bc", func := "jobshell/jobshelllaw46.EditorKeys", spec := "editorKeys", inPlace := ["slices.overlaps[string]"], apart := false }
def EditorKeysSaid : Prop := editorKeysRow.holds Try.pinned (OpenSpec.ofChange editorKeysSpec)

/-- ITS FALSE NEIGHBOUR: 'it returns false'. Refute it at one input. -/
def editorKeysWrong : ChangeSpec := { name := "editorKeys", fn := fun _ => fun
  | [d1, d2, d3] => { results := [.lit (.bool false)], args := [d1, d2, d3] }
  | _ => none }
def EditorKeysWrongFalsely : Prop := editorKeysRow.holds Try.pinned (OpenSpec.ofChange editorKeysWrong)

/-- 'jobshelllaw46.EditorRuns': WHATEVER THE INPUT: true; the input reads as it did. -/
def editorRunsSpec : ChangeSpec := { name := "editorRuns", fn := fun _ => fun
  | [d1, d2] => { results := [.lit (.bool true)], args := [d1, d2] }
  | _ => none }
def editorRunsRow : OpenClaim := { program := "ytapmolfpkhfpgaa", sum := "7915d3fdadcf4b48d68222d81450846ba2ec82fbc15867f41e6f4ce42dc789bc", func := "jobshell/jobshelllaw46.EditorRuns", spec := "editorRuns", inPlace := ["slices.overlaps[string]"], apart := false }
def EditorRunsSaid : Prop := editorRunsRow.holds Try.pinned (OpenSpec.ofChange editorRunsSpec)

/-- ITS FALSE NEIGHBOUR: 'it returns false'. Refute it at one input. -/
def editorRunsWrong : ChangeSpec := { name := "editorRuns", fn := fun _ => fun
  | [d1, d2] => { results := [.lit (.bool false)], args := [d1, d2] }
  | _ => none }
def EditorRunsWrongFalsely : Prop := editorRunsRow.holds Try.pinned (OpenSpec.ofChange editorRunsWrong)

/-- 'jobshelllaw46.EditorUndoes': WHATEVER THE INPUT: true; the input reads as it did. -/
def editorUndoesSpec : ChangeSpec := { name := "editorUndoes", fn := fun _ => fun
  | [d1, d2, d3] => { results := [.lit (.bool true)], args := [d1, d2, d3] }
  | _ => none }
def editorUndoesRow : OpenClaim := { program := "ytapmolfpkhfpgaa", sum := "7915d3fdadcf4b48d68222d81450846ba2ec82fbc15867f41e6f4ce42dc789bc", func := "jobshell/jobshelllaw46.EditorUndoes", spec := "editorUndoes", inPlace := ["slices.overlaps[string]"], apart := false }
def EditorUndoesSaid : Prop := editorUndoesRow.holds Try.pinned (OpenSpec.ofChange editorUndoesSpec)

/-- ITS FALSE NEIGHBOUR: 'it returns false'. Refute it at one input. -/
def editorUndoesWrong : ChangeSpec := { name := "editorUndoes", fn := fun _ => fun
  | [d1, d2, d3] => { results := [.lit (.bool false)], args := [d1, d2, d3] }
  | _ => none }
def EditorUndoesWrongFalsely : Prop := editorUndoesRow.holds Try.pinned (OpenSpec.ofChange editorUndoesWrong)

/-- 'jobshelllaw46.EditorHistory': WHATEVER THE INPUT: true; the input reads as it did. -/
def editorHistorySpec : ChangeSpec := { name := "editorHistory", fn := fun _ => fun
  | [d1, d2] => { results := [.lit (.bool true)], args := [d1, d2] }
  | _ => none }
def editorHistoryRow : OpenClaim := { program := "ytapmolfpkhfpgaa", sum := "7915d3fdadcf4b48d68222d81450846ba2ec82fbc15867f41e6f4ce42dc789bc", func := "jobshell/jobshelllaw46.EditorHistory", spec := "editorHistory", inPlace := ["slices.overlaps[string]"], apart := false }
def EditorHistorySaid : Prop := editorHistoryRow.holds Try.pinned (OpenSpec.ofChange editorHistorySpec)

/-- ITS FALSE NEIGHBOUR: 'it returns false'. Refute it at one input. -/
def editorHistoryWrong : ChangeSpec := { name := "editorHistory", fn := fun _ => fun
  | [d1, d2] => { results := [.lit (.bool false)], args := [d1, d2] }
  | _ => none }
def EditorHistoryWrongFalsely : Prop := editorHistoryRow.holds Try.pinned (OpenSpec.ofChange editorHistoryWrong)

/- THE SECOND FORM. 'bulk': how many values and letters a reading holds, each counted each time it is reached (what is shared counts as often as it is met; a slice's spare places count too). A statement '..UptoSaid' is the law's where the arguments, and the package variables that the reading takes, are together of bulk at most 1048576: NARROWER than '..Said'. Prove '..Said' where nothing that the law and all that it calls make is longer than what came in: it says more and counts as full. Else prove '..UptoSaid'. A law counts once. -/
mutual
def uptoBulk {H : Type} : DataW H → Nat
  | .lit (.string bytes) => bytes.length + 1
  | .lit _ => 1
  | .nil => 1
  | .ptr d => uptoBulk d + 1
  | .slice elems spare => uptoBulkAll elems + uptoBulkAll spare + 1
  | .agg parts => uptoBulkAll parts + 1
  | .iface _ d => uptoBulk d + 1
  | .map entries => uptoBulkEntries entries + 1
  | .held _ => 1
def uptoBulkAll {H : Type} : List (DataW H) → Nat
  | [] => 0
  | d :: r => uptoBulk d + uptoBulkAll r
def uptoBulkEntries {H : Type} : List (Lit × DataW H) → Nat
  | [] => 0
  | x :: r => uptoBulkEntry x + uptoBulkEntries r
def uptoBulkEntry {H : Type} : Lit × DataW H → Nat
  | (.string bytes, d) => bytes.length + uptoBulk d + 1
  | (_, d) => uptoBulk d + 1
 end
def uptoSmall : (H : Type) → List (DataW H) → Bool := fun _ ds => decide (uptoBulkAll ds ≤ 1048576)
def OpenSpec.upto (s : _root_.Go.ChangeSpec) : _root_.Go.OpenSpec := { _root_.Go.OpenSpec.ofChange s with cond := some uptoSmall }

/-- 'jobshelllaw46.EditorValids', WHERE WHAT IT READS IS OF BULK AT MOST 1048576: true; the input reads as it did. -/
def editorValidsUptoRow : OpenClaim := { program := "ytapmolfpkhfpgaa", sum := "7915d3fdadcf4b48d68222d81450846ba2ec82fbc15867f41e6f4ce42dc789bc", func := "jobshell/jobshelllaw46.EditorValids", spec := "editorValids", inPlace := ["slices.overlaps[string]"], apart := false, narrowed := true }
def EditorValidsUptoSaid : Prop := editorValidsUptoRow.holds Try.pinned (OpenSpec.upto editorValidsSpec)

/-- 'jobshelllaw46.EditorDoes', WHERE WHAT IT READS IS OF BULK AT MOST 1048576: true; the input reads as it did. -/
def editorDoesUptoRow : OpenClaim := { program := "ytapmolfpkhfpgaa", sum := "7915d3fdadcf4b48d68222d81450846ba2ec82fbc15867f41e6f4ce42dc789bc", func := "jobshell/jobshelllaw46.EditorDoes", spec := "editorDoes", inPlace := ["slices.overlaps[string]"], apart := false, narrowed := true }
def EditorDoesUptoSaid : Prop := editorDoesUptoRow.holds Try.pinned (OpenSpec.upto editorDoesSpec)

/-- 'jobshelllaw46.EditorKeys', WHERE WHAT IT READS IS OF BULK AT MOST 1048576: true; the input reads as it did. -/
def editorKeysUptoRow : OpenClaim := { program := "ytapmolfpkhfpgaa", sum := "7915d3fdadcf4b48d68222d81450846ba2ec82fbc15867f41e6f4ce42dc789bc", func := "jobshell/jobshelllaw46.EditorKeys", spec := "editorKeys", inPlace := ["slices.overlaps[string]"], apart := false, narrowed := true }
def EditorKeysUptoSaid : Prop := editorKeysUptoRow.holds Try.pinned (OpenSpec.upto editorKeysSpec)

/-- 'jobshelllaw46.EditorRuns', WHERE WHAT IT READS IS OF BULK AT MOST 1048576: true; the input reads as it did. -/
def editorRunsUptoRow : OpenClaim := { program := "ytapmolfpkhfpgaa", sum := "7915d3fdadcf4b48d68222d81450846ba2ec82fbc15867f41e6f4ce42dc789bc", func := "jobshell/jobshelllaw46.EditorRuns", spec := "editorRuns", inPlace := ["slices.overlaps[string]"], apart := false, narrowed := true }
def EditorRunsUptoSaid : Prop := editorRunsUptoRow.holds Try.pinned (OpenSpec.upto editorRunsSpec)

/-- 'jobshelllaw46.EditorUndoes', WHERE WHAT IT READS IS OF BULK AT MOST 1048576: true; the input reads as it did. -/
def editorUndoesUptoRow : OpenClaim := { program := "ytapmolfpkhfpgaa", sum := "7915d3fdadcf4b48d68222d81450846ba2ec82fbc15867f41e6f4ce42dc789bc", func := "jobshell/jobshelllaw46.EditorUndoes", spec := "editorUndoes", inPlace := ["slices.overlaps[string]"], apart := false, narrowed := true }
def EditorUndoesUptoSaid : Prop := editorUndoesUptoRow.holds Try.pinned (OpenSpec.upto editorUndoesSpec)

/-- 'jobshelllaw46.EditorHistory', WHERE WHAT IT READS IS OF BULK AT MOST 1048576: true; the input reads as it did. -/
def editorHistoryUptoRow : OpenClaim := { program := "ytapmolfpkhfpgaa", sum := "7915d3fdadcf4b48d68222d81450846ba2ec82fbc15867f41e6f4ce42dc789bc", func := "jobshell/jobshelllaw46.EditorHistory", spec := "editorHistory", inPlace := ["slices.overlaps[string]"], apart := false, narrowed := true }
def EditorHistoryUptoSaid : Prop := editorHistoryUptoRow.holds Try.pinned (OpenSpec.upto editorHistorySpec)

end Rows
end Go.Proofs.Ytapmolfpkhfpgaa
