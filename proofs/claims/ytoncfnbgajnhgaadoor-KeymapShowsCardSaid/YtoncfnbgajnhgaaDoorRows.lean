/-
  NARROWER THAN 'FOR EVERY INPUT', by the rows' own cells (each row's printed sentence says how): KeymapParses: laid · KeymapShows: laid · KeymapDefaults: laid · KeymapValids: laid · KeymapBinds: laid · KeymapFinds: laid.
  DERIVED. THE GIVEN ROWS OF THIS SEAT. 6 by the template 'for every input the law returns true; each argument reads behind the call as it read before'; 0 by the template 'total and deterministic' (their statements: YtoncfnbgajnhgaaDoorTotals.lean).
  GIVEN WITH THE SEED: the statements are not yours to turn. If you find one false, say at which input.
  Laid BY PROGRAM, IN A SANDBOX (cutbox-rows.mjs): the forced cells as the released guide's own fill.sh prints them over the translation 57ae7746fb2c361e… (all of the seat's roots in one cut). By AI agents, Wed Nov 11 2026. No macro, syntax, notation, axiom, sorry.
-/
import Derived.Test.YtoncfnbgajnhgaaDoorChecked
import GoSem.Claim
import GoSem.ClaimJoined
import GoSem.ClaimMapViews
import Derived.JoinedTies
import Derived.KernelRfl
namespace Go.Proofs.YtoncfnbgajnhgaaDoor
/- THE CELL 'sum', in the pinned program and in every row, IS THE sha256 OF THE DUMP (.gsa) THAT YtoncfnbgajnhgaaDoorProg.lean LOADS. Nothing in Lean hashes anything: it is a label: what it is worth is what the hold of that sum in a sandbox is worth. -/
noncomputable def Tryd.pinned : Pinned := { name := "ytoncfnbgajnhgaadoor", sum := "57ae7746fb2c361e6c77e584b2c63ba21991147610f10a7853c131298d3a99f1", checked := Tryd.checked }
namespace Rows
def none {H : Type} : Left H := { results := [], args := [] }

/- WHAT THE LISTED PACKAGE-LEVEL VARIABLES READ AS WHEN THE CALL BEGINS. Each datum BY PROGRAM (the guide's laid-datum.mjs) off the statement by which the dump's own 'gosem.cut.vars' lays the variable. In a bare row this is a premise. The card (YtoncfnbgajnhgaaDoorCards.lean) ties it to the program's text. -/
def laid_jobshell_keymap_names {H : Type} : DataW H := .agg [.lit (.string []), .lit (.string [92, 67, 45, 97]), .lit (.string [92, 67, 45, 98]), .lit (.string [92, 67, 45, 99]), .lit (.string [92, 67, 45, 100]), .lit (.string [92, 67, 45, 101]), .lit (.string [92, 67, 45, 102]), .lit (.string [92, 67, 45, 103]), .lit (.string [92, 67, 45, 104]), .lit (.string [92, 116]), .lit (.string [92, 110]), .lit (.string [92, 67, 45, 107]), .lit (.string [92, 67, 45, 108]), .lit (.string [92, 67, 45, 109]), .lit (.string [92, 67, 45, 110]), .lit (.string [92, 67, 45, 111]), .lit (.string [92, 67, 45, 112]), .lit (.string [92, 67, 45, 113]), .lit (.string [92, 67, 45, 114]), .lit (.string [92, 67, 45, 115]), .lit (.string [92, 67, 45, 116]), .lit (.string [92, 67, 45, 117]), .lit (.string [92, 67, 45, 118]), .lit (.string [92, 67, 45, 119]), .lit (.string [92, 67, 45, 120]), .lit (.string [92, 67, 45, 121]), .lit (.string [92, 67, 45, 122]), .lit (.string [92, 101]), .lit (.string []), .lit (.string []), .lit (.string []), .lit (.string [])]

/-- 'jobshelllaw45.KeymapParses': WHATEVER THE INPUT: true; the input reads as it did. -/
def keymapParsesSpec : ChangeSpec := { name := "keymapParses", fn := fun _ => fun
  | [d] => { results := [.lit (.bool true)], args := [d] }
  | _ => none }
def keymapParsesRow : OpenClaim := { program := "ytoncfnbgajnhgaadoor", sum := "57ae7746fb2c361e6c77e584b2c63ba21991147610f10a7853c131298d3a99f1", func := "jobshell/jobshelllaw45.KeymapParses", spec := "keymapParses", inPlace := ["internal/bytealg.IndexByteString", "internal/bytealg.abigen_runtime_cmpstring", "slices.overlaps[jobshell/api.Bind]", "internal/abi.NoEscape"], unfollowed := true, recurses := true, named := ["jobshell/keymap.names"], apart := false, laid := [("jobshell/keymap.names", laid_jobshell_keymap_names)] }
def KeymapParsesSaid : Prop := keymapParsesRow.holds Tryd.pinned (OpenSpec.ofChange keymapParsesSpec)

/-- ITS FALSE NEIGHBOUR: 'it returns false'. Refute it at one input. -/
def keymapParsesWrong : ChangeSpec := { name := "keymapParses", fn := fun _ => fun
  | [d] => { results := [.lit (.bool false)], args := [d] }
  | _ => none }
def KeymapParsesWrongFalsely : Prop := keymapParsesRow.holds Tryd.pinned (OpenSpec.ofChange keymapParsesWrong)

/-- 'jobshelllaw45.KeymapShows': WHATEVER THE INPUT: true; the input reads as it did. -/
def keymapShowsSpec : ChangeSpec := { name := "keymapShows", fn := fun _ => fun
  | [d] => { results := [.lit (.bool true)], args := [d] }
  | _ => none }
def keymapShowsRow : OpenClaim := { program := "ytoncfnbgajnhgaadoor", sum := "57ae7746fb2c361e6c77e584b2c63ba21991147610f10a7853c131298d3a99f1", func := "jobshell/jobshelllaw45.KeymapShows", spec := "keymapShows", inPlace := ["internal/bytealg.IndexByteString", "internal/bytealg.abigen_runtime_cmpstring", "slices.overlaps[jobshell/api.Bind]", "internal/abi.NoEscape"], unfollowed := true, recurses := true, named := ["jobshell/keymap.names"], apart := false, laid := [("jobshell/keymap.names", laid_jobshell_keymap_names)] }
def KeymapShowsSaid : Prop := keymapShowsRow.holds Tryd.pinned (OpenSpec.ofChange keymapShowsSpec)

/-- ITS FALSE NEIGHBOUR: 'it returns false'. Refute it at one input. -/
def keymapShowsWrong : ChangeSpec := { name := "keymapShows", fn := fun _ => fun
  | [d] => { results := [.lit (.bool false)], args := [d] }
  | _ => none }
def KeymapShowsWrongFalsely : Prop := keymapShowsRow.holds Tryd.pinned (OpenSpec.ofChange keymapShowsWrong)

/-- 'jobshelllaw45.KeymapDefaults': WHATEVER THE INPUT: true; the input reads as it did. -/
def keymapDefaultsSpec : ChangeSpec := { name := "keymapDefaults", fn := fun _ => fun
  | [d] => { results := [.lit (.bool true)], args := [d] }
  | _ => none }
def keymapDefaultsRow : OpenClaim := { program := "ytoncfnbgajnhgaadoor", sum := "57ae7746fb2c361e6c77e584b2c63ba21991147610f10a7853c131298d3a99f1", func := "jobshell/jobshelllaw45.KeymapDefaults", spec := "keymapDefaults", inPlace := ["internal/bytealg.IndexByteString", "internal/bytealg.abigen_runtime_cmpstring", "slices.overlaps[jobshell/api.Bind]", "internal/abi.NoEscape"], unfollowed := true, recurses := true, named := ["jobshell/keymap.names"], apart := false, laid := [("jobshell/keymap.names", laid_jobshell_keymap_names)] }
def KeymapDefaultsSaid : Prop := keymapDefaultsRow.holds Tryd.pinned (OpenSpec.ofChange keymapDefaultsSpec)

/-- ITS FALSE NEIGHBOUR: 'it returns false'. Refute it at one input. -/
def keymapDefaultsWrong : ChangeSpec := { name := "keymapDefaults", fn := fun _ => fun
  | [d] => { results := [.lit (.bool false)], args := [d] }
  | _ => none }
def KeymapDefaultsWrongFalsely : Prop := keymapDefaultsRow.holds Tryd.pinned (OpenSpec.ofChange keymapDefaultsWrong)

/-- 'jobshelllaw45.KeymapValids': WHATEVER THE INPUT: true; the input reads as it did. -/
def keymapValidsSpec : ChangeSpec := { name := "keymapValids", fn := fun _ => fun
  | [d] => { results := [.lit (.bool true)], args := [d] }
  | _ => none }
def keymapValidsRow : OpenClaim := { program := "ytoncfnbgajnhgaadoor", sum := "57ae7746fb2c361e6c77e584b2c63ba21991147610f10a7853c131298d3a99f1", func := "jobshell/jobshelllaw45.KeymapValids", spec := "keymapValids", inPlace := ["internal/bytealg.IndexByteString", "internal/bytealg.abigen_runtime_cmpstring", "slices.overlaps[jobshell/api.Bind]", "internal/abi.NoEscape"], unfollowed := true, recurses := true, named := ["jobshell/keymap.names"], apart := false, laid := [("jobshell/keymap.names", laid_jobshell_keymap_names)] }
def KeymapValidsSaid : Prop := keymapValidsRow.holds Tryd.pinned (OpenSpec.ofChange keymapValidsSpec)

/-- ITS FALSE NEIGHBOUR: 'it returns false'. Refute it at one input. -/
def keymapValidsWrong : ChangeSpec := { name := "keymapValids", fn := fun _ => fun
  | [d] => { results := [.lit (.bool false)], args := [d] }
  | _ => none }
def KeymapValidsWrongFalsely : Prop := keymapValidsRow.holds Tryd.pinned (OpenSpec.ofChange keymapValidsWrong)

/-- 'jobshelllaw45.KeymapBinds': WHATEVER THE INPUT: true; the input reads as it did. -/
def keymapBindsSpec : ChangeSpec := { name := "keymapBinds", fn := fun _ => fun
  | [d1, d2, d3] => { results := [.lit (.bool true)], args := [d1, d2, d3] }
  | _ => none }
def keymapBindsRow : OpenClaim := { program := "ytoncfnbgajnhgaadoor", sum := "57ae7746fb2c361e6c77e584b2c63ba21991147610f10a7853c131298d3a99f1", func := "jobshell/jobshelllaw45.KeymapBinds", spec := "keymapBinds", inPlace := ["internal/bytealg.IndexByteString", "internal/bytealg.abigen_runtime_cmpstring", "slices.overlaps[jobshell/api.Bind]", "internal/abi.NoEscape"], unfollowed := true, recurses := true, named := ["jobshell/keymap.names"], apart := false, laid := [("jobshell/keymap.names", laid_jobshell_keymap_names)] }
def KeymapBindsSaid : Prop := keymapBindsRow.holds Tryd.pinned (OpenSpec.ofChange keymapBindsSpec)

/-- ITS FALSE NEIGHBOUR: 'it returns false'. Refute it at one input. -/
def keymapBindsWrong : ChangeSpec := { name := "keymapBinds", fn := fun _ => fun
  | [d1, d2, d3] => { results := [.lit (.bool false)], args := [d1, d2, d3] }
  | _ => none }
def KeymapBindsWrongFalsely : Prop := keymapBindsRow.holds Tryd.pinned (OpenSpec.ofChange keymapBindsWrong)

/-- 'jobshelllaw45.KeymapFinds': WHATEVER THE INPUT: true; the input reads as it did. -/
def keymapFindsSpec : ChangeSpec := { name := "keymapFinds", fn := fun _ => fun
  | [d1, d2] => { results := [.lit (.bool true)], args := [d1, d2] }
  | _ => none }
def keymapFindsRow : OpenClaim := { program := "ytoncfnbgajnhgaadoor", sum := "57ae7746fb2c361e6c77e584b2c63ba21991147610f10a7853c131298d3a99f1", func := "jobshell/jobshelllaw45.KeymapFinds", spec := "keymapFinds", inPlace := ["internal/bytealg.IndexByteString", "internal/bytealg.abigen_runtime_cmpstring", "slices.overlaps[jobshell/api.Bind]", "internal/abi.NoEscape"], unfollowed := true, recurses := true, named := ["jobshell/keymap.names"], apart := false, laid := [("jobshell/keymap.names", laid_jobshell_keymap_names)] }
def KeymapFindsSaid : Prop := keymapFindsRow.holds Tryd.pinned (OpenSpec.ofChange keymapFindsSpec)

/-- ITS FALSE NEIGHBOUR: 'it returns false'. Refute it at one input. -/
def keymapFindsWrong : ChangeSpec := { name := "keymapFinds", fn := fun _ => fun
  | [d1, d2] => { results := [.lit (.bool false)], args := [d1, d2] }
  | _ => none }
def KeymapFindsWrongFalsely : Prop := keymapFindsRow.holds Tryd.pinned (OpenSpec.ofChange keymapFindsWrong)

/- THE SECOND FORM. 'bulk': how many values and letters a reading holds, each counted each time it is reached (what is shared counts as often as it is met; a slice's spare places count too). A statement '..UptoSaid' is the law's where the arguments, and the package variables that the reading takes, are together of bulk at most 1048576: NARROWER than '..Said'. Prove '..Said' where nothing that the law and all that it calls make is longer than what came in: it says more and counts as full. Else prove '..UptoSaid'. A law counts once. -/
mutual
def uptoBulk {H : Type} : DataW H → Nat
  | .lit (.string bytes) => bytes.length + 1
  | .lit _ => 1
  | .nil => 1
  | .ptr d => uptoBulk d + 1
  | .slice elems spare => uptoBulkAll elems + uptoBulkAll spare + 1
  | .agg parts => uptoBulkAll parts + 1
  | .iface _ d => uptoBulk d + 1
  | .map entries => uptoBulkEntries entries + 1
  | .held _ => 1
def uptoBulkAll {H : Type} : List (DataW H) → Nat
  | [] => 0
  | d :: r => uptoBulk d + uptoBulkAll r
def uptoBulkEntries {H : Type} : List (Lit × DataW H) → Nat
  | [] => 0
  | x :: r => uptoBulkEntry x + uptoBulkEntries r
def uptoBulkEntry {H : Type} : Lit × DataW H → Nat
  | (.string bytes, d) => bytes.length + uptoBulk d + 1
  | (_, d) => uptoBulk d + 1
 end
def uptoSmall : (H : Type) → List (DataW H) → Bool := fun _ ds => decide (uptoBulkAll ds ≤ 1048576)
def OpenSpec.upto (s : _root_.Go.ChangeSpec) : _root_.Go.OpenSpec := { _root_.Go.OpenSpec.ofChange s with cond := some uptoSmall }

/-- 'jobshelllaw45.KeymapParses', WHERE WHAT IT READS IS OF BULK AT MOST 1048576: true; the input reads as it did. -/
def keymapParsesUptoRow : OpenClaim := { program := "ytoncfnbgajnhgaadoor", sum := "57ae7746fb2c361e6c77e584b2c63ba21991147610f10a7853c131298d3a99f1", func := "jobshell/jobshelllaw45.KeymapParses", spec := "keymapParses", inPlace := ["internal/bytealg.IndexByteString", "internal/bytealg.abigen_runtime_cmpstring", "slices.overlaps[jobshell/api.Bind]", "internal/abi.NoEscape"], unfollowed := true, recurses := true, named := ["jobshell/keymap.names"], apart := false, laid := [("jobshell/keymap.names", laid_jobshell_keymap_names)], narrowed := true }
def KeymapParsesUptoSaid : Prop := keymapParsesUptoRow.holds Tryd.pinned (OpenSpec.upto keymapParsesSpec)

/-- 'jobshelllaw45.KeymapShows', WHERE WHAT IT READS IS OF BULK AT MOST 1048576: true; the input reads as it did. -/
def keymapShowsUptoRow : OpenClaim := { program := "ytoncfnbgajnhgaadoor", sum := "57ae7746fb2c361e6c77e584b2c63ba21991147610f10a7853c131298d3a99f1", func := "jobshell/jobshelllaw45.KeymapShows", spec := "keymapShows", inPlace := ["internal/bytealg.IndexByteString", "internal/bytealg.abigen_runtime_cmpstring", "slices.overlaps[jobshell/api.Bind]", "internal/abi.NoEscape"], unfollowed := true, recurses := true, named := ["jobshell/keymap.names"], apart := false, laid := [("jobshell/keymap.names", laid_jobshell_keymap_names)], narrowed := true }
def KeymapShowsUptoSaid : Prop := keymapShowsUptoRow.holds Tryd.pinned (OpenSpec.upto keymapShowsSpec)

/-- 'jobshelllaw45.KeymapDefaults', WHERE WHAT IT READS IS OF BULK AT MOST 1048576: true; the input reads as it did. -/
def keymapDefaultsUptoRow : OpenClaim := { program := "ytoncfnbgajnhgaadoor", sum := "57ae7746fb2c361e6c77e584b2c63ba21991147610f10a7853c131298d3a99f1", func := "jobshell/jobshelllaw45.KeymapDefaults", spec := "keymapDefaults", inPlace := ["internal/bytealg.IndexByteString", "internal/bytealg.abigen_runtime_cmpstring", "slices.overlaps[jobshell/api.Bind]", "internal/abi.NoEscape"], unfollowed := true, recurses := true, named := ["jobshell/keymap.names"], apart := false, laid := [("jobshell/keymap.names", laid_jobshell_keymap_names)], narrowed := true }
def KeymapDefaultsUptoSaid : Prop := keymapDefaultsUptoRow.holds Tryd.pinned (OpenSpec.upto keymapDefaultsSpec)

/-- 'jobshelllaw45.KeymapValids', WHERE WHAT IT READS IS OF BULK AT MOST 1048576: true; the input reads as it did. -/
def keymapValidsUptoRow : OpenClaim := { program := "ytoncfnbgajnhgaadoor", sum := "57ae7746fb2c361e6c77e584b2c63ba21991147610f10a7853c131298d3a99f1", func := "jobshell/jobshelllaw45.KeymapValids", spec := "keymapValids", inPlace := ["internal/bytealg.IndexByteString", "internal/bytealg.abigen_runtime_cmpstring", "slices.overlaps[jobshell/api.Bind]", "internal/abi.NoEscape"], unfollowed := true, recurses := true, named := ["jobshell/keymap.names"], apart := false, laid := [("jobshell/keymap.names", laid_jobshell_keymap_names)], narrowed := true }
def KeymapValidsUptoSaid : Prop := keymapValidsUptoRow.holds Tryd.pinned (OpenSpec.upto keymapValidsSpec)

/-- 'jobshelllaw45.KeymapBinds', WHERE WHAT IT READS IS OF BULK AT MOST 1048576: true; the input reads as it did. -/
def keymapBindsUptoRow : OpenClaim := { program := "ytoncfnbgajnhgaadoor", sum := "57ae7746fb2c361e6c77e584b2c63ba21991147610f10a7853c131298d3a99f1", func := "jobshell/jobshelllaw45.KeymapBinds", spec := "keymapBinds", inPlace := ["internal/bytealg.IndexByteString", "internal/bytealg.abigen_runtime_cmpstring", "slices.overlaps[jobshell/api.Bind]", "internal/abi.NoEscape"], unfollowed := true, recurses := true, named := ["jobshell/keymap.names"], apart := false, laid := [("jobshell/keymap.names", laid_jobshell_keymap_names)], narrowed := true }
def KeymapBindsUptoSaid : Prop := keymapBindsUptoRow.holds Tryd.pinned (OpenSpec.upto keymapBindsSpec)

/-- 'jobshelllaw45.KeymapFinds', WHERE WHAT IT READS IS OF BULK AT MOST 1048576: true; the input reads as it did. -/
def keymapFindsUptoRow : OpenClaim := { program := "ytoncfnbgajnhgaadoor", sum := "57ae7746fb2c361e6c77e584b2c63ba21991147610f10a7853c131298d3a99f1", func := "jobshell/jobshelllaw45.KeymapFinds", spec := "keymapFinds", inPlace := ["internal/bytealg.IndexByteString", "internal/bytealg.abigen_runtime_cmpstring", "slices.overlaps[jobshell/api.Bind]", "internal/abi.NoEscape"], unfollowed := true, recurses := true, named := ["jobshell/keymap.names"], apart := false, laid := [("jobshell/keymap.names", laid_jobshell_keymap_names)], narrowed := true }
def KeymapFindsUptoSaid : Prop := keymapFindsUptoRow.holds Tryd.pinned (OpenSpec.upto keymapFindsSpec)

end Rows
end Go.Proofs.YtoncfnbgajnhgaaDoor
