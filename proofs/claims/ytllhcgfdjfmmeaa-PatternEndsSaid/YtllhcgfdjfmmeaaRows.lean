/-
  No cell of these rows narrows 'for every input' (looked for: loops, veiled, ifaces, maps, wideKeys, modest, calm, conditions, laid).
  DERIVED. THE GIVEN ROWS OF THIS SEAT. 8 by the template 'for every input the law returns true; each argument reads behind the call as it read before'; 0 by the template 'total and deterministic' (their statements: YtllhcgfdjfmmeaaTotals.lean).
  GIVEN WITH THE SEED: the statements are not yours to turn. If you find one false, say at which input.
  Laid BY PROGRAM, IN A SANDBOX (cutbox-rows.mjs): the forced cells as the released guide's own fill.sh prints them over the translation 6123e062d56a05d4… (all of the seat's roots in one cut). By AI agents, Wed Nov 11 2026. No macro, syntax, notation, axiom, sorry.
-/
import Derived.Test.YtllhcgfdjfmmeaaChecked
import GoSem.Claim
import GoSem.ClaimJoined
import GoSem.ClaimMapViews
import Derived.JoinedTies
import Derived.KernelRfl
namespace Go.Proofs.Ytllhcgfdjfmmeaa
/- THE CELL 'sum', in the pinned program and in every row, IS THE sha256 OF THE DUMP (.gsa) THAT YtllhcgfdjfmmeaaProg.lean LOADS. Nothing in Lean hashes anything: it is a label: what it is worth is what the hold of that sum in a sandbox is worth. -/
noncomputable def Try.pinned : Pinned := { name := "ytllhcgfdjfmmeaa", sum := "6123e062d56a05d45389d77e5a20b80b8dd8b76154fc89dea0b0129d044bfa52", checked := Try.checked }
namespace Rows
def none {H : Type} : Left H := { results := [], args := [] }

/-- 'jobshelllaw04.PatternCompiles': WHATEVER THE INPUT: true; the input reads as it did. -/
def patternCompilesSpec : ChangeSpec := { name := "patternCompiles", fn := fun _ => fun
  | [d] => { results := [.lit (.bool true)], args := [d] }
  | _ => none }
def patternCompilesRow : OpenClaim := { program := "ytllhcgfdjfmmeaa", sum := "6123e062d56a05d45389d77e5a20b80b8dd8b76154fc89dea0b0129d044bfa52", func := "jobshell/jobshelllaw04.PatternCompiles", spec := "patternCompiles", unfollowed := true, recurses := true, apart := false }
def PatternCompilesSaid : Prop := patternCompilesRow.holds Try.pinned (OpenSpec.ofChange patternCompilesSpec)

/-- ITS FALSE NEIGHBOUR: 'it returns false'. Refute it at one input. -/
def patternCompilesWrong : ChangeSpec := { name := "patternCompiles", fn := fun _ => fun
  | [d] => { results := [.lit (.bool false)], args := [d] }
  | _ => none }
def PatternCompilesWrongFalsely : Prop := patternCompilesRow.holds Try.pinned (OpenSpec.ofChange patternCompilesWrong)

/-- 'jobshelllaw04.PatternRuns': WHATEVER THE INPUT: true; the input reads as it did. -/
def patternRunsSpec : ChangeSpec := { name := "patternRuns", fn := fun _ => fun
  | [d] => { results := [.lit (.bool true)], args := [d] }
  | _ => none }
def patternRunsRow : OpenClaim := { program := "ytllhcgfdjfmmeaa", sum := "6123e062d56a05d45389d77e5a20b80b8dd8b76154fc89dea0b0129d044bfa52", func := "jobshell/jobshelllaw04.PatternRuns", spec := "patternRuns", unfollowed := true, recurses := true, apart := false }
def PatternRunsSaid : Prop := patternRunsRow.holds Try.pinned (OpenSpec.ofChange patternRunsSpec)

/-- ITS FALSE NEIGHBOUR: 'it returns false'. Refute it at one input. -/
def patternRunsWrong : ChangeSpec := { name := "patternRuns", fn := fun _ => fun
  | [d] => { results := [.lit (.bool false)], args := [d] }
  | _ => none }
def PatternRunsWrongFalsely : Prop := patternRunsRow.holds Try.pinned (OpenSpec.ofChange patternRunsWrong)

/-- 'jobshelllaw04.PatternMatches': WHATEVER THE INPUT: true; the input reads as it did. -/
def patternMatchesSpec : ChangeSpec := { name := "patternMatches", fn := fun _ => fun
  | [d1, d2] => { results := [.lit (.bool true)], args := [d1, d2] }
  | _ => none }
def patternMatchesRow : OpenClaim := { program := "ytllhcgfdjfmmeaa", sum := "6123e062d56a05d45389d77e5a20b80b8dd8b76154fc89dea0b0129d044bfa52", func := "jobshell/jobshelllaw04.PatternMatches", spec := "patternMatches", unfollowed := true, recurses := true, apart := false }
def PatternMatchesSaid : Prop := patternMatchesRow.holds Try.pinned (OpenSpec.ofChange patternMatchesSpec)

/-- ITS FALSE NEIGHBOUR: 'it returns false'. Refute it at one input. -/
def patternMatchesWrong : ChangeSpec := { name := "patternMatches", fn := fun _ => fun
  | [d1, d2] => { results := [.lit (.bool false)], args := [d1, d2] }
  | _ => none }
def PatternMatchesWrongFalsely : Prop := patternMatchesRow.holds Try.pinned (OpenSpec.ofChange patternMatchesWrong)

/-- 'jobshelllaw04.PatternEnds': WHATEVER THE INPUT: true; the input reads as it did. -/
def patternEndsSpec : ChangeSpec := { name := "patternEnds", fn := fun _ => fun
  | [d1, d2, d3] => { results := [.lit (.bool true)], args := [d1, d2, d3] }
  | _ => none }
def patternEndsRow : OpenClaim := { program := "ytllhcgfdjfmmeaa", sum := "6123e062d56a05d45389d77e5a20b80b8dd8b76154fc89dea0b0129d044bfa52", func := "jobshell/jobshelllaw04.PatternEnds", spec := "patternEnds", unfollowed := true, recurses := true, apart := false }
def PatternEndsSaid : Prop := patternEndsRow.holds Try.pinned (OpenSpec.ofChange patternEndsSpec)

/-- ITS FALSE NEIGHBOUR: 'it returns false'. Refute it at one input. -/
def patternEndsWrong : ChangeSpec := { name := "patternEnds", fn := fun _ => fun
  | [d1, d2, d3] => { results := [.lit (.bool false)], args := [d1, d2, d3] }
  | _ => none }
def PatternEndsWrongFalsely : Prop := patternEndsRow.holds Try.pinned (OpenSpec.ofChange patternEndsWrong)

/-- 'jobshelllaw04.PatternLiterals': WHATEVER THE INPUT: true; the input reads as it did. -/
def patternLiteralsSpec : ChangeSpec := { name := "patternLiterals", fn := fun _ => fun
  | [d1, d2] => { results := [.lit (.bool true)], args := [d1, d2] }
  | _ => none }
def patternLiteralsRow : OpenClaim := { program := "ytllhcgfdjfmmeaa", sum := "6123e062d56a05d45389d77e5a20b80b8dd8b76154fc89dea0b0129d044bfa52", func := "jobshell/jobshelllaw04.PatternLiterals", spec := "patternLiterals", unfollowed := true, recurses := true, apart := false }
def PatternLiteralsSaid : Prop := patternLiteralsRow.holds Try.pinned (OpenSpec.ofChange patternLiteralsSpec)

/-- ITS FALSE NEIGHBOUR: 'it returns false'. Refute it at one input. -/
def patternLiteralsWrong : ChangeSpec := { name := "patternLiterals", fn := fun _ => fun
  | [d1, d2] => { results := [.lit (.bool false)], args := [d1, d2] }
  | _ => none }
def PatternLiteralsWrongFalsely : Prop := patternLiteralsRow.holds Try.pinned (OpenSpec.ofChange patternLiteralsWrong)

/-- 'jobshelllaw04.PatternQuotes': WHATEVER THE INPUT: true; the input reads as it did. -/
def patternQuotesSpec : ChangeSpec := { name := "patternQuotes", fn := fun _ => fun
  | [d1, d2] => { results := [.lit (.bool true)], args := [d1, d2] }
  | _ => none }
def patternQuotesRow : OpenClaim := { program := "ytllhcgfdjfmmeaa", sum := "6123e062d56a05d45389d77e5a20b80b8dd8b76154fc89dea0b0129d044bfa52", func := "jobshell/jobshelllaw04.PatternQuotes", spec := "patternQuotes", unfollowed := true, recurses := true, apart := false }
def PatternQuotesSaid : Prop := patternQuotesRow.holds Try.pinned (OpenSpec.ofChange patternQuotesSpec)

/-- ITS FALSE NEIGHBOUR: 'it returns false'. Refute it at one input. -/
def patternQuotesWrong : ChangeSpec := { name := "patternQuotes", fn := fun _ => fun
  | [d1, d2] => { results := [.lit (.bool false)], args := [d1, d2] }
  | _ => none }
def PatternQuotesWrongFalsely : Prop := patternQuotesRow.holds Try.pinned (OpenSpec.ofChange patternQuotesWrong)

/-- 'jobshelllaw04.PatternJoins': WHATEVER THE INPUT: true; the input reads as it did. -/
def patternJoinsSpec : ChangeSpec := { name := "patternJoins", fn := fun _ => fun
  | [d1, d2, d3] => { results := [.lit (.bool true)], args := [d1, d2, d3] }
  | _ => none }
def patternJoinsRow : OpenClaim := { program := "ytllhcgfdjfmmeaa", sum := "6123e062d56a05d45389d77e5a20b80b8dd8b76154fc89dea0b0129d044bfa52", func := "jobshell/jobshelllaw04.PatternJoins", spec := "patternJoins", unfollowed := true, recurses := true, apart := false }
def PatternJoinsSaid : Prop := patternJoinsRow.holds Try.pinned (OpenSpec.ofChange patternJoinsSpec)

/-- ITS FALSE NEIGHBOUR: 'it returns false'. Refute it at one input. -/
def patternJoinsWrong : ChangeSpec := { name := "patternJoins", fn := fun _ => fun
  | [d1, d2, d3] => { results := [.lit (.bool false)], args := [d1, d2, d3] }
  | _ => none }
def PatternJoinsWrongFalsely : Prop := patternJoinsRow.holds Try.pinned (OpenSpec.ofChange patternJoinsWrong)

/-- 'jobshelllaw04.PatternStars': WHATEVER THE INPUT: true; the input reads as it did. -/
def patternStarsSpec : ChangeSpec := { name := "patternStars", fn := fun _ => fun
  | [d1, d2, d3] => { results := [.lit (.bool true)], args := [d1, d2, d3] }
  | _ => none }
def patternStarsRow : OpenClaim := { program := "ytllhcgfdjfmmeaa", sum := "6123e062d56a05d45389d77e5a20b80b8dd8b76154fc89dea0b0129d044bfa52", func := "jobshell/jobshelllaw04.PatternStars", spec := "patternStars", unfollowed := true, recurses := true, apart := false }
def PatternStarsSaid : Prop := patternStarsRow.holds Try.pinned (OpenSpec.ofChange patternStarsSpec)

/-- ITS FALSE NEIGHBOUR: 'it returns false'. Refute it at one input. -/
def patternStarsWrong : ChangeSpec := { name := "patternStars", fn := fun _ => fun
  | [d1, d2, d3] => { results := [.lit (.bool false)], args := [d1, d2, d3] }
  | _ => none }
def PatternStarsWrongFalsely : Prop := patternStarsRow.holds Try.pinned (OpenSpec.ofChange patternStarsWrong)

/- THE SECOND FORM. 'bulk': how many values and letters a reading holds, each counted each time it is reached (what is shared counts as often as it is met; a slice's spare places count too). A statement '..UptoSaid' is the law's where the arguments, and the package variables that the reading takes, are together of bulk at most 1048576: NARROWER than '..Said'. Prove '..Said' where nothing that the law and all that it calls make is longer than what came in: it says more and counts as full. Else prove '..UptoSaid'. A law counts once. -/
mutual
def uptoBulk {H : Type} : DataW H → Nat
  | .lit (.string bytes) => bytes.length + 1
  | .lit _ => 1
  | .nil => 1
  | .ptr d => uptoBulk d + 1
  | .slice elems spare => uptoBulkAll elems + uptoBulkAll spare + 1
  | .agg parts => uptoBulkAll parts + 1
  | .iface _ d => uptoBulk d + 1
  | .map entries => uptoBulkEntries entries + 1
  | .held _ => 1
def uptoBulkAll {H : Type} : List (DataW H) → Nat
  | [] => 0
  | d :: r => uptoBulk d + uptoBulkAll r
def uptoBulkEntries {H : Type} : List (Lit × DataW H) → Nat
  | [] => 0
  | x :: r => uptoBulkEntry x + uptoBulkEntries r
def uptoBulkEntry {H : Type} : Lit × DataW H → Nat
  | (.string bytes, d) => bytes.length + uptoBulk d + 1
  | (_, d) => uptoBulk d + 1
 end
def uptoSmall : (H : Type) → List (DataW H) → Bool := fun _ ds => decide (uptoBulkAll ds ≤ 1048576)
def OpenSpec.upto (s : _root_.Go.ChangeSpec) : _root_.Go.OpenSpec := { _root_.Go.OpenSpec.ofChange s with cond := some uptoSmall }

/-- 'jobshelllaw04.PatternCompiles', WHERE WHAT IT READS IS OF BULK AT MOST 1048576: true; the input reads as it did. -/
def patternCompilesUptoRow : OpenClaim := { program := "ytllhcgfdjfmmeaa", sum := "6123e062d56a05d45389d77e5a20b80b8dd8b76154fc89dea0b0129d044bfa52", func := "jobshell/jobshelllaw04.PatternCompiles", spec := "patternCompiles", unfollowed := true, recurses := true, apart := false, narrowed := true }
def PatternCompilesUptoSaid : Prop := patternCompilesUptoRow.holds Try.pinned (OpenSpec.upto patternCompilesSpec)

/-- 'jobshelllaw04.PatternRuns', WHERE WHAT IT READS IS OF BULK AT MOST 1048576: true; the input reads as it did. -/
def patternRunsUptoRow : OpenClaim := { program := "ytllhcgfdjfmmeaa", sum := "6123e062d56a05d45389d77e5a20b80b8dd8b76154fc89dea0b0129d044bfa52", func := "jobshell/jobshelllaw04.PatternRuns", spec := "patternRuns", unfollowed := true, recurses := true, apart := false, narrowed := true }
def PatternRunsUptoSaid : Prop := patternRunsUptoRow.holds Try.pinned (OpenSpec.upto patternRunsSpec)

/-- 'jobshelllaw04.PatternMatches', WHERE WHAT IT READS IS OF BULK AT MOST 1048576: true; the input reads as it did. -/
def patternMatchesUptoRow : OpenClaim := { program := "ytllhcgfdjfmmeaa", sum := "6123e062d56a05d45389d77e5a20b80b8dd8b76154fc89dea0b0129d044bfa52", func := "jobshell/jobshelllaw04.PatternMatches", spec := "patternMatches", unfollowed := true, recurses := true, apart := false, narrowed := true }
def PatternMatchesUptoSaid : Prop := patternMatchesUptoRow.holds Try.pinned (OpenSpec.upto patternMatchesSpec)

/-- 'jobshelllaw04.PatternEnds', WHERE WHAT IT READS IS OF BULK AT MOST 1048576: true; the input reads as it did. -/
def patternEndsUptoRow : OpenClaim := { program := "ytllhcgfdjfmmeaa", sum := "6123e062d56a05d45389d77e5a20b80b8dd8b76154fc89dea0b0129d044bfa52", func := "jobshell/jobshelllaw04.PatternEnds", spec := "patternEnds", unfollowed := true, recurses := true, apart := false, narrowed := true }
def PatternEndsUptoSaid : Prop := patternEndsUptoRow.holds Try.pinned (OpenSpec.upto patternEndsSpec)

/-- 'jobshelllaw04.PatternLiterals', WHERE WHAT IT READS IS OF BULK AT MOST 1048576: true; the input reads as it did. -/
def patternLiteralsUptoRow : OpenClaim := { program := "ytllhcgfdjfmmeaa", sum := "6123e062d56a05d45389d77e5a20b80b8dd8b76154fc89dea0b0129d044bfa52", func := "jobshell/jobshelllaw04.PatternLiterals", spec := "patternLiterals", unfollowed := true, recurses := true, apart := false, narrowed := true }
def PatternLiteralsUptoSaid : Prop := patternLiteralsUptoRow.holds Try.pinned (OpenSpec.upto patternLiteralsSpec)

/-- 'jobshelllaw04.PatternQuotes', WHERE WHAT IT READS IS OF BULK AT MOST 1048576: true; the input reads as it did. -/
def patternQuotesUptoRow : OpenClaim := { program := "ytllhcgfdjfmmeaa", sum := "6123e062d56a05d45389d77e5a20b80b8dd8b76154fc89dea0b0129d044bfa52", func := "jobshell/jobshelllaw04.PatternQuotes", spec := "patternQuotes", unfollowed := true, recurses := true, apart := false, narrowed := true }
def PatternQuotesUptoSaid : Prop := patternQuotesUptoRow.holds Try.pinned (OpenSpec.upto patternQuotesSpec)

/-- 'jobshelllaw04.PatternJoins', WHERE WHAT IT READS IS OF BULK AT MOST 1048576: true; the input reads as it did. -/
def patternJoinsUptoRow : OpenClaim := { program := "ytllhcgfdjfmmeaa", sum := "6123e062d56a05d45389d77e5a20b80b8dd8b76154fc89dea0b0129d044bfa52", func := "jobshell/jobshelllaw04.PatternJoins", spec := "patternJoins", unfollowed := true, recurses := true, apart := false, narrowed := true }
def PatternJoinsUptoSaid : Prop := patternJoinsUptoRow.holds Try.pinned (OpenSpec.upto patternJoinsSpec)

/-- 'jobshelllaw04.PatternStars', WHERE WHAT IT READS IS OF BULK AT MOST 1048576: true; the input reads as it did. -/
def patternStarsUptoRow : OpenClaim := { program := "ytllhcgfdjfmmeaa", sum := "6123e062d56a05d45389d77e5a20b80b8dd8b76154fc89dea0b0129d044bfa52", func := "jobshell/jobshelllaw04.PatternStars", spec := "patternStars", unfollowed := true, recurses := true, apart := false, narrowed := true }
def PatternStarsUptoSaid : Prop := patternStarsUptoRow.holds Try.pinned (OpenSpec.upto patternStarsSpec)

end Rows
end Go.Proofs.Ytllhcgfdjfmmeaa
