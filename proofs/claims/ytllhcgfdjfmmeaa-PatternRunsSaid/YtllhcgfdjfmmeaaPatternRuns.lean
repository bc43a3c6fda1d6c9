/- Runs returns runs that compile to the given pattern, or none: the law PatternRuns returns true for every input. -/
import Derived.Test.YtllhcgfdjfmmeaaPuN
import Derived.Test.YtllhcgfdjfmmeaaPuL
namespace Go.Proofs.Ytllhcgfdjfmmeaa
open Go.ChangeShapes Go.WideShapes Go.ChangeAt Go.RowKit
set_option linter.unusedVariables false
set_option linter.unusedSimpArgs false
set_option maxRecDepth 100000 in
theorem patternRuns_lifted (os : Os) (started : os.Started) (H : Type) (enc : TypeId × Value → H) :
    ReturnsInHanded {} Try.checked os 4 .any (Rows.patternRunsSpec.pre6 enc Try.prog Try.f4 Rows.patternRunsRow.domain false) (Rows.patternRunsSpec.post enc Try.prog Try.f4 false true false false) := by
  refine law_lift_ab (C := Try.checked) (tb := 4) [shI] (by kernel_rfl) knob started (by kernel_rfl) Try.func4 laidOut rfl Try.underlying4 rfl (by kernel_rfl) (fun ds hds => ?_)
    (ChangeSpec.witness6 (enc := enc) (C := Try.checked) false ⟨#[], #[.slice none 0 0], []⟩ 8 (by kernel_rfl) (by kernel_rfl) (by kernel_rfl) (by kernel_rfl)) (fun ds hz => ?_)
  · match ds, hds with
    | [d1], _ => rfl
  · rw [avAs, avAs, avA_items hz.1]; exact patternRuns_ab _ (szd_items hz.1)
theorem patternRuns_holds : Rows.PatternRunsSaid :=
  OpenClaim.holds_of_wide 4 Try.f4 rfl rfl rfl rfl rfl rfl rfl ⟨rfl, rfl, rfl, rfl, rfl⟩ rfl rfl rfl rfl rfl (by kernel_rfl) Try.func4 (by kernel_rfl)
    (of_decide_eq_true (by kernel_rfl)) (by unfold Func.isWrapper; first | (rw [if_pos (by decide +kernel)]; kernel_rfl) | (rw [if_neg (by decide +kernel)]; exact ⟨rfl, rfl⟩))
    (fun os started H enc _ => patternRuns_lifted os started H enc)
#print axioms patternRuns_holds
end Go.Proofs.Ytllhcgfdjfmmeaa
