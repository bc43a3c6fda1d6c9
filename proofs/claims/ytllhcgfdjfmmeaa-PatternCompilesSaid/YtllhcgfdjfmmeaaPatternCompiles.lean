/- Compile returns the specified pattern for all runs: the law PatternCompiles returns true for every input. -/
import Derived.Test.YtllhcgfdjfmmeaaPuM
import Derived.Test.YtllhcgfdjfmmeaaPuL
namespace Go.Proofs.Ytllhcgfdjfmmeaa
open Go.ChangeShapes Go.WideShapes Go.ChangeAt Go.RowKit
set_option linter.unusedVariables false
set_option linter.unusedSimpArgs false
set_option maxRecDepth 100000 in
theorem patternCompiles_lifted (os : Os) (started : os.Started) (H : Type) (enc : TypeId × Value → H) :
    ReturnsInHanded {} Try.checked os 3 .any (Rows.patternCompilesSpec.pre6 enc Try.prog Try.f3 Rows.patternCompilesRow.domain false) (Rows.patternCompilesSpec.post enc Try.prog Try.f3 false true false false) := by
  refine law_lift_ab (C := Try.checked) (tb := 4) [shR] (by kernel_rfl) knob started (by kernel_rfl) Try.func3 laidOut rfl Try.underlying4 rfl (by kernel_rfl) (fun ds hds => ?_)
    (ChangeSpec.witness6 (enc := enc) (C := Try.checked) false ⟨#[], #[.slice none 0 0], []⟩ 8 (by kernel_rfl) (by kernel_rfl) (by kernel_rfl) (by kernel_rfl)) (fun ds hz => ?_)
  · match ds, hds with
    | [d1], _ => rfl
  · rw [avAs, avAs, avA_runs]; exact patternCompiles_ab _ (szd_runs hz.1)
theorem patternCompiles_holds : Rows.PatternCompilesSaid :=
  OpenClaim.holds_of_wide 3 Try.f3 rfl rfl rfl rfl rfl rfl rfl ⟨rfl, rfl, rfl, rfl, rfl⟩ rfl rfl rfl rfl rfl (by kernel_rfl) Try.func3 (by kernel_rfl)
    (of_decide_eq_true (by kernel_rfl)) (by unfold Func.isWrapper; first | (rw [if_pos (by decide +kernel)]; kernel_rfl) | (rw [if_neg (by decide +kernel)]; exact ⟨rfl, rfl⟩))
    (fun os started H enc _ => patternCompiles_lifted os started H enc)
#print axioms patternCompiles_holds
end Go.Proofs.Ytllhcgfdjfmmeaa
