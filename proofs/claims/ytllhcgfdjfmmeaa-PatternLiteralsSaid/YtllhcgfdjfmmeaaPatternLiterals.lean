/- Literal and Special answer as specified: the law PatternLiterals returns true for every input. -/
import Derived.Test.YtllhcgfdjfmmeaaPuM
import Derived.Test.YtllhcgfdjfmmeaaPuL
namespace Go.Proofs.Ytllhcgfdjfmmeaa
open Go.ChangeShapes Go.WideShapes Go.ChangeAt Go.RowKit
set_option linter.unusedVariables false
set_option linter.unusedSimpArgs false
set_option maxRecDepth 100000 in
theorem patternLiterals_lifted (os : Os) (started : os.Started) (H : Type) (enc : TypeId × Value → H) :
    ReturnsInHanded {} Try.checked os 7 .any (Rows.patternLiteralsSpec.pre6 enc Try.prog Try.f7 Rows.patternLiteralsRow.domain false) (Rows.patternLiteralsSpec.post enc Try.prog Try.f7 false true false false) := by
  refine law_lift_ab (C := Try.checked) (tb := 4) [shI, shR] (by kernel_rfl) knob started (by kernel_rfl) Try.func7 laidOut rfl Try.underlying4 rfl (by kernel_rfl) (fun ds hds => ?_)
    (ChangeSpec.witness6 (enc := enc) (C := Try.checked) false ⟨#[], #[.slice none 0 0, .slice none 0 0], []⟩ 8 (by kernel_rfl) (by kernel_rfl) (by kernel_rfl) (by kernel_rfl)) (fun ds hz => ?_)
  · match ds, hds with
    | [d1, d2], _ => rfl
  · rw [avAs, avAs, avAs, avA_items hz.1, avA_runs]; exact patternLiterals_ab _ _ (szd_items hz.1) (szd_runs hz.2.1)
theorem patternLiterals_holds : Rows.PatternLiteralsSaid :=
  OpenClaim.holds_of_wide 7 Try.f7 rfl rfl rfl rfl rfl rfl rfl ⟨rfl, rfl, rfl, rfl, rfl⟩ rfl rfl rfl rfl rfl (by kernel_rfl) Try.func7 (by kernel_rfl)
    (of_decide_eq_true (by kernel_rfl)) (by unfold Func.isWrapper; first | (rw [if_pos (by decide +kernel)]; kernel_rfl) | (rw [if_neg (by decide +kernel)]; exact ⟨rfl, rfl⟩))
    (fun os started H enc _ => patternLiterals_lifted os started H enc)
#print axioms patternLiterals_holds
end Go.Proofs.Ytllhcgfdjfmmeaa
