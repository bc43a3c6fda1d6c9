/- Prefix and Suffix return the lengths that are specified: the law PatternEnds returns true for every input. -/
import Derived.Test.YtllhcgfdjfmmeaaPuM
import Derived.Test.YtllhcgfdjfmmeaaPuL
namespace Go.Proofs.Ytllhcgfdjfmmeaa
open Go.ChangeShapes Go.WideShapes Go.ChangeAt Go.RowKit
set_option linter.unusedVariables false
set_option linter.unusedSimpArgs false
set_option maxRecDepth 100000 in
theorem patternEnds_lifted (os : Os) (started : os.Started) (H : Type) (enc : TypeId × Value → H) :
    ReturnsInHanded {} Try.checked os 6 .any (Rows.patternEndsSpec.pre6 enc Try.prog Try.f6 Rows.patternEndsRow.domain false) (Rows.patternEndsSpec.post enc Try.prog Try.f6 false true false false) := by
  refine law_lift_ab (C := Try.checked) (tb := 4) [shI, .str, .bool] (by kernel_rfl) knob started (by kernel_rfl) Try.func6 laidOut rfl Try.underlying4 rfl (by kernel_rfl) (fun ds hds => ?_)
    (ChangeSpec.witness6 (enc := enc) (C := Try.checked) false ⟨#[], #[.slice none 0 0, .string ⟨#[]⟩, .bool false], []⟩ 8 (by kernel_rfl) (by kernel_rfl) (by kernel_rfl) (by kernel_rfl)) (fun ds hz => ?_)
  · match ds, hds with
    | [d1, d2, d3], _ => rfl
  · rw [avAs, avAs, avAs, avAs, avA_items hz.1]; exact patternEnds_ab _ _ _ (szd_items hz.1) (szd_str hz.2.1)
theorem patternEnds_holds : Rows.PatternEndsSaid :=
  OpenClaim.holds_of_wide 6 Try.f6 rfl rfl rfl rfl rfl rfl rfl ⟨rfl, rfl, rfl, rfl, rfl⟩ rfl rfl rfl rfl rfl (by kernel_rfl) Try.func6 (by kernel_rfl)
    (of_decide_eq_true (by kernel_rfl)) (by unfold Func.isWrapper; first | (rw [if_pos (by decide +kernel)]; kernel_rfl) | (rw [if_neg (by decide +kernel)]; exact ⟨rfl, rfl⟩))
    (fun os started H enc _ => patternEnds_lifted os started H enc)
#print axioms patternEnds_holds
end Go.Proofs.Ytllhcgfdjfmmeaa
