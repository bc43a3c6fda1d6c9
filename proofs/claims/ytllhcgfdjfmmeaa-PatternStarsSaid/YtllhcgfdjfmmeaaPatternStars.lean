/- beginnings that match, and a star appended: the law PatternStars returns true for every input. -/
import Derived.Test.YtllhcgfdjfmmeaaPuN
import Derived.Test.YtllhcgfdjfmmeaaPuL
namespace Go.Proofs.Ytllhcgfdjfmmeaa
open Go.ChangeShapes Go.WideShapes Go.ChangeAt Go.RowKit
set_option linter.unusedVariables false
set_option linter.unusedSimpArgs false
set_option maxRecDepth 100000 in
theorem patternStars_lifted (os : Os) (started : os.Started) (H : Type) (enc : TypeId × Value → H) :
    ReturnsInHanded {} Try.checked os 10 .any (Rows.patternStarsSpec.pre6 enc Try.prog Try.f10 Rows.patternStarsRow.domain false) (Rows.patternStarsSpec.post enc Try.prog Try.f10 false true false false) := by
  refine law_lift_ab (C := Try.checked) (tb := 4) [shI, .str, .str] (by kernel_rfl) knob started (by kernel_rfl) Try.func10 laidOut rfl Try.underlying4 rfl (by kernel_rfl) (fun ds hds => ?_)
    (ChangeSpec.witness6 (enc := enc) (C := Try.checked) false ⟨#[], #[.slice none 0 0, .string ⟨#[]⟩, .string ⟨#[]⟩], []⟩ 8 (by kernel_rfl) (by kernel_rfl) (by kernel_rfl) (by kernel_rfl)) (fun ds hz => ?_)
  · match ds, hds with
    | [d1, d2, d3], _ => rfl
  · rw [avAs, avAs, avAs, avAs, avA_items hz.1]; exact patternStars_ab _ _ _ (szd_items hz.1) (szd_str hz.2.1) (szd_str hz.2.2.1)
theorem patternStars_holds : Rows.PatternStarsSaid :=
  OpenClaim.holds_of_wide 10 Try.f10 rfl rfl rfl rfl rfl rfl rfl ⟨rfl, rfl, rfl, rfl, rfl⟩ rfl rfl rfl rfl rfl (by kernel_rfl) Try.func10 (by kernel_rfl)
    (of_decide_eq_true (by kernel_rfl)) (by unfold Func.isWrapper; first | (rw [if_pos (by decide +kernel)]; kernel_rfl) | (rw [if_neg (by decide +kernel)]; exact ⟨rfl, rfl⟩))
    (fun os started H enc _ => patternStars_lifted os started H enc)
#print axioms patternStars_holds
end Go.Proofs.Ytllhcgfdjfmmeaa
