/- Match reports whether a pattern matches a string as specified: the law PatternMatches returns true for every input. -/
import Derived.Test.YtllhcgfdjfmmeaaPuM
import Derived.Test.YtllhcgfdjfmmeaaPuL
namespace Go.Proofs.Ytllhcgfdjfmmeaa
open Go.ChangeShapes Go.WideShapes Go.ChangeAt Go.RowKit
set_option linter.unusedVariables false
set_option linter.unusedSimpArgs false
set_option maxRecDepth 100000 in
theorem patternMatches_lifted (os : Os) (started : os.Started) (H : Type) (enc : TypeId × Value → H) :
    ReturnsInHanded {} Try.checked os 5 .any (Rows.patternMatchesSpec.pre6 enc Try.prog Try.f5 Rows.patternMatchesRow.domain false) (Rows.patternMatchesSpec.post enc Try.prog Try.f5 false true false false) := by
  refine law_lift_ab (C := Try.checked) (tb := 4) [shI, .str] (by kernel_rfl) knob started (by kernel_rfl) Try.func5 laidOut rfl Try.underlying4 rfl (by kernel_rfl) (fun ds hds => ?_)
    (ChangeSpec.witness6 (enc := enc) (C := Try.checked) false ⟨#[], #[.slice none 0 0, .string ⟨#[]⟩], []⟩ 8 (by kernel_rfl) (by kernel_rfl) (by kernel_rfl) (by kernel_rfl)) (fun ds hz => ?_)
  · match ds, hds with
    | [d1, d2], _ => rfl
  · rw [avAs, avAs, avAs, avA_items hz.1]; exact patternMatches_ab _ _ (szd_items hz.1) (szd_str hz.2.1)
theorem patternMatches_holds : Rows.PatternMatchesSaid :=
  OpenClaim.holds_of_wide 5 Try.f5 rfl rfl rfl rfl rfl rfl rfl ⟨rfl, rfl, rfl, rfl, rfl⟩ rfl rfl rfl rfl rfl (by kernel_rfl) Try.func5 (by kernel_rfl)
    (of_decide_eq_true (by kernel_rfl)) (by unfold Func.isWrapper; first | (rw [if_pos (by decide +kernel)]; kernel_rfl) | (rw [if_neg (by decide +kernel)]; exact ⟨rfl, rfl⟩))
    (fun os started H enc _ => patternMatches_lifted os started H enc)
#print axioms patternMatches_holds
end Go.Proofs.Ytllhcgfdjfmmeaa
