/- with an empty ifs only boundaries split the input: the law SplitWhole returns true for every input. -/
import Derived.Test.YtcplbbbjmalfjaaSpW
import Derived.Test.YtcplbbbjmalfjaaSpL
namespace Go.Proofs.Ytcplbbbjmalfjaa
open Go.ChangeShapes Go.WideShapes Go.ChangeAt Go.RowKit
set_option linter.unusedVariables false
set_option linter.unusedSimpArgs false
set_option maxRecDepth 100000 in
theorem splitWhole_lifted (os : Os) (started : os.Started) (H : Type) (enc : TypeId × Value → H) :
    ReturnsInHanded {} Try.checked os 8 .any (Rows.splitWholeSpec.pre6 enc Try.prog Try.f8 Rows.splitWholeRow.domain false) (Rows.splitWholeSpec.post enc Try.prog Try.f8 false true false false) := by
  refine law_lift_ab (C := Try.checked) (tb := 4) [shR] (by kernel_rfl) knob started (by kernel_rfl) Try.func8 laidOut rfl Try.underlying4 rfl (by kernel_rfl) (fun ds hds => ?_)
    (ChangeSpec.witness6 (enc := enc) (C := Try.checked) false ⟨#[], #[.slice none 0 0], []⟩ 8 (by kernel_rfl) (by kernel_rfl) (by kernel_rfl) (by kernel_rfl)) (fun ds hz => ?_)
  · match ds, hds with
    | [d1], _ => rfl
  · rw [avAs, avAs, avA_runs]; exact splitWhole_ab _ (szd_runs hz.1).1 (szd_runs hz.1).2
theorem splitWhole_holds : Rows.SplitWholeSaid :=
  OpenClaim.holds_of_wide 8 Try.f8 rfl rfl rfl rfl rfl rfl rfl ⟨rfl, rfl, rfl, rfl, rfl⟩ rfl rfl rfl rfl rfl (by kernel_rfl) Try.func8 (by kernel_rfl)
    (of_decide_eq_true (by kernel_rfl)) (by unfold Func.isWrapper; first | (rw [if_pos (by decide +kernel)]; kernel_rfl) | (rw [if_neg (by decide +kernel)]; exact ⟨rfl, rfl⟩))
    (fun os started H enc _ => splitWhole_lifted os started H enc)
#print axioms splitWhole_holds
end Go.Proofs.Ytcplbbbjmalfjaa
