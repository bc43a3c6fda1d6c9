/- Fields splits all runs as specified: the law SplitFields returns true for every input. -/
import Derived.Test.YtcplbbbjmalfjaaSpQ
import Derived.Test.YtcplbbbjmalfjaaSpL
namespace Go.Proofs.Ytcplbbbjmalfjaa
open Go.ChangeShapes Go.WideShapes Go.ChangeAt Go.RowKit
set_option linter.unusedVariables false
set_option linter.unusedSimpArgs false
set_option maxRecDepth 100000 in
theorem splitFields_lifted (os : Os) (started : os.Started) (H : Type) (enc : TypeId × Value → H) :
    ReturnsInHanded {} Try.checked os 3 .any (Rows.splitFieldsSpec.pre6 enc Try.prog Try.f3 Rows.splitFieldsRow.domain false) (Rows.splitFieldsSpec.post enc Try.prog Try.f3 false true false false) := by
  refine law_lift_ab (C := Try.checked) (tb := 4) [shR, .str] (by kernel_rfl) knob started (by kernel_rfl) Try.func3 laidOut rfl Try.underlying4 rfl (by kernel_rfl) (fun ds hds => ?_)
    (ChangeSpec.witness6 (enc := enc) (C := Try.checked) false ⟨#[], #[.slice none 0 0, .string ⟨#[]⟩], []⟩ 8 (by kernel_rfl) (by kernel_rfl) (by kernel_rfl) (by kernel_rfl)) (fun ds hz => ?_)
  · match ds, hds with
    | [d1, d2], _ => rfl
  · rw [avAs, avAs, avAs, avA_runs]; exact splitFields_ab _ _ (szd_runs hz.1).1 (szd_runs hz.1).2 (szd_str hz.2.1)
theorem splitFields_holds : Rows.SplitFieldsSaid :=
  OpenClaim.holds_of_wide 3 Try.f3 rfl rfl rfl rfl rfl rfl rfl ⟨rfl, rfl, rfl, rfl, rfl⟩ rfl rfl rfl rfl rfl (by kernel_rfl) Try.func3 (by kernel_rfl)
    (of_decide_eq_true (by kernel_rfl)) (by unfold Func.isWrapper; first | (rw [if_pos (by decide +kernel)]; kernel_rfl) | (rw [if_neg (by decide +kernel)]; exact ⟨rfl, rfl⟩))
    (fun os started H enc _ => splitFields_lifted os started H enc)
#print axioms splitFields_holds
end Go.Proofs.Ytcplbbbjmalfjaa
