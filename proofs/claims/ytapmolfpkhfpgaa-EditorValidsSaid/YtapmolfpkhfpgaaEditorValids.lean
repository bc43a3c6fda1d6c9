/- New and Valid agree with the specification: the law EditorValids returns true for every input. -/
import Derived.Test.YtapmolfpkhfpgaaEsM
import Derived.Test.YtapmolfpkhfpgaaEsN
namespace Go.Proofs.Ytapmolfpkhfpgaa
open Go.ChangeShapes Go.WideShapes Go.ChangeAt Go.RowKit
set_option linter.unusedVariables false
set_option linter.unusedSimpArgs false
set_option maxRecDepth 100000 in
theorem editorValids_lifted (os : Os) (started : os.Started) (H : Type) (enc : TypeId × Value → H) :
    ReturnsInHanded {} Try.checked os 3 .any (Rows.editorValidsSpec.pre6 enc Try.prog Try.f3 Rows.editorValidsRow.domain false) (Rows.editorValidsSpec.post enc Try.prog Try.f3 false true false false) := by
  refine law_lift_ab (C := Try.checked) (tb := 4) [shEr] (by kernel_rfl) knob started (by kernel_rfl) Try.func3 laidOut rfl Try.underlying4 rfl (by kernel_rfl) (fun ds hds => ?_)
    (ChangeSpec.witness6 (enc := enc) (C := Try.checked) false ⟨#[], #[.agg #[.string ⟨#[]⟩, .int .i64 0, .int .i64 0, .slice none 0 0, .slice none 0 0, .slice none 0 0, .string ⟨#[]⟩, .int .i64 0, .int .i64 0, .string ⟨#[]⟩]], []⟩ 8 (by kernel_rfl) (by kernel_rfl) (by kernel_rfl) (by kernel_rfl)) (fun ds hz => ?_)
  · match ds, hds with
    | [d1], _ => rfl
  · rw [avAs, avAs, avA_er]; exact editorValids_ab _ (szd_er hz.1)
theorem editorValids_holds : Rows.EditorValidsSaid :=
  OpenClaim.holds_of_wide 3 Try.f3 rfl rfl rfl rfl rfl rfl rfl ⟨rfl, rfl, rfl, rfl, rfl⟩ rfl rfl rfl rfl rfl (by kernel_rfl) Try.func3 (by kernel_rfl)
    (of_decide_eq_true (by kernel_rfl)) (by unfold Func.isWrapper; first | (rw [if_pos (by decide +kernel)]; kernel_rfl) | (rw [if_neg (by decide +kernel)]; exact ⟨rfl, rfl⟩))
    (fun os started H enc _ => editorValids_lifted os started H enc)
#print axioms editorValids_holds
end Go.Proofs.Ytapmolfpkhfpgaa
