/- undo restores the line before an action that changed it, and redo the result of the action: the law EditorUndoes returns true for every input. -/
import Derived.Test.YtapmolfpkhfpgaaEsP
import Derived.Test.YtapmolfpkhfpgaaEsN
namespace Go.Proofs.Ytapmolfpkhfpgaa
open Go.ChangeShapes Go.WideShapes Go.ChangeAt Go.RowKit
set_option linter.unusedVariables false
set_option linter.unusedSimpArgs false
set_option maxRecDepth 100000 in
theorem editorUndoes_lifted (os : Os) (started : os.Started) (H : Type) (enc : TypeId × Value → H) :
    ReturnsInHanded {} Try.checked os 7 .any (Rows.editorUndoesSpec.pre6 enc Try.prog Try.f7 Rows.editorUndoesRow.domain false) (Rows.editorUndoesSpec.post enc Try.prog Try.f7 false true false false) := by
  refine law_lift_ab (C := Try.checked) (tb := 4) [shEr, shCall, shHs] (by kernel_rfl) knob started (by kernel_rfl) Try.func7 laidOut rfl Try.underlying4 rfl (by kernel_rfl) (fun ds hds => ?_)
    (ChangeSpec.witness6 (enc := enc) (C := Try.checked) false ⟨#[], #[.agg #[.string ⟨#[]⟩, .int .i64 0, .int .i64 0, .slice none 0 0, .slice none 0 0, .slice none 0 0, .string ⟨#[]⟩, .int .i64 0, .int .i64 0, .string ⟨#[]⟩], .agg #[.int .i64 0, .string ⟨#[]⟩], .agg #[.int .i64 0, .slice none 0 0]], []⟩ 8 (by kernel_rfl) (by kernel_rfl) (by kernel_rfl) (by kernel_rfl)) (fun ds hz => ?_)
  · match ds, hds with
    | [d1, d2, d3], _ => rfl
  · rw [avAs, avAs, avAs, avAs, avA_er, avA_hs]; exact editorUndoes_ab _ _ _ _ _ (szd_er hz.1) (Nat.le_trans (szd_str hz.2.1.2.1) (by omega)) (szd_hs hz.2.2.1).1 (szd_hs hz.2.2.1).2
theorem editorUndoes_holds : Rows.EditorUndoesSaid :=
  OpenClaim.holds_of_wide 7 Try.f7 rfl rfl rfl rfl rfl rfl rfl ⟨rfl, rfl, rfl, rfl, rfl⟩ rfl rfl rfl rfl rfl (by kernel_rfl) Try.func7 (by kernel_rfl)
    (of_decide_eq_true (by kernel_rfl)) (by unfold Func.isWrapper; first | (rw [if_pos (by decide +kernel)]; kernel_rfl) | (rw [if_neg (by decide +kernel)]; exact ⟨rfl, rfl⟩))
    (fun os started H enc _ => editorUndoes_lifted os started H enc)
#print axioms editorUndoes_holds
end Go.Proofs.Ytapmolfpkhfpgaa
