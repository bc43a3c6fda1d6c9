/- Do agrees with the specification for a valid editor, and returns a valid one: the law EditorDoes returns true for every input. -/
import Derived.Test.YtapmolfpkhfpgaaEsM
import Derived.Test.YtapmolfpkhfpgaaEsN
namespace Go.Proofs.Ytapmolfpkhfpgaa
open Go.ChangeShapes Go.WideShapes Go.ChangeAt Go.RowKit
set_option linter.unusedVariables false
set_option linter.unusedSimpArgs false
set_option maxRecDepth 100000 in
theorem editorDoes_lifted (os : Os) (started : os.Started) (H : Type) (enc : TypeId × Value → H) :
    ReturnsInHanded {} Try.checked os 4 .any (Rows.editorDoesSpec.pre6 enc Try.prog Try.f4 Rows.editorDoesRow.domain false) (Rows.editorDoesSpec.post enc Try.prog Try.f4 false true false false) := by
  refine law_lift_ab (C := Try.checked) (tb := 4) [shEr, shCall, shHs] (by kernel_rfl) knob started (by kernel_rfl) Try.func4 laidOut rfl Try.underlying4 rfl (by kernel_rfl) (fun ds hds => ?_)
    (ChangeSpec.witness6 (enc := enc) (C := Try.checked) false ⟨#[], #[.agg #[.string ⟨#[]⟩, .int .i64 0, .int .i64 0, .slice none 0 0, .slice none 0 0, .slice none 0 0, .string ⟨#[]⟩, .int .i64 0, .int .i64 0, .string ⟨#[]⟩], .agg #[.int .i64 0, .string ⟨#[]⟩], .agg #[.int .i64 0, .slice none 0 0]], []⟩ 8 (by kernel_rfl) (by kernel_rfl) (by kernel_rfl) (by kernel_rfl)) (fun ds hz => ?_)
  · match ds, hds with
    | [d1, d2, d3], _ => rfl
  · rw [avAs, avAs, avAs, avAs, avA_er, avA_hs]; exact editorDoes_ab _ _ _ _ _ (szd_er hz.1) (Nat.le_trans (szd_str hz.2.1.2.1) (by omega)) (szd_hs hz.2.2.1).1 (szd_hs hz.2.2.1).2
theorem editorDoes_holds : Rows.EditorDoesSaid :=
  OpenClaim.holds_of_wide 4 Try.f4 rfl rfl rfl rfl rfl rfl rfl ⟨rfl, rfl, rfl, rfl, rfl⟩ rfl rfl rfl rfl rfl (by kernel_rfl) Try.func4 (by kernel_rfl)
    (of_decide_eq_true (by kernel_rfl)) (by unfold Func.isWrapper; first | (rw [if_pos (by decide +kernel)]; kernel_rfl) | (rw [if_neg (by decide +kernel)]; exact ⟨rfl, rfl⟩))
    (fun os started H enc _ => editorDoes_lifted os started H enc)
#print axioms editorDoes_holds
end Go.Proofs.Ytapmolfpkhfpgaa
