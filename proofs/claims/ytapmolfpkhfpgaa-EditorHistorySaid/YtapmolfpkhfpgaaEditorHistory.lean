/- AcUp followed by AcDown restores the line: the law EditorHistory returns true for every input. -/
import Derived.Test.YtapmolfpkhfpgaaEsO
import Derived.Test.YtapmolfpkhfpgaaEsN
namespace Go.Proofs.Ytapmolfpkhfpgaa
open Go.ChangeShapes Go.WideShapes Go.ChangeAt Go.RowKit
set_option linter.unusedVariables false
set_option linter.unusedSimpArgs false
set_option maxRecDepth 100000 in
theorem editorHistory_lifted (os : Os) (started : os.Started) (H : Type) (enc : TypeId × Value → H) :
    ReturnsInHanded {} Try.checked os 8 .any (Rows.editorHistorySpec.pre6 enc Try.prog Try.f8 Rows.editorHistoryRow.domain false) (Rows.editorHistorySpec.post enc Try.prog Try.f8 false true false false) := by
  refine law_lift_ab (C := Try.checked) (tb := 4) [shEr, shHs] (by kernel_rfl) knob started (by kernel_rfl) Try.func8 laidOut rfl Try.underlying4 rfl (by kernel_rfl) (fun ds hds => ?_)
    (ChangeSpec.witness6 (enc := enc) (C := Try.checked) false ⟨#[], #[.agg #[.string ⟨#[]⟩, .int .i64 0, .int .i64 0, .slice none 0 0, .slice none 0 0, .slice none 0 0, .string ⟨#[]⟩, .int .i64 0, .int .i64 0, .string ⟨#[]⟩], .agg #[.int .i64 0, .slice none 0 0]], []⟩ 8 (by kernel_rfl) (by kernel_rfl) (by kernel_rfl) (by kernel_rfl)) (fun ds hz => ?_)
  · match ds, hds with
    | [d1, d2], _ => rfl
  · rw [avAs, avAs, avAs, avA_er, avA_hs]; exact editorHistory_ab _ _ _ (szd_er hz.1) (szd_hs hz.2.1).1 (szd_hs hz.2.1).2
theorem editorHistory_holds : Rows.EditorHistorySaid :=
  OpenClaim.holds_of_wide 8 Try.f8 rfl rfl rfl rfl rfl rfl rfl ⟨rfl, rfl, rfl, rfl, rfl⟩ rfl rfl rfl rfl rfl (by kernel_rfl) Try.func8 (by kernel_rfl)
    (of_decide_eq_true (by kernel_rfl)) (by unfold Func.isWrapper; first | (rw [if_pos (by decide +kernel)]; kernel_rfl) | (rw [if_neg (by decide +kernel)]; exact ⟨rfl, rfl⟩))
    (fun os started H enc _ => editorHistory_lifted os started H enc)
#print axioms editorHistory_holds
end Go.Proofs.Ytapmolfpkhfpgaa
