/- Key agrees with the specification for a valid editor: the law EditorKeys returns true for every input. -/
import Derived.Test.YtapmolfpkhfpgaaEsQ
import Derived.Test.YtapmolfpkhfpgaaEsN
namespace Go.Proofs.Ytapmolfpkhfpgaa
open Go.ChangeShapes Go.WideShapes Go.ChangeAt Go.RowKit
set_option linter.unusedVariables false
set_option linter.unusedSimpArgs false
set_option maxRecDepth 100000 in
theorem editorKeys_lifted (os : Os) (started : os.Started) (H : Type) (enc : TypeId × Value → H) :
    ReturnsInHanded {} Try.checked os 5 .any (Rows.editorKeysSpec.pre6 enc Try.prog Try.f5 Rows.editorKeysRow.domain false) (Rows.editorKeysSpec.post enc Try.prog Try.f5 false true false false) := by
  refine law_lift_ab (C := Try.checked) (tb := 4) [shEr, shPr, shHs] (by kernel_rfl) knob started (by kernel_rfl) Try.func5 laidOut rfl Try.underlying4 rfl (by kernel_rfl) (fun ds hds => ?_)
    (ChangeSpec.witness6 (enc := enc) (C := Try.checked) false ⟨#[], #[.agg #[.string ⟨#[]⟩, .int .i64 0, .int .i64 0, .slice none 0 0, .slice none 0 0, .slice none 0 0, .string ⟨#[]⟩, .int .i64 0, .int .i64 0, .string ⟨#[]⟩], .agg #[.slice none 0 0, .int .u8 0], .agg #[.int .i64 0, .slice none 0 0]], []⟩ 8 (by kernel_rfl) (by kernel_rfl) (by kernel_rfl) (by kernel_rfl)) (fun ds hz => ?_)
  · match ds, hds with
    | [d1, d2, d3], _ => rfl
  · rw [avAs, avAs, avAs, avAs, avA_er, avA_pr hz.2.1, avA_hs]; exact editorKeys_ab _ _ _ _ _ (szd_er hz.1) (szd_bis hz.2.1.1).1 (szd_bis hz.2.1.1).2 (szd_hs hz.2.2.1).1 (szd_hs hz.2.2.1).2
theorem editorKeys_holds : Rows.EditorKeysSaid :=
  OpenClaim.holds_of_wide 5 Try.f5 rfl rfl rfl rfl rfl rfl rfl ⟨rfl, rfl, rfl, rfl, rfl⟩ rfl rfl rfl rfl rfl (by kernel_rfl) Try.func5 (by kernel_rfl)
    (of_decide_eq_true (by kernel_rfl)) (by unfold Func.isWrapper; first | (rw [if_pos (by decide +kernel)]; kernel_rfl) | (rw [if_neg (by decide +kernel)]; exact ⟨rfl, rfl⟩))
    (fun os started H enc _ => editorKeys_lifted os started H enc)
#print axioms editorKeys_holds
end Go.Proofs.Ytapmolfpkhfpgaa
