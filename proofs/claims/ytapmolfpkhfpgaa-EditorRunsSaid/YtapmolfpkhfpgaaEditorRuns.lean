/- Key agrees with the specification for any sequence of keys in a new editor: the law EditorRuns returns true for every input. -/
import Derived.Test.YtapmolfpkhfpgaaEsR
import Derived.Test.YtapmolfpkhfpgaaEsN
namespace Go.Proofs.Ytapmolfpkhfpgaa
open Go.ChangeShapes Go.WideShapes Go.ChangeAt Go.RowKit
set_option linter.unusedVariables false
set_option linter.unusedSimpArgs false
set_option maxRecDepth 100000 in
theorem editorRuns_lifted (os : Os) (started : os.Started) (H : Type) (enc : TypeId × Value → H) :
    ReturnsInHanded {} Try.checked os 6 .any (Rows.editorRunsSpec.pre6 enc Try.prog Try.f6 Rows.editorRunsRow.domain false) (Rows.editorRunsSpec.post enc Try.prog Try.f6 false true false false) := by
  refine law_lift_ab (C := Try.checked) (tb := 4) [.str, shHs] (by kernel_rfl) knob started (by kernel_rfl) Try.func6 laidOut rfl Try.underlying4 rfl (by kernel_rfl) (fun ds hds => ?_)
    (ChangeSpec.witness6 (enc := enc) (C := Try.checked) false ⟨#[], #[.string ⟨#[]⟩, .agg #[.int .i64 0, .slice none 0 0]], []⟩ 8 (by kernel_rfl) (by kernel_rfl) (by kernel_rfl) (by kernel_rfl)) (fun ds hz => ?_)
  · match ds, hds with
    | [d1, d2], _ => rfl
  · rw [avAs, avAs, avAs, avA_hs]; exact editorRuns_ab _ _ _ (Nat.le_trans (szd_str hz.1) (by omega)) (szd_hs hz.2.1).1 (szd_hs hz.2.1).2
theorem editorRuns_holds : Rows.EditorRunsSaid :=
  OpenClaim.holds_of_wide 6 Try.f6 rfl rfl rfl rfl rfl rfl rfl ⟨rfl, rfl, rfl, rfl, rfl⟩ rfl rfl rfl rfl rfl (by kernel_rfl) Try.func6 (by kernel_rfl)
    (of_decide_eq_true (by kernel_rfl)) (by unfold Func.isWrapper; first | (rw [if_pos (by decide +kernel)]; kernel_rfl) | (rw [if_neg (by decide +kernel)]; exact ⟨rfl, rfl⟩))
    (fun os started H enc _ => editorRuns_lifted os started H enc)
#print axioms editorRuns_holds
end Go.Proofs.Ytapmolfpkhfpgaa
