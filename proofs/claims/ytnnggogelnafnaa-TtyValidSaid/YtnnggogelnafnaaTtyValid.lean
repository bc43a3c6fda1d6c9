/- Valid returns the specified error for every terminal within R26.Small: the law TtyValid returns true for every input. -/
import Derived.Test.YtnnggogelnafnaaTtK
namespace Go.Proofs.Ytnnggogelnafnaa
open Go.ChangeShapes Go.WideShapes Go.ChangeAt Go.RowKit
set_option linter.unusedVariables false
set_option linter.unusedSimpArgs false
set_option maxRecDepth 100000 in
theorem ttyValid_lifted (os : Os) (started : os.Started) (H : Type) (enc : TypeId × Value → H) :
    ReturnsInHanded {} Try.checked os 7 .any (Rows.ttyValidSpec.pre6 enc Try.prog Try.f7 Rows.ttyValidRow.domain false) (Rows.ttyValidSpec.post enc Try.prog Try.f7 false true false false) := by
  refine law_lift_ab (C := Try.checked) (tb := 4) [shT] (by kernel_rfl) knob started (by kernel_rfl) Try.func7 laidOut rfl Try.underlying4 rfl (by kernel_rfl) (fun ds hds => ?_)
    (ChangeSpec.witness6 (enc := enc) (C := Try.checked) false ⟨#[], #[.agg #[.int .i64 0, .int .i64 0, .string ⟨#[]⟩, .slice none 0 0, .string ⟨#[]⟩, .bool false]], []⟩ 8 (by kernel_rfl) (by kernel_rfl) (by kernel_rfl) (by kernel_rfl)) (fun ds hz => ?_)
  · match ds, hds with
    | [d1], _ => rfl
  · rw [avAs, avAs, avA_tty]; exact ttyValid_ab _ (szd_tty hz.1)
theorem ttyValid_holds : Rows.TtyValidSaid :=
  OpenClaim.holds_of_wide 7 Try.f7 rfl rfl rfl rfl rfl rfl rfl ⟨rfl, rfl, rfl, rfl, rfl⟩ rfl rfl rfl rfl rfl (by kernel_rfl) Try.func7 (by kernel_rfl)
    (of_decide_eq_true (by kernel_rfl)) (by unfold Func.isWrapper; first | (rw [if_pos (by decide +kernel)]; kernel_rfl) | (rw [if_neg (by decide +kernel)]; exact ⟨rfl, rfl⟩))
    (fun os started H enc _ => ttyValid_lifted os started H enc)
#print axioms ttyValid_holds
end Go.Proofs.Ytnnggogelnafnaa
