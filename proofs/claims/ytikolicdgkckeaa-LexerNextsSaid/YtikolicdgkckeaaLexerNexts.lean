/- Next agrees with the specification at any offset, including the error and its offset: the law LexerNexts returns true for every input. -/
import Derived.Test.YtikolicdgkckeaaLxK
namespace Go.Proofs.Ytikolicdgkckeaa
open Go.ChangeShapes Go.WideShapes Go.ChangeAt Go.RowKit
set_option linter.unusedVariables false
set_option linter.unusedSimpArgs false
set_option maxRecDepth 100000 in
theorem lexerNexts_lifted (os : Os) (started : os.Started) (H : Type) (enc : TypeId × Value → H) :
    ReturnsInHanded {} Try.checked os 6 .any (Rows.lexerNextsSpec.pre6 enc Try.prog Try.f6 Rows.lexerNextsRow.domain false) (Rows.lexerNextsSpec.post enc Try.prog Try.f6 false true false false) := by
  refine law_lift_ab (C := Try.checked) (tb := 4) [.str, .int .i64] (by kernel_rfl) knob started (by kernel_rfl) Try.func6 laidOut rfl Try.underlying4 rfl (by kernel_rfl) (fun ds hds => ?_)
    (ChangeSpec.witness6 (enc := enc) (C := Try.checked) false ⟨#[], #[.string ⟨#[]⟩, .int .i64 0], []⟩ 8 (by kernel_rfl) (by kernel_rfl) (by kernel_rfl) (by kernel_rfl)) (fun ds hz => ?_)
  · match ds, hds with
    | [d1, d2], _ => rfl
  · rw [avAs, avAs, avAs]; exact lexerNexts_ab _ _ hz.1
theorem lexerNexts_holds : Rows.LexerNextsSaid :=
  OpenClaim.holds_of_wide 6 Try.f6 rfl rfl rfl rfl rfl rfl rfl ⟨rfl, rfl, rfl, rfl, rfl⟩ rfl rfl rfl rfl rfl (by kernel_rfl) Try.func6 (by kernel_rfl)
    (of_decide_eq_true (by kernel_rfl)) (by unfold Func.isWrapper; first | (rw [if_pos (by decide +kernel)]; kernel_rfl) | (rw [if_neg (by decide +kernel)]; exact ⟨rfl, rfl⟩))
    (fun os started H enc _ => lexerNexts_lifted os started H enc)
#print axioms lexerNexts_holds
end Go.Proofs.Ytikolicdgkckeaa
