/- a source of more than MaxText bytes is ErrTooLong, and one of exactly MaxText bytes is not: the law LexerLong returns true for every input. -/
import Derived.Test.YtikolicdgkckeaaLxL
namespace Go.Proofs.Ytikolicdgkckeaa
open Go.ChangeShapes Go.WideShapes Go.ChangeAt Go.RowKit
set_option linter.unusedVariables false
set_option linter.unusedSimpArgs false
set_option maxRecDepth 100000 in
theorem lexerLong_lifted (os : Os) (started : os.Started) (H : Type) (enc : TypeId × Value → H) :
    ReturnsInHanded {} Try.checked os 8 .any (Rows.lexerLongSpec.pre6 enc Try.prog Try.f8 Rows.lexerLongRow.domain false) (Rows.lexerLongSpec.post enc Try.prog Try.f8 false true false false) := by
  refine law_lift_ab (C := Try.checked) (tb := 4) [.int .u8] (by kernel_rfl) knob started (by kernel_rfl) Try.func8 laidOut rfl Try.underlying4 rfl (by kernel_rfl) (fun ds hds => ?_)
    (ChangeSpec.witness6 (enc := enc) (C := Try.checked) false ⟨#[], #[.int .u8 0], []⟩ 8 (by kernel_rfl) (by kernel_rfl) (by kernel_rfl) (by kernel_rfl)) (fun ds hz => ?_)
  · match ds, hds with
    | [d1], _ => rfl
  · rw [avAs, avAs]; exact lexerLong_ab _ (bounds_u8 hz.1)
theorem lexerLong_holds : Rows.LexerLongSaid :=
  OpenClaim.holds_of_wide 8 Try.f8 rfl rfl rfl rfl rfl rfl rfl ⟨rfl, rfl, rfl, rfl, rfl⟩ rfl rfl rfl rfl rfl (by kernel_rfl) Try.func8 (by kernel_rfl)
    (of_decide_eq_true (by kernel_rfl)) (by unfold Func.isWrapper; first | (rw [if_pos (by decide +kernel)]; kernel_rfl) | (rw [if_neg (by decide +kernel)]; exact ⟨rfl, rfl⟩))
    (fun os started H enc _ => lexerLong_lifted os started H enc)
#print axioms lexerLong_holds
end Go.Proofs.Ytikolicdgkckeaa
