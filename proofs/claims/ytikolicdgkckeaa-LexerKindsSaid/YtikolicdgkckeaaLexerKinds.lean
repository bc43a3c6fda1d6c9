/- Operator and Reserved agree with the specification: the law LexerKinds returns true for every input. -/
import Derived.Test.YtikolicdgkckeaaLxK
namespace Go.Proofs.Ytikolicdgkckeaa
open Go.ChangeShapes Go.WideShapes Go.ChangeAt Go.RowKit
set_option linter.unusedVariables false
set_option linter.unusedSimpArgs false
set_option maxRecDepth 100000 in
theorem lexerKinds_lifted (os : Os) (started : os.Started) (H : Type) (enc : TypeId × Value → H) :
    ReturnsInHanded {} Try.checked os 3 .any (Rows.lexerKindsSpec.pre6 enc Try.prog Try.f3 Rows.lexerKindsRow.domain false) (Rows.lexerKindsSpec.post enc Try.prog Try.f3 false true false false) := by
  refine law_lift_ab (C := Try.checked) (tb := 4) [.str] (by kernel_rfl) knob started (by kernel_rfl) Try.func3 laidOut rfl Try.underlying4 rfl (by kernel_rfl) (fun ds hds => ?_)
    (ChangeSpec.witness6 (enc := enc) (C := Try.checked) false ⟨#[], #[.string ⟨#[]⟩], []⟩ 8 (by kernel_rfl) (by kernel_rfl) (by kernel_rfl) (by kernel_rfl)) (fun ds hz => ?_)
  · match ds, hds with
    | [d1], _ => rfl
  · rw [avAs, avAs]; exact lexerKinds_ab _ hz.1
theorem lexerKinds_holds : Rows.LexerKindsSaid :=
  OpenClaim.holds_of_wide 3 Try.f3 rfl rfl rfl rfl rfl rfl rfl ⟨rfl, rfl, rfl, rfl, rfl⟩ rfl rfl rfl rfl rfl (by kernel_rfl) Try.func3 (by kernel_rfl)
    (of_decide_eq_true (by kernel_rfl)) (by unfold Func.isWrapper; first | (rw [if_pos (by decide +kernel)]; kernel_rfl) | (rw [if_neg (by decide +kernel)]; exact ⟨rfl, rfl⟩))
    (fun os started H enc _ => lexerKinds_lifted os started H enc)
#print axioms lexerKinds_holds
end Go.Proofs.Ytikolicdgkckeaa
