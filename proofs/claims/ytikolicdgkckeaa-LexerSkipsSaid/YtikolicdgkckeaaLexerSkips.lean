/- Skip agrees with the specification: the law LexerSkips returns true for every input. -/
import Derived.Test.YtikolicdgkckeaaLxK
namespace Go.Proofs.Ytikolicdgkckeaa
open Go.ChangeShapes Go.WideShapes Go.ChangeAt Go.RowKit
set_option linter.unusedVariables false
set_option linter.unusedSimpArgs false
set_option maxRecDepth 100000 in
theorem lexerSkips_lifted (os : Os) (started : os.Started) (H : Type) (enc : TypeId × Value → H) :
    ReturnsInHanded {} Try.checked os 4 .any (Rows.lexerSkipsSpec.pre6 enc Try.prog Try.f4 Rows.lexerSkipsRow.domain false) (Rows.lexerSkipsSpec.post enc Try.prog Try.f4 false true false false) := by
  refine law_lift_ab (C := Try.checked) (tb := 4) [.str, .int .i64] (by kernel_rfl) knob started (by kernel_rfl) Try.func4 laidOut rfl Try.underlying4 rfl (by kernel_rfl) (fun ds hds => ?_)
    (ChangeSpec.witness6 (enc := enc) (C := Try.checked) false ⟨#[], #[.string ⟨#[]⟩, .int .i64 0], []⟩ 8 (by kernel_rfl) (by kernel_rfl) (by kernel_rfl) (by kernel_rfl)) (fun ds hz => ?_)
  · match ds, hds with
    | [d1, d2], _ => rfl
  · rw [avAs, avAs, avAs]; exact lexerSkips_ab _ _ hz.1
theorem lexerSkips_holds : Rows.LexerSkipsSaid :=
  OpenClaim.holds_of_wide 4 Try.f4 rfl rfl rfl rfl rfl rfl rfl ⟨rfl, rfl, rfl, rfl, rfl⟩ rfl rfl rfl rfl rfl (by kernel_rfl) Try.func4 (by kernel_rfl)
    (of_decide_eq_true (by kernel_rfl)) (by unfold Func.isWrapper; first | (rw [if_pos (by decide +kernel)]; kernel_rfl) | (rw [if_neg (by decide +kernel)]; exact ⟨rfl, rfl⟩))
    (fun os started H enc _ => lexerSkips_lifted os started H enc)
#print axioms lexerSkips_holds
end Go.Proofs.Ytikolicdgkckeaa
