/- the tokens of two sources on separate lines are those of both, with a newline between them: the law LexerLines returns true for every input. -/
import Derived.Test.YtikolicdgkckeaaLxN
namespace Go.Proofs.Ytikolicdgkckeaa
open Go.ChangeShapes Go.WideShapes Go.ChangeAt Go.RowKit
set_option linter.unusedVariables false
set_option linter.unusedSimpArgs false
set_option maxRecDepth 100000 in
theorem lexerLines_lifted (os : Os) (started : os.Started) (H : Type) (enc : TypeId × Value → H) :
    ReturnsInHanded {} Try.checked os 10 .any (Rows.lexerLinesSpec.pre6 enc Try.prog Try.f10 Rows.lexerLinesRow.domain false) (Rows.lexerLinesSpec.post enc Try.prog Try.f10 false true false false) := by
  refine law_lift_ab (C := Try.checked) (tb := 4) [.str, .str] (by kernel_rfl) knob started (by kernel_rfl) Try.func10 laidOut rfl Try.underlying4 rfl (by kernel_rfl) (fun ds hds => ?_)
    (ChangeSpec.witness6 (enc := enc) (C := Try.checked) false ⟨#[], #[.string ⟨#[]⟩, .string ⟨#[]⟩], []⟩ 8 (by kernel_rfl) (by kernel_rfl) (by kernel_rfl) (by kernel_rfl)) (fun ds hz => ?_)
  · match ds, hds with
    | [d1, d2], _ => rfl
  · rw [avAs, avAs, avAs]; exact lexerLines_ab _ _ hz.1 hz.2.1
theorem lexerLines_holds : Rows.LexerLinesSaid :=
  OpenClaim.holds_of_wide 10 Try.f10 rfl rfl rfl rfl rfl rfl rfl ⟨rfl, rfl, rfl, rfl, rfl⟩ rfl rfl rfl rfl rfl (by kernel_rfl) Try.func10 (by kernel_rfl)
    (of_decide_eq_true (by kernel_rfl)) (by unfold Func.isWrapper; first | (rw [if_pos (by decide +kernel)]; kernel_rfl) | (rw [if_neg (by decide +kernel)]; exact ⟨rfl, rfl⟩))
    (fun os started H enc _ => lexerLines_lifted os started H enc)
#print axioms lexerLines_holds
end Go.Proofs.Ytikolicdgkckeaa
