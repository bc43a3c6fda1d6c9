/- the quoted form of any string is one word: the law LexerQuoted returns true for every input. -/
import Derived.Test.YtikolicdgkckeaaLxO
namespace Go.Proofs.Ytikolicdgkckeaa
open Go.ChangeShapes Go.WideShapes Go.ChangeAt Go.RowKit
set_option linter.unusedVariables false
set_option linter.unusedSimpArgs false
set_option maxRecDepth 100000 in
theorem lexerQuoted_lifted (os : Os) (started : os.Started) (H : Type) (enc : TypeId × Value → H) :
    ReturnsInHanded {} Try.checked os 11 .any (Rows.lexerQuotedSpec.pre6 enc Try.prog Try.f11 Rows.lexerQuotedRow.domain false) (Rows.lexerQuotedSpec.post enc Try.prog Try.f11 false true false false) := by
  refine law_lift_ab (C := Try.checked) (tb := 4) [.str] (by kernel_rfl) knob started (by kernel_rfl) Try.func11 laidOut rfl Try.underlying4 rfl (by kernel_rfl) (fun ds hds => ?_)
    (ChangeSpec.witness6 (enc := enc) (C := Try.checked) false ⟨#[], #[.string ⟨#[]⟩], []⟩ 8 (by kernel_rfl) (by kernel_rfl) (by kernel_rfl) (by kernel_rfl)) (fun ds hz => ?_)
  · match ds, hds with
    | [d1], _ => rfl
  · rw [avAs, avAs]; exact lexerQuoted_ab _ hz.1
theorem lexerQuoted_holds : Rows.LexerQuotedSaid :=
  OpenClaim.holds_of_wide 11 Try.f11 rfl rfl rfl rfl rfl rfl rfl ⟨rfl, rfl, rfl, rfl, rfl⟩ rfl rfl rfl rfl rfl (by kernel_rfl) Try.func11 (by kernel_rfl)
    (of_decide_eq_true (by kernel_rfl)) (by unfold Func.isWrapper; first | (rw [if_pos (by decide +kernel)]; kernel_rfl) | (rw [if_neg (by decide +kernel)]; exact ⟨rfl, rfl⟩))
    (fun os started H enc _ => lexerQuoted_lifted os started H enc)
#print axioms lexerQuoted_holds
end Go.Proofs.Ytikolicdgkckeaa
