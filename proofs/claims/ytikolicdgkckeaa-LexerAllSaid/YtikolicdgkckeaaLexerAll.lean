/- All agrees with the specification, including the error and its offset: the law LexerAll returns true for every input. -/
import Derived.Test.YtikolicdgkckeaaLxK
namespace Go.Proofs.Ytikolicdgkckeaa
open Go.ChangeShapes Go.WideShapes Go.ChangeAt Go.RowKit
set_option linter.unusedVariables false
set_option linter.unusedSimpArgs false
set_option maxRecDepth 100000 in
theorem lexerAll_lifted (os : Os) (started : os.Started) (H : Type) (enc : TypeId × Value → H) :
    ReturnsInHanded {} Try.checked os 7 .any (Rows.lexerAllSpec.pre6 enc Try.prog Try.f7 Rows.lexerAllRow.domain false) (Rows.lexerAllSpec.post enc Try.prog Try.f7 false true false false) := by
  refine law_lift_ab (C := Try.checked) (tb := 4) [.str] (by kernel_rfl) knob started (by kernel_rfl) Try.func7 laidOut rfl Try.underlying4 rfl (by kernel_rfl) (fun ds hds => ?_)
    (ChangeSpec.witness6 (enc := enc) (C := Try.checked) false ⟨#[], #[.string ⟨#[]⟩], []⟩ 8 (by kernel_rfl) (by kernel_rfl) (by kernel_rfl) (by kernel_rfl)) (fun ds hz => ?_)
  · match ds, hds with
    | [d1], _ => rfl
  · rw [avAs, avAs]; exact lexerAll_ab _ hz.1
theorem lexerAll_holds : Rows.LexerAllSaid :=
  OpenClaim.holds_of_wide 7 Try.f7 rfl rfl rfl rfl rfl rfl rfl ⟨rfl, rfl, rfl, rfl, rfl⟩ rfl rfl rfl rfl rfl (by kernel_rfl) Try.func7 (by kernel_rfl)
    (of_decide_eq_true (by kernel_rfl)) (by unfold Func.isWrapper; first | (rw [if_pos (by decide +kernel)]; kernel_rfl) | (rw [if_neg (by decide +kernel)]; exact ⟨rfl, rfl⟩))
    (fun os started H enc _ => lexerAll_lifted os started H enc)
#print axioms lexerAll_holds
end Go.Proofs.Ytikolicdgkckeaa
