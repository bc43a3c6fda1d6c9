/- the tokens are substrings of the source, with only skipped bytes between them: the law LexerCovers returns true for every input. -/
import Derived.Test.YtikolicdgkckeaaLxM
namespace Go.Proofs.Ytikolicdgkckeaa
open Go.ChangeShapes Go.WideShapes Go.ChangeAt Go.RowKit
set_option linter.unusedVariables false
set_option linter.unusedSimpArgs false
set_option maxRecDepth 100000 in
theorem lexerCovers_lifted (os : Os) (started : os.Started) (H : Type) (enc : TypeId × Value → H) :
    ReturnsInHanded {} Try.checked os 9 .any (Rows.lexerCoversSpec.pre6 enc Try.prog Try.f9 Rows.lexerCoversRow.domain false) (Rows.lexerCoversSpec.post enc Try.prog Try.f9 false true false false) := by
  refine law_lift_ab (C := Try.checked) (tb := 4) [.str] (by kernel_rfl) knob started (by kernel_rfl) Try.func9 laidOut rfl Try.underlying4 rfl (by kernel_rfl) (fun ds hds => ?_)
    (ChangeSpec.witness6 (enc := enc) (C := Try.checked) false ⟨#[], #[.string ⟨#[]⟩], []⟩ 8 (by kernel_rfl) (by kernel_rfl) (by kernel_rfl) (by kernel_rfl)) (fun ds hz => ?_)
  · match ds, hds with
    | [d1], _ => rfl
  · rw [avAs, avAs]; exact lexerCovers_ab _ hz.1
theorem lexerCovers_holds : Rows.LexerCoversSaid :=
  OpenClaim.holds_of_wide 9 Try.f9 rfl rfl rfl rfl rfl rfl rfl ⟨rfl, rfl, rfl, rfl, rfl⟩ rfl rfl rfl rfl rfl (by kernel_rfl) Try.func9 (by kernel_rfl)
    (of_decide_eq_true (by kernel_rfl)) (by unfold Func.isWrapper; first | (rw [if_pos (by decide +kernel)]; kernel_rfl) | (rw [if_neg (by decide +kernel)]; exact ⟨rfl, rfl⟩))
    (fun os started H enc _ => lexerCovers_lifted os started H enc)
#print axioms lexerCovers_holds
end Go.Proofs.Ytikolicdgkckeaa
