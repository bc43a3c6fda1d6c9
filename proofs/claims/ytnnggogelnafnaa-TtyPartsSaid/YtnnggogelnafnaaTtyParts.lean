/- Feed of two strings in succession equals Feed of their concatenation: the law TtyParts returns true for every input. -/
import Derived.Test.YtnnggogelnafnaaTtK
import Derived.Test.YtnnggogelnafnaaTtM
namespace Go.Proofs.Ytnnggogelnafnaa
open Go.ChangeShapes Go.WideShapes Go.ChangeAt Go.RowKit
set_option linter.unusedVariables false
set_option linter.unusedSimpArgs false
set_option maxRecDepth 100000 in
theorem ttyParts_lifted (os : Os) (started : os.Started) (H : Type) (enc : TypeId × Value → H) :
    ReturnsInHanded {} Try.checked os 5 .any (Rows.ttyPartsSpec.pre6 enc Try.prog Try.f5 Rows.ttyPartsRow.domain false) (Rows.ttyPartsSpec.post enc Try.prog Try.f5 false true false false) := by
  refine law_lift_ab (C := Try.checked) (tb := 4) [shT, .str, .str] (by kernel_rfl) knob started (by kernel_rfl) Try.func5 laidOut rfl Try.underlying4 rfl (by kernel_rfl) (fun ds hds => ?_)
    (ChangeSpec.witness6 (enc := enc) (C := Try.checked) false ⟨#[], #[.agg #[.int .i64 0, .int .i64 0, .string ⟨#[]⟩, .slice none 0 0, .string ⟨#[]⟩, .bool false], .string ⟨#[]⟩, .string ⟨#[]⟩], []⟩ 8 (by kernel_rfl) (by kernel_rfl) (by kernel_rfl) (by kernel_rfl)) (fun ds hz => ?_)
  · match ds, hds with
    | [d1, d2, d3], _ => rfl
  · rw [avAs, avAs, avAs, avAs, avA_tty]; exact ttyParts_ab _ _ _ (szd_tty hz.1) hz.2.1 hz.2.2.1
theorem ttyParts_holds : Rows.TtyPartsSaid :=
  OpenClaim.holds_of_wide 5 Try.f5 rfl rfl rfl rfl rfl rfl rfl ⟨rfl, rfl, rfl, rfl, rfl⟩ rfl rfl rfl rfl rfl (by kernel_rfl) Try.func5 (by kernel_rfl)
    (of_decide_eq_true (by kernel_rfl)) (by unfold Func.isWrapper; first | (rw [if_pos (by decide +kernel)]; kernel_rfl) | (rw [if_neg (by decide +kernel)]; exact ⟨rfl, rfl⟩))
    (fun os started H enc _ => ttyParts_lifted os started H enc)
#print axioms ttyParts_holds
end Go.Proofs.Ytnnggogelnafnaa
