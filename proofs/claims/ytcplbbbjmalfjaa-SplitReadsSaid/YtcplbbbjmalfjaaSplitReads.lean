/- Read returns the values of any number of variables for every line: the law SplitReads returns true for every input. -/
import Derived.Test.YtcplbbbjmalfjaaSpX
import Derived.Test.YtcplbbbjmalfjaaSpL
namespace Go.Proofs.Ytcplbbbjmalfjaa
open Go.ChangeShapes Go.WideShapes Go.ChangeAt Go.RowKit
set_option linter.unusedVariables false
set_option linter.unusedSimpArgs false
set_option maxRecDepth 100000 in
theorem splitReads_lifted (os : Os) (started : os.Started) (H : Type) (enc : TypeId × Value → H) :
    ReturnsInHanded {} Try.checked os 5 .any (Rows.splitReadsSpec.pre6 enc Try.prog Try.f5 Rows.splitReadsRow.domain false) (Rows.splitReadsSpec.post enc Try.prog Try.f5 false true false false) := by
  refine law_lift_ab (C := Try.checked) (tb := 4) [shR, .str, .int .i64] (by kernel_rfl) knob started (by kernel_rfl) Try.func5 laidOut rfl Try.underlying4 rfl (by kernel_rfl) (fun ds hds => ?_)
    (ChangeSpec.witness6 (enc := enc) (C := Try.checked) false ⟨#[], #[.slice none 0 0, .string ⟨#[]⟩, .int .i64 0], []⟩ 8 (by kernel_rfl) (by kernel_rfl) (by kernel_rfl) (by kernel_rfl)) (fun ds hz => ?_)
  · match ds, hds with
    | [d1, d2, d3], _ => rfl
  · rw [avAs, avAs, avAs, avAs, avA_runs]; exact splitReads_ab _ _ _ (szd_runs hz.1).1 (szd_runs hz.1).2 (szd_str hz.2.1)
theorem splitReads_holds : Rows.SplitReadsSaid :=
  OpenClaim.holds_of_wide 5 Try.f5 rfl rfl rfl rfl rfl rfl rfl ⟨rfl, rfl, rfl, rfl, rfl⟩ rfl rfl rfl rfl rfl (by kernel_rfl) Try.func5 (by kernel_rfl)
    (of_decide_eq_true (by kernel_rfl)) (by unfold Func.isWrapper; first | (rw [if_pos (by decide +kernel)]; kernel_rfl) | (rw [if_neg (by decide +kernel)]; exact ⟨rfl, rfl⟩))
    (fun os started H enc _ => splitReads_lifted os started H enc)
#print axioms splitReads_holds
end Go.Proofs.Ytcplbbbjmalfjaa
