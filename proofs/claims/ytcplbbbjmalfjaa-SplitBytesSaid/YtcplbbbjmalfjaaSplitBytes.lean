/- the concatenation of all fields is the input without its separators, and fields contain no separators: the law SplitBytes returns true for every input. -/
import Derived.Test.YtcplbbbjmalfjaaSpR
import Derived.Test.YtcplbbbjmalfjaaSpL
namespace Go.Proofs.Ytcplbbbjmalfjaa
open Go.ChangeShapes Go.WideShapes Go.ChangeAt Go.RowKit
set_option linter.unusedVariables false
set_option linter.unusedSimpArgs false
set_option maxRecDepth 100000 in
theorem splitBytes_lifted (os : Os) (started : os.Started) (H : Type) (enc : TypeId × Value → H) :
    ReturnsInHanded {} Try.checked os 6 .any (Rows.splitBytesSpec.pre6 enc Try.prog Try.f6 Rows.splitBytesRow.domain false) (Rows.splitBytesSpec.post enc Try.prog Try.f6 false true false false) := by
  refine law_lift_ab (C := Try.checked) (tb := 4) [shR, .str] (by kernel_rfl) knob started (by kernel_rfl) Try.func6 laidOut rfl Try.underlying4 rfl (by kernel_rfl) (fun ds hds => ?_)
    (ChangeSpec.witness6 (enc := enc) (C := Try.checked) false ⟨#[], #[.slice none 0 0, .string ⟨#[]⟩], []⟩ 8 (by kernel_rfl) (by kernel_rfl) (by kernel_rfl) (by kernel_rfl)) (fun ds hz => ?_)
  · match ds, hds with
    | [d1, d2], _ => rfl
  · rw [avAs, avAs, avAs, avA_runs]; exact splitBytes_ab _ _ (szd_runs hz.1).1 (szd_runs hz.1).2 (szd_str hz.2.1)
theorem splitBytes_holds : Rows.SplitBytesSaid :=
  OpenClaim.holds_of_wide 6 Try.f6 rfl rfl rfl rfl rfl rfl rfl ⟨rfl, rfl, rfl, rfl, rfl⟩ rfl rfl rfl rfl rfl (by kernel_rfl) Try.func6 (by kernel_rfl)
    (of_decide_eq_true (by kernel_rfl)) (by unfold Func.isWrapper; first | (rw [if_pos (by decide +kernel)]; kernel_rfl) | (rw [if_neg (by decide +kernel)]; exact ⟨rfl, rfl⟩))
    (fun os started H enc _ => splitBytes_lifted os started H enc)
#print axioms splitBytes_holds
end Go.Proofs.Ytcplbbbjmalfjaa
