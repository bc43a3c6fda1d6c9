/- Read returns the specified results for all integers, and Write for strings of at most 70000 bytes, for every valid terminal: the law TtyReads returns true for every input. -/
import Derived.Test.YtnnggogelnafnaaTtK
import Derived.Test.YtnnggogelnafnaaTtL
namespace Go.Proofs.Ytnnggogelnafnaa
open Go.ChangeShapes Go.WideShapes Go.ChangeAt Go.RowKit
set_option linter.unusedVariables false
set_option linter.unusedSimpArgs false
set_option maxRecDepth 100000 in
theorem ttyReads_lifted (os : Os) (started : os.Started) (H : Type) (enc : TypeId × Value → H) :
    ReturnsInHanded {} Try.checked os 3 .any (Rows.ttyReadsSpec.pre6 enc Try.prog Try.f3 Rows.ttyReadsRow.domain false) (Rows.ttyReadsSpec.post enc Try.prog Try.f3 false true false false) := by
  refine law_lift_ab (C := Try.checked) (tb := 4) [shT, .int .i64, .str] (by kernel_rfl) knob started (by kernel_rfl) Try.func3 laidOut rfl Try.underlying4 rfl (by kernel_rfl) (fun ds hds => ?_)
    (ChangeSpec.witness6 (enc := enc) (C := Try.checked) false ⟨#[], #[.agg #[.int .i64 0, .int .i64 0, .string ⟨#[]⟩, .slice none 0 0, .string ⟨#[]⟩, .bool false], .int .i64 0, .string ⟨#[]⟩], []⟩ 8 (by kernel_rfl) (by kernel_rfl) (by kernel_rfl) (by kernel_rfl)) (fun ds hz => ?_)
  · match ds, hds with
    | [d1, d2, d3], _ => rfl
  · rw [avAs, avAs, avAs, avAs, avA_tty]; exact ttyReads_ab _ _ _ (szd_tty hz.1) hz.2.2.1
theorem ttyReads_holds : Rows.TtyReadsSaid :=
  OpenClaim.holds_of_wide 3 Try.f3 rfl rfl rfl rfl rfl rfl rfl ⟨rfl, rfl, rfl, rfl, rfl⟩ rfl rfl rfl rfl rfl (by kernel_rfl) Try.func3 (by kernel_rfl)
    (of_decide_eq_true (by kernel_rfl)) (by unfold Func.isWrapper; first | (rw [if_pos (by decide +kernel)]; kernel_rfl) | (rw [if_neg (by decide +kernel)]; exact ⟨rfl, rfl⟩))
    (fun os started H enc _ => ttyReads_lifted os started H enc)
#print axioms ttyReads_holds
end Go.Proofs.Ytnnggogelnafnaa
