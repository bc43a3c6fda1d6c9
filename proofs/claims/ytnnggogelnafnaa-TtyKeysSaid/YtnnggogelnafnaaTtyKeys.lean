/- Key and Feed return the specified results for every valid terminal and at most 300 input bytes: the law TtyKeys returns true for every input. -/
import Derived.Test.YtnnggogelnafnaaTtK
import Derived.Test.YtnnggogelnafnaaTtM
namespace Go.Proofs.Ytnnggogelnafnaa
open Go.ChangeShapes Go.WideShapes Go.ChangeAt Go.RowKit
set_option linter.unusedVariables false
set_option linter.unusedSimpArgs false
theorem avA_u8 {H : Type} {d : DataW H} (h : Szd (.int .u8) [d]) : avA (.int .u8) d = au (UInt8.ofNat (toInt d).toNat) := by
  have := bounds_u8 h
  simp only [hd] at this
  show AV.v (.int .u8 (toInt d)) = _
  congr 2
  simp
  omega
set_option maxRecDepth 100000 in
theorem ttyKeys_lifted (os : Os) (started : os.Started) (H : Type) (enc : TypeId × Value → H) :
    ReturnsInHanded {} Try.checked os 6 .any (Rows.ttyKeysSpec.pre6 enc Try.prog Try.f6 Rows.ttyKeysRow.domain false) (Rows.ttyKeysSpec.post enc Try.prog Try.f6 false true false false) := by
  refine law_lift_ab (C := Try.checked) (tb := 4) [shT, .int .u8, .str] (by kernel_rfl) knob started (by kernel_rfl) Try.func6 laidOut rfl Try.underlying4 rfl (by kernel_rfl) (fun ds hds => ?_)
    (ChangeSpec.witness6 (enc := enc) (C := Try.checked) false ⟨#[], #[.agg #[.int .i64 0, .int .i64 0, .string ⟨#[]⟩, .slice none 0 0, .string ⟨#[]⟩, .bool false], .int .u8 0, .string ⟨#[]⟩], []⟩ 8 (by kernel_rfl) (by kernel_rfl) (by kernel_rfl) (by kernel_rfl)) (fun ds hz => ?_)
  · match ds, hds with
    | [d1, d2, d3], _ => rfl
  · rw [avAs, avAs, avAs, avAs, avA_tty, avA_u8 hz.2.1]; exact ttyKeys_ab _ _ _ (szd_tty hz.1) hz.2.2.1
theorem ttyKeys_holds : Rows.TtyKeysSaid :=
  OpenClaim.holds_of_wide 6 Try.f6 rfl rfl rfl rfl rfl rfl rfl ⟨rfl, rfl, rfl, rfl, rfl⟩ rfl rfl rfl rfl rfl (by kernel_rfl) Try.func6 (by kernel_rfl)
    (of_decide_eq_true (by kernel_rfl)) (by unfold Func.isWrapper; first | (rw [if_pos (by decide +kernel)]; kernel_rfl) | (rw [if_neg (by decide +kernel)]; exact ⟨rfl, rfl⟩))
    (fun os started H enc _ => ttyKeys_lifted os started H enc)
#print axioms ttyKeys_holds
end Go.Proofs.Ytnnggogelnafnaa
