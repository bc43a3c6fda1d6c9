/- Bind agrees with the specification, including the error, and Find returns the action that was bound: the law KeymapBinds returns true for every input; its row lists package variables as the program's text lays them, and the card ties them to that text. -/
import Derived.Test.YtoncfnbgajnhgaaDoorKmP
import Derived.Test.YtoncfnbgajnhgaaDoorKmK
import Derived.Test.YtoncfnbgajnhgaaDoorTie
import Derived.Test.YtoncfnbgajnhgaaDoorCards
import Derived.Lay
import Derived.LaidMore
import Derived.SevenTiedAt
namespace Go.Proofs.YtoncfnbgajnhgaaDoor
open Go.ChangeShapes Go.WideShapes Go.ChangeAt Go.RowKit
set_option linter.unusedVariables false
set_option linter.unusedSimpArgs false
set_option maxRecDepth 100000 in
theorem keymapBinds_lifted (os : Os) (started : os.Started) (H : Type) (enc : TypeId × Value → H) :
    ReturnsInHanded {} Tryd.checked os 7 .any (fun w args => (Rows.keymapBindsSpec.pre enc Tryd.prog Tryd.f7 Rows.keymapBindsRow.domain false w args ∧ laidMetH Tryd.prog Rows.keymapBindsRow.laid w) ∧ sizedMet enc Tryd.prog Tryd.f7 (OpenSpec.ofChange Rows.keymapBindsSpec) false w args) (Rows.keymapBindsSpec.post enc Tryd.prog Tryd.f7 false true false false) := by
  refine law_lift_card (C := Tryd.checked) (tb := 4) [shB, .str, .int .i64] (by kernel_rfl) knob started (by kernel_rfl) Tryd.func7 laidOut rfl Tryd.underlying4 rfl (by kernel_rfl) (fun ds hds => ?_)
    (ChangeSpec.witness_shaped (enc := enc) (C := Tryd.checked) (os := os) (X := fun w _ => laidMetH Tryd.prog Rows.keymapBindsRow.laid w) false (World.laidAll Tryd.prog os Rows.keymapBindsRow.laid) #[.slice none 0 0, .string ⟨#[]⟩, .int .i64 0] 8 (World.laidAll_os _ _ _)
      (World.shaped_of_ZipB (by kernel_rfl) (by kernel_rfl)) (by kernel_rfl) (by kernel_rfl) (by kernel_rfl)
      (by rw [MakeChecks.laidMetH_plain _ _ _ (by kernel_rfl)]; exact laidMet_laidAll _ (by kernel_rfl) (by kernel_rfl))) (fun W h1 h2 => globC W h1 h2) (fun ds hz => ?_)
  · match ds, hds with
    | [d1, d2, d3], _ => rfl
  · rw [avAs, avAs, avAs, avAs, avA_bis]; exact keymapBinds_ab _ _ _ (szd_bis hz.1) (szd_str hz.2.1)
theorem keymapBinds_holds : Rows.KeymapBindsSaid :=
  OpenClaim.holds_of_wide 7 Tryd.f7 rfl rfl rfl rfl rfl rfl rfl ⟨rfl, rfl, rfl, rfl, rfl⟩ rfl rfl rfl rfl rfl (by kernel_rfl) Tryd.func7 (by kernel_rfl)
    (of_decide_eq_true (by kernel_rfl)) (by unfold Func.isWrapper; first | (rw [if_pos (by decide +kernel)]; kernel_rfl) | (rw [if_neg (by decide +kernel)]; exact ⟨rfl, rfl⟩))
    (fun os started H enc _ => keymapBinds_lifted os started H enc)
theorem keymapBinds_card : Rows.KeymapBindsCardSaid :=
  Claim7.holds_tied_plain_at .later [] [.data] true (true, "1be20c151c4ea84bebc9df64f35a45a634cea712ce48fab99521382092ff4624") false keymapBinds_holds (fun _ h => by cases h) (by kernel_rfl) (fun _ h => by cases h) keymapBinds_row_tie rfl ⟨rfl, rfl⟩ (by kernel_rfl) rfl
    (fun f fn hf hfn => by
      obtain rfl : f = 7 := Option.some.inj ((show Tryd.prog.funcNamed "jobshell/jobshelllaw45.KeymapBinds" = some 7 by kernel_rfl).symm.trans hf) |>.symm
      obtain rfl : fn = Tryd.f7 := (Option.some.inj (Tryd.func7.symm.trans hfn)).symm
      exact ⟨by kernel_rfl, fun j t ht => by
        rw [Tryd.params7] at ht
        have hall : (Tryd.f7.params.toList.all fun u => !Tryd.prog.wantsStandIn u) = true := by kernel_rfl
        rw [← Tryd.params7] at ht
        exact (show Tryd.prog.wantsStandIn t = false by simpa using List.all_eq_true.1 hall t (by simpa using Array.mem_of_getElem? ht))⟩)
    (by kernel_rfl)
#print axioms keymapBinds_card
end Go.Proofs.YtoncfnbgajnhgaaDoor
