/- Valid agrees with the specification: the law KeymapValids returns true for every input; its row lists package variables as the program's text lays them, and the card ties them to that text. -/
import Derived.Test.YtoncfnbgajnhgaaDoorKmP
import Derived.Test.YtoncfnbgajnhgaaDoorKmK
import Derived.Test.YtoncfnbgajnhgaaDoorTie
import Derived.Test.YtoncfnbgajnhgaaDoorCards
import Derived.Lay
import Derived.LaidMore
import Derived.SevenTiedAt
namespace Go.Proofs.YtoncfnbgajnhgaaDoor
open Go.ChangeShapes Go.WideShapes Go.ChangeAt Go.RowKit
set_option linter.unusedVariables false
set_option linter.unusedSimpArgs false
set_option maxRecDepth 100000 in
theorem keymapValids_lifted (os : Os) (started : os.Started) (H : Type) (enc : TypeId × Value → H) :
    ReturnsInHanded {} Tryd.checked os 6 .any (fun w args => (Rows.keymapValidsSpec.pre enc Tryd.prog Tryd.f6 Rows.keymapValidsRow.domain false w args ∧ laidMetH Tryd.prog Rows.keymapValidsRow.laid w) ∧ sizedMet enc Tryd.prog Tryd.f6 (OpenSpec.ofChange Rows.keymapValidsSpec) false w args) (Rows.keymapValidsSpec.post enc Tryd.prog Tryd.f6 false true false false) := by
  refine law_lift_card (C := Tryd.checked) (tb := 4) [shB] (by kernel_rfl) knob started (by kernel_rfl) Tryd.func6 laidOut rfl Tryd.underlying4 rfl (by kernel_rfl) (fun ds hds => ?_)
    (ChangeSpec.witness_shaped (enc := enc) (C := Tryd.checked) (os := os) (X := fun w _ => laidMetH Tryd.prog Rows.keymapValidsRow.laid w) false (World.laidAll Tryd.prog os Rows.keymapValidsRow.laid) #[.slice none 0 0] 8 (World.laidAll_os _ _ _)
      (World.shaped_of_ZipB (by kernel_rfl) (by kernel_rfl)) (by kernel_rfl) (by kernel_rfl) (by kernel_rfl)
      (by rw [MakeChecks.laidMetH_plain _ _ _ (by kernel_rfl)]; exact laidMet_laidAll _ (by kernel_rfl) (by kernel_rfl))) (fun W h1 h2 => globC W h1 h2) (fun ds hz => ?_)
  · match ds, hds with
    | [d1], _ => rfl
  · rw [avAs, avAs, avA_bis]; exact keymapValids_ab _ (szd_bis hz.1)
theorem keymapValids_holds : Rows.KeymapValidsSaid :=
  OpenClaim.holds_of_wide 6 Tryd.f6 rfl rfl rfl rfl rfl rfl rfl ⟨rfl, rfl, rfl, rfl, rfl⟩ rfl rfl rfl rfl rfl (by kernel_rfl) Tryd.func6 (by kernel_rfl)
    (of_decide_eq_true (by kernel_rfl)) (by unfold Func.isWrapper; first | (rw [if_pos (by decide +kernel)]; kernel_rfl) | (rw [if_neg (by decide +kernel)]; exact ⟨rfl, rfl⟩))
    (fun os started H enc _ => keymapValids_lifted os started H enc)
theorem keymapValids_card : Rows.KeymapValidsCardSaid :=
  Claim7.holds_tied_plain_at .later [] [.data] true (true, "1be20c151c4ea84bebc9df64f35a45a634cea712ce48fab99521382092ff4624") false keymapValids_holds (fun _ h => by cases h) (by kernel_rfl) (fun _ h => by cases h) keymapValids_row_tie rfl ⟨rfl, rfl⟩ (by kernel_rfl) rfl
    (fun f fn hf hfn => by
      obtain rfl : f = 6 := Option.some.inj ((show Tryd.prog.funcNamed "jobshell/jobshelllaw45.KeymapValids" = some 6 by kernel_rfl).symm.trans hf) |>.symm
      obtain rfl : fn = Tryd.f6 := (Option.some.inj (Tryd.func6.symm.trans hfn)).symm
      exact ⟨by kernel_rfl, fun j t ht => by
        rw [Tryd.params6] at ht
        have hall : (Tryd.f6.params.toList.all fun u => !Tryd.prog.wantsStandIn u) = true := by kernel_rfl
        rw [← Tryd.params6] at ht
        exact (show Tryd.prog.wantsStandIn t = false by simpa using List.all_eq_true.1 hall t (by simpa using Array.mem_of_getElem? ht))⟩)
    (by kernel_rfl)
#print axioms keymapValids_card
end Go.Proofs.YtoncfnbgajnhgaaDoor
