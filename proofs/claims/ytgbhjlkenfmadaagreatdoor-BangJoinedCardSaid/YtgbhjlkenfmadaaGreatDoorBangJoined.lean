/- joining the words of a line with blanks gives a line with the same words: the law BangJoined returns true for every input; its row lists package variables as the program's text lays them, and the card ties them to that text. -/
import Derived.Test.YtgbhjlkenfmadaaGreatDoorBhN
import Derived.Test.YtgbhjlkenfmadaaGreatDoorBgV
import Derived.Test.YtgbhjlkenfmadaaGreatDoorTie
import Derived.Test.YtgbhjlkenfmadaaGreatDoorCards
import Derived.Lay
import Derived.LaidMore
import Derived.SevenTiedAt
namespace Go.Proofs.YtgbhjlkenfmadaaGreatDoor
open Go.ChangeShapes Go.WideShapes Go.ChangeAt Go.RowKit
set_option linter.unusedVariables false
set_option linter.unusedSimpArgs false
set_option maxRecDepth 100000 in
theorem bangJoined_lifted (os : Os) (started : os.Started) (H : Type) (enc : TypeId × Value → H) :
    ReturnsInHanded {} Tryz.checked os 5 .any (fun w args => (Rows.bangJoinedSpec.pre enc Tryz.prog Tryz.f5 Rows.bangJoinedRow.domain false w args ∧ laidMetH Tryz.prog Rows.bangJoinedRow.laid w) ∧ sizedMet enc Tryz.prog Tryz.f5 (OpenSpec.ofChange Rows.bangJoinedSpec) false w args) (Rows.bangJoinedSpec.post enc Tryz.prog Tryz.f5 false true false false) := by
  refine law_lift_card (C := Tryz.checked) (tb := 4) [.str] (by kernel_rfl) knob started (by kernel_rfl) Tryz.func5 laidOut rfl Tryz.underlying4 rfl (by kernel_rfl) (fun ds hds => ?_)
    (ChangeSpec.witness_shaped (enc := enc) (C := Tryz.checked) (os := os) (X := fun w _ => laidMetH Tryz.prog Rows.bangJoinedRow.laid w) false (World.laidAll Tryz.prog os Rows.bangJoinedRow.laid) #[.string ⟨#[]⟩] 8 (World.laidAll_os _ _ _)
      (World.shaped_of_ZipB (by kernel_rfl) (by kernel_rfl)) (by kernel_rfl) (by kernel_rfl) (by kernel_rfl)
      (by rw [MakeChecks.laidMetH_plain _ _ _ (by kernel_rfl)]; exact laidMet_laidAll _ (by kernel_rfl) (by kernel_rfl))) (globC _) (fun ds hz => ?_)
  · match ds, hds with
    | [d1], _ => rfl
  · rw [avAs, avAs]; exact bangJoined_ab _ (szd_bigger hz.1)
theorem bangJoined_holds : Rows.BangJoinedSaid :=
  OpenClaim.holds_of_wide 5 Tryz.f5 rfl rfl rfl rfl rfl rfl rfl ⟨rfl, rfl, rfl, rfl, rfl⟩ rfl rfl rfl rfl rfl (by kernel_rfl) Tryz.func5 (by kernel_rfl)
    (of_decide_eq_true (by kernel_rfl)) (by unfold Func.isWrapper; first | (rw [if_pos (by decide +kernel)]; kernel_rfl) | (rw [if_neg (by decide +kernel)]; exact ⟨rfl, rfl⟩))
    (fun os started H enc _ => bangJoined_lifted os started H enc)
theorem bangJoined_card : Rows.BangJoinedCardSaid :=
  Claim7.holds_tied_plain_at .later [] [.data, .pinned] true (true, "7761f637dab35e4b55f7df029895fdab491b191eb4289ca6a1c760f239a82c7e") false bangJoined_holds (fun _ h => by cases h) (by kernel_rfl) (fun _ h => by cases h) bangJoined_row_tie rfl ⟨rfl, rfl⟩ (by kernel_rfl) rfl
    (fun f fn hf hfn => by
      obtain rfl : f = 5 := Option.some.inj ((show Tryz.prog.funcNamed "jobshell/jobshelllaw44.BangJoined" = some 5 by kernel_rfl).symm.trans hf) |>.symm
      obtain rfl : fn = Tryz.f5 := (Option.some.inj (Tryz.func5.symm.trans hfn)).symm
      exact ⟨by kernel_rfl, fun j t ht => by
        rw [Tryz.params5] at ht
        have hall : (Tryz.f5.params.toList.all fun u => !Tryz.prog.wantsStandIn u) = true := by kernel_rfl
        rw [← Tryz.params5] at ht
        exact (show Tryz.prog.wantsStandIn t = false by simpa using List.all_eq_true.1 hall t (by simpa using Array.mem_of_getElem? ht))⟩)
    (by kernel_rfl)
#print axioms bangJoined_card
end Go.Proofs.YtgbhjlkenfmadaaGreatDoor
