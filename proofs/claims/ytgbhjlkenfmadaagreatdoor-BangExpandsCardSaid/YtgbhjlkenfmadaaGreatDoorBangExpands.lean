/- Expand returns the specified line, print-only flag and error: the law BangExpands returns true for every input; its row lists package variables as the program's text lays them, and the card ties them to that text. -/
import Derived.Test.YtgbhjlkenfmadaaGreatDoorBhX
import Derived.Test.YtgbhjlkenfmadaaGreatDoorBgV
import Derived.Test.YtgbhjlkenfmadaaGreatDoorTie
import Derived.Test.YtgbhjlkenfmadaaGreatDoorCards
import Derived.Lay
import Derived.LaidMore
import Derived.SevenTiedAt
namespace Go.Proofs.YtgbhjlkenfmadaaGreatDoor
open Go.ChangeShapes Go.WideShapes Go.ChangeAt Go.RowKit
set_option linter.unusedVariables false
set_option linter.unusedSimpArgs false
set_option maxRecDepth 100000 in
theorem bangExpands_lifted (os : Os) (started : os.Started) (H : Type) (enc : TypeId × Value → H) :
    ReturnsInHanded {} Tryz.checked os 4 .any (fun w args => (Rows.bangExpandsSpec.pre enc Tryz.prog Tryz.f4 Rows.bangExpandsRow.domain false w args ∧ laidMetH Tryz.prog Rows.bangExpandsRow.laid w) ∧ sizedMet enc Tryz.prog Tryz.f4 (OpenSpec.ofChange Rows.bangExpandsSpec) false w args) (Rows.bangExpandsSpec.post enc Tryz.prog Tryz.f4 false true false false) := by
  refine law_lift_card (C := Tryz.checked) (tb := 4) [shHs, .str] (by kernel_rfl) knob started (by kernel_rfl) Tryz.func4 laidOut rfl Tryz.underlying4 rfl (by kernel_rfl) (fun ds hds => ?_)
    (ChangeSpec.witness_shaped (enc := enc) (C := Tryz.checked) (os := os) (X := fun w _ => laidMetH Tryz.prog Rows.bangExpandsRow.laid w) false (World.laidAll Tryz.prog os Rows.bangExpandsRow.laid) #[.agg #[.int .i64 0, .slice none 0 0], .string ⟨#[]⟩] 8 (World.laidAll_os _ _ _)
      (World.shaped_of_ZipB (by kernel_rfl) (by kernel_rfl)) (by kernel_rfl) (by kernel_rfl) (by kernel_rfl)
      (by rw [MakeChecks.laidMetH_plain _ _ _ (by kernel_rfl)]; exact laidMet_laidAll _ (by kernel_rfl) (by kernel_rfl))) (globC _) (fun ds hz => ?_)
  · match ds, hds with
    | [d1, d2], _ => rfl
  · rw [avAs, avAs, avAs, avA_hs]; exact bangExpands_ab _ _ _ (szd_hs hz.1).1 (szd_hs hz.1).2 (szd_bigger hz.2.1)
theorem bangExpands_holds : Rows.BangExpandsSaid :=
  OpenClaim.holds_of_wide 4 Tryz.f4 rfl rfl rfl rfl rfl rfl rfl ⟨rfl, rfl, rfl, rfl, rfl⟩ rfl rfl rfl rfl rfl (by kernel_rfl) Tryz.func4 (by kernel_rfl)
    (of_decide_eq_true (by kernel_rfl)) (by unfold Func.isWrapper; first | (rw [if_pos (by decide +kernel)]; kernel_rfl) | (rw [if_neg (by decide +kernel)]; exact ⟨rfl, rfl⟩))
    (fun os started H enc _ => bangExpands_lifted os started H enc)
theorem bangExpands_card : Rows.BangExpandsCardSaid :=
  Claim7.holds_tied_plain_at .later [] [.data, .pinned] true (true, "7761f637dab35e4b55f7df029895fdab491b191eb4289ca6a1c760f239a82c7e") false bangExpands_holds (fun _ h => by cases h) (by kernel_rfl) (fun _ h => by cases h) bangExpands_row_tie rfl ⟨rfl, rfl⟩ (by kernel_rfl) rfl
    (fun f fn hf hfn => by
      obtain rfl : f = 4 := Option.some.inj ((show Tryz.prog.funcNamed "jobshell/jobshelllaw44.BangExpands" = some 4 by kernel_rfl).symm.trans hf) |>.symm
      obtain rfl : fn = Tryz.f4 := (Option.some.inj (Tryz.func4.symm.trans hfn)).symm
      exact ⟨by kernel_rfl, fun j t ht => by
        rw [Tryz.params4] at ht
        have hall : (Tryz.f4.params.toList.all fun u => !Tryz.prog.wantsStandIn u) = true := by kernel_rfl
        rw [← Tryz.params4] at ht
        exact (show Tryz.prog.wantsStandIn t = false by simpa using List.all_eq_true.1 hall t (by simpa using Array.mem_of_getElem? ht))⟩)
    (by kernel_rfl)
#print axioms bangExpands_card
end Go.Proofs.YtgbhjlkenfmadaaGreatDoor
