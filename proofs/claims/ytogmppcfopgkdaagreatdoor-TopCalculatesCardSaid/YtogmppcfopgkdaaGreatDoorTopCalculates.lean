/- an arithmetic expansion yields the value of the expression and sets its variables: the law TopCalculates returns true for every input; its row lists package variables as the program's text lays them, and the card ties them to that text. -/
import Derived.Test.YtogmppcfopgkdaaGreatDoorTpI
import Derived.Test.YtogmppcfopgkdaaGreatDoorTpH
import Derived.Test.YtogmppcfopgkdaaGreatDoorTie
import Derived.Test.YtogmppcfopgkdaaGreatDoorCards
import Derived.Lay
import Derived.LaidMore
import Derived.SevenTiedAt
namespace Go.Proofs.YtogmppcfopgkdaaGreatDoor
open Go.ChangeShapes Go.WideShapes Go.ChangeAt Go.RowKit
set_option linter.unusedVariables false
set_option linter.unusedSimpArgs false
set_option maxRecDepth 100000 in
theorem topCalculates_lifted (os : Os) (started : os.Started) (H : Type) (enc : TypeId × Value → H) :
    ReturnsInHanded {} Tryz.checked os 3 .any (fun w args => (Rows.topCalculatesSpec.pre enc Tryz.prog Tryz.f3 Rows.topCalculatesRow.domain false w args ∧ laidMetH Tryz.prog Rows.topCalculatesRow.laid w) ∧ sizedMet enc Tryz.prog Tryz.f3 (OpenSpec.ofChange Rows.topCalculatesSpec) false w args) (Rows.topCalculatesSpec.post enc Tryz.prog Tryz.f3 false true false false) := by
  refine law_lift_card (C := Tryz.checked) (tb := 4) [.str, .str] (by kernel_rfl) knob started (by kernel_rfl) Tryz.func3 laidOut rfl Tryz.underlying4 rfl (by kernel_rfl) (fun ds hds => ?_)
    (ChangeSpec.witness_shaped (enc := enc) (C := Tryz.checked) (os := os) (X := fun w _ => laidMetH Tryz.prog Rows.topCalculatesRow.laid w) false (World.laidAll Tryz.prog os Rows.topCalculatesRow.laid) #[.string ⟨#[]⟩, .string ⟨#[]⟩] 8 (World.laidAll_os _ _ _)
      (World.shaped_of_ZipB (by kernel_rfl) (by kernel_rfl)) (by kernel_rfl) (by kernel_rfl) (by kernel_rfl)
      (by rw [MakeChecks.laidMetH_plain _ _ _ (by kernel_rfl)]; exact laidMet_laidAll _ (by kernel_rfl) (by kernel_rfl))) (fun W h1 h2 => globC W h1 h2) (fun ds hz => ?_)
  · match ds, hds with
    | [d1, d2], _ => rfl
  · rw [avAs, avAs, avAs]; exact topCalculates_ab _ _ (szd_big9 hz.1) (szd_big9 hz.2.1)
theorem topCalculates_holds : Rows.TopCalculatesSaid :=
  OpenClaim.holds_of_wide 3 Tryz.f3 rfl rfl rfl rfl rfl rfl rfl ⟨rfl, rfl, rfl, rfl, rfl⟩ rfl rfl rfl rfl rfl (by kernel_rfl) Tryz.func3 (by kernel_rfl)
    (of_decide_eq_true (by kernel_rfl)) (by unfold Func.isWrapper; first | (rw [if_pos (by decide +kernel)]; kernel_rfl) | (rw [if_neg (by decide +kernel)]; exact ⟨rfl, rfl⟩))
    (fun os started H enc _ => topCalculates_lifted os started H enc)
theorem topCalculates_card : Rows.TopCalculatesCardSaid :=
  Claim7.holds_tied_plain_at .later [] [.data, .data, .data, .data, .pinned] true (true, "df8b337b1af8c45c1a9f394c575fe84eaa98e571cb0eb6ad78025a421ce41dcb") true topCalculates_holds (fun _ h => by cases h) (by kernel_rfl) (fun _ h => by cases h) topCalculates_row_tie rfl ⟨rfl, rfl⟩ (by kernel_rfl) rfl
    (fun f fn hf hfn => by
      obtain rfl : f = 3 := Option.some.inj ((show Tryz.prog.funcNamed "jobshell/jobshelltop.TopCalculates" = some 3 by kernel_rfl).symm.trans hf) |>.symm
      obtain rfl : fn = Tryz.f3 := (Option.some.inj (Tryz.func3.symm.trans hfn)).symm
      exact ⟨by kernel_rfl, fun j t ht => by
        rw [Tryz.params3] at ht
        have hall : (Tryz.f3.params.toList.all fun u => !Tryz.prog.wantsStandIn u) = true := by kernel_rfl
        rw [← Tryz.params3] at ht
        exact (show Tryz.prog.wantsStandIn t = false by simpa using List.all_eq_true.1 hall t (by simpa using Array.mem_of_getElem? ht))⟩)
    (by kernel_rfl)
#print axioms topCalculates_card
end Go.Proofs.YtogmppcfopgkdaaGreatDoor
