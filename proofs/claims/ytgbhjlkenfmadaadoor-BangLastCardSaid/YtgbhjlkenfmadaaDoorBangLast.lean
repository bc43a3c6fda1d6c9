/- !! between strings without events expands to the last line: the law BangLast returns true for every input; its row lists package variables as the program's text lays them, and the card ties them to that text. -/
import Derived.Test.YtgbhjlkenfmadaaDoorBgT
import Derived.Test.YtgbhjlkenfmadaaDoorBgV
import Derived.Test.YtgbhjlkenfmadaaDoorTie
import Derived.Test.YtgbhjlkenfmadaaDoorCards
import Derived.Lay
import Derived.LaidMore
import Derived.SevenTiedAt
namespace Go.Proofs.YtgbhjlkenfmadaaDoor
open Go.ChangeShapes Go.WideShapes Go.ChangeAt Go.RowKit
set_option linter.unusedVariables false
set_option linter.unusedSimpArgs false
set_option maxRecDepth 100000 in
theorem bangLast_lifted (os : Os) (started : os.Started) (H : Type) (enc : TypeId × Value → H) :
    ReturnsInHanded {} Tryd.checked os 4 .any (fun w args => (Rows.bangLastSpec.pre enc Tryd.prog Tryd.f4 Rows.bangLastRow.domain false w args ∧ laidMetH Tryd.prog Rows.bangLastRow.laid w) ∧ sizedMet enc Tryd.prog Tryd.f4 (OpenSpec.ofChange Rows.bangLastSpec) false w args) (Rows.bangLastSpec.post enc Tryd.prog Tryd.f4 false true false false) := by
  refine law_lift_card (C := Tryd.checked) (tb := 4) [shHs, .str, .str] (by kernel_rfl) knob started (by kernel_rfl) Tryd.func4 laidOut rfl Tryd.underlying4 rfl (by kernel_rfl) (fun ds hds => ?_)
    (ChangeSpec.witness_shaped (enc := enc) (C := Tryd.checked) (os := os) (X := fun w _ => laidMetH Tryd.prog Rows.bangLastRow.laid w) false (World.laidAll Tryd.prog os Rows.bangLastRow.laid) #[.agg #[.int .i64 0, .slice none 0 0], .string ⟨#[]⟩, .string ⟨#[]⟩] 8 (World.laidAll_os _ _ _)
      (World.shaped_of_ZipB (by kernel_rfl) (by kernel_rfl)) (by kernel_rfl) (by kernel_rfl) (by kernel_rfl)
      (by rw [MakeChecks.laidMetH_plain _ _ _ (by kernel_rfl)]; exact laidMet_laidAll _ (by kernel_rfl) (by kernel_rfl))) (globC _) (fun ds hz => ?_)
  · match ds, hds with
    | [d1, d2, d3], _ => rfl
  · rw [avAs, avAs, avAs, avAs, avA_hs]; exact bangLast_ab _ _ _ _ (szd_hs hz.1).1 (szd_hs hz.1).2 (szd_big hz.2.1) (szd_big hz.2.2.1)
theorem bangLast_holds : Rows.BangLastSaid :=
  OpenClaim.holds_of_wide 4 Tryd.f4 rfl rfl rfl rfl rfl rfl rfl ⟨rfl, rfl, rfl, rfl, rfl⟩ rfl rfl rfl rfl rfl (by kernel_rfl) Tryd.func4 (by kernel_rfl)
    (of_decide_eq_true (by kernel_rfl)) (by unfold Func.isWrapper; first | (rw [if_pos (by decide +kernel)]; kernel_rfl) | (rw [if_neg (by decide +kernel)]; exact ⟨rfl, rfl⟩))
    (fun os started H enc _ => bangLast_lifted os started H enc)
theorem bangLast_card : Rows.BangLastCardSaid :=
  Claim7.holds_tied_plain_at .later [] [.data, .pinned] true (true, "02a88cf41181aa20b18bc7f86134e661934f09323da4e31bfd7c25822a4629e9") false bangLast_holds (fun _ h => by cases h) (by kernel_rfl) (fun _ h => by cases h) bangLast_row_tie rfl ⟨rfl, rfl⟩ (by kernel_rfl) rfl
    (fun f fn hf hfn => by
      obtain rfl : f = 4 := Option.some.inj ((show Tryd.prog.funcNamed "jobshell/jobshelllaw44.BangLast" = some 4 by kernel_rfl).symm.trans hf) |>.symm
      obtain rfl : fn = Tryd.f4 := (Option.some.inj (Tryd.func4.symm.trans hfn)).symm
      exact ⟨by kernel_rfl, fun j t ht => by
        rw [Tryd.params4] at ht
        have hall : (Tryd.f4.params.toList.all fun u => !Tryd.prog.wantsStandIn u) = true := by kernel_rfl
        rw [← Tryd.params4] at ht
        exact (show Tryd.prog.wantsStandIn t = false by simpa using List.all_eq_true.1 hall t (by simpa using Array.mem_of_getElem? ht))⟩)
    (by kernel_rfl)
#print axioms bangLast_card
end Go.Proofs.YtgbhjlkenfmadaaDoor
