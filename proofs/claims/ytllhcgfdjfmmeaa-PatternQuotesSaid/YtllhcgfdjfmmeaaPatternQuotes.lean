/- the compiled pattern of a quoted string matches exactly that string: the law PatternQuotes returns true for every input. -/
import Derived.Test.YtllhcgfdjfmmeaaPuN
import Derived.Test.YtllhcgfdjfmmeaaPuL
namespace Go.Proofs.Ytllhcgfdjfmmeaa
open Go.ChangeShapes Go.WideShapes Go.ChangeAt Go.RowKit
set_option linter.unusedVariables false
set_option linter.unusedSimpArgs false
set_option maxRecDepth 100000 in
theorem patternQuotes_lifted (os : Os) (started : os.Started) (H : Type) (enc : TypeId × Value → H) :
    ReturnsInHanded {} Try.checked os 8 .any (Rows.patternQuotesSpec.pre6 enc Try.prog Try.f8 Rows.patternQuotesRow.domain false) (Rows.patternQuotesSpec.post enc Try.prog Try.f8 false true false false) := by
  refine law_lift_ab (C := Try.checked) (tb := 4) [.str, .str] (by kernel_rfl) knob started (by kernel_rfl) Try.func8 laidOut rfl Try.underlying4 rfl (by kernel_rfl) (fun ds hds => ?_)
    (ChangeSpec.witness6 (enc := enc) (C := Try.checked) false ⟨#[], #[.string ⟨#[]⟩, .string ⟨#[]⟩], []⟩ 8 (by kernel_rfl) (by kernel_rfl) (by kernel_rfl) (by kernel_rfl)) (fun ds hz => ?_)
  · match ds, hds with
    | [d1, d2], _ => rfl
  · rw [avAs, avAs, avAs]; exact patternQuotes_ab _ _ (szd_str hz.1) (szd_str hz.2.1)
theorem patternQuotes_holds : Rows.PatternQuotesSaid :=
  OpenClaim.holds_of_wide 8 Try.f8 rfl rfl rfl rfl rfl rfl rfl ⟨rfl, rfl, rfl, rfl, rfl⟩ rfl rfl rfl rfl rfl (by kernel_rfl) Try.func8 (by kernel_rfl)
    (of_decide_eq_true (by kernel_rfl)) (by unfold Func.isWrapper; first | (rw [if_pos (by decide +kernel)]; kernel_rfl) | (rw [if_neg (by decide +kernel)]; exact ⟨rfl, rfl⟩))
    (fun os started H enc _ => patternQuotes_lifted os started H enc)
#print axioms patternQuotes_holds
end Go.Proofs.Ytllhcgfdjfmmeaa
