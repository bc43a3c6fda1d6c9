/- every sequence of operations on a new terminal keeps it valid: the law TtyStays returns true for every input. -/
import Derived.Test.YtnnggogelnafnaaTtK
import Derived.Test.YtnnggogelnafnaaTtN
namespace Go.Proofs.Ytnnggogelnafnaa
open Go.ChangeShapes Go.WideShapes Go.ChangeAt Go.RowKit
set_option linter.unusedVariables false
set_option linter.unusedSimpArgs false
def opOf {H : Type} (d : DataW H) : TOp := ⟨toInt (hd (toParts d)), toInt (hd (toParts d).tail), toBytes (hd (toParts d).tail.tail)⟩
theorem avA_ops {H : Type} (d : DataW H) : avA (.sl 3 (.ag (.cons (.int .i64) (.cons (.int .i64) (.cons .str .nil))))) d = .rd ((toList d).map opOf).length (((toList d).map opOf).flatMap fun o => [ai o.kind, ai o.n, az o.text]) := by
  simp only [avA, avL, hd, List.getElem?_cons_zero, Option.getD_some, List.length_map, List.flatMap_map, List.cons_append, List.nil_append]
  rfl
theorem szd_ops {H : Type} {d : DataW H} (h : Szd (.sl 3 (.ag (.cons (.int .i64) (.cons (.int .i64) (.cons .str .nil))))) [d]) : ∀ o ∈ (toList d).map opOf, o.text.length ≤ 140737488351232 := fun o ho => by
  obtain ⟨x, hx, rfl⟩ := List.mem_map.1 ho
  exact (h.2 x hx).2.2.1
set_option maxRecDepth 100000 in
theorem ttyStays_lifted (os : Os) (started : os.Started) (H : Type) (enc : TypeId × Value → H) :
    ReturnsInHanded {} Try.checked os 8 .any (Rows.ttyStaysSpec.pre6 enc Try.prog Try.f8 Rows.ttyStaysRow.domain false) (Rows.ttyStaysSpec.post enc Try.prog Try.f8 false true false false) := by
  refine law_lift_ab (C := Try.checked) (tb := 4) [.sl 3 (.ag (.cons (.int .i64) (.cons (.int .i64) (.cons .str .nil))))] (by kernel_rfl) knob started (by kernel_rfl) Try.func8 laidOut rfl Try.underlying4 rfl (by kernel_rfl) (fun ds hds => ?_)
    (ChangeSpec.witness6 (enc := enc) (C := Try.checked) false ⟨#[], #[.slice none 0 0], []⟩ 8 (by kernel_rfl) (by kernel_rfl) (by kernel_rfl) (by kernel_rfl)) (fun ds hz => ?_)
  · match ds, hds with
    | [d1], _ => rfl
  · rw [avAs, avAs, avA_ops]; exact ttyStays_ab _ (by rw [List.length_map]; exact hz.1.1) (szd_ops hz.1)
theorem ttyStays_holds : Rows.TtyStaysSaid :=
  OpenClaim.holds_of_wide 8 Try.f8 rfl rfl rfl rfl rfl rfl rfl ⟨rfl, rfl, rfl, rfl, rfl⟩ rfl rfl rfl rfl rfl (by kernel_rfl) Try.func8 (by kernel_rfl)
    (of_decide_eq_true (by kernel_rfl)) (by unfold Func.isWrapper; first | (rw [if_pos (by decide +kernel)]; kernel_rfl) | (rw [if_neg (by decide +kernel)]; exact ⟨rfl, rfl⟩))
    (fun os started H enc _ => ttyStays_lifted os started H enc)
#print axioms ttyStays_holds
end Go.Proofs.Ytnnggogelnafnaa
