/- What is handed in as edits, for the laws on edits; the variable that is known. -/
import Derived.Test.YtbjhecllejdfaaaDoorEdJ
import Derived.Test.YtbjhecllejdfaaaDoorCard
namespace Go.Proofs.YtbjhecllejdfaaaDoor
open Go.ChangeShapes Go.WideShapes Go.ChangeAt Go.RowKit
set_option linter.unusedVariables false
set_option linter.unusedSimpArgs false
abbrev shE3 : Sh := .sl 3 (.ag (.cons (.int .i64) (.cons (.int .i64) (.cons .str .nil))))
def edOf {H : Type} (d : DataW H) : Ed := ⟨toInt (hd (toParts d)), toInt (hd (toParts d).tail), toBytes (hd (toParts d).tail.tail)⟩
theorem avA_eds {H : Type} (d : DataW H) : avA shE3 d = edA ((toList d).map edOf) := by
  simp only [edA, edC, avA, avL, hd, List.getElem?_cons_zero, Option.getD_some, List.length_map, List.flatMap_map, List.cons_append, List.nil_append]
  rfl
theorem szd_str {H : Type} {d : DataW H} (h : Szd .str [d]) : (toBytes d).length ≤ 9000000000000000 := by
  have : (toBytes d).length ≤ 140737488351232 := h
  omega
theorem szd_eds {H : Type} {d : DataW H} (h : Szd shE3 [d]) : BigE ((toList d).map edOf) := by
  have hx : ∀ k (hk : k < ((toList d).map edOf).length), ∃ x, ((toList d).map edOf)[k] = edOf x ∧ Szd (.ag (.cons (.int .i64) (.cons (.int .i64) (.cons .str .nil)))) [x] := fun k hk => by
    rw [List.length_map] at hk
    exact ⟨(toList d)[k], by rw [List.getElem_map], h.2 _ (List.getElem_mem hk)⟩
  refine ⟨by rw [List.length_map]; have := h.1; simp only [hd] at this; omega, fun k hk => ?_, fun k hk => ?_⟩
  · obtain ⟨x, e, hz⟩ := hx k hk
    rw [e]
    have h2 : (toBytes (hd (toParts x).tail.tail)).length ≤ 140737488351232 := hz.2.2.1
    show (toBytes (hd (toParts x).tail.tail)).length ≤ _
    omega
  · obtain ⟨x, e, hz⟩ := hx k hk
    rw [e]
    have h1 := bounds_i64 hz.1
    have h2 := bounds_i64 hz.2.1
    exact ⟨h1.1, h1.2, h2.1, h2.2⟩
abbrev shA2 : Sh := .ag (.cons (.int .u16) (.cons (.int .u16) .nil))
theorem globC (laid : List (String × DataW Unit)) (W : World) (hsh : W.ShapedOpen Tryd.prog) (_ : laidMetH Tryd.prog laid W) : Glob W := by
  obtain ⟨s0, hs⟩ := cell_of_shapedOpen_int (P := Tryd.prog) (g := 0) (t := 3) (zero := #[.int .i64 0]) hsh (of_decide_eq_true (by kernel_rfl)) (by kernel_rfl) rfl (by kernel_rfl) (by kernel_rfl) Tryd.underlying3
  intro p hp
  simp only [gTab, List.mem_singleton] at hp
  subst hp
  refine ⟨World.block_lt_of_cell? W ⟨0, 0, none⟩ hs, fun j φ hφ => ?_⟩
  rcases j with _ | j
  · simp only [List.getElem?_cons_zero, Option.some.injEq] at hφ
    subst hφ
    exact ⟨_, hs, _, rfl⟩
  · simp at hφ
end Go.Proofs.YtbjhecllejdfaaaDoor
