/- What is handed in as runs and as strings, for the laws on split. -/
import Derived.Test.YtcplbbbjmalfjaaSpA
namespace Go.Proofs.Ytcplbbbjmalfjaa
open Go.ChangeShapes Go.WideShapes Go.ChangeAt Go.RowKit
set_option linter.unusedVariables false
set_option linter.unusedSimpArgs false
abbrev shR : Sh := .sl 2 (.ag (.cons .str (.cons (.int .i64) .nil)))
def runOf {H : Type} (d : DataW H) : El := ⟨toBytes (hd (toParts d)), toInt (hd (toParts d).tail)⟩
theorem avA_runs {H : Type} (d : DataW H) : avA shR d = elsA ((toList d).map runOf) := by
  simp only [elsA, elC, avA, avL, hd, List.getElem?_cons_zero, Option.getD_some, List.length_map, List.flatMap_map, List.cons_append, List.nil_append]
  rfl
theorem szd_runs {H : Type} {d : DataW H} (h : Szd shR [d]) : ((toList d).map runOf).length ≤ 9000000000000000 ∧ ∀ x ∈ (toList d).map runOf, x.t.length ≤ 9000000000000000 := by
  refine ⟨by rw [List.length_map]; have := h.1; simp only [hd] at this; omega, fun o ho => ?_⟩
  obtain ⟨x, hx, rfl⟩ := List.mem_map.1 ho
  have := (h.2 x hx).1
  have h2 : (toBytes (hd (toParts x))).length ≤ 140737488351232 := this
  show (toBytes (hd (toParts x))).length ≤ _
  omega
theorem szd_str {H : Type} {d : DataW H} (h : Szd .str [d]) : (toBytes d).length ≤ 9000000000000000 := by
  have : (toBytes d).length ≤ 140737488351232 := h
  omega
abbrev shS : Sh := .sl 1 .str
theorem avA_strs {H : Type} (d : DataW H) : avA shS d = .rd ((toList d).map toBytes).length (((toList d).map toBytes).map az) := by
  simp only [avA, avL, hd, List.getElem?_cons_zero, Option.getD_some, List.length_map]
  congr 1
  induction toList d with
  | nil => rfl
  | cons x r ih => simp only [List.flatMap_cons, List.map_cons, List.cons_append, List.nil_append, ih]
theorem szd_strs {H : Type} {d : DataW H} (h : Szd shS [d]) : ((toList d).map toBytes).length ≤ 9000000000000000 ∧ ∀ s ∈ (toList d).map toBytes, s.length ≤ 9000000000000000 := by
  refine ⟨by rw [List.length_map]; have := h.1; simp only [hd] at this; omega, fun o ho => ?_⟩
  obtain ⟨x, hx, rfl⟩ := List.mem_map.1 ho
  exact szd_str (h.2 x hx)
end Go.Proofs.Ytcplbbbjmalfjaa
