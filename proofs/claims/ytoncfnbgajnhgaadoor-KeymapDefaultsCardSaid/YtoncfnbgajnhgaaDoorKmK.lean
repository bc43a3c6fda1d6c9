/- What is handed in as bindings, for the laws on keymap; the variable that is known. -/
import Derived.Test.YtoncfnbgajnhgaaDoorCard
import Derived.Test.YtoncfnbgajnhgaaDoorCom
import Derived.Test.YtoncfnbgajnhgaaDoorKmD
namespace Go.Proofs.YtoncfnbgajnhgaaDoor
open Go.ChangeShapes Go.WideShapes Go.ChangeAt Go.RowKit
set_option linter.unusedVariables false
set_option linter.unusedSimpArgs false
abbrev shB : Sh := .sl 2 (.ag (.cons .str (.cons (.int .i64) .nil)))
def biOf {H : Type} (d : DataW H) : Bi := ⟨toBytes (hd (toParts d)), toInt (hd (toParts d).tail)⟩
theorem avA_bis {H : Type} (d : DataW H) : avA shB d = biA ((toList d).map biOf) := by
  simp only [biA, biC, avA, avL, hd, List.getElem?_cons_zero, Option.getD_some, List.length_map, List.flatMap_map, List.cons_append, List.nil_append]
  rfl
theorem szd_str {H : Type} {d : DataW H} (h : Szd .str [d]) : (toBytes d).length ≤ 9000000000000000 := by
  have : (toBytes d).length ≤ 140737488351232 := h
  omega
theorem szd_bis {H : Type} {d : DataW H} (h : Szd shB [d]) : BigB ((toList d).map biOf) := by
  have hx : ∀ k (hk : k < ((toList d).map biOf).length), ∃ x, ((toList d).map biOf)[k] = biOf x ∧ Szd (.ag (.cons .str (.cons (.int .i64) .nil))) [x] := fun k hk => by
    rw [List.length_map] at hk
    exact ⟨(toList d)[k], by rw [List.getElem_map], h.2 _ (List.getElem_mem hk)⟩
  refine ⟨by rw [List.length_map]; have := h.1; simp only [hd] at this; omega, fun k hk => ?_, fun k hk => ?_⟩
  · obtain ⟨x, e, hz⟩ := hx k hk
    rw [e]
    have h2 : (toBytes (hd (toParts x))).length ≤ 140737488351232 := hz.1
    show (toBytes (hd (toParts x))).length ≤ _
    omega
  · obtain ⟨x, e, hz⟩ := hx k hk
    rw [e]
    exact bounds_i64 hz.2.1
theorem names_cell {W : World} (h : laidMetH Tryd.prog [("jobshell/keymap.names", Rows.laid_jobshell_keymap_names)] W) (r : Nat) (hr : r < 32) : W.cell? ⟨0, r, none⟩ = some (.string (str (nmT[r]?.getD []))) := by
  rw [MakeChecks.laidMetH_plain _ _ _ (by kernel_rfl)] at h
  obtain ⟨ps, ⟨g, t, cs, fuel, p, q, hg, ht, hv, hd, _, _⟩, _, _⟩ := h
  obtain rfl := Option.some.inj ((show Tryd.prog.globalNamed "jobshell/keymap.names" = some 0 by kernel_rfl).symm.trans hg)
  obtain rfl := Option.some.inj ((show (Tryd.prog.globals[0]?).map (·.type) = some 54 by kernel_rfl).symm.trans ht)
  obtain ⟨xs, m, _, ex, _, hl, hel⟩ := DataW.trod_array Tryd.underlying54 hd
  have c5 : Tryd.prog.cellsOf 9 = 1 := by kernel_rfl
  have hE := hel r hr
  rw [c5, Nat.mul_one, List.getElem?_eq_getElem (by omega)] at hE
  obtain ⟨z, e1, e2, _⟩ := DataW.trod_string Tryd.underlying9 hE
  have hlen : nmT.length = 32 := by decide
  have e3 : (xs.map (·.1)) = nmT.map fun l => .lit (.string l) := (DataW.agg.inj (Prod.mk.inj ex).1).symm
  have e4 : (xs.map (·.1))[r]? = (nmT.map fun l => (DataW.lit (.string l) : DataW Unit))[r]? := by rw [e3]
  rw [List.getElem?_map, List.getElem?_map, List.getElem?_eq_getElem (by omega : r < xs.length), List.getElem?_eq_getElem (by omega : r < nmT.length), e2] at e4
  have hz : z = str (nmT[r]?.getD []) := by
    simp only [Option.map_some, Option.some.injEq, DataW.lit.injEq, Lit.string.injEq] at e4
    rw [List.getElem?_eq_getElem (by omega : r < nmT.length), Option.getD_some, ← e4]
    simp [str]
  rw [World.var?_cell hg hv r, ← hz]
  have : cs.toList[r]? = some (.string z) := by
    have h0 : ((cs.toList.drop r).take 1)[0]? = some (.string z) := by rw [e1]; rfl
    simpa using h0
  simpa using this
theorem globC (W : World) (hsh : W.ShapedOpen Tryd.prog) (h : laidMetH Tryd.prog [("jobshell/keymap.names", Rows.laid_jobshell_keymap_names)] W) : Glob W := by
  have hc := names_cell h
  refine ⟨fun p hp => by simp [gTab] at hp, fun b hb => ?_⟩
  have hb0 : b = 0 := by
    by_cases e : b = 0
    · exact e
    · exact absurd (by simp only [gVal, if_neg e]) hb
  subst hb0
  refine ⟨World.block_lt_of_cell? W ⟨0, 0, none⟩ (hc 0 (by omega)), fun j x hx => ?_⟩
  simp only [gVal, if_true, List.getElem?_map, Option.map_eq_some_iff] at hx
  obtain ⟨l, hl, rfl⟩ := hx
  have hj : j < 32 := by
    have := (List.getElem?_eq_some_iff.1 hl).1
    rwa [show nmT.length = 32 by decide] at this
  rw [hc j hj, hl, Option.getD_some]
end Go.Proofs.YtoncfnbgajnhgaaDoor
