/- What is handed in as runs, items and strings, for the laws on patterns. -/
import Derived.Test.YtllhcgfdjfmmeaaPtH
namespace Go.Proofs.Ytllhcgfdjfmmeaa
open Go.ChangeShapes Go.WideShapes Go.ChangeAt Go.RowKit
set_option linter.unusedVariables false
set_option linter.unusedSimpArgs false
abbrev shR : Sh := .sl 2 (.ag (.cons .str (.cons (.int .i64) .nil)))
def runOf {H : Type} (d : DataW H) : El := ⟨toBytes (hd (toParts d)), toInt (hd (toParts d).tail)⟩
theorem avA_runs {H : Type} (d : DataW H) : avA shR d = elsA ((toList d).map runOf) := by
  simp only [elsA, elC, avA, avL, hd, List.getElem?_cons_zero, Option.getD_some, List.length_map, List.flatMap_map, List.cons_append, List.nil_append]
  rfl
theorem szd_runs {H : Type} {d : DataW H} (h : Szd shR [d]) : ((toList d).map runOf).length ≤ 9000000000000000 ∧ ∀ x ∈ (toList d).map runOf, x.t.length ≤ 9000000000000000 := by
  refine ⟨by rw [List.length_map]; have := h.1; simp only [hd] at this; omega, fun o ho => ?_⟩
  obtain ⟨x, hx, rfl⟩ := List.mem_map.1 ho
  have := (h.2 x hx).1
  have h2 : (toBytes (hd (toParts x))).length ≤ 140737488351232 := this
  show (toBytes (hd (toParts x))).length ≤ _
  omega
theorem szd_str {H : Type} {d : DataW H} (h : Szd .str [d]) : (toBytes d).length ≤ 9000000000000000 := by
  have : (toBytes d).length ≤ 140737488351232 := h
  omega
abbrev shP : Sh := .ag (.cons (.int .u8) (.cons (.int .u8) .nil))
abbrev shJ : Sh := .ag (.cons (.int .i64) (.cons .str (.cons .bool (.cons (.sl 2 shP) .nil))))
abbrev shI : Sh := .sl 4 shJ
def u8Of (z : Int) : UInt8 := UInt8.ofNat z.toNat
theorem u8_wf {z : Int} (h : (Lit.int .u8 z).wf = true) : ((u8Of z).toNat : Int) = z := by
  have h2 : 0 ≤ z ∧ z ≤ 255 := by
    simp only [Lit.wf, Bool.and_eq_true, decide_eq_true_eq] at h
    exact ⟨h.1, h.2⟩
  unfold u8Of
  rw [UInt8.toNat_ofNat', Nat.mod_eq_of_lt (by omega)]
  omega
def snOf {H : Type} (d : DataW H) : Sn := ⟨u8Of (toInt (hd (toParts d))), u8Of (toInt (hd (toParts d).tail))⟩
def itOf {H : Type} (d : DataW H) : It := ⟨toInt (hd (toParts d)), toBytes (hd (toParts d).tail), toBool (hd (toParts d).tail.tail), (toList (hd (toParts d).tail.tail.tail)).map snOf⟩
theorem avL_sn {H : Type} (d : DataW H) (h : Szd shP [d]) : avL shP [d] = [au (snOf d).l, au (snOf d).h] := by
  have h1 : (Lit.int .u8 (toInt (hd (toParts d)))).wf = true := h.1
  have h2 : (Lit.int .u8 (toInt (hd (toParts d).tail))).wf = true := h.2.1
  show [AV.v (.int .u8 (toInt (hd (toParts d)))), AV.v (.int .u8 (toInt (hd (toParts d).tail)))] = _
  rw [← u8_wf h1, ← u8_wf h2]
  rw [u8_wf h1, u8_wf h2]
  simp only [snOf, au, u8_wf h1, u8_wf h2]
theorem avL_sns {H : Type} : ∀ (l : List (DataW H)), (∀ d ∈ l, Szd shP [d]) → l.flatMap (fun d => avL shP [d]) = snC (l.map snOf)
  | [], _ => rfl
  | d :: l, h => by
    rw [List.flatMap_cons, avL_sn d (h d (List.mem_cons_self ..)), avL_sns l (fun x hx => h x (List.mem_cons_of_mem _ hx))]
    rfl
theorem avL_it {H : Type} (d : DataW H) (h : Szd shJ [d]) : avL shJ [d] = [ai (itOf d).k, az (itOf d).t, ab (itOf d).n, snsA (itOf d).s] := by
  have h1 : ∀ x ∈ toList (hd (toParts d).tail.tail.tail), Szd shP [x] := h.2.2.2.1.2
  show [AV.v (.int .i64 (toInt (hd (toParts d)))), AV.v (.string (str (toBytes (hd (toParts d).tail)))), AV.v (.bool (toBool (hd (toParts d).tail.tail))), AV.rd (toList (hd (toParts d).tail.tail.tail)).length ((toList (hd (toParts d).tail.tail.tail)).flatMap fun d => avL shP [d])] = _
  rw [avL_sns _ h1, ← List.length_map (f := snOf)]
  rfl
theorem avL_its {H : Type} : ∀ (l : List (DataW H)), (∀ d ∈ l, Szd shJ [d]) → l.flatMap (fun d => avL shJ [d]) = itC (l.map itOf)
  | [], _ => rfl
  | d :: l, h => by
    rw [List.flatMap_cons, avL_it d (h d (List.mem_cons_self ..)), avL_its l (fun x hx => h x (List.mem_cons_of_mem _ hx))]
    rfl
theorem avA_items {H : Type} {d : DataW H} (h : Szd shI [d]) : avA shI d = itsA ((toList d).map itOf) := by
  have h2 : ∀ x ∈ toList d, Szd shJ [x] := h.2
  have : avA shI d = .rd (toList d).length ((toList d).flatMap fun d => avL shJ [d]) := rfl
  rw [this, avL_its _ h2, ← List.length_map (f := itOf)]
theorem szd_items {H : Type} {d : DataW H} (h : Szd shI [d]) : ((toList d).map itOf).length ≤ 9000000000000000 ∧ ∀ x ∈ (toList d).map itOf, x.s.length ≤ 9000000000000000 ∧ x.t.length ≤ 9000000000000000 := by
  refine ⟨by rw [List.length_map]; have := h.1; simp only [hd] at this; omega, fun o ho => ?_⟩
  obtain ⟨x, hx, rfl⟩ := List.mem_map.1 ho
  have hz : Szd shJ [x] := h.2 x hx
  have h1 : (toBytes (hd (toParts x).tail)).length ≤ 140737488351232 := hz.2.1
  have h2 : (toList (hd (toParts x).tail.tail.tail)).length ≤ 140737488351232 := hz.2.2.2.1.1
  refine ⟨?_, ?_⟩
  · show ((toList (hd (toParts x).tail.tail.tail)).map snOf).length ≤ _
    rw [List.length_map]; omega
  · show (toBytes (hd (toParts x).tail)).length ≤ _
    omega
end Go.Proofs.Ytllhcgfdjfmmeaa
