/- What is handed in as an editor, for the laws. -/
import Derived.Test.YtapmolfpkhfpgaaEsK
import Derived.Test.YtapmolfpkhfpgaaMgC
namespace Go.Proofs.Ytapmolfpkhfpgaa
open Go.ChangeShapes Go.WideShapes Go.ChangeAt Go.RowKit
set_option linter.unusedVariables false
set_option linter.unusedSimpArgs false
abbrev shZ : Sh := .sl 1 .str
abbrev shSn : Sh := .ag (.cons .str (.cons (.int .i64) .nil))
abbrev shSns : Sh := .sl 2 shSn
abbrev shEr : Sh := .ag (.cons shSn (.cons (.int .i64) (.cons shZ (.cons shSns (.cons shSns (.cons .str (.cons (.int .i64) (.cons (.int .i64) (.cons .str .nil)))))))))
abbrev shHs : Sh := .ag (.cons (.int .i64) (.cons shZ .nil))
abbrev shCall : Sh := .ag (.cons (.int .i64) (.cons .str .nil))
def snOf {H : Type} (d : DataW H) : Sn := ⟨toBytes (hd (toParts d)), toInt (hd (toParts d).tail)⟩
def zsOf {H : Type} (d : DataW H) : List (List UInt8) := (toList d).map toBytes
def erOf {H : Type} (d : DataW H) : Er :=
  let p := toParts d
  ⟨snOf (hd p), toInt (hd p.tail), zsOf (hd p.tail.tail), (toList (hd p.tail.tail.tail)).map snOf, (toList (hd p.tail.tail.tail.tail)).map snOf, toBytes (hd p.tail.tail.tail.tail.tail), toInt (hd p.tail.tail.tail.tail.tail.tail), toInt (hd p.tail.tail.tail.tail.tail.tail.tail), toBytes (hd p.tail.tail.tail.tail.tail.tail.tail.tail)⟩
theorem zs_flat {H : Type} (l : List (DataW H)) : (l.flatMap fun d => avL .str [d]) = (l.map toBytes).map az := by
  induction l with
  | nil => rfl
  | cons d l ih => rw [List.flatMap_cons, ih]; rfl
theorem sn_flat {H : Type} (l : List (DataW H)) : (l.flatMap fun d => avL shSn [d]) = snC (l.map snOf) := by
  induction l with
  | nil => rfl
  | cons d l ih => rw [List.flatMap_cons, ih]; rfl
theorem avA_er {H : Type} (d : DataW H) : avA shEr d = erA (erOf d) := by
  show AV.ag (avL _ (toParts d)) = _
  have e1 : ∀ x : DataW H, avL shZ [x] = [.rd (zsOf x).length ((zsOf x).map az)] := fun x => by
    show [AV.rd (toList x).length ((toList x).flatMap fun d => avL .str [d])] = _
    rw [zs_flat, zsOf, List.length_map]
  have e2 : ∀ x : DataW H, avL shSns [x] = [.rd ((toList x).map snOf).length (snC ((toList x).map snOf))] := fun x => by
    show [AV.rd (toList x).length ((toList x).flatMap fun d => avL shSn [d])] = _
    rw [sn_flat, List.length_map]
  have e3 : ∀ x : DataW H, avL shSn [x] = [az (snOf x).t, ai (snOf x).p] := fun x => rfl
  have e : ∀ (s r : Sh) (ds : List (DataW H)), avL (.cons s r) ds = avL s [hd ds] ++ avL r ds.tail := fun s r ds => rfl
  rw [e, e, e, e, e, e, e, e, e, e1, e2, e2, e3]
  rfl
theorem avA_hs {H : Type} (d : DataW H) : avA shHs d = hsA (toInt (hd (toParts d))) (zsOf (hd (toParts d).tail)) := by
  show AV.ag (avL _ (toParts d)) = _
  have e1 : ∀ x : DataW H, avL shZ [x] = [.rd (zsOf x).length ((zsOf x).map az)] := fun x => by
    show [AV.rd (toList x).length ((toList x).flatMap fun d => avL .str [d])] = _
    rw [zs_flat, zsOf, List.length_map]
  have e : ∀ (s r : Sh) (ds : List (DataW H)), avL (.cons s r) ds = avL s [hd ds] ++ avL r ds.tail := fun s r ds => rfl
  rw [e, e, e1]
  rfl
theorem szd_str {H : Type} {d : DataW H} (h : Szd .str [d]) : (toBytes d).length ≤ 140737488355328 := by
  have : (toBytes d).length ≤ 140737488351232 := h
  omega
theorem szd_zs {H : Type} {d : DataW H} (h : Szd shZ [d]) : (zsOf d).length ≤ 9000000000000000 ∧ ∀ s ∈ zsOf d, s.length ≤ 140737488355328 := by
  obtain ⟨h1, h2⟩ := h
  simp only [hd] at h1
  refine ⟨by rw [zsOf, List.length_map]; omega, fun s hs => ?_⟩
  obtain ⟨x, hx, rfl⟩ := List.mem_map.1 hs
  exact szd_str (h2 x hx)
theorem szd_sns {H : Type} {d : DataW H} (h : Szd shSns [d]) : ((toList d).map snOf).length ≤ 9000000000000000 ∧ ∀ s ∈ (toList d).map snOf, s.t.length ≤ 140737488355328 := by
  obtain ⟨h1, h2⟩ := h
  simp only [hd] at h1
  refine ⟨by rw [List.length_map]; omega, fun s hs => ?_⟩
  obtain ⟨x, hx, rfl⟩ := List.mem_map.1 hs
  exact szd_str (h2 x hx).1
theorem szd_er {H : Type} {d : DataW H} (h : Szd shEr [d]) : BigR (erOf d) := by
  obtain ⟨h1, h2, h3, h4, h5, h6, h7, h8, h9, _⟩ := h
  have k3 := szd_zs h3
  have k4 := szd_sns h4
  have k5 := szd_sns h5
  exact ⟨szd_str h1.1, szd_str h9, szd_str h6, k3.2, k4.2, k5.2, k3.1, k4.1, k5.1⟩
theorem szd_hs {H : Type} {d : DataW H} (h : Szd shHs [d]) : (zsOf (hd (toParts d).tail)).length ≤ 9000000000000000 ∧ ∀ s ∈ zsOf (hd (toParts d).tail), s.length ≤ 9000000000000000 := by
  have k := szd_zs h.2.1
  exact ⟨k.1, fun s hs => by have := k.2 s hs; omega⟩
abbrev shB : Sh := .sl 2 (.ag (.cons .str (.cons (.int .i64) .nil)))
abbrev shPr : Sh := .ag (.cons shB (.cons (.int .u8) .nil))
def biOf {H : Type} (d : DataW H) : Bi := ⟨toBytes (hd (toParts d)), toInt (hd (toParts d).tail)⟩
def bisOf {H : Type} (d : DataW H) : List Bi := (toList d).map biOf
theorem avL_bis {H : Type} (d : DataW H) : avL shB [d] = [biA (bisOf d)] := by
  simp only [bisOf, biA, biC, avL, hd, List.getElem?_cons_zero, Option.getD_some, List.length_map, List.flatMap_map, List.cons_append, List.nil_append]
  rfl
theorem szd_bis {H : Type} {d : DataW H} (h : Szd shB [d]) : (bisOf d).length ≤ 9000000000000000 ∧ ∀ k (hk : k < (bisOf d).length), (bisOf d)[k].k.length ≤ 9000000000000000 := by
  refine ⟨by rw [bisOf, List.length_map]; have := h.1; simp only [hd] at this; omega, fun k hk => ?_⟩
  obtain ⟨x, e, hz⟩ : ∃ x, (bisOf d)[k] = biOf x ∧ Szd (.ag (.cons .str (.cons (.int .i64) .nil))) [x] := by
    rw [bisOf, List.length_map] at hk
    exact ⟨(toList d)[k], by simp only [bisOf, List.getElem_map], h.2 _ (List.getElem_mem hk)⟩
  rw [e]
  have h2 : (toBytes (hd (toParts x))).length ≤ 140737488351232 := hz.1
  show (toBytes (hd (toParts x))).length ≤ _
  omega
def u8Of (z : Int) : UInt8 := UInt8.ofNat z.toNat
theorem u8_wf {z : Int} (h : (Lit.int .u8 z).wf = true) : ((u8Of z).toNat : Int) = z := by
  have h2 : 0 ≤ z ∧ z ≤ 255 := by
    simp only [Lit.wf, Bool.and_eq_true, decide_eq_true_eq] at h
    exact ⟨h.1, h.2⟩
  unfold u8Of
  rw [UInt8.toNat_ofNat', Nat.mod_eq_of_lt (by omega)]
  omega
theorem avA_pr {H : Type} {d : DataW H} (h : Szd shPr [d]) : avA shPr d = .ag [biA (bisOf (hd (toParts d))), au (u8Of (toInt (hd (toParts d).tail)))] := by
  show AV.ag (avL _ (toParts d)) = _
  have e : ∀ (s r : Sh) (ds : List (DataW H)), avL (.cons s r) ds = avL s [hd ds] ++ avL r ds.tail := fun s r ds => rfl
  have h1 : ((u8Of (toInt (hd (toParts d).tail))).toNat : Int) = toInt (hd (toParts d).tail) := u8_wf h.2.1
  rw [e, e, avL_bis, au, h1]
  rfl
end Go.Proofs.Ytapmolfpkhfpgaa
