/- What is handed in as a history, for the laws on bang; the variable that is known. -/
import Derived.Test.YtgbhjlkenfmadaaGreatDoorBgG
import Derived.Test.YtgbhjlkenfmadaaGreatDoorCard
namespace Go.Proofs.YtgbhjlkenfmadaaGreatDoor
open Go.ChangeShapes Go.WideShapes Go.ChangeAt Go.RowKit
set_option linter.unusedVariables false
set_option linter.unusedSimpArgs false
abbrev shZ : Sh := .sl 1 .str
abbrev shHs : Sh := .ag (.cons (.int .i64) (.cons shZ .nil))
def zsOf {H : Type} (d : DataW H) : List (List UInt8) := (toList d).map toBytes
theorem zs_flat {H : Type} (l : List (DataW H)) : (l.flatMap fun d => avL .str [d]) = (l.map toBytes).map az := by
  induction l with
  | nil => rfl
  | cons d l ih => rw [List.flatMap_cons, ih]; rfl
theorem avA_hs {H : Type} (d : DataW H) : avA shHs d = hsA (toInt (hd (toParts d))) (zsOf (hd (toParts d).tail)) := by
  show AV.ag (avL _ (toParts d)) = _
  have e1 : ∀ x : DataW H, avL shZ [x] = [.rd (zsOf x).length ((zsOf x).map az)] := fun x => by
    show [AV.rd (toList x).length ((toList x).flatMap fun d => avL .str [d])] = _
    rw [zs_flat, zsOf, List.length_map]
  have e : ∀ (s r : Sh) (ds : List (DataW H)), avL (.cons s r) ds = avL s [hd ds] ++ avL r ds.tail := fun s r ds => rfl
  rw [e, e, e1]
  rfl
theorem szd_str {H : Type} {d : DataW H} (h : Szd .str [d]) : (toBytes d).length ≤ 140737488355328 := by
  have : (toBytes d).length ≤ 140737488351232 := h
  omega
theorem szd_zs {H : Type} {d : DataW H} (h : Szd shZ [d]) : (zsOf d).length ≤ 9000000000000000 ∧ ∀ s ∈ zsOf d, s.length ≤ 140737488355328 := by
  obtain ⟨h1, h2⟩ := h
  simp only [hd] at h1
  refine ⟨by rw [zsOf, List.length_map]; omega, fun s hs => ?_⟩
  obtain ⟨x, hx, rfl⟩ := List.mem_map.1 hs
  exact szd_str (h2 x hx)
theorem szd_hs {H : Type} {d : DataW H} (h : Szd shHs [d]) : (zsOf (hd (toParts d).tail)).length ≤ 9000000000000000 ∧ ∀ s ∈ zsOf (hd (toParts d).tail), s.length ≤ 9000000000000000 := by
  have k := szd_zs h.2.1
  exact ⟨k.1, fun s hs => by have := k.2 s hs; omega⟩
theorem szd_bigger {H : Type} {d : DataW H} (h : Szd .str [d]) : (toBytes d).length ≤ 9000000000000000 := Nat.le_trans (szd_str h) (by omega)
theorem globC (laid : List (String × DataW Unit)) (W : World) (hsh : W.ShapedOpen Tryz.prog) (_ : laidMetH Tryz.prog laid W) : Glob W := by
  obtain ⟨s0, hs⟩ := cell_of_shapedOpen_int (P := Tryz.prog) (g := 0) (t := 3) (zero := #[.int .i64 0]) hsh (of_decide_eq_true (by kernel_rfl)) (by kernel_rfl) rfl (by kernel_rfl) (by kernel_rfl) Tryz.underlying3
  refine ⟨fun p hp => ?_, fun b hb => absurd rfl hb⟩
  simp only [gTab, List.mem_singleton] at hp
  subst hp
  refine ⟨World.block_lt_of_cell? W ⟨0, 0, none⟩ hs, fun j φ hφ => ?_⟩
  rcases j with _ | j
  · simp only [List.getElem?_cons_zero, Option.some.injEq] at hφ
    subst hφ
    exact ⟨_, hs, _, rfl⟩
  · simp at hφ
end Go.Proofs.YtgbhjlkenfmadaaGreatDoor
