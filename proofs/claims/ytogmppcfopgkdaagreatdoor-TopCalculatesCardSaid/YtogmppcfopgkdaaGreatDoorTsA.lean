/- Contracts of the library's functions that are called, on the abstract machine. -/
import Derived.Test.YtogmppcfopgkdaaGreatDoorStr
import Derived.Test.YtogmppcfopgkdaaGreatDoorTsh
import Derived.Test.YtogmppcfopgkdaaGreatDoorMap
import Derived.Test.YtogmppcfopgkdaaGreatDoorBit
import Derived.Lib.ItoaLen
import Derived.Lib.AppendIntMem
namespace Go.Proofs.YtogmppcfopgkdaaGreatDoor
open Go.RowKit Go.Sort Go.Shelf
set_option linter.unusedVariables false
set_option linter.unusedSimpArgs false
set_option maxRecDepth 100000
theorem argsE {xs : List Value} {w : World} {av : Nat → Prop} {ρ : Nat → Loc} {vs : Array Value} (hr : RepC w av ρ (xs.map AV.v) vs) : vs = xs.toArray := by
  apply Array.ext'
  apply List.ext_getElem?
  intro j
  have hn : vs.size = xs.length := by simpa using hr.1
  by_cases hj : j < xs.length
  · have := (hr.2 j (.v xs[j]) vs[j] (by simp [hj]) (by simp [hn, hj])).v_eq
    simp [hn, hj, this]
  · rw [List.getElem?_eq_none (by simp [hn]; omega), List.getElem?_eq_none (by simp; omega)]
theorem Ab_belowV {f : FuncId} {xs : List Value} {x : Value} (hc : callable Tryz.prog f = true) (h : ∀ w, Glob w → Calls Tryz.prog f xs.toArray w fun e w' => e = .returned x ∧ Below w.heap.size w w') : Ab Tryz.prog f (xs.map .v) (.v x) := by
  refine ⟨hc, fun w bad ρ vs hb _ _ hr => ?_⟩
  rw [argsE hr]
  exact (h w hb.2.1).mono fun e w' ⟨he, hw⟩ => ⟨x, ρ, he, .im (.v _), HR.nil, Keeps.of_below hw _, fun b ⟨k, cs, hk, _⟩ => by simp [look] at hk, fun k hk => by cases hk⟩
theorem Ab_belowT {f : FuncId} {xs ys : List Value} (hc : callable Tryz.prog f = true) (h : ∀ w, Glob w → Calls Tryz.prog f xs.toArray w fun e w' => e = .returned (.tuple ys.toArray) ∧ Below w.heap.size w w') : Ab Tryz.prog f (xs.map .v) (.tp (ys.map .v)) := by
  refine ⟨hc, fun w bad ρ vs hb _ _ hr => ?_⟩
  rw [argsE hr]
  refine (h w hb.2.1).mono fun e w' ⟨he, hw⟩ => ⟨_, ρ, he, .tp (by simp) fun j a x hj hx => ?_, HR.nil, Keeps.of_below hw _, fun b ⟨k, cs, hk, _⟩ => by simp [look] at hk, fun k hk => by cases hk⟩
  simp only [List.getElem?_map, Option.map_eq_some_iff, List.getElem?_toArray] at hj hx
  obtain ⟨y, hy, rfl⟩ := hj
  rw [hy] at hx
  injection hx with hx
  subst hx
  exact .im (.v _)
theorem glob_len {w : World} (h : Glob w) : ∃ m, w.cell? ⟨0, 0, none⟩ = some (.int .i64 m) := by
  obtain ⟨v, hv, m, rfl⟩ := (h.1 (0, [fun v => ∃ m, v = .int .i64 m]) (by simp [gTab])).2 0 _ rfl
  exact ⟨m, hv⟩
theorem glob_tab {w : World} (h : Glob w) : Lib.TabIs Tryz.prog w "internal/strconv.uint64pow10" .u64 Lib.pow10Tab := by
  obtain ⟨_, _, t, fz, h3⟩ := h.2 1 (by simp [gVal, Lib.pow10Tab])
  have hg : Tryz.prog.globalNamed "internal/strconv.uint64pow10" = some 1 := by kernel_rfl
  unfold Lib.TabIs World.var?
  rw [hg]
  simp only [Option.bind_some, h3]
  rfl
theorem below_growK (w : World) (k : Nat) (os : Array Obj) : Below w.heap.size w (grow (w.drewN k) os) :=
  Lib.below_grow w.heap.size w (Nat.le_refl _) k os
theorem itoa_ab (n : Int) (hn : I64 n) : Ab Tryz.prog 102 [ai n] (az (Lib.itoa n)) := by
  refine Ab_belowV (xs := [.int .i64 n]) (x := .string (str (Lib.itoa n))) (by kernel_rfl) fun w hG => ?_
  refine (shf_strings_strconvItoa n hn.1 hn.2 w (glob_tab hG)).mono ?_
  rintro e w' ⟨he, k, os, rfl⟩
  exact ⟨he, below_growK _ k os⟩
theorem itoa_len {n : Int} (hn : I64 n) : (Lib.itoa n).length ≤ 5000 := by
  have := Lib.itoa_length_le n hn.1 hn.2
  omega
end Go.Proofs.YtogmppcfopgkdaaGreatDoor
