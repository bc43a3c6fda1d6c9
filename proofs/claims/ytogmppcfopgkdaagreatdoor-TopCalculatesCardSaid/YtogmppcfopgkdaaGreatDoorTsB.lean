/- strings.Contains, Cut and Join where they are needed, on the abstract machine. -/
import Derived.Test.YtogmppcfopgkdaaGreatDoorTsA
namespace Go.Proofs.YtogmppcfopgkdaaGreatDoor
open Go.RowKit Go.Sort Go.Shelf
set_option linter.unusedVariables false
set_option linter.unusedSimpArgs false
set_option maxRecDepth 100000
theorem contains_x : Ab Tryz.prog 183 [az [64, 42, 35, 63, 45, 36, 33, 48], az [120]] (ab false) := by
  refine Ab_belowV (xs := [.string (str [64, 42, 35, 63, 45, 36, 33, 48]), .string (str [120])]) (by kernel_rfl) fun w hG => ?_
  obtain ⟨m, hm⟩ := glob_len hG
  refine (shf_strings_Contains (str [64, 42, 35, 63, 45, 36, 33, 48]) (str [120]) m w (by decide) hm).mono fun e w' ⟨he, hw⟩ => ⟨?_, hw ▸ Below.refl _ _⟩
  rw [he, str_data, str_data]
  rfl
theorem idx_none (c : UInt8) : ∀ s : List UInt8, c ∉ s → Lib.index s [c] = -1
  | [], _ => rfl
  | b :: l, h => by
    have h1 : ¬ c = b := fun e => h (by rw [e]; exact List.mem_cons_self)
    have h2 := idx_none c l fun e => h (List.mem_cons_of_mem _ e)
    unfold Lib.index
    rw [h2, if_neg (by simp [List.isPrefixOf, h1])]
    rfl
theorem cut_none (s : List UInt8) (c : UInt8) (hl : s.length ≤ 1000000) (h : c ∉ s) : Ab Tryz.prog 130 [az s, az [c]] (.tp [az s, az [], ab false]) := by
  refine Ab_belowT (xs := [.string (str s), .string (str [c])]) (ys := [.string (str s), .string (str []), .bool false]) (by kernel_rfl) fun w hG => ?_
  obtain ⟨m, hm⟩ := glob_len hG
  refine (shf_strings_Cut (str s) (str [c]) m w (by rw [str_size]; omega) hm).mono fun e w' ⟨he, n, hw⟩ => ⟨?_, hw ▸ below_drewN (Below.refl _ _) n⟩
  rw [he, str_data, str_data]
  unfold Lib.cut
  rw [idx_none c s h]
  rfl
theorem join_one (s : List UInt8) (sep : List UInt8) (hs : s.length ≤ 1000000) : Ab Tryz.prog 83 [.rd 1 [az s], az sep] (az s) := by
  refine ⟨by kernel_rfl, fun w bad ρ vs hb _ _ hr => ?_⟩
  obtain ⟨hn, hvs⟩ := hr
  have hn : vs.size = 2 := by simpa using hn
  obtain ⟨x, y, rfl⟩ : ∃ x y, vs = #[x, y] := by
    obtain ⟨vs⟩ := vs
    match vs, hn with
    | [x, y], _ => exact ⟨x, y, rfl⟩
  have h1 := hvs 1 (az sep) y rfl rfl
  have e1 : y = .string (str sep) := h1.v_eq
  subst e1
  have h0 := hvs 0 (.rd 1 [az s]) x rfl rfl
  obtain ⟨b, off, c, rfl, hlc, hlt, hc⟩ : ∃ b off c, x = .slice (some ⟨b, off, none⟩) 1 c ∧ 1 ≤ c ∧ b < w.heap.size ∧ w.cell? ⟨b, off + 0, none⟩ = some (.string (str s)) := by
    cases h0 with
    | im h0 =>
      cases h0 with
      | rd u q1 q2 q0 qm qr =>
        obtain ⟨b, off, hA, _, hlt, hc⟩ := qm (by omega)
        subst hA
        refine ⟨b, off, _, rfl, q1, hlt, ?_⟩
        rw [hc 0 (by simp)]
        have hrj := qr 0 (az s) rfl
        generalize u 0 = uj at hrj
        cases hrj
        rfl
  have hj1 : Lib.join [s] sep = s := by simp [Lib.join, List.intercalate, List.intersperse]
  have key := shf_strings_Join b off c [str s] (str sep) w (fun j x hj => by
    match j, hj with
    | 0, hj => simp only [List.getElem?_cons_zero, Option.some.injEq] at hj; subst hj; exact hc
    | j + 1, hj => simp at hj) hlt (by simp) (by simpa using hlc) (by rw [List.map_cons, List.map_nil, str_data, str_data, hj1]; omega)
  refine key.mono fun e w' ⟨he, hw⟩ => ?_
  rw [List.map_cons, List.map_nil, str_data, str_data, hj1] at he
  exact ⟨_, ρ, he, .im (.v _), HR.nil, Keeps.of_below hw _, fun b ⟨k, cs, hk, _⟩ => by simp [look] at hk, fun k hk => by cases hk⟩
end Go.Proofs.YtogmppcfopgkdaaGreatDoor
