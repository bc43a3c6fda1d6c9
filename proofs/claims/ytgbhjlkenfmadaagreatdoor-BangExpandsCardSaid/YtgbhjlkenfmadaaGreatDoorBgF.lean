/- Contracts of the library's strings functions that bang calls, on the abstract machine. -/
import Derived.Test.YtgbhjlkenfmadaaGreatDoorBgE
import Derived.Test.YtgbhjlkenfmadaaGreatDoorBldN
namespace Go.Proofs.YtgbhjlkenfmadaaGreatDoor
open Go.RowKit
set_option linter.unusedVariables false
set_option linter.unusedSimpArgs false
theorem argsE {xs : List Value} {w : World} {av : Nat → Prop} {ρ : Nat → Loc} {vs : Array Value} (hr : RepC w av ρ (xs.map AV.v) vs) : vs = xs.toArray := by
  apply Array.ext'
  apply List.ext_getElem?
  intro j
  have hn : vs.size = xs.length := by simpa using hr.1
  by_cases hj : j < xs.length
  · have := (hr.2 j (.v xs[j]) vs[j] (by simp [hj]) (by simp [hn, hj])).v_eq
    simp [hn, hj, this]
  · rw [List.getElem?_eq_none (by simp [hn]; omega), List.getElem?_eq_none (by simp; omega)]
theorem Ab_belowV {f : FuncId} {xs : List Value} {x : Value} (hc : callable Tryz.prog f = true) (h : ∀ w, Glob w → Calls Tryz.prog f xs.toArray w fun e w' => e = .returned x ∧ Below w.heap.size w w') : Ab Tryz.prog f (xs.map .v) (.v x) := by
  refine ⟨hc, fun w bad ρ vs hb _ _ hr => ?_⟩
  rw [argsE hr]
  exact (h w hb.2.1).mono fun e w' ⟨he, hw⟩ => ⟨x, ρ, he, .im (.v _), HR.nil, Keeps.of_below hw _, fun b ⟨k, cs, hk, _⟩ => by simp [look] at hk, fun k hk => by cases hk⟩
theorem Ab_belowT {f : FuncId} {xs ys : List Value} (hc : callable Tryz.prog f = true) (h : ∀ w, Glob w → Calls Tryz.prog f xs.toArray w fun e w' => e = .returned (.tuple ys.toArray) ∧ Below w.heap.size w w') : Ab Tryz.prog f (xs.map .v) (.tp (ys.map .v)) := by
  refine ⟨hc, fun w bad ρ vs hb _ _ hr => ?_⟩
  rw [argsE hr]
  refine (h w hb.2.1).mono fun e w' ⟨he, hw⟩ => ⟨_, ρ, he, .tp (by simp) fun j a x hj hx => ?_, HR.nil, Keeps.of_below hw _, fun b ⟨k, cs, hk, _⟩ => by simp [look] at hk, fun k hk => by cases hk⟩
  simp only [List.getElem?_map, Option.map_eq_some_iff, List.getElem?_toArray] at hj hx
  obtain ⟨y, hy, rfl⟩ := hj
  rw [hy] at hx
  injection hx with hx
  subst hx
  exact .im (.v _)
theorem glob_len {w : World} (h : Glob w) : ∃ m, w.cell? ⟨0, 0, none⟩ = some (.int .i64 m) := by
  obtain ⟨v, hv, m, rfl⟩ := (h.1 (0, [fun v => ∃ m, v = .int .i64 m]) (by simp [gTab])).2 0 _ rfl
  exact ⟨m, hv⟩
theorem str_data (l : List UInt8) : (str l).data.toList = l := by simp [str]
theorem contains_ab (l p : List UInt8) (hl : l.length ≤ 4000000000) : Ab Tryz.prog 34 [az l, az p] (ab (ixN p l).isSome) := by
  refine Ab_belowV (xs := [.string (str l), .string (str p)]) (by kernel_rfl) fun w hG => ?_
  obtain ⟨m, hm⟩ := glob_len hG
  refine (shf_strings_Contains (str l) (str p) m w (by rw [str_size]; omega) hm).mono fun e w' ⟨he, hw⟩ => ⟨?_, hw ▸ Below.refl _ _⟩
  rw [he, str_data, str_data, lib_contains]
theorem cut_ab (l p : List UInt8) (hl : l.length ≤ 4000000000) : Ab Tryz.prog 32 [az l, az p] (.tp [az (cutN p l).1, az (cutN p l).2.1, ab (cutN p l).2.2]) := by
  refine Ab_belowT (xs := [.string (str l), .string (str p)]) (ys := [.string (str (cutN p l).1), .string (str (cutN p l).2.1), .bool (cutN p l).2.2]) (by kernel_rfl) fun w hG => ?_
  obtain ⟨m, hm⟩ := glob_len hG
  refine (shf_strings_Cut (str l) (str p) m w (by rw [str_size]; omega) hm).mono fun e w' ⟨he, n, hw⟩ => ⟨?_, hw ▸ below_drewN (Below.refl _ _) n⟩
  rw [he, str_data, str_data, lib_cut]
  rfl
theorem lastIndexByte_ab (l : List UInt8) (c : UInt8) (hl : l.length ≤ 4000000000) : Ab Tryz.prog 135 [az l, au c] (ai (lsN c l)) := by
  refine Ab_belowV (xs := [.string (str l), .int .u8 c.toNat]) (by kernel_rfl) fun w hG => ?_
  refine (shf_strings_LastIndexByte (str l) c.toNat (by rw [str_size]; omega) w).mono fun e w' ⟨he, hw⟩ => ⟨?_, hw ▸ Below.refl _ _⟩
  rw [he, Lib.lastIndexByte, str_size, lib_last c l l.length (Nat.le_refl _), List.take_length]
theorem count_ab (l p : List UInt8) (hl : l.length ≤ 4000000000) (hp : p ≠ []) : Ab Tryz.prog 62 [az l, az p] (ai (Lib.countB (str l) (str p))) := by
  refine Ab_belowV (xs := [.string (str l), .string (str p)]) (by kernel_rfl) fun w hG => ?_
  obtain ⟨m, hm⟩ := glob_len hG
  exact (shf_strings_Count_any (str l) (str p) m w (by rw [str_size]; omega) hm (by rw [str_size]; exact List.length_pos_iff.2 hp)).mono fun e w' ⟨he, hw⟩ => ⟨he, hw ▸ Below.refl _ _⟩
theorem replace_ab (t a b : List UInt8) (n : Int) (ht : t.length ≤ 1000000000) (ha : a ≠ []) (hb : b.length ≤ 10000) : Ab Tryz.prog 35 [az t, az a, az b, ai n] (az (Lib.replace t a b n)) := by
  refine Ab_belowV (xs := [.string (str t), .string (str a), .string (str b), .int .i64 n]) (by kernel_rfl) fun w hG => ?_
  obtain ⟨m, hm⟩ := glob_len hG
  have h3 := (lib_all (a := a) (b := b) (t := t) ha).2.2
  have h4 : Lib.countB (str t) (str a) * b.length ≤ 1000000000 * 10000 := Nat.mul_le_mul (by omega) hb
  refine (shf_strings_Replace (str t) (str a) (str b) n m w (by rw [str_size]; omega) hm (by rw [str_size]; exact List.length_pos_iff.2 ha) (by rw [str_size, str_size]; omega)).mono fun e w' ⟨he, hw⟩ => ⟨?_, hw⟩
  rw [he, str_data, str_data, str_data]
  rfl
abbrev strsA (L : List (List UInt8)) : AV := .rd L.length (L.map az)
theorem join_ab (L : List (List UInt8)) (hL : L.length ≤ 1000000) (hx : ∀ x ∈ L, x.length ≤ 100000) : Ab Tryz.prog 109 [strsA L, az [32]] (az (jnB L)) := by
  refine ⟨by kernel_rfl, fun w bad ρ vs hb _ _ hr => ?_⟩
  obtain ⟨hn, hvs⟩ := hr
  have hn : vs.size = 2 := by simpa using hn
  obtain ⟨x, y, rfl⟩ : ∃ x y, vs = #[x, y] := by
    obtain ⟨vs⟩ := vs
    match vs, hn with
    | [x, y], _ => exact ⟨x, y, rfl⟩
  have h1 := hvs 1 (az [32]) y rfl rfl
  have e1 : y = .string (str [32]) := h1.v_eq
  subst e1
  have h0 := hvs 0 (strsA L) x rfl rfl
  obtain ⟨A, c, rfl, hlc, hcm, hm⟩ : ∃ A c, x = .slice A L.length c ∧ L.length ≤ c ∧ c ≤ 9223372036854775807 ∧ (0 < L.length → ∃ b off, A = some ⟨b, off, none⟩ ∧ b < w.heap.size ∧ ∀ (j : Nat) z, L[j]? = some z → w.cell? ⟨b, off + j, none⟩ = some (.string (str z))) := by
    cases h0 with
    | im h0 =>
      cases h0 with
      | rd u q1 q2 q0 qm qr =>
        refine ⟨_, _, rfl, q1, q2, fun hp => ?_⟩
        obtain ⟨b, off, hA, _, hlt, hc⟩ := qm hp
        refine ⟨b, off, hA, hlt, fun j z hj => ?_⟩
        have hjl := (List.getElem?_eq_some_iff.1 hj).1
        rw [hc j (by simpa using hjl)]
        have hrj := qr j (az z) (by simp [hj])
        generalize u j = uj at hrj
        cases hrj
        rfl
  have fin : ∀ {e : Ending} {w' : World}, e = .returned (.string ⟨(Lib.join (L.map fun z => (str z).data.toList) (str [32]).data.toList).toArray⟩) → Below w.heap.size w w' → ∃ v ρ', e = .returned v ∧ Rep w' (avd bad ρ' []) ρ' (az (jnB L)) v ∧ HR bad ρ' [] w' ∧ Keeps w w' (ownB ρ []) ∧ (∀ b, ownB ρ' [] b → (ownB ρ [] b ∨ w.heap.size ≤ b) ∧ ¬ bad b) ∧ ∀ k ∈ ([] : List Nat), ρ' k = ρ k := fun {e w'} he hw => by
    refine ⟨_, ρ, he, ?_, HR.nil, Keeps.of_below hw _, fun b ⟨k, cs, hk, _⟩ => by simp [look] at hk, fun k hk => by cases hk⟩
    have e2 : (L.map fun z => (str z).data.toList) = L := by rw [show (fun z => (str z).data.toList) = id from funext str_data, List.map_id]
    rw [e2, str_data, lib_join]
    exact .im (.v _)
  by_cases hp : 0 < L.length
  · obtain ⟨b, off, rfl, hlt, hc⟩ := hm hp
    have hlen : (Lib.join (L.map fun z => (str z).data.toList) (str [32]).data.toList).length ≤ 140737488355328 := by
      rw [show (L.map fun z => (str z).data.toList) = L by rw [show (fun z => (str z).data.toList) = id from funext str_data, List.map_id], str_data, lib_join]
      have h1 := jnB_len L hx
      have h2 : L.length * (100000 + 1) ≤ 1000000 * (100000 + 1) := Nat.mul_le_mul_right _ hL
      omega
    have key := shf_strings_Join b off c (L.map str) (str [32]) w (fun j x hj => by
      simp only [List.getElem?_map, Option.map_eq_some_iff] at hj
      obtain ⟨z, hz, rfl⟩ := hj
      exact hc j z hz) hlt (by simp; omega) (by simp; omega) (by rw [List.map_map]; exact hlen)
    rw [List.length_map] at key
    refine key.mono fun e w' ⟨he, hw⟩ => fin (by rw [he, List.map_map]; rfl) hw
  · obtain rfl : L = [] := List.eq_nil_of_length_eq_zero (by omega)
    refine (Any.strings_Join_none shl156 bld_Extra_156 A c (str [32]) w).mono fun e w' ⟨he, hw⟩ => fin (by rw [he]; rfl) (hw ▸ Below.refl _ _)
/-- Freezing changes one block. -/
theorem keeps_freeze (w : World) (g n : Nat) : Keeps w (w.drew.freeze ⟨g, 0, none⟩ n) (fun x => x = g) := by
  have h := Lib.below_freeze (B := g) (Below.drew (Below.refl g w)) (p := ⟨g, 0, none⟩) (Nat.le_refl _) n
  refine ⟨h.os, h.tape, h.output, h.size, fun k hk hn => ?_⟩
  unfold World.freeze
  split
  · rfl
  · simp only [World.drew]
    rw [Array.getElem?_modify, if_neg (fun e => hn e.symm)]
set_option maxHeartbeats 2000000 in
set_option maxRecDepth 100000 in
theorem str_wrk : WrK Tryz.prog 71 5 40 := ⟨by kernel_rfl, fun B b v l w h hBw => by
  obtain ⟨hB, ⟨p, hp, hbk⟩, hown, hne, hcap⟩ := h
  by_cases hl : l = []
  · subst hl
    have fin : ∀ {e : Ending} {w' : World}, e = .returned (.string ⟨#[]⟩) → Below w.heap.size w w' → e = .returned (.string (str [])) ∧ Keeps w w' (fun x => v.ownBlock = some x) := fun {e w'} he hw => ⟨he, Keeps.of_below hw _⟩
    rcases hown.2 with ⟨hv, _⟩ | ⟨g, cap, cur, hv, q1, q2, q3⟩
    · rcases hcap with rfl | ⟨A, n, c, rfl, hc⟩
      · exact (Any.Builder_String_nil shl169 bld_Extra_169 w.heap.size b p w hbk).mono fun e w' ⟨he, hw⟩ => fin he hw
      · injection hv with _ _ e; omega
    · rcases hcap with rfl | ⟨A, n, c, rfl, hc⟩
      · cases hv
      · injection hv with e1 e2 e3
        subst e1; subst e3
        rw [e2] at hbk
        exact (Any.Builder_String_room shl169 bld_Extra_169 w.heap.size b g _ p w (by omega) hbk).mono fun e w' ⟨he, hw⟩ => fin he hw
  · have hl0 : l.length ≠ 0 := by simpa using hl
    obtain ⟨g, cap, cur, rfl, hbg, hg, hnc, hcm, hcs, htake⟩ : ∃ g cap cur, v = .slice (some ⟨g, 0, none⟩) l.length cap ∧ B ≤ g ∧ w.heap[g]? = some (.cells cur 5 (0, 0)) ∧ l.length ≤ cap ∧ cap ≤ maxLen ∧ cur.size = cap * 1 ∧ cur.toList.take (l.length * 1) = Lib.byteCells l := by
      rcases hown.2 with ⟨_, hz⟩ | ⟨g, cap, cur, hv, r⟩
      · exact absurd hz hl0
      · exact ⟨g, cap, cur, hv, r⟩
    have c1 : w.drew.cell? ⟨b, 1, none⟩ = some (.slice (some ⟨g, 0, none⟩) l.length cap) := by
      have : w.drew.heap[b]? = some (.cells #[p, .slice (some ⟨g, 0, none⟩) l.length cap] 71 (0, 0)) := hbk
      rw [Lib.cell_of_heap this]; rfl
    have hSD : (Builtin.unsafeSliceData_ #[69] 108 #[.slice (some ⟨g, 0, none⟩) l.length cap]).run Tryz.prog w.drew = .ok (.pointer (some ⟨g, 0, none⟩)) w.drew :=
      Lib.run_unsafeSliceData_row _ _ _ _ _ _ (by omega)
    have hUS : (Builtin.unsafeString_ #[108, 3] 9 #[.pointer (some ⟨g, 0, none⟩), .int .i64 l.length]).run Tryz.prog w.drew = .ok (.string ⟨l.toArray⟩) (w.drew.freeze ⟨g, 0, none⟩ l.length) := by
      refine Lib.run_unsafeString_row w.drew 108 3 9 5 shl169.t127 bld_Extra_169.cellsByte g cur.size (by have hg' : w.drew.heap[g]? = some (.cells cur 5 (0, 0)) := hg; simp [World.shape?, hg']) l hl (by omega) (by unfold maxLen at hcm; omega) ?_
      intro j x hx
      have := hown.cells (g := g) rfl j (.int .u8 x.toNat) (by simp [Lib.byteCells, hx])
      exact this
    have mixed := shl169.mixed
    go_enter Tryz.func40, Tryz.ntmps40
    go_wp2
    go_region_o
    all_goals (go_wp2; go_ret; exact ⟨rfl, (keeps_freeze w g l.length).mono fun k _ hk => by rw [hk]; rfl⟩)⟩
end Go.Proofs.YtgbhjlkenfmadaaGreatDoor
