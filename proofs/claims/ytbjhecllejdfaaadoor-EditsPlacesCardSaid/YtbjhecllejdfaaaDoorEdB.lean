/- strings.Split at a newline, for the abstract machine. -/
import Derived.Test.YtbjhecllejdfaaaDoorShf
import Derived.Test.YtbjhecllejdfaaaDoorCom
import Derived.Test.YtbjhecllejdfaaaDoorEdA
import Derived.Lib.SplitLaws
import Derived.Lib.IndexBytes
namespace Go.Proofs.YtbjhecllejdfaaaDoor
open Go.RowKit
set_option linter.unusedVariables false
set_option linter.unusedSimpArgs false
theorem lns_one : ∀ (s : List UInt8), (∀ k : Nat, s[k]? ≠ some 10) → lns s = [s]
  | [], _ => rfl
  | c :: r, h => by
    rw [lns, if_neg (fun e => h 0 (by simp [e])), lns_one r (fun k => h (k + 1))]
    rfl
theorem lns_hit : ∀ (s : List UInt8) (i : Nat), s[i]? = some 10 → (∀ k : Nat, k < i → s[k]? ≠ some 10) → lns s = s.take i :: lns (s.drop (i + 1))
  | [], i, h, _ => by simp at h
  | c :: r, 0, h, _ => by
    rw [lns, if_pos (by simpa using h)]
    rfl
  | c :: r, i + 1, h, hk => by
    rw [lns, if_neg (fun e => hk 0 (by omega) (by simp [e])), lns_hit r i (by simpa using h) (fun k hk' => by simpa using hk (k + 1) (by omega))]
    rfl
theorem index_nl (s : List UInt8) : Lib.indexB (str s) (str [10]) = Lib.indexByte s 10 := by
  rw [Lib.one (str s) (str [10]) rfl]
  rfl
theorem split_lns : ∀ (n : Nat) (s : List UInt8), s.length ≤ n → Lib.splitB (str [10]) 0 (Lib.countB (str s) (str [10])) (str s) = (lns s).map str := by
  intro n
  induction n with
  | zero =>
    intro s hs
    obtain rfl : s = [] := List.eq_nil_of_length_eq_zero (by omega)
    rw [Lib.countB_miss _ _ (by rw [index_nl]; rfl)]
    rfl
  | succ n ih =>
    intro s hs
    rcases Lib.indexB_cases (str s) (str [10]) with h | ⟨i, h, hroom⟩
    · rw [Lib.countB_miss _ _ h]
      rw [index_nl] at h
      rw [lns_one s (Lib.indexByte_none h)]
      rfl
    · rw [Lib.countB_hit _ _ i (by decide) h, Nat.add_comm 1, Lib.splitB_hit _ _ _ _ i h]
      rw [index_nl] at h
      obtain ⟨h1, h2⟩ := Lib.indexByte_some h
      rw [lns_hit s i h1 h2, List.map_cons]
      simp only [str_size, List.length_cons, List.length_nil, Nat.zero_add] at hroom ⊢
      rw [str_extract, str_extract, List.take_of_length_le (l := List.drop (i + 1) s) (by simp), ih (s.drop (i + 1)) (by simp; omega)]
      simp
theorem split_len (s : List UInt8) : Lib.countB (str s) (str [10]) + 1 = (lns s).length := by
  have h1 := Lib.splitB_all (str [10]) (by decide) 0 _ (str s) rfl
  rw [split_lns _ s (Nat.le_refl _), List.length_map] at h1
  exact h1.symm
theorem lns_len : ∀ s : List UInt8, (lns s).length ≤ s.length + 1
  | [] => by simp [lns]
  | c :: r => by
    have := lns_len r
    rw [lns]
    split
    · simp; omega
    · rw [hdA_len c (lns_ne r)]; simp; omega
/-- Strings as data. -/
abbrev strsC (L : List (List UInt8)) : List AV := L.map az
abbrev strsA (L : List (List UInt8)) : AV := .rd L.length (strsC L)
theorem split_ab (s : List UInt8) (hs : s.length ≤ 4000000000) : Ab Tryd.prog 30 [az s, az [10]] (strsA (lns s)) := by
  refine ⟨by kernel_rfl, fun w bad ρ vs hb hn hr hrep => ?_⟩
  obtain ⟨hbad, hG, hgb⟩ := hb
  obtain ⟨v, hv, m, rfl⟩ := (hG (0, [fun v => ∃ m, v = .int .i64 m]) (by simp [gTab])).2 0 _ rfl
  have e : vs = #[.string (str s), .string (str [10])] := by
    have hsz : vs.size = 2 := by simpa using hrep.1
    have h0 := (hrep.2 0 (az s) vs[0] rfl (by simp [hsz])).v_eq
    have h1 := (hrep.2 1 (az [10]) vs[1] rfl (by simp [hsz])).v_eq
    apply Array.ext (by simp [hsz])
    intro i hi _
    rcases i with _ | _ | i
    · exact h0
    · exact h1
    · omega
  subst e
  refine (shf_strings_Split (str s) (str [10]) m w (by rw [str_size]; omega) hv (by decide)).mono fun e w' ⟨he, hw⟩ => ?_
  rw [split_len, split_lns _ s (Nat.le_refl _)] at *
  refine ⟨_, ρ, he, .im ?_, HR.nil, by rw [hw]; exact (Keeps.refl _ _).alloc _, fun b ⟨k, cs, hk, _⟩ => by simp [look] at hk, fun k hk => by cases hk⟩
  have hl := lns_len s
  have hpos : 0 < (lns s).length := List.length_pos_iff.2 (lns_ne s)
  refine .rd (fun j => .string (str ((lns s)[j]?.getD []))) (Nat.le_refl _) (by omega) (fun h => by omega) (fun _ => ⟨w.heap.size, 0, rfl, ?_, ?_, fun j hj => ?_⟩) (fun j a hj => ?_)
  · intro h
    have := hbad _ ((avd_nil _ _ _).1 h)
    omega
  · rw [hw, World.size_alloc]; omega
  · rw [hw, Nat.zero_add]
    simp only [strsC, List.length_map] at hj
    rw [World.cell?_alloc_new]
    simp [hj]
  · simp only [strsC, List.getElem?_map, Option.map_eq_some_iff] at hj
    obtain ⟨x, hx, rfl⟩ := hj
    simp only [hx, Option.getD_some]
    exact .v _
end Go.Proofs.YtbjhecllejdfaaaDoor
