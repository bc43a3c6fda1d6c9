/- Patterns: plain words, and what they match. No program is named here. -/
import Derived.Test.YtllhcgfdjfmmeaaElA
namespace Go.Proofs.Ytllhcgfdjfmmeaa
set_option linter.unusedVariables false
set_option linter.unusedSimpArgs false
/-- A span: the lowest and the highest byte. -/
structure Sn where
  l : UInt8
  h : UInt8
/-- An item of a pattern. -/
structure It where
  k : Int
  t : List UInt8
  n : Bool
  s : List Sn
def inS (l : List Sn) (b : UInt8) : Bool := l.any fun x => decide (x.l.toNat ≤ b.toNat) && decide (b.toNat ≤ x.h.toNat)
/-- An item other than a star takes a byte. -/
def tks (x : It) (b : UInt8) : Bool := if x.k = 1 then decide (x.t.headD 0 = b) else if x.k = 4 then inS x.s b != x.n else true
/-- The lengths that are matched with one item more. -/
def nxR (x : It) (s : List UInt8) (row : Nat → Bool) : Nat → Bool
  | 0 => if x.k = 3 then row 0 else false
  | k + 1 => if x.k = 3 then row (k + 1) || nxR x s row k else row k && tks x (s.getD k 0)
/-- The lengths of the beginnings of s that a pattern matches. -/
def rowR (s : List UInt8) : List It → Nat → Bool
  | [] => fun k => decide (k = 0)
  | x :: p => fun k => nxR x s (rowR s p) k
/-- The first i items, the first k bytes. -/
def mR (p : List It) (s : List UInt8) (i k : Nat) : Bool := rowR s (p.take i).reverse k
theorem mR_zero (p : List It) (s : List UInt8) (k : Nat) : mR p s 0 k = decide (k = 0) := by simp [mR, rowR]
theorem mR_succ (p : List It) (s : List UInt8) {i : Nat} (h : i < p.length) (k : Nat) : mR p s (i + 1) k = nxR p[i] s (mR p s i) k := by
  unfold mR
  rw [List.take_succ_eq_append_getElem h, List.reverse_append]
  rfl
theorem mR_star (p : List It) (s : List UInt8) {i : Nat} (h : i < p.length) (hk : p[i].k = 3) : mR p s (i + 1) 0 = mR p s i 0 ∧ ∀ k, mR p s (i + 1) (k + 1) = (mR p s i (k + 1) || mR p s (i + 1) k) := by
  refine ⟨by rw [mR_succ p s h, nxR, if_pos hk], fun k => ?_⟩
  rw [mR_succ p s h, nxR, if_pos hk, mR_succ p s h k]
theorem mR_one (p : List It) (s : List UInt8) {i : Nat} (h : i < p.length) (hk : p[i].k ≠ 3) : mR p s (i + 1) 0 = false ∧ ∀ k, mR p s (i + 1) (k + 1) = (mR p s i k && tks p[i] (s.getD k 0)) := by
  refine ⟨by rw [mR_succ p s h, nxR, if_neg hk], fun k => ?_⟩
  rw [mR_succ p s h, nxR, if_neg hk]
/-- The states of the search: a star's own state stays marked. -/
def nS (p : List It) (s : List UInt8) (k i : Nat) : Bool := match p[i]? with
  | some x => if x.k = 3 then mR p s (i + 1) k else mR p s i k
  | none => mR p s i k
theorem nS_star {p : List It} {s : List UInt8} {k i : Nat} (h : i < p.length) (hk : p[i].k = 3) : nS p s k i = mR p s (i + 1) k := by
  rw [nS, List.getElem?_eq_getElem h]; simp [hk]
theorem nS_one {p : List It} {s : List UInt8} {k i : Nat} (h : i < p.length) (hk : p[i].k ≠ 3) : nS p s k i = mR p s i k := by
  rw [nS, List.getElem?_eq_getElem h]; simp [hk]
theorem nS_end {p : List It} {s : List UInt8} {k : Nat} : nS p s k p.length = mR p s p.length k := by
  rw [nS, List.getElem?_eq_none (Nat.le_refl _)]
/-- What a state hands on to the next one by a byte, and by no byte. -/
theorem mR_next (p : List It) (s : List UInt8) {i : Nat} (h : i < p.length) (k : Nat) : mR p s (i + 1) (k + 1) = (if p[i].k = 3 then nS p s (k + 1) i else nS p s k i && tks p[i] (s.getD k 0)) := by
  by_cases hk : p[i].k = 3
  · rw [if_pos hk, nS_star h hk]
  · rw [if_neg hk, nS_one h hk, (mR_one p s h hk).2]
theorem nS_next (p : List It) (s : List UInt8) {i : Nat} (h : i < p.length) (k : Nat) : nS p s (k + 1) i = ((decide (p[i].k = 3) && nS p s k i) || mR p s i (k + 1)) := by
  by_cases hk : p[i].k = 3
  · rw [nS_star h hk, nS_star h hk, (mR_star p s h hk).2, Bool.or_comm]; simp [hk]
  · rw [nS_one h hk]; simp [hk]
theorem nS_first (p : List It) (s : List UInt8) {i : Nat} (h : i < p.length) : nS p s 0 i = mR p s i 0 := by
  by_cases hk : p[i].k = 3
  · rw [nS_star h hk, (mR_star p s h hk).1]
  · rw [nS_one h hk]
/-- No state is marked: none will be. -/
theorem nS_dead (p : List It) (s : List UInt8) {k : Nat} (h : ∀ i ≤ p.length, nS p s k i = false) : ∀ i ≤ p.length, nS p s (k + 1) i = false := by
  have hm : ∀ i ≤ p.length, mR p s i (k + 1) = false ∧ (i ≤ p.length → nS p s (k + 1) i = false) := by
    intro i
    induction i with
    | zero =>
      intro hi
      have h0 : mR p s 0 (k + 1) = false := by rw [mR_zero]; simp
      refine ⟨h0, fun _ => ?_⟩
      by_cases hl : 0 < p.length
      · rw [nS_next p s hl, h 0 hi, h0]; simp
      · have : 0 = p.length := by omega
        rw [this, nS_end, ← this, h0]
    | succ i ih =>
      intro hi
      obtain ⟨h1, h2⟩ := ih (by omega)
      have h0 : mR p s (i + 1) (k + 1) = false := by
        rw [mR_next p s (by omega), h i (by omega), h2 (by omega)]; simp
      refine ⟨h0, fun _ => ?_⟩
      by_cases hl : i + 1 < p.length
      · rw [nS_next p s hl, h _ hi, h0]; simp
      · have : i + 1 = p.length := by omega
        rw [this, nS_end, ← this, h0]
  exact fun i hi => (hm i hi).2 hi
theorem nS_dead_le (p : List It) (s : List UInt8) {k : Nat} (h : ∀ i ≤ p.length, nS p s k i = false) : ∀ m, k ≤ m → mR p s p.length m = false := by
  have : ∀ d, ∀ i ≤ p.length, nS p s (k + d) i = false := fun d => by
    induction d with
    | zero => exact h
    | succ d ih => exact nS_dead p s ih
  intro m hm
  have := this (m - k) p.length (Nat.le_refl _)
  rw [nS_end, show k + (m - k) = m by omega] at this
  exact this
end Go.Proofs.Ytllhcgfdjfmmeaa
