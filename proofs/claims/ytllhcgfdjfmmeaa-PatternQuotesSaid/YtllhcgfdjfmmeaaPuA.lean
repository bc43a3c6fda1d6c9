/- Patterns: the states of the search, plain. -/
import Derived.Test.YtllhcgfdjfmmeaaPtI
import Derived.Test.YtllhcgfdjfmmeaaPtF
namespace Go.Proofs.Ytllhcgfdjfmmeaa
open Go.RowKit
set_option linter.unusedVariables false
set_option linter.unusedSimpArgs false
def k3 (p : List It) (j : Nat) : Bool := match p[j]? with
  | some x => decide (x.k = 3)
  | none => false
theorem k3_at {p : List It} {j : Nat} (h : j < p.length) : k3 p j = decide (p[j].k = 3) := by rw [k3, List.getElem?_eq_getElem h]
/-- What spread makes of states. -/
def tS (p : List It) (g : Nat → Bool) : Nat → Bool
  | 0 => g 0
  | j + 1 => g (j + 1) || (tS p g j && k3 p j)
theorem sprd_get (p : List It) (A : List Bool) (g : Nat → Bool) (hA : A.length = p.length + 1) (hg : ∀ j, j ≤ p.length → A[j]? = some (g j)) : ∀ i, i ≤ p.length → ∀ j, j ≤ p.length → (sprd p i A)[j]? = some (if j ≤ i then tS p g j else g j)
  | 0, _, j, hj => by
    rw [sprd, hg j hj]
    split
    · next h => obtain rfl : j = 0 := by omega
                rfl
    · rfl
  | i + 1, hi, j, hj => by
    have ih := sprd_get p A g hA hg i (by omega)
    have hl := sprd_len p A i
    have hk : (p[i]?.map (·.k) = some 3) ↔ k3 p i = true := by
      rw [k3, List.getElem?_eq_getElem (by omega)]; simp
    rw [sprd, ih i (by omega), if_pos (Nat.le_refl _)]
    simp only [hk]
    by_cases e : j = i + 1
    · subst e
      rw [if_pos (Nat.le_refl _)]
      split
      · next h =>
        rw [List.getElem?_set_self (by omega)]
        simp only [Option.some.injEq] at h
        rw [tS, h.1, h.2]; simp
      · next h =>
        rw [ih (i + 1) hj, if_neg (by omega), tS]
        simp only [Option.some.injEq] at h
        congr 1
        cases h1 : tS p g i <;> cases h2 : k3 p i <;> simp_all
    · have e2 : (if j ≤ i + 1 then tS p g j else g j) = if j ≤ i then tS p g j else g j := by
        by_cases h : j ≤ i
        · rw [if_pos h, if_pos (by omega)]
        · rw [if_neg h, if_neg (by omega)]
      rw [e2]
      split
      · rw [List.getElem?_set_ne (fun h => e h.symm), ih j hj]
      · rw [ih j hj]
theorem list_eq_map {n : Nat} {A : List Bool} {f : Nat → Bool} (hl : A.length = n + 1) (h : ∀ j, j ≤ n → A[j]? = some (f j)) : A = (List.range (n + 1)).map f := by
  refine List.ext_getElem? fun j => ?_
  by_cases hj : j ≤ n
  · rw [h j hj, List.getElem?_map, List.getElem?_range (by omega)]; rfl
  · rw [List.getElem?_eq_none (by omega), List.getElem?_eq_none (by simp; omega)]
/-- The states after k bytes. -/
def stL (p : List It) (s : List UInt8) (k : Nat) : List Bool := (List.range (p.length + 1)).map (nS p s k)
theorem stL_len (p : List It) (s : List UInt8) (k : Nat) : (stL p s k).length = p.length + 1 := by simp [stL]
theorem stL_get (p : List It) (s : List UInt8) (k : Nat) {j : Nat} (h : j ≤ p.length) : (stL p s k)[j]? = some (nS p s k j) := by
  rw [stL, List.getElem?_map, List.getElem?_range (by omega)]; rfl
theorem stL_zero (p : List It) (s : List UInt8) : sprd p p.length ((List.replicate (p.length + 1) false).set 0 true) = stL p s 0 := by
  refine list_eq_map (by rw [sprd_len]; simp) fun j hj => ?_
  rw [sprd_get p _ (fun j => decide (j = 0)) (by simp) (fun j hj => ?_) p.length (Nat.le_refl _) j hj, if_pos hj]
  · congr 1
    induction j with
    | zero =>
      show tS p _ 0 = _
      rw [tS]
      by_cases h : 0 < p.length
      · rw [nS_first p s h, mR_zero]
      · have : 0 = p.length := by omega
        rw [show nS p s 0 0 = nS p s 0 p.length by rw [← this], nS_end, ← this, mR_zero]
    | succ j ih =>
      rw [tS, ih (by omega), k3_at (by omega)]
      have hm : mR p s (j + 1) 0 = (nS p s 0 j && decide (p[j].k = 3)) := by
        rw [nS_first p s (by omega)]
        by_cases hk : p[j].k = 3
        · rw [(mR_star p s (by omega) hk).1]; simp [hk]
        · rw [(mR_one p s (by omega) hk).1]; simp [hk]
      rw [← hm]
      by_cases h : j + 1 < p.length
      · rw [nS_first p s h]; simp
      · have : j + 1 = p.length := by omega
        rw [show decide (j + 1 = 0) = false by simp, Bool.false_or, this, nS_end]
  · by_cases e : j = 0
    · subst e; simp
    · rw [List.getElem?_set_ne (fun h => e h.symm), List.getElem?_replicate, if_pos (by omega)]; simp [e]
/-- advance, before spread. -/
def advL (p : List It) (S : List Bool) (b : UInt8) : Nat → List Bool
  | 0 => List.replicate (p.length + 1) false
  | i + 1 => if S[i]? = some true then (match p[i]? with
      | some x => if x.k = 3 then (advL p S b i).set i true else if tks x b = true then (advL p S b i).set (i + 1) true else advL p S b i
      | none => advL p S b i) else advL p S b i
theorem advL_len (p : List It) (S : List Bool) (b : UInt8) : ∀ i, (advL p S b i).length = p.length + 1
  | 0 => by simp [advL]
  | i + 1 => by
    have := advL_len p S b i
    rw [advL]
    split
    · split
      · split
        · simp [this]
        · split <;> simp [this]
      · exact this
    · exact this
def tk (p : List It) (j : Nat) (b : UInt8) : Bool := match p[j]? with
  | some x => tks x b
  | none => false
def gA (p : List It) (g : Nat → Bool) (b : UInt8) (i j : Nat) : Bool := (decide (j < i) && g j && k3 p j) || (decide (1 ≤ j ∧ j ≤ i) && g (j - 1) && !k3 p (j - 1) && tk p (j - 1) b)
theorem advL_get (p : List It) (S : List Bool) (b : UInt8) (g : Nat → Bool) (hS : S.length = p.length + 1) (hg : ∀ j, j ≤ p.length → S[j]? = some (g j)) : ∀ i, i ≤ p.length → ∀ j, j ≤ p.length → (advL p S b i)[j]? = some (gA p g b i j)
  | 0, _, j, hj => by
    rw [advL, List.getElem?_replicate, if_pos (by omega), gA]
    simp
    omega
  | i + 1, hi, j, hj => by
    have ih := advL_get p S b g hS hg i (by omega)
    have hl := advL_len p S b i
    have hil : i < p.length := by omega
    rw [advL, hg i (by omega), List.getElem?_eq_getElem hil]
    have ek : k3 p i = decide (p[i].k = 3) := k3_at hil
    have et : tk p i b = tks p[i] b := by rw [tk, List.getElem?_eq_getElem hil]
    have e1 : j = i → gA p g b (i + 1) j = ((g i && k3 p i) || gA p g b i j) := fun e => by
      subst e
      simp only [gA, Nat.lt_irrefl, Nat.lt_succ_self, decide_true, decide_false, Bool.true_and, Bool.false_and, Bool.false_or]
      have : (1 ≤ j ∧ j ≤ j + 1) ↔ (1 ≤ j ∧ j ≤ j) := by omega
      simp only [this]
    have e2 : j = i + 1 → gA p g b (i + 1) j = ((g i && !k3 p i && tk p i b) || gA p g b i j) := fun e => by
      subst e
      simp only [gA, Nat.lt_irrefl, decide_false, Bool.false_and, Bool.false_or, Nat.add_sub_cancel]
      rw [show decide (1 ≤ i + 1 ∧ i + 1 ≤ i + 1) = true by simp, show decide (i + 1 < i) = false by simp, show decide (1 ≤ i + 1 ∧ i + 1 ≤ i) = false by simp]
      simp
    have e3 : j ≠ i → j ≠ i + 1 → gA p g b (i + 1) j = gA p g b i j := fun h1 h2 => by
      have a1 : (j < i + 1) ↔ (j < i) := by omega
      have a2 : (1 ≤ j ∧ j ≤ i + 1) ↔ (1 ≤ j ∧ j ≤ i) := by omega
      simp only [gA, a1, a2]
    cases hgi : g i with
    | false =>
      rw [if_neg (by simp), ih j hj]
      congr 1
      by_cases c1 : j = i
      · rw [e1 c1, hgi]; simp
      · by_cases c2 : j = i + 1
        · rw [e2 c2, hgi]; simp
        · rw [e3 c1 c2]
    | true =>
      rw [if_pos rfl]
      simp only
      by_cases hk : p[i].k = 3
      · rw [if_pos hk]
        by_cases c1 : j = i
        · rw [e1 c1, hgi, ek]
          subst c1
          rw [List.getElem?_set_self (by omega)]; simp [hk]
        · rw [List.getElem?_set_ne (fun h => c1 h.symm), ih j hj]
          congr 1
          by_cases c2 : j = i + 1
          · rw [e2 c2, hgi, ek]; simp [hk]
          · rw [e3 c1 c2]
      · rw [if_neg hk]
        cases ht : tks p[i] b with
        | true =>
          rw [if_pos rfl]
          by_cases c2 : j = i + 1
          · rw [e2 c2, hgi, ek, et, ht]
            subst c2
            rw [List.getElem?_set_self (by omega)]; simp [hk]
          · rw [List.getElem?_set_ne (fun h => c2 h.symm), ih j hj]
            congr 1
            by_cases c1 : j = i
            · rw [e1 c1, hgi, ek]; simp [hk]
            · rw [e3 c1 c2]
        | false =>
          rw [if_neg (by simp), ih j hj]
          congr 1
          by_cases c1 : j = i
          · rw [e1 c1, hgi, ek]; simp [hk]
          · by_cases c2 : j = i + 1
            · rw [e2 c2, et, ht]; simp
            · rw [e3 c1 c2]
theorem stL_succ (p : List It) (s : List UInt8) {k : Nat} : sprd p p.length (advL p (stL p s k) (s.getD k 0) p.length) = stL p s (k + 1) := by
  refine list_eq_map (by rw [sprd_len, advL_len]) fun j hj => ?_
  rw [sprd_get p _ (gA p (nS p s k) (s.getD k 0) p.length) (advL_len ..) (fun j hj => advL_get p _ _ _ (stL_len ..) (fun j hj => stL_get p s k hj) _ (Nat.le_refl _) j hj) p.length (Nat.le_refl _) j hj, if_pos hj]
  congr 1
  induction j with
  | zero =>
    rw [tS]
    by_cases h : 0 < p.length
    · rw [nS_next p s h, mR_zero, gA, k3_at h]
      simp [h, Bool.and_comm]
    · have e : 0 = p.length := by omega
      rw [show nS p s (k + 1) 0 = nS p s (k + 1) p.length by rw [← e], nS_end, ← e, mR_zero, gA]
      simp
  | succ j ih =>
    rw [tS, ih (by omega), k3_at (by omega)]
    have hm := mR_next p s (show j < p.length by omega) k
    have et : tk p j (s.getD k 0) = tks p[j] (s.getD k 0) := by rw [tk, List.getElem?_eq_getElem (by omega)]
    have eg : gA p (nS p s k) (s.getD k 0) p.length (j + 1) = ((decide (j + 1 < p.length) && nS p s k (j + 1) && k3 p (j + 1)) || (nS p s k j && !decide (p[j].k = 3) && tks p[j] (s.getD k 0))) := by
      rw [gA, Nat.add_sub_cancel, et, k3_at (show j < p.length by omega), show decide (1 ≤ j + 1 ∧ j + 1 ≤ p.length) = true by simp; omega]
      simp
    have em : ((nS p s k j && !decide (p[j].k = 3) && tks p[j] (s.getD k 0)) || (nS p s (k + 1) j && decide (p[j].k = 3))) = mR p s (j + 1) (k + 1) := by
      rw [hm]
      by_cases hk : p[j].k = 3 <;> simp [hk]
    rw [eg, Bool.or_assoc, em]
    by_cases h : j + 1 < p.length
    · rw [nS_next p s h, k3_at h]
      simp [h, Bool.and_comm]
    · have e : j + 1 = p.length := by omega
      rw [show decide (j + 1 < p.length) = false by simp; omega, Bool.false_and, Bool.false_and, Bool.false_or, e, nS_end]
end Go.Proofs.Ytllhcgfdjfmmeaa
