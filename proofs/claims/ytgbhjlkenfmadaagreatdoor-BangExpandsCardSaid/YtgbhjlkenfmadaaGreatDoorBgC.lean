/- What bang computes: plain functions; W stands for the words of a line. No program is named here. -/
import Derived.Test.YtgbhjlkenfmadaaGreatDoorBase
namespace Go.Proofs.YtgbhjlkenfmadaaGreatDoor
set_option linter.unusedVariables false
set_option linter.unusedSimpArgs false
/-! ### Places of strings -/
/-- The first place of p. -/
def ixN (p : List UInt8) : List UInt8 → Option Nat
  | [] => if p = [] then some 0 else none
  | c :: r => if p.isPrefixOf (c :: r) = true then some 0 else (ixN p r).map (· + 1)
def ixI (p s : List UInt8) : Int := match ixN p s with
  | some k => k
  | none => -1
/-- The first place of p from i on. -/
def ixS (p s : List UInt8) (i : Nat) : Int := match ixN p (s.drop i) with
  | some k => (i + k : Nat)
  | none => -1
theorem ixN_some {p : List UInt8} : ∀ {s : List UInt8} {k : Nat}, ixN p s = some k → k + p.length ≤ s.length ∧ (s.drop k).take p.length = p
  | [], k, h => by
    rw [ixN] at h
    split at h
    · next e => subst e; injection h with h; subst h; simp
    · cases h
  | c :: r, k, h => by
    rw [ixN] at h
    split at h
    · next e =>
      injection h with h; subst h
      have := List.isPrefixOf_iff_prefix.1 e
      exact ⟨by simpa using this.length_le, (List.prefix_iff_eq_take.1 this).symm⟩
    · obtain ⟨j, hj, rfl⟩ := Option.map_eq_some_iff.1 h
      obtain ⟨h1, h2⟩ := ixN_some hj
      exact ⟨by simp only [List.length_cons]; omega, by simpa using h2⟩
theorem ixN_step {p s : List UInt8} {i : Nat} (h : i < s.length) : ixN p (s.drop i) = if p.isPrefixOf (s.drop i) = true then some 0 else (ixN p (s.drop (i + 1))).map (· + 1) := by
  rw [List.drop_eq_getElem_cons h, ixN]
theorem ixS_hit {p s : List UInt8} {i : Nat} (hp : p ≠ []) (h : i + p.length ≤ s.length) (e : (s.drop i).take p.length = p) : ixS p s i = i := by
  have hl : 0 < p.length := List.length_pos_iff.2 hp
  have h1 : p.isPrefixOf (s.drop i) = true := by rw [List.isPrefixOf_iff_prefix, List.prefix_iff_eq_take]; exact e.symm
  unfold ixS
  rw [ixN_step (by omega), if_pos h1]
  simp
theorem ixS_miss {p s : List UInt8} {i : Nat} (hp : p ≠ []) (h : i + p.length ≤ s.length) (e : ¬ (s.drop i).take p.length = p) : ixS p s i = ixS p s (i + 1) := by
  have hl : 0 < p.length := List.length_pos_iff.2 hp
  have h1 : ¬ p.isPrefixOf (s.drop i) = true := by rw [List.isPrefixOf_iff_prefix, List.prefix_iff_eq_take]; exact fun h => e h.symm
  unfold ixS
  rw [ixN_step (by omega), if_neg h1]
  cases ixN p (s.drop (i + 1)) with
  | none => rfl
  | some k => simp only [Option.map_some]; omega
theorem ixN_short {p : List UInt8} : ∀ {s : List UInt8}, s.length < p.length → ixN p s = none
  | [], h => by rw [ixN, if_neg (by intro e; subst e; simp at h)]
  | c :: r, h => by
    rw [ixN, if_neg, ixN_short (by simp only [List.length_cons] at h; omega)]
    · rfl
    · intro e
      have := (List.isPrefixOf_iff_prefix.1 e).length_le
      omega
theorem ixS_short {p s : List UInt8} {i : Nat} (h : s.length < i + p.length) (hp : p ≠ []) : ixS p s i = -1 := by
  have hl : 0 < p.length := List.length_pos_iff.2 hp
  unfold ixS
  rw [ixN_short (by simp only [List.length_drop]; omega)]
theorem ixS_zero (p s : List UInt8) : ixS p s 0 = ixI p s := by
  unfold ixS ixI
  rw [List.drop_zero]
  cases ixN p s <;> simp
/-- The last place of a byte, or -1. -/
def lsN (c : UInt8) : List UInt8 → Int
  | [] => -1
  | d :: r => if 0 ≤ lsN c r then lsN c r + 1 else if d = c then 0 else -1
theorem lsN_ge (c : UInt8) : ∀ l, -1 ≤ lsN c l
  | [] => by simp [lsN]
  | d :: r => by rw [lsN]; (repeat' split) <;> omega
theorem lsN_lt (c : UInt8) : ∀ l, lsN c l < l.length
  | [] => by simp [lsN]
  | d :: r => by have := lsN_lt c r; rw [lsN]; simp only [List.length_cons]; (repeat' split) <;> omega
theorem lsN_snoc (c d : UInt8) : ∀ l, lsN c (l ++ [d]) = if d = c then (l.length : Int) else lsN c l
  | [] => by simp [lsN]
  | x :: r => by
    have h1 := lsN_ge c r
    rw [List.cons_append, lsN, lsN_snoc c d r, lsN]
    by_cases h : d = c
    · simp only [h, if_true, List.length_cons]; rw [if_pos (by omega)]; omega
    · simp only [if_neg h]
theorem lsN_take {c : UInt8} {l : List UInt8} {i : Nat} (h : i < l.length) : lsN c (l.take (i + 1)) = if l[i] = c then (i : Int) else lsN c (l.take i) := by
  rw [List.take_succ_eq_append_getElem h, lsN_snoc, List.length_take, Nat.min_eq_left (by omega)]
/-! ### Numbers and designators -/
def atB (s : List UInt8) (i : Nat) : UInt8 := s[i]?.getD 0
theorem atB_lt {s : List UInt8} {i : Nat} (h : i < s.length) : atB s i = s[i] := by simp [atB, h]
theorem atB_ge {s : List UInt8} {i : Nat} (h : s.length ≤ i) : atB s i = 0 := by simp [atB, h]
def dgB (c : UInt8) : Bool := decide (48 ≤ c.toNat ∧ c.toNat ≤ 57)
def dgN : List UInt8 → Nat
  | [] => 0
  | c :: r => if dgB c = true then dgN r + 1 else 0
def dgV (l : List UInt8) : Int := l.foldl (fun n c => n * 10 + ((c.toNat : Int) - 48)) 0
theorem dgN_le : ∀ l, dgN l ≤ l.length
  | [] => Nat.le_refl _
  | c :: r => by have := dgN_le r; rw [dgN]; split <;> simp only [List.length_cons] <;> omega
theorem dgN_drop {s : List UInt8} {i : Nat} (h : i < s.length) : dgN (s.drop i) = if dgB s[i] = true then dgN (s.drop (i + 1)) + 1 else 0 := by
  rw [List.drop_eq_getElem_cons h, dgN]
theorem dgN_end {s : List UInt8} {i : Nat} (h : s.length ≤ i) : dgN (s.drop i) = 0 := by rw [List.drop_eq_nil_of_le h]; rfl
theorem dgV_snoc (l : List UInt8) (c : UInt8) : dgV (l ++ [c]) = dgV l * 10 + ((c.toNat : Int) - 48) := by simp [dgV, List.foldl_append]
theorem dgN_all : ∀ (l : List UInt8) (k : Nat), k ≤ dgN l → ∀ c ∈ l.take k, dgB c = true
  | [], k, _, c, hc => by simp at hc
  | x :: r, 0, _, c, hc => by simp at hc
  | x :: r, k + 1, hk, c, hc => by
    rw [dgN] at hk
    split at hk
    · next hx =>
      rw [List.take_succ_cons] at hc
      rcases List.mem_cons.1 hc with rfl | hc
      · exact hx
      · exact dgN_all r k (by omega) c hc
    · omega
theorem dgV_lt : ∀ (n : Nat) (l : List UInt8), l.length = n → (∀ c ∈ l, dgB c = true) → 0 ≤ dgV l ∧ dgV l + 1 ≤ 10 ^ n := by
  intro n
  induction n with
  | zero => intro l hl _; obtain rfl := List.eq_nil_of_length_eq_zero hl; decide
  | succ n ih =>
    intro l hl h
    have hne : l ≠ [] := by intro e; subst e; simp at hl
    have e := List.dropLast_concat_getLast hne
    generalize l.getLast hne = c at e
    have h1 := ih l.dropLast (by simp; omega) (fun x hx => h x (List.dropLast_subset _ hx))
    have h2 : dgB c = true := h c (by rw [← e]; simp)
    rw [← e, dgV_snoc]
    simp only [dgB, decide_eq_true_eq] at h2
    have : (10 : Int) ^ (n + 1) = 10 ^ n * 10 := Int.pow_succ _ _
    omega
theorem dgV_take {s : List UInt8} {k : Nat} (h : k < s.length) : dgV (s.take (k + 1)) = dgV (s.take k) * 10 + ((s[k].toNat : Int) - 48) := by
  rw [List.take_succ_eq_append_getElem h, dgV_snoc]
theorem pow10_le : ∀ {a b : Nat}, a ≤ b → (10 : Int) ^ a ≤ 10 ^ b := by
  intro a b h
  obtain ⟨k, rfl⟩ := Nat.exists_eq_add_of_le h
  induction k with
  | zero => simp
  | succ k ih =>
    have := ih (by omega)
    have h0 : (0 : Int) < 10 ^ (a + k) := Int.pow_pos (by decide)
    rw [← Nat.add_assoc, Int.pow_succ]
    omega
theorem dgV_take_lt {l : List UInt8} {k : Nat} (hk : k ≤ dgN l) (h9 : k ≤ 9) : 0 ≤ dgV (l.take k) ∧ dgV (l.take k) ≤ 999999999 := by
  have h1 := dgV_lt _ (l.take k) rfl (dgN_all l k hk)
  have h2 : (l.take k).length ≤ 9 := by simp; omega
  have h3 := pow10_le h2
  have : (10 : Int) ^ 9 = 1000000000 := by decide
  omega
def numF (s : List UInt8) (i : Nat) : Int × Nat := (if 9 < dgN (s.drop i) then 999999999 else dgV ((s.drop i).take (dgN (s.drop i))), i + dgN (s.drop i))
theorem numF_bd (s : List UInt8) (i : Nat) (hi : i ≤ s.length) : 0 ≤ (numF s i).1 ∧ (numF s i).1 ≤ 999999999 ∧ i ≤ (numF s i).2 ∧ (numF s i).2 ≤ s.length := by
  have h := dgN_le (s.drop i)
  rw [List.length_drop] at h
  unfold numF
  simp only
  split
  · omega
  · have := dgV_take_lt (l := s.drop i) (Nat.le_refl _) (by omega)
    omega
theorem numF_none {s : List UInt8} {i : Nat} (h : dgB (atB s i) = false) : numF s i = (0, i) ∧ dgN (s.drop i) = 0 := by
  have : dgN (s.drop i) = 0 := by
    by_cases hi : i < s.length
    · rw [dgN_drop hi, if_neg (by rw [← atB_lt hi, h]; simp)]
    · exact dgN_end (by omega)
  exact ⟨by unfold numF; rw [this]; simp [dgV], this⟩
/-- n or m of a designator. -/
def posF (s : List UInt8) (i : Nat) (last : Int) : Int × Nat × Bool :=
  if atB s i = 94 then (1, i + 1, true) else if atB s i = 36 then (last, i + 1, true) else ((numF s i).1, (numF s i).2, decide (0 < dgN (s.drop i)))
def selF (s : List UInt8) (i : Nat) (last : Int) : Int × Int × Nat × Bool :=
  if atB s i = 42 then (1, last, i + 1, true)
  else if atB s i = 45 then (0, posF s (i + 1) last)
  else if (posF s i last).2.2 = false then (0, 0, 0, false)
  else if atB s (posF s i last).2.1 = 42 then ((posF s i last).1, last, (posF s i last).2.1 + 1, true)
  else if atB s (posF s i last).2.1 = 45 then
    if (posF s ((posF s i last).2.1 + 1) last).2.2 = true then ((posF s i last).1, posF s ((posF s i last).2.1 + 1) last) else ((posF s i last).1, last - 1, (posF s i last).2.1 + 1, true)
  else ((posF s i last).1, (posF s i last).1, (posF s i last).2.1, true)
def desF (s : List UInt8) (i : Nat) (last : Int) : Int × Int × Nat × Bool :=
  if atB s i = 94 then (1, 1, i + 1, true) else if atB s i = 36 then (last, last, i + 1, true) else if atB s i = 42 then (1, last, i + 1, true)
  else if atB s i = 58 then selF s (i + 1) last else (0, 0, 0, false)
theorem at_in {s : List UInt8} {i : Nat} {c : UInt8} (h : atB s i = c) (hc : c ≠ 0) : i < s.length := by
  rcases Nat.lt_or_ge i s.length with h1 | h1
  · exact h1
  · rw [atB_ge h1] at h; exact absurd h.symm hc
theorem posF_ok {s : List UInt8} {i : Nat} {last : Int} (hi : i ≤ s.length) : i ≤ (posF s i last).2.1 ∧ (posF s i last).2.1 ≤ s.length ∧ ((posF s i last).1 = last ∨ (0 ≤ (posF s i last).1 ∧ (posF s i last).1 ≤ 999999999)) := by
  unfold posF
  have := numF_bd s i hi
  split
  · next h => have := at_in h (by decide); exact ⟨by simp, by simp only; omega, .inr (by simp)⟩
  split
  · next h => have := at_in h (by decide); exact ⟨by simp, by simp only; omega, .inl rfl⟩
  · exact ⟨this.2.2.1, this.2.2.2, .inr ⟨this.1, this.2.1⟩⟩
theorem desF_ok {s : List UInt8} {i : Nat} {last : Int} (hi : i ≤ s.length) (hb : -1 ≤ last ∧ last ≤ 999999999) (h : (desF s i last).2.2.2 = true) :
    i < (desF s i last).2.2.1 ∧ (desF s i last).2.2.1 ≤ s.length ∧ -2 ≤ (desF s i last).1 ∧ (desF s i last).1 ≤ 999999999 ∧ -2 ≤ (desF s i last).2.1 ∧ (desF s i last).2.1 ≤ 999999999 := by
  unfold desF at h ⊢
  split
  · next h1 => have := at_in h1 (by decide); exact ⟨by simp, by simp only; omega, by simp, by simp, by simp, by simp⟩
  next h1 =>
  rw [if_neg h1] at h
  split
  · next h1 => have := at_in h1 (by decide); exact ⟨by simp, by simp only; omega, by simp only; omega, by simp only; omega, by simp only; omega, by simp only; omega⟩
  next h2 =>
  rw [if_neg h2] at h
  split
  · next h1 => have := at_in h1 (by decide); exact ⟨by simp, by simp only; omega, by simp, by simp, by simp only; omega, by simp only; omega⟩
  next h3 =>
  rw [if_neg h3] at h
  split
  · next h4 =>
    rw [if_pos h4] at h
    have h5 := at_in h4 (by decide)
    unfold selF at h ⊢
    split
    · next h6 => have := at_in h6 (by decide); exact ⟨by simp only; omega, by simp only; omega, by simp, by simp, by simp only; omega, by simp only; omega⟩
    next h6 =>
    rw [if_neg h6] at h
    split
    · next h7 =>
      have h8 := at_in h7 (by decide)
      have := posF_ok (s := s) (i := i + 1 + 1) (last := last) (by omega)
      exact ⟨by simp only; omega, by simp only; omega, by simp, by simp, by simp only; omega, by simp only; omega⟩
    next h7 =>
    rw [if_neg h7] at h
    have hp := posF_ok (s := s) (i := i + 1) (last := last) (by omega)
    split
    · next h8 => rw [if_pos h8] at h; cases h
    next h8 =>
    split
    · next h9 => have := at_in h9 (by decide); exact ⟨by simp only; omega, by simp only; omega, by simp only; omega, by simp only; omega, by simp only; omega, by simp only; omega⟩
    split
    · next h9 h10 =>
      have h11 := at_in h10 (by decide)
      have hq := posF_ok (s := s) (i := (posF s (i + 1) last).2.1 + 1) (last := last) (by omega)
      split
      · exact ⟨by simp only; omega, by simp only; omega, by simp only; omega, by simp only; omega, by simp only; omega, by simp only; omega⟩
      · exact ⟨by simp only; omega, by simp only; omega, by simp only; omega, by simp only; omega, by simp only; omega, by simp only; omega⟩
    · have : 0 < dgN (s.drop (i + 1)) ∨ i + 1 < (posF s (i + 1) last).2.1 := by
        unfold posF at h8 ⊢
        (repeat' split) <;> simp_all <;> exact .inl (by omega)
      exact ⟨by simp only; omega, by simp only; omega, by simp only; omega, by simp only; omega, by simp only; omega, by simp only; omega⟩
  · next h4 => rw [if_neg h4] at h; cases h
/-! ### What is chosen, and modified -/
/-- Joined by blanks. -/
def jnB : List (List UInt8) → List UInt8
  | [] => []
  | [x] => x
  | x :: y :: r => x ++ 32 :: jnB (y :: r)
theorem jnB_snoc : ∀ (L : List (List UInt8)) (x : List UInt8), jnB (L ++ [x]) = if L = [] then x else jnB L ++ 32 :: x
  | [], x => rfl
  | [y], x => by simp [jnB]
  | y :: z :: r, x => by
    rw [List.cons_append, List.cons_append, jnB, ← List.cons_append, jnB_snoc (z :: r) x]
    simp [jnB]
theorem jnB_len {m : Nat} : ∀ (L : List (List UInt8)), (∀ x ∈ L, x.length ≤ m) → (jnB L).length ≤ L.length * (m + 1)
  | [], _ => by simp [jnB]
  | [x], h => by simp [jnB]; have := h x (by simp); omega
  | x :: y :: r, h => by
    have h1 := h x (by simp)
    have h2 := jnB_len (y :: r) (fun z hz => h z (List.mem_cons_of_mem _ hz))
    simp only [jnB, List.length_append, List.length_cons, Nat.add_mul, Nat.one_mul] at h2 ⊢
    omega
/-- The words from a to b. -/
def subW (l : List (List UInt8)) (a b : Int) : List (List UInt8) := (l.take (b + 1).toNat).drop a.toNat
def choF (W : List UInt8 → List (List UInt8)) (line s : List UInt8) (i : Nat) : List UInt8 × Nat × Int :=
  if (desF s i ((W line).length - 1)).2.2.2 = false then (line, i, 0)
  else if (desF s i ((W line).length - 1)).1 < 0 ∨ ((W line).length : Int) ≤ (desF s i ((W line).length - 1)).2.1 ∨ (desF s i ((W line).length - 1)).2.1 + 1 < (desF s i ((W line).length - 1)).1 then ([], 0, 8)
  else (jnB (subW (W line) (desF s i ((W line).length - 1)).1 (desF s i ((W line).length - 1)).2.1), (desF s i ((W line).length - 1)).2.2.1, 0)
def dirN (t : List UInt8) : Nat := (lsN 47 t + 1).toNat
def parF (t : List UInt8) (b : UInt8) : List UInt8 :=
  if b = 104 then (if dirN t = 0 then t else t.take (dirN t - 1))
  else if b = 116 then t.drop (dirN t)
  else if b = 114 then (if 0 ≤ lsN 46 (t.drop (dirN t)) then t.take (dirN t + (lsN 46 (t.drop (dirN t))).toNat) else t)
  else if b = 101 then (if 0 ≤ lsN 46 (t.drop (dirN t)) then t.drop (dirN t + (lsN 46 (t.drop (dirN t))).toNat) else [])
  else t
theorem dirN_le (t : List UInt8) : dirN t ≤ t.length := by have := lsN_lt 47 t; have := lsN_ge 47 t; unfold dirN; omega
theorem parF_len (t : List UInt8) (b : UInt8) : (parF t b).length ≤ t.length := by unfold parF; (repeat' split) <;> simp <;> omega
/-- All occurrences replaced. -/
def repA (a b : List UInt8) : Nat → List UInt8 → List UInt8
  | 0, t => t
  | n + 1, t => match ixN a t with
    | none => t
    | some k => t.take k ++ b ++ repA a b n (t.drop (k + a.length))
def rep1 (a b t : List UInt8) : List UInt8 := match ixN a t with
  | none => t
  | some k => t.take k ++ b ++ t.drop (k + a.length)
/-- The substitution whose delimiter is at i: both strings, and the place after it. -/
def sbtF (s : List UInt8) (i : Nat) : List UInt8 × List UInt8 × Nat × Int :=
  if s.length ≤ i then ([], [], 0, 6)
  else match ixN [atB s i] (s.drop (i + 1)) with
    | none => ([], [], 0, 6)
    | some 0 => ([], [], 0, 6)
    | some (n + 1) => match ixN [atB s i] (s.drop (i + 1 + (n + 1) + 1)) with
      | none => ((s.drop (i + 1)).take (n + 1), s.drop (i + 1 + (n + 1) + 1), s.length, 0)
      | some m => ((s.drop (i + 1)).take (n + 1), (s.drop (i + 1 + (n + 1) + 1)).take m, i + 1 + (n + 1) + 1 + m + 1, 0)
def sbdF (t a b : List UInt8) (all : Bool) : List UInt8 × Int :=
  if ixN a t = none then ([], 8)
  else if 4096 < (if all = true then repA a b (t.length + 1) t else rep1 a b t).length then ([], 3)
  else (if all = true then repA a b (t.length + 1) t else rep1 a b t, 0)
/-- A substitution: the string, the place after it, the error. -/
def rplF (s t : List UInt8) (i : Nat) (all : Bool) : List UInt8 × Nat × Int :=
  if (sbtF s i).2.2.2 ≠ 0 then ([], 0, (sbtF s i).2.2.2)
  else if (sbdF t (sbtF s i).1 (sbtF s i).2.1 all).2 ≠ 0 then ([], 0, (sbdF t (sbtF s i).1 (sbtF s i).2.1 all).2)
  else ((sbdF t (sbtF s i).1 (sbtF s i).2.1 all).1, (sbtF s i).2.2.1, 0)
/-- Where the delimiter is, and whether all are replaced. -/
def mdJ (s : List UInt8) (i : Nat) : Nat := if atB s (i + 1) = 103 then i + 3 else i + 2
def mdG (s : List UInt8) (i : Nat) : Bool := decide (atB s (i + 1) = 103)
def modF (s : List UInt8) : Nat → List UInt8 → Nat → Bool → List UInt8 × Nat × Bool × Int
  | 0, t, i, sh => (t, i, sh, 0)
  | n + 1, t, i, sh =>
    if atB s i ≠ 58 then (t, i, sh, 0)
    else if atB s (i + 1) = 112 then modF s n t (i + 2) true
    else if atB s (i + 1) = 104 ∨ atB s (i + 1) = 116 ∨ atB s (i + 1) = 114 ∨ atB s (i + 1) = 101 then modF s n (parF t (atB s (i + 1))) (i + 2) sh
    else if atB s (i + 1) = 115 ∨ (atB s (i + 1) = 103 ∧ atB s (i + 2) = 115) then
      if (rplF s t (mdJ s i) (mdG s i)).2.2 ≠ 0 then ([], 0, false, (rplF s t (mdJ s i) (mdG s i)).2.2)
      else modF s n (rplF s t (mdJ s i) (mdG s i)).1 (rplF s t (mdJ s i) (mdG s i)).2.1 sh
    else ([], 0, false, 6)
theorem sbtF_ok {s : List UInt8} {i : Nat} (h : (sbtF s i).2.2.2 = 0) : i < (sbtF s i).2.2.1 ∧ (sbtF s i).2.2.1 ≤ s.length ∧ (sbtF s i).1 ≠ [] ∧ (sbtF s i).1.length ≤ s.length ∧ (sbtF s i).2.1.length ≤ s.length := by
  unfold sbtF at h ⊢
  by_cases h0 : s.length ≤ i
  · rw [if_pos h0] at h; cases h
  rw [if_neg h0] at h ⊢
  rcases h1 : ixN [atB s i] (s.drop (i + 1)) with _ | _ | n
  · rw [h1] at h; cases h
  · rw [h1] at h; cases h
  rw [h1] at h
  simp only at h ⊢
  have b1 := (ixN_some h1).1
  simp only [List.length_drop, List.length_cons, List.length_nil] at b1
  have hne : (s.drop (i + 1)).take (n + 1) ≠ [] := by
    intro e
    have := congrArg List.length e
    simp only [List.length_take, List.length_drop, List.length_nil] at this
    omega
  rcases h2 : ixN [atB s i] (s.drop (i + 1 + (n + 1) + 1)) with _ | m
  · exact ⟨by simp only; omega, Nat.le_refl _, hne, by simp only [List.length_take, List.length_drop]; omega, by simp only [List.length_drop]; omega⟩
  · have b2 := (ixN_some h2).1
    simp only [List.length_drop, List.length_cons, List.length_nil] at b2
    exact ⟨by simp only; omega, by simp only; omega, hne, by simp only [List.length_take, List.length_drop]; omega, by simp only [List.length_take, List.length_drop]; omega⟩
theorem sbtF_err (s : List UInt8) (i : Nat) : (sbtF s i).2.2.2 = 0 ∨ sbtF s i = ([], [], 0, 6) := by
  unfold sbtF
  split
  · exact .inr rfl
  split
  · exact .inr rfl
  · exact .inr rfl
  split
  · exact .inl rfl
  · exact .inl rfl
theorem sbdF_len (t a b : List UInt8) (all : Bool) : (sbdF t a b all).1.length ≤ 4096 := by
  unfold sbdF
  by_cases h0 : ixN a t = none
  · rw [if_pos h0]; exact Nat.zero_le _
  rw [if_neg h0]
  by_cases h : 4096 < (if all = true then repA a b (t.length + 1) t else rep1 a b t).length
  · rw [if_pos h]; exact Nat.zero_le _
  · rw [if_neg h]; exact Nat.not_lt.1 h
theorem rplF_ok {s t : List UInt8} {i : Nat} {all : Bool} (h : (rplF s t i all).2.2 = 0) : i < (rplF s t i all).2.1 ∧ (rplF s t i all).2.1 ≤ s.length ∧ (rplF s t i all).1.length ≤ 4096 := by
  unfold rplF at h ⊢
  split at h
  · next h1 => exact absurd h h1
  next h1 =>
  split at h
  · next h2 => exact absurd h h2
  next h2 =>
  have h3 := sbtF_ok (Decidable.not_not.1 h1)
  rw [if_neg h1, if_neg h2]
  exact ⟨h3.1, h3.2.1, sbdF_len _ _ _ _⟩
theorem mdJ_ge (s : List UInt8) (i : Nat) : i + 2 ≤ mdJ s i := by unfold mdJ; split <;> omega
theorem modF_ok (s : List UInt8) {M : Nat} (hM : 4096 ≤ M) : ∀ (n : Nat) (t : List UInt8) (i : Nat) (sh : Bool), i ≤ s.length → t.length ≤ M → (modF s n t i sh).2.2.2 = 0 →
    i ≤ (modF s n t i sh).2.1 ∧ (modF s n t i sh).2.1 ≤ s.length ∧ (modF s n t i sh).1.length ≤ M := by
  intro n
  induction n with
  | zero => intro t i sh hi ht _; exact ⟨Nat.le_refl _, hi, ht⟩
  | succ n ih =>
    intro t i sh hi ht h
    rw [modF] at h ⊢
    by_cases h0 : atB s i ≠ 58
    · rw [if_pos h0]; exact ⟨Nat.le_refl _, hi, ht⟩
    rw [if_neg h0] at h ⊢
    have := at_in (Decidable.not_not.1 h0) (by decide)
    by_cases h1 : atB s (i + 1) = 112
    · rw [if_pos h1] at h ⊢
      have h2 := at_in h1 (by decide)
      have := ih t (i + 2) true (by omega) ht h
      exact ⟨by omega, this.2⟩
    rw [if_neg h1] at h ⊢
    by_cases h1 : atB s (i + 1) = 104 ∨ atB s (i + 1) = 116 ∨ atB s (i + 1) = 114 ∨ atB s (i + 1) = 101
    · rw [if_pos h1] at h ⊢
      have h2 : i + 1 < s.length := by rcases h1 with h1 | h1 | h1 | h1 <;> exact at_in h1 (by decide)
      have h3 := parF_len t (atB s (i + 1))
      have := ih _ (i + 2) sh (by omega) (by omega) h
      exact ⟨by omega, this.2⟩
    rw [if_neg h1] at h ⊢
    split at h
    · next h2 =>
      rw [if_pos h2]
      split at h
      · next h3 => exact absurd h h3
      next h3 =>
      rw [if_neg h3]
      have h4 := rplF_ok (Decidable.not_not.1 h3)
      have h5 := mdJ_ge s i
      have := ih _ _ sh h4.2.1 (by omega) h
      exact ⟨by omega, this.2⟩
    · cases h
end Go.Proofs.YtgbhjlkenfmadaaGreatDoor
/- What bang computes, second part: events, the scan, the whole. No program is named here. -/
namespace Go.Proofs.YtgbhjlkenfmadaaGreatDoor
set_option linter.unusedVariables false
set_option linter.unusedSimpArgs false
/-! ### Lines of a history -/
/-- The last element that is wanted. -/
def lstI (f : List UInt8 → Bool) : List (List UInt8) → Option Nat
  | [] => none
  | x :: r => match lstI f r with
    | some k => some (k + 1)
    | none => if f x = true then some 0 else none
theorem lstI_snoc (f : List UInt8 → Bool) (x : List UInt8) : ∀ L, lstI f (L ++ [x]) = if f x = true then some L.length else lstI f L
  | [] => rfl
  | y :: r => by
    rw [List.cons_append, lstI, lstI_snoc f x r, lstI]
    by_cases h : f x = true
    · simp only [if_pos h, List.length_cons]
    · simp only [if_neg h]
theorem lstI_take {f : List UInt8 → Bool} {L : List (List UInt8)} {i : Nat} (h : i < L.length) : lstI f (L.take (i + 1)) = if f L[i] = true then some i else lstI f (L.take i) := by
  rw [List.take_succ_eq_append_getElem h, lstI_snoc, List.length_take, Nat.min_eq_left (by omega)]
theorem lstI_lt {f : List UInt8 → Bool} : ∀ {L : List (List UInt8)} {k : Nat}, lstI f L = some k → k < L.length
  | [], k, h => by cases h
  | x :: r, k, h => by
    rw [lstI] at h
    rcases h1 : lstI f r with _ | j
    · rw [h1] at h
      simp only at h
      split at h
      · injection h with h; subst h; simp
      · cases h
    · rw [h1] at h
      injection h with h
      subst h
      have := lstI_lt h1
      simp only [List.length_cons]; omega
def lstS (f : List UInt8 → Bool) (L : List (List UInt8)) : Option (List UInt8) := (lstI f L).bind fun k => L[k]?
/-- The line of a number. -/
def getL (F : Int) (L : List (List UInt8)) (n : Int) : Option (List UInt8) := if F ≤ n ∧ n < F + L.length then L[(n - F).toNat]? else none
theorem getL_idx {F : Int} {L : List (List UInt8)} {k : Nat} (h : k < L.length) : getL F L (F + k) = L[k]? := by
  unfold getL
  rw [if_pos (by omega), show (F + (k : Int) - F).toNat = k from by omega]
theorem getL_last {F : Int} {L : List (List UInt8)} (h : L ≠ []) : getL F L (F + L.length - 1) = L.getLast? := by
  have := List.length_pos_iff.2 h
  unfold getL
  rw [if_pos (by omega), List.getLast?_eq_getElem?, show (F + (L.length : Int) - 1 - F).toNat = L.length - 1 from by omega]
def orE (x : Option (List UInt8)) (k : Nat) : List UInt8 × Nat × Int := match x with
  | none => ([], 0, 8)
  | some l => (l, k, 0)
/-! ### Events -/
/-- The bytes that end the string of an event. -/
abbrev trmL : List UInt8 := [9, 32, 10, 58, 94, 36, 42, 33, 59, 38, 124, 60, 62, 40, 41, 61, 39, 34, 96, 92]
def trB (c : UInt8) : Bool := trmL.contains c
def trN : List UInt8 → Nat
  | [] => 0
  | c :: r => if trB c = true then 0 else trN r + 1
theorem trN_le : ∀ l, trN l ≤ l.length
  | [] => Nat.le_refl _
  | c :: r => by have := trN_le r; rw [trN]; split <;> simp only [List.length_cons] <;> omega
theorem trN_drop {s : List UInt8} {i : Nat} (h : i < s.length) : trN (s.drop i) = if trB s[i] = true then 0 else trN (s.drop (i + 1)) + 1 := by
  rw [List.drop_eq_getElem_cons h, trN]
theorem trN_end {s : List UInt8} {i : Nat} (h : s.length ≤ i) : trN (s.drop i) = 0 := by rw [List.drop_eq_nil_of_le h]; rfl
def evB (c : UInt8) : Bool := decide (c = 33 ∨ c = 58 ∨ c = 94 ∨ c = 36 ∨ c = 42)
/-- Whether the ! at i begins no event. -/
def plB (s : List UInt8) (i : Nat) : Bool := decide (s.length ≤ i + 1) || (trB (atB s (i + 1)) && !evB (atB s (i + 1)))
def conF (L : List (List UInt8)) (s : List UInt8) (a : Nat) : List UInt8 × Nat × Int :=
  match ixN [63] (s.drop a) with
  | none => if s.drop a = [] then ([], 0, 6) else orE (lstS (fun l => (ixN (s.drop a) l).isSome) L) s.length
  | some 0 => ([], 0, 6)
  | some (k + 1) => orE (lstS (fun l => (ixN ((s.drop a).take (k + 1)) l).isSome) L) (a + (k + 1) + 1)
def evtF (F : Int) (L : List (List UInt8)) (s : List UInt8) (a : Nat) : List UInt8 × Nat × Int :=
  if atB s a = 33 then orE L.getLast? (a + 1)
  else if atB s a = 58 ∨ atB s a = 94 ∨ atB s a = 36 ∨ atB s a = 42 then orE L.getLast? a
  else if atB s a = 63 then conF L s (a + 1)
  else if dgB (atB s a) = true then orE (getL F L (numF s a).1) (numF s a).2
  else if atB s a = 45 ∧ dgB (atB s (a + 1)) = true then orE (getL F L (F + L.length - (numF s (a + 1)).1)) (numF s (a + 1)).2
  else orE (lstS (fun l => ((s.drop a).take (trN (s.drop a))).isPrefixOf l) L) (a + trN (s.drop a))
def modT (s t : List UInt8) (i : Nat) (sh : Bool) : List UInt8 × Nat × Bool × Int := modF s (s.length + 1) t i sh
/-- The event behind a: what stands for it, the place after it, whether the line is only shown, the error. -/
def evA (W : List UInt8 → List (List UInt8)) (F : Int) (L : List (List UInt8)) (s : List UInt8) (a : Nat) (sh : Bool) : List UInt8 × Nat × Bool × Int :=
  if (evtF F L s a).2.2 ≠ 0 then ([], 0, false, (evtF F L s a).2.2)
  else if (choF W (evtF F L s a).1 s (evtF F L s a).2.1).2.2 ≠ 0 then ([], 0, false, (choF W (evtF F L s a).1 s (evtF F L s a).2.1).2.2)
  else modT s (choF W (evtF F L s a).1 s (evtF F L s a).2.1).1 (choF W (evtF F L s a).1 s (evtF F L s a).2.1).2.1 sh
theorem orE_ok {x : Option (List UInt8)} {k : Nat} (h : (orE x k).2.2 = 0) : x = some (orE x k).1 ∧ (orE x k).2.1 = k := by
  cases x with
  | none => cases h
  | some l => exact ⟨rfl, rfl⟩
theorem lstS_mem {f : List UInt8 → Bool} {L : List (List UInt8)} {l : List UInt8} (h : lstS f L = some l) : l ∈ L := by
  unfold lstS at h
  obtain ⟨k, _, hk⟩ := Option.bind_eq_some_iff.1 h
  exact List.mem_of_getElem? hk
theorem getL_mem {F : Int} {L : List (List UInt8)} {n : Int} {l : List UInt8} (h : getL F L n = some l) : l ∈ L := by
  unfold getL at h
  split at h
  · exact List.mem_of_getElem? h
  · cases h
theorem conF_ok {L : List (List UInt8)} {s : List UInt8} {a : Nat} (h : (conF L s a).2.2 = 0) (ha : a ≤ s.length) : (conF L s a).1 ∈ L ∧ a ≤ (conF L s a).2.1 ∧ (conF L s a).2.1 ≤ s.length := by
  unfold conF at h ⊢
  rcases h1 : ixN [63] (s.drop a) with _ | _ | k
  · rw [h1] at h
    simp only at h ⊢
    by_cases h2 : s.drop a = []
    · rw [if_pos h2] at h; cases h
    · rw [if_neg h2] at h ⊢
      obtain ⟨h3, h4⟩ := orE_ok h
      exact ⟨lstS_mem h3, by rw [h4]; exact ha, by rw [h4]; exact Nat.le_refl _⟩
  · rw [h1] at h; cases h
  · rw [h1] at h
    simp only at h ⊢
    obtain ⟨h3, h4⟩ := orE_ok h
    have b1 := (ixN_some h1).1
    simp only [List.length_drop, List.length_cons, List.length_nil] at b1
    exact ⟨lstS_mem h3, by rw [h4]; omega, by rw [h4]; omega⟩
theorem evtF_ok {F : Int} {L : List (List UInt8)} {s : List UInt8} {a : Nat} (h : (evtF F L s a).2.2 = 0) (ha : a ≤ s.length) : (evtF F L s a).1 ∈ L ∧ a ≤ (evtF F L s a).2.1 ∧ (evtF F L s a).2.1 ≤ s.length := by
  unfold evtF at h ⊢
  split
  · next h1 =>
    rw [if_pos h1] at h
    obtain ⟨h3, h4⟩ := orE_ok h
    have := at_in h1 (by decide)
    exact ⟨List.mem_of_getLast? h3, by rw [h4]; omega, by rw [h4]; omega⟩
  next h1 =>
  rw [if_neg h1] at h
  split
  · next h1 =>
    rw [if_pos h1] at h
    obtain ⟨h3, h4⟩ := orE_ok h
    exact ⟨List.mem_of_getLast? h3, by rw [h4]; omega, by rw [h4]; omega⟩
  next h1 =>
  rw [if_neg h1] at h
  split
  · next h1 =>
    rw [if_pos h1] at h
    have := at_in h1 (by decide)
    have := conF_ok h (by omega)
    exact ⟨this.1, by omega, this.2.2⟩
  next h1 =>
  rw [if_neg h1] at h
  split
  · next h1 =>
    rw [if_pos h1] at h
    obtain ⟨h3, h4⟩ := orE_ok h
    have := numF_bd s a ha
    exact ⟨getL_mem h3, by rw [h4]; omega, by rw [h4]; omega⟩
  next h1 =>
  rw [if_neg h1] at h
  split
  · next h1 =>
    rw [if_pos h1] at h
    obtain ⟨h3, h4⟩ := orE_ok h
    have := at_in h1.1 (by decide)
    have := numF_bd s (a + 1) (by omega)
    exact ⟨getL_mem h3, by rw [h4]; omega, by rw [h4]; omega⟩
  next h1 =>
  rw [if_neg h1] at h
  obtain ⟨h3, h4⟩ := orE_ok h
  have := trN_le (s.drop a)
  rw [List.length_drop] at this
  exact ⟨lstS_mem h3, by rw [h4]; omega, by rw [h4]; omega⟩
/-- What is asked of the words. -/
structure WOk (W : List UInt8 → List (List UInt8)) : Prop where
  num : ∀ l, (W l).length ≤ l.length + 2
  len : ∀ l, ∀ x ∈ W l, x.length ≤ l.length
theorem choF_ok {W : List UInt8 → List (List UInt8)} (hW : WOk W) {line s : List UInt8} {i : Nat} (hi : i ≤ s.length) (hl : line.length ≤ 4096) (h : (choF W line s i).2.2 = 0) :
    i ≤ (choF W line s i).2.1 ∧ (choF W line s i).2.1 ≤ s.length ∧ (choF W line s i).1.length ≤ 17000000 := by
  have h1 := hW.num line
  unfold choF at h ⊢
  by_cases h0 : (desF s i ((W line).length - 1)).2.2.2 = false
  · rw [if_pos h0]; exact ⟨Nat.le_refl _, hi, Nat.le_trans hl (by decide)⟩
  rw [if_neg h0] at h ⊢
  split at h
  · cases h
  next h2 =>
  rw [if_neg h2]
  have h3 := desF_ok (last := ((W line).length : Int) - 1) hi (by omega) (by simpa using h0)
  refine ⟨Nat.le_of_lt h3.1, h3.2.1, ?_⟩
  have h4 := jnB_len (m := 4096) (subW (W line) (desF s i ((W line).length - 1)).1 (desF s i ((W line).length - 1)).2.1) (fun x hx => by
    have := hW.len line x (List.take_subset _ _ (List.drop_subset _ _ hx))
    omega)
  have h5 : (subW (W line) (desF s i ((W line).length - 1)).1 (desF s i ((W line).length - 1)).2.1).length ≤ 4098 := by unfold subW; simp; omega
  have h6 := Nat.mul_le_mul_right (4096 + 1) h5
  simp only
  omega
theorem modF_sh (s : List UInt8) : ∀ (n : Nat) (t : List UInt8) (i : Nat) (sh : Bool), modF s n t i sh = if (modF s n t i false).2.2.2 = 0 then ((modF s n t i false).1, (modF s n t i false).2.1, sh || (modF s n t i false).2.2.1, 0) else ([], 0, false, (modF s n t i false).2.2.2) := by
  intro n
  induction n with
  | zero => intro t i sh; simp [modF]
  | succ n ih =>
    intro t i sh
    rw [modF, modF]
    by_cases h0 : atB s i ≠ 58
    · rw [if_pos h0, if_pos h0]; simp
    rw [if_neg h0, if_neg h0]
    by_cases h1 : atB s (i + 1) = 112
    · rw [if_pos h1, if_pos h1, ih t (i + 2) true]
      by_cases h : (modF s n t (i + 2) false).2.2.2 = 0
      · simp only [if_pos h]; simp
      · simp only [if_neg h]
    rw [if_neg h1, if_neg h1]
    by_cases h1 : atB s (i + 1) = 104 ∨ atB s (i + 1) = 116 ∨ atB s (i + 1) = 114 ∨ atB s (i + 1) = 101
    · rw [if_pos h1, if_pos h1, ih _ (i + 2) sh]
    rw [if_neg h1, if_neg h1]
    by_cases h1 : atB s (i + 1) = 115 ∨ (atB s (i + 1) = 103 ∧ atB s (i + 2) = 115)
    · rw [if_pos h1, if_pos h1]
      by_cases h2 : (rplF s t (mdJ s i) (mdG s i)).2.2 ≠ 0
      · rw [if_pos h2, if_pos h2, if_neg h2]
      · rw [if_neg h2, if_neg h2, ih _ _ sh]
    · rw [if_neg h1, if_neg h1, if_neg (by decide)]
theorem evA_ok {W : List UInt8 → List (List UInt8)} (hW : WOk W) {F : Int} {L : List (List UInt8)} (hL : ∀ l ∈ L, l.length ≤ 4096) {s : List UInt8} {a : Nat} {sh : Bool} (ha : a ≤ s.length) (h : (evA W F L s a sh).2.2.2 = 0) :
    a ≤ (evA W F L s a sh).2.1 ∧ (evA W F L s a sh).2.1 ≤ s.length ∧ (evA W F L s a sh).1.length ≤ 17000000 := by
  unfold evA at h ⊢
  by_cases h1 : (evtF F L s a).2.2 ≠ 0
  · rw [if_pos h1] at h; exact absurd h h1
  rw [if_neg h1] at h ⊢
  have e1 := evtF_ok (Decidable.not_not.1 h1) ha
  by_cases h2 : (choF W (evtF F L s a).1 s (evtF F L s a).2.1).2.2 ≠ 0
  · rw [if_pos h2] at h; exact absurd h h2
  rw [if_neg h2] at h ⊢
  have e2 := choF_ok hW e1.2.2 (hL _ e1.1) (Decidable.not_not.1 h2)
  have e3 := modF_ok s (M := 17000000) (by decide) _ _ _ _ e2.2.1 e2.2.2 h
  exact ⟨by unfold modT; omega, e3.2⟩
theorem evA_sh (W : List UInt8 → List (List UInt8)) (F : Int) (L : List (List UInt8)) (s : List UInt8) (a : Nat) (sh : Bool) : evA W F L s a sh = if (evA W F L s a false).2.2.2 = 0 then ((evA W F L s a false).1, (evA W F L s a false).2.1, sh || (evA W F L s a false).2.2.1, 0) else ([], 0, false, (evA W F L s a false).2.2.2) := by
  unfold evA
  by_cases h1 : (evtF F L s a).2.2 ≠ 0
  · rw [if_pos h1, if_pos h1, if_neg h1]
  rw [if_neg h1, if_neg h1]
  by_cases h2 : (choF W (evtF F L s a).1 s (evtF F L s a).2.1).2.2 ≠ 0
  · rw [if_pos h2, if_pos h2, if_neg h2]
  rw [if_neg h2, if_neg h2]
  exact modF_sh _ _ _ _ _
/-! ### The scan -/
def kepF (s : List UInt8) (i : Nat) (d : Bool) : Nat × Bool :=
  if atB s i = 92 ∧ i + 1 < s.length then (i + 2, d)
  else if atB s i = 34 then (i + 1, !d)
  else if atB s i = 39 ∧ d = false then ((match ixN [39] (s.drop (i + 1)) with | none => s.length | some k => i + 1 + k + 1), d)
  else (i + 1, d)
theorem kepF_ok {s : List UInt8} {i : Nat} {d : Bool} (h : i < s.length) : i < (kepF s i d).1 ∧ (kepF s i d).1 ≤ s.length := by
  unfold kepF
  split
  · exact ⟨by simp only; omega, by simp only; omega⟩
  split
  · exact ⟨by simp only; omega, by simp only; omega⟩
  split
  · rcases h1 : ixN [39] (s.drop (i + 1)) with _ | k
    · exact ⟨h, Nat.le_refl _⟩
    · have b1 := (ixN_some h1).1
      simp only [List.length_drop, List.length_cons, List.length_nil] at b1
      exact ⟨by simp only; omega, by simp only; omega⟩
  · exact ⟨by simp only; omega, by simp only; omega⟩
/-- Something ahead of a result. -/
def fnx (x : List UInt8) (sh : Bool) (r : List UInt8 × Bool × Int) : List UInt8 × Bool × Int := if r.2.2 = 0 then (x ++ r.1, sh || r.2.1, 0) else ([], false, r.2.2)
theorem fnx_fnx (x y : List UInt8) (a b : Bool) (r : List UInt8 × Bool × Int) : fnx x a (fnx y b r) = fnx (x ++ y) (a || b) r := by
  unfold fnx
  by_cases h : r.2.2 = 0
  · simp only [if_pos h]; simp [Bool.or_assoc]
  · simp only [if_neg h]
def scnF (W : List UInt8 → List (List UInt8)) (F : Int) (L : List (List UInt8)) (s : List UInt8) : Nat → Nat → Bool → List UInt8 × Bool × Int
  | 0, _, _ => ([], false, 0)
  | n + 1, i, d =>
    if s.length ≤ i then ([], false, 0)
    else if atB s i ≠ 33 ∨ plB s i = true then fnx ((s.take (kepF s i d).1).drop i) false (scnF W F L s n (kepF s i d).1 (kepF s i d).2)
    else if (evA W F L s (i + 1) false).2.2.2 ≠ 0 then ([], false, (evA W F L s (i + 1) false).2.2.2)
    else fnx (evA W F L s (i + 1) false).1 (evA W F L s (i + 1) false).2.2.1 (scnF W F L s n (evA W F L s (i + 1) false).2.1 d)
section
variable {W : List UInt8 → List (List UInt8)} (hW : WOk W) {F : Int} {L : List (List UInt8)} (hL : ∀ l ∈ L, l.length ≤ 4096) {s : List UInt8}
include hW hL
theorem scnF_fuel : ∀ (n m i : Nat) (d : Bool), s.length - i < n → s.length - i < m → scnF W F L s n i d = scnF W F L s m i d := by
  intro n
  induction n with
  | zero => intro m i d h; omega
  | succ n ih =>
    intro m i d hn hm
    obtain ⟨m, rfl⟩ : ∃ k, m = k + 1 := ⟨m - 1, by omega⟩
    rw [scnF, scnF]
    by_cases h0 : s.length ≤ i
    · rw [if_pos h0, if_pos h0]
    rw [if_neg h0, if_neg h0]
    have hk := kepF_ok (s := s) (i := i) (d := d) (by omega)
    rw [ih m _ _ (by omega) (by omega)]
    by_cases h1 : (evA W F L s (i + 1) false).2.2.2 = 0
    · have := evA_ok hW hL (F := F) (s := s) (a := i + 1) (sh := false) (by omega) h1
      rw [ih m (evA W F L s (i + 1) false).2.1 d (by omega) (by omega)]
    · rw [if_pos h1, if_pos h1]
end
/-- The scan from i on. -/
def scnT (W : List UInt8 → List (List UInt8)) (F : Int) (L : List (List UInt8)) (s : List UInt8) (i : Nat) (d : Bool) : List UInt8 × Bool × Int := scnF W F L s (s.length - i + 1) i d
section
variable {W : List UInt8 → List (List UInt8)} (hW : WOk W) {F : Int} {L : List (List UInt8)} (hL : ∀ l ∈ L, l.length ≤ 4096) {s : List UInt8}
theorem scnT_end {i : Nat} {d : Bool} (h : s.length ≤ i) : scnT W F L s i d = ([], false, 0) := by unfold scnT; rw [scnF, if_pos h]
include hW hL
theorem scnT_keep {i : Nat} {d : Bool} (h : i < s.length) (h1 : atB s i ≠ 33 ∨ plB s i = true) : scnT W F L s i d = fnx ((s.take (kepF s i d).1).drop i) false (scnT W F L s (kepF s i d).1 (kepF s i d).2) := by
  have hk := kepF_ok (s := s) (i := i) (d := d) h
  unfold scnT
  rw [scnF, if_neg (by omega), if_pos h1, scnF_fuel hW hL (s.length - i) (s.length - (kepF s i d).1 + 1) _ _ (by omega) (by omega)]
omit hW hL in
theorem scnT_err {i : Nat} {d : Bool} (h : i < s.length) (h1 : atB s i = 33) (h2 : plB s i = false) (h3 : (evA W F L s (i + 1) false).2.2.2 ≠ 0) : scnT W F L s i d = ([], false, (evA W F L s (i + 1) false).2.2.2) := by
  unfold scnT
  rw [scnF, if_neg (by omega), if_neg (by rw [h2]; simp [h1]), if_pos h3]
theorem scnT_ev {i : Nat} {d : Bool} (h : i < s.length) (h1 : atB s i = 33) (h2 : plB s i = false) (h3 : (evA W F L s (i + 1) false).2.2.2 = 0) :
    scnT W F L s i d = fnx (evA W F L s (i + 1) false).1 (evA W F L s (i + 1) false).2.2.1 (scnT W F L s (evA W F L s (i + 1) false).2.1 d) := by
  have := evA_ok hW hL (F := F) (s := s) (a := i + 1) (sh := false) (by omega) h3
  unfold scnT
  rw [scnF, if_neg (by omega), if_neg (by rw [h2]; simp [h1]), if_neg (by simpa using h3), scnF_fuel hW hL (s.length - i) (s.length - (evA W F L s (i + 1) false).2.1 + 1) _ _ (by omega) (by omega)]
/-- Bytes that are nothing special are copied. -/
theorem scnT_run {q : Nat} {d : Bool} (hq : q ≤ s.length) : ∀ (n p : Nat), q - p = n → p ≤ q → (∀ j, p ≤ j → j < q → atB s j ≠ 33 ∧ atB s j ≠ 92 ∧ atB s j ≠ 34 ∧ atB s j ≠ 39) →
    scnT W F L s p d = fnx ((s.take q).drop p) false (scnT W F L s q d) := by
  intro n
  induction n with
  | zero =>
    intro p hn hp _
    obtain rfl : p = q := by omega
    rw [List.drop_eq_nil_of_le (by simp only [List.length_take]; omega)]
    unfold fnx
    by_cases h : (scnT W F L s p d).2.2 = 0
    · rw [if_pos h, ← h]; rfl
    · rw [if_neg h]
      have : ∀ n i d, (scnF W F L s n i d).2.2 ≠ 0 → scnF W F L s n i d = ([], false, (scnF W F L s n i d).2.2) := by
        intro n
        induction n with
        | zero => intro i d h; exact absurd rfl h
        | succ n ih =>
          intro i d h
          rw [scnF] at h ⊢
          (repeat' split)
          · rfl
          · unfold fnx at h ⊢; split <;> simp_all
          · rfl
          · unfold fnx at h ⊢; split <;> simp_all
      exact this _ _ _ h
  | succ n ih =>
    intro p hn hp h
    obtain ⟨h1, h2, h3, h4⟩ := h p (Nat.le_refl _) (by omega)
    have e : kepF s p d = (p + 1, d) := by unfold kepF; rw [if_neg (fun h => h2 h.1), if_neg h3, if_neg (fun h => h4 h.1)]
    rw [scnT_keep hW hL (by omega) (.inl h1), e]
    simp only
    rw [ih (p + 1) (by omega) (by omega) (fun j hj hj' => h j (by omega) hj'), fnx_fnx]
    congr 1
    have e1 : (s.take q).drop p = s[p]'(by omega) :: (s.take q).drop (p + 1) := by
      rw [List.drop_eq_getElem_cons (by simp; omega)]; simp
    rw [e1, List.take_succ_eq_append_getElem (by omega), List.drop_append, List.drop_eq_nil_of_le (by simp; omega)]
    simp [Nat.min_eq_left (show p ≤ s.length by omega)]
end
/-! ### The whole -/
/-- A quick substitution; r is what follows the ^. -/
def quiF (L : List (List UInt8)) (r : List UInt8) : List UInt8 × Int :=
  match ixN [94] r with
  | none => ([], 6)
  | some 0 => ([], 6)
  | some (k + 1) => match L.getLast? with
    | none => ([], 8)
    | some line => match ixN (r.take (k + 1)) line with
      | none => ([], 8)
      | some x => (line.take x ++ (match ixN [94] (r.drop (k + 1 + 1)) with | none => r.drop (k + 1 + 1) | some m => (r.drop (k + 1 + 1)).take m) ++ line.drop (x + (k + 1)) ++
          (match ixN [94] (r.drop (k + 1 + 1)) with | none => [] | some m => (r.drop (k + 1 + 1)).drop (m + 1)), 0)
def rawF (W : List UInt8 → List (List UInt8)) (F : Int) (L : List (List UInt8)) (s : List UInt8) : List UInt8 × Bool × Int := if atB s 0 = 94 then ((quiF L (s.drop 1)).1, false, (quiF L (s.drop 1)).2) else scnT W F L s 0 false
def expF (W : List UInt8 → List (List UInt8)) (F : Int) (L : List (List UInt8)) (s : List UInt8) : List UInt8 × Bool × Int :=
  if 4096 < s.length then ([], false, 3)
  else if (rawF W F L s).2.2 ≠ 0 then ([], false, (rawF W F L s).2.2)
  else if 4096 < (rawF W F L s).1.length then ([], false, 3)
  else rawF W F L s
end Go.Proofs.YtgbhjlkenfmadaaGreatDoor
/- What bang computes, third part: lines without events, the last line, single words. No program is named here. -/
namespace Go.Proofs.YtgbhjlkenfmadaaGreatDoor
set_option linter.unusedVariables false
set_option linter.unusedSimpArgs false
section
variable {W : List UInt8 → List (List UInt8)} (hW : WOk W) {F : Int} {L : List (List UInt8)} (hL : ∀ l ∈ L, l.length ≤ 4096)
theorem evA_e1 {s : List UInt8} {a : Nat} {sh : Bool} (h : (evtF F L s a).2.2 ≠ 0) : evA W F L s a sh = ([], 0, false, (evtF F L s a).2.2) := by unfold evA; rw [if_pos h]
theorem evA_e2 {s : List UInt8} {a : Nat} {sh : Bool} (h : (evtF F L s a).2.2 = 0) (h2 : (choF W (evtF F L s a).1 s (evtF F L s a).2.1).2.2 ≠ 0) :
    evA W F L s a sh = ([], 0, false, (choF W (evtF F L s a).1 s (evtF F L s a).2.1).2.2) := by unfold evA; rw [if_neg (by simpa using h), if_pos h2]
theorem evA_e3 {s : List UInt8} {a : Nat} {sh : Bool} (h : (evtF F L s a).2.2 = 0) (h2 : (choF W (evtF F L s a).1 s (evtF F L s a).2.1).2.2 = 0) :
    evA W F L s a sh = modT s (choF W (evtF F L s a).1 s (evtF F L s a).2.1).1 (choF W (evtF F L s a).1 s (evtF F L s a).2.1).2.1 sh := by unfold evA; rw [if_neg (by simpa using h), if_neg (by simpa using h2)]
include hW hL
end
/-! ### Decimal forms -/
end Go.Proofs.YtgbhjlkenfmadaaGreatDoor
