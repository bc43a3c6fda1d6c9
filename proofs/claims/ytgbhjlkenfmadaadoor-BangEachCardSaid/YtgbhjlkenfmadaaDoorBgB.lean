/- What bang computes, second part: events, the scan, the whole. No program is named here. -/
import Derived.Test.YtgbhjlkenfmadaaDoorBgA
namespace Go.Proofs.YtgbhjlkenfmadaaDoor
set_option linter.unusedVariables false
set_option linter.unusedSimpArgs false
/-! ### Lines of a history -/
/-- The last element that is wanted. -/
def lstI (f : List UInt8 → Bool) : List (List UInt8) → Option Nat
  | [] => none
  | x :: r => match lstI f r with
    | some k => some (k + 1)
    | none => if f x = true then some 0 else none
theorem lstI_snoc (f : List UInt8 → Bool) (x : List UInt8) : ∀ L, lstI f (L ++ [x]) = if f x = true then some L.length else lstI f L
  | [] => rfl
  | y :: r => by
    rw [List.cons_append, lstI, lstI_snoc f x r, lstI]
    by_cases h : f x = true
    · simp only [if_pos h, List.length_cons]
    · simp only [if_neg h]
theorem lstI_take {f : List UInt8 → Bool} {L : List (List UInt8)} {i : Nat} (h : i < L.length) : lstI f (L.take (i + 1)) = if f L[i] = true then some i else lstI f (L.take i) := by
  rw [List.take_succ_eq_append_getElem h, lstI_snoc, List.length_take, Nat.min_eq_left (by omega)]
theorem lstI_lt {f : List UInt8 → Bool} : ∀ {L : List (List UInt8)} {k : Nat}, lstI f L = some k → k < L.length
  | [], k, h => by cases h
  | x :: r, k, h => by
    rw [lstI] at h
    rcases h1 : lstI f r with _ | j
    · rw [h1] at h
      simp only at h
      split at h
      · injection h with h; subst h; simp
      · cases h
    · rw [h1] at h
      injection h with h
      subst h
      have := lstI_lt h1
      simp only [List.length_cons]; omega
def lstS (f : List UInt8 → Bool) (L : List (List UInt8)) : Option (List UInt8) := (lstI f L).bind fun k => L[k]?
/-- The line of a number. -/
def getL (F : Int) (L : List (List UInt8)) (n : Int) : Option (List UInt8) := if F ≤ n ∧ n < F + L.length then L[(n - F).toNat]? else none
theorem getL_idx {F : Int} {L : List (List UInt8)} {k : Nat} (h : k < L.length) : getL F L (F + k) = L[k]? := by
  unfold getL
  rw [if_pos (by omega), show (F + (k : Int) - F).toNat = k from by omega]
theorem getL_last {F : Int} {L : List (List UInt8)} (h : L ≠ []) : getL F L (F + L.length - 1) = L.getLast? := by
  have := List.length_pos_iff.2 h
  unfold getL
  rw [if_pos (by omega), List.getLast?_eq_getElem?, show (F + (L.length : Int) - 1 - F).toNat = L.length - 1 from by omega]
def orE (x : Option (List UInt8)) (k : Nat) : List UInt8 × Nat × Int := match x with
  | none => ([], 0, 8)
  | some l => (l, k, 0)
/-! ### Events -/
/-- The bytes that end the string of an event. -/
abbrev trmL : List UInt8 := [9, 32, 10, 58, 94, 36, 42, 33, 59, 38, 124, 60, 62, 40, 41, 61, 39, 34, 96, 92]
def trB (c : UInt8) : Bool := trmL.contains c
def trN : List UInt8 → Nat
  | [] => 0
  | c :: r => if trB c = true then 0 else trN r + 1
theorem trN_le : ∀ l, trN l ≤ l.length
  | [] => Nat.le_refl _
  | c :: r => by have := trN_le r; rw [trN]; split <;> simp only [List.length_cons] <;> omega
theorem trN_drop {s : List UInt8} {i : Nat} (h : i < s.length) : trN (s.drop i) = if trB s[i] = true then 0 else trN (s.drop (i + 1)) + 1 := by
  rw [List.drop_eq_getElem_cons h, trN]
theorem trN_end {s : List UInt8} {i : Nat} (h : s.length ≤ i) : trN (s.drop i) = 0 := by rw [List.drop_eq_nil_of_le h]; rfl
def evB (c : UInt8) : Bool := decide (c = 33 ∨ c = 58 ∨ c = 94 ∨ c = 36 ∨ c = 42)
/-- Whether the ! at i begins no event. -/
def plB (s : List UInt8) (i : Nat) : Bool := decide (s.length ≤ i + 1) || (trB (atB s (i + 1)) && !evB (atB s (i + 1)))
def conF (L : List (List UInt8)) (s : List UInt8) (a : Nat) : List UInt8 × Nat × Int :=
  match ixN [63] (s.drop a) with
  | none => if s.drop a = [] then ([], 0, 6) else orE (lstS (fun l => (ixN (s.drop a) l).isSome) L) s.length
  | some 0 => ([], 0, 6)
  | some (k + 1) => orE (lstS (fun l => (ixN ((s.drop a).take (k + 1)) l).isSome) L) (a + (k + 1) + 1)
def evtF (F : Int) (L : List (List UInt8)) (s : List UInt8) (a : Nat) : List UInt8 × Nat × Int :=
  if atB s a = 33 then orE L.getLast? (a + 1)
  else if atB s a = 58 ∨ atB s a = 94 ∨ atB s a = 36 ∨ atB s a = 42 then orE L.getLast? a
  else if atB s a = 63 then conF L s (a + 1)
  else if dgB (atB s a) = true then orE (getL F L (numF s a).1) (numF s a).2
  else if atB s a = 45 ∧ dgB (atB s (a + 1)) = true then orE (getL F L (F + L.length - (numF s (a + 1)).1)) (numF s (a + 1)).2
  else orE (lstS (fun l => ((s.drop a).take (trN (s.drop a))).isPrefixOf l) L) (a + trN (s.drop a))
def modT (s t : List UInt8) (i : Nat) (sh : Bool) : List UInt8 × Nat × Bool × Int := modF s (s.length + 1) t i sh
/-- The event behind a: what stands for it, the place after it, whether the line is only shown, the error. -/
def evA (W : List UInt8 → List (List UInt8)) (F : Int) (L : List (List UInt8)) (s : List UInt8) (a : Nat) (sh : Bool) : List UInt8 × Nat × Bool × Int :=
  if (evtF F L s a).2.2 ≠ 0 then ([], 0, false, (evtF F L s a).2.2)
  else if (choF W (evtF F L s a).1 s (evtF F L s a).2.1).2.2 ≠ 0 then ([], 0, false, (choF W (evtF F L s a).1 s (evtF F L s a).2.1).2.2)
  else modT s (choF W (evtF F L s a).1 s (evtF F L s a).2.1).1 (choF W (evtF F L s a).1 s (evtF F L s a).2.1).2.1 sh
theorem orE_ok {x : Option (List UInt8)} {k : Nat} (h : (orE x k).2.2 = 0) : x = some (orE x k).1 ∧ (orE x k).2.1 = k := by
  cases x with
  | none => cases h
  | some l => exact ⟨rfl, rfl⟩
theorem orE_err (x : Option (List UInt8)) (k : Nat) : orE x k = ([], 0, 8) ∨ (orE x k).2.2 = 0 := by
  cases x with
  | none => exact .inl rfl
  | some l => exact .inr rfl
theorem lstS_mem {f : List UInt8 → Bool} {L : List (List UInt8)} {l : List UInt8} (h : lstS f L = some l) : l ∈ L := by
  unfold lstS at h
  obtain ⟨k, _, hk⟩ := Option.bind_eq_some_iff.1 h
  exact List.mem_of_getElem? hk
theorem getL_mem {F : Int} {L : List (List UInt8)} {n : Int} {l : List UInt8} (h : getL F L n = some l) : l ∈ L := by
  unfold getL at h
  split at h
  · exact List.mem_of_getElem? h
  · cases h
theorem conF_ok {L : List (List UInt8)} {s : List UInt8} {a : Nat} (h : (conF L s a).2.2 = 0) (ha : a ≤ s.length) : (conF L s a).1 ∈ L ∧ a ≤ (conF L s a).2.1 ∧ (conF L s a).2.1 ≤ s.length := by
  unfold conF at h ⊢
  rcases h1 : ixN [63] (s.drop a) with _ | _ | k
  · rw [h1] at h
    simp only at h ⊢
    by_cases h2 : s.drop a = []
    · rw [if_pos h2] at h; cases h
    · rw [if_neg h2] at h ⊢
      obtain ⟨h3, h4⟩ := orE_ok h
      exact ⟨lstS_mem h3, by rw [h4]; exact ha, by rw [h4]; exact Nat.le_refl _⟩
  · rw [h1] at h; cases h
  · rw [h1] at h
    simp only at h ⊢
    obtain ⟨h3, h4⟩ := orE_ok h
    have b1 := (ixN_some h1).1
    simp only [List.length_drop, List.length_cons, List.length_nil] at b1
    exact ⟨lstS_mem h3, by rw [h4]; omega, by rw [h4]; omega⟩
theorem evtF_ok {F : Int} {L : List (List UInt8)} {s : List UInt8} {a : Nat} (h : (evtF F L s a).2.2 = 0) (ha : a ≤ s.length) : (evtF F L s a).1 ∈ L ∧ a ≤ (evtF F L s a).2.1 ∧ (evtF F L s a).2.1 ≤ s.length := by
  unfold evtF at h ⊢
  split
  · next h1 =>
    rw [if_pos h1] at h
    obtain ⟨h3, h4⟩ := orE_ok h
    have := at_in h1 (by decide)
    exact ⟨List.mem_of_getLast? h3, by rw [h4]; omega, by rw [h4]; omega⟩
  next h1 =>
  rw [if_neg h1] at h
  split
  · next h1 =>
    rw [if_pos h1] at h
    obtain ⟨h3, h4⟩ := orE_ok h
    exact ⟨List.mem_of_getLast? h3, by rw [h4]; omega, by rw [h4]; omega⟩
  next h1 =>
  rw [if_neg h1] at h
  split
  · next h1 =>
    rw [if_pos h1] at h
    have := at_in h1 (by decide)
    have := conF_ok h (by omega)
    exact ⟨this.1, by omega, this.2.2⟩
  next h1 =>
  rw [if_neg h1] at h
  split
  · next h1 =>
    rw [if_pos h1] at h
    obtain ⟨h3, h4⟩ := orE_ok h
    have := numF_bd s a ha
    exact ⟨getL_mem h3, by rw [h4]; omega, by rw [h4]; omega⟩
  next h1 =>
  rw [if_neg h1] at h
  split
  · next h1 =>
    rw [if_pos h1] at h
    obtain ⟨h3, h4⟩ := orE_ok h
    have := at_in h1.1 (by decide)
    have := numF_bd s (a + 1) (by omega)
    exact ⟨getL_mem h3, by rw [h4]; omega, by rw [h4]; omega⟩
  next h1 =>
  rw [if_neg h1] at h
  obtain ⟨h3, h4⟩ := orE_ok h
  have := trN_le (s.drop a)
  rw [List.length_drop] at this
  exact ⟨lstS_mem h3, by rw [h4]; omega, by rw [h4]; omega⟩
/-- What is asked of the words. -/
structure WOk (W : List UInt8 → List (List UInt8)) : Prop where
  num : ∀ l, (W l).length ≤ l.length + 2
  len : ∀ l, ∀ x ∈ W l, x.length ≤ l.length
theorem choF_ok {W : List UInt8 → List (List UInt8)} (hW : WOk W) {line s : List UInt8} {i : Nat} (hi : i ≤ s.length) (hl : line.length ≤ 4096) (h : (choF W line s i).2.2 = 0) :
    i ≤ (choF W line s i).2.1 ∧ (choF W line s i).2.1 ≤ s.length ∧ (choF W line s i).1.length ≤ 17000000 := by
  have h1 := hW.num line
  unfold choF at h ⊢
  by_cases h0 : (desF s i ((W line).length - 1)).2.2.2 = false
  · rw [if_pos h0]; exact ⟨Nat.le_refl _, hi, Nat.le_trans hl (by decide)⟩
  rw [if_neg h0] at h ⊢
  split at h
  · cases h
  next h2 =>
  rw [if_neg h2]
  have h3 := desF_ok (last := ((W line).length : Int) - 1) hi (by omega) (by simpa using h0)
  refine ⟨Nat.le_of_lt h3.1, h3.2.1, ?_⟩
  have h4 := jnB_len (m := 4096) (subW (W line) (desF s i ((W line).length - 1)).1 (desF s i ((W line).length - 1)).2.1) (fun x hx => by
    have := hW.len line x (List.take_subset _ _ (List.drop_subset _ _ hx))
    omega)
  have h5 : (subW (W line) (desF s i ((W line).length - 1)).1 (desF s i ((W line).length - 1)).2.1).length ≤ 4098 := by unfold subW; simp; omega
  have h6 := Nat.mul_le_mul_right (4096 + 1) h5
  simp only
  omega
theorem modF_sh (s : List UInt8) : ∀ (n : Nat) (t : List UInt8) (i : Nat) (sh : Bool), modF s n t i sh = if (modF s n t i false).2.2.2 = 0 then ((modF s n t i false).1, (modF s n t i false).2.1, sh || (modF s n t i false).2.2.1, 0) else ([], 0, false, (modF s n t i false).2.2.2) := by
  intro n
  induction n with
  | zero => intro t i sh; simp [modF]
  | succ n ih =>
    intro t i sh
    rw [modF, modF]
    by_cases h0 : atB s i ≠ 58
    · rw [if_pos h0, if_pos h0]; simp
    rw [if_neg h0, if_neg h0]
    by_cases h1 : atB s (i + 1) = 112
    · rw [if_pos h1, if_pos h1, ih t (i + 2) true]
      by_cases h : (modF s n t (i + 2) false).2.2.2 = 0
      · simp only [if_pos h]; simp
      · simp only [if_neg h]
    rw [if_neg h1, if_neg h1]
    by_cases h1 : atB s (i + 1) = 104 ∨ atB s (i + 1) = 116 ∨ atB s (i + 1) = 114 ∨ atB s (i + 1) = 101
    · rw [if_pos h1, if_pos h1, ih _ (i + 2) sh]
    rw [if_neg h1, if_neg h1]
    by_cases h1 : atB s (i + 1) = 115 ∨ (atB s (i + 1) = 103 ∧ atB s (i + 2) = 115)
    · rw [if_pos h1, if_pos h1]
      by_cases h2 : (rplF s t (mdJ s i) (mdG s i)).2.2 ≠ 0
      · rw [if_pos h2, if_pos h2, if_neg h2]
      · rw [if_neg h2, if_neg h2, ih _ _ sh]
    · rw [if_neg h1, if_neg h1, if_neg (by decide)]
theorem evA_ok {W : List UInt8 → List (List UInt8)} (hW : WOk W) {F : Int} {L : List (List UInt8)} (hL : ∀ l ∈ L, l.length ≤ 4096) {s : List UInt8} {a : Nat} {sh : Bool} (ha : a ≤ s.length) (h : (evA W F L s a sh).2.2.2 = 0) :
    a ≤ (evA W F L s a sh).2.1 ∧ (evA W F L s a sh).2.1 ≤ s.length ∧ (evA W F L s a sh).1.length ≤ 17000000 := by
  unfold evA at h ⊢
  by_cases h1 : (evtF F L s a).2.2 ≠ 0
  · rw [if_pos h1] at h; exact absurd h h1
  rw [if_neg h1] at h ⊢
  have e1 := evtF_ok (Decidable.not_not.1 h1) ha
  by_cases h2 : (choF W (evtF F L s a).1 s (evtF F L s a).2.1).2.2 ≠ 0
  · rw [if_pos h2] at h; exact absurd h h2
  rw [if_neg h2] at h ⊢
  have e2 := choF_ok hW e1.2.2 (hL _ e1.1) (Decidable.not_not.1 h2)
  have e3 := modF_ok s (M := 17000000) (by decide) _ _ _ _ e2.2.1 e2.2.2 h
  exact ⟨by unfold modT; omega, e3.2⟩
theorem evA_sh (W : List UInt8 → List (List UInt8)) (F : Int) (L : List (List UInt8)) (s : List UInt8) (a : Nat) (sh : Bool) : evA W F L s a sh = if (evA W F L s a false).2.2.2 = 0 then ((evA W F L s a false).1, (evA W F L s a false).2.1, sh || (evA W F L s a false).2.2.1, 0) else ([], 0, false, (evA W F L s a false).2.2.2) := by
  unfold evA
  by_cases h1 : (evtF F L s a).2.2 ≠ 0
  · rw [if_pos h1, if_pos h1, if_neg h1]
  rw [if_neg h1, if_neg h1]
  by_cases h2 : (choF W (evtF F L s a).1 s (evtF F L s a).2.1).2.2 ≠ 0
  · rw [if_pos h2, if_pos h2, if_neg h2]
  rw [if_neg h2, if_neg h2]
  exact modF_sh _ _ _ _ _
/-! ### The scan -/
def kepF (s : List UInt8) (i : Nat) (d : Bool) : Nat × Bool :=
  if atB s i = 92 ∧ i + 1 < s.length then (i + 2, d)
  else if atB s i = 34 then (i + 1, !d)
  else if atB s i = 39 ∧ d = false then ((match ixN [39] (s.drop (i + 1)) with | none => s.length | some k => i + 1 + k + 1), d)
  else (i + 1, d)
theorem kepF_ok {s : List UInt8} {i : Nat} {d : Bool} (h : i < s.length) : i < (kepF s i d).1 ∧ (kepF s i d).1 ≤ s.length := by
  unfold kepF
  split
  · exact ⟨by simp only; omega, by simp only; omega⟩
  split
  · exact ⟨by simp only; omega, by simp only; omega⟩
  split
  · rcases h1 : ixN [39] (s.drop (i + 1)) with _ | k
    · exact ⟨h, Nat.le_refl _⟩
    · have b1 := (ixN_some h1).1
      simp only [List.length_drop, List.length_cons, List.length_nil] at b1
      exact ⟨by simp only; omega, by simp only; omega⟩
  · exact ⟨by simp only; omega, by simp only; omega⟩
/-- Something ahead of a result. -/
def fnx (x : List UInt8) (sh : Bool) (r : List UInt8 × Bool × Int) : List UInt8 × Bool × Int := if r.2.2 = 0 then (x ++ r.1, sh || r.2.1, 0) else ([], false, r.2.2)
theorem fnx_fnx (x y : List UInt8) (a b : Bool) (r : List UInt8 × Bool × Int) : fnx x a (fnx y b r) = fnx (x ++ y) (a || b) r := by
  unfold fnx
  by_cases h : r.2.2 = 0
  · simp only [if_pos h]; simp [Bool.or_assoc]
  · simp only [if_neg h]
def scnF (W : List UInt8 → List (List UInt8)) (F : Int) (L : List (List UInt8)) (s : List UInt8) : Nat → Nat → Bool → List UInt8 × Bool × Int
  | 0, _, _ => ([], false, 0)
  | n + 1, i, d =>
    if s.length ≤ i then ([], false, 0)
    else if atB s i ≠ 33 ∨ plB s i = true then fnx ((s.take (kepF s i d).1).drop i) false (scnF W F L s n (kepF s i d).1 (kepF s i d).2)
    else if (evA W F L s (i + 1) false).2.2.2 ≠ 0 then ([], false, (evA W F L s (i + 1) false).2.2.2)
    else fnx (evA W F L s (i + 1) false).1 (evA W F L s (i + 1) false).2.2.1 (scnF W F L s n (evA W F L s (i + 1) false).2.1 d)
section
variable {W : List UInt8 → List (List UInt8)} (hW : WOk W) {F : Int} {L : List (List UInt8)} (hL : ∀ l ∈ L, l.length ≤ 4096) {s : List UInt8}
include hW hL
theorem scnF_fuel : ∀ (n m i : Nat) (d : Bool), s.length - i < n → s.length - i < m → scnF W F L s n i d = scnF W F L s m i d := by
  intro n
  induction n with
  | zero => intro m i d h; omega
  | succ n ih =>
    intro m i d hn hm
    obtain ⟨m, rfl⟩ : ∃ k, m = k + 1 := ⟨m - 1, by omega⟩
    rw [scnF, scnF]
    by_cases h0 : s.length ≤ i
    · rw [if_pos h0, if_pos h0]
    rw [if_neg h0, if_neg h0]
    have hk := kepF_ok (s := s) (i := i) (d := d) (by omega)
    rw [ih m _ _ (by omega) (by omega)]
    by_cases h1 : (evA W F L s (i + 1) false).2.2.2 = 0
    · have := evA_ok hW hL (F := F) (s := s) (a := i + 1) (sh := false) (by omega) h1
      rw [ih m (evA W F L s (i + 1) false).2.1 d (by omega) (by omega)]
    · rw [if_pos h1, if_pos h1]
end
/-- The scan from i on. -/
def scnT (W : List UInt8 → List (List UInt8)) (F : Int) (L : List (List UInt8)) (s : List UInt8) (i : Nat) (d : Bool) : List UInt8 × Bool × Int := scnF W F L s (s.length - i + 1) i d
section
variable {W : List UInt8 → List (List UInt8)} (hW : WOk W) {F : Int} {L : List (List UInt8)} (hL : ∀ l ∈ L, l.length ≤ 4096) {s : List UInt8}
theorem scnT_end {i : Nat} {d : Bool} (h : s.length ≤ i) : scnT W F L s i d = ([], false, 0) := by unfold scnT; rw [scnF, if_pos h]
include hW hL
theorem scnT_keep {i : Nat} {d : Bool} (h : i < s.length) (h1 : atB s i ≠ 33 ∨ plB s i = true) : scnT W F L s i d = fnx ((s.take (kepF s i d).1).drop i) false (scnT W F L s (kepF s i d).1 (kepF s i d).2) := by
  have hk := kepF_ok (s := s) (i := i) (d := d) h
  unfold scnT
  rw [scnF, if_neg (by omega), if_pos h1, scnF_fuel hW hL (s.length - i) (s.length - (kepF s i d).1 + 1) _ _ (by omega) (by omega)]
omit hW hL in
theorem scnT_err {i : Nat} {d : Bool} (h : i < s.length) (h1 : atB s i = 33) (h2 : plB s i = false) (h3 : (evA W F L s (i + 1) false).2.2.2 ≠ 0) : scnT W F L s i d = ([], false, (evA W F L s (i + 1) false).2.2.2) := by
  unfold scnT
  rw [scnF, if_neg (by omega), if_neg (by rw [h2]; simp [h1]), if_pos h3]
theorem scnT_ev {i : Nat} {d : Bool} (h : i < s.length) (h1 : atB s i = 33) (h2 : plB s i = false) (h3 : (evA W F L s (i + 1) false).2.2.2 = 0) :
    scnT W F L s i d = fnx (evA W F L s (i + 1) false).1 (evA W F L s (i + 1) false).2.2.1 (scnT W F L s (evA W F L s (i + 1) false).2.1 d) := by
  have := evA_ok hW hL (F := F) (s := s) (a := i + 1) (sh := false) (by omega) h3
  unfold scnT
  rw [scnF, if_neg (by omega), if_neg (by rw [h2]; simp [h1]), if_neg (by simpa using h3), scnF_fuel hW hL (s.length - i) (s.length - (evA W F L s (i + 1) false).2.1 + 1) _ _ (by omega) (by omega)]
/-- Bytes that are nothing special are copied. -/
theorem scnT_run {q : Nat} {d : Bool} (hq : q ≤ s.length) : ∀ (n p : Nat), q - p = n → p ≤ q → (∀ j, p ≤ j → j < q → atB s j ≠ 33 ∧ atB s j ≠ 92 ∧ atB s j ≠ 34 ∧ atB s j ≠ 39) →
    scnT W F L s p d = fnx ((s.take q).drop p) false (scnT W F L s q d) := by
  intro n
  induction n with
  | zero =>
    intro p hn hp _
    obtain rfl : p = q := by omega
    rw [List.drop_eq_nil_of_le (by simp only [List.length_take]; omega)]
    unfold fnx
    by_cases h : (scnT W F L s p d).2.2 = 0
    · rw [if_pos h, ← h]; rfl
    · rw [if_neg h]
      have : ∀ n i d, (scnF W F L s n i d).2.2 ≠ 0 → scnF W F L s n i d = ([], false, (scnF W F L s n i d).2.2) := by
        intro n
        induction n with
        | zero => intro i d h; exact absurd rfl h
        | succ n ih =>
          intro i d h
          rw [scnF] at h ⊢
          (repeat' split)
          · rfl
          · unfold fnx at h ⊢; split <;> simp_all
          · rfl
          · unfold fnx at h ⊢; split <;> simp_all
      exact this _ _ _ h
  | succ n ih =>
    intro p hn hp h
    obtain ⟨h1, h2, h3, h4⟩ := h p (Nat.le_refl _) (by omega)
    have e : kepF s p d = (p + 1, d) := by unfold kepF; rw [if_neg (fun h => h2 h.1), if_neg h3, if_neg (fun h => h4 h.1)]
    rw [scnT_keep hW hL (by omega) (.inl h1), e]
    simp only
    rw [ih (p + 1) (by omega) (by omega) (fun j hj hj' => h j (by omega) hj'), fnx_fnx]
    congr 1
    have e1 : (s.take q).drop p = s[p]'(by omega) :: (s.take q).drop (p + 1) := by
      rw [List.drop_eq_getElem_cons (by simp; omega)]; simp
    rw [e1, List.take_succ_eq_append_getElem (by omega), List.drop_append, List.drop_eq_nil_of_le (by simp; omega)]
    simp [Nat.min_eq_left (show p ≤ s.length by omega)]
theorem scnT_len (M : Nat) (hM : 17000000 ≤ M) : ∀ (n i : Nat) (d : Bool), s.length - i ≤ n → (scnT W F L s i d).1.length ≤ (s.length - i) * M := by
  intro n
  induction n with
  | zero => intro i d h; rw [scnT_end (by omega)]; exact Nat.zero_le _
  | succ n ih =>
    intro i d h
    have hstep : ∀ (x : List UInt8) (sh : Bool) (k : Nat) (d' : Bool), i < s.length → i < k → k ≤ s.length → x.length ≤ (k - i) * M → (fnx x sh (scnT W F L s k d')).1.length ≤ (s.length - i) * M := by
      intro x sh k d' hi hk hk' hx
      have h1 := ih k d' (by omega)
      have h2 : (s.length - i) * M = (k - i) * M + (s.length - k) * M := by rw [← Nat.add_mul]; congr 1; omega
      unfold fnx
      split
      · simp only [List.length_append]; omega
      · exact Nat.zero_le _
    rcases Nat.lt_or_ge i s.length with hi | hi
    · by_cases h1 : atB s i ≠ 33 ∨ plB s i = true
      · have hk := kepF_ok (s := s) (i := i) (d := d) hi
        rw [scnT_keep hW hL hi h1]
        refine hstep _ _ _ _ hi hk.1 hk.2 ?_
        have : (kepF s i d).1 - i ≤ ((kepF s i d).1 - i) * M := Nat.le_mul_of_pos_right _ (by omega)
        simp only [List.length_drop, List.length_take]
        omega
      · simp only [not_or, Decidable.not_not, Bool.not_eq_true] at h1
        by_cases h3 : (evA W F L s (i + 1) false).2.2.2 = 0
        · have := evA_ok hW hL (F := F) (s := s) (a := i + 1) (sh := false) (by omega) h3
          rw [scnT_ev hW hL hi h1.1 h1.2 h3]
          refine hstep _ _ _ _ hi (by omega) this.2.1 ?_
          have h4 : 1 * M ≤ ((evA W F L s (i + 1) false).2.1 - i) * M := Nat.mul_le_mul_right _ (by omega)
          omega
        · rw [scnT_err hi h1.1 h1.2 h3]; exact Nat.zero_le _
    · rw [scnT_end hi]; exact Nat.zero_le _
end
/-! ### The whole -/
/-- A quick substitution; r is what follows the ^. -/
def quiF (L : List (List UInt8)) (r : List UInt8) : List UInt8 × Int :=
  match ixN [94] r with
  | none => ([], 6)
  | some 0 => ([], 6)
  | some (k + 1) => match L.getLast? with
    | none => ([], 8)
    | some line => match ixN (r.take (k + 1)) line with
      | none => ([], 8)
      | some x => (line.take x ++ (match ixN [94] (r.drop (k + 1 + 1)) with | none => r.drop (k + 1 + 1) | some m => (r.drop (k + 1 + 1)).take m) ++ line.drop (x + (k + 1)) ++
          (match ixN [94] (r.drop (k + 1 + 1)) with | none => [] | some m => (r.drop (k + 1 + 1)).drop (m + 1)), 0)
def rawF (W : List UInt8 → List (List UInt8)) (F : Int) (L : List (List UInt8)) (s : List UInt8) : List UInt8 × Bool × Int := if atB s 0 = 94 then ((quiF L (s.drop 1)).1, false, (quiF L (s.drop 1)).2) else scnT W F L s 0 false
def expF (W : List UInt8 → List (List UInt8)) (F : Int) (L : List (List UInt8)) (s : List UInt8) : List UInt8 × Bool × Int :=
  if 4096 < s.length then ([], false, 3)
  else if (rawF W F L s).2.2 ≠ 0 then ([], false, (rawF W F L s).2.2)
  else if 4096 < (rawF W F L s).1.length then ([], false, 3)
  else rawF W F L s
end Go.Proofs.YtgbhjlkenfmadaaDoor
