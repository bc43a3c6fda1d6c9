/- Patterns: a match is a decomposition; reversal. No program is named here. -/
import Derived.Test.YtllhcgfdjfmmeaaPtA
namespace Go.Proofs.Ytllhcgfdjfmmeaa
set_option linter.unusedVariables false
set_option linter.unusedSimpArgs false
/-- A pattern matches a string: item by item. -/
def Mt : List It → List UInt8 → Prop
  | [], s => s = []
  | x :: p, s => ∃ u v, s = u ++ v ∧ (x.k = 3 ∨ ∃ b, u = [b] ∧ tks x b = true) ∧ Mt p v
theorem Mt_append : ∀ (p q : List It) (s : List UInt8), Mt (p ++ q) s ↔ ∃ u v, s = u ++ v ∧ Mt p u ∧ Mt q v
  | [], q, s => by
    constructor
    · intro h; exact ⟨[], s, rfl, rfl, h⟩
    · rintro ⟨u, v, rfl, hu, hv⟩
      rw [Mt] at hu
      subst hu
      exact hv
  | x :: p, q, s => by
    constructor
    · rintro ⟨u, v, rfl, hx, h⟩
      obtain ⟨a, b, rfl, ha, hb⟩ := (Mt_append p q v).1 h
      exact ⟨u ++ a, b, by simp, ⟨u, a, rfl, hx, ha⟩, hb⟩
    · rintro ⟨u, v, rfl, ⟨a, b, rfl, hx, hb⟩, hv⟩
      exact ⟨a, b ++ v, by simp, hx, (Mt_append p q _).2 ⟨b, v, rfl, hb, hv⟩⟩
theorem Mt_one (x : It) (s : List UInt8) : Mt [x] s ↔ (x.k = 3 ∨ ∃ b, s = [b] ∧ tks x b = true) := by
  constructor
  · rintro ⟨u, v, rfl, hx, hv⟩
    rw [Mt] at hv
    subst hv
    simpa using hx
  · intro h
    exact ⟨s, [], by simp, h, rfl⟩
theorem Mt_reverse : ∀ (p : List It) (s : List UInt8), Mt p.reverse s.reverse ↔ Mt p s := by
  have key : ∀ (p : List It) (s : List UInt8), Mt p s → Mt p.reverse s.reverse := by
    intro p
    induction p with
    | nil => intro s h; rw [Mt] at h; subst h; rfl
    | cons x p ih =>
      rintro s ⟨u, v, rfl, hx, hv⟩
      rw [List.reverse_cons, List.reverse_append, Mt_append]
      refine ⟨_, _, rfl, ih v hv, (Mt_one x _).2 ?_⟩
      rcases hx with h | ⟨b, rfl, h⟩
      · exact .inl h
      · exact .inr ⟨b, rfl, h⟩
  intro p s
  refine ⟨fun h => ?_, key p s⟩
  have := key _ _ h
  rwa [List.reverse_reverse, List.reverse_reverse] at this
/-- The rows are the matches. -/
theorem rowR_iff (s : List UInt8) : ∀ (q : List It) (k : Nat), k ≤ s.length → (rowR s q k = true ↔ Mt q.reverse (s.take k)) := by
  intro q
  induction q with
  | nil =>
    intro k hk
    simp only [rowR, List.reverse_nil, Mt, decide_eq_true_eq]
    constructor
    · rintro rfl; rfl
    · intro h
      have := congrArg List.length h
      rw [List.length_take, List.length_nil] at this
      omega
  | cons x q ih =>
    intro k
    induction k with
    | zero =>
      intro hk
      show nxR x s (rowR s q) 0 = true ↔ _
      rw [nxR, List.reverse_cons, Mt_append]
      by_cases hx : x.k = 3
      · rw [if_pos hx, ih 0 hk]
        constructor
        · intro h; exact ⟨_, [], by simp, h, (Mt_one x _).2 (.inl hx)⟩
        · rintro ⟨u, v, e, hu, hv⟩
          have : u = [] := by
            rw [List.take_zero] at e
            exact (List.append_eq_nil_iff.1 e.symm).1
          subst this
          exact hu
      · rw [if_neg hx]
        constructor
        · intro h; cases h
        · rintro ⟨u, v, e, hu, hv⟩
          rw [Mt_one] at hv
          rcases hv with h | ⟨b, rfl, h⟩
          · exact absurd h hx
          · rw [List.take_zero] at e
            simp at e
    | succ k ihk =>
      intro hk
      have hkl : k < s.length := by omega
      have e1 : s.take (k + 1) = s.take k ++ [s[k]] := List.take_succ_eq_append_getElem hkl
      have e2 : s.getD k 0 = s[k] := by rw [List.getD_eq_getElem?_getD, List.getElem?_eq_getElem hkl]; rfl
      show nxR x s (rowR s q) (k + 1) = true ↔ _
      rw [nxR, List.reverse_cons, Mt_append]
      by_cases hx : x.k = 3
      · rw [if_pos hx, Bool.or_eq_true, ih (k + 1) hk]
        have ihk' : nxR x s (rowR s q) k = true ↔ Mt (q.reverse ++ [x]) (s.take k) := by
          have := ihk (by omega)
          rw [List.reverse_cons] at this
          exact this
        rw [ihk', Mt_append]
        constructor
        · rintro (h | ⟨u, v, e, hu, hv⟩)
          · exact ⟨_, [], by simp, h, (Mt_one x _).2 (.inl hx)⟩
          · exact ⟨u, v ++ [s[k]], by rw [e1, e, List.append_assoc], hu, (Mt_one x _).2 (.inl hx)⟩
        · rintro ⟨u, v, e, hu, hv⟩
          rcases List.eq_nil_or_concat v with rfl | ⟨v', b, rfl⟩
          · left
            rw [List.append_nil] at e
            rw [e]; exact hu
          · right
            rw [List.concat_eq_append, e1, ← List.append_assoc] at e
            obtain ⟨e3, e4⟩ := List.append_inj' e rfl
            exact ⟨u, v', e3, hu, (Mt_one x _).2 (.inl hx)⟩
      · rw [if_neg hx, Bool.and_eq_true, ih k (by omega), e2]
        constructor
        · rintro ⟨h1, h2⟩
          exact ⟨_, [s[k]], e1, h1, (Mt_one x _).2 (.inr ⟨_, rfl, h2⟩)⟩
        · rintro ⟨u, v, e, hu, hv⟩
          rcases (Mt_one x v).1 hv with h | ⟨b, rfl, h⟩
          · exact absurd h hx
          · rw [e1] at e
            obtain ⟨e3, e4⟩ := List.append_inj' e rfl
            injection e4 with e4
            rw [e3, e4]
            exact ⟨hu, h⟩
theorem mR_iff (p : List It) (s : List UInt8) {k : Nat} (hk : k ≤ s.length) : mR p s p.length k = true ↔ Mt p (s.take k) := by
  rw [mR, List.take_length, rowR_iff s _ k hk, List.reverse_reverse]
/-- Suffixes: the reversed pattern on the reversed string. -/
theorem mR_rev (p : List It) (s : List UInt8) {k : Nat} (hk : k ≤ s.length) : mR p.reverse s.reverse p.length k = mR p (s.drop (s.length - k)) p.length k := by
  have h1 := mR_iff p.reverse s.reverse (k := k) (by simpa using hk)
  have h2 := mR_iff p (s.drop (s.length - k)) (k := k) (by rw [List.length_drop]; omega)
  rw [List.length_reverse] at h1
  refine Bool.eq_iff_iff.2 (h1.trans (Iff.trans ?_ h2.symm))
  rw [List.take_of_length_le (l := s.drop (s.length - k)) (by rw [List.length_drop]; omega), ← Mt_reverse p, List.reverse_drop, show s.length - (s.length - k) = k by omega]
end Go.Proofs.Ytllhcgfdjfmmeaa
