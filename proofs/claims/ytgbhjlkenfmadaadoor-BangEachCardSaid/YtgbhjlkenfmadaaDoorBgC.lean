/- What bang computes, third part: lines without events, the last line, single words. No program is named here. -/
import Derived.Test.YtgbhjlkenfmadaaDoorBgB
namespace Go.Proofs.YtgbhjlkenfmadaaDoor
set_option linter.unusedVariables false
set_option linter.unusedSimpArgs false
section
variable {W : List UInt8 → List (List UInt8)} (hW : WOk W) {F : Int} {L : List (List UInt8)} (hL : ∀ l ∈ L, l.length ≤ 4096) {s : List UInt8}
include hW hL
/-- Where no ! stands, all is copied. -/
theorem scnT_plain (h33 : ∀ j, j < s.length → atB s j ≠ 33) : ∀ (n i : Nat) (d : Bool), s.length - i ≤ n → i ≤ s.length → scnT W F L s i d = (s.drop i, false, 0) := by
  intro n
  induction n with
  | zero => intro i d h hi; rw [scnT_end (by omega), List.drop_eq_nil_of_le (by omega)]
  | succ n ih =>
    intro i d h hi
    rcases Nat.lt_or_ge i s.length with hi' | hi'
    · have hk := kepF_ok (s := s) (i := i) (d := d) hi'
      rw [scnT_keep hW hL hi' (.inl (h33 i hi')), ih _ _ (by omega) hk.2]
      unfold fnx
      rw [if_pos rfl]
      have : (s.take (kepF s i d).1).drop i ++ s.drop (kepF s i d).1 = s.drop i := by
        conv => rhs; rw [← List.take_append_drop (kepF s i d).1 s]
        rw [List.drop_append_of_le_length (by simp; omega)]
      simp only [this, Bool.false_or]
    · rw [scnT_end hi', List.drop_eq_nil_of_le hi']
theorem expF_plain (hs : s.length ≤ 4096) (h33 : ∀ c ∈ s, c ≠ 33) (h94 : atB s 0 ≠ 94) : expF W F L s = (s, false, 0) := by
  have h1 : ∀ j, j < s.length → atB s j ≠ 33 := fun j hj => by rw [atB_lt hj]; exact h33 _ (List.getElem_mem hj)
  unfold expF rawF
  rw [if_neg (by omega), if_neg h94, scnT_plain hW hL h1 _ 0 false (Nat.le_refl _) (by omega)]
  simp only [List.drop_zero]
  rw [if_neg (by simp), if_neg (by omega)]
omit hW hL in
theorem atB_app {a b : List UInt8} {j : Nat} : atB (a ++ b) j = if j < a.length then atB a j else atB b (j - a.length) := by
  unfold atB
  split
  · next h => rw [List.getElem?_append_left h]
  · next h => rw [List.getElem?_append_right (by omega)]
end
section
variable {W : List UInt8 → List (List UInt8)} (hW : WOk W) {F : Int} {L : List (List UInt8)} (hL : ∀ l ∈ L, l.length ≤ 4096)
/-- What a designator and the modifiers leave alone. -/
theorem choF_none {line s : List UInt8} {i : Nat} (h : atB s i ≠ 58 ∧ atB s i ≠ 94 ∧ atB s i ≠ 36 ∧ atB s i ≠ 42) : choF W line s i = (line, i, 0) := by
  have : (desF s i ((W line).length - 1)) = (0, 0, 0, false) := by unfold desF; rw [if_neg h.2.1, if_neg h.2.2.1, if_neg h.2.2.2, if_neg h.1]
  unfold choF
  rw [this, if_pos rfl]
theorem modT_none {t s : List UInt8} {i : Nat} {sh : Bool} (h : atB s i ≠ 58) : modT s t i sh = (t, i, sh, 0) := by unfold modT; rw [modF, if_pos h]
theorem evA_e1 {s : List UInt8} {a : Nat} {sh : Bool} (h : (evtF F L s a).2.2 ≠ 0) : evA W F L s a sh = ([], 0, false, (evtF F L s a).2.2) := by unfold evA; rw [if_pos h]
theorem evA_e2 {s : List UInt8} {a : Nat} {sh : Bool} (h : (evtF F L s a).2.2 = 0) (h2 : (choF W (evtF F L s a).1 s (evtF F L s a).2.1).2.2 ≠ 0) :
    evA W F L s a sh = ([], 0, false, (choF W (evtF F L s a).1 s (evtF F L s a).2.1).2.2) := by unfold evA; rw [if_neg (by simpa using h), if_pos h2]
theorem evA_e3 {s : List UInt8} {a : Nat} {sh : Bool} (h : (evtF F L s a).2.2 = 0) (h2 : (choF W (evtF F L s a).1 s (evtF F L s a).2.1).2.2 = 0) :
    evA W F L s a sh = modT s (choF W (evtF F L s a).1 s (evtF F L s a).2.1).1 (choF W (evtF F L s a).1 s (evtF F L s a).2.1).2.1 sh := by unfold evA; rw [if_neg (by simpa using h), if_neg (by simpa using h2)]
theorem evA_last {s : List UInt8} {a : Nat} (ha : atB s a = 33) (h : atB s (a + 1) ≠ 58 ∧ atB s (a + 1) ≠ 94 ∧ atB s (a + 1) ≠ 36 ∧ atB s (a + 1) ≠ 42) :
    evA W F L s a false = match L.getLast? with
      | none => ([], 0, false, 8)
      | some l => (l, a + 1, false, 0) := by
  have e : evtF F L s a = orE L.getLast? (a + 1) := by unfold evtF; rw [if_pos ha]
  cases hl : L.getLast? with
  | none =>
    rw [hl] at e
    rw [evA_e1 (by rw [e]; exact (by decide : (8 : Int) ≠ 0)), e]
    rfl
  | some l =>
    rw [hl] at e
    have e2 : choF W (evtF F L s a).1 s (evtF F L s a).2.1 = (l, a + 1, 0) := by rw [e]; exact choF_none h
    rw [evA_e3 (by rw [e]; rfl) (by rw [e2]), e2, modT_none h.1]
include hW hL
theorem expF_last {a b : List UInt8} (ha : a.length ≤ 200) (hb : b.length ≤ 200) (h0 : atB a 0 ≠ 94) (h1 : atB b 0 ≠ 58 ∧ atB b 0 ≠ 94 ∧ atB b 0 ≠ 36 ∧ atB b 0 ≠ 42)
    (hs : ∀ c ∈ a ++ b, c ≠ 33 ∧ c ≠ 92 ∧ c ≠ 34 ∧ c ≠ 39) :
    expF W F L (a ++ 33 :: 33 :: b) = match L.getLast? with
      | none => ([], false, 8)
      | some l => if 4096 < (a ++ l ++ b).length then ([], false, 3) else (a ++ l ++ b, false, 0) := by
  generalize hs' : a ++ 33 :: 33 :: b = s
  have hlen : s.length = a.length + 2 + b.length := by rw [← hs']; simp; omega
  have hatA : ∀ j, j < a.length → atB s j = atB a j := fun j hj => by rw [← hs', atB_app, if_pos hj]
  have hat0 : atB s a.length = 33 := by rw [← hs', atB_app, if_neg (by omega), Nat.sub_self]; rfl
  have hat1 : atB s (a.length + 1) = 33 := by rw [← hs', atB_app, if_neg (by omega), Nat.add_sub_cancel_left]; rfl
  have hatB : ∀ j, atB s (a.length + 2 + j) = atB b j := fun j => by
    rw [← hs', atB_app, if_neg (by omega), show a.length + 2 + j - a.length = j + 2 from by omega]
    rfl
  have hA : ∀ j, 0 ≤ j → j < a.length → atB s j ≠ 33 ∧ atB s j ≠ 92 ∧ atB s j ≠ 34 ∧ atB s j ≠ 39 := fun j _ hj => by
    rw [hatA j hj, atB_lt hj]
    exact hs _ (List.mem_append_left _ (List.getElem_mem hj))
  have hB : ∀ j, a.length + 2 ≤ j → j < s.length → atB s j ≠ 33 ∧ atB s j ≠ 92 ∧ atB s j ≠ 34 ∧ atB s j ≠ 39 := fun j hj hj' => by
    obtain ⟨k, rfl⟩ := Nat.exists_eq_add_of_le hj
    have hk : k < b.length := by omega
    rw [hatB k, atB_lt hk]
    exact hs _ (List.mem_append_right _ (List.getElem_mem hk))
  have hf : atB s 0 ≠ 94 := by
    rcases Nat.eq_zero_or_pos a.length with h | h
    · rw [h] at hat0; rw [hat0]; decide
    · rw [hatA 0 h]; exact h0
  have hpl : plB s a.length = false := by
    unfold plB
    rw [hat1]
    have : ¬ s.length ≤ a.length + 1 := by omega
    simp [this, evB]
  have hev := evA_last (W := W) (F := F) (L := L) hat1 (by have := hatB 0; rw [Nat.add_zero] at this; rw [show a.length + 1 + 1 = a.length + 2 from rfl, this]; exact h1)
  have hraw : rawF W F L s = match L.getLast? with
      | none => ([], false, 8)
      | some l => (a ++ l ++ b, false, 0) := by
    unfold rawF
    rw [if_neg hf, scnT_run hW hL (q := a.length) (by omega) _ 0 rfl (by omega) hA]
    cases hl : L.getLast? with
    | none =>
      rw [hl] at hev
      simp only at hev
      rw [scnT_err (by omega) hat0 hpl (by rw [hev]; decide), hev]
      rfl
    | some l =>
      rw [hl] at hev
      rw [scnT_ev hW hL (by omega) hat0 hpl (by rw [hev]), hev]
      simp only
      rw [scnT_run hW hL (q := s.length) (Nat.le_refl _) _ (a.length + 1 + 1) rfl (by omega) hB, scnT_end (Nat.le_refl _), fnx_fnx, fnx_fnx]
      unfold fnx
      rw [if_pos rfl]
      have e1 : (s.take a.length).drop 0 = a := by rw [← hs']; simp
      have e2 : (s.take s.length).drop (a.length + 1 + 1) = b := by
        rw [List.take_length, ← hs', List.drop_append, List.drop_eq_nil_of_le (by omega), show a.length + 1 + 1 - a.length = 2 from by omega]
        rfl
      rw [e1, e2]
      simp
  unfold expF
  rw [if_neg (by omega), hraw]
  cases L.getLast? with
  | none => rfl
  | some l =>
    simp only
    rw [if_neg (by simp)]
end
/-! ### Decimal forms -/
def dcL : Nat → Nat → List UInt8
  | 0, _ => []
  | k + 1, n => if n < 10 then [UInt8.ofNat (48 + n)] else dcL k (n / 10) ++ [UInt8.ofNat (48 + n % 10)]
theorem dcC (n : Nat) (h : n < 10) : (UInt8.ofNat (48 + n)).toNat = 48 + n := by rw [UInt8.toNat_ofNat']; omega
theorem dcL_ok : ∀ (k n : Nat), n < 10 ^ k → (∀ c ∈ dcL k n, dgB c = true) ∧ dgV (dcL k n) = n ∧ (dcL k n).length ≤ k ∧ (0 < k → dcL k n ≠ [])
  | 0, n, h => by
    obtain rfl : n = 0 := by simp at h; exact h
    exact ⟨by simp [dcL], rfl, Nat.le_refl _, fun h => absurd h (by decide)⟩
  | k + 1, n, h => by
    rw [dcL]
    by_cases h10 : n < 10
    · rw [if_pos h10]
      refine ⟨fun c hc => ?_, ?_, by simp, fun _ => by simp⟩
      · rw [List.mem_singleton] at hc; subst hc; simp only [dgB, dcC n h10, decide_eq_true_eq]; omega
      · simp only [dgV, List.foldl_cons, List.foldl_nil, dcC n h10]; omega
    · rw [if_neg h10]
      have h1 : n / 10 < 10 ^ k := by rw [Nat.pow_succ] at h; omega
      obtain ⟨i1, i2, i3, i4⟩ := dcL_ok k (n / 10) h1
      have hm : n % 10 < 10 := Nat.mod_lt _ (by decide)
      refine ⟨fun c hc => ?_, ?_, by simp only [List.length_append, List.length_cons, List.length_nil]; omega, fun _ => by simp⟩
      · rcases List.mem_append.1 hc with hc | hc
        · exact i1 c hc
        · rw [List.mem_singleton] at hc; subst hc; simp only [dgB, dcC _ hm, decide_eq_true_eq]; omega
      · rw [dgV_snoc, i2, dcC _ hm]; omega
theorem dgN_app : ∀ (l r : List UInt8), (∀ c ∈ l, dgB c = true) → dgN (l ++ r) = l.length + dgN r
  | [], r, _ => by simp
  | c :: l, r, h => by
    rw [List.cons_append, dgN, if_pos (h c (by simp)), dgN_app l r (fun x hx => h x (List.mem_cons_of_mem _ hx)), List.length_cons]; omega
section
variable {W : List UInt8 → List (List UInt8)} (hW : WOk W) {F : Int} {L : List (List UInt8)} (hL : ∀ l ∈ L, l.length ≤ 4096)
include hW hL
/-- An event alone. -/
theorem expF_one {s : List UInt8} {line : List UInt8} (hs : s.length ≤ 4096) (h0 : atB s 0 = 33) (hp : plB s 0 = false) (he : evtF F L s 1 = (line, 2, 0) ∨ evtF F L s 1 = (line, 1, 0)) {k : Nat}
    (hc : choF W line s (evtF F L s 1).2.1 = ([], 0, 8) ∨ ∃ t, choF W line s (evtF F L s 1).2.1 = (t, s.length, 0) ∧ t.length ≤ 4096) :
    expF W F L s = if (choF W line s (evtF F L s 1).2.1).2.2 = 0 then ((choF W line s (evtF F L s 1).2.1).1, false, 0) else ([], false, 8) := by
  have h2 : (evtF F L s 1).2.2 = 0 ∧ (evtF F L s 1).1 = line := by rcases he with h | h <;> rw [h] <;> exact ⟨rfl, rfl⟩
  have hin := at_in h0 (by decide)
  rw [← h2.2] at hc ⊢
  have hraw : rawF W F L s = if (choF W (evtF F L s 1).1 s (evtF F L s 1).2.1).2.2 = 0 then ((choF W (evtF F L s 1).1 s (evtF F L s 1).2.1).1, false, 0) else ([], false, 8) := by
    unfold rawF
    rw [if_neg (by rw [h0]; decide)]
    rcases hc with hc | ⟨t, hc, ht⟩
    · have e : evA W F L s (0 + 1) false = ([], 0, false, 8) := by rw [Nat.zero_add, evA_e2 h2.1 (by rw [hc]; decide), hc]
      rw [scnT_err hin h0 hp (by rw [e]; decide), e, hc]
      rfl
    · have e : evA W F L s (0 + 1) false = (t, s.length, false, 0) := by rw [Nat.zero_add, evA_e3 h2.1 (by rw [hc]), hc]; exact modT_none (by rw [atB_ge (Nat.le_refl _)]; decide)
      rw [scnT_ev hW hL hin h0 hp (by rw [e]), e, hc]
      simp only
      rw [scnT_end (Nat.le_refl _)]
      simp [fnx]
  unfold expF
  rw [if_neg (by omega), hraw]
  rcases hc with hc | ⟨t, hc, ht⟩
  · rw [hc]; rfl
  · rw [hc]
    simp only [if_true]
    rw [if_neg (by simp), if_neg (by omega)]
end
end Go.Proofs.YtgbhjlkenfmadaaDoor
