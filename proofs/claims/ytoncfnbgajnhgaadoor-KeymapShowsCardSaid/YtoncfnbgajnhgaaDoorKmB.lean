/- Keymap: plain words of the keys shown. No program is named here. -/
import Derived.Test.YtoncfnbgajnhgaaDoorKmA
import Derived.Test.YtoncfnbgajnhgaaDoorGt
namespace Go.Proofs.YtoncfnbgajnhgaaDoor
set_option linter.unusedVariables false
set_option linter.unusedSimpArgs false
/-- A key shown. -/
def sh1 (c : UInt8) : List UInt8 :=
  if c.toNat = 9 then [92, 116] else if c.toNat = 10 then [92, 110] else if c.toNat = 27 then [92, 101] else if c.toNat = 127 then [92, 100] else if c.toNat = 92 then [92, 92]
  else if 1 ≤ c.toNat ∧ c.toNat ≤ 26 then [92, 67, 45, UInt8.ofNat (c.toNat - 1 + 97)] else if 32 ≤ c.toNat ∧ c.toNat ≤ 126 then [c]
  else [92, 120, hexD[c.toNat / 16]?.getD 0, hexD[c.toNat % 16]?.getD 0]
def shw (l : List UInt8) : List UInt8 := l.flatMap sh1
theorem nmT_len : nmT.length = 32 := by decide
theorem nmT_at : ∀ k : Fin 32, nmT[k.1]?.getD [] = if k.1 = 0 ∨ 28 ≤ k.1 then [] else sh1 (UInt8.ofNat k.1) := by decide
theorem nmT_key (c : UInt8) (h : c.toNat < 32) : nmT[c.toNat]?.getD [] = if c.toNat = 0 ∨ 28 ≤ c.toNat then [] else sh1 c := by
  have := nmT_at ⟨c.toNat, h⟩
  simpa using this
theorem hexD_get (i : Fin 16) : digV (hexD[i.1]?.getD 0) = i.1 ∧ 48 ≤ (hexD[i.1]?.getD 0).toNat ∧ (hexD[i.1]?.getD 0).toNat ≤ 102 := by
  revert i; decide
theorem sh1_len (c : UInt8) : 1 ≤ (sh1 c).length ∧ (sh1 c).length ≤ 4 ∧ (sh1 c).length ≠ 3 := by
  unfold sh1; (repeat' split) <;> simp
theorem ofNat_toNat {n : Nat} (h : n < 256) : (UInt8.ofNat n).toNat = n := by simp; omega
theorem sh1_bytes (c : UInt8) : ∀ x ∈ sh1 c, 32 ≤ x.toNat ∧ x.toNat ≤ 126 := by
  have hc := UInt8.toNat_lt c
  intro x hx
  unfold sh1 at hx
  split at hx
  · simp at hx; rcases hx with rfl | rfl <;> decide
  split at hx
  · simp at hx; rcases hx with rfl | rfl <;> decide
  split at hx
  · simp at hx; rcases hx with rfl | rfl <;> decide
  split at hx
  · simp at hx; rcases hx with rfl | rfl <;> decide
  split at hx
  · simp at hx; subst hx; decide
  split at hx
  · simp only [List.mem_cons, List.not_mem_nil, or_false] at hx
    rcases hx with rfl | rfl | rfl | rfl
    · decide
    · decide
    · decide
    · rw [ofNat_toNat (by omega)]; omega
  split at hx
  · simp at hx; subst hx; assumption
  · have h1 := hexD_get ⟨c.toNat / 16, by omega⟩
    have h2 := hexD_get ⟨c.toNat % 16, by omega⟩
    simp only [List.mem_cons, List.not_mem_nil, or_false] at hx
    rcases hx with rfl | rfl | rfl | rfl
    · decide
    · decide
    · simp only at h1; omega
    · simp only at h2; omega
theorem frm_sh1 (c : UInt8) (r : List UInt8) : frm (sh1 c ++ r) = (c.toNat, (sh1 c).length, 0) := by
  have hc := UInt8.toNat_lt c
  unfold sh1
  split
  · next h => rw [h]; rfl
  split
  · next h => rw [h]; rfl
  split
  · next h => rw [h]; rfl
  split
  · next h => rw [h]; rfl
  split
  · next h => rw [h]; rfl
  split
  · next h =>
    show ctlF (45 :: UInt8.ofNat (c.toNat - 1 + 97) :: r) = _
    have e := ofNat_toNat (n := c.toNat - 1 + 97) (by omega)
    rw [ctlF, if_neg (by decide), e, if_neg (by omega)]
    show (c.toNat - 1 + 97 - 96, 4, (0 : Int)) = (c.toNat, 4, 0)
    congr 1
    omega
  split
  · next h1 h2 h3 h4 h5 h6 h7 =>
    show frm (c :: r) = _
    rw [frm, if_pos h5]; rfl
  · next h1 h2 h3 h4 h5 h6 h7 =>
    have q1 := (hexD_get ⟨c.toNat / 16, by omega⟩).1
    have q2 := (hexD_get ⟨c.toNat % 16, by omega⟩).1
    simp only at q1 q2
    show hexF (hexD[c.toNat / 16]?.getD 0 :: hexD[c.toNat % 16]?.getD 0 :: r) = _
    rw [hexF, q1, q2, if_neg (by omega), if_neg (by omega)]
    show ((16 * (((c.toNat / 16 : Nat)) : Int) + ((c.toNat % 16 : Nat) : Int)).toNat, 4, (0 : Int)) = (c.toNat, 4, 0)
    congr 1
    omega
theorem shw_cons (c : UInt8) (l : List UInt8) : shw (c :: l) = sh1 c ++ shw l := rfl
theorem shw_append (a b : List UInt8) : shw (a ++ b) = shw a ++ shw b := by simp [shw]
theorem shw_len (l : List UInt8) : (shw l).length ≤ 4 * l.length ∧ l.length ≤ (shw l).length := by
  induction l with
  | nil => simp [shw]
  | cons c r ih =>
    have := sh1_len c
    rw [shw_cons, List.length_append, List.length_cons]
    omega
theorem shw_bytes (l : List UInt8) : ∀ x ∈ shw l, 32 ≤ x.toNat ∧ x.toNat ≤ 126 := by
  intro x hx
  obtain ⟨c, _, hx⟩ := List.mem_flatMap.1 hx
  exact sh1_bytes c x hx
theorem prs_shw : ∀ (n : Nat) (l acc : List UInt8), (shw l).length < n → prs n acc false (shw l) = if 16 < (acc ++ l).length then ([], 3) else (acc ++ l, 0)
  | 0, _, _, h => by omega
  | n + 1, [], acc, h => by
    rw [show shw [] = [] from rfl, prs, List.append_nil]; rfl
  | n + 1, c :: l, acc, h => by
    have h1 := sh1_len c
    have h2 := frm_sh1 c (shw l)
    rw [shw_cons] at h ⊢
    rw [List.length_append] at h
    cases hs : sh1 c ++ shw l with
    | nil => rw [List.append_eq_nil_iff] at hs; rw [hs.1] at h1; simp at h1
    | cons d q =>
      rw [hs] at h2
      rw [prs, h2, if_neg (by simp), ← hs]
      simp only
      rw [List.drop_left, decide_eq_false h1.2.2, UInt8.ofNat_toNat, prs_shw n l (acc ++ [c]) (by omega)]
      simp
theorem prsF_shw (l : List UInt8) : prsF (shw l) = if 16 < l.length then ([], 3) else (l, 0) := by
  rw [prsF, prs_shw _ l [] (by omega)]; rfl
end Go.Proofs.YtoncfnbgajnhgaaDoor
