/- How long the words of a line are together. No program is named here. -/
import Derived.Test.YtgbhjlkenfmadaaGreatDoorBgM
namespace Go.Proofs.YtgbhjlkenfmadaaGreatDoor
open Go.RowKit
set_option linter.unusedVariables false
set_option linter.unusedSimpArgs false
/-! ### How long the words are -/
def totW (L : List (List UInt8)) : Nat := (L.map fun x => x.length + 1).sum
theorem totW_cons (x : List UInt8) (L : List (List UInt8)) : totW (x :: L) = x.length + 1 + totW L := by simp [totW]
theorem jnB_tot : ∀ L, (jnB L).length ≤ totW L
  | [] => Nat.zero_le _
  | [x] => by simp [jnB, totW]
  | x :: y :: r => by
    have := jnB_tot (y :: r)
    rw [totW_cons]
    simp only [jnB, List.length_append, List.length_cons]
    omega
theorem totW_sub {L M : List (List UInt8)} (h : L.Sublist M) : totW L ≤ totW M := by
  induction h with
  | slnil => exact Nat.le_refl _
  | cons a _ ih => rw [totW_cons]; omega
  | cons_cons a _ ih => rw [totW_cons, totW_cons]; omega
theorem fldB_tot : ∀ (l cur : List UInt8), totW (fldB cur l) ≤ cur.length + l.length + 1
  | [], cur => by
    rw [fldB]
    split
    · simp [totW]
    · simp [totW]
  | c :: r, cur => by
    rw [fldB]
    have h0 := fldB_tot r []
    have h1 := fldB_tot r (cur ++ [c])
    simp only [List.length_append, List.length_cons, List.length_nil] at h0 h1 ⊢
    split
    · split
      · omega
      · rw [totW_cons]; omega
    · omega
theorem nxt_tlen {s : List UInt8} {a : Nat} (h : (nxt s a).2 = 0) : a + (nxt s a).1.text.length ≤ (nxt s a).1.fin := by
  unfold nxt at h ⊢
  rcases hd : s.drop a with _ | ⟨c, r⟩
  · simp
  · rw [hd] at h
    simp only at h ⊢
    split
    · simp
    next h1 =>
    rw [if_neg h1] at h
    split
    · simp only [List.length_take]; omega
    next h2 =>
    rw [if_neg h2] at h
    split
    · next h3 => rw [if_pos h3] at h; exact absurd h h3
    · simp only [List.length_take]; omega
theorem nextF_tlen {s : List UInt8} {a : Nat} (ha : a ≤ s.length) (h : (nextF s a).2 = 0) : a + (nextF s a).1.text.length ≤ (nextF s a).1.fin ∧ ((nextF s a).1.kind = 5 → (nextF s a).1.text = []) := by
  have hp := nxt_pos (s := s) (z := a) h
  have hsk : a ≤ skp s (a : Int) := by unfold skp clp; omega
  unfold nextF at h ⊢
  split at h
  · cases h
  next h0 =>
  rw [if_neg h0]
  refine ⟨by have := nxt_tlen h; omega, fun hk => ?_⟩
  generalize skp s (a : Int) = b at *
  unfold nxt at hk ⊢
  rcases hd : s.drop b with _ | ⟨c, r⟩
  · rfl
  · rw [hd] at hk
    simp only at hk ⊢
    split at hk
    · cases hk
    split at hk
    · cases hk
    split at hk
    · cases hk
    · simp only at hk
      split at hk <;> cases hk
theorem allT_tot (s : List UInt8) : ∀ (n a : Nat), a ≤ s.length → (allT s n a).2.2 = 0 → totW ((allT s n a).1.map (·.text)) ≤ 2 * (s.length - a) + 1
  | 0, a, _, _ => by simp [allT, totW]
  | n + 1, a, ha, h => by
    rw [allT] at h ⊢
    split
    · next h1 => rw [if_pos h1] at h; exact absurd h h1
    next h1 =>
    rw [if_neg h1] at h
    have h0 : (nextF s a).2 = 0 := Decidable.not_not.1 h1
    have ht := nextF_tlen ha h0
    split
    · next h2 => rw [List.map_cons, List.map_nil, totW_cons, ht.2 h2]; simp [totW]
    next h2 =>
    rw [if_neg h2] at h
    split
    · next h3 => rw [if_pos h3] at h; exact absurd h h3
    next h3 =>
    have hp := nxt_pos (s := s) (z := a) h0 h2
    have hsk : a ≤ skp s (a : Int) := by unfold skp clp; omega
    have ih := allT_tot s n (nextF s a).1.fin hp.2 (Decidable.not_not.1 h3)
    rw [List.map_cons, totW_cons]
    omega
theorem words_tot (s : List UInt8) : totW (wordsF s) ≤ 2 * s.length + 1 := by
  unfold wordsF
  split
  · have := fldB_tot s []; simp only [List.length_nil] at this; omega
  · next h =>
    have := allT_tot s (s.length + 2) 0 (by omega) (Decidable.not_not.1 h)
    have h2 := totW_sub ((List.filter_sublist (p := kindB) (l := (allF s).1)).map (·.text))
    have h3 : allF s = allT s (s.length + 2) 0 := rfl
    rw [h3] at h2 ⊢
    omega
theorem take_ne {W : List (List UInt8)} {i : Nat} (h : i < W.length) (h0 : 0 < i) : W.take i ≠ [] := by
  intro e
  have := congrArg List.length e
  simp only [List.length_take, List.length_nil] at this
  omega
theorem jn_all {W : List (List UInt8)} {i : Nat} (h : i < W.length) : jnB (W.take (i + 1)) = if i = 0 then W[i] else jnB (W.take i) ++ [32] ++ W[i] := by
  rw [List.take_succ_eq_append_getElem h, jnB_snoc]
  by_cases h0 : i = 0
  · subst h0; simp
  · rw [if_neg (take_ne h (by omega)), if_neg h0]; simp
end Go.Proofs.YtgbhjlkenfmadaaGreatDoor
