/- The document's bang: the scan with its cut, and what bang computes. No program is named here. -/
import Derived.Test.YtgbhjlkenfmadaaGreatDoorBgC
namespace Go.Proofs.YtgbhjlkenfmadaaGreatDoor
set_option linter.unusedVariables false
set_option linter.unusedSimpArgs false
/-- A result that is too long is cut. -/
def cutM (o : List UInt8) : List UInt8 := if 4096 < o.length then o.take 4097 else o
/-- The document's scan: n rounds at most, from i on; o is the result so far. -/
def scR (W : List UInt8 → List (List UInt8)) (F : Int) (L : List (List UInt8)) (s : List UInt8) : Nat → Nat → Bool → List UInt8 → Bool → List UInt8 × Bool × Int
  | 0, _, _, o, sh => (o, sh, 0)
  | n + 1, i, d, o, sh =>
    if s.length ≤ i then (o, sh, 0)
    else if atB s i ≠ 33 ∨ plB s i = true then scR W F L s n (kepF s i d).1 (kepF s i d).2 (o ++ (s.drop i).take ((kepF s i d).1 - i)) sh
    else if (evA W F L s (i + 1) false).2.2.2 ≠ 0 then ([], false, (evA W F L s (i + 1) false).2.2.2)
    else scR W F L s n (evA W F L s (i + 1) false).2.1 d (cutM (o ++ (evA W F L s (i + 1) false).1)) (sh || (evA W F L s (i + 1) false).2.2.1)
section
variable {W : List UInt8 → List (List UInt8)} (hW : WOk W) {F : Int} {L : List (List UInt8)} (hL : ∀ l ∈ L, l.length ≤ 4096) {s : List UInt8}
include hW hL
theorem scR_ok : ∀ (n i : Nat) (d : Bool) (o : List UInt8) (sh : Bool), s.length - i < n →
    ((scnT W F L s i d).2.2 = 0 → (scR W F L s n i d o sh).2 = (sh || (scnT W F L s i d).2.1, 0) ∧ ((o ++ (scnT W F L s i d).1).length ≤ 4096 → (scR W F L s n i d o sh).1 = o ++ (scnT W F L s i d).1) ∧ (4096 < (o ++ (scnT W F L s i d).1).length → 4096 < (scR W F L s n i d o sh).1.length)) ∧
    ((scnT W F L s i d).2.2 ≠ 0 → scR W F L s n i d o sh = ([], false, (scnT W F L s i d).2.2)) := by
  intro n
  induction n with
  | zero => intro i d o sh h; omega
  | succ n ih =>
    intro i d o sh h
    rw [scR]
    by_cases h0 : s.length ≤ i
    · rw [if_pos h0, scnT_end h0]
      exact ⟨fun _ => ⟨by simp, fun _ => by simp, fun h => by simpa using h⟩, fun h => absurd rfl h⟩
    rw [if_neg h0]
    by_cases h1 : atB s i ≠ 33 ∨ plB s i = true
    · have hk := kepF_ok (s := s) (i := i) (d := d) (by omega)
      rw [if_pos h1, scnT_keep hW hL (by omega) h1]
      have := ih (kepF s i d).1 (kepF s i d).2 (o ++ (s.drop i).take ((kepF s i d).1 - i)) sh (by omega)
      rw [List.drop_take]
      generalize scnT W F L s (kepF s i d).1 (kepF s i d).2 = r at *
      unfold fnx
      by_cases hr : r.2.2 = 0
      · rw [if_pos hr]
        obtain ⟨a1, a2, a3⟩ := this.1 hr
        rw [List.append_assoc] at a2 a3
        exact ⟨fun _ => ⟨by rw [a1]; simp, a2, a3⟩, fun h => absurd rfl h⟩
      · rw [if_neg hr]
        exact ⟨fun h => absurd h hr, fun h => this.2 hr⟩
    · rw [if_neg h1]
      simp only [not_or, Decidable.not_not, Bool.not_eq_true] at h1
      by_cases h3 : (evA W F L s (i + 1) false).2.2.2 = 0
      · have hk := evA_ok hW hL (F := F) (s := s) (a := i + 1) (sh := false) (by omega) h3
        rw [if_neg (by simpa using h3), scnT_ev hW hL (by omega) h1.1 h1.2 h3]
        have := ih (evA W F L s (i + 1) false).2.1 d (cutM (o ++ (evA W F L s (i + 1) false).1)) (sh || (evA W F L s (i + 1) false).2.2.1) (by omega)
        generalize scnT W F L s (evA W F L s (i + 1) false).2.1 d = r at *
        generalize evA W F L s (i + 1) false = q at *
        unfold fnx
        by_cases hr : r.2.2 = 0
        · rw [if_pos hr]
          obtain ⟨a1, a2, a3⟩ := this.1 hr
          refine ⟨fun _ => ⟨by rw [a1, Bool.or_assoc], fun h => ?_, fun h => ?_⟩, fun h => absurd rfl h⟩
          · simp only at h ⊢
            have hc : cutM (o ++ q.1) = o ++ q.1 := by
              unfold cutM
              rw [if_neg]
              simp only [List.length_append] at h ⊢
              omega
            rw [hc, List.append_assoc] at a2
            rw [hc]
            exact a2 h
          · simp only at h
            refine a3 ?_
            unfold cutM
            split
            · simp only [List.length_append, List.length_take] at *
              omega
            · rw [List.append_assoc]; exact h
        · rw [if_neg hr]
          exact ⟨fun h => absurd h hr, fun h => this.2 hr⟩
      · rw [if_pos h3, scnT_err (by omega) h1.1 h1.2 h3]
        exact ⟨fun h => absurd h h3, fun _ => rfl⟩
end
end Go.Proofs.YtgbhjlkenfmadaaGreatDoor
