/- Patterns: the first and the last length, plain. No program is named here. -/
import Derived.Test.YtllhcgfdjfmmeaaPtA
namespace Go.Proofs.Ytllhcgfdjfmmeaa
set_option linter.unusedVariables false
set_option linter.unusedSimpArgs false
/-- The first or the last k below n with f k. -/
def scn (f : Nat → Bool) (longest : Bool) : Nat → Option Nat
  | 0 => none
  | n + 1 => if f n = true ∧ (longest = true ∨ scn f longest n = none) then some n else scn f longest n
theorem scn_lt (f : Nat → Bool) (lg : Bool) : ∀ n k, scn f lg n = some k → k < n ∧ f k = true
  | 0, k, h => by simp [scn] at h
  | n + 1, k, h => by
    rw [scn] at h
    split at h
    · next hc => injection h with h; subst h; exact ⟨by omega, hc.1⟩
    · have := scn_lt f lg n k h; exact ⟨by omega, this.2⟩
/-- The shortest one stays. -/
theorem scn_stop (f : Nat → Bool) {n k : Nat} (h : scn f false n = some k) : ∀ m, n ≤ m → scn f false m = some k := by
  intro m hm
  induction m with
  | zero => obtain rfl : n = 0 := by omega
            exact h
  | succ m ih =>
    by_cases e : n = m + 1
    · rw [← e]; exact h
    · have := ih (by omega)
      rw [scn, this, if_neg (by simp)]
/-- No more: it stays. -/
theorem scn_dead (f : Nat → Bool) (lg : Bool) {n : Nat} : ∀ m, n ≤ m → (∀ k, n ≤ k → k < m → f k = false) → scn f lg m = scn f lg n := by
  intro m hm
  induction m with
  | zero => intro _; obtain rfl : n = 0 := by omega
            rfl
  | succ m ih =>
    intro hk
    by_cases e : n = m + 1
    · rw [← e]
    · rw [scn, if_neg (by rw [hk m (by omega) (by omega)]; simp), ih (by omega) (fun k h1 h2 => hk k h1 (by omega))]
theorem scn_congr {f g : Nat → Bool} (lg : Bool) : ∀ n, (∀ k, k < n → f k = g k) → scn f lg n = scn g lg n
  | 0, _ => rfl
  | n + 1, h => by rw [scn, scn, scn_congr lg n (fun k hk => h k (by omega)), h n (by omega)]
/-- Only the last length counts. -/
theorem scn_last (f : Nat → Bool) (n : Nat) : scn (fun k => f k && decide (n ≤ k)) true (n + 1) = if f n = true then some n else none := by
  have h0 : scn (fun k => f k && decide (n ≤ k)) true n = none := by
    have := scn_dead (fun k => f k && decide (n ≤ k)) true (n := 0) n (by omega) (fun k _ hk => by simp; intro _; omega)
    rw [this]; rfl
  rw [scn, h0]
  simp
end Go.Proofs.Ytllhcgfdjfmmeaa
