/- The walk of the reference's check of a list of ready processes, and of its comparison of schedules. -/
import Derived.Test.YtdjclejjabpdcaaSchedA
namespace Go.Proofs.Ytdjclejjabpdcaa
open Go.RowKit
set_option linter.unusedVariables false
set_option linter.unusedSimpArgs false
def rightInv (R : List Int) (k : Nat) : Prop := (k = 0) ∨ ∃ p, R[k - 1]? = some p ∧ 1 ≤ p ∧ rightB R = incB p (R.drop k)
theorem right_any (A : Option Addr) (n c : Nat) (R : List Int) (w : World) (hR : Reads w 1 A n c (R.map (Value.int .i64))) :
    Calls Try.prog 19 #[.slice A n c] w fun e w' => e = .returned (.bool (rightB R)) ∧ ∃ m, w' = w.drewN m := by
  have HL := Lib.hid hR.len_int
  have hcm := hR.le63
  go_enter Try.func19, Try.ntmps19
  go_wp2
  go_loopw [3] (fun i wr => ∃ k m : Nat, k ≤ n ∧ i = .int .i64 k ∧ Hid (rightInv R k) ∧ wr = w.drewN m) (fun i _ => n - (intOf i).toNat)
  case atStart => exact ⟨0, 0, by omega, rfl, .inl rfl, rfl⟩
  case round =>
    obtain ⟨k, m, hk, rfl, HF, rfl⟩ := hrel
    by_cases hkn : k < n
    · obtain ⟨b, off, x, rfl, hb, hx, hc⟩ := hR.ints hkn
      rcases Nat.eq_zero_or_pos k with h0 | h0
      · subst h0
        simp only [Nat.add_zero] at hc
        by_cases h1 : x < 1
        · go_wp2
          go_quiet (fail)
          go_wp2
          go_ret
          refine ⟨ret_bool ?_, m + nq, by rw [World.drewN_drewN]⟩
          have := hx.out
          cases R with
          | nil => simp at this
          | cons a R => simp at this; subst this; simp [rightB]; omega
        · have h1' : decide (x < 1) = false := by simpa using h1
          go_wp2
          go_quiet (fail)
          go_wp2
          go_roundw
          case rel =>
            refine ⟨1, _, by omega, by go_num, .inr ⟨x, hx.out, by omega, ?_⟩, rfl⟩
            have := hx.out
            cases R with
            | nil => simp at this
            | cons a R => simp at this; subst this; simp [rightB]; omega
          case measure => simp [intOf]; omega
      · obtain ⟨b', off', y, hbe, hb', hy, hc'⟩ := hR.ints (k := k - 1) (by omega)
        injection hbe with hbe; injection hbe with e1 e2
        subst e1; subst e2
        have hk0 : decide (0 < k) = true := by simpa using h0
        have hki : decide (0 < (k : Int)) = true := by simp; omega
        have e3 : ((k : Int) - 1).toNat = k - 1 := by omega
        have h0' : (0 : Int) ≤ (k : Int) - 1 := by omega
        have h0'' : (k : Int) - 1 < n := by omega
        by_cases h1 : x < 1
        · go_wp2
          go_quiet (fail)
          go_wp2
          go_ret
          refine ⟨ret_bool ?_, m + nq, by rw [World.drewN_drewN]⟩
          rcases HF.out with h | ⟨p, hp, h1p, hr⟩
          · omega
          · rw [hr, drop_at hx.out]; simp [incB]; omega
        · have h1' : decide (x < 1) = false := by simpa using h1
          by_cases h2 : x ≤ y
          · go_wp2
            go_quiet (fail)
            go_wp2
            go_ret
            refine ⟨ret_bool ?_, m + nq, by rw [World.drewN_drewN]⟩
            rcases HF.out with h | ⟨p, hp, h1p, hr⟩
            · omega
            · rw [hy.out] at hp; cases hp; rw [hr, drop_at hx.out]; simp [incB]; omega
          · have h2' : decide (x ≤ y) = false := by simpa using h2
            go_wp2
            go_quiet (fail)
            go_wp2
            go_roundw
            case rel =>
              refine ⟨k + 1, _, by omega, by go_num, .inr ⟨x, hx.out, by omega, ?_⟩, rfl⟩
              rcases HF.out with h | ⟨p, hp, h1p, hr⟩
              · omega
              · rw [hy.out] at hp; cases hp; rw [hr, drop_at hx.out]; simp [incB]; omega
            case measure => simp [intOf]; omega
    · obtain rfl : k = n := by omega
      rcases Nat.eq_zero_or_pos k with h0 | h0
      · have HR : Hid (R = []) := List.eq_nil_of_length_eq_zero (by rw [HL.out]; exact h0)
        subst h0
        go_wp2
        go_ret
        exact ⟨ret_bool (by rw [HR.out]; rfl), _, rfl⟩
      · have h1 : decide (0 < k) = true := by simpa using h0
        go_wp2
        go_ret
        refine ⟨ret_bool ?_, _, rfl⟩
        rcases HF.out with h | ⟨p, hp, h1p, hr⟩
        · omega
        · rw [hr, List.drop_eq_nil_of_le (by rw [HL.out]; omega)]; simp [incB]
def sameF (k t sd : Int) (L : List Int) (k' t' sd' : Int) (L' : List Int) : Bool := decide (k = k' ∧ t = t' ∧ sd = sd' ∧ L = L')
theorem same_any (k t sd : Int) (A : Option Addr) (n c : Nat) (L : List Int) (k' t' sd' : Int) (A' : Option Addr) (n' c' : Nat) (L' : List Int) (w : World)
    (hL : Reads w 1 A n c (L.map (Value.int .i64))) (hL' : Reads w 1 A' n' c' (L'.map (Value.int .i64))) :
    Calls Try.prog 14 #[.agg #[.int .i64 k, .int .i64 t, .int .u64 sd, .slice A n c], .agg #[.int .i64 k', .int .i64 t', .int .u64 sd', .slice A' n' c']] w fun e w' => e = .returned (.bool (sameF k t sd L k' t' sd' L')) ∧ Below w.heap.size w w' := by
  have HL := Lib.hid hL.len_int
  have HL' := Lib.hid hL'.len_int
  have hcm := hL.le63
  have hcm' := hL'.le63
  by_cases h : k = k' ∧ t = t' ∧ sd = sd' ∧ n = n'
  · obtain ⟨rfl, rfl, rfl, rfl⟩ := h
    go_enter Try.func14, Try.ntmps14
    go_wp2
    go_loopw [5] (fun i wr => ∃ k1 m : Nat, k1 ≤ n ∧ i = .int .i64 k1 ∧ Hid (sameF k t sd L k t sd L' = decide (L.drop k1 = L'.drop k1)) ∧ wr = ((w.alloc (.cells #[.int .i64 k, .int .i64 t, .int .u64 sd, .slice A n c] 25)).alloc (.cells #[.int .i64 k, .int .i64 t, .int .u64 sd, .slice A' n c'] 25)).drewN m) (fun i _ => n - (intOf i).toNat)
    case atStart => exact ⟨0, 0, by omega, rfl, by simp [Hid, sameF], rfl⟩
    case round =>
      obtain ⟨k1, m, hk, rfl, HF, rfl⟩ := hrel
      by_cases hkn : k1 < n
      · obtain ⟨b, off, x, rfl, hb, hx, hc⟩ := hL.ints hkn
        obtain ⟨b', off', x', rfl, hb', hx', hc'⟩ := hL'.ints hkn
        by_cases he : x = x'
        · have he' : (x != x') = false := by simp [he]
          have HE := Lib.hid he
          clear he
          go_wp2
          go_quiet (fail)
          go_wp2
          go_roundw
          case rel =>
            refine ⟨k1 + 1, _, by omega, by go_num, ?_, rfl⟩
            show _ = _
            rw [HF.out, drop_at hx.out, drop_at hx'.out, HE.out]
            simp
          case measure => simp [intOf]; omega
        · have he' : (x != x') = true := by simp [he]
          have HE := Lib.hid he
          clear he
          go_wp2
          go_quiet (fail)
          go_wp2
          go_ret
          refine ⟨ret_bool ?_, below_drewN (below_drewN (((Below.refl _ _).alloc (Nat.le_refl _) _).alloc (by simp) _) _) _⟩
          rw [HF.out, drop_at hx.out, drop_at hx'.out]
          have := HE.out
          simp [this]
      · go_wp2
        go_ret
        refine ⟨ret_bool ?_, below_drewN (((Below.refl _ _).alloc (Nat.le_refl _) _).alloc (by simp) _) _⟩
        rw [HF.out, List.drop_eq_nil_of_le (by rw [HL.out]; omega), List.drop_eq_nil_of_le (by rw [HL'.out]; omega)]
        simp
  · have hf : sameF k t sd L k' t' sd' L' = false := by
      unfold sameF
      simp only [decide_eq_false_iff_not]
      rintro ⟨h1, h2, h3, h4⟩
      exact h ⟨h1, h2, h3, by rw [← HL.out, ← HL'.out, h4]⟩
    have HF := Lib.hid hf
    clear hf
    have HN := Lib.hid h
    clear h
    go_enter Try.func14, Try.ntmps14
    go_wp2
    all_goals first
      | (go_ret; exact ⟨ret_bool HF.out.symm, ((Below.refl _ _).alloc (Nat.le_refl _) _).alloc (by simp) _⟩)
      | (exfalso; refine HN.out ⟨‹_›, ‹_›, ‹_›, ?_⟩; have hq : ((n : Int) != (n' : Int)) = false := ‹_›; simp at hq; omega)
end Go.Proofs.Ytdjclejjabpdcaa
