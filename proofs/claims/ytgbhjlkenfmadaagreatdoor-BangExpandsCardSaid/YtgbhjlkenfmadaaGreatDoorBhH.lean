/- The document's bang: modified, on the abstract machine. -/
import Derived.Test.YtgbhjlkenfmadaaGreatDoorBhG
import Derived.Test.YtgbhjlkenfmadaaGreatDoorBgN
namespace Go.Proofs.YtgbhjlkenfmadaaGreatDoor
open Go.RowKit
set_option linter.unusedVariables false
set_option linter.unusedSimpArgs false
set_option maxRecDepth 100000
set_option maxHeartbeats 16000000
theorem rmodified_ab (t0 s : List UInt8) (i0 : Nat) (z : Int) (hz : z = i0) (hi : i0 ≤ s.length) (hs : s.length ≤ 4096) (ht : t0.length ≤ 17000000) :
    Ab Tryz.prog 48 [az t0, az s, ai z] (.tp [az (modT s t0 i0 false).1, ai ((modT s t0 i0 false).2.1 : Nat), ab (modT s t0 i0 false).2.2.1, ai (modT s t0 i0 false).2.2.2]) := by
  subst hz
  unfold modT
  generalize hR0 : modF s (s.length + 1) t0 i0 false = R
  refine Fn_of_aw (keep := []) Tryz.func48 rfl rfl (by simp [Tryz.ntmps48]) ?_
  simp only [num_cons, num_nil, Tryz.ntmps48, Tryz.results48]
  repeat' (first
 | ((with_reducible apply awO_ev); (· rfl); (· exact sv))
 | ((with_reducible apply aw_seq); intro _ _)
 | (with_reducible apply aw_region)
 | (with_reducible apply aw_block)
 | ((with_reducible first | apply awO_nil | apply aw_exit | apply aw_skip | apply aw_ret); (try simp only [CT, ↓reduceIte, Nat.reduceEqDiff]))
 | (refine Kont.go ‹Kont _ _ _ _› _ ?_))
  refine aw_loopF (fun x : Nat × List UInt8 × Nat × Bool => [(0, az x.2.1), (2, ai (x.2.2.1 : Nat)), (10, ab x.2.2.2)]) (fun _ => []) (fun x => x.2.2.1 ≤ s.length ∧ x.2.1.length ≤ 17000000 ∧ s.length - x.2.2.1 < x.1 ∧ R = modF s x.1 x.2.1 x.2.2.1 x.2.2.2) (fun x => x.1) (s.length + 1, t0, i0, false) ⟨hi, ht, by simp only; omega, hR0.symm⟩ ?_ ?_ ?_
  · exact ⟨rfl, rfl, rfl, trivial⟩
  · exact trivial
  rintro ⟨n, t, i, h⟩ ⟨hi, ht, hn, hR⟩
  simp only at hi ht hn hR
  obtain ⟨n, rfl⟩ : ∃ k, n = k + 1 := ⟨n - 1, by omega⟩
  clear hR0
  (simp only [LP, List.append_assoc, List.nil_append, List.cons_append, List.append_nil, List.contains_cons, List.contains_nil, Nat.reduceBEq, Bool.or_false, Bool.or_true, Bool.true_or, Bool.false_or, ↓reduceIte, Bool.false_eq_true])
  have c1 := rat_ab s i i rfl (by omega)
  rw [modF] at hR
  by_cases h0 : atB s i ≠ 58
  · rw [if_pos h0] at hR
    have k0 : ¬ (atB s i).toNat = 58 := fun k => h0 ((u8n 58 rfl).2 k)
    repeat' (first
 | ((with_reducible apply awO_ev); (· rfl); (· exact sv))
 | ((with_reducible apply aw_seq); intro _ _)
 | (with_reducible apply aw_region)
 | ((with_reducible first | apply awO_nil | apply aw_exit | apply aw_skip | apply aw_ret); (try simp only [CT, ↓reduceIte, Nat.reduceEqDiff]))
 | (refine Kont.go ‹Kont _ _ _ _› _ ?_)
 | ((with_reducible apply awO_c); (· rfl); (· rfl); (· exact sv); (· (first | exact c1)); (· rfl); (· rfl); (· rfl); (· decide))
 | ((first | ((with_reducible apply awO_guardN); (· rfl); (· rfl); (· exact sv); (· exact nB)) | ((with_reducible apply aw_condN); (· exact sv))); (· exact pN); (· exact pN); all_goals (intro hg; try (exfalso; omega)))
 | ((with_reducible apply retQ_mk); (· exact rI); (· exact sv); (· exact sv); rotate_left; (· rfl)))
    all_goals first | rfl | (rw [hR]; done) | (rw [hR]; rfl)
  rw [if_neg h0] at hR
  have k0 : (atB s i).toNat = 58 := (u8n 58 rfl).1 (Decidable.not_not.1 h0)
  have hin := at_in (Decidable.not_not.1 h0) (by decide)
  have c2 := fun z hz => rat_ab s (i + 1) z hz (by omega)
  by_cases h1 : atB s (i + 1) = 112
  · rw [if_pos h1] at hR
    have k1 : (atB s (i + 1)).toNat = 112 := (u8n 112 rfl).1 h1
    have hin1 := at_in h1 (by decide)
    repeat' (first
 | ((with_reducible apply awO_ev); (· rfl); (· exact sv))
 | ((with_reducible apply aw_seq); intro _ _)
 | (with_reducible apply aw_region)
 | (with_reducible apply aw_block)
 | ((with_reducible first | apply awO_nil | apply aw_exit | apply aw_skip | apply aw_ret); (try simp only [CT, ↓reduceIte, Nat.reduceEqDiff]))
 | ((with_reducible apply aw_cond_false); (· exact sv))
 | (refine Kont.go ‹Kont _ _ _ _› _ ?_)
 | ((with_reducible apply awO_c); (· rfl); (· rfl); (· exact sv); (· (first | exact c1 | exact c2 _ (by omega))); (· rfl); (· rfl); (· rfl); (· decide))
 | ((first | ((with_reducible apply awO_guardN); (· rfl); (· rfl); (· exact sv); (· exact nB)) | ((with_reducible apply aw_condN); (· exact sv))); (· exact pN); (· exact pN); all_goals (intro hg; try (exfalso; omega))))
    all_goals refine LE_mk (n, t, i + 2, true) ⟨hin1, ht, by simp only; omega, hR⟩ (by simp only; omega) sN sN sN
  rw [if_neg h1] at hR
  have k1 : ¬ (atB s (i + 1)).toNat = 112 := fun k => h1 ((u8n 112 rfl).2 k)
  by_cases h2 : atB s (i + 1) = 104 ∨ atB s (i + 1) = 116 ∨ atB s (i + 1) = 114 ∨ atB s (i + 1) = 101
  · rw [if_pos h2] at hR
    have hin1 : i + 1 < s.length := by rcases h2 with h | h | h | h <;> exact at_in h (by decide)
    have k2 : (atB s (i + 1)).toNat = 104 ∨ (atB s (i + 1)).toNat = 116 ∨ (atB s (i + 1)).toNat = 114 ∨ (atB s (i + 1)).toNat = 101 := by
      rcases h2 with h | h | h | h <;> rw [h] <;> decide
    have k3 : ¬ (atB s (i + 1)).toNat = 115 ∧ ¬ (atB s (i + 1)).toNat = 103 := by omega
    have c3 := rpart_ab t (atB s (i + 1)) (by omega)
    have hpl := parF_len t (atB s (i + 1))
    repeat' (first
 | ((with_reducible apply awO_ev); (· rfl); (· exact sv))
 | ((with_reducible apply aw_seq); intro _ _)
 | (with_reducible apply aw_region)
 | (with_reducible apply aw_block)
 | ((with_reducible first | apply awO_nil | apply aw_exit | apply aw_skip | apply aw_ret); (try simp only [CT, ↓reduceIte, Nat.reduceEqDiff]))
 | ((with_reducible apply awO_y); (· rfl); (· rfl); (· decide); (· exact sv); (· exact sv))
 | ((with_reducible apply awO_n); (· rfl); (· rfl); (· decide); (· exact sv); (· rfl); (· rfl); (· decide))
 | ((with_reducible apply aw_cond_true); (· exact sv))
 | ((with_reducible apply aw_cond_false); (· exact sv))
 | (refine Kont.go ‹Kont _ _ _ _› _ ?_)
 | ((with_reducible apply awO_c); (· rfl); (· rfl); (· exact sv); (· (first | exact c1 | exact c2 _ (by omega) | exact c3)); (· rfl); (· rfl); (· rfl); (· decide))
 | ((first | ((with_reducible apply awO_guardN); (· rfl); (· rfl); (· exact sv); (· exact nB)) | ((with_reducible apply aw_condN); (· exact sv))); (· exact pN); (· exact pN); all_goals (intro hg; try (exfalso; omega))))
    all_goals refine LE_mk (n, parF t (atB s (i + 1)), i + 2, h) ⟨hin1, by simp only; omega, by simp only; omega, hR⟩ (by simp only; omega) sN sN sN
  rw [if_neg h2] at hR
  have k2 : ¬ (atB s (i + 1)).toNat = 104 ∧ ¬ (atB s (i + 1)).toNat = 116 ∧ ¬ (atB s (i + 1)).toNat = 114 ∧ ¬ (atB s (i + 1)).toNat = 101 :=
    ⟨fun k => h2 (.inl ((u8n 104 rfl).2 k)), fun k => h2 (.inr (.inl ((u8n 116 rfl).2 k))), fun k => h2 (.inr (.inr (.inl ((u8n 114 rfl).2 k)))), fun k => h2 (.inr (.inr (.inr ((u8n 101 rfl).2 k))))⟩
  by_cases h5 : atB s (i + 1) = 115
  · have k5 : (atB s (i + 1)).toNat = 115 := (u8n 115 rfl).1 h5
    have h6 : ¬ atB s (i + 1) = 103 := by rw [h5]; decide
    have hin1 := at_in h5 (by decide)
    have hG : mdG s i = false := decide_eq_false h6
    have hJ : mdJ s i = i + 2 := by unfold mdJ; rw [if_neg h6]
    rw [if_pos (.inl h5), hG, hJ] at hR
    obtain ⟨j, c4, hj⟩ := rreplaced_ab t s (i + 2) _ false rfl hin1 hs ht
    have c4 : ∀ z, z = ((i + 2 : Nat) : Int) → Ab Tryz.prog 77 [az t, az s, ai z, ab false] (.tp [az (rplF s t (i + 2) false).1, ai j, ai (rplF s t (i + 2) false).2.2]) := fun z hz => by rw [hz]; exact c4
    have hok := rplF_ok (s := s) (t := t) (i := i + 2) (all := false)
    generalize rplF s t (i + 2) false = q at *
    obtain ⟨qt, qe, qr⟩ := q
    simp only at c4 hj hok hR
    by_cases hq : qr = 0
    · have hj := hj hq
      subst hj
      obtain ⟨g1, g2, g3⟩ := hok hq
      rw [if_neg (by simpa using hq)] at hR
      repeat' (first
 | ((with_reducible apply awO_ev); (· rfl); (· exact sv))
 | ((with_reducible apply aw_seq); intro _ _)
 | (with_reducible apply aw_region)
 | (with_reducible apply aw_block)
 | ((with_reducible first | apply awO_nil | apply aw_exit | apply aw_skip | apply aw_ret); (try simp only [CT, ↓reduceIte, Nat.reduceEqDiff]))
 | (refine Kont.go ‹Kont _ _ _ _› _ ?_)
 | ((with_reducible apply awO_c); (· rfl); (· rfl); (· exact sv); (· (first | exact c1 | exact c2 _ (by omega) | exact c4 _ (by omega))); (· rfl); (· rfl); (· rfl); (· decide))
 | ((first | ((with_reducible apply awO_guardN); (· rfl); (· rfl); (· exact sv); (· exact nB)) | ((with_reducible apply aw_condN); (· exact sv))); (· exact pN); (· exact pN); all_goals (intro hg; try (exfalso; omega))))
      all_goals refine LE_mk (n, qt, qe, h) ⟨g2, by simp only; omega, by simp only; omega, hR⟩ (by simp only; omega) sN sN sN
    · rw [if_pos hq] at hR
      repeat' (first
 | ((with_reducible apply awO_ev); (· rfl); (· exact sv))
 | ((with_reducible apply aw_seq); intro _ _)
 | (with_reducible apply aw_region)
 | (with_reducible apply aw_block)
 | ((with_reducible first | apply awO_nil | apply aw_exit | apply aw_skip | apply aw_ret); (try simp only [CT, ↓reduceIte, Nat.reduceEqDiff]))
 | (refine Kont.go ‹Kont _ _ _ _› _ ?_)
 | ((with_reducible apply awO_c); (· rfl); (· rfl); (· exact sv); (· (first | exact c1 | exact c2 _ (by omega) | exact c4 _ (by omega))); (· rfl); (· rfl); (· rfl); (· decide))
 | ((first | ((with_reducible apply awO_guardN); (· rfl); (· rfl); (· exact sv); (· exact nB)) | ((with_reducible apply aw_condN); (· exact sv))); (· exact pN); (· exact pN); all_goals (intro hg; try (exfalso; omega)))
 | ((with_reducible apply retQ_mk); (· exact rI); (· exact sv); (· exact sv); rotate_left; (· rfl)))
      all_goals first | rfl | (rw [hR]; done) | (rw [hR]; rfl)
  have k5 : ¬ (atB s (i + 1)).toNat = 115 := fun k => h5 ((u8n 115 rfl).2 k)
  have c5 := fun z hz => rat_ab s (i + 2) z hz (by omega)
  by_cases h6 : atB s (i + 1) = 103 ∧ atB s (i + 2) = 115
  · have k6 : (atB s (i + 1)).toNat = 103 := (u8n 103 rfl).1 h6.1
    have k7 : (atB s (i + 2)).toNat = 115 := (u8n 115 rfl).1 h6.2
    have hin2 := at_in h6.2 (by decide)
    have hG : mdG s i = true := decide_eq_true h6.1
    have hJ : mdJ s i = i + 3 := by unfold mdJ; rw [if_pos h6.1]
    rw [if_pos (.inr h6), hG, hJ] at hR
    obtain ⟨j, c4, hj⟩ := rreplaced_ab t s (i + 3) _ true rfl hin2 hs ht
    have c4 : ∀ z, z = ((i + 3 : Nat) : Int) → Ab Tryz.prog 77 [az t, az s, ai z, ab true] (.tp [az (rplF s t (i + 3) true).1, ai j, ai (rplF s t (i + 3) true).2.2]) := fun z hz => by rw [hz]; exact c4
    have hok := rplF_ok (s := s) (t := t) (i := i + 3) (all := true)
    generalize rplF s t (i + 3) true = q at *
    obtain ⟨qt, qe, qr⟩ := q
    simp only at c4 hj hok hR
    by_cases hq : qr = 0
    · have hj := hj hq
      subst hj
      obtain ⟨g1, g2, g3⟩ := hok hq
      rw [if_neg (by simpa using hq)] at hR
      repeat' (first
 | ((with_reducible apply awO_ev); (· rfl); (· exact sv))
 | ((with_reducible apply aw_seq); intro _ _)
 | (with_reducible apply aw_region)
 | (with_reducible apply aw_block)
 | ((with_reducible first | apply awO_nil | apply aw_exit | apply aw_skip | apply aw_ret); (try simp only [CT, ↓reduceIte, Nat.reduceEqDiff]))
 | ((with_reducible apply awO_y); (· rfl); (· rfl); (· decide); (· exact sv); (· exact sv))
 | ((with_reducible apply awO_un); (· rfl); (· decide); (· exact sv))
 | (refine Kont.go ‹Kont _ _ _ _› _ ?_)
 | ((with_reducible apply awO_c); (· rfl); (· rfl); (· exact sv); (· (first | exact c1 | exact c2 _ (by omega) | exact c5 _ (by omega) | exact c4 _ (by omega))); (· rfl); (· rfl); (· rfl); (· decide))
 | ((first | ((with_reducible apply awO_guardN); (· rfl); (· rfl); (· exact sv); (· exact nB)) | ((with_reducible apply aw_condN); (· exact sv))); (· exact pN); (· exact pN); all_goals (intro hg; try (exfalso; omega))))
      all_goals refine LE_mk (n, qt, qe, h) ⟨g2, by simp only; omega, by simp only; omega, hR⟩ (by simp only; omega) sN sN sN
    · rw [if_pos hq] at hR
      repeat' (first
 | ((with_reducible apply awO_ev); (· rfl); (· exact sv))
 | ((with_reducible apply aw_seq); intro _ _)
 | (with_reducible apply aw_region)
 | (with_reducible apply aw_block)
 | ((with_reducible first | apply awO_nil | apply aw_exit | apply aw_skip | apply aw_ret); (try simp only [CT, ↓reduceIte, Nat.reduceEqDiff]))
 | ((with_reducible apply awO_y); (· rfl); (· rfl); (· decide); (· exact sv); (· exact sv))
 | ((with_reducible apply awO_un); (· rfl); (· decide); (· exact sv))
 | (refine Kont.go ‹Kont _ _ _ _› _ ?_)
 | ((with_reducible apply awO_c); (· rfl); (· rfl); (· exact sv); (· (first | exact c1 | exact c2 _ (by omega) | exact c5 _ (by omega) | exact c4 _ (by omega))); (· rfl); (· rfl); (· rfl); (· decide))
 | ((first | ((with_reducible apply awO_guardN); (· rfl); (· rfl); (· exact sv); (· exact nB)) | ((with_reducible apply aw_condN); (· exact sv))); (· exact pN); (· exact pN); all_goals (intro hg; try (exfalso; omega)))
 | ((with_reducible apply retQ_mk); (· exact rI); (· exact sv); (· exact sv); rotate_left; (· rfl)))
      all_goals first | rfl | (rw [hR]; done) | (rw [hR]; rfl)
  rw [if_neg (by intro hh; rcases hh with hh | hh; exact h5 hh; exact h6 hh)] at hR
  by_cases k6 : (atB s (i + 1)).toNat = 103
  · have k7 : ¬ (atB s (i + 2)).toNat = 115 := fun k => h6 ⟨(u8n 103 rfl).2 k6, (u8n 115 rfl).2 k⟩
    repeat' (first
 | ((with_reducible apply awO_ev); (· rfl); (· exact sv))
 | ((with_reducible apply aw_seq); intro _ _)
 | (with_reducible apply aw_region)
 | (with_reducible apply aw_block)
 | ((with_reducible first | apply awO_nil | apply aw_exit | apply aw_skip | apply aw_ret); (try simp only [CT, ↓reduceIte, Nat.reduceEqDiff]))
 | ((with_reducible apply awO_y); (· rfl); (· rfl); (· decide); (· exact sv); (· exact sv))
 | ((with_reducible apply aw_cond_true); (· exact sv))
 | ((with_reducible apply awO_un); (· rfl); (· decide); (· exact sv))
 | (refine Kont.go ‹Kont _ _ _ _› _ ?_)
 | ((with_reducible apply awO_c); (· rfl); (· rfl); (· exact sv); (· (first | exact c1 | exact c2 _ (by omega) | exact c5 _ (by omega))); (· rfl); (· rfl); (· rfl); (· decide))
 | ((first | ((with_reducible apply awO_guardN); (· rfl); (· rfl); (· exact sv); (· exact nB)) | ((with_reducible apply aw_condN); (· exact sv))); (· exact pN); (· exact pN); all_goals (intro hg; try (exfalso; omega)))
 | ((with_reducible apply retQ_mk); (· exact rI); (· exact sv); (· exact sv); rotate_left; (· rfl)))
    all_goals first | rfl | (rw [hR]; done) | (rw [hR]; rfl)
  · skip
    repeat' (first
 | ((with_reducible apply awO_ev); (· rfl); (· exact sv))
 | ((with_reducible apply aw_seq); intro _ _)
 | (with_reducible apply aw_region)
 | (with_reducible apply aw_block)
 | ((with_reducible first | apply awO_nil | apply aw_exit | apply aw_skip | apply aw_ret); (try simp only [CT, ↓reduceIte, Nat.reduceEqDiff]))
 | ((with_reducible apply awO_y); (· rfl); (· rfl); (· decide); (· exact sv); (· exact sv))
 | ((with_reducible apply awO_n); (· rfl); (· rfl); (· decide); (· exact sv); (· rfl); (· rfl); (· decide))
 | ((with_reducible apply aw_cond_true); (· exact sv))
 | ((with_reducible apply aw_cond_false); (· exact sv))
 | (refine Kont.go ‹Kont _ _ _ _› _ ?_)
 | ((with_reducible apply awO_c); (· rfl); (· rfl); (· exact sv); (· (first | exact c1 | exact c2 _ (by omega) | exact c5 _ (by omega))); (· rfl); (· rfl); (· rfl); (· decide))
 | ((first | ((with_reducible apply awO_guardN); (· rfl); (· rfl); (· exact sv); (· exact nB)) | ((with_reducible apply aw_condN); (· exact sv))); (· exact pN); (· exact pN); all_goals (intro hg; try (exfalso; omega)))
 | ((with_reducible apply retQ_mk); (· exact rI); (· exact sv); (· exact sv); rotate_left; (· rfl)))
    all_goals first | rfl | (rw [hR]; done) | (rw [hR]; rfl)
end Go.Proofs.YtgbhjlkenfmadaaGreatDoor
