/- bang: modify, on the abstract machine. -/
import Derived.Test.YtgbhjlkenfmadaaGreatDoorBgL
import Derived.Test.YtgbhjlkenfmadaaGreatDoorBgD
namespace Go.Proofs.YtgbhjlkenfmadaaGreatDoor
open Go.RowKit
set_option linter.unusedVariables false
set_option linter.unusedSimpArgs false
set_option maxRecDepth 100000
set_option maxHeartbeats 8000000
/-- Whether the line is only shown, behind the modifiers, whatever they end in. -/
def modB (s : List UInt8) : Nat → List UInt8 → Nat → Bool → Bool
  | 0, t, i, sh => sh
  | n + 1, t, i, sh =>
    if atB s i ≠ 58 then sh
    else if atB s (i + 1) = 112 then modB s n t (i + 2) true
    else if atB s (i + 1) = 104 ∨ atB s (i + 1) = 116 ∨ atB s (i + 1) = 114 ∨ atB s (i + 1) = 101 then modB s n (parF t (atB s (i + 1))) (i + 2) sh
    else if atB s (i + 1) = 115 ∨ (atB s (i + 1) = 103 ∧ atB s (i + 2) = 115) then
      if (rplF s t (mdJ s i) (mdG s i)).2.2 ≠ 0 then sh
      else modB s n (rplF s t (mdJ s i) (mdG s i)).1 (rplF s t (mdJ s i) (mdG s i)).2.1 sh
    else sh
theorem modB_ok (s : List UInt8) : ∀ (n : Nat) (t : List UInt8) (i : Nat) (sh : Bool), (modF s n t i sh).2.2.2 = 0 → modB s n t i sh = (modF s n t i sh).2.2.1 := by
  intro n
  induction n with
  | zero => intro t i sh _; rfl
  | succ n ih =>
    intro t i sh h
    rw [modF] at h ⊢
    rw [modB]
    split
    · rfl
    next h0 =>
    rw [if_neg h0] at h
    split
    · next h1 => rw [if_pos h1] at h; exact ih _ _ _ h
    next h1 =>
    rw [if_neg h1] at h
    split
    · next h2 => rw [if_pos h2] at h; exact ih _ _ _ h
    next h2 =>
    rw [if_neg h2] at h
    split
    · next h3 =>
      rw [if_pos h3] at h
      split
      · next h4 => rw [if_pos h4] at h; exact absurd h h4
      · next h4 => rw [if_neg h4] at h; exact ih _ _ _ h
    · next h3 => rw [if_neg h3] at h; cases h
theorem u8n {a : UInt8} {n : Nat} (c : UInt8) (hc : c.toNat = n) : a = c ↔ a.toNat = n := ⟨fun h => by rw [h, hc], fun h => UInt8.toNat_inj.1 (by omega)⟩
section
variable (F : Int) (L : List (List UInt8)) (s : List UInt8)
theorem modify_fn (t0 : List UInt8) (i0 : Nat) (z : Int) (sh : Bool) (hz : z = i0) (hi : i0 ≤ s.length) (hs : s.length ≤ 4096) (ht : t0.length ≤ 17000000) :
    Fn Tryz.prog 68 [.pt 7 0, az t0, ai z] (xH F L s sh) (.tp [az (modT s t0 i0 sh).1, ai ((modT s t0 i0 sh).2.1 : Nat), ai (modT s t0 i0 sh).2.2.2]) (xH F L s (modB s (s.length + 1) t0 i0 sh)) [7] := by
  subst hz
  unfold modT
  generalize hR0 : modF s (s.length + 1) t0 i0 sh = R
  generalize hB0 : modB s (s.length + 1) t0 i0 sh = B
  refine Fn_of_aw (keep := [7]) Tryz.func68 rfl rfl (by simp [Tryz.ntmps68]) ?_
  simp only [num_cons, num_nil, Tryz.ntmps68, Tryz.results68]
  repeat' (first
 | ((with_reducible apply awO_ev); (· rfl); (· exact sv))
 | ((with_reducible apply aw_seq); intro _ _)
 | (with_reducible apply aw_region)
 | (with_reducible apply aw_block)
 | ((with_reducible first | apply awO_nil | apply aw_exit | apply aw_skip | apply aw_ret); (try simp only [CT, ↓reduceIte, Nat.reduceEqDiff]))
 | (refine Kont.go ‹Kont _ _ _ _› _ ?_))
  refine aw_loopF (fun x : Nat × List UInt8 × Nat × Bool => [(1, az x.2.1), (2, ai (x.2.2.1 : Nat))]) (fun x => xH F L s x.2.2.2) (fun x => x.2.2.1 ≤ s.length ∧ x.2.1.length ≤ 17000000 ∧ s.length - x.2.2.1 < x.1 ∧ R = modF s x.1 x.2.1 x.2.2.1 x.2.2.2 ∧ B = modB s x.1 x.2.1 x.2.2.1 x.2.2.2) (fun x => x.1) (s.length + 1, t0, i0, sh) ⟨hi, ht, by simp only; omega, hR0.symm, hB0.symm⟩ ?_ ?_ ?_
  · exact ⟨rfl, rfl, trivial⟩
  · exact ⟨rfl, trivial⟩
  rintro ⟨n, t, i, h⟩ ⟨hi, ht, hn, hR, hB⟩
  simp only at hi ht hn hR hB
  obtain ⟨n, rfl⟩ : ∃ k, n = k + 1 := ⟨n - 1, by omega⟩
  clear hR0 hB0
  (simp only [LP, List.append_assoc, List.nil_append, List.cons_append, List.append_nil, List.contains_cons, List.contains_nil, Nat.reduceBEq, Bool.or_false, Bool.or_true, Bool.true_or, Bool.false_or, ↓reduceIte, Bool.false_eq_true])
  have c1 := at_fn F L s h i i rfl
  rw [modF] at hR
  rw [modB] at hB
  by_cases h0 : atB s i ≠ 58
  · rw [if_pos h0] at hR hB
    have k0 : ¬ (atB s i).toNat = 58 := fun k => h0 ((u8n 58 rfl).2 k)
    repeat' (first
 | ((with_reducible apply awO_ev); (· rfl); (· exact sv))
 | ((with_reducible apply aw_seq); intro _ _)
 | (with_reducible apply aw_region)
 | ((with_reducible first | apply awO_nil | apply aw_exit | apply aw_skip | apply aw_ret); (try simp only [CT, ↓reduceIte, Nat.reduceEqDiff]))
 | (refine Kont.go ‹Kont _ _ _ _› _ ?_)
 | ((with_reducible apply awO_m); (· rfl); (· rfl); (· exact sv); (· (first | exact c1)); (· exact svq); (· exact svq); (· exact svq); (· exact svq); (· rfl); (· exact nd); (with_reducible apply awO_st); (· exact svs))
 | ((first | ((with_reducible apply awO_guardN); (· rfl); (· rfl); (· exact sv); (· exact nB)) | ((with_reducible apply aw_condN); (· exact sv))); (· exact pN); (· exact pN); all_goals (intro hg; try (exfalso; omega)))
 | ((try with_reducible apply wk_id); (with_reducible apply retQ_mk1); (· exact rI); (· exact sv); (· exact sv); (· exact sv); (· exact sv); rotate_left; rotate_left; (· simp); (· rfl)))
    all_goals first | rfl | (rw [hR]; done) | (rw [hR]; rfl) | (rw [hB]; done) | (rw [hB]; rfl)
  rw [if_neg h0] at hR hB
  have k0 : (atB s i).toNat = 58 := (u8n 58 rfl).1 (Decidable.not_not.1 h0)
  have hin := at_in (Decidable.not_not.1 h0) (by decide)
  have c2 := fun z hz => at_fn F L s h (i + 1) z hz
  by_cases h1 : atB s (i + 1) = 112
  · rw [if_pos h1] at hR hB
    have k1 : (atB s (i + 1)).toNat = 112 := (u8n 112 rfl).1 h1
    have hin1 := at_in h1 (by decide)
    repeat' (first
 | ((with_reducible apply awO_ev); (· rfl); (· exact sv))
 | ((with_reducible apply aw_seq); intro _ _)
 | (with_reducible apply aw_region)
 | (with_reducible apply aw_block)
 | ((with_reducible first | apply awO_nil | apply aw_exit | apply aw_skip | apply aw_ret); (try simp only [CT, ↓reduceIte, Nat.reduceEqDiff]))
 | (refine Kont.go ‹Kont _ _ _ _› _ ?_)
 | ((with_reducible apply awO_m); (· rfl); (· rfl); (· exact sv); (· (first | exact c1 | exact c2 _ (by omega))); (· exact svq); (· exact svq); (· exact svq); (· exact svq); (· rfl); (· exact nd); (with_reducible apply awO_st); (· exact svs))
 | ((first | ((with_reducible apply awO_guardN); (· rfl); (· rfl); (· exact sv); (· exact nB)) | ((with_reducible apply aw_condN); (· exact sv))); (· exact pN); (· exact pN); all_goals (intro hg; try (exfalso; omega))))
    refine LE_mk (n, t, i + 2, true) ⟨hin1, ht, by simp only; omega, hR, hB⟩ (by simp only; omega) sN sN ⟨rfl, trivial⟩
  rw [if_neg h1] at hR hB
  have k1 : ¬ (atB s (i + 1)).toNat = 112 := fun k => h1 ((u8n 112 rfl).2 k)
  by_cases h2 : atB s (i + 1) = 104 ∨ atB s (i + 1) = 116 ∨ atB s (i + 1) = 114 ∨ atB s (i + 1) = 101
  · rw [if_pos h2] at hR hB
    have hin1 : i + 1 < s.length := by rcases h2 with h | h | h | h <;> exact at_in h (by decide)
    have k2 : (atB s (i + 1)).toNat = 104 ∨ (atB s (i + 1)).toNat = 116 ∨ (atB s (i + 1)).toNat = 114 ∨ (atB s (i + 1)).toNat = 101 := by
      rcases h2 with h | h | h | h <;> rw [h] <;> decide
    have c3 := part_ab t s[i + 1] (by omega)
    rw [atB_lt hin1] at hR hB
    have hpl := parF_len t s[i + 1]
    repeat' (first
 | ((with_reducible apply awO_ev); (· rfl); (· exact sv))
 | ((with_reducible apply aw_seq); intro _ _)
 | (with_reducible apply aw_region)
 | (with_reducible apply aw_block)
 | ((with_reducible first | apply awO_nil | apply aw_exit | apply aw_skip | apply aw_ret); (try simp only [CT, ↓reduceIte, Nat.reduceEqDiff]))
 | (refine Kont.go ‹Kont _ _ _ _› _ ?_)
 | ((with_reducible apply awO_c); (· rfl); (· rfl); (· exact sv); (· (first | exact c1 | exact c2 _ (by omega) | exact c3)); (· rfl); (· rfl); (· rfl); (· decide))
 | ((with_reducible apply awO_m); (· rfl); (· rfl); (· exact sv); (· (first | exact c1 | exact c2 _ (by omega) | exact c3)); (· exact svq); (· exact svq); (· exact svq); (· exact svq); (· rfl); (· exact nd); (with_reducible apply awO_st); (· exact svs))
 | ((first | ((with_reducible apply awO_guardN); (· rfl); (· rfl); (· exact sv); (· exact nB)) | ((with_reducible apply aw_condN); (· exact sv))); (· exact pN); (· exact pN); all_goals (intro hg; try (exfalso; omega))))
    all_goals refine LE_mk (n, parF t s[i + 1], i + 2, h) ⟨hin1, by simp only; omega, by simp only; omega, hR, hB⟩ (by simp only; omega) sN sN ⟨rfl, trivial⟩
  rw [if_neg h2] at hR hB
  have k2 : ¬ (atB s (i + 1)).toNat = 104 ∧ ¬ (atB s (i + 1)).toNat = 116 ∧ ¬ (atB s (i + 1)).toNat = 114 ∧ ¬ (atB s (i + 1)).toNat = 101 :=
    ⟨fun k => h2 (.inl ((u8n 104 rfl).2 k)), fun k => h2 (.inr (.inl ((u8n 116 rfl).2 k))), fun k => h2 (.inr (.inr (.inl ((u8n 114 rfl).2 k)))), fun k => h2 (.inr (.inr (.inr ((u8n 101 rfl).2 k))))⟩
  by_cases h5 : atB s (i + 1) = 115
  · have k5 : (atB s (i + 1)).toNat = 115 := (u8n 115 rfl).1 h5
    have h6 : ¬ atB s (i + 1) = 103 := by rw [h5]; decide
    have hin1 := at_in h5 (by decide)
    have hat := atB_lt hin1
    have k7 : s[i + 1].toNat = 115 := by rw [← hat]; exact k5
    have hG : decide ((s[i + 1].toNat : Int) = 103) = mdG s i := by unfold mdG; rw [decide_eq_false h6, decide_eq_false (by omega)]
    rw [if_pos (.inl h5)] at hR hB
    have c4 := fun z hz => substitution_fn F L s h (i + 2) z hz (by omega)
    have hJ : mdJ s i = i + 2 := by unfold mdJ; rw [if_neg h6]
    have c5 : ∀ a b : List UInt8, a ≠ [] → a.length ≤ 4096 → b.length ≤ 4096 → Ab Tryz.prog 113 [az t, az a, az b, .v (.bool (decide ((s[i + 1].toNat : Int) = 103)))] (.tp [az (sbdF t a b (mdG s i)).1, ai (sbdF t a b (mdG s i)).2]) := fun a b ha hal hbl => by
      rw [hG]
      exact substituted_ab t a b (mdG s i) (by omega) ha hal hbl
    have hrp : rplF s t (i + 2) (mdG s i) = if (sbtF s (i + 2)).2.2.2 ≠ 0 then ([], 0, (sbtF s (i + 2)).2.2.2)
        else if (sbdF t (sbtF s (i + 2)).1 (sbtF s (i + 2)).2.1 (mdG s i)).2 ≠ 0 then ([], 0, (sbdF t (sbtF s (i + 2)).1 (sbtF s (i + 2)).2.1 (mdG s i)).2)
        else ((sbdF t (sbtF s (i + 2)).1 (sbtF s (i + 2)).2.1 (mdG s i)).1, (sbtF s (i + 2)).2.2.1, 0) := rfl
    have hso := sbtF_ok (s := s) (i := i + 2)
    have hse := sbtF_err s (i + 2)
    have hdl := sbdF_len t (sbtF s (i + 2)).1 (sbtF s (i + 2)).2.1 (mdG s i)
    rw [hJ] at hR hB
    have c5 := c5 (sbtF s (i + 2)).1 (sbtF s (i + 2)).2.1
    generalize sbtF s (i + 2) = q at *
    obtain ⟨qa, qb, qe, qr⟩ := q
    simp only at c4 c5 hrp hso hse hdl
    by_cases hq : qr = 0
    · obtain ⟨g1, g2, g3, g4, g5⟩ := hso hq
      have c5 := c5 g3 (by omega) (by omega)
      rw [if_neg (by simpa using hq)] at hrp
      generalize sbdF t qa qb (mdG s i) = y at *
      obtain ⟨yt, ye⟩ := y
      simp only at c5 hrp hdl
      by_cases hy : ye = 0
      · rw [if_neg (by simpa using hy)] at hrp
        rw [hrp] at hR hB
        rw [if_neg (by simp)] at hR hB
        repeat' (first
 | ((with_reducible apply awO_ev); (· rfl); (· exact sv))
 | ((with_reducible apply aw_seq); intro _ _)
 | (with_reducible apply aw_region)
 | (with_reducible apply aw_block)
 | ((with_reducible first | apply awO_nil | apply aw_exit | apply aw_skip | apply aw_ret); (try simp only [CT, ↓reduceIte, Nat.reduceEqDiff]))
 | (refine Kont.go ‹Kont _ _ _ _› _ ?_)
 | ((with_reducible apply awO_c); (· rfl); (· rfl); (· exact sv); (· (first | exact c1 | exact c2 _ (by omega) | exact c4 _ (by omega) | exact c5)); (· rfl); (· rfl); (· rfl); (· decide))
 | ((with_reducible apply awO_m); (· rfl); (· rfl); (· exact sv); (· (first | exact c1 | exact c2 _ (by omega) | exact c4 _ (by omega) | exact c5)); (· exact svq); (· exact svq); (· exact svq); (· exact svq); (· rfl); (· exact nd); (with_reducible apply awO_st); (· exact svs))
 | ((first | ((with_reducible apply awO_guardN); (· rfl); (· rfl); (· exact sv); (· exact nB)) | ((with_reducible apply aw_condN); (· exact sv))); (· exact pN); (· exact pN); all_goals (intro hg; try (exfalso; omega))))
        refine LE_mk (n, yt, qe, h) ⟨g2, by simp only; omega, by simp only; omega, hR, hB⟩ (by simp only; omega) sN sN ⟨rfl, trivial⟩
      · rw [if_pos hy] at hrp
        rw [hrp] at hR hB
        rw [if_pos hy] at hR hB
        repeat' (first
 | ((with_reducible apply awO_ev); (· rfl); (· exact sv))
 | ((with_reducible apply aw_seq); intro _ _)
 | (with_reducible apply aw_region)
 | (with_reducible apply aw_block)
 | ((with_reducible first | apply awO_nil | apply aw_exit | apply aw_skip | apply aw_ret); (try simp only [CT, ↓reduceIte, Nat.reduceEqDiff]))
 | (refine Kont.go ‹Kont _ _ _ _› _ ?_)
 | ((with_reducible apply awO_c); (· rfl); (· rfl); (· exact sv); (· (first | exact c1 | exact c2 _ (by omega) | exact c4 _ (by omega) | exact c5)); (· rfl); (· rfl); (· rfl); (· decide))
 | ((with_reducible apply awO_m); (· rfl); (· rfl); (· exact sv); (· (first | exact c1 | exact c2 _ (by omega) | exact c4 _ (by omega) | exact c5)); (· exact svq); (· exact svq); (· exact svq); (· exact svq); (· rfl); (· exact nd); (with_reducible apply awO_st); (· exact svs))
 | ((first | ((with_reducible apply awO_guardN); (· rfl); (· rfl); (· exact sv); (· exact nB)) | ((with_reducible apply aw_condN); (· exact sv))); (· exact pN); (· exact pN); all_goals (intro hg; try (exfalso; omega)))
 | ((try with_reducible apply wk_id); (with_reducible apply retQ_mk1); (· exact rI); (· exact sv); (· exact sv); (· exact sv); (· exact sv); rotate_left; rotate_left; (· simp); (· rfl)))
        all_goals first | rfl | (rw [hR]; done) | (rw [hR]; rfl) | (rw [hB]; done) | (rw [hB]; rfl)
    · rcases hse with hse | hse
      · exact absurd hse hq
      · injection hse with e1 hse
        injection hse with e2 hse
        injection hse with e3 e4
        subst e1; subst e2; subst e3; subst e4
        rw [if_pos hq] at hrp
        rw [hrp] at hR hB
        rw [if_pos hq] at hR hB
        repeat' (first
 | ((with_reducible apply awO_ev); (· rfl); (· exact sv))
 | ((with_reducible apply aw_seq); intro _ _)
 | (with_reducible apply aw_region)
 | (with_reducible apply aw_block)
 | ((with_reducible first | apply awO_nil | apply aw_exit | apply aw_skip | apply aw_ret); (try simp only [CT, ↓reduceIte, Nat.reduceEqDiff]))
 | ((with_reducible apply aw_cond_true); (· exact sv))
 | (refine Kont.go ‹Kont _ _ _ _› _ ?_)
 | ((with_reducible apply awO_m); (· rfl); (· rfl); (· exact sv); (· (first | exact c1 | exact c2 _ (by omega) | exact c4 _ (by omega))); (· exact svq); (· exact svq); (· exact svq); (· exact svq); (· rfl); (· exact nd); (with_reducible apply awO_st); (· exact svs))
 | ((first | ((with_reducible apply awO_guardN); (· rfl); (· rfl); (· exact sv); (· exact nB)) | ((with_reducible apply aw_condN); (· exact sv))); (· exact pN); (· exact pN); all_goals (intro hg; try (exfalso; omega)))
 | ((try with_reducible apply wk_id); (with_reducible apply retQ_mk1); (· exact rI); (· exact sv); (· exact sv); (· exact sv); (· exact sv); rotate_left; rotate_left; (· simp); (· rfl)))
        all_goals first | rfl | (rw [hR]; done) | (rw [hR]; rfl) | (rw [hB]; done) | (rw [hB]; rfl)
  by_cases h6 : atB s (i + 1) = 103
  · have k6 : (atB s (i + 1)).toNat = 103 := (u8n 103 rfl).1 h6
    have hin1 := at_in h6 (by decide)
    have hat := atB_lt hin1
    have k7 : s[i + 1].toNat = 103 := by rw [← hat]; exact k6
    have c6 := fun z hz => at_fn F L s h (i + 2) z hz
    by_cases h7 : atB s (i + 2) = 115
    · have k8 : (atB s (i + 2)).toNat = 115 := (u8n 115 rfl).1 h7
      have hG : decide ((s[i + 1].toNat : Int) = 103) = mdG s i := by unfold mdG; rw [decide_eq_true h6, decide_eq_true (by omega)]
      rw [if_pos (.inr ⟨h6, h7⟩)] at hR hB
      have c4 := fun z hz => substitution_fn F L s h (i + 3) z hz (by omega)
      have hJ : mdJ s i = i + 3 := by unfold mdJ; rw [if_pos h6]
      have c5 : ∀ a b : List UInt8, a ≠ [] → a.length ≤ 4096 → b.length ≤ 4096 → Ab Tryz.prog 113 [az t, az a, az b, .v (.bool (decide ((s[i + 1].toNat : Int) = 103)))] (.tp [az (sbdF t a b (mdG s i)).1, ai (sbdF t a b (mdG s i)).2]) := fun a b ha hal hbl => by
        rw [hG]
        exact substituted_ab t a b (mdG s i) (by omega) ha hal hbl
      have hrp : rplF s t (i + 3) (mdG s i) = if (sbtF s (i + 3)).2.2.2 ≠ 0 then ([], 0, (sbtF s (i + 3)).2.2.2)
          else if (sbdF t (sbtF s (i + 3)).1 (sbtF s (i + 3)).2.1 (mdG s i)).2 ≠ 0 then ([], 0, (sbdF t (sbtF s (i + 3)).1 (sbtF s (i + 3)).2.1 (mdG s i)).2)
          else ((sbdF t (sbtF s (i + 3)).1 (sbtF s (i + 3)).2.1 (mdG s i)).1, (sbtF s (i + 3)).2.2.1, 0) := rfl
      have hso := sbtF_ok (s := s) (i := i + 3)
      have hse := sbtF_err s (i + 3)
      have hdl := sbdF_len t (sbtF s (i + 3)).1 (sbtF s (i + 3)).2.1 (mdG s i)
      rw [hJ] at hR hB
      have c5 := c5 (sbtF s (i + 3)).1 (sbtF s (i + 3)).2.1
      generalize sbtF s (i + 3) = q at *
      obtain ⟨qa, qb, qe, qr⟩ := q
      simp only at c4 c5 hrp hso hse hdl
      by_cases hq : qr = 0
      · obtain ⟨g1, g2, g3, g4, g5⟩ := hso hq
        have c5 := c5 g3 (by omega) (by omega)
        rw [if_neg (by simpa using hq)] at hrp
        generalize sbdF t qa qb (mdG s i) = y at *
        obtain ⟨yt, ye⟩ := y
        simp only at c5 hrp hdl
        by_cases hy : ye = 0
        · rw [if_neg (by simpa using hy)] at hrp
          rw [hrp] at hR hB
          rw [if_neg (by simp)] at hR hB
          repeat' (first
 | ((with_reducible apply awO_ev); (· rfl); (· exact sv))
 | ((with_reducible apply aw_seq); intro _ _)
 | (with_reducible apply aw_region)
 | (with_reducible apply aw_block)
 | ((with_reducible first | apply awO_nil | apply aw_exit | apply aw_skip | apply aw_ret); (try simp only [CT, ↓reduceIte, Nat.reduceEqDiff]))
 | (refine Kont.go ‹Kont _ _ _ _› _ ?_)
 | ((with_reducible apply awO_c); (· rfl); (· rfl); (· exact sv); (· (first | exact c1 | exact c2 _ (by omega) | exact c6 _ (by omega) | exact c4 _ (by omega) | exact c5)); (· rfl); (· rfl); (· rfl); (· decide))
 | ((with_reducible apply awO_m); (· rfl); (· rfl); (· exact sv); (· (first | exact c1 | exact c2 _ (by omega) | exact c6 _ (by omega) | exact c4 _ (by omega) | exact c5)); (· exact svq); (· exact svq); (· exact svq); (· exact svq); (· rfl); (· exact nd); (with_reducible apply awO_st); (· exact svs))
 | ((first | ((with_reducible apply awO_guardN); (· rfl); (· rfl); (· exact sv); (· exact nB)) | ((with_reducible apply aw_condN); (· exact sv))); (· exact pN); (· exact pN); all_goals (intro hg; try (exfalso; omega))))
          refine LE_mk (n, yt, qe, h) ⟨g2, by simp only; omega, by simp only; omega, hR, hB⟩ (by simp only; omega) sN sN ⟨rfl, trivial⟩
        · rw [if_pos hy] at hrp
          rw [hrp] at hR hB
          rw [if_pos hy] at hR hB
          repeat' (first
 | ((with_reducible apply awO_ev); (· rfl); (· exact sv))
 | ((with_reducible apply aw_seq); intro _ _)
 | (with_reducible apply aw_region)
 | (with_reducible apply aw_block)
 | ((with_reducible first | apply awO_nil | apply aw_exit | apply aw_skip | apply aw_ret); (try simp only [CT, ↓reduceIte, Nat.reduceEqDiff]))
 | (refine Kont.go ‹Kont _ _ _ _› _ ?_)
 | ((with_reducible apply awO_c); (· rfl); (· rfl); (· exact sv); (· (first | exact c1 | exact c2 _ (by omega) | exact c6 _ (by omega) | exact c4 _ (by omega) | exact c5)); (· rfl); (· rfl); (· rfl); (· decide))
 | ((with_reducible apply awO_m); (· rfl); (· rfl); (· exact sv); (· (first | exact c1 | exact c2 _ (by omega) | exact c6 _ (by omega) | exact c4 _ (by omega) | exact c5)); (· exact svq); (· exact svq); (· exact svq); (· exact svq); (· rfl); (· exact nd); (with_reducible apply awO_st); (· exact svs))
 | ((first | ((with_reducible apply awO_guardN); (· rfl); (· rfl); (· exact sv); (· exact nB)) | ((with_reducible apply aw_condN); (· exact sv))); (· exact pN); (· exact pN); all_goals (intro hg; try (exfalso; omega)))
 | ((try with_reducible apply wk_id); (with_reducible apply retQ_mk1); (· exact rI); (· exact sv); (· exact sv); (· exact sv); (· exact sv); rotate_left; rotate_left; (· simp); (· rfl)))
          all_goals first | rfl | (rw [hR]; done) | (rw [hR]; rfl) | (rw [hB]; done) | (rw [hB]; rfl)
      · rcases hse with hse | hse
        · exact absurd hse hq
        · injection hse with e1 hse
          injection hse with e2 hse
          injection hse with e3 e4
          subst e1; subst e2; subst e3; subst e4
          rw [if_pos hq] at hrp
          rw [hrp] at hR hB
          rw [if_pos hq] at hR hB
          repeat' (first
 | ((with_reducible apply awO_ev); (· rfl); (· exact sv))
 | ((with_reducible apply aw_seq); intro _ _)
 | (with_reducible apply aw_region)
 | (with_reducible apply aw_block)
 | ((with_reducible first | apply awO_nil | apply aw_exit | apply aw_skip | apply aw_ret); (try simp only [CT, ↓reduceIte, Nat.reduceEqDiff]))
 | ((with_reducible apply aw_cond_true); (· exact sv))
 | (refine Kont.go ‹Kont _ _ _ _› _ ?_)
 | ((with_reducible apply awO_m); (· rfl); (· rfl); (· exact sv); (· (first | exact c1 | exact c2 _ (by omega) | exact c6 _ (by omega) | exact c4 _ (by omega))); (· exact svq); (· exact svq); (· exact svq); (· exact svq); (· rfl); (· exact nd); (with_reducible apply awO_st); (· exact svs))
 | ((first | ((with_reducible apply awO_guardN); (· rfl); (· rfl); (· exact sv); (· exact nB)) | ((with_reducible apply aw_condN); (· exact sv))); (· exact pN); (· exact pN); all_goals (intro hg; try (exfalso; omega)))
 | ((try with_reducible apply wk_id); (with_reducible apply retQ_mk1); (· exact rI); (· exact sv); (· exact sv); (· exact sv); (· exact sv); rotate_left; rotate_left; (· simp); (· rfl)))
          all_goals first | rfl | (rw [hR]; done) | (rw [hR]; rfl) | (rw [hB]; done) | (rw [hB]; rfl)
    · have k8 : ¬ (atB s (i + 2)).toNat = 115 := fun k => h7 ((u8n 115 rfl).2 k)
      rw [if_neg (by rintro (h | h); exact h5 h; exact h7 h.2)] at hR hB
      repeat' (first
 | ((with_reducible apply awO_ev); (· rfl); (· exact sv))
 | ((with_reducible apply aw_seq); intro _ _)
 | (with_reducible apply aw_region)
 | (with_reducible apply aw_block)
 | ((with_reducible first | apply awO_nil | apply aw_exit | apply aw_skip | apply aw_ret); (try simp only [CT, ↓reduceIte, Nat.reduceEqDiff]))
 | (refine Kont.go ‹Kont _ _ _ _› _ ?_)
 | ((with_reducible apply awO_m); (· rfl); (· rfl); (· exact sv); (· (first | exact c1 | exact c2 _ (by omega) | exact c6 _ (by omega))); (· exact svq); (· exact svq); (· exact svq); (· exact svq); (· rfl); (· exact nd); (with_reducible apply awO_st); (· exact svs))
 | ((first | ((with_reducible apply awO_guardN); (· rfl); (· rfl); (· exact sv); (· exact nB)) | ((with_reducible apply aw_condN); (· exact sv))); (· exact pN); (· exact pN); all_goals (intro hg; try (exfalso; omega)))
 | ((try with_reducible apply wk_id); (with_reducible apply retQ_mk1); (· exact rI); (· exact sv); (· exact sv); (· exact sv); (· exact sv); rotate_left; rotate_left; (· simp); (· rfl)))
      all_goals first | rfl | (rw [hR]; done) | (rw [hR]; rfl) | (rw [hB]; done) | (rw [hB]; rfl)
  · have k6 : ¬ (atB s (i + 1)).toNat = 103 := fun k => h6 ((u8n 103 rfl).2 k)
    have k5 : ¬ (atB s (i + 1)).toNat = 115 := fun k => h5 ((u8n 115 rfl).2 k)
    rw [if_neg (by rintro (h | h); exact h5 h; exact h6 h.1)] at hR hB
    repeat' (first
 | ((with_reducible apply awO_ev); (· rfl); (· exact sv))
 | ((with_reducible apply aw_seq); intro _ _)
 | (with_reducible apply aw_region)
 | (with_reducible apply aw_block)
 | ((with_reducible first | apply awO_nil | apply aw_exit | apply aw_skip | apply aw_ret); (try simp only [CT, ↓reduceIte, Nat.reduceEqDiff]))
 | (refine Kont.go ‹Kont _ _ _ _› _ ?_)
 | ((with_reducible apply awO_m); (· rfl); (· rfl); (· exact sv); (· (first | exact c1 | exact c2 _ (by omega))); (· exact svq); (· exact svq); (· exact svq); (· exact svq); (· rfl); (· exact nd); (with_reducible apply awO_st); (· exact svs))
 | ((first | ((with_reducible apply awO_guardN); (· rfl); (· rfl); (· exact sv); (· exact nB)) | ((with_reducible apply aw_condN); (· exact sv))); (· exact pN); (· exact pN); all_goals (intro hg; try (exfalso; omega)))
 | ((try with_reducible apply wk_id); (with_reducible apply retQ_mk1); (· exact rI); (· exact sv); (· exact sv); (· exact sv); (· exact sv); rotate_left; rotate_left; (· simp); (· rfl)))
    all_goals first | rfl | (rw [hR]; done) | (rw [hR]; rfl) | (rw [hB]; done) | (rw [hB]; rfl)
end
end Go.Proofs.YtgbhjlkenfmadaaGreatDoor
