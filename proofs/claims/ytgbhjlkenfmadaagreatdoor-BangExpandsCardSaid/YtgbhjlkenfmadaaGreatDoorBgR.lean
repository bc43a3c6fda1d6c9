/- bang's Expand; the law's ok and has; Small and Valid of the document's history. -/
import Derived.Test.YtgbhjlkenfmadaaGreatDoorBgP
namespace Go.Proofs.YtgbhjlkenfmadaaGreatDoor
open Go.RowKit
set_option linter.unusedVariables false
set_option linter.unusedSimpArgs false
set_option maxRecDepth 100000
set_option maxHeartbeats 8000000
theorem expand_ab (F : Int) (L : List (List UInt8)) (s : List UInt8) (hF : 1 ≤ F ∧ F ≤ 2147483647) (hL : L.length ≤ 100000) (hl : ∀ l ∈ L, l.length ≤ 4096) (hs : s.length ≤ 9000000000000000) :
    Ab Tryz.prog 11 [hsA F L, az s] (.tp [az (expF wordsF F L s).1, ab (expF wordsF F L s).2.1, ai (expF wordsF F L s).2.2]) := by
  by_cases h1 : 4096 < s.length
  · have e : expF wordsF F L s = ([], false, 3) := by unfold expF; rw [if_pos h1]
    refine Fn_of_aw (keep := []) Tryz.func11 rfl rfl (by simp [Tryz.ntmps11]) ?_
    simp only [num_cons, num_nil, Tryz.ntmps11, Tryz.results11]
    repeat' (first
 | ((with_reducible apply awO_ev); (· rfl); (· exact sv))
 | ((with_reducible apply aw_seq); intro _ _)
 | (with_reducible apply aw_region)
 | ((with_reducible first | apply awO_nil | apply aw_exit | apply aw_skip | apply aw_ret); (try simp only [CT, ↓reduceIte, Nat.reduceEqDiff]))
 | (refine Kont.go ‹Kont _ _ _ _› _ ?_)
 | ((first | ((with_reducible apply awO_guardN); (· rfl); (· rfl); (· exact sv); (· exact nB)) | ((with_reducible apply aw_condN); (· exact sv))); (· exact pN); (· exact pN); all_goals (intro hg; try (exfalso; omega)))
 | ((with_reducible apply retQ_mk); (· exact rI); (· exact sv); (· exact sv); rotate_left; (· rfl)))
    all_goals first | rfl | (rw [e]; done) | (rw [e]; rfl)
  have hs' : s.length ≤ 4096 := by omega
  have e0 : expF wordsF F L s = if (rawF wordsF F L s).2.2 ≠ 0 then ([], false, (rawF wordsF F L s).2.2) else if 4096 < (rawF wordsF F L s).1.length then ([], false, 3) else rawF wordsF F L s := by unfold expF; rw [if_neg h1]
  have c1 := hasPrefix_ab s [94]
  by_cases h2 : atB s 0 = 94
  · have hin := at_in h2 (by decide)
    have hp : ([94] : List UInt8).isPrefixOf s = true := by
      rw [atB_lt hin] at h2
      cases s with
      | nil => simp at hin
      | cons c r => simp at h2; subst h2; simp [List.isPrefixOf]
    rw [hp] at c1
    have er : rawF wordsF F L s = ((quiF L (s.drop 1)).1, false, (quiF L (s.drop 1)).2) := by unfold rawF; rw [if_pos h2]
    have c2 := quick_fn F L s false hin hs' hL hl
    rw [er] at e0
    generalize quiF L (s.drop 1) = q at *
    obtain ⟨qt, qe⟩ := q
    simp only at e0 c2
    by_cases h3 : qe = 0
    · rw [if_neg (by simpa using h3)] at e0
      subst h3
      by_cases h4 : 4096 < qt.length
      · rw [if_pos h4] at e0
        refine Fn_of_aw (keep := []) Tryz.func11 rfl rfl (by simp [Tryz.ntmps11]) ?_
        simp only [num_cons, num_nil, Tryz.ntmps11, Tryz.results11]
        repeat' (first
 | ((with_reducible apply awO_ev); (· rfl); (· exact sv))
 | ((with_reducible apply aw_seq); intro _ _)
 | (with_reducible apply aw_region)
 | ((with_reducible first | apply awO_nil | apply aw_exit | apply aw_skip | apply aw_ret); (try simp only [CT, ↓reduceIte, Nat.reduceEqDiff]))
 | ((with_reducible apply awO_y); (· rfl); (· rfl); (· decide); (· exact sv); (· exact sv))
 | ((with_reducible apply aw_cond_true); (· exact sv))
 | (refine Kont.go ‹Kont _ _ _ _› _ ?_)
 | ((with_reducible apply awO_c); (· rfl); (· rfl); (· exact sv); (· (first | exact c1 | exact c2)); (· rfl); (· rfl); (· rfl); (· decide))
 | ((with_reducible apply awO_m); (· rfl); (· rfl); (· exact sv); (· (first | exact c1 | exact c2)); (· exact svq); (· exact svq); (· exact svq); (· exact svq); (· rfl); (· exact nd); (with_reducible apply awO_st); (· exact svs))
 | ((first | ((with_reducible apply awO_guardN); (· rfl); (· rfl); (· exact sv); (· exact nB)) | ((with_reducible apply aw_condN); (· exact sv))); (· exact pN); (· exact pN); all_goals (intro hg; try (exfalso; omega)))
 | ((with_reducible apply retQ_mk); (· exact rI); (· exact sv); (· exact sv); rotate_left; (· rfl)))
        all_goals first | rfl | (rw [e0]; done) | (rw [e0]; rfl)
      · rw [if_neg h4] at e0
        refine Fn_of_aw (keep := []) Tryz.func11 rfl rfl (by simp [Tryz.ntmps11]) ?_
        simp only [num_cons, num_nil, Tryz.ntmps11, Tryz.results11]
        repeat' (first
 | ((with_reducible apply awO_ev); (· rfl); (· exact sv))
 | ((with_reducible apply aw_seq); intro _ _)
 | (with_reducible apply aw_region)
 | ((with_reducible first | apply awO_nil | apply aw_exit | apply aw_skip | apply aw_ret); (try simp only [CT, ↓reduceIte, Nat.reduceEqDiff]))
 | ((with_reducible apply awO_y); (· rfl); (· rfl); (· decide); (· exact sv); (· exact sv))
 | ((with_reducible apply aw_cond_true); (· exact sv))
 | ((with_reducible apply aw_cond_false); (· exact sv))
 | (refine Kont.go ‹Kont _ _ _ _› _ ?_)
 | ((with_reducible apply awO_c); (· rfl); (· rfl); (· exact sv); (· (first | exact c1 | exact c2)); (· rfl); (· rfl); (· rfl); (· decide))
 | ((with_reducible apply awO_m); (· rfl); (· rfl); (· exact sv); (· (first | exact c1 | exact c2)); (· exact svq); (· exact svq); (· exact svq); (· exact svq); (· rfl); (· exact nd); (with_reducible apply awO_st); (· exact svs))
 | ((with_reducible apply aw_draw); (· decide +kernel); (simp only [List.size_toArray, List.length_cons, List.length_nil, Nat.reduceAdd]))
 | ((with_reducible apply awY_done); (· decide +kernel); (try simp only [CT, ↓reduceIte, Nat.reduceEqDiff]))
 | ((with_reducible apply awY_q); (· exact sQ); (· exact np); (· exact svg); (· rfl); (· exact sv))
 | ((first | ((with_reducible apply awO_guardN); (· rfl); (· rfl); (· exact sv); (· exact nB)) | ((with_reducible apply aw_condN); (· exact sv))); (· exact pN); (· exact pN); all_goals (intro hg; try (exfalso; omega)))
 | ((with_reducible apply retQ_mk); (· exact rI); (· exact sv); (· exact sv); rotate_left; (· rfl)))
        all_goals first | rfl | (rw [e0]; done) | (rw [e0]; rfl)
    · rw [if_pos h3] at e0
      refine Fn_of_aw (keep := []) Tryz.func11 rfl rfl (by simp [Tryz.ntmps11]) ?_
      simp only [num_cons, num_nil, Tryz.ntmps11, Tryz.results11]
      repeat' (first
 | ((with_reducible apply awO_ev); (· rfl); (· exact sv))
 | ((with_reducible apply aw_seq); intro _ _)
 | (with_reducible apply aw_region)
 | ((with_reducible first | apply awO_nil | apply aw_exit | apply aw_skip | apply aw_ret); (try simp only [CT, ↓reduceIte, Nat.reduceEqDiff]))
 | ((with_reducible apply awO_n); (· rfl); (· rfl); (· decide); (· exact sv); (· rfl); (· rfl); (· decide))
 | ((with_reducible apply aw_cond_true); (· exact sv))
 | ((with_reducible apply aw_cond_false); (· exact sv))
 | (refine Kont.go ‹Kont _ _ _ _› _ ?_)
 | ((with_reducible apply awO_c); (· rfl); (· rfl); (· exact sv); (· (first | exact c1 | exact c2)); (· rfl); (· rfl); (· rfl); (· decide))
 | ((with_reducible apply awO_m); (· rfl); (· rfl); (· exact sv); (· (first | exact c1 | exact c2)); (· exact svq); (· exact svq); (· exact svq); (· exact svq); (· rfl); (· exact nd); (with_reducible apply awO_st); (· exact svs))
 | ((first | ((with_reducible apply awO_guardN); (· rfl); (· rfl); (· exact sv); (· exact nB)) | ((with_reducible apply aw_condN); (· exact sv))); (· exact pN); (· exact pN); all_goals (intro hg; try (exfalso; omega)))
 | ((with_reducible apply retQ_mk); (· exact rI); (· exact sv); (· exact sv); rotate_left; (· rfl)))
      all_goals first | rfl | (rw [e0]; done) | (rw [e0]; rfl)
  · have hp : ([94] : List UInt8).isPrefixOf s = false := by
      cases s with
      | nil => rfl
      | cons c r =>
        have : ¬ 94 = c := fun h => h2 (by subst h; rfl)
        simp [List.isPrefixOf, this]
    rw [hp] at c1
    have er : rawF wordsF F L s = scnT wordsF F L s 0 false := by unfold rawF; rw [if_neg h2]
    have c2 := scan_fn F L s false hs' hF hL hl rfl
    rw [er] at e0
    generalize scnT wordsF F L s 0 false = R at *
    obtain ⟨rt, rs, re⟩ := R
    unfold xR at c2
    simp only at e0 c2
    by_cases h3 : re = 0
    · rw [if_neg (by simpa using h3)] at e0
      subst h3
      rw [if_pos rfl] at c2
      by_cases h4 : 4096 < rt.length
      · rw [if_pos h4] at e0
        refine Fn_of_aw (keep := []) Tryz.func11 rfl rfl (by simp [Tryz.ntmps11]) ?_
        simp only [num_cons, num_nil, Tryz.ntmps11, Tryz.results11]
        repeat' (first
 | ((with_reducible apply awO_ev); (· rfl); (· exact sv))
 | ((with_reducible apply aw_seq); intro _ _)
 | (with_reducible apply aw_region)
 | ((with_reducible first | apply awO_nil | apply aw_exit | apply aw_skip | apply aw_ret); (try simp only [CT, ↓reduceIte, Nat.reduceEqDiff]))
 | ((with_reducible apply awO_y); (· rfl); (· rfl); (· decide); (· exact sv); (· exact sv))
 | ((with_reducible apply aw_cond_true); (· exact sv))
 | ((with_reducible apply aw_cond_false); (· exact sv))
 | (refine Kont.go ‹Kont _ _ _ _› _ ?_)
 | ((with_reducible apply awO_c); (· rfl); (· rfl); (· exact sv); (· (first | exact c1 | exact c2)); (· rfl); (· rfl); (· rfl); (· decide))
 | ((with_reducible apply awO_m); (· rfl); (· rfl); (· exact sv); (· (first | exact c1 | exact c2)); (· exact svq); (· exact svq); (· exact svq); (· exact svq); (· rfl); (· exact nd); (with_reducible apply awO_st); (· exact svs))
 | ((first | ((with_reducible apply awO_guardN); (· rfl); (· rfl); (· exact sv); (· exact nB)) | ((with_reducible apply aw_condN); (· exact sv))); (· exact pN); (· exact pN); all_goals (intro hg; try (exfalso; omega)))
 | ((with_reducible apply retQ_mk); (· exact rI); (· exact sv); (· exact sv); rotate_left; (· rfl)))
        all_goals first | rfl | (rw [e0]; done) | (rw [e0]; rfl)
      · rw [if_neg h4] at e0
        refine Fn_of_aw (keep := []) Tryz.func11 rfl rfl (by simp [Tryz.ntmps11]) ?_
        simp only [num_cons, num_nil, Tryz.ntmps11, Tryz.results11]
        repeat' (first
 | ((with_reducible apply awO_ev); (· rfl); (· exact sv))
 | ((with_reducible apply aw_seq); intro _ _)
 | (with_reducible apply aw_region)
 | ((with_reducible first | apply awO_nil | apply aw_exit | apply aw_skip | apply aw_ret); (try simp only [CT, ↓reduceIte, Nat.reduceEqDiff]))
 | ((with_reducible apply awO_y); (· rfl); (· rfl); (· decide); (· exact sv); (· exact sv))
 | ((with_reducible apply aw_cond_false); (· exact sv))
 | (refine Kont.go ‹Kont _ _ _ _› _ ?_)
 | ((with_reducible apply awO_c); (· rfl); (· rfl); (· exact sv); (· (first | exact c1 | exact c2)); (· rfl); (· rfl); (· rfl); (· decide))
 | ((with_reducible apply awO_m); (· rfl); (· rfl); (· exact sv); (· (first | exact c1 | exact c2)); (· exact svq); (· exact svq); (· exact svq); (· exact svq); (· rfl); (· exact nd); (with_reducible apply awO_st); (· exact svs))
 | ((with_reducible apply aw_draw); (· decide +kernel); (simp only [List.size_toArray, List.length_cons, List.length_nil, Nat.reduceAdd]))
 | ((with_reducible apply awY_done); (· decide +kernel); (try simp only [CT, ↓reduceIte, Nat.reduceEqDiff]))
 | ((with_reducible apply awY_q); (· exact sQ); (· exact np); (· exact svg); (· rfl); (· exact sv))
 | ((first | ((with_reducible apply awO_guardN); (· rfl); (· rfl); (· exact sv); (· exact nB)) | ((with_reducible apply aw_condN); (· exact sv))); (· exact pN); (· exact pN); all_goals (intro hg; try (exfalso; omega)))
 | ((with_reducible apply retQ_mk); (· exact rI); (· exact sv); (· exact sv); rotate_left; (· rfl)))
        all_goals first | rfl | (rw [e0]; done) | (rw [e0]; rfl)
    · rw [if_pos h3] at e0
      rw [if_neg h3] at c2
      refine Fn_of_aw (keep := []) Tryz.func11 rfl rfl (by simp [Tryz.ntmps11]) ?_
      simp only [num_cons, num_nil, Tryz.ntmps11, Tryz.results11]
      repeat' (first
 | ((with_reducible apply awO_ev); (· rfl); (· exact sv))
 | ((with_reducible apply aw_seq); intro _ _)
 | (with_reducible apply aw_region)
 | ((with_reducible first | apply awO_nil | apply aw_exit | apply aw_skip | apply aw_ret); (try simp only [CT, ↓reduceIte, Nat.reduceEqDiff]))
 | ((with_reducible apply awO_n); (· rfl); (· rfl); (· decide); (· exact sv); (· rfl); (· rfl); (· decide))
 | ((with_reducible apply aw_cond_false); (· exact sv))
 | (refine Kont.go ‹Kont _ _ _ _› _ ?_)
 | ((with_reducible apply awO_c); (· rfl); (· rfl); (· exact sv); (· (first | exact c1 | exact c2)); (· rfl); (· rfl); (· rfl); (· decide))
 | ((with_reducible apply awO_m); (· rfl); (· rfl); (· exact sv); (· (first | exact c1 | exact c2)); (· exact svq); (· exact svq); (· exact svq); (· exact svq); (· rfl); (· exact nd); (with_reducible apply awO_st); (· exact svs))
 | ((first | ((with_reducible apply awO_guardN); (· rfl); (· rfl); (· exact sv); (· exact nB)) | ((with_reducible apply aw_condN); (· exact sv))); (· exact pN); (· exact pN); all_goals (intro hg; try (exfalso; omega)))
 | ((with_reducible apply retQ_mk); (· exact rI); (· exact sv); (· exact sv); rotate_left; (· rfl)))
      all_goals first | rfl | (rw [e0]; done) | (rw [e0]; rfl)
theorem has_ab4 (s : List UInt8) (c : UInt8) (hs : s.length ≤ 9000000000000000) : Ab Tryz.prog 13 [az s, au c] (ab (s.contains c)) := by
  refine Fn_of_aw (keep := []) Tryz.func13 rfl rfl (by simp [Tryz.ntmps13]) ?_
  simp only [num_cons, num_nil, Tryz.ntmps13, Tryz.results13]
  repeat' (first
 | ((with_reducible apply awO_ev); (· rfl); (· exact sv))
 | ((with_reducible apply aw_seq); intro _ _)
 | (with_reducible apply aw_region)
 | (with_reducible apply aw_block)
 | ((with_reducible first | apply awO_nil | apply aw_exit | apply aw_skip | apply aw_ret); (try simp only [CT, ↓reduceIte, Nat.reduceEqDiff]))
 | (refine Kont.go ‹Kont _ _ _ _› _ ?_))
  refine aw_loopF (fun i : Nat => [(5, ai i)]) (fun _ => []) (fun i => i ≤ s.length ∧ s.contains c = (s.drop i).contains c) (fun i => s.length - i) 0 ⟨by omega, by rw [List.drop_zero]⟩ ?_ ?_ ?_
  · exact ⟨rfl, trivial⟩
  · exact trivial
  intro i ⟨hi, hI⟩
  (simp only [LP, List.append_assoc, List.nil_append, List.cons_append, List.append_nil, List.contains_cons, List.contains_nil, Nat.reduceBEq, Bool.or_false, Bool.or_true, Bool.true_or, Bool.false_or, ↓reduceIte, Bool.false_eq_true])
  by_cases hil : i < s.length
  · rw [List.drop_eq_getElem_cons hil] at hI
    by_cases hc : s[i] = c
    · have e : s.contains c = true := by rw [hI, hc]; simp
      have hc2 : (s[i].toNat : Int) = ((c : UInt8).toNat : Int) := by rw [hc]
      repeat' (first
 | ((with_reducible apply awO_ev); (· rfl); (· exact sv))
 | ((with_reducible apply aw_seq); intro _ _)
 | (with_reducible apply aw_region)
 | (with_reducible apply aw_block)
 | ((with_reducible first | apply awO_nil | apply aw_exit | apply aw_skip | apply aw_ret); (try simp only [CT, ↓reduceIte, Nat.reduceEqDiff]))
 | (refine Kont.go ‹Kont _ _ _ _› _ ?_)
 | ((first | ((with_reducible apply awO_guardN); (· rfl); (· rfl); (· exact sv); (· exact nB)) | ((with_reducible apply aw_condN); (· exact sv))); (· exact pN); (· exact pN); all_goals (intro hg; try (exfalso; omega)))
 | ((with_reducible apply retQ_mk); (· exact rI); (· exact sv); (· exact sv); rotate_left; (· rfl)))
      all_goals first | rfl | (rw [e]; done)
    · have hc2 : ¬ (s[i].toNat : Int) = ((c : UInt8).toNat : Int) := fun h => hc (UInt8.toNat_inj.1 (by omega))
      have hc3 : ¬ c = s[i] := fun h => hc h.symm
      repeat' (first
 | ((with_reducible apply awO_ev); (· rfl); (· exact sv))
 | ((with_reducible apply aw_seq); intro _ _)
 | (with_reducible apply aw_region)
 | (with_reducible apply aw_block)
 | ((with_reducible first | apply awO_nil | apply aw_exit | apply aw_skip | apply aw_ret); (try simp only [CT, ↓reduceIte, Nat.reduceEqDiff]))
 | (refine Kont.go ‹Kont _ _ _ _› _ ?_)
 | ((first | ((with_reducible apply awO_guardN); (· rfl); (· rfl); (· exact sv); (· exact nB)) | ((with_reducible apply aw_condN); (· exact sv))); (· exact pN); (· exact pN); all_goals (intro hg; try (exfalso; omega))))
      all_goals (refine LE_mk (i + 1) ⟨by omega, ?_⟩ (by omega) sN sN sN; rw [hI, List.contains_cons, beq_eq_false_iff_ne.2 hc3, Bool.false_or])
  · have e : s.contains c = false := by rw [hI, List.drop_eq_nil_of_le (by omega)]; rfl
    repeat' (first
 | ((with_reducible apply awO_ev); (· rfl); (· exact sv))
 | ((with_reducible apply aw_seq); intro _ _)
 | (with_reducible apply aw_region)
 | ((with_reducible first | apply awO_nil | apply aw_exit | apply aw_skip | apply aw_ret); (try simp only [CT, ↓reduceIte, Nat.reduceEqDiff]))
 | (refine Kont.go ‹Kont _ _ _ _› _ ?_)
 | ((first | ((with_reducible apply awO_guardN); (· rfl); (· rfl); (· exact sv); (· exact nB)) | ((with_reducible apply aw_condN); (· exact sv))); (· exact pN); (· exact pN); all_goals (intro hg; try (exfalso; omega)))
 | ((with_reducible apply retQ_mk); (· exact rI); (· exact sv); (· exact sv); rotate_left; (· rfl)))
    all_goals first | rfl | (rw [e]; done)
theorem feeds_ab (s : List UInt8) (hs : s.length ≤ 9000000000000000) : Ab Tryz.prog 30 [az s] (ab (s.contains 10)) := by
  refine Fn_of_aw (keep := []) Tryz.func30 rfl rfl (by simp [Tryz.ntmps30]) ?_
  simp only [num_cons, num_nil, Tryz.ntmps30, Tryz.results30]
  repeat' (first
 | ((with_reducible apply awO_ev); (· rfl); (· exact sv))
 | ((with_reducible apply aw_seq); intro _ _)
 | (with_reducible apply aw_region)
 | (with_reducible apply aw_block)
 | ((with_reducible first | apply awO_nil | apply aw_exit | apply aw_skip | apply aw_ret); (try simp only [CT, ↓reduceIte, Nat.reduceEqDiff]))
 | (refine Kont.go ‹Kont _ _ _ _› _ ?_))
  refine aw_loopF (fun i : Nat => [(3, ai i)]) (fun _ => []) (fun i => i ≤ s.length ∧ s.contains 10 = (s.drop i).contains 10) (fun i => s.length - i) 0 ⟨by omega, by rw [List.drop_zero]⟩ ?_ ?_ ?_
  · exact ⟨rfl, trivial⟩
  · exact trivial
  intro i ⟨hi, hI⟩
  (simp only [LP, List.append_assoc, List.nil_append, List.cons_append, List.append_nil, List.contains_cons, List.contains_nil, Nat.reduceBEq, Bool.or_false, Bool.or_true, Bool.true_or, Bool.false_or, ↓reduceIte, Bool.false_eq_true])
  by_cases hil : i < s.length
  · rw [List.drop_eq_getElem_cons hil] at hI
    by_cases hc : s[i] = 10
    · have e : s.contains 10 = true := by rw [hI, hc]; simp
      have hc2 : (s[i].toNat : Int) = ((10 : UInt8).toNat : Int) := by rw [hc]
      have hc3 : s[i].toNat = 10 := by rw [hc]; rfl
      repeat' (first
 | ((with_reducible apply awO_ev); (· rfl); (· exact sv))
 | ((with_reducible apply aw_seq); intro _ _)
 | (with_reducible apply aw_region)
 | (with_reducible apply aw_block)
 | ((with_reducible first | apply awO_nil | apply aw_exit | apply aw_skip | apply aw_ret); (try simp only [CT, ↓reduceIte, Nat.reduceEqDiff]))
 | (refine Kont.go ‹Kont _ _ _ _› _ ?_)
 | ((first | ((with_reducible apply awO_guardN); (· rfl); (· rfl); (· exact sv); (· exact nB)) | ((with_reducible apply aw_condN); (· exact sv))); (· exact pN); (· exact pN); all_goals (intro hg; try (exfalso; omega)))
 | ((with_reducible apply retQ_mk); (· exact rI); (· exact sv); (· exact sv); rotate_left; (· rfl)))
      all_goals first | rfl | (rw [e]; done)
    · have hc2 : ¬ (s[i].toNat : Int) = ((10 : UInt8).toNat : Int) := fun h => hc (UInt8.toNat_inj.1 (by omega))
      have hc3 : ¬ 10 = s[i] := fun h => hc h.symm
      have hc4 : ¬ s[i].toNat = 10 := fun h => hc (UInt8.toNat_inj.1 h)
      repeat' (first
 | ((with_reducible apply awO_ev); (· rfl); (· exact sv))
 | ((with_reducible apply aw_seq); intro _ _)
 | (with_reducible apply aw_region)
 | (with_reducible apply aw_block)
 | ((with_reducible first | apply awO_nil | apply aw_exit | apply aw_skip | apply aw_ret); (try simp only [CT, ↓reduceIte, Nat.reduceEqDiff]))
 | (refine Kont.go ‹Kont _ _ _ _› _ ?_)
 | ((first | ((with_reducible apply awO_guardN); (· rfl); (· rfl); (· exact sv); (· exact nB)) | ((with_reducible apply aw_condN); (· exact sv))); (· exact pN); (· exact pN); all_goals (intro hg; try (exfalso; omega))))
      all_goals (refine LE_mk (i + 1) ⟨by omega, ?_⟩ (by omega) sN sN sN; rw [hI, List.contains_cons, beq_eq_false_iff_ne.2 hc3, Bool.false_or])
  · have e : s.contains 10 = false := by rw [hI, List.drop_eq_nil_of_le (by omega)]; rfl
    repeat' (first
 | ((with_reducible apply awO_ev); (· rfl); (· exact sv))
 | ((with_reducible apply aw_seq); intro _ _)
 | (with_reducible apply aw_region)
 | ((with_reducible first | apply awO_nil | apply aw_exit | apply aw_skip | apply aw_ret); (try simp only [CT, ↓reduceIte, Nat.reduceEqDiff]))
 | (refine Kont.go ‹Kont _ _ _ _› _ ?_)
 | ((first | ((with_reducible apply awO_guardN); (· rfl); (· rfl); (· exact sv); (· exact nB)) | ((with_reducible apply aw_condN); (· exact sv))); (· exact pN); (· exact pN); all_goals (intro hg; try (exfalso; omega)))
 | ((with_reducible apply retQ_mk); (· exact rI); (· exact sv); (· exact sv); rotate_left; (· rfl)))
    all_goals first | rfl | (rw [e]; done)

/-! ### Histories -/
def smS : List (List UInt8) → Nat → Nat → Nat
  | [], _, n => n
  | x :: r, i, n => if i < 140 ∧ n < 30000 then smS r (i + 1) (n + x.length) else n
def smB (L : List (List UInt8)) : Bool := decide (L.length ≤ 140 ∧ smS L 0 0 < 30000)
theorem smS_drop {L : List (List UInt8)} {i n : Nat} (h : i < L.length) : smS (L.drop i) i n = if i < 140 ∧ n < 30000 then smS (L.drop (i + 1)) (i + 1) (n + L[i].length) else n := by
  rw [List.drop_eq_getElem_cons h, smS]
theorem small_ab (F : Int) (L : List (List UInt8)) (hL : L.length ≤ 9000000000000000) (hl : ∀ l ∈ L, l.length ≤ 9000000000000000) : Ab Tryz.prog 20 [hsA F L] (ab (smB L)) := by
  refine Fn_of_aw (keep := []) Tryz.func20 rfl rfl (by simp [Tryz.ntmps20]) ?_
  simp only [num_cons, num_nil, Tryz.ntmps20, Tryz.results20]
  repeat' (first
 | ((with_reducible apply awO_ev); (· rfl); (· exact sv))
 | ((with_reducible apply aw_seq); intro _ _)
 | (with_reducible apply aw_region)
 | (with_reducible apply aw_block)
 | ((with_reducible first | apply awO_nil | apply aw_exit | apply aw_skip | apply aw_ret); (try simp only [CT, ↓reduceIte, Nat.reduceEqDiff]))
 | (refine Kont.go ‹Kont _ _ _ _› _ ?_))
  refine aw_loopF (fun x : Nat × Nat => [(3, ai (x.2 : Nat)), (4, ai (x.1 : Nat))]) (fun _ => [(1, [ai F, .rd L.length (L.map az)])]) (fun x => x.1 ≤ L.length ∧ x.2 ≤ 9000000000030000 ∧ smS L 0 0 = smS (L.drop x.1) x.1 x.2) (fun x => L.length - x.1) (0, 0) ⟨by simp, by simp, by rw [List.drop_zero]⟩ ?_ ?_ ?_
  · exact ⟨rfl, rfl, trivial⟩
  · exact ⟨rfl, trivial⟩
  rintro ⟨i, n⟩ ⟨hi, hn, hI⟩
  simp only at hi hn hI
  (simp only [LP, List.append_assoc, List.nil_append, List.cons_append, List.append_nil, List.contains_cons, List.contains_nil, Nat.reduceBEq, Bool.or_false, Bool.or_true, Bool.true_or, Bool.false_or, ↓reduceIte, Bool.false_eq_true])
  have hend : smS L 0 0 = n → smB L = decide (L.length ≤ 140 ∧ n < 30000) := fun h => by unfold smB; rw [h]
  by_cases hil : i < L.length
  · rw [smS_drop hil] at hI
    have hli := hl _ (List.getElem_mem hil)
    by_cases hc : i < 140 ∧ n < 30000
    · rw [if_pos hc] at hI
      repeat' (first
 | ((with_reducible apply awO_ev); (· rfl); (· exact sv))
 | ((with_reducible apply aw_seq); intro _ _)
 | (with_reducible apply aw_region)
 | (with_reducible apply aw_block)
 | ((with_reducible first | apply awO_nil | apply aw_exit | apply aw_skip | apply aw_ret); (try simp only [CT, ↓reduceIte, Nat.reduceEqDiff]))
 | ((with_reducible apply awO_y); (· rfl); (· rfl); (· decide); (· exact sv); (· exact sv))
 | (refine Kont.go ‹Kont _ _ _ _› _ ?_)
 | ((first | ((with_reducible apply awO_guardN); (· rfl); (· rfl); (· exact sv); (· exact nB)) | ((with_reducible apply aw_condN); (· exact sv))); (· exact pN); (· exact pN); all_goals (intro hg; try (exfalso; omega))))
      all_goals (refine LE_mk (i + 1, n + L[i].length) ⟨hil, by simp only; omega, hI⟩ (by simp only; omega) sN sN ⟨rfl, trivial⟩)
    · rw [if_neg hc] at hI
      have e := hend hI
      repeat' (first
 | ((with_reducible apply awO_ev); (· rfl); (· exact sv))
 | ((with_reducible apply aw_seq); intro _ _)
 | (with_reducible apply aw_region)
 | ((with_reducible first | apply awO_nil | apply aw_exit | apply aw_skip | apply aw_ret); (try simp only [CT, ↓reduceIte, Nat.reduceEqDiff]))
 | ((with_reducible apply awO_y); (· rfl); (· rfl); (· decide); (· exact sv); (· exact sv))
 | ((with_reducible apply awO_n); (· rfl); (· rfl); (· decide); (· exact sv); (· rfl); (· rfl); (· decide))
 | ((with_reducible apply aw_cond_false); (· exact sv))
 | (refine Kont.go ‹Kont _ _ _ _› _ ?_)
 | ((first | ((with_reducible apply awO_guardN); (· rfl); (· rfl); (· exact sv); (· exact nB)) | ((with_reducible apply aw_condN); (· exact sv))); (· exact pN); (· exact pN); all_goals (intro hg; try (exfalso; omega)))
 | ((with_reducible apply retQ_mk); (· exact rI); (· exact sv); (· exact sv); rotate_left; (· rfl)))
      all_goals (rw [e]; exact ab_eq (by simp; omega))
  · rw [List.drop_eq_nil_of_le (by omega), smS] at hI
    have e := hend hI
    repeat' (first
 | ((with_reducible apply awO_ev); (· rfl); (· exact sv))
 | ((with_reducible apply aw_seq); intro _ _)
 | (with_reducible apply aw_region)
 | ((with_reducible first | apply awO_nil | apply aw_exit | apply aw_skip | apply aw_ret); (try simp only [CT, ↓reduceIte, Nat.reduceEqDiff]))
 | ((with_reducible apply awO_y); (· rfl); (· rfl); (· decide); (· exact sv); (· exact sv))
 | ((with_reducible apply awO_n); (· rfl); (· rfl); (· decide); (· exact sv); (· rfl); (· rfl); (· decide))
 | ((with_reducible apply aw_cond_false); (· exact sv))
 | (refine Kont.go ‹Kont _ _ _ _› _ ?_)
 | ((first | ((with_reducible apply awO_guardN); (· rfl); (· rfl); (· exact sv); (· exact nB)) | ((with_reducible apply aw_condN); (· exact sv))); (· exact pN); (· exact pN); all_goals (intro hg; try (exfalso; omega)))
 | ((with_reducible apply retQ_mk); (· exact rI); (· exact sv); (· exact sv); rotate_left; (· rfl)))
    all_goals (rw [e]; exact ab_eq (by simp; omega))
def vdS (L : List (List UInt8)) : Nat → Nat → Int
  | 0, _ => 0
  | n + 1, i => if L[i]?.getD [] = [] ∨ (L[i]?.getD []).contains 10 = true then 1 else if 4096 < (L[i]?.getD []).length then 3 else if 0 < i ∧ L[i]?.getD [] = L[i - 1]?.getD [] then 9 else vdS L n (i + 1)
def vdH (F : Int) (L : List (List UInt8)) : Int := if 128 < L.length then 4 else if F < 1 ∨ 2147483519 < F then 2 else vdS L L.length 0
theorem vdS_ok (L : List (List UInt8)) : ∀ (n i : Nat), vdS L n i = 0 → ∀ j, i ≤ j → j < i + n → (L[j]?.getD []).length ≤ 4096 := by
  intro n
  induction n with
  | zero => intro i _ j h1 h2; omega
  | succ n ih =>
    intro i h j h1 h2
    rw [vdS] at h
    split at h
    · cases h
    split at h
    · cases h
    split at h
    · cases h
    next k1 k2 k3 =>
    by_cases hj : j = i
    · subst hj; omega
    · exact ih (i + 1) h j (by omega) (by omega)
theorem vdH_ok {F : Int} {L : List (List UInt8)} (h : vdH F L = 0) : L.length ≤ 128 ∧ (1 ≤ F ∧ F ≤ 2147483519) ∧ ∀ l ∈ L, l.length ≤ 4096 := by
  unfold vdH at h
  split at h
  · cases h
  split at h
  · cases h
  next h1 h2 =>
  refine ⟨by omega, by omega, fun l hl => ?_⟩
  obtain ⟨j, hj, rfl⟩ := List.getElem_of_mem hl
  have := vdS_ok L _ _ h j (by omega) (by omega)
  rwa [List.getElem?_eq_getElem hj, Option.getD_some] at this
theorem valid_ab (F : Int) (L : List (List UInt8)) (hL : L.length ≤ 9000000000000000) (hl : ∀ l ∈ L, l.length ≤ 9000000000000000) : Ab Tryz.prog 21 [hsA F L] (ai (vdH F L)) := by
  by_cases h1 : 128 < L.length
  · have e : vdH F L = 4 := by unfold vdH; rw [if_pos h1]
    rw [e]
    refine Fn_of_aw (keep := []) Tryz.func21 rfl rfl (by simp [Tryz.ntmps21]) ?_
    simp only [num_cons, num_nil, Tryz.ntmps21, Tryz.results21]
    repeat' (first
 | ((with_reducible apply awO_ev); (· rfl); (· exact sv))
 | ((with_reducible apply aw_seq); intro _ _)
 | (with_reducible apply aw_region)
 | ((with_reducible first | apply awO_nil | apply aw_exit | apply aw_skip | apply aw_ret); (try simp only [CT, ↓reduceIte, Nat.reduceEqDiff]))
 | (refine Kont.go ‹Kont _ _ _ _› _ ?_)
 | ((first | ((with_reducible apply awO_guardN); (· rfl); (· rfl); (· exact sv); (· exact nB)) | ((with_reducible apply aw_condN); (· exact sv))); (· exact pN); (· exact pN); all_goals (intro hg; try (exfalso; omega)))
 | ((with_reducible apply retQ_mk); (· exact rI); (· exact sv); (· exact sv); rotate_left; (· rfl)))
    all_goals rfl
  by_cases h2 : F < 1 ∨ 2147483519 < F
  · have e : vdH F L = 2 := by unfold vdH; rw [if_neg h1, if_pos h2]
    rw [e]
    refine Fn_of_aw (keep := []) Tryz.func21 rfl rfl (by simp [Tryz.ntmps21]) ?_
    simp only [num_cons, num_nil, Tryz.ntmps21, Tryz.results21]
    repeat' (first
 | ((with_reducible apply awO_ev); (· rfl); (· exact sv))
 | ((with_reducible apply aw_seq); intro _ _)
 | (with_reducible apply aw_region)
 | ((with_reducible first | apply awO_nil | apply aw_exit | apply aw_skip | apply aw_ret); (try simp only [CT, ↓reduceIte, Nat.reduceEqDiff]))
 | ((with_reducible apply awO_y); (· rfl); (· rfl); (· decide); (· exact sv); (· exact sv))
 | ((with_reducible apply awO_n); (· rfl); (· rfl); (· decide); (· exact sv); (· rfl); (· rfl); (· decide))
 | ((with_reducible apply aw_cond_true); (· exact sv))
 | (refine Kont.go ‹Kont _ _ _ _› _ ?_)
 | ((first | ((with_reducible apply awO_guardN); (· rfl); (· rfl); (· exact sv); (· exact nB)) | ((with_reducible apply aw_condN); (· exact sv))); (· exact pN); (· exact pN); all_goals (intro hg; try (exfalso; omega)))
 | ((with_reducible apply retQ_mk); (· exact rI); (· exact sv); (· exact sv); rotate_left; (· rfl)))
    all_goals rfl
  have e : vdH F L = vdS L L.length 0 := by unfold vdH; rw [if_neg h1, if_neg h2]
  rw [e]
  generalize hR : vdS L L.length 0 = R
  refine Fn_of_aw (keep := []) Tryz.func21 rfl rfl (by simp [Tryz.ntmps21]) ?_
  simp only [num_cons, num_nil, Tryz.ntmps21, Tryz.results21]
  repeat' (first
 | ((with_reducible apply awO_ev); (· rfl); (· exact sv))
 | ((with_reducible apply aw_seq); intro _ _)
 | (with_reducible apply aw_region)
 | (with_reducible apply aw_block)
 | ((with_reducible first | apply awO_nil | apply aw_exit | apply aw_skip | apply aw_ret); (try simp only [CT, ↓reduceIte, Nat.reduceEqDiff]))
 | ((with_reducible apply awO_y); (· rfl); (· rfl); (· decide); (· exact sv); (· exact sv))
 | (refine Kont.go ‹Kont _ _ _ _› _ ?_)
 | ((first | ((with_reducible apply awO_guardN); (· rfl); (· rfl); (· exact sv); (· exact nB)) | ((with_reducible apply aw_condN); (· exact sv))); (· exact pN); (· exact pN); all_goals (intro hg; try (exfalso; omega))))
  refine aw_loopF (fun i : Nat => [(3, ai i)]) (fun _ => [(1, [ai F, .rd L.length (L.map az)])]) (fun i => i ≤ L.length ∧ R = vdS L (L.length - i) i) (fun i => L.length - i) 0 ⟨by omega, by rw [Nat.sub_zero]; exact hR.symm⟩ ?_ ?_ ?_
  · exact ⟨rfl, trivial⟩
  · exact ⟨rfl, trivial⟩
  intro i ⟨hi, hI⟩
  (simp only [LP, List.append_assoc, List.nil_append, List.cons_append, List.append_nil, List.contains_cons, List.contains_nil, Nat.reduceBEq, Bool.or_false, Bool.or_true, Bool.true_or, Bool.false_or, ↓reduceIte, Bool.false_eq_true])
  by_cases hil : i < L.length
  · have hli := hl _ (List.getElem_mem hil)
    rw [show L.length - i = (L.length - (i + 1)) + 1 from by omega, vdS, List.getElem?_eq_getElem hil, Option.getD_some] at hI
    have c1 := feeds_ab L[i] hli
    by_cases k1 : L[i] = []
    · rw [if_pos (.inl k1)] at hI
      have k2 : L[i].length = 0 := by rw [k1]; rfl
      subst hI
      repeat' (first
 | ((with_reducible apply awO_ev); (· rfl); (· exact sv))
 | ((with_reducible apply aw_seq); intro _ _)
 | (with_reducible apply aw_region)
 | (with_reducible apply aw_block)
 | ((with_reducible first | apply awO_nil | apply aw_exit | apply aw_skip | apply aw_ret); (try simp only [CT, ↓reduceIte, Nat.reduceEqDiff]))
 | ((with_reducible apply awO_n); (· rfl); (· rfl); (· decide); (· exact sv); (· rfl); (· rfl); (· decide))
 | ((with_reducible apply aw_cond_true); (· exact sv))
 | (refine Kont.go ‹Kont _ _ _ _› _ ?_)
 | ((first | ((with_reducible apply awO_guardN); (· rfl); (· rfl); (· exact sv); (· exact nB)) | ((with_reducible apply aw_condN); (· exact sv))); (· exact pN); (· exact pN); all_goals (intro hg; try (exfalso; omega)))
 | ((with_reducible apply retQ_mk); (· exact rI); (· exact sv); (· exact sv); rotate_left; (· rfl)))
      all_goals rfl
    have k2 : 0 < L[i].length := List.length_pos_iff.2 k1
    cases hf : L[i].contains 10 with
    | true =>
      rw [if_pos (.inr hf)] at hI
      rw [hf] at c1
      subst hI
      repeat' (first
 | ((with_reducible apply awO_ev); (· rfl); (· exact sv))
 | ((with_reducible apply aw_seq); intro _ _)
 | (with_reducible apply aw_region)
 | (with_reducible apply aw_block)
 | ((with_reducible first | apply awO_nil | apply aw_exit | apply aw_skip | apply aw_ret); (try simp only [CT, ↓reduceIte, Nat.reduceEqDiff]))
 | ((with_reducible apply awO_y); (· rfl); (· rfl); (· decide); (· exact sv); (· exact sv))
 | ((with_reducible apply aw_cond_true); (· exact sv))
 | ((with_reducible apply awO_un); (· rfl); (· decide); (· exact sv))
 | (refine Kont.go ‹Kont _ _ _ _› _ ?_)
 | ((with_reducible apply awO_c); (· rfl); (· rfl); (· exact sv); (· (first | exact c1)); (· rfl); (· rfl); (· rfl); (· decide))
 | ((first | ((with_reducible apply awO_guardN); (· rfl); (· rfl); (· exact sv); (· exact nB)) | ((with_reducible apply aw_condN); (· exact sv))); (· exact pN); (· exact pN); all_goals (intro hg; try (exfalso; omega)))
 | ((with_reducible apply retQ_mk); (· exact rI); (· exact sv); (· exact sv); rotate_left; (· rfl)))
      all_goals rfl
    | false =>
      rw [if_neg (by rw [hf]; simp [k1])] at hI
      rw [hf] at c1
      by_cases k3 : 4096 < L[i].length
      · rw [if_pos k3] at hI
        subst hI
        repeat' (first
 | ((with_reducible apply awO_ev); (· rfl); (· exact sv))
 | ((with_reducible apply aw_seq); intro _ _)
 | (with_reducible apply aw_region)
 | (with_reducible apply aw_block)
 | ((with_reducible first | apply awO_nil | apply aw_exit | apply aw_skip | apply aw_ret); (try simp only [CT, ↓reduceIte, Nat.reduceEqDiff]))
 | ((with_reducible apply awO_y); (· rfl); (· rfl); (· decide); (· exact sv); (· exact sv))
 | ((with_reducible apply aw_cond_false); (· exact sv))
 | ((with_reducible apply awO_un); (· rfl); (· decide); (· exact sv))
 | (refine Kont.go ‹Kont _ _ _ _› _ ?_)
 | ((with_reducible apply awO_c); (· rfl); (· rfl); (· exact sv); (· (first | exact c1)); (· rfl); (· rfl); (· rfl); (· decide))
 | ((first | ((with_reducible apply awO_guardN); (· rfl); (· rfl); (· exact sv); (· exact nB)) | ((with_reducible apply aw_condN); (· exact sv))); (· exact pN); (· exact pN); all_goals (intro hg; try (exfalso; omega)))
 | ((with_reducible apply retQ_mk); (· exact rI); (· exact sv); (· exact sv); rotate_left; (· rfl)))
        all_goals rfl
      rw [if_neg k3] at hI
      by_cases k4 : 0 < i
      · obtain ⟨m, rfl⟩ : ∃ m, i = m + 1 := ⟨i - 1, by omega⟩
        have hml : m < L.length := by omega
        rw [Nat.add_sub_cancel, List.getElem?_eq_getElem hml, Option.getD_some] at hI
        by_cases k5 : L[m + 1] = L[m]
        · rw [if_pos ⟨k4, k5⟩] at hI
          subst hI
          repeat' (first
 | ((with_reducible apply awO_ev); (· rfl); (· exact sv))
 | ((with_reducible apply aw_seq); intro _ _)
 | (with_reducible apply aw_region)
 | (with_reducible apply aw_block)
 | ((with_reducible first | apply awO_nil | apply aw_exit | apply aw_skip | apply aw_ret); (try simp only [CT, ↓reduceIte, Nat.reduceEqDiff]))
 | ((with_reducible apply awO_y); (· rfl); (· rfl); (· decide); (· exact sv); (· exact sv))
 | ((with_reducible apply aw_cond_false); (· exact sv))
 | ((with_reducible apply awO_un); (· rfl); (· decide); (· exact sv))
 | (refine Kont.go ‹Kont _ _ _ _› _ ?_)
 | ((with_reducible apply awO_c); (· rfl); (· rfl); (· exact sv); (· (first | exact c1)); (· rfl); (· rfl); (· rfl); (· decide))
 | ((first | ((with_reducible apply awO_guardN); (· rfl); (· rfl); (· exact sv); (· exact nB)) | ((with_reducible apply aw_condN); (· exact sv))); (· exact pN); (· exact pN); all_goals (intro hg; try (exfalso; omega)))
 | ((with_reducible apply retQ_mk); (· exact rI); (· exact sv); (· exact sv); rotate_left; (· rfl)))
          all_goals first | rfl | exact absurd k5 hg
        · rw [if_neg (fun h => k5 h.2)] at hI
          repeat' (first
 | ((with_reducible apply awO_ev); (· rfl); (· exact sv))
 | ((with_reducible apply aw_seq); intro _ _)
 | (with_reducible apply aw_region)
 | (with_reducible apply aw_block)
 | ((with_reducible first | apply awO_nil | apply aw_exit | apply aw_skip | apply aw_ret); (try simp only [CT, ↓reduceIte, Nat.reduceEqDiff]))
 | ((with_reducible apply awO_y); (· rfl); (· rfl); (· decide); (· exact sv); (· exact sv))
 | ((with_reducible apply aw_cond_false); (· exact sv))
 | ((with_reducible apply awO_un); (· rfl); (· decide); (· exact sv))
 | (refine Kont.go ‹Kont _ _ _ _› _ ?_)
 | ((with_reducible apply awO_c); (· rfl); (· rfl); (· exact sv); (· (first | exact c1)); (· rfl); (· rfl); (· rfl); (· decide))
 | ((first | ((with_reducible apply awO_guardN); (· rfl); (· rfl); (· exact sv); (· exact nB)) | ((with_reducible apply aw_condN); (· exact sv))); (· exact pN); (· exact pN); all_goals (intro hg; try (exfalso; omega)))
 | ((with_reducible apply retQ_mk); (· exact rI); (· exact sv); (· exact sv); rotate_left; (· rfl)))
          all_goals first | exact absurd hg k5 | (refine LE_mk (m + 1 + 1) ⟨by omega, hI⟩ (by omega) sN sN ⟨rfl, trivial⟩)
      · rw [if_neg (fun h => k4 h.1)] at hI
        repeat' (first
 | ((with_reducible apply awO_ev); (· rfl); (· exact sv))
 | ((with_reducible apply aw_seq); intro _ _)
 | (with_reducible apply aw_region)
 | (with_reducible apply aw_block)
 | ((with_reducible first | apply awO_nil | apply aw_exit | apply aw_skip | apply aw_ret); (try simp only [CT, ↓reduceIte, Nat.reduceEqDiff]))
 | ((with_reducible apply awO_y); (· rfl); (· rfl); (· decide); (· exact sv); (· exact sv))
 | ((with_reducible apply awO_n); (· rfl); (· rfl); (· decide); (· exact sv); (· rfl); (· rfl); (· decide))
 | ((with_reducible apply aw_cond_false); (· exact sv))
 | ((with_reducible apply awO_un); (· rfl); (· decide); (· exact sv))
 | (refine Kont.go ‹Kont _ _ _ _› _ ?_)
 | ((with_reducible apply awO_c); (· rfl); (· rfl); (· exact sv); (· (first | exact c1)); (· rfl); (· rfl); (· rfl); (· decide))
 | ((first | ((with_reducible apply awO_guardN); (· rfl); (· rfl); (· exact sv); (· exact nB)) | ((with_reducible apply aw_condN); (· exact sv))); (· exact pN); (· exact pN); all_goals (intro hg; try (exfalso; omega))))
        all_goals (refine LE_mk (i + 1) ⟨by omega, hI⟩ (by omega) sN sN ⟨rfl, trivial⟩)
  · rw [show L.length - i = 0 from by omega, vdS] at hI
    subst hI
    repeat' (first
 | ((with_reducible apply awO_ev); (· rfl); (· exact sv))
 | ((with_reducible apply aw_seq); intro _ _)
 | (with_reducible apply aw_region)
 | ((with_reducible first | apply awO_nil | apply aw_exit | apply aw_skip | apply aw_ret); (try simp only [CT, ↓reduceIte, Nat.reduceEqDiff]))
 | (refine Kont.go ‹Kont _ _ _ _› _ ?_)
 | ((first | ((with_reducible apply awO_guardN); (· rfl); (· rfl); (· exact sv); (· exact nB)) | ((with_reducible apply aw_condN); (· exact sv))); (· exact pN); (· exact pN); all_goals (intro hg; try (exfalso; omega)))
 | ((with_reducible apply retQ_mk); (· exact rI); (· exact sv); (· exact sv); rotate_left; (· rfl)))
    all_goals rfl
/-- Whether the laws say something of a history. -/
def okH (F : Int) (L : List (List UInt8)) : Bool := smB L && decide (vdH F L = 0)
theorem okH_ok {F : Int} {L : List (List UInt8)} (h : okH F L = true) : L.length ≤ 128 ∧ (1 ≤ F ∧ F ≤ 2147483519) ∧ ∀ l ∈ L, l.length ≤ 4096 := by
  unfold okH at h
  simp only [Bool.and_eq_true, decide_eq_true_eq] at h
  exact vdH_ok h.2
theorem ok_ab (F : Int) (L : List (List UInt8)) (hL : L.length ≤ 9000000000000000) (hl : ∀ l ∈ L, l.length ≤ 9000000000000000) : Ab Tryz.prog 10 [hsA F L] (ab (okH F L)) := by
  have c1 := small_ab F L hL hl
  have c2 := valid_ab F L hL hl
  unfold okH
  cases hs : smB L with
  | false =>
    rw [hs] at c1
    refine Fn_of_aw (keep := []) Tryz.func10 rfl rfl (by simp [Tryz.ntmps10]) ?_
    simp only [num_cons, num_nil, Tryz.ntmps10, Tryz.results10]
    repeat' (first
 | ((with_reducible apply awO_ev); (· rfl); (· exact sv))
 | ((with_reducible apply aw_seq); intro _ _)
 | (with_reducible apply aw_region)
 | ((with_reducible first | apply awO_nil | apply aw_exit | apply aw_skip | apply aw_ret); (try simp only [CT, ↓reduceIte, Nat.reduceEqDiff]))
 | ((with_reducible apply awO_n); (· rfl); (· rfl); (· decide); (· exact sv); (· rfl); (· rfl); (· decide))
 | (refine Kont.go ‹Kont _ _ _ _› _ ?_)
 | ((with_reducible apply awO_c); (· rfl); (· rfl); (· exact sv); (· (first | exact c1 | exact c2)); (· rfl); (· rfl); (· rfl); (· decide))
 | ((with_reducible apply retQ_mk); (· exact rI); (· exact sv); (· exact sv); rotate_left; (· rfl)))
    all_goals rfl
  | true =>
    rw [hs] at c1
    refine Fn_of_aw (keep := []) Tryz.func10 rfl rfl (by simp [Tryz.ntmps10]) ?_
    simp only [num_cons, num_nil, Tryz.ntmps10, Tryz.results10]
    repeat' (first
 | ((with_reducible apply awO_ev); (· rfl); (· exact sv))
 | ((with_reducible apply aw_seq); intro _ _)
 | (with_reducible apply aw_region)
 | ((with_reducible first | apply awO_nil | apply aw_exit | apply aw_skip | apply aw_ret); (try simp only [CT, ↓reduceIte, Nat.reduceEqDiff]))
 | ((with_reducible apply awO_y); (· rfl); (· rfl); (· decide); (· exact sv); (· exact sv))
 | ((with_reducible apply awO_un); (· rfl); (· decide); (· exact sv))
 | (refine Kont.go ‹Kont _ _ _ _› _ ?_)
 | ((with_reducible apply awO_c); (· rfl); (· rfl); (· exact sv); (· (first | exact c1 | exact c2)); (· rfl); (· rfl); (· rfl); (· decide))
 | ((with_reducible apply retQ_mk); (· exact rI); (· exact sv); (· exact sv); rotate_left; (· rfl)))
    all_goals rfl
end Go.Proofs.YtgbhjlkenfmadaaGreatDoor
