/- The document's bang: Words, stays, kept, on the abstract machine. -/
import Derived.Test.YtgbhjlkenfmadaaGreatDoorBhB
import Derived.Test.YtgbhjlkenfmadaaGreatDoorBgM
import Derived.Test.YtgbhjlkenfmadaaGreatDoorLxW
namespace Go.Proofs.YtgbhjlkenfmadaaGreatDoor
open Go.RowKit
set_option linter.unusedVariables false
set_option linter.unusedSimpArgs false
set_option maxRecDepth 100000
set_option maxHeartbeats 16000000
theorem tp2b {a a' : Int} {b b' : Bool} (h1 : a = a') (h2 : b = b') : AV.tp [.v (.int .i64 a), .v (.bool b)] = .tp [ai a', ab b'] := by rw [h1, h2]
theorem cutE_nil {s : List UInt8} {f i : Nat} (h1 : f ≤ i) (h2 : i ≤ s.length) : (s.drop f).take (i - f) = [] ↔ f = i := by
  constructor
  · intro h
    have := congrArg List.length h
    simp only [List.length_take, List.length_drop, List.length_nil] at this
    omega
  · intro h; subst h; simp
theorem cutE_snoc {s : List UInt8} {f i : Nat} (h1 : f ≤ i) (h2 : i < s.length) : (s.drop f).take (i + 1 - f) = (s.drop f).take (i - f) ++ [s[i]] := by
  have h : i - f < (s.drop f).length := by simp only [List.length_drop]; omega
  rw [show i + 1 - f = i - f + 1 from by omega, List.take_succ_eq_append_getElem h]
  simp only [List.getElem_drop, show f + (i - f) = i from by omega]
theorem rwords4_ab (s : List UInt8) (hs : s.length ≤ 1000000) : Ab Tryz.prog 8 [az s] (strsA (wordsF s)) := by
  have c1 := rall_ab s hs
  unfold allA at c1
  have hf := (fldB_len s []).1
  by_cases he : (allF s).2.2 = 0
  · rw [if_pos he] at c1
    have hT := allT_len0 s (s.length + 2) 0
    rw [show allT s (s.length + 2) 0 = allF s from rfl] at hT
    have e : wordsF s = ((allF s).1.filter kindB).map (·.text) := by unfold wordsF; rw [if_neg (by simpa using he)]
    rw [e]
    generalize hTk : (allF s).1 = Tk at *
    refine Fn_of_aw (keep := []) Tryz.func8 rfl rfl (by simp [Tryz.ntmps8]) ?_
    simp only [num_cons, num_nil, Tryz.ntmps8, Tryz.results8]
    repeat' (first
 | ((with_reducible apply awO_ev); (· rfl); (· exact sv))
 | ((with_reducible apply aw_seq); intro _ _)
 | (with_reducible apply aw_region)
 | (with_reducible apply aw_block)
 | ((with_reducible first | apply awO_nil | apply aw_exit | apply aw_skip | apply aw_ret); (try simp only [CT, ↓reduceIte, Nat.reduceEqDiff]))
 | (refine Kont.go ‹Kont _ _ _ _› _ ?_)
 | ((with_reducible apply awO_c); (· rfl); (· rfl); (· exact sv); (· (first | exact c1)); (· rfl); (· rfl); (· rfl); (· decide))
 | ((first | ((with_reducible apply awO_guardN); (· rfl); (· rfl); (· exact sv); (· exact nB)) | ((with_reducible apply aw_condN); (· exact sv))); (· exact pN); (· exact pN); all_goals (intro hg; try (exfalso; omega))))
    refine aw_virt 6 100 1 rfl (by decide) (by simp) ?_
    refine aw_st svs ?_
    refine aw_loopF (fun x : Nat × List (List UInt8) => [(9, ai x.1), (6, .os 100 0 1 x.2.length)]) (fun x => [(100, x.2.map az)]) (fun x => x.1 ≤ Tk.length ∧ x.2 = ((Tk.take x.1).filter kindB).map (·.text)) (fun x => Tk.length - x.1) (0, []) ⟨by simp, rfl⟩ ?_ ?_ ?_
    · exact ⟨rfl, rfl, trivial⟩
    · exact ⟨rfl, trivial⟩
    rintro ⟨k, M⟩ ⟨hk, hM⟩
    simp only at hk hM
    have hMl : M.length ≤ k := by rw [hM, List.length_map]; exact Nat.le_trans (List.length_filter_le _ _) (by rw [List.length_take]; omega)
    (simp only [LP, List.append_assoc, List.nil_append, List.cons_append, List.append_nil, List.contains_cons, List.contains_nil, Nat.reduceBEq, Bool.or_false, Bool.or_true, Bool.true_or, Bool.false_or, ↓reduceIte, Bool.false_eq_true])
    by_cases hkl : k < Tk.length
    · have hst : (Tk.take (k + 1)).filter kindB = (Tk.take k).filter kindB ++ if kindB Tk[k] = true then [Tk[k]] else [] := by
        rw [List.take_succ_eq_append_getElem hkl, List.filter_append, List.filter_cons, List.filter_nil]
      by_cases hkd : kindB Tk[k] = true
      · rw [if_pos hkd] at hst
        simp only [kindB, decide_eq_true_eq] at hkd
        repeat' (first
 | ((with_reducible apply awO_ev); (· rfl); (· exact sv))
 | ((with_reducible apply aw_seq); intro _ _)
 | (with_reducible apply aw_region)
 | (with_reducible apply aw_block)
 | ((with_reducible first | apply awO_nil | apply aw_exit | apply aw_skip | apply aw_ret); (try simp only [CT, ↓reduceIte, Nat.reduceEqDiff]))
 | ((with_reducible apply awO_y); (· rfl); (· rfl); (· decide); (· exact sv); (· exact sv))
 | ((with_reducible apply awO_n); (· rfl); (· rfl); (· decide); (· exact sv); (· rfl); (· rfl); (· decide))
 | ((with_reducible apply aw_cond_true); (· exact sv))
 | (refine Kont.go ‹Kont _ _ _ _› _ ?_)
 | ((first | ((with_reducible apply awO_guardN); (· rfl); (· rfl); (· exact sv); (· exact nB)) | ((with_reducible apply aw_condN); (· exact sv))); (· exact pN); (· exact pN); all_goals (intro hg; try (exfalso; omega))))
        all_goals
          refine LE_mk ((k + 1, M ++ [Tk[k].text])) ?_ ?_ sN sN sN
          · refine ⟨hkl, ?_⟩
            simp only [hst, List.map_append, List.map_cons, List.map_nil, ← hM]
          · simp only; omega
      · rw [if_neg hkd, List.append_nil] at hst
        simp only [kindB, decide_eq_true_eq, not_or] at hkd
        repeat' (first
 | ((with_reducible apply awO_ev); (· rfl); (· exact sv))
 | ((with_reducible apply aw_seq); intro _ _)
 | (with_reducible apply aw_region)
 | (with_reducible apply aw_block)
 | ((with_reducible first | apply awO_nil | apply aw_exit | apply aw_skip | apply aw_ret); (try simp only [CT, ↓reduceIte, Nat.reduceEqDiff]))
 | ((with_reducible apply awO_y); (· rfl); (· rfl); (· decide); (· exact sv); (· exact sv))
 | (refine Kont.go ‹Kont _ _ _ _› _ ?_)
 | ((first | ((with_reducible apply awO_guardN); (· rfl); (· rfl); (· exact sv); (· exact nB)) | ((with_reducible apply aw_condN); (· exact sv))); (· exact pN); (· exact pN); all_goals (intro hg; try (exfalso; omega))))
        all_goals
          refine LE_mk ((k + 1, M)) ?_ ?_ sN sN sN
          · refine ⟨hkl, ?_⟩
            simp only [hst, ← hM]
          · simp only; omega
    · have hMD : M = (Tk.filter kindB).map (·.text) := by rw [hM, List.take_of_length_le (by omega)]
      repeat' (first
 | ((with_reducible apply awO_ev); (· rfl); (· exact sv))
 | ((with_reducible apply aw_seq); intro _ _)
 | (with_reducible apply aw_region)
 | ((with_reducible first | apply awO_nil | apply aw_exit | apply aw_skip | apply aw_ret); (try simp only [CT, ↓reduceIte, Nat.reduceEqDiff]))
 | (refine Kont.go ‹Kont _ _ _ _› _ ?_)
 | ((first | ((with_reducible apply awO_guardN); (· rfl); (· rfl); (· exact sv); (· exact nB)) | ((with_reducible apply aw_condN); (· exact sv))); (· exact pN); (· exact pN); all_goals (intro hg; try (exfalso; omega)))
 | ((with_reducible apply retQ_mk); (· exact rI); (· exact sv); (· exact sv); rotate_left; (· rfl)))
      all_goals (rw [← hMD]; done)
  · rw [if_neg he] at c1
    have e : wordsF s = fldB [] s := by unfold wordsF; rw [if_pos he]
    rw [e]
    generalize hD : fldB [] s = D at *
    refine Fn_of_aw (keep := []) Tryz.func8 rfl rfl (by simp [Tryz.ntmps8]) ?_
    simp only [num_cons, num_nil, Tryz.ntmps8, Tryz.results8]
    repeat' (first
 | ((with_reducible apply awO_ev); (· rfl); (· exact sv))
 | ((with_reducible apply aw_seq); intro _ _)
 | (with_reducible apply aw_region)
 | (with_reducible apply aw_block)
 | ((with_reducible first | apply awO_nil | apply aw_exit | apply aw_skip | apply aw_ret); (try simp only [CT, ↓reduceIte, Nat.reduceEqDiff]))
 | (refine Kont.go ‹Kont _ _ _ _› _ ?_)
 | ((with_reducible apply awO_c); (· rfl); (· rfl); (· exact sv); (· (first | exact c1)); (· rfl); (· rfl); (· rfl); (· decide))
 | ((first | ((with_reducible apply awO_guardN); (· rfl); (· rfl); (· exact sv); (· exact nB)) | ((with_reducible apply aw_condN); (· exact sv))); (· exact pN); (· exact pN); all_goals (intro hg; try (exfalso; omega))))
    refine aw_virt 6 100 1 rfl (by decide) (by simp) ?_
    refine aw_st svs ?_
    refine aw_loopF (fun x : Nat × Nat × List (List UInt8) => [(7, ai x.2.1), (8, ai x.1), (6, .os 100 0 1 x.2.2.length)]) (fun x => [(100, x.2.2.map az)]) (fun x => x.2.1 ≤ x.1 ∧ x.1 ≤ s.length + 1 ∧ x.2.2.length ≤ x.1 ∧ (if x.1 ≤ s.length then D = x.2.2 ++ fldB ((s.drop x.2.1).take (x.1 - x.2.1)) (s.drop x.1) else D = x.2.2)) (fun x => s.length + 1 - x.1) (0, 0, []) ⟨Nat.le_refl _, by simp, Nat.le_refl _, by simp [hD]⟩ ?_ ?_ ?_
    · exact ⟨rfl, rfl, rfl, trivial⟩
    · exact ⟨rfl, trivial⟩
    rintro ⟨i, f, M⟩ ⟨hfi, hi, hMl, hI⟩
    simp only at hfi hi hMl hI
    (simp only [LP, List.append_assoc, List.nil_append, List.cons_append, List.append_nil, List.contains_cons, List.contains_nil, Nat.reduceBEq, Bool.or_false, Bool.or_true, Bool.true_or, Bool.false_or, ↓reduceIte, Bool.false_eq_true])
    by_cases hil : i < s.length
    · rw [if_pos (by omega), List.drop_eq_getElem_cons hil, fldB] at hI
      have hcs := cutE_snoc (s := s) hfi hil
      have hcn := cutE_nil (s := s) hfi (by omega)
      by_cases hc : s[i] = 9 ∨ s[i] = 32
      · rw [if_pos hc] at hI
        have hn : s[i].toNat = 9 ∨ s[i].toNat = 32 := by rcases hc with h | h <;> rw [h] <;> decide
        by_cases hfe : f = i
        · rw [if_pos (hcn.2 hfe)] at hI
          repeat' (first
 | ((with_reducible apply awO_ev); (· rfl); (· exact sv))
 | ((with_reducible apply aw_seq); intro _ _)
 | (with_reducible apply aw_region)
 | (with_reducible apply aw_block)
 | ((with_reducible first | apply awO_nil | apply aw_exit | apply aw_skip | apply aw_ret); (try simp only [CT, ↓reduceIte, Nat.reduceEqDiff]))
 | ((with_reducible apply awO_y); (· rfl); (· rfl); (· decide); (· exact sv); (· exact sv))
 | ((with_reducible apply awO_n); (· rfl); (· rfl); (· decide); (· exact sv); (· rfl); (· rfl); (· decide))
 | ((with_reducible apply aw_cond_true); (· exact sv))
 | (refine Kont.go ‹Kont _ _ _ _› _ ?_)
 | ((first | ((with_reducible apply awO_guardN); (· rfl); (· rfl); (· exact sv); (· exact nB)) | ((with_reducible apply aw_condN); (· exact sv))); (· exact pN); (· exact pN); all_goals (intro hg; try (exfalso; omega))))
          all_goals
            refine LE_mk ((i + 1, i + 1, M)) ?_ ?_ sN sN sN
            · refine ⟨Nat.le_refl _, by simp only; omega, by simp only; omega, ?_⟩
              simp only
              rw [if_pos (show i + 1 ≤ s.length from hil), Nat.sub_self, List.take_zero]
              exact hI
            · simp only; omega
        · rw [if_neg (fun h => hfe (hcn.1 h))] at hI
          repeat' (first
 | ((with_reducible apply awO_ev); (· rfl); (· exact sv))
 | ((with_reducible apply aw_seq); intro _ _)
 | (with_reducible apply aw_region)
 | (with_reducible apply aw_block)
 | ((with_reducible first | apply awO_nil | apply aw_exit | apply aw_skip | apply aw_ret); (try simp only [CT, ↓reduceIte, Nat.reduceEqDiff]))
 | ((with_reducible apply awO_y); (· rfl); (· rfl); (· decide); (· exact sv); (· exact sv))
 | ((with_reducible apply awO_n); (· rfl); (· rfl); (· decide); (· exact sv); (· rfl); (· rfl); (· decide))
 | ((with_reducible apply aw_cond_true); (· exact sv))
 | (refine Kont.go ‹Kont _ _ _ _› _ ?_)
 | ((first | ((with_reducible apply awO_guardN); (· rfl); (· rfl); (· exact sv); (· exact nB)) | ((with_reducible apply aw_condN); (· exact sv))); (· exact pN); (· exact pN); all_goals (intro hg; try (exfalso; omega))))
          all_goals
            refine LE_mk ((i + 1, i + 1, M ++ [(s.drop f).take (i - f)])) ?_ ?_ sN sN sN
            · refine ⟨Nat.le_refl _, by simp only; omega, by simp only [List.length_append, List.length_cons, List.length_nil]; omega, ?_⟩
              simp only
              rw [if_pos (show i + 1 ≤ s.length from hil), Nat.sub_self, List.take_zero, hI]
              simp
            · simp only; omega
      · rw [if_neg hc, ← hcs] at hI
        have hn : ¬ s[i].toNat = 9 ∧ ¬ s[i].toNat = 32 := ⟨fun h => hc (.inl (UInt8.toNat_inj.1 h)), fun h => hc (.inr (UInt8.toNat_inj.1 h))⟩
        repeat' (first
 | ((with_reducible apply awO_ev); (· rfl); (· exact sv))
 | ((with_reducible apply aw_seq); intro _ _)
 | (with_reducible apply aw_region)
 | (with_reducible apply aw_block)
 | ((with_reducible first | apply awO_nil | apply aw_exit | apply aw_skip | apply aw_ret); (try simp only [CT, ↓reduceIte, Nat.reduceEqDiff]))
 | ((with_reducible apply awO_y); (· rfl); (· rfl); (· decide); (· exact sv); (· exact sv))
 | (refine Kont.go ‹Kont _ _ _ _› _ ?_)
 | ((first | ((with_reducible apply awO_guardN); (· rfl); (· rfl); (· exact sv); (· exact nB)) | ((with_reducible apply aw_condN); (· exact sv))); (· exact pN); (· exact pN); all_goals (intro hg; try (exfalso; omega))))
        all_goals
          refine LE_mk ((i + 1, f, M)) ?_ ?_ sN sN sN
          · refine ⟨by simp only; omega, by simp only; omega, by simp only; omega, ?_⟩
            simp only
            rw [if_pos (show i + 1 ≤ s.length from hil)]
            exact hI
          · simp only; omega
    · by_cases hie : i = s.length
      · have hcn := cutE_nil (s := s) hfi (by omega)
        rw [if_pos (by omega), show s.drop i = [] from List.drop_eq_nil_of_le (by omega), fldB] at hI
        by_cases hfe : f = i
        · rw [if_pos (hcn.2 hfe), List.append_nil] at hI
          repeat' (first
 | ((with_reducible apply awO_ev); (· rfl); (· exact sv))
 | ((with_reducible apply aw_seq); intro _ _)
 | (with_reducible apply aw_region)
 | (with_reducible apply aw_block)
 | ((with_reducible first | apply awO_nil | apply aw_exit | apply aw_skip | apply aw_ret); (try simp only [CT, ↓reduceIte, Nat.reduceEqDiff]))
 | ((with_reducible apply awO_n); (· rfl); (· rfl); (· decide); (· exact sv); (· rfl); (· rfl); (· decide))
 | ((with_reducible apply aw_cond_true); (· exact sv))
 | (refine Kont.go ‹Kont _ _ _ _› _ ?_)
 | ((first | ((with_reducible apply awO_guardN); (· rfl); (· rfl); (· exact sv); (· exact nB)) | ((with_reducible apply aw_condN); (· exact sv))); (· exact pN); (· exact pN); all_goals (intro hg; try (exfalso; omega))))
          all_goals
            refine LE_mk ((i + 1, i + 1, M)) ?_ ?_ sN sN sN
            · refine ⟨Nat.le_refl _, by simp only; omega, by simp only; omega, ?_⟩
              simp only
              rw [if_neg (by omega)]
              exact hI
            · simp only; omega
        · rw [if_neg (fun h => hfe (hcn.1 h))] at hI
          repeat' (first
 | ((with_reducible apply awO_ev); (· rfl); (· exact sv))
 | ((with_reducible apply aw_seq); intro _ _)
 | (with_reducible apply aw_region)
 | (with_reducible apply aw_block)
 | ((with_reducible first | apply awO_nil | apply aw_exit | apply aw_skip | apply aw_ret); (try simp only [CT, ↓reduceIte, Nat.reduceEqDiff]))
 | ((with_reducible apply awO_n); (· rfl); (· rfl); (· decide); (· exact sv); (· rfl); (· rfl); (· decide))
 | ((with_reducible apply aw_cond_true); (· exact sv))
 | (refine Kont.go ‹Kont _ _ _ _› _ ?_)
 | ((first | ((with_reducible apply awO_guardN); (· rfl); (· rfl); (· exact sv); (· exact nB)) | ((with_reducible apply aw_condN); (· exact sv))); (· exact pN); (· exact pN); all_goals (intro hg; try (exfalso; omega))))
          all_goals
            refine LE_mk ((i + 1, i + 1, M ++ [(s.drop f).take (i - f)])) ?_ ?_ sN sN sN
            · refine ⟨Nat.le_refl _, by simp only; omega, by simp only [List.length_append, List.length_cons, List.length_nil]; omega, ?_⟩
              simp only
              rw [if_neg (by omega)]
              exact hI
            · simp only; omega
      · rw [if_neg (by omega)] at hI
        repeat' (first
 | ((with_reducible apply awO_ev); (· rfl); (· exact sv))
 | ((with_reducible apply aw_seq); intro _ _)
 | (with_reducible apply aw_region)
 | ((with_reducible first | apply awO_nil | apply aw_exit | apply aw_skip | apply aw_ret); (try simp only [CT, ↓reduceIte, Nat.reduceEqDiff]))
 | (refine Kont.go ‹Kont _ _ _ _› _ ?_)
 | ((first | ((with_reducible apply awO_guardN); (· rfl); (· rfl); (· exact sv); (· exact nB)) | ((with_reducible apply aw_condN); (· exact sv))); (· exact pN); (· exact pN); all_goals (intro hg; try (exfalso; omega)))
 | ((with_reducible apply retQ_mk); (· exact rI); (· exact sv); (· exact sv); rotate_left; (· rfl)))
        all_goals (rw [hI]; done)
/-- Whether the ! at i is copied because of the byte behind it. -/
def styB (s : List UInt8) (i : Nat) (d : Bool) : Bool := decide (s.length = i + 1) || List.contains [9, 10, 32, 61, 40] (atB s (i + 1)) || (d && decide (atB s (i + 1) = 34))
theorem rstays_ab (s : List UInt8) (i : Nat) (z : Int) (d : Bool) (hz : z = i) (hi : i < s.length) (hs : s.length ≤ 100000) : Ab Tryz.prog 44 [az s, ai z, ab d] (ab (styB s i d)) := by
  subst hz
  by_cases h1 : s.length = i + 1
  · have e : styB s i d = true := by unfold styB; rw [decide_eq_true h1]; rfl
    refine Fn_of_aw (keep := []) Tryz.func44 rfl rfl (by simp [Tryz.ntmps44]) ?_
    simp only [num_cons, num_nil, Tryz.ntmps44, Tryz.results44]
    repeat' (first
 | ((with_reducible apply awO_ev); (· rfl); (· exact sv))
 | ((with_reducible apply aw_seq); intro _ _)
 | (with_reducible apply aw_region)
 | ((with_reducible first | apply awO_nil | apply aw_exit | apply aw_skip | apply aw_ret); (try simp only [CT, ↓reduceIte, Nat.reduceEqDiff]))
 | ((with_reducible apply awO_n); (· rfl); (· rfl); (· decide); (· exact sv); (· rfl); (· rfl); (· decide))
 | ((with_reducible apply awO_u); (· rfl); (· rfl); (· exact svr); (· rfl); (· decide))
 | (refine Kont.go ‹Kont _ _ _ _› _ ?_)
 | ((first | ((with_reducible apply awO_guardN); (· rfl); (· rfl); (· exact sv); (· exact nB)) | ((with_reducible apply aw_condN); (· exact sv))); (· exact pN); (· exact pN); all_goals (intro hg; try (exfalso; omega)))
 | ((with_reducible apply retQ_mk); (· exact rI); (· exact sv); (· exact sv); rotate_left; (· rfl)))
    all_goals first | rfl | (rw [e]; done) | (rw [e]; rfl)
  have hi1 : i + 1 < s.length := by omega
  have c1 := rin_ab [9, 10, 32, 61, 40] s[i + 1] (by decide)
  have e0 : styB s i d = (List.contains [9, 10, 32, 61, 40] s[i + 1] || (d && decide (s[i + 1] = 34))) := by unfold styB; rw [decide_eq_false h1, Bool.false_or, atB_lt hi1]
  cases h2 : List.contains [9, 10, 32, 61, 40] s[i + 1] with
  | true =>
    rw [h2] at c1 e0
    have e : styB s i d = true := by rw [e0]; rfl
    refine Fn_of_aw (keep := []) Tryz.func44 rfl rfl (by simp [Tryz.ntmps44]) ?_
    simp only [num_cons, num_nil, Tryz.ntmps44, Tryz.results44]
    repeat' (first
 | ((with_reducible apply awO_ev); (· rfl); (· exact sv))
 | ((with_reducible apply aw_seq); intro _ _)
 | (with_reducible apply aw_region)
 | ((with_reducible first | apply awO_nil | apply aw_exit | apply aw_skip | apply aw_ret); (try simp only [CT, ↓reduceIte, Nat.reduceEqDiff]))
 | ((with_reducible apply awO_y); (· rfl); (· rfl); (· decide); (· exact sv); (· exact sv))
 | ((with_reducible apply awO_n); (· rfl); (· rfl); (· decide); (· exact sv); (· rfl); (· rfl); (· decide))
 | ((with_reducible apply awO_u); (· rfl); (· rfl); (· exact svr); (· rfl); (· decide))
 | ((with_reducible apply awO_un); (· rfl); (· decide); (· exact sv))
 | (refine Kont.go ‹Kont _ _ _ _› _ ?_)
 | ((with_reducible apply awO_c); (· rfl); (· rfl); (· exact sv); (· (first | exact c1)); (· rfl); (· rfl); (· rfl); (· decide))
 | ((first | ((with_reducible apply awO_guardN); (· rfl); (· rfl); (· exact sv); (· exact nB)) | ((with_reducible apply aw_condN); (· exact sv))); (· exact pN); (· exact pN); all_goals (intro hg; try (exfalso; omega)))
 | ((with_reducible apply retQ_mk); (· exact rI); (· exact sv); (· exact sv); rotate_left; (· rfl)))
    all_goals first | rfl | (rw [e]; done) | (rw [e]; rfl)
  | false =>
    rw [h2] at c1 e0
    cases d with
    | false =>
      have e : styB s i false = false := by rw [e0]; rfl
      refine Fn_of_aw (keep := []) Tryz.func44 rfl rfl (by simp [Tryz.ntmps44]) ?_
      simp only [num_cons, num_nil, Tryz.ntmps44, Tryz.results44]
      repeat' (first
 | ((with_reducible apply awO_ev); (· rfl); (· exact sv))
 | ((with_reducible apply aw_seq); intro _ _)
 | (with_reducible apply aw_region)
 | ((with_reducible first | apply awO_nil | apply aw_exit | apply aw_skip | apply aw_ret); (try simp only [CT, ↓reduceIte, Nat.reduceEqDiff]))
 | ((with_reducible apply awO_y); (· rfl); (· rfl); (· decide); (· exact sv); (· exact sv))
 | ((with_reducible apply awO_n); (· rfl); (· rfl); (· decide); (· exact sv); (· rfl); (· rfl); (· decide))
 | ((with_reducible apply awO_un); (· rfl); (· decide); (· exact sv))
 | (refine Kont.go ‹Kont _ _ _ _› _ ?_)
 | ((with_reducible apply awO_c); (· rfl); (· rfl); (· exact sv); (· (first | exact c1)); (· rfl); (· rfl); (· rfl); (· decide))
 | ((first | ((with_reducible apply awO_guardN); (· rfl); (· rfl); (· exact sv); (· exact nB)) | ((with_reducible apply aw_condN); (· exact sv))); (· exact pN); (· exact pN); all_goals (intro hg; try (exfalso; omega)))
 | ((with_reducible apply retQ_mk); (· exact rI); (· exact sv); (· exact sv); rotate_left; (· rfl)))
      all_goals first | rfl | (rw [e]; done) | (rw [e]; rfl)
    | true =>
      by_cases h3 : s[i + 1] = 34
      · have h3n : s[i + 1].toNat = 34 := by rw [h3]; rfl
        have e : styB s i true = true := by rw [e0, decide_eq_true h3]; rfl
        refine Fn_of_aw (keep := []) Tryz.func44 rfl rfl (by simp [Tryz.ntmps44]) ?_
        simp only [num_cons, num_nil, Tryz.ntmps44, Tryz.results44]
        repeat' (first
 | ((with_reducible apply awO_ev); (· rfl); (· exact sv))
 | ((with_reducible apply aw_seq); intro _ _)
 | (with_reducible apply aw_region)
 | ((with_reducible first | apply awO_nil | apply aw_exit | apply aw_skip | apply aw_ret); (try simp only [CT, ↓reduceIte, Nat.reduceEqDiff]))
 | ((with_reducible apply awO_y); (· rfl); (· rfl); (· decide); (· exact sv); (· exact sv))
 | ((with_reducible apply awO_un); (· rfl); (· decide); (· exact sv))
 | (refine Kont.go ‹Kont _ _ _ _› _ ?_)
 | ((with_reducible apply awO_c); (· rfl); (· rfl); (· exact sv); (· (first | exact c1)); (· rfl); (· rfl); (· rfl); (· decide))
 | ((first | ((with_reducible apply awO_guardN); (· rfl); (· rfl); (· exact sv); (· exact nB)) | ((with_reducible apply aw_condN); (· exact sv))); (· exact pN); (· exact pN); all_goals (intro hg; try (exfalso; omega)))
 | ((with_reducible apply retQ_mk); (· exact rI); (· exact sv); (· exact sv); rotate_left; (· rfl)))
        all_goals first | rfl | (rw [e]; done) | (rw [e]; exact ab_eq (by simp; omega))
      · have h3n : ¬ s[i + 1].toNat = 34 := fun h => h3 (UInt8.toNat_inj.1 h)
        have e : styB s i true = false := by rw [e0, decide_eq_false h3]; rfl
        refine Fn_of_aw (keep := []) Tryz.func44 rfl rfl (by simp [Tryz.ntmps44]) ?_
        simp only [num_cons, num_nil, Tryz.ntmps44, Tryz.results44]
        repeat' (first
 | ((with_reducible apply awO_ev); (· rfl); (· exact sv))
 | ((with_reducible apply aw_seq); intro _ _)
 | (with_reducible apply aw_region)
 | ((with_reducible first | apply awO_nil | apply aw_exit | apply aw_skip | apply aw_ret); (try simp only [CT, ↓reduceIte, Nat.reduceEqDiff]))
 | ((with_reducible apply awO_y); (· rfl); (· rfl); (· decide); (· exact sv); (· exact sv))
 | ((with_reducible apply awO_un); (· rfl); (· decide); (· exact sv))
 | (refine Kont.go ‹Kont _ _ _ _› _ ?_)
 | ((with_reducible apply awO_c); (· rfl); (· rfl); (· exact sv); (· (first | exact c1)); (· rfl); (· rfl); (· rfl); (· decide))
 | ((first | ((with_reducible apply awO_guardN); (· rfl); (· rfl); (· exact sv); (· exact nB)) | ((with_reducible apply aw_condN); (· exact sv))); (· exact pN); (· exact pN); all_goals (intro hg; try (exfalso; omega)))
 | ((with_reducible apply retQ_mk); (· exact rI); (· exact sv); (· exact sv); rotate_left; (· rfl)))
        all_goals first | rfl | (rw [e]; done) | (rw [e]; exact ab_eq (by simp; omega))
theorem styB_pl {s : List UInt8} {i : Nat} {d : Bool} (h : styB s i d = true) : plB s i = true := by
  unfold styB at h
  unfold plB
  simp only [Bool.or_eq_true, decide_eq_true_eq, Bool.and_eq_true] at h ⊢
  rcases h with (h | h) | ⟨_, h⟩
  · exact .inl (by omega)
  · rw [List.contains_iff_mem] at h
    simp only [List.mem_cons, List.not_mem_nil, or_false] at h
    rcases h with h | h | h | h | h <;> rw [h] <;> exact .inr ⟨by decide, by decide⟩
  · rw [h]; exact .inr ⟨by decide, by decide⟩
theorem rkept_ab (s : List UInt8) (i : Nat) (z : Int) (d : Bool) (hz : z = i) (hi : i < s.length) (hs : s.length ≤ 100000) : Ab Tryz.prog 45 [az s, ai z, ab d] (.tp [ai ((kepF s i d).1 : Nat), ab (kepF s i d).2]) := by
  subst hz
  have hat := atB_lt hi
  by_cases h1 : s[i] = 92 ∧ i + 1 < s.length
  · have h1n : s[i].toNat = 92 := by rw [h1.1]; rfl
    have h1l := h1.2
    have e : kepF s i d = (i + 2, d) := by unfold kepF; rw [hat, if_pos h1]
    rw [e]
    refine Fn_of_aw (keep := []) Tryz.func45 rfl rfl (by simp [Tryz.ntmps45]) ?_
    simp only [num_cons, num_nil, Tryz.ntmps45, Tryz.results45]
    repeat' (first
 | ((with_reducible apply awO_ev); (· rfl); (· exact sv))
 | ((with_reducible apply aw_seq); intro _ _)
 | (with_reducible apply aw_region)
 | (with_reducible apply aw_block)
 | ((with_reducible first | apply awO_nil | apply aw_exit | apply aw_skip | apply aw_ret); (try simp only [CT, ↓reduceIte, Nat.reduceEqDiff]))
 | ((with_reducible apply awO_y); (· rfl); (· rfl); (· decide); (· exact sv); (· exact sv))
 | (refine Kont.go ‹Kont _ _ _ _› _ ?_)
 | ((first | ((with_reducible apply awO_guardN); (· rfl); (· rfl); (· exact sv); (· exact nB)) | ((with_reducible apply aw_condN); (· exact sv))); (· exact pN); (· exact pN); all_goals (intro hg; try (exfalso; omega)))
 | ((with_reducible apply retQ_mk); (· exact rI); (· exact sv); (· exact sv); rotate_left; (· rfl)))
    all_goals first | rfl | exact tp2b (by omega) rfl
  have h1n : ¬ (s[i].toNat = 92 ∧ i + 1 < s.length) := fun h => h1 ⟨UInt8.toNat_inj.1 h.1, h.2⟩
  by_cases h2 : s[i] = 34
  · have h2n : s[i].toNat = 34 := by rw [h2]; rfl
    have e : kepF s i d = (i + 1, !d) := by unfold kepF; rw [hat, if_neg h1, if_pos h2]
    rw [e]
    refine Fn_of_aw (keep := []) Tryz.func45 rfl rfl (by simp [Tryz.ntmps45]) ?_
    simp only [num_cons, num_nil, Tryz.ntmps45, Tryz.results45]
    repeat' (first
 | ((with_reducible apply awO_ev); (· rfl); (· exact sv))
 | ((with_reducible apply aw_seq); intro _ _)
 | (with_reducible apply aw_region)
 | (with_reducible apply aw_block)
 | ((with_reducible first | apply awO_nil | apply aw_exit | apply aw_skip | apply aw_ret); (try simp only [CT, ↓reduceIte, Nat.reduceEqDiff]))
 | ((with_reducible apply awO_n); (· rfl); (· rfl); (· decide); (· exact sv); (· rfl); (· rfl); (· decide))
 | ((with_reducible apply aw_cond_false); (· exact sv))
 | (refine Kont.go ‹Kont _ _ _ _› _ ?_)
 | ((first | ((with_reducible apply awO_guardN); (· rfl); (· rfl); (· exact sv); (· exact nB)) | ((with_reducible apply aw_condN); (· exact sv))); (· exact pN); (· exact pN); all_goals (intro hg; try (exfalso; omega)))
 | ((with_reducible apply retQ_mk); (· exact rI); (· exact sv); (· exact sv); rotate_left; (· rfl)))
    all_goals first | rfl | exact tp2b (by omega) rfl
  have h2n : ¬ s[i].toNat = 34 := fun h => h2 (UInt8.toNat_inj.1 h)
  by_cases h3 : s[i] = 39 ∧ d = false
  · obtain ⟨h3, rfl⟩ := h3
    have h3n : s[i].toNat = 39 := by rw [h3]; rfl
    have c1 := fun z hz => rindex_ab s [39] (i + 1) z hz (by decide) (by omega) (by omega) (by decide)
    rcases hx : ixN [39] (s.drop (i + 1)) with _ | k
    · have e : kepF s i false = (s.length, false) := by unfold kepF; rw [hat, if_neg h1, if_neg h2, if_pos ⟨h3, rfl⟩, hx]
      have ei : ixS [39] s (i + 1) = -1 := by unfold ixS; rw [hx]
      rw [ei] at c1
      rw [e]
      refine Fn_of_aw (keep := []) Tryz.func45 rfl rfl (by simp [Tryz.ntmps45]) ?_
      simp only [num_cons, num_nil, Tryz.ntmps45, Tryz.results45]
      repeat' (first
 | ((with_reducible apply awO_ev); (· rfl); (· exact sv))
 | ((with_reducible apply aw_seq); intro _ _)
 | (with_reducible apply aw_region)
 | (with_reducible apply aw_block)
 | ((with_reducible first | apply awO_nil | apply aw_exit | apply aw_skip | apply aw_ret); (try simp only [CT, ↓reduceIte, Nat.reduceEqDiff]))
 | ((with_reducible apply awO_y); (· rfl); (· rfl); (· decide); (· exact sv); (· exact sv))
 | ((with_reducible apply awO_n); (· rfl); (· rfl); (· decide); (· exact sv); (· rfl); (· rfl); (· decide))
 | ((with_reducible apply aw_cond_true); (· exact sv))
 | ((with_reducible apply aw_cond_false); (· exact sv))
 | (refine Kont.go ‹Kont _ _ _ _› _ ?_)
 | ((with_reducible apply awO_c); (· rfl); (· rfl); (· exact sv); (· (first | exact c1 _ (by omega))); (· rfl); (· rfl); (· rfl); (· decide))
 | ((first | ((with_reducible apply awO_guardN); (· rfl); (· rfl); (· exact sv); (· exact nB)) | ((with_reducible apply aw_condN); (· exact sv))); (· exact pN); (· exact pN); all_goals (intro hg; try (exfalso; omega)))
 | ((with_reducible apply retQ_mk); (· exact rI); (· exact sv); (· exact sv); rotate_left; (· rfl)))
      all_goals first | rfl | exact tp2b (by omega) rfl
    · have e : kepF s i false = (i + 1 + k + 1, false) := by unfold kepF; rw [hat, if_neg h1, if_neg h2, if_pos ⟨h3, rfl⟩, hx]
      have ei : ixS [39] s (i + 1) = ((i + 1 + k : Nat) : Int) := by unfold ixS; rw [hx]
      have b1 := (ixN_some hx).1
      simp only [List.length_drop, List.length_cons, List.length_nil] at b1
      rw [ei] at c1
      rw [e]
      refine Fn_of_aw (keep := []) Tryz.func45 rfl rfl (by simp [Tryz.ntmps45]) ?_
      simp only [num_cons, num_nil, Tryz.ntmps45, Tryz.results45]
      repeat' (first
 | ((with_reducible apply awO_ev); (· rfl); (· exact sv))
 | ((with_reducible apply aw_seq); intro _ _)
 | (with_reducible apply aw_region)
 | (with_reducible apply aw_block)
 | ((with_reducible first | apply awO_nil | apply aw_exit | apply aw_skip | apply aw_ret); (try simp only [CT, ↓reduceIte, Nat.reduceEqDiff]))
 | ((with_reducible apply awO_y); (· rfl); (· rfl); (· decide); (· exact sv); (· exact sv))
 | ((with_reducible apply awO_n); (· rfl); (· rfl); (· decide); (· exact sv); (· rfl); (· rfl); (· decide))
 | ((with_reducible apply aw_cond_true); (· exact sv))
 | ((with_reducible apply aw_cond_false); (· exact sv))
 | (refine Kont.go ‹Kont _ _ _ _› _ ?_)
 | ((with_reducible apply awO_c); (· rfl); (· rfl); (· exact sv); (· (first | exact c1 _ (by omega))); (· rfl); (· rfl); (· rfl); (· decide))
 | ((first | ((with_reducible apply awO_guardN); (· rfl); (· rfl); (· exact sv); (· exact nB)) | ((with_reducible apply aw_condN); (· exact sv))); (· exact pN); (· exact pN); all_goals (intro hg; try (exfalso; omega)))
 | ((with_reducible apply retQ_mk); (· exact rI); (· exact sv); (· exact sv); rotate_left; (· rfl)))
      all_goals first | rfl | exact tp2b (by omega) rfl
  · have e : kepF s i d = (i + 1, d) := by unfold kepF; rw [hat, if_neg h1, if_neg h2, if_neg h3]
    rw [e]
    cases d with
    | true =>
      refine Fn_of_aw (keep := []) Tryz.func45 rfl rfl (by simp [Tryz.ntmps45]) ?_
      simp only [num_cons, num_nil, Tryz.ntmps45, Tryz.results45]
      repeat' (first
 | ((with_reducible apply awO_ev); (· rfl); (· exact sv))
 | ((with_reducible apply aw_seq); intro _ _)
 | (with_reducible apply aw_region)
 | (with_reducible apply aw_block)
 | ((with_reducible first | apply awO_nil | apply aw_exit | apply aw_skip | apply aw_ret); (try simp only [CT, ↓reduceIte, Nat.reduceEqDiff]))
 | ((with_reducible apply awO_y); (· rfl); (· rfl); (· decide); (· exact sv); (· exact sv))
 | ((with_reducible apply awO_n); (· rfl); (· rfl); (· decide); (· exact sv); (· rfl); (· rfl); (· decide))
 | ((with_reducible apply aw_cond_false); (· exact sv))
 | (refine Kont.go ‹Kont _ _ _ _› _ ?_)
 | ((first | ((with_reducible apply awO_guardN); (· rfl); (· rfl); (· exact sv); (· exact nB)) | ((with_reducible apply aw_condN); (· exact sv))); (· exact pN); (· exact pN); all_goals (intro hg; try (exfalso; omega)))
 | ((with_reducible apply retQ_mk); (· exact rI); (· exact sv); (· exact sv); rotate_left; (· rfl)))
      all_goals first | rfl | exact tp2b (by omega) rfl
    | false =>
      have h3n : ¬ s[i].toNat = 39 := fun h => h3 ⟨UInt8.toNat_inj.1 h, rfl⟩
      refine Fn_of_aw (keep := []) Tryz.func45 rfl rfl (by simp [Tryz.ntmps45]) ?_
      simp only [num_cons, num_nil, Tryz.ntmps45, Tryz.results45]
      repeat' (first
 | ((with_reducible apply awO_ev); (· rfl); (· exact sv))
 | ((with_reducible apply aw_seq); intro _ _)
 | (with_reducible apply aw_region)
 | (with_reducible apply aw_block)
 | ((with_reducible first | apply awO_nil | apply aw_exit | apply aw_skip | apply aw_ret); (try simp only [CT, ↓reduceIte, Nat.reduceEqDiff]))
 | ((with_reducible apply awO_y); (· rfl); (· rfl); (· decide); (· exact sv); (· exact sv))
 | ((with_reducible apply awO_n); (· rfl); (· rfl); (· decide); (· exact sv); (· rfl); (· rfl); (· decide))
 | ((with_reducible apply aw_cond_false); (· exact sv))
 | (refine Kont.go ‹Kont _ _ _ _› _ ?_)
 | ((first | ((with_reducible apply awO_guardN); (· rfl); (· rfl); (· exact sv); (· exact nB)) | ((with_reducible apply aw_condN); (· exact sv))); (· exact pN); (· exact pN); all_goals (intro hg; try (exfalso; omega)))
 | ((with_reducible apply retQ_mk); (· exact rI); (· exact sv); (· exact sv); rotate_left; (· rfl)))
      all_goals first | rfl | exact tp2b (by omega) rfl
end Go.Proofs.YtgbhjlkenfmadaaGreatDoor
