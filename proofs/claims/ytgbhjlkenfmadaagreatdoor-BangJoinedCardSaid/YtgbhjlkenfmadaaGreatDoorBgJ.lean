/- bang: line, on the abstract machine. -/
import Derived.Test.YtgbhjlkenfmadaaGreatDoorBgI
namespace Go.Proofs.YtgbhjlkenfmadaaGreatDoor
open Go.RowKit
set_option linter.unusedVariables false
set_option linter.unusedSimpArgs false
set_option maxRecDepth 100000
set_option maxHeartbeats 8000000
section
variable (F : Int) (L : List (List UInt8)) (s : List UInt8) (sh : Bool)
theorem line_fn (i : Nat) (z : Int) (hz : z = i) (hi : i < s.length) (hs : s.length ≤ 4096) (hF : 1 ≤ F ∧ F ≤ 2147483647) (hL : L.length ≤ 100000) (hl : ∀ l ∈ L, l.length ≤ 4096) (hp : (trB (atB s i) && !evB (atB s i)) = false) :
    ∃ j : Int, Fn Tryz.prog 66 [.pt 7 0, ai z] (xH F L s sh) (.tp [az (evtF F L s i).1, ai j, ai (evtF F L s i).2.2]) (xH F L s sh) [7] ∧ ((evtF F L s i).2.2 = 0 → j = (evtF F L s i).2.1) := by
  subst hz
  have hat := atB_lt hi
  rw [hat] at hp
  have c1 := xlast_fn F L s sh hL
  by_cases h1 : s[i].toNat = 33
  · have e : evtF F L s i = orE L.getLast? (i + 1) := by unfold evtF; rw [if_pos (by rw [hat]; exact UInt8.toNat_inj.1 h1)]
    refine ⟨(i + 1 : Nat), ?_, fun h => by rw [e] at h ⊢; rw [orE_2 _ _ h]⟩
    rw [e]
    rw [lastR_or L (i + 1)] at c1
    refine Fn_of_aw (keep := [7]) Tryz.func66 rfl rfl (by simp [Tryz.ntmps66]) ?_
    simp only [num_cons, num_nil, Tryz.ntmps66, Tryz.results66]
    repeat' (first
 | ((with_reducible apply awO_ev); (· rfl); (· exact sv))
 | ((with_reducible apply aw_seq); intro _ _)
 | (with_reducible apply aw_region)
 | (with_reducible apply aw_block)
 | ((with_reducible first | apply awO_nil | apply aw_exit | apply aw_skip | apply aw_ret); (try simp only [CT, ↓reduceIte, Nat.reduceEqDiff]))
 | (refine Kont.go ‹Kont _ _ _ _› _ ?_)
 | ((with_reducible apply awO_m); (· rfl); (· rfl); (· exact sv); (· (first | exact c1)); (· exact svq); (· exact svq); (· exact svq); (· exact svq); (· rfl); (· exact nd); (with_reducible apply awO_st); (· exact svs))
 | ((first | ((with_reducible apply awO_guardN); (· rfl); (· rfl); (· exact sv); (· exact nB)) | ((with_reducible apply aw_condN); (· exact sv))); (· exact pN); (· exact pN); all_goals (intro hg; try (exfalso; omega)))
 | ((try with_reducible apply wk_id); (with_reducible apply retQ_mk1); (· exact rI); (· exact sv); (· exact sv); (· exact sv); (· exact sv); rotate_left; rotate_left; (· simp); (· rfl)))
    all_goals first | rfl | exact tp3 rfl (by omega) rfl
  by_cases h2 : s[i].toNat = 58 ∨ s[i].toNat = 94 ∨ s[i].toNat = 36 ∨ s[i].toNat = 42
  · have e : evtF F L s i = orE L.getLast? i := by
      unfold evtF
      rw [if_neg (by rw [hat]; intro e; exact h1 (by rw [e]; rfl)), if_pos]
      rw [hat]
      rcases h2 with h | h | h | h
      · exact .inl (UInt8.toNat_inj.1 h)
      · exact .inr (.inl (UInt8.toNat_inj.1 h))
      · exact .inr (.inr (.inl (UInt8.toNat_inj.1 h)))
      · exact .inr (.inr (.inr (UInt8.toNat_inj.1 h)))
    refine ⟨i, ?_, fun h => by rw [e] at h ⊢; rw [orE_2 _ _ h]⟩
    rw [e]
    rw [lastR_or L i] at c1
    refine Fn_of_aw (keep := [7]) Tryz.func66 rfl rfl (by simp [Tryz.ntmps66]) ?_
    simp only [num_cons, num_nil, Tryz.ntmps66, Tryz.results66]
    repeat' (first
 | ((with_reducible apply awO_ev); (· rfl); (· exact sv))
 | ((with_reducible apply aw_seq); intro _ _)
 | (with_reducible apply aw_region)
 | (with_reducible apply aw_block)
 | ((with_reducible first | apply awO_nil | apply aw_exit | apply aw_skip | apply aw_ret); (try simp only [CT, ↓reduceIte, Nat.reduceEqDiff]))
 | (refine Kont.go ‹Kont _ _ _ _› _ ?_)
 | ((with_reducible apply awO_m); (· rfl); (· rfl); (· exact sv); (· (first | exact c1)); (· exact svq); (· exact svq); (· exact svq); (· exact svq); (· rfl); (· exact nd); (with_reducible apply awO_st); (· exact svs))
 | ((first | ((with_reducible apply awO_guardN); (· rfl); (· rfl); (· exact sv); (· exact nB)) | ((with_reducible apply aw_condN); (· exact sv))); (· exact pN); (· exact pN); all_goals (intro hg; try (exfalso; omega)))
 | ((try with_reducible apply wk_id); (with_reducible apply retQ_mk1); (· exact rI); (· exact sv); (· exact sv); (· exact sv); (· exact sv); rotate_left; rotate_left; (· simp); (· rfl)))
    all_goals rfl
  have n12 : ¬ atB s i = 33 ∧ ¬ (atB s i = 58 ∨ atB s i = 94 ∨ atB s i = 36 ∨ atB s i = 42) := by
    rw [hat]
    refine ⟨fun e => h1 (by rw [e]; rfl), fun e => h2 ?_⟩
    rcases e with e | e | e | e <;> rw [e] <;> decide
  by_cases h3 : s[i].toNat = 63
  · have e : evtF F L s i = conF L s (i + 1) := by unfold evtF; rw [if_neg n12.1, if_neg n12.2, if_pos (by rw [hat]; exact UInt8.toNat_inj.1 h3)]
    have c2 := fun z hz => containing_fn F L s sh (i + 1) z hz hi (by omega) hF hL hl
    rw [e]
    refine ⟨((conF L s (i + 1)).2.1 : Nat), ?_, fun _ => rfl⟩
    refine Fn_of_aw (keep := [7]) Tryz.func66 rfl rfl (by simp [Tryz.ntmps66]) ?_
    simp only [num_cons, num_nil, Tryz.ntmps66, Tryz.results66]
    repeat' (first
 | ((with_reducible apply awO_ev); (· rfl); (· exact sv))
 | ((with_reducible apply aw_seq); intro _ _)
 | (with_reducible apply aw_region)
 | (with_reducible apply aw_block)
 | ((with_reducible first | apply awO_nil | apply aw_exit | apply aw_skip | apply aw_ret); (try simp only [CT, ↓reduceIte, Nat.reduceEqDiff]))
 | (refine Kont.go ‹Kont _ _ _ _› _ ?_)
 | ((with_reducible apply awO_m); (· rfl); (· rfl); (· exact sv); (· (first | exact c2 _ (by omega))); (· exact svq); (· exact svq); (· exact svq); (· exact svq); (· rfl); (· exact nd); (with_reducible apply awO_st); (· exact svs))
 | ((first | ((with_reducible apply awO_guardN); (· rfl); (· rfl); (· exact sv); (· exact nB)) | ((with_reducible apply aw_condN); (· exact sv))); (· exact pN); (· exact pN); all_goals (intro hg; try (exfalso; omega)))
 | ((try with_reducible apply wk_id); (with_reducible apply retQ_mk1); (· exact rI); (· exact sv); (· exact sv); (· exact sv); (· exact sv); rotate_left; rotate_left; (· simp); (· rfl)))
    all_goals rfl
  have n3 : ¬ atB s i = 63 := by rw [hat]; intro e; exact h3 (by rw [e]; rfl)
  have c2 := number_fn F L s sh i i rfl (by omega) (by omega)
  have hnb := numF_bd s i (by omega)
  cases hd : dgB (atB s i) with
  | true =>
    have e : evtF F L s i = orE (getL F L (numF s i).1) (numF s i).2 := by unfold evtF; rw [if_neg n12.1, if_neg n12.2, if_neg n3, if_pos hd]
    have hpos : decide (0 < dgN (s.drop i)) = true := by rw [dgN_drop hi, ← hat, if_pos hd]; simp
    rw [hpos] at c2
    have c3 := get_ab F L (numF s i).1 (by omega) (by omega) hL
    rw [getR_or F L _ (numF s i).2] at c3
    refine ⟨((numF s i).2 : Nat), ?_, fun h => by rw [e] at h ⊢; rw [orE_2 _ _ h]⟩
    rw [e]
    refine Fn_of_aw (keep := [7]) Tryz.func66 rfl rfl (by simp [Tryz.ntmps66]) ?_
    simp only [num_cons, num_nil, Tryz.ntmps66, Tryz.results66]
    repeat' (first
 | ((with_reducible apply awO_ev); (· rfl); (· exact sv))
 | ((with_reducible apply aw_seq); intro _ _)
 | (with_reducible apply aw_region)
 | (with_reducible apply aw_block)
 | ((with_reducible first | apply awO_nil | apply aw_exit | apply aw_skip | apply aw_ret); (try simp only [CT, ↓reduceIte, Nat.reduceEqDiff]))
 | ((with_reducible apply aw_cond_true); (· exact sv))
 | (refine Kont.go ‹Kont _ _ _ _› _ ?_)
 | ((with_reducible apply awO_c); (· rfl); (· rfl); (· exact sv); (· (first | exact c2 | exact c3)); (· rfl); (· rfl); (· rfl); (· decide))
 | ((with_reducible apply awO_m); (· rfl); (· rfl); (· exact sv); (· (first | exact c2 | exact c3)); (· exact svq); (· exact svq); (· exact svq); (· exact svq); (· rfl); (· exact nd); (with_reducible apply awO_st); (· exact svs))
 | ((first | ((with_reducible apply awO_guardN); (· rfl); (· rfl); (· exact sv); (· exact nB)) | ((with_reducible apply aw_condN); (· exact sv))); (· exact pN); (· exact pN); all_goals (intro hg; try (exfalso; omega)))
 | ((try with_reducible apply wk_id); (with_reducible apply retQ_mk1); (· exact rI); (· exact sv); (· exact sv); (· exact sv); (· exact sv); rotate_left; rotate_left; (· simp); (· rfl)))
    all_goals rfl
  | false =>
    have hn0 := numF_none hd
    rw [hn0.1, hn0.2] at c2
    by_cases h4 : s[i].toNat = 45 ∧ dgB (atB s (i + 1)) = true
    · have hin := at_in (c := atB s (i + 1)) rfl (by intro e; rw [e] at h4; exact absurd h4.2 (by decide))
      have e : evtF F L s i = orE (getL F L (F + L.length - (numF s (i + 1)).1)) (numF s (i + 1)).2 := by
        unfold evtF
        rw [if_neg n12.1, if_neg n12.2, if_neg n3, if_neg (by rw [hd]; simp), if_pos ⟨by rw [hat]; exact UInt8.toNat_inj.1 h4.1, h4.2⟩]
      have c3 := fun z hz => number_fn F L s sh (i + 1) z hz (by omega) (by omega)
      have hpos : decide (0 < dgN (s.drop (i + 1))) = true := by rw [dgN_drop hin, ← atB_lt hin, if_pos h4.2]; simp
      rw [hpos] at c3
      have hnb2 := numF_bd s (i + 1) (by omega)
      have c4 := get_ab F L (F + L.length - (numF s (i + 1)).1) (by omega) (by omega) hL
      rw [getR_or F L _ (numF s (i + 1)).2] at c4
      refine ⟨((numF s (i + 1)).2 : Nat), ?_, fun h => by rw [e] at h ⊢; rw [orE_2 _ _ h]⟩
      rw [e]
      refine Fn_of_aw (keep := [7]) Tryz.func66 rfl rfl (by simp [Tryz.ntmps66]) ?_
      simp only [num_cons, num_nil, Tryz.ntmps66, Tryz.results66]
      repeat' (first
 | ((with_reducible apply awO_ev); (· rfl); (· exact sv))
 | ((with_reducible apply aw_seq); intro _ _)
 | (with_reducible apply aw_region)
 | (with_reducible apply aw_block)
 | ((with_reducible first | apply awO_nil | apply aw_exit | apply aw_skip | apply aw_ret); (try simp only [CT, ↓reduceIte, Nat.reduceEqDiff]))
 | ((with_reducible apply aw_cond_true); (· exact sv))
 | (refine Kont.go ‹Kont _ _ _ _› _ ?_)
 | ((with_reducible apply awO_m); (· rfl); (· rfl); (· exact sv); (· (first | exact c2 | exact c3 _ (by omega) | exact c4)); (· exact svq); (· exact svq); (· exact svq); (· exact svq); (· rfl); (· exact nd); (with_reducible apply awO_st); (· exact svs))
 | ((with_reducible apply aw_draw); (· decide +kernel); (simp only [List.size_toArray, List.length_cons, List.length_nil, Nat.reduceAdd]))
 | ((with_reducible apply awY_done); (· decide +kernel); (try simp only [CT, ↓reduceIte, Nat.reduceEqDiff]))
 | ((with_reducible apply awY_q); (· exact sQ); (· exact np); (· exact svg); (· rfl); (· exact sv))
 | ((with_reducible apply awI_c); (· exact svg); (· rfl); (· rfl); (· exact sv); (· (first | exact c2 | exact c3 _ (by omega) | exact c4)); (· rfl); (· rfl); (· rfl); (· exact nd); simp only [put_some])
 | ((first | ((with_reducible apply awO_guardN); (· rfl); (· rfl); (· exact sv); (· exact nB)) | ((with_reducible apply aw_condN); (· exact sv))); (· exact pN); (· exact pN); all_goals (intro hg; try (exfalso; omega)))
 | ((try with_reducible apply wk_id); (with_reducible apply retQ_mk1); (· exact rI); (· exact sv); (· exact sv); (· exact sv); (· exact sv); rotate_left; rotate_left; (· simp); (· rfl))
 | ((with_reducible apply awY_p); (· exact sH); (first | ((with_reducible apply awP_1); (· decide +kernel)) | ((with_reducible apply awP_2); (· exact sP)))))
      all_goals rfl
    have hn4 : ¬ (atB s i = 45 ∧ dgB (atB s (i + 1)) = true) := fun h => h4 ⟨by rw [← hat, h.1]; rfl, h.2⟩
    have e : evtF F L s i = orE (lstS (fun l => ((s.drop i).take (trN (s.drop i))).isPrefixOf l) L) (i + trN (s.drop i)) := by
      unfold evtF
      rw [if_neg n12.1, if_neg n12.2, if_neg n3, if_neg (by rw [hd]; simp), if_neg hn4]
    have hle := trN_le (s.drop i)
    rw [List.length_drop] at hle
    have c4 := begins_hs F ((s.drop i).take (trN (s.drop i))) L (by omega) hL
    have hjn : ∃ (j : Int) (c5 : ∀ k, lstI (fun l => ((s.drop i).take (trN (s.drop i))).isPrefixOf l) L = some k → Ab Tryz.prog 106 [hsA F L, ai (F + k)] (.tp [az (evtF F L s i).1, ai (evtF F L s i).2.2])), (∀ k, lstI (fun l => ((s.drop i).take (trN (s.drop i))).isPrefixOf l) L = some k → j = (i + trN (s.drop i) : Nat) ∧ (evtF F L s i).2.2 = 0 ∧ (evtF F L s i).2.1 = i + trN (s.drop i)) ∧ (lstI (fun l => ((s.drop i).take (trN (s.drop i))).isPrefixOf l) L = none → j = 0 ∧ evtF F L s i = ([], 0, 8)) := by
      rw [e]
      rcases hn : lstI (fun l => ((s.drop i).take (trN (s.drop i))).isPrefixOf l) L with _ | k
      · exact ⟨0, fun k h => by (cases h), fun k h => by (cases h), fun _ => ⟨rfl, by unfold lstS; rw [hn]; rfl⟩⟩
      · have hk := lstI_lt hn
        have hl2 : lstS (fun l => ((s.drop i).take (trN (s.drop i))).isPrefixOf l) L = some L[k] := by unfold lstS; rw [hn]; simp [hk]
        have c5 := get_ab F L (F + k) (by omega) (by omega) hL
        have e3 : getR F L (F + k) = (L[k], 0) := by unfold getR; rw [getL_idx hk, List.getElem?_eq_getElem hk]
        rw [e3] at c5
        rw [hl2]
        exact ⟨_, fun k' h => by injection h with h; subst h; exact c5, fun k' h => ⟨rfl, rfl, rfl⟩, fun h => by cases h⟩
    obtain ⟨j, c5, hj1, hj2⟩ := hjn
    refine ⟨j, ?_, fun h => ?_⟩
    rotate_left
    · rcases hn : lstI (fun l => ((s.drop i).take (trN (s.drop i))).isPrefixOf l) L with _ | k
      · rw [(hj2 hn).2] at h; cases h
      · rw [(hj1 k hn).1, (hj1 k hn).2.2]
    refine Fn_of_aw (keep := [7]) Tryz.func66 rfl rfl (by simp [Tryz.ntmps66]) ?_
    simp only [num_cons, num_nil, Tryz.ntmps66, Tryz.results66]
    have c3 : s[i].toNat = 45 → ∀ z, z = ((i + 1 : Nat) : Int) → Fn Tryz.prog 105 [.pt 7 0, ai z] (xH F L s sh) (.tp [ai 0, ai ((i + 1 : Nat) : Int), ab false]) (xH F L s sh) [7] := fun h z hz => by
      have hd2 : dgB (atB s (i + 1)) = false := by
        cases hb : dgB (atB s (i + 1)) with
        | true => exact absurd ⟨h, hb⟩ h4
        | false => rfl
      have := number_fn F L s sh (i + 1) z hz (by omega) (by omega)
      have hn1 := numF_none hd2
      rw [hn1.1, hn1.2] at this
      exact this
    repeat' (first
 | ((with_reducible apply awO_ev); (· rfl); (· exact sv))
 | ((with_reducible apply aw_seq); intro _ _)
 | (with_reducible apply aw_region)
 | (with_reducible apply aw_block)
 | ((with_reducible first | apply awO_nil | apply aw_exit | apply aw_skip | apply aw_ret); (try simp only [CT, ↓reduceIte, Nat.reduceEqDiff]))
 | ((with_reducible apply aw_cond_false); (· exact sv))
 | (refine Kont.go ‹Kont _ _ _ _› _ ?_)
 | ((with_reducible apply awO_m); (· rfl); (· rfl); (· exact sv); (· (first | exact c2 | exact c3 (by omega) _ (by omega))); (· exact svq); (· exact svq); (· exact svq); (· exact svq); (· rfl); (· exact nd); (with_reducible apply awO_st); (· exact svs))
 | ((first | ((with_reducible apply awO_guardN); (· rfl); (· rfl); (· exact sv); (· exact nB)) | ((with_reducible apply aw_condN); (· exact sv))); (· exact pN); (· exact pN); all_goals (intro hg; try (exfalso; omega))))
    all_goals
      refine aw_loopF (fun e : Nat => [(21, ai e)]) (fun _ => (xH F L s sh)) (fun e => i ≤ e ∧ e ≤ s.length ∧ trN (s.drop i) = (e - i) + trN (s.drop e)) (fun e => s.length - e) i ⟨Nat.le_refl _, by omega, by omega⟩ ?_ ?_ ?_
      · exact ⟨rfl, trivial⟩
      · exact ⟨rfl, trivial⟩
      intro m ⟨m1, m2, hI⟩
      (simp only [LP, List.append_assoc, List.nil_append, List.cons_append, List.append_nil, List.contains_cons, List.contains_nil, Nat.reduceBEq, Bool.or_false, Bool.or_true, Bool.true_or, Bool.false_or, ↓reduceIte, Bool.false_eq_true])
      have hfin : trN (s.drop m) = 0 → (s.drop i).take (m - i) = (s.drop i).take (trN (s.drop i)) ∧ m = i + trN (s.drop i) := fun h => by rw [h, Nat.add_zero] at hI; rw [hI]; exact ⟨rfl, by omega⟩
      by_cases hml : m < s.length
      · have c6 := indexByte_ab trmL s[m]
        rw [idxB_ix] at c6
        unfold ixI at c6
        have hst := trN_drop hml
        have htr : trB s[m] = (ixN [s[m]] trmL).isSome := (ixN_mem _ _).symm
        rcases hix : ixN [s[m]] trmL with _ | q
        · rw [hix] at c6 htr
          rw [htr, if_neg (by decide)] at hst
          repeat' (first
 | ((with_reducible apply awO_ev); (· rfl); (· exact sv))
 | ((with_reducible apply aw_seq); intro _ _)
 | (with_reducible apply aw_region)
 | (with_reducible apply aw_block)
 | ((with_reducible first | apply awO_nil | apply aw_exit | apply aw_skip | apply aw_ret); (try simp only [CT, ↓reduceIte, Nat.reduceEqDiff]))
 | ((with_reducible apply awO_y); (· rfl); (· rfl); (· decide); (· exact sv); (· exact sv))
 | ((with_reducible apply aw_cond_true); (· exact sv))
 | ((with_reducible apply awO_un); (· rfl); (· decide); (· exact sv))
 | (refine Kont.go ‹Kont _ _ _ _› _ ?_)
 | ((with_reducible apply awO_c); (· rfl); (· rfl); (· exact sv); (· (first | exact c6)); (· rfl); (· rfl); (· rfl); (· decide))
 | ((first | ((with_reducible apply awO_guardN); (· rfl); (· rfl); (· exact sv); (· exact nB)) | ((with_reducible apply aw_condN); (· exact sv))); (· exact pN); (· exact pN); all_goals (intro hg; try (exfalso; omega))))
          refine LE_mk (m + 1) ⟨by omega, hml, by omega⟩ (by omega) sN sN ⟨rfl, trivial⟩
        · rw [hix] at c6 htr
          rw [htr, if_pos (show (some q).isSome = true from rfl)] at hst
          obtain ⟨f1, f2⟩ := hfin hst
          rw [← f1] at c4
          rcases hn : lstI (fun l => ((s.drop i).take (trN (s.drop i))).isPrefixOf l) L with _ | k
          · have hr : numR F (fun l => ((s.drop i).take (m - i)).isPrefixOf l) L = (0, false) := by unfold numR; rw [f1, hn]
            rw [hr] at c4
            repeat' (first
 | ((with_reducible apply awO_ev); (· rfl); (· exact sv))
 | ((with_reducible apply aw_seq); intro _ _)
 | (with_reducible apply aw_region)
 | ((with_reducible first | apply awO_nil | apply aw_exit | apply aw_skip | apply aw_ret); (try simp only [CT, ↓reduceIte, Nat.reduceEqDiff]))
 | ((with_reducible apply awO_y); (· rfl); (· rfl); (· decide); (· exact sv); (· exact sv))
 | ((with_reducible apply aw_cond_true); (· exact sv))
 | ((with_reducible apply awO_un); (· rfl); (· decide); (· exact sv))
 | (refine Kont.go ‹Kont _ _ _ _› _ ?_)
 | ((with_reducible apply awO_c); (· rfl); (· rfl); (· exact sv); (· (first | exact c6 | exact c4)); (· rfl); (· rfl); (· rfl); (· decide))
 | ((with_reducible apply aw_draw); (· decide +kernel); (simp only [List.size_toArray, List.length_cons, List.length_nil, Nat.reduceAdd]))
 | ((with_reducible apply awY_done); (· decide +kernel); (try simp only [CT, ↓reduceIte, Nat.reduceEqDiff]))
 | ((with_reducible apply awY_q); (· exact sQ); (· exact np); (· exact svg); (· rfl); (· exact sv))
 | ((with_reducible apply awI_c); (· exact svg); (· rfl); (· rfl); (· exact sv); (· (first | exact c6 | exact c4)); (· rfl); (· rfl); (· rfl); (· exact nd); simp only [put_some])
 | ((first | ((with_reducible apply awO_guardN); (· rfl); (· rfl); (· exact sv); (· exact nB)) | ((with_reducible apply aw_condN); (· exact sv))); (· exact pN); (· exact pN); all_goals (intro hg; try (exfalso; omega)))
 | ((try with_reducible apply wk_id); (with_reducible apply retQ_mk1); (· exact rI); (· exact sv); (· exact sv); (· exact sv); (· exact sv); rotate_left; rotate_left; (· simp); (· rfl))
 | ((with_reducible apply awY_p); (· exact sH); (first | ((with_reducible apply awP_1); (· decide +kernel)) | ((with_reducible apply awP_2); (· exact sP)))))
            all_goals first | rfl | (rw [(hj2 hn).1, (hj2 hn).2]; done) | (rw [(hj2 hn).1, (hj2 hn).2]; rfl)
          · have hr : numR F (fun l => ((s.drop i).take (m - i)).isPrefixOf l) L = (F + k, true) := by unfold numR; rw [f1, hn]
            rw [hr] at c4
            have c5' := c5 k hn
            repeat' (first
 | ((with_reducible apply awO_ev); (· rfl); (· exact sv))
 | ((with_reducible apply aw_seq); intro _ _)
 | (with_reducible apply aw_region)
 | ((with_reducible first | apply awO_nil | apply aw_exit | apply aw_skip | apply aw_ret); (try simp only [CT, ↓reduceIte, Nat.reduceEqDiff]))
 | ((with_reducible apply awO_y); (· rfl); (· rfl); (· decide); (· exact sv); (· exact sv))
 | ((with_reducible apply aw_cond_false); (· exact sv))
 | ((with_reducible apply awO_un); (· rfl); (· decide); (· exact sv))
 | (refine Kont.go ‹Kont _ _ _ _› _ ?_)
 | ((with_reducible apply awO_c); (· rfl); (· rfl); (· exact sv); (· (first | exact c6 | exact c4 | exact c5')); (· rfl); (· rfl); (· rfl); (· decide))
 | ((with_reducible apply aw_draw); (· decide +kernel); (simp only [List.size_toArray, List.length_cons, List.length_nil, Nat.reduceAdd]))
 | ((with_reducible apply awY_done); (· decide +kernel); (try simp only [CT, ↓reduceIte, Nat.reduceEqDiff]))
 | ((with_reducible apply awY_q); (· exact sQ); (· exact np); (· exact svg); (· rfl); (· exact sv))
 | ((with_reducible apply awI_c); (· exact svg); (· rfl); (· rfl); (· exact sv); (· (first | exact c6 | exact c4 | exact c5')); (· rfl); (· rfl); (· rfl); (· exact nd); simp only [put_some])
 | ((first | ((with_reducible apply awO_guardN); (· rfl); (· rfl); (· exact sv); (· exact nB)) | ((with_reducible apply aw_condN); (· exact sv))); (· exact pN); (· exact pN); all_goals (intro hg; try (exfalso; omega)))
 | ((try with_reducible apply wk_id); (with_reducible apply retQ_mk1); (· exact rI); (· exact sv); (· exact sv); (· exact sv); (· exact sv); rotate_left; rotate_left; (· simp); (· rfl))
 | ((with_reducible apply awY_p); (· exact sH); (first | ((with_reducible apply awP_1); (· decide +kernel)) | ((with_reducible apply awP_2); (· exact sP)))))
            all_goals first | rfl | (rw [(hj1 k hn).1, ← f2]; done)
      · have hst := trN_end (s := s) (i := m) (by omega)
        obtain ⟨f1, f2⟩ := hfin hst
        rw [← f1] at c4
        rcases hn : lstI (fun l => ((s.drop i).take (trN (s.drop i))).isPrefixOf l) L with _ | k
        · have hr : numR F (fun l => ((s.drop i).take (m - i)).isPrefixOf l) L = (0, false) := by unfold numR; rw [f1, hn]
          rw [hr] at c4
          repeat' (first
 | ((with_reducible apply awO_ev); (· rfl); (· exact sv))
 | ((with_reducible apply aw_seq); intro _ _)
 | (with_reducible apply aw_region)
 | ((with_reducible first | apply awO_nil | apply aw_exit | apply aw_skip | apply aw_ret); (try simp only [CT, ↓reduceIte, Nat.reduceEqDiff]))
 | ((with_reducible apply awO_n); (· rfl); (· rfl); (· decide); (· exact sv); (· rfl); (· rfl); (· decide))
 | ((with_reducible apply aw_cond_true); (· exact sv))
 | ((with_reducible apply aw_cond_false); (· exact sv))
 | (refine Kont.go ‹Kont _ _ _ _› _ ?_)
 | ((with_reducible apply aw_draw); (· decide +kernel); (simp only [List.size_toArray, List.length_cons, List.length_nil, Nat.reduceAdd]))
 | ((with_reducible apply awY_done); (· decide +kernel); (try simp only [CT, ↓reduceIte, Nat.reduceEqDiff]))
 | ((with_reducible apply awY_q); (· exact sQ); (· exact np); (· exact svg); (· rfl); (· exact sv))
 | ((with_reducible apply awI_c); (· exact svg); (· rfl); (· rfl); (· exact sv); (· (first | exact c4)); (· rfl); (· rfl); (· rfl); (· exact nd); simp only [put_some])
 | ((first | ((with_reducible apply awO_guardN); (· rfl); (· rfl); (· exact sv); (· exact nB)) | ((with_reducible apply aw_condN); (· exact sv))); (· exact pN); (· exact pN); all_goals (intro hg; try (exfalso; omega)))
 | ((try with_reducible apply wk_id); (with_reducible apply retQ_mk1); (· exact rI); (· exact sv); (· exact sv); (· exact sv); (· exact sv); rotate_left; rotate_left; (· simp); (· rfl))
 | ((with_reducible apply awY_p); (· exact sH); (first | ((with_reducible apply awP_1); (· decide +kernel)) | ((with_reducible apply awP_2); (· exact sP)))))
          all_goals first | rfl | (rw [(hj2 hn).1, (hj2 hn).2]; done) | (rw [(hj2 hn).1, (hj2 hn).2]; rfl)
        · have hr : numR F (fun l => ((s.drop i).take (m - i)).isPrefixOf l) L = (F + k, true) := by unfold numR; rw [f1, hn]
          rw [hr] at c4
          have c5' := c5 k hn
          repeat' (first
 | ((with_reducible apply awO_ev); (· rfl); (· exact sv))
 | ((with_reducible apply aw_seq); intro _ _)
 | (with_reducible apply aw_region)
 | ((with_reducible first | apply awO_nil | apply aw_exit | apply aw_skip | apply aw_ret); (try simp only [CT, ↓reduceIte, Nat.reduceEqDiff]))
 | ((with_reducible apply awO_n); (· rfl); (· rfl); (· decide); (· exact sv); (· rfl); (· rfl); (· decide))
 | ((with_reducible apply aw_cond_false); (· exact sv))
 | (refine Kont.go ‹Kont _ _ _ _› _ ?_)
 | ((with_reducible apply awO_c); (· rfl); (· rfl); (· exact sv); (· (first | exact c4 | exact c5')); (· rfl); (· rfl); (· rfl); (· decide))
 | ((with_reducible apply aw_draw); (· decide +kernel); (simp only [List.size_toArray, List.length_cons, List.length_nil, Nat.reduceAdd]))
 | ((with_reducible apply awY_done); (· decide +kernel); (try simp only [CT, ↓reduceIte, Nat.reduceEqDiff]))
 | ((with_reducible apply awY_q); (· exact sQ); (· exact np); (· exact svg); (· rfl); (· exact sv))
 | ((with_reducible apply awI_c); (· exact svg); (· rfl); (· rfl); (· exact sv); (· (first | exact c4 | exact c5')); (· rfl); (· rfl); (· rfl); (· exact nd); simp only [put_some])
 | ((first | ((with_reducible apply awO_guardN); (· rfl); (· rfl); (· exact sv); (· exact nB)) | ((with_reducible apply aw_condN); (· exact sv))); (· exact pN); (· exact pN); all_goals (intro hg; try (exfalso; omega)))
 | ((try with_reducible apply wk_id); (with_reducible apply retQ_mk1); (· exact rI); (· exact sv); (· exact sv); (· exact sv); (· exact sv); rotate_left; rotate_left; (· simp); (· rfl))
 | ((with_reducible apply awY_p); (· exact sH); (first | ((with_reducible apply awP_1); (· decide +kernel)) | ((with_reducible apply awP_2); (· exact sP)))))
          all_goals first | rfl | (rw [(hj1 k hn).1, ← f2]; done)
end
end Go.Proofs.YtgbhjlkenfmadaaGreatDoor
