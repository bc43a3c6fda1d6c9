/- The document's bang: event, on the abstract machine. -/
import Derived.Test.YtgbhjlkenfmadaaGreatDoorBhC
namespace Go.Proofs.YtgbhjlkenfmadaaGreatDoor
open Go.RowKit
set_option linter.unusedVariables false
set_option linter.unusedSimpArgs false
set_option maxRecDepth 100000
set_option maxHeartbeats 16000000
theorem trN_pos {s : List UInt8} {i : Nat} (h : i < s.length) (h2 : trB (atB s i) = false) : 0 < trN (s.drop i) := by
  rw [trN_drop h, ← atB_lt h, if_neg (by rw [h2]; decide)]
  omega
section
variable (F : Int) (L : List (List UInt8)) (s : List UInt8)
theorem revent_ab (i : Nat) (z : Int) (hz : z = i) (hs : s.length ≤ 4096) (hF : 1 ≤ F ∧ F ≤ 2147483647) (hL : L.length ≤ 100000) (hl : ∀ l ∈ L, l.length ≤ 4096) (hp : plB s i = false) :
    ∃ j : Int, Ab Tryz.prog 46 [hsA F L, az s, ai z] (.tp [az (evtF F L s (i + 1)).1, ai j, ai (evtF F L s (i + 1)).2.2]) ∧ ((evtF F L s (i + 1)).2.2 = 0 → j = (evtF F L s (i + 1)).2.1) := by
  subst hz
  have hi1 : i + 1 < s.length := by
    rcases Nat.lt_or_ge (i + 1) s.length with h | h
    · exact h
    · unfold plB at hp; rw [decide_eq_true h, Bool.true_or] at hp; cases hp
  have hpp : (trB (atB s (i + 1)) && !evB (atB s (i + 1))) = false := by unfold plB at hp; rw [decide_eq_false (by omega), Bool.false_or] at hp; exact hp
  have cl := rlast_ab F L (by omega) hL
  have ca := fun z hz => rat_ab s (i + 1) z hz (by omega)
  have cb := fun z hz => rat_ab s (i + 1 + 1) z hz (by omega)
  have cd := rdigit4_ab (atB s (i + 1))
  have cdb := rdigit4_ab (atB s (i + 1 + 1))
  have cn := fun z hz => rnumber4_ab s (i + 1) z hz (by omega) (by omega)
  have ci := rin_ab [58, 94, 36, 42] (atB s (i + 1)) (by decide)
  have cg0 : ∀ n z : Int, z = n → (∀ k : Nat, k < L.length → F + (k : Int) ≠ n) → Ab Tryz.prog 43 [hsA F L, ai z] (.tp [az [], ai 8]) := fun n z hz h => by
    subst hz
    have := rget_ab F L z (by omega) hL
    have e : getR F L z = ([], 8) := by
      unfold getR getL
      rw [if_neg]
      intro ⟨h1, h2⟩
      exact h (z - F).toNat (by omega) (by omega)
    rw [e] at this
    exact this
  have cgl : ∀ n z : Int, z = n → ∀ l, getL F L n = some l → Ab Tryz.prog 43 [hsA F L, ai z] (.tp [az l, ai 0]) := fun n z hz l h => by
    subst hz
    have := rget_ab F L z (by omega) hL
    have e : getR F L z = (l, 0) := by unfold getR; rw [h]
    rw [e] at this
    exact this
  by_cases h1 : (atB s (i + 1)).toNat = 33
  · have e1 : evtF F L s (i + 1) = orE L.getLast? (i + 1 + 1) := by unfold evtF; rw [if_pos (UInt8.toNat_inj.1 h1)]
    have e := e1
    by_cases hL0 : 0 < L.length
    · have hne : L ≠ [] := List.length_pos_iff.1 hL0
      obtain ⟨l, hl0⟩ : ∃ l, L.getLast? = some l := ⟨_, List.getLast?_eq_some_getLast hne⟩
      rw [hl0] at e
      rw [decide_eq_true hL0] at cl
      have cg := fun z hz => cgl (F + L.length - 1) z hz l (by rw [getL_last hne]; exact hl0)
      rw [e]
      refine ⟨((i + 1 + 1 : Nat) : Int), ?_, fun _ => rfl⟩
      refine Fn_of_aw (keep := []) Tryz.func46 rfl rfl (by simp [Tryz.ntmps46]) ?_
      simp only [num_cons, num_nil, Tryz.ntmps46, Tryz.results46]
      repeat' (first
 | ((with_reducible apply awO_ev); (· rfl); (· exact sv))
 | ((with_reducible apply aw_seq); intro _ _)
 | (with_reducible apply aw_region)
 | (with_reducible apply aw_block)
 | ((with_reducible first | apply awO_nil | apply aw_exit | apply aw_skip | apply aw_ret); (try simp only [CT, ↓reduceIte, Nat.reduceEqDiff]))
 | ((with_reducible apply awO_y); (· rfl); (· rfl); (· decide); (· exact sv); (· exact sv))
 | ((with_reducible apply aw_cond_false); (· exact sv))
 | (refine Kont.go ‹Kont _ _ _ _› _ ?_)
 | ((with_reducible apply awO_c); (· rfl); (· rfl); (· exact sv); (· (first | exact cl | exact ca _ (by omega) | exact cg _ (by omega))); (· rfl); (· rfl); (· rfl); (· decide))
 | ((first | ((with_reducible apply awO_guardN); (· rfl); (· rfl); (· exact sv); (· exact nB)) | ((with_reducible apply aw_condN); (· exact sv))); (· exact pN); (· exact pN); all_goals (intro hg; try (exfalso; omega)))
 | ((with_reducible apply retQ_mk); (· exact rI); (· exact sv); (· exact sv); rotate_left; (· rfl)))
      all_goals first | rfl | exact tp3 rfl (by omega) rfl
    · have hn : L.getLast? = none := by rw [List.length_eq_zero_iff.1 (by omega : L.length = 0)]; rfl
      rw [hn] at e
      rw [decide_eq_false hL0] at cl
      have cg := fun z hz => cg0 (F + L.length - 1) z hz (fun k hk => by omega)
      rw [e]
      refine ⟨i, ?_, fun h => by cases h⟩
      refine Fn_of_aw (keep := []) Tryz.func46 rfl rfl (by simp [Tryz.ntmps46]) ?_
      simp only [num_cons, num_nil, Tryz.ntmps46, Tryz.results46]
      repeat' (first
 | ((with_reducible apply awO_ev); (· rfl); (· exact sv))
 | ((with_reducible apply aw_seq); intro _ _)
 | (with_reducible apply aw_region)
 | (with_reducible apply aw_block)
 | ((with_reducible first | apply awO_nil | apply aw_exit | apply aw_skip | apply aw_ret); (try simp only [CT, ↓reduceIte, Nat.reduceEqDiff]))
 | ((with_reducible apply awO_n); (· rfl); (· rfl); (· decide); (· exact sv); (· rfl); (· rfl); (· decide))
 | ((with_reducible apply aw_cond_true); (· exact sv))
 | (refine Kont.go ‹Kont _ _ _ _› _ ?_)
 | ((with_reducible apply awO_c); (· rfl); (· rfl); (· exact sv); (· (first | exact cl | exact ca _ (by omega) | exact cg _ (by omega))); (· rfl); (· rfl); (· rfl); (· decide))
 | ((first | ((with_reducible apply awO_guardN); (· rfl); (· rfl); (· exact sv); (· exact nB)) | ((with_reducible apply aw_condN); (· exact sv))); (· exact pN); (· exact pN); all_goals (intro hg; try (exfalso; omega)))
 | ((with_reducible apply retQ_mk); (· exact rI); (· exact sv); (· exact sv); rotate_left; (· rfl)))
      all_goals first | rfl | exact tp3 rfl (by omega) rfl
  by_cases h2 : (atB s (i + 1)).toNat = 58 ∨ (atB s (i + 1)).toNat = 94 ∨ (atB s (i + 1)).toNat = 36 ∨ (atB s (i + 1)).toNat = 42
  · have e1 : evtF F L s (i + 1) = orE L.getLast? (i + 1) := by
      unfold evtF
      rw [if_neg (by intro e; exact h1 (by rw [e]; rfl)), if_pos]
      rcases h2 with h | h | h | h
      · exact .inl (UInt8.toNat_inj.1 h)
      · exact .inr (.inl (UInt8.toNat_inj.1 h))
      · exact .inr (.inr (.inl (UInt8.toNat_inj.1 h)))
      · exact .inr (.inr (.inr (UInt8.toNat_inj.1 h)))
    have hd : dgB (atB s (i + 1)) = false := decide_eq_false (by omega)
    have hin : List.contains [58, 94, 36, 42] (atB s (i + 1)) = true := by
      rcases h2 with h | h | h | h
      · rw [show atB s (i + 1) = 58 from UInt8.toNat_inj.1 h]; decide
      · rw [show atB s (i + 1) = 94 from UInt8.toNat_inj.1 h]; decide
      · rw [show atB s (i + 1) = 36 from UInt8.toNat_inj.1 h]; decide
      · rw [show atB s (i + 1) = 42 from UInt8.toNat_inj.1 h]; decide
    rw [hd] at cd
    rw [hin] at ci
    have n45 : ¬ (atB s (i + 1)).toNat = 45 := by omega
    have n63 : ¬ (atB s (i + 1)).toNat = 63 := by omega
    have e := e1
    by_cases hL0 : 0 < L.length
    · have hne : L ≠ [] := List.length_pos_iff.1 hL0
      obtain ⟨l, hl0⟩ : ∃ l, L.getLast? = some l := ⟨_, List.getLast?_eq_some_getLast hne⟩
      rw [hl0] at e
      rw [decide_eq_true hL0] at cl
      have cg := fun z hz => cgl (F + L.length - 1) z hz l (by rw [getL_last hne]; exact hl0)
      rw [e]
      refine ⟨((i + 1 : Nat) : Int), ?_, fun _ => rfl⟩
      refine Fn_of_aw (keep := []) Tryz.func46 rfl rfl (by simp [Tryz.ntmps46]) ?_
      simp only [num_cons, num_nil, Tryz.ntmps46, Tryz.results46]
      repeat' (first
 | ((with_reducible apply awO_ev); (· rfl); (· exact sv))
 | ((with_reducible apply aw_seq); intro _ _)
 | (with_reducible apply aw_region)
 | (with_reducible apply aw_block)
 | ((with_reducible first | apply awO_nil | apply aw_exit | apply aw_skip | apply aw_ret); (try simp only [CT, ↓reduceIte, Nat.reduceEqDiff]))
 | ((with_reducible apply awO_y); (· rfl); (· rfl); (· decide); (· exact sv); (· exact sv))
 | ((with_reducible apply awO_n); (· rfl); (· rfl); (· decide); (· exact sv); (· rfl); (· rfl); (· decide))
 | ((with_reducible apply aw_cond_true); (· exact sv))
 | ((with_reducible apply aw_cond_false); (· exact sv))
 | ((with_reducible apply awO_un); (· rfl); (· decide); (· exact sv))
 | (refine Kont.go ‹Kont _ _ _ _› _ ?_)
 | ((with_reducible apply awO_c); (· rfl); (· rfl); (· exact sv); (· (first | exact cl | exact ca _ (by omega) | exact cd | exact ci | exact cg _ (by omega))); (· rfl); (· rfl); (· rfl); (· decide))
 | ((first | ((with_reducible apply awO_guardN); (· rfl); (· rfl); (· exact sv); (· exact nB)) | ((with_reducible apply aw_condN); (· exact sv))); (· exact pN); (· exact pN); all_goals (intro hg; try (exfalso; omega)))
 | ((with_reducible apply retQ_mk); (· exact rI); (· exact sv); (· exact sv); rotate_left; (· rfl)))
      all_goals first | rfl | exact tp3 rfl (by omega) rfl
    · have hn : L.getLast? = none := by rw [List.length_eq_zero_iff.1 (by omega : L.length = 0)]; rfl
      rw [hn] at e
      rw [decide_eq_false hL0] at cl
      have cg := fun z hz => cg0 (F + L.length - 1) z hz (fun k hk => by omega)
      rw [e]
      refine ⟨i, ?_, fun h => by cases h⟩
      refine Fn_of_aw (keep := []) Tryz.func46 rfl rfl (by simp [Tryz.ntmps46]) ?_
      simp only [num_cons, num_nil, Tryz.ntmps46, Tryz.results46]
      repeat' (first
 | ((with_reducible apply awO_ev); (· rfl); (· exact sv))
 | ((with_reducible apply aw_seq); intro _ _)
 | (with_reducible apply aw_region)
 | (with_reducible apply aw_block)
 | ((with_reducible first | apply awO_nil | apply aw_exit | apply aw_skip | apply aw_ret); (try simp only [CT, ↓reduceIte, Nat.reduceEqDiff]))
 | ((with_reducible apply awO_y); (· rfl); (· rfl); (· decide); (· exact sv); (· exact sv))
 | ((with_reducible apply awO_n); (· rfl); (· rfl); (· decide); (· exact sv); (· rfl); (· rfl); (· decide))
 | ((with_reducible apply aw_cond_true); (· exact sv))
 | ((with_reducible apply aw_cond_false); (· exact sv))
 | ((with_reducible apply awO_un); (· rfl); (· decide); (· exact sv))
 | (refine Kont.go ‹Kont _ _ _ _› _ ?_)
 | ((with_reducible apply awO_c); (· rfl); (· rfl); (· exact sv); (· (first | exact cl | exact ca _ (by omega) | exact cd | exact ci | exact cg _ (by omega))); (· rfl); (· rfl); (· rfl); (· decide))
 | ((first | ((with_reducible apply awO_guardN); (· rfl); (· rfl); (· exact sv); (· exact nB)) | ((with_reducible apply aw_condN); (· exact sv))); (· exact pN); (· exact pN); all_goals (intro hg; try (exfalso; omega)))
 | ((with_reducible apply retQ_mk); (· exact rI); (· exact sv); (· exact sv); rotate_left; (· rfl)))
      all_goals first | rfl | exact tp3 rfl (by omega) rfl
  have n12 : ¬ atB s (i + 1) = 33 ∧ ¬ (atB s (i + 1) = 58 ∨ atB s (i + 1) = 94 ∨ atB s (i + 1) = 36 ∨ atB s (i + 1) = 42) := by
    refine ⟨fun e => h1 (by rw [e]; rfl), fun e => h2 ?_⟩
    rcases e with e | e | e | e <;> rw [e] <;> decide
  have hev : evB (atB s (i + 1)) = false := by
    unfold evB
    exact decide_eq_false (fun h => by
      rcases h with h | h
      · exact n12.1 h
      · exact n12.2 h)
  have htr : trB (atB s (i + 1)) = false := by rw [hev] at hpp; simpa using hpp
  have hin : List.contains [58, 94, 36, 42] (atB s (i + 1)) = false := by
    apply Bool.eq_false_iff.2
    intro h
    rw [List.contains_iff_mem] at h
    simp only [List.mem_cons, List.not_mem_nil, or_false] at h
    exact n12.2 h
  rw [hin] at ci
  by_cases h3 : (atB s (i + 1)).toNat = 63
  · have e : evtF F L s (i + 1) = conF L s (i + 1 + 1) := by unfold evtF; rw [if_neg n12.1, if_neg n12.2, if_pos (UInt8.toNat_inj.1 h3)]
    have hd : dgB (atB s (i + 1)) = false := decide_eq_false (by omega)
    rw [hd] at cd
    obtain ⟨j, c5, hj⟩ := rcon_ab F L s (i + 1 + 1) _ rfl (by omega) hs hF hL hl
    have c6 : ∀ z, z = ((i + 1 + 1 : Nat) : Int) → Ab Tryz.prog 73 [hsA F L, az s, ai z] (.tp [az (conF L s (i + 1 + 1)).1, ai j, ai (conF L s (i + 1 + 1)).2.2]) := fun z hz => by subst hz; exact c5
    rw [e]
    refine ⟨j, ?_, hj⟩
    refine Fn_of_aw (keep := []) Tryz.func46 rfl rfl (by simp [Tryz.ntmps46]) ?_
    simp only [num_cons, num_nil, Tryz.ntmps46, Tryz.results46]
    repeat' (first
 | ((with_reducible apply awO_ev); (· rfl); (· exact sv))
 | ((with_reducible apply aw_seq); intro _ _)
 | (with_reducible apply aw_region)
 | (with_reducible apply aw_block)
 | ((with_reducible first | apply awO_nil | apply aw_exit | apply aw_skip | apply aw_ret); (try simp only [CT, ↓reduceIte, Nat.reduceEqDiff]))
 | ((with_reducible apply awO_n); (· rfl); (· rfl); (· decide); (· exact sv); (· rfl); (· rfl); (· decide))
 | ((with_reducible apply aw_cond_false); (· exact sv))
 | (refine Kont.go ‹Kont _ _ _ _› _ ?_)
 | ((with_reducible apply awO_c); (· rfl); (· rfl); (· exact sv); (· (first | exact cl | exact ca _ (by omega) | exact cd | exact c6 _ (by omega))); (· rfl); (· rfl); (· rfl); (· decide))
 | ((first | ((with_reducible apply awO_guardN); (· rfl); (· rfl); (· exact sv); (· exact nB)) | ((with_reducible apply aw_condN); (· exact sv))); (· exact pN); (· exact pN); all_goals (intro hg; try (exfalso; omega)))
 | ((with_reducible apply retQ_mk); (· exact rI); (· exact sv); (· exact sv); rotate_left; (· rfl)))
    all_goals first | rfl | exact tp3 rfl (by omega) rfl
  have n3 : ¬ atB s (i + 1) = 63 := fun e => h3 (by rw [e]; rfl)
  have hnb := numF_bd s (i + 1) (by omega)
  cases hd : dgB (atB s (i + 1)) with
  | true =>
    have e : evtF F L s (i + 1) = orE (getL F L (numF s (i + 1)).1) (numF s (i + 1)).2 := by unfold evtF; rw [if_neg n12.1, if_neg n12.2, if_neg n3, if_pos hd]
    rw [hd] at cd
    rcases hg : getL F L (numF s (i + 1)).1 with _ | l
    · rw [hg] at e
      have cg := fun z hz => cg0 (numF s (i + 1)).1 z hz (fun k hk h => by
        rw [← h, getL_idx hk, List.getElem?_eq_getElem hk] at hg
        cases hg)
      rw [e]
      refine ⟨i, ?_, fun h => by cases h⟩
      refine Fn_of_aw (keep := []) Tryz.func46 rfl rfl (by simp [Tryz.ntmps46]) ?_
      simp only [num_cons, num_nil, Tryz.ntmps46, Tryz.results46]
      repeat' (first
 | ((with_reducible apply awO_ev); (· rfl); (· exact sv))
 | ((with_reducible apply aw_seq); intro _ _)
 | (with_reducible apply aw_region)
 | (with_reducible apply aw_block)
 | ((with_reducible first | apply awO_nil | apply aw_exit | apply aw_skip | apply aw_ret); (try simp only [CT, ↓reduceIte, Nat.reduceEqDiff]))
 | ((with_reducible apply awO_y); (· rfl); (· rfl); (· decide); (· exact sv); (· exact sv))
 | ((with_reducible apply aw_cond_true); (· exact sv))
 | (refine Kont.go ‹Kont _ _ _ _› _ ?_)
 | ((with_reducible apply awO_c); (· rfl); (· rfl); (· exact sv); (· (first | exact cl | exact ca _ (by omega) | exact cd | exact cn _ (by omega) | exact cg _ (by omega))); (· rfl); (· rfl); (· rfl); (· decide))
 | ((first | ((with_reducible apply awO_guardN); (· rfl); (· rfl); (· exact sv); (· exact nB)) | ((with_reducible apply aw_condN); (· exact sv))); (· exact pN); (· exact pN); all_goals (intro hg; try (exfalso; omega)))
 | ((with_reducible apply retQ_mk); (· exact rI); (· exact sv); (· exact sv); rotate_left; (· rfl)))
      all_goals first | rfl | exact tp3 rfl (by omega) rfl
    · rw [hg] at e
      have cg := fun z hz => cgl (numF s (i + 1)).1 z hz l hg
      rw [e]
      refine ⟨((numF s (i + 1)).2 : Nat), ?_, fun _ => rfl⟩
      refine Fn_of_aw (keep := []) Tryz.func46 rfl rfl (by simp [Tryz.ntmps46]) ?_
      simp only [num_cons, num_nil, Tryz.ntmps46, Tryz.results46]
      repeat' (first
 | ((with_reducible apply awO_ev); (· rfl); (· exact sv))
 | ((with_reducible apply aw_seq); intro _ _)
 | (with_reducible apply aw_region)
 | (with_reducible apply aw_block)
 | ((with_reducible first | apply awO_nil | apply aw_exit | apply aw_skip | apply aw_ret); (try simp only [CT, ↓reduceIte, Nat.reduceEqDiff]))
 | ((with_reducible apply awO_y); (· rfl); (· rfl); (· decide); (· exact sv); (· exact sv))
 | ((with_reducible apply aw_cond_true); (· exact sv))
 | ((with_reducible apply aw_cond_false); (· exact sv))
 | (refine Kont.go ‹Kont _ _ _ _› _ ?_)
 | ((with_reducible apply awO_c); (· rfl); (· rfl); (· exact sv); (· (first | exact cl | exact ca _ (by omega) | exact cd | exact cn _ (by omega) | exact cg _ (by omega))); (· rfl); (· rfl); (· rfl); (· decide))
 | ((first | ((with_reducible apply awO_guardN); (· rfl); (· rfl); (· exact sv); (· exact nB)) | ((with_reducible apply aw_condN); (· exact sv))); (· exact pN); (· exact pN); all_goals (intro hg; try (exfalso; omega)))
 | ((with_reducible apply retQ_mk); (· exact rI); (· exact sv); (· exact sv); rotate_left; (· rfl)))
      all_goals first | rfl | exact tp3 rfl (by omega) rfl
  | false =>
    rw [hd] at cd
    by_cases h4 : (atB s (i + 1)).toNat = 45 ∧ dgB (atB s (i + 1 + 1)) = true
    · have h45 := h4.1
      have hnb2 := numF_bd s (i + 1 + 1) (by omega)
      have cm := fun z hz => rnumber4_ab s (i + 1 + 1) z hz (by omega) (by omega)
      have e : evtF F L s (i + 1) = orE (getL F L (F + L.length - (numF s (i + 1 + 1)).1)) (numF s (i + 1 + 1)).2 := by
        unfold evtF
        rw [if_neg n12.1, if_neg n12.2, if_neg n3, if_neg (by rw [hd]; simp), if_pos ⟨UInt8.toNat_inj.1 h4.1, h4.2⟩]
      rw [h4.2] at cdb
      rcases hg : getL F L (F + L.length - (numF s (i + 1 + 1)).1) with _ | l
      · rw [hg] at e
        have cg := fun z hz => cg0 (F + L.length - (numF s (i + 1 + 1)).1) z hz (fun k hk h => by
          rw [← h, getL_idx hk, List.getElem?_eq_getElem hk] at hg
          cases hg)
        rw [e]
        refine ⟨i, ?_, fun h => by cases h⟩
        cases hsm : decide (0 < L.length) with
        | true =>
          rw [hsm] at cl
          refine Fn_of_aw (keep := []) Tryz.func46 rfl rfl (by simp [Tryz.ntmps46]) ?_
          simp only [num_cons, num_nil, Tryz.ntmps46, Tryz.results46]
          repeat' (first
 | ((with_reducible apply awO_ev); (· rfl); (· exact sv))
 | ((with_reducible apply aw_seq); intro _ _)
 | (with_reducible apply aw_region)
 | (with_reducible apply aw_block)
 | ((with_reducible first | apply awO_nil | apply aw_exit | apply aw_skip | apply aw_ret); (try simp only [CT, ↓reduceIte, Nat.reduceEqDiff]))
 | ((with_reducible apply awO_y); (· rfl); (· rfl); (· decide); (· exact sv); (· exact sv))
 | ((with_reducible apply aw_cond_true); (· exact sv))
 | ((with_reducible apply aw_cond_false); (· exact sv))
 | ((with_reducible apply awO_un); (· rfl); (· decide); (· exact sv))
 | (refine Kont.go ‹Kont _ _ _ _› _ ?_)
 | ((with_reducible apply awO_c); (· rfl); (· rfl); (· exact sv); (· (first | exact cl | exact ca _ (by omega) | exact cb _ (by omega) | exact cd | exact cdb | exact cm _ (by omega) | exact cg _ (by omega))); (· rfl); (· rfl); (· rfl); (· decide))
 | ((first | ((with_reducible apply awO_guardN); (· rfl); (· rfl); (· exact sv); (· exact nB)) | ((with_reducible apply aw_condN); (· exact sv))); (· exact pN); (· exact pN); all_goals (intro hg; try (exfalso; omega)))
 | ((with_reducible apply retQ_mk); (· exact rI); (· exact sv); (· exact sv); rotate_left; (· rfl)))
          all_goals first | rfl | exact tp3 rfl (by omega) rfl
        | false =>
          rw [hsm] at cl
          refine Fn_of_aw (keep := []) Tryz.func46 rfl rfl (by simp [Tryz.ntmps46]) ?_
          simp only [num_cons, num_nil, Tryz.ntmps46, Tryz.results46]
          repeat' (first
 | ((with_reducible apply awO_ev); (· rfl); (· exact sv))
 | ((with_reducible apply aw_seq); intro _ _)
 | (with_reducible apply aw_region)
 | (with_reducible apply aw_block)
 | ((with_reducible first | apply awO_nil | apply aw_exit | apply aw_skip | apply aw_ret); (try simp only [CT, ↓reduceIte, Nat.reduceEqDiff]))
 | ((with_reducible apply awO_y); (· rfl); (· rfl); (· decide); (· exact sv); (· exact sv))
 | ((with_reducible apply awO_n); (· rfl); (· rfl); (· decide); (· exact sv); (· rfl); (· rfl); (· decide))
 | ((with_reducible apply aw_cond_true); (· exact sv))
 | ((with_reducible apply aw_cond_false); (· exact sv))
 | ((with_reducible apply awO_un); (· rfl); (· decide); (· exact sv))
 | (refine Kont.go ‹Kont _ _ _ _› _ ?_)
 | ((with_reducible apply awO_c); (· rfl); (· rfl); (· exact sv); (· (first | exact cl | exact ca _ (by omega) | exact cb _ (by omega) | exact cd | exact cdb | exact cm _ (by omega) | exact cg _ (by omega))); (· rfl); (· rfl); (· rfl); (· decide))
 | ((first | ((with_reducible apply awO_guardN); (· rfl); (· rfl); (· exact sv); (· exact nB)) | ((with_reducible apply aw_condN); (· exact sv))); (· exact pN); (· exact pN); all_goals (intro hg; try (exfalso; omega)))
 | ((with_reducible apply retQ_mk); (· exact rI); (· exact sv); (· exact sv); rotate_left; (· rfl)))
          all_goals first | rfl | exact tp3 rfl (by omega) rfl
      · rw [hg] at e
        have hL0 : 0 < L.length := by
          rcases Nat.eq_zero_or_pos L.length with h | h
          · unfold getL at hg
            rw [if_neg (by omega)] at hg
            cases hg
          · exact h
        rw [decide_eq_true hL0] at cl
        have cg := fun z hz => cgl (F + L.length - (numF s (i + 1 + 1)).1) z hz l hg
        rw [e]
        refine ⟨((numF s (i + 1 + 1)).2 : Nat), ?_, fun _ => rfl⟩
        refine Fn_of_aw (keep := []) Tryz.func46 rfl rfl (by simp [Tryz.ntmps46]) ?_
        simp only [num_cons, num_nil, Tryz.ntmps46, Tryz.results46]
        repeat' (first
 | ((with_reducible apply awO_ev); (· rfl); (· exact sv))
 | ((with_reducible apply aw_seq); intro _ _)
 | (with_reducible apply aw_region)
 | (with_reducible apply aw_block)
 | ((with_reducible first | apply awO_nil | apply aw_exit | apply aw_skip | apply aw_ret); (try simp only [CT, ↓reduceIte, Nat.reduceEqDiff]))
 | ((with_reducible apply awO_y); (· rfl); (· rfl); (· decide); (· exact sv); (· exact sv))
 | ((with_reducible apply aw_cond_true); (· exact sv))
 | ((with_reducible apply aw_cond_false); (· exact sv))
 | ((with_reducible apply awO_un); (· rfl); (· decide); (· exact sv))
 | (refine Kont.go ‹Kont _ _ _ _› _ ?_)
 | ((with_reducible apply awO_c); (· rfl); (· rfl); (· exact sv); (· (first | exact cl | exact ca _ (by omega) | exact cb _ (by omega) | exact cd | exact cdb | exact cm _ (by omega) | exact cg _ (by omega))); (· rfl); (· rfl); (· rfl); (· decide))
 | ((first | ((with_reducible apply awO_guardN); (· rfl); (· rfl); (· exact sv); (· exact nB)) | ((with_reducible apply aw_condN); (· exact sv))); (· exact pN); (· exact pN); all_goals (intro hg; try (exfalso; omega)))
 | ((with_reducible apply retQ_mk); (· exact rI); (· exact sv); (· exact sv); rotate_left; (· rfl)))
        all_goals first | rfl | exact tp3 rfl (by omega) rfl
    have hn4 : ¬ (atB s (i + 1) = 45 ∧ dgB (atB s (i + 1 + 1)) = true) := fun h => h4 ⟨by rw [h.1]; rfl, h.2⟩
    have cdf : (atB s (i + 1)).toNat = 45 → Ab Tryz.prog 71 [au (atB s (i + 1 + 1))] (ab false) := fun h => by
      rw [show dgB (atB s (i + 1 + 1)) = false from (Bool.not_eq_true _).mp (fun h2 => h4 ⟨h, h2⟩)] at cdb
      exact cdb
    have e : evtF F L s (i + 1) = orE (lstS (fun l => ((s.drop (i + 1)).take (trN (s.drop (i + 1)))).isPrefixOf l) L) (i + 1 + trN (s.drop (i + 1))) := by
      unfold evtF
      rw [if_neg n12.1, if_neg n12.2, if_neg n3, if_neg (by rw [hd]; simp), if_neg hn4]
    have hle := trN_le (s.drop (i + 1))
    rw [List.length_drop] at hle
    have hpos := trN_pos hi1 htr
    have c4 := rBegins_ab F ((s.drop (i + 1)).take (trN (s.drop (i + 1)))) L (by omega) hL (fun l h => by have := hl l h; omega) (by rw [List.length_take]; omega)
    have hcase : ∃ (n : Int) (sm : Bool) (l : List UInt8) (er j : Int), numR F (fun l => ((s.drop (i + 1)).take (trN (s.drop (i + 1)))).isPrefixOf l) L = (n, sm) ∧ Ab Tryz.prog 43 [hsA F L, ai n] (.tp [az l, ai er]) ∧
        ((sm = true ∧ er = 0 ∧ j = (i + 1 + trN (s.drop (i + 1)) : Nat) ∧ evtF F L s (i + 1) = (l, i + 1 + trN (s.drop (i + 1)), 0)) ∨ (sm = false ∧ j = i ∧ l = [] ∧ evtF F L s (i + 1) = ([], 0, 8))) := by
      rcases hn : lstI (fun l => ((s.drop (i + 1)).take (trN (s.drop (i + 1)))).isPrefixOf l) L with _ | q
      · obtain ⟨e2, e3⟩ := numR_none (F := F) hn
        exact ⟨0, false, [], 8, i, e2, cg0 0 0 rfl (fun k hk => by omega), .inr ⟨rfl, rfl, rfl, by rw [e, e3]; rfl⟩⟩
      · obtain ⟨e2, l, e3, e4⟩ := numR_some (F := F) hn
        have := rget_ab F L (F + q) (by omega) hL
        rw [e4] at this
        exact ⟨_, true, l, 0, _, e2, this, .inl ⟨rfl, rfl, rfl, by rw [e, e3]; rfl⟩⟩
    obtain ⟨n, sm, l, er, j, hr, c5, hj⟩ := hcase
    refine ⟨j, ?_, fun h => ?_⟩
    rotate_left
    · rcases hj with ⟨_, _, h2, h3⟩ | ⟨_, _, _, h3⟩
      · rw [h2, h3]
      · rw [h3] at h; cases h
    rw [hr] at c4
    clear e hr
    refine Fn_of_aw (keep := []) Tryz.func46 rfl rfl (by simp [Tryz.ntmps46]) ?_
    simp only [num_cons, num_nil, Tryz.ntmps46, Tryz.results46]
    repeat' (first
 | ((with_reducible apply awO_ev); (· rfl); (· exact sv))
 | ((with_reducible apply aw_seq); intro _ _)
 | (with_reducible apply aw_region)
 | (with_reducible apply aw_block)
 | ((with_reducible first | apply awO_nil | apply aw_exit | apply aw_skip | apply aw_ret); (try simp only [CT, ↓reduceIte, Nat.reduceEqDiff]))
 | ((with_reducible apply awO_y); (· rfl); (· rfl); (· decide); (· exact sv); (· exact sv))
 | ((with_reducible apply awO_n); (· rfl); (· rfl); (· decide); (· exact sv); (· rfl); (· rfl); (· decide))
 | ((with_reducible apply aw_cond_false); (· exact sv))
 | ((with_reducible apply awO_un); (· rfl); (· decide); (· exact sv))
 | (refine Kont.go ‹Kont _ _ _ _› _ ?_)
 | ((with_reducible apply awO_c); (· rfl); (· rfl); (· exact sv); (· (first | exact cl | exact ca _ (by omega) | exact cb _ (by omega) | exact cd | exact cdf (by omega) | exact ci)); (· rfl); (· rfl); (· rfl); (· decide))
 | ((first | ((with_reducible apply awO_guardN); (· rfl); (· rfl); (· exact sv); (· exact nB)) | ((with_reducible apply aw_condN); (· exact sv))); (· exact pN); (· exact pN); all_goals (intro hg; try (exfalso; omega))))
    all_goals
      refine aw_loopF (fun e : Nat => [(11, ai e)]) (fun _ => [(3, [ai F, .rd L.length (L.map az)])]) (fun e => i + 1 ≤ e ∧ e ≤ s.length ∧ trN (s.drop (i + 1)) = (e - (i + 1)) + trN (s.drop e)) (fun e => s.length - e) (i + 1) ⟨Nat.le_refl _, by omega, by omega⟩ ?_ ?_ ?_
      · exact ⟨rfl, trivial⟩
      · exact ⟨rfl, trivial⟩
      intro m ⟨m1, m2, hI⟩
      (simp only [LP, List.append_assoc, List.nil_append, List.cons_append, List.append_nil, List.contains_cons, List.contains_nil, Nat.reduceBEq, Bool.or_false, Bool.or_true, Bool.true_or, Bool.false_or, ↓reduceIte, Bool.false_eq_true])
      have hfin : trN (s.drop m) = 0 → m - (i + 1) = trN (s.drop (i + 1)) ∧ m = i + 1 + trN (s.drop (i + 1)) := fun h => by omega
      by_cases hml : m < s.length
      · have c6 := rends_ab s[m]
        have hst := trN_drop hml
        cases htm : trB s[m] with
        | false =>
          rw [htm] at c6
          rw [if_neg (by rw [htm]; decide)] at hst
          repeat' (first
 | ((with_reducible apply awO_ev); (· rfl); (· exact sv))
 | ((with_reducible apply aw_seq); intro _ _)
 | (with_reducible apply aw_region)
 | (with_reducible apply aw_block)
 | ((with_reducible first | apply awO_nil | apply aw_exit | apply aw_skip | apply aw_ret); (try simp only [CT, ↓reduceIte, Nat.reduceEqDiff]))
 | ((with_reducible apply awO_y); (· rfl); (· rfl); (· decide); (· exact sv); (· exact sv))
 | ((with_reducible apply aw_cond_true); (· exact sv))
 | ((with_reducible apply awO_un); (· rfl); (· decide); (· exact sv))
 | (refine Kont.go ‹Kont _ _ _ _› _ ?_)
 | ((with_reducible apply awO_c); (· rfl); (· rfl); (· exact sv); (· (first | exact c6)); (· rfl); (· rfl); (· rfl); (· decide))
 | ((first | ((with_reducible apply awO_guardN); (· rfl); (· rfl); (· exact sv); (· exact nB)) | ((with_reducible apply aw_condN); (· exact sv))); (· exact pN); (· exact pN); all_goals (intro hg; try (exfalso; omega))))
          refine LE_mk (m + 1) ⟨by omega, hml, by omega⟩ (by omega) sN sN ⟨rfl, trivial⟩
        | true =>
          rw [htm] at c6
          rw [if_pos htm] at hst
          obtain ⟨f1, f2⟩ := hfin hst
          rw [← f1] at c4
          rcases hj with ⟨j1, j2, j3, j4⟩ | ⟨j1, j2, j3, j4⟩
          · subst j1
            subst j2
            rw [j4]
            repeat' (first
 | ((with_reducible apply awO_ev); (· rfl); (· exact sv))
 | ((with_reducible apply aw_seq); intro _ _)
 | (with_reducible apply aw_region)
 | ((with_reducible first | apply awO_nil | apply aw_exit | apply aw_skip | apply aw_ret); (try simp only [CT, ↓reduceIte, Nat.reduceEqDiff]))
 | ((with_reducible apply awO_y); (· rfl); (· rfl); (· decide); (· exact sv); (· exact sv))
 | ((with_reducible apply aw_cond_false); (· exact sv))
 | ((with_reducible apply awO_un); (· rfl); (· decide); (· exact sv))
 | (refine Kont.go ‹Kont _ _ _ _› _ ?_)
 | ((with_reducible apply awO_c); (· rfl); (· rfl); (· exact sv); (· (first | exact c6 | exact c4 | exact c5)); (· rfl); (· rfl); (· rfl); (· decide))
 | ((with_reducible apply aw_draw); (· decide +kernel); (simp only [List.size_toArray, List.length_cons, List.length_nil, Nat.reduceAdd]))
 | ((with_reducible apply awY_done); (· decide +kernel); (try simp only [CT, ↓reduceIte, Nat.reduceEqDiff]))
 | ((with_reducible apply awY_q); (· exact sQ); (· exact np); (· exact svg); (· rfl); (· exact sv))
 | ((with_reducible apply awI_c); (· exact svg); (· rfl); (· rfl); (· exact sv); (· (first | exact c6 | exact c4 | exact c5)); (· rfl); (· rfl); (· rfl); (· exact nd); simp only [put_some])
 | ((first | ((with_reducible apply awO_guardN); (· rfl); (· rfl); (· exact sv); (· exact nB)) | ((with_reducible apply aw_condN); (· exact sv))); (· exact pN); (· exact pN); all_goals (intro hg; try (exfalso; omega)))
 | ((with_reducible apply retQ_mk); (· exact rI); (· exact sv); (· exact sv); rotate_left; (· rfl))
 | ((with_reducible apply awY_p); (· exact sH); (first | ((with_reducible apply awP_1); (· decide +kernel)) | ((with_reducible apply awP_2); (· exact sP)))))
            all_goals first | rfl | exact tp3 rfl (by omega) rfl | (rw [j4]; rfl) | (rw [j4]; exact tp3 rfl (by omega) rfl)
          · subst j1
            rw [j4]
            repeat' (first
 | ((with_reducible apply awO_ev); (· rfl); (· exact sv))
 | ((with_reducible apply aw_seq); intro _ _)
 | (with_reducible apply aw_region)
 | ((with_reducible first | apply awO_nil | apply aw_exit | apply aw_skip | apply aw_ret); (try simp only [CT, ↓reduceIte, Nat.reduceEqDiff]))
 | ((with_reducible apply awO_y); (· rfl); (· rfl); (· decide); (· exact sv); (· exact sv))
 | ((with_reducible apply awO_n); (· rfl); (· rfl); (· decide); (· exact sv); (· rfl); (· rfl); (· decide))
 | ((with_reducible apply aw_cond_true); (· exact sv))
 | ((with_reducible apply aw_cond_false); (· exact sv))
 | ((with_reducible apply awO_un); (· rfl); (· decide); (· exact sv))
 | (refine Kont.go ‹Kont _ _ _ _› _ ?_)
 | ((with_reducible apply awO_c); (· rfl); (· rfl); (· exact sv); (· (first | exact c6 | exact c4 | exact c5)); (· rfl); (· rfl); (· rfl); (· decide))
 | ((with_reducible apply aw_draw); (· decide +kernel); (simp only [List.size_toArray, List.length_cons, List.length_nil, Nat.reduceAdd]))
 | ((with_reducible apply awY_done); (· decide +kernel); (try simp only [CT, ↓reduceIte, Nat.reduceEqDiff]))
 | ((with_reducible apply awY_q); (· exact sQ); (· exact np); (· exact svg); (· rfl); (· exact sv))
 | ((with_reducible apply awI_c); (· exact svg); (· rfl); (· rfl); (· exact sv); (· (first | exact c6 | exact c4 | exact c5)); (· rfl); (· rfl); (· rfl); (· exact nd); simp only [put_some])
 | ((first | ((with_reducible apply awO_guardN); (· rfl); (· rfl); (· exact sv); (· exact nB)) | ((with_reducible apply aw_condN); (· exact sv))); (· exact pN); (· exact pN); all_goals (intro hg; try (exfalso; omega)))
 | ((with_reducible apply retQ_mk); (· exact rI); (· exact sv); (· exact sv); rotate_left; (· rfl))
 | ((with_reducible apply awY_p); (· exact sH); (first | ((with_reducible apply awP_1); (· decide +kernel)) | ((with_reducible apply awP_2); (· exact sP)))))
            all_goals first | rfl | exact tp3 rfl (by omega) rfl | (rw [j4]; rfl) | (rw [j4]; exact tp3 rfl (by omega) rfl)
      · have hst := trN_end (s := s) (i := m) (by omega)
        obtain ⟨f1, f2⟩ := hfin hst
        rw [← f1] at c4
        rcases hj with ⟨j1, j2, j3, j4⟩ | ⟨j1, j2, j3, j4⟩
        · subst j1
          subst j2
          rw [j4]
          repeat' (first
 | ((with_reducible apply awO_ev); (· rfl); (· exact sv))
 | ((with_reducible apply aw_seq); intro _ _)
 | (with_reducible apply aw_region)
 | ((with_reducible first | apply awO_nil | apply aw_exit | apply aw_skip | apply aw_ret); (try simp only [CT, ↓reduceIte, Nat.reduceEqDiff]))
 | ((with_reducible apply awO_y); (· rfl); (· rfl); (· decide); (· exact sv); (· exact sv))
 | ((with_reducible apply awO_n); (· rfl); (· rfl); (· decide); (· exact sv); (· rfl); (· rfl); (· decide))
 | ((with_reducible apply aw_cond_false); (· exact sv))
 | (refine Kont.go ‹Kont _ _ _ _› _ ?_)
 | ((with_reducible apply awO_c); (· rfl); (· rfl); (· exact sv); (· (first | exact c4 | exact c5)); (· rfl); (· rfl); (· rfl); (· decide))
 | ((with_reducible apply aw_draw); (· decide +kernel); (simp only [List.size_toArray, List.length_cons, List.length_nil, Nat.reduceAdd]))
 | ((with_reducible apply awY_done); (· decide +kernel); (try simp only [CT, ↓reduceIte, Nat.reduceEqDiff]))
 | ((with_reducible apply awY_q); (· exact sQ); (· exact np); (· exact svg); (· rfl); (· exact sv))
 | ((with_reducible apply awI_c); (· exact svg); (· rfl); (· rfl); (· exact sv); (· (first | exact c4 | exact c5)); (· rfl); (· rfl); (· rfl); (· exact nd); simp only [put_some])
 | ((first | ((with_reducible apply awO_guardN); (· rfl); (· rfl); (· exact sv); (· exact nB)) | ((with_reducible apply aw_condN); (· exact sv))); (· exact pN); (· exact pN); all_goals (intro hg; try (exfalso; omega)))
 | ((with_reducible apply retQ_mk); (· exact rI); (· exact sv); (· exact sv); rotate_left; (· rfl))
 | ((with_reducible apply awY_p); (· exact sH); (first | ((with_reducible apply awP_1); (· decide +kernel)) | ((with_reducible apply awP_2); (· exact sP)))))
          all_goals first | rfl | exact tp3 rfl (by omega) rfl | (rw [j4]; rfl) | (rw [j4]; exact tp3 rfl (by omega) rfl)
        · subst j1
          rw [j4]
          repeat' (first
 | ((with_reducible apply awO_ev); (· rfl); (· exact sv))
 | ((with_reducible apply aw_seq); intro _ _)
 | (with_reducible apply aw_region)
 | ((with_reducible first | apply awO_nil | apply aw_exit | apply aw_skip | apply aw_ret); (try simp only [CT, ↓reduceIte, Nat.reduceEqDiff]))
 | ((with_reducible apply awO_n); (· rfl); (· rfl); (· decide); (· exact sv); (· rfl); (· rfl); (· decide))
 | ((with_reducible apply aw_cond_true); (· exact sv))
 | ((with_reducible apply aw_cond_false); (· exact sv))
 | (refine Kont.go ‹Kont _ _ _ _› _ ?_)
 | ((with_reducible apply awO_c); (· rfl); (· rfl); (· exact sv); (· (first | exact c4 | exact c5)); (· rfl); (· rfl); (· rfl); (· decide))
 | ((with_reducible apply aw_draw); (· decide +kernel); (simp only [List.size_toArray, List.length_cons, List.length_nil, Nat.reduceAdd]))
 | ((with_reducible apply awY_done); (· decide +kernel); (try simp only [CT, ↓reduceIte, Nat.reduceEqDiff]))
 | ((with_reducible apply awY_q); (· exact sQ); (· exact np); (· exact svg); (· rfl); (· exact sv))
 | ((with_reducible apply awI_c); (· exact svg); (· rfl); (· rfl); (· exact sv); (· (first | exact c4 | exact c5)); (· rfl); (· rfl); (· rfl); (· exact nd); simp only [put_some])
 | ((first | ((with_reducible apply awO_guardN); (· rfl); (· rfl); (· exact sv); (· exact nB)) | ((with_reducible apply aw_condN); (· exact sv))); (· exact pN); (· exact pN); all_goals (intro hg; try (exfalso; omega)))
 | ((with_reducible apply retQ_mk); (· exact rI); (· exact sv); (· exact sv); rotate_left; (· rfl))
 | ((with_reducible apply awY_p); (· exact sH); (first | ((with_reducible apply awP_1); (· decide +kernel)) | ((with_reducible apply awP_2); (· exact sP)))))
          all_goals first | rfl | exact tp3 rfl (by omega) rfl | (rw [j4]; rfl) | (rw [j4]; exact tp3 rfl (by omega) rfl)
/-- Where the byte behind the ! ends the string of an event, no event begins. -/
theorem revent_pl (i : Nat) (z : Int) (hz : z = i) (hs : s.length ≤ 4096) (hF : 1 ≤ F ∧ F ≤ 2147483647) (hL : L.length ≤ 100000) (hi1 : i + 1 < s.length) (hp : plB s i = true) :
    Ab Tryz.prog 46 [hsA F L, az s, ai z] (.tp [az [], ai i, ai 0]) := by
  subst hz
  have hpp : (trB (atB s (i + 1)) && !evB (atB s (i + 1))) = true := by unfold plB at hp; rw [decide_eq_false (by omega), Bool.false_or] at hp; exact hp
  have htr : trB (atB s (i + 1)) = true := (Bool.and_eq_true_iff.1 hpp).1
  have hev : evB (atB s (i + 1)) = false := by have := (Bool.and_eq_true_iff.1 hpp).2; simpa using this
  obtain ⟨hd, n45, n63⟩ := trB_no htr
  have hnn : ¬ (atB s (i + 1) = 33 ∨ atB s (i + 1) = 58 ∨ atB s (i + 1) = 94 ∨ atB s (i + 1) = 36 ∨ atB s (i + 1) = 42) := of_decide_eq_false hev
  have n33 : ¬ (atB s (i + 1)).toNat = 33 := fun h => hnn (.inl (UInt8.toNat_inj.1 h))
  have hin : List.contains [58, 94, 36, 42] (atB s (i + 1)) = false := by
    apply Bool.eq_false_iff.2
    intro h
    rw [List.contains_iff_mem] at h
    simp only [List.mem_cons, List.not_mem_nil, or_false] at h
    exact hnn (.inr h)
  have cl := rlast_ab F L (by omega) hL
  have ca := fun z hz => rat_ab s (i + 1) z hz (by omega)
  have cd := rdigit4_ab (atB s (i + 1))
  have ci := rin_ab [58, 94, 36, 42] (atB s (i + 1)) (by decide)
  have c6 := rends_ab s[i + 1]
  rw [hin] at ci
  rw [hd] at cd
  rw [← atB_lt hi1, htr] at c6
  rw [atB_lt hi1] at c6
  refine Fn_of_aw (keep := []) Tryz.func46 rfl rfl (by simp [Tryz.ntmps46]) ?_
  simp only [num_cons, num_nil, Tryz.ntmps46, Tryz.results46]
  repeat' (first
 | ((with_reducible apply awO_ev); (· rfl); (· exact sv))
 | ((with_reducible apply aw_seq); intro _ _)
 | (with_reducible apply aw_region)
 | (with_reducible apply aw_block)
 | ((with_reducible first | apply awO_nil | apply aw_exit | apply aw_skip | apply aw_ret); (try simp only [CT, ↓reduceIte, Nat.reduceEqDiff]))
 | ((with_reducible apply awO_y); (· rfl); (· rfl); (· decide); (· exact sv); (· exact sv))
 | ((with_reducible apply awO_n); (· rfl); (· rfl); (· decide); (· exact sv); (· rfl); (· rfl); (· decide))
 | ((with_reducible apply aw_cond_false); (· exact sv))
 | ((with_reducible apply awO_un); (· rfl); (· decide); (· exact sv))
 | (refine Kont.go ‹Kont _ _ _ _› _ ?_)
 | ((with_reducible apply awO_c); (· rfl); (· rfl); (· exact sv); (· (first | exact cl | exact ca _ (by omega) | exact cd | exact ci)); (· rfl); (· rfl); (· rfl); (· decide))
 | ((first | ((with_reducible apply awO_guardN); (· rfl); (· rfl); (· exact sv); (· exact nB)) | ((with_reducible apply aw_condN); (· exact sv))); (· exact pN); (· exact pN); all_goals (intro hg; try (exfalso; omega))))
  all_goals
    refine aw_loopF (fun e : Nat => [(11, ai e)]) (fun _ => [(3, [ai F, .rd L.length (L.map az)])]) (fun e => e = i + 1) (fun e => 0) (i + 1) rfl ?_ ?_ ?_
    · exact ⟨rfl, trivial⟩
    · exact ⟨rfl, trivial⟩
    intro m hI
    subst hI
    (simp only [LP, List.append_assoc, List.nil_append, List.cons_append, List.append_nil, List.contains_cons, List.contains_nil, Nat.reduceBEq, Bool.or_false, Bool.or_true, Bool.true_or, Bool.false_or, ↓reduceIte, Bool.false_eq_true])
    repeat' (first
 | ((with_reducible apply awO_ev); (· rfl); (· exact sv))
 | ((with_reducible apply aw_seq); intro _ _)
 | (with_reducible apply aw_region)
 | ((with_reducible first | apply awO_nil | apply aw_exit | apply aw_skip | apply aw_ret); (try simp only [CT, ↓reduceIte, Nat.reduceEqDiff]))
 | ((with_reducible apply awO_y); (· rfl); (· rfl); (· decide); (· exact sv); (· exact sv))
 | ((with_reducible apply aw_cond_false); (· exact sv))
 | ((with_reducible apply awO_un); (· rfl); (· decide); (· exact sv))
 | (refine Kont.go ‹Kont _ _ _ _› _ ?_)
 | ((with_reducible apply awO_c); (· rfl); (· rfl); (· exact sv); (· (first | exact c6)); (· rfl); (· rfl); (· rfl); (· decide))
 | ((first | ((with_reducible apply awO_guardN); (· rfl); (· rfl); (· exact sv); (· exact nB)) | ((with_reducible apply aw_condN); (· exact sv))); (· exact pN); (· exact pN); all_goals (intro hg; try (exfalso; omega)))
 | ((with_reducible apply retQ_mk); (· exact rI); (· exact sv); (· exact sv); rotate_left; (· rfl)))
    all_goals first | rfl | exact tp3 rfl (by omega) rfl
end
end Go.Proofs.YtgbhjlkenfmadaaGreatDoor
