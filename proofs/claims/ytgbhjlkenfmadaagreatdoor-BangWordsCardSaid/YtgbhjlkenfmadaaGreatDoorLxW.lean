/- The reference's operator, word, digits, Next, All, Same, on the abstract machine. -/
import Derived.Test.YtgbhjlkenfmadaaGreatDoorLxV
import Derived.Test.YtgbhjlkenfmadaaGreatDoorLxI
import Derived.Test.YtgbhjlkenfmadaaGreatDoorLxX
namespace Go.Proofs.YtgbhjlkenfmadaaGreatDoor
open Go.RowKit
set_option linter.unusedVariables false
set_option linter.unusedSimpArgs false
set_option maxRecDepth 100000
set_option maxHeartbeats 8000000
/-- The same, from three on. -/
def opR (l : List UInt8) : Nat → Nat
  | 0 => 0
  | k + 1 => if k + 1 ≤ l.length ∧ operB (l.take (k + 1)) = true then k + 1 else opR l k
theorem opR_eq (l : List UInt8) : ∀ k, opR l k = opK l (min k l.length)
  | 0 => by simp [opR, opK]
  | k + 1 => by
    simp only [opR]
    by_cases h : k + 1 ≤ l.length
    · rw [show min (k + 1) l.length = k + 1 from by omega]
      simp only [opK]
      by_cases ho : operB (l.take (k + 1)) = true
      · rw [if_pos ⟨h, ho⟩, if_pos ho]
      · rw [if_neg (fun h' => ho h'.2), if_neg ho, opR_eq l k, show min k l.length = k from by omega]
    · rw [if_neg (fun h' => h h'.1), opR_eq l k]
      congr 1
      omega
theorem roperator_ab (s : List UInt8) (a : Nat) (z : Int) (hz : z = a) (ha : a ≤ s.length) (hs : s.length ≤ 1000000) : Ab Tryz.prog 50 [az s, ai z] (ai (opN (s.drop a) : Nat)) := by
  subst hz
  have h0 : opN (s.drop a) = opR (s.drop a) 3 := (opR_eq _ 3).symm
  refine Fn_of_aw (keep := []) Tryz.func50 rfl rfl (by simp [Tryz.ntmps50]) ?_
  simp only [num_cons, num_nil, Tryz.ntmps50, Tryz.results50]
  repeat' (first
 | ((with_reducible apply awO_ev); (· rfl); (· exact sv))
 | ((with_reducible apply aw_seq); intro _ _)
 | (with_reducible apply aw_region)
 | (with_reducible apply aw_block)
 | ((with_reducible first | apply awO_nil | apply aw_exit | apply aw_skip | apply aw_ret); (try simp only [CT, ↓reduceIte, Nat.reduceEqDiff]))
 | (refine Kont.go ‹Kont _ _ _ _› _ ?_))
  refine aw_loopF (fun k : Nat => [(5, ai k)]) (fun _ => []) (fun k => k ≤ 3 ∧ opN (s.drop a) = opR (s.drop a) k) (fun k => k) 3 ⟨by omega, h0⟩ ?_ ?_ ?_
  · (simp only [LP, look_cons, look_nil, and_true, true_and, ↓reduceIte, Nat.reduceEqDiff, Option.some.injEq, AV.v.injEq, Value.int.injEq, Int.natCast_add, Int.cast_ofNat_Int])
    first | done | rfl
  · (simp only [LP, look_cons, look_nil, and_true, true_and, ↓reduceIte, Nat.reduceEqDiff, Option.some.injEq, AV.v.injEq, Value.int.injEq, Int.natCast_add, Int.cast_ofNat_Int])
  intro k ⟨hk3, hK⟩
  (simp only [LP, List.append_assoc, List.nil_append, List.cons_append, List.append_nil, List.contains_cons, List.contains_nil, Nat.reduceBEq, Bool.or_false, Bool.or_true, Bool.true_or, Bool.false_or, ↓reduceIte, Bool.false_eq_true])
  cases k with
  | succ k =>
    simp only [opR, List.length_drop] at hK
    have e1 : a + (k + 1) - a = k + 1 := by omega
    have c1 := roper_ab (List.take (a + (k + 1) - a) (List.drop a s))
    rw [congrArg (fun x => operB (List.take x (List.drop a s))) e1] at c1
    by_cases hl : a + (k + 1) ≤ s.length
    · cases ho : operB ((s.drop a).take (k + 1)) with
      | true =>
        rw [if_pos ⟨by omega, ho⟩] at hK
        rw [ho] at c1
        repeat' (first
 | ((with_reducible apply awO_ev); (· rfl); (· exact sv))
 | ((with_reducible apply aw_seq); intro _ _)
 | (with_reducible apply aw_region)
 | (with_reducible apply aw_block)
 | ((with_reducible first | apply awO_nil | apply aw_exit | apply aw_skip | apply aw_ret); (try simp only [CT, ↓reduceIte, Nat.reduceEqDiff]))
 | ((with_reducible apply awO_y); (· rfl); (· rfl); (· decide); (· exact sv); (· exact sv))
 | ((with_reducible apply aw_cond_true); (· exact sv))
 | ((with_reducible apply awO_un); (· rfl); (· decide); (· exact sv))
 | (refine Kont.go ‹Kont _ _ _ _› _ ?_)
 | ((with_reducible apply awO_c); (· rfl); (· rfl); (· exact sv); (· (first | with_reducible exact c1)); (· rfl); (· rfl); (· rfl); (· decide))
 | ((first | ((with_reducible apply awO_guardN); (· rfl); (· rfl); (· exact sv); (· exact nB)) | ((with_reducible apply aw_condN); (· exact sv))); (· exact pN); (· exact pN); all_goals (intro hg; try (exfalso; omega)))
 | ((with_reducible apply retQ_mk); (· exact rI); (· exact sv); (· exact sv); rotate_left; (· rfl)))
        refine ai_eq ?_; omega
      | false =>
        rw [if_neg (by rw [ho]; simp)] at hK
        rw [ho] at c1
        repeat' (first
 | ((with_reducible apply awO_ev); (· rfl); (· exact sv))
 | ((with_reducible apply aw_seq); intro _ _)
 | (with_reducible apply aw_region)
 | (with_reducible apply aw_block)
 | ((with_reducible first | apply awO_nil | apply aw_exit | apply aw_skip | apply aw_ret); (try simp only [CT, ↓reduceIte, Nat.reduceEqDiff]))
 | ((with_reducible apply awO_y); (· rfl); (· rfl); (· decide); (· exact sv); (· exact sv))
 | ((with_reducible apply aw_cond_false); (· exact sv))
 | ((with_reducible apply awO_un); (· rfl); (· decide); (· exact sv))
 | (refine Kont.go ‹Kont _ _ _ _› _ ?_)
 | ((with_reducible apply awO_c); (· rfl); (· rfl); (· exact sv); (· (first | with_reducible exact c1)); (· rfl); (· rfl); (· rfl); (· decide))
 | ((first | ((with_reducible apply awO_guardN); (· rfl); (· rfl); (· exact sv); (· exact nB)) | ((with_reducible apply aw_condN); (· exact sv))); (· exact pN); (· exact pN); all_goals (intro hg; try (exfalso; omega))))
        refine LE_mk (k) ?_ ?_ sN sN sN
        · exact ⟨by omega, hK⟩
        · omega
    · rw [if_neg (by omega)] at hK
      repeat' (first
 | ((with_reducible apply awO_ev); (· rfl); (· exact sv))
 | ((with_reducible apply aw_seq); intro _ _)
 | (with_reducible apply aw_region)
 | (with_reducible apply aw_block)
 | ((with_reducible first | apply awO_nil | apply aw_exit | apply aw_skip | apply aw_ret); (try simp only [CT, ↓reduceIte, Nat.reduceEqDiff]))
 | ((with_reducible apply awO_n); (· rfl); (· rfl); (· decide); (· exact sv); (· rfl); (· rfl); (· decide))
 | ((with_reducible apply aw_cond_false); (· exact sv))
 | (refine Kont.go ‹Kont _ _ _ _› _ ?_)
 | ((first | ((with_reducible apply awO_guardN); (· rfl); (· rfl); (· exact sv); (· exact nB)) | ((with_reducible apply aw_condN); (· exact sv))); (· exact pN); (· exact pN); all_goals (intro hg; try (exfalso; omega))))
      refine LE_mk (k) ?_ ?_ sN sN sN
      · exact ⟨by omega, hK⟩
      · omega
  | zero =>
    simp only [opR] at hK
    repeat' (first
 | ((with_reducible apply awO_ev); (· rfl); (· exact sv))
 | ((with_reducible apply aw_seq); intro _ _)
 | (with_reducible apply aw_region)
 | ((with_reducible first | apply awO_nil | apply aw_exit | apply aw_skip | apply aw_ret); (try simp only [CT, ↓reduceIte, Nat.reduceEqDiff]))
 | ((with_reducible apply aw_cond_false); (· exact sv))
 | (refine Kont.go ‹Kont _ _ _ _› _ ?_)
 | ((with_reducible apply retQ_mk); (· exact rI); (· exact sv); (· exact sv); rotate_left; (· rfl)))
    refine ai_eq ?_; omega
theorem rword_ab (s : List UInt8) (a : Nat) (z : Int) (hz : z = a) (ha : a ≤ s.length) (hs : s.length ≤ 1000000) : Ab Tryz.prog 51 [az s, ai z] (tpr a (wrd (s.drop a) 0)) := by
  subst hz
  refine Fn_of_aw (keep := []) Tryz.func51 rfl rfl (by simp [Tryz.ntmps51]) ?_
  simp only [num_cons, num_nil, Tryz.ntmps51, Tryz.results51]
  repeat' (first
 | ((with_reducible apply awO_ev); (· rfl); (· exact sv))
 | ((with_reducible apply aw_seq); intro _ _)
 | (with_reducible apply aw_region)
 | (with_reducible apply aw_block)
 | ((with_reducible first | apply awO_nil | apply aw_exit | apply aw_skip | apply aw_ret); (try simp only [CT, ↓reduceIte, Nat.reduceEqDiff]))
 | (refine Kont.go ‹Kont _ _ _ _› _ ?_))
  refine aw_loopF (fun i : Nat => [(1, ai i)]) (fun _ => []) (fun i => a ≤ i ∧ i ≤ s.length ∧ wrd (s.drop a) 0 = wrd (s.drop i) (i - a)) (fun i => s.length - i) a ⟨by omega, by omega, by rw [Nat.sub_self]⟩ ?_ ?_ ?_
  · (simp only [LP, look_cons, look_nil, and_true, true_and, ↓reduceIte, Nat.reduceEqDiff, Option.some.injEq, AV.v.injEq, Value.int.injEq, Int.natCast_add, Int.cast_ofNat_Int])
  · (simp only [LP, look_cons, look_nil, and_true, true_and, ↓reduceIte, Nat.reduceEqDiff, Option.some.injEq, AV.v.injEq, Value.int.injEq, Int.natCast_add, Int.cast_ofNat_Int])
  intro i ⟨hi0, hi, hI⟩
  (simp only [LP, List.append_assoc, List.nil_append, List.cons_append, List.append_nil, List.contains_cons, List.contains_nil, Nat.reduceBEq, Bool.or_false, Bool.or_true, Bool.true_or, Bool.false_or, ↓reduceIte, Bool.false_eq_true])
  by_cases hil : i < s.length
  · have c1 := rblank_ab s[i]
    have c2 := opByte_ab s[i]
    have c3 := pass_ab s i i rfl hil hs
    have hok := pas_ok (l := s.drop i) 0 (by rw [List.length_drop]; omega)
    have hdv := divB_or s[i]
    rw [dropc hil] at hI c3 hok
    rw [wrd] at hI
    by_cases hd : divB s[i] = true
    · rw [if_pos hd] at hI
      rw [hd] at hdv
      clear c3 hok
      cases hbl : blankB s[i] with
      | true =>
        rw [hbl] at c1
        repeat' (first
 | ((with_reducible apply awO_ev); (· rfl); (· exact sv))
 | ((with_reducible apply aw_seq); intro _ _)
 | (with_reducible apply aw_region)
 | ((with_reducible first | apply awO_nil | apply aw_exit | apply aw_skip | apply aw_ret); (try simp only [CT, ↓reduceIte, Nat.reduceEqDiff]))
 | ((with_reducible apply awO_y); (· rfl); (· rfl); (· decide); (· exact sv); (· exact sv))
 | ((with_reducible apply awO_n); (· rfl); (· rfl); (· decide); (· exact sv); (· rfl); (· rfl); (· decide))
 | ((with_reducible apply aw_cond_false); (· exact sv))
 | ((with_reducible apply awO_un); (· rfl); (· decide); (· exact sv))
 | (refine Kont.go ‹Kont _ _ _ _› _ ?_)
 | ((with_reducible apply awO_c); (· rfl); (· rfl); (· exact sv); (· (first | with_reducible exact c1)); (· rfl); (· rfl); (· rfl); (· decide))
 | ((first | ((with_reducible apply awO_guardN); (· rfl); (· rfl); (· exact sv); (· exact nB)) | ((with_reducible apply aw_condN); (· exact sv))); (· exact pN); (· exact pN); all_goals (intro hg; try (exfalso; omega)))
 | ((with_reducible apply retQ_mk); (· exact rI); (· exact sv); (· exact sv); rotate_left; (· rfl)))
        exact tp_mk (b := i - a) hI (by omega)
      | false =>
        rw [hbl] at c1 hdv
        by_cases h10 : s[i].toNat = 10
        · skip
          repeat' (first
 | ((with_reducible apply awO_ev); (· rfl); (· exact sv))
 | ((with_reducible apply aw_seq); intro _ _)
 | (with_reducible apply aw_region)
 | ((with_reducible first | apply awO_nil | apply aw_exit | apply aw_skip | apply aw_ret); (try simp only [CT, ↓reduceIte, Nat.reduceEqDiff]))
 | ((with_reducible apply awO_y); (· rfl); (· rfl); (· decide); (· exact sv); (· exact sv))
 | ((with_reducible apply awO_n); (· rfl); (· rfl); (· decide); (· exact sv); (· rfl); (· rfl); (· decide))
 | ((with_reducible apply aw_cond_false); (· exact sv))
 | ((with_reducible apply awO_un); (· rfl); (· decide); (· exact sv))
 | (refine Kont.go ‹Kont _ _ _ _› _ ?_)
 | ((with_reducible apply awO_c); (· rfl); (· rfl); (· exact sv); (· (first | with_reducible exact c1)); (· rfl); (· rfl); (· rfl); (· decide))
 | ((first | ((with_reducible apply awO_guardN); (· rfl); (· rfl); (· exact sv); (· exact nB)) | ((with_reducible apply aw_condN); (· exact sv))); (· exact pN); (· exact pN); all_goals (intro hg; try (exfalso; omega)))
 | ((with_reducible apply retQ_mk); (· exact rI); (· exact sv); (· exact sv); rotate_left; (· rfl)))
          exact tp_mk (b := i - a) hI (by omega)
        · rw [decide_eq_false h10] at hdv
          simp only [Bool.false_or] at hdv
          rw [hdv] at c2
          repeat' (first
 | ((with_reducible apply awO_ev); (· rfl); (· exact sv))
 | ((with_reducible apply aw_seq); intro _ _)
 | (with_reducible apply aw_region)
 | ((with_reducible first | apply awO_nil | apply aw_exit | apply aw_skip | apply aw_ret); (try simp only [CT, ↓reduceIte, Nat.reduceEqDiff]))
 | ((with_reducible apply awO_y); (· rfl); (· rfl); (· decide); (· exact sv); (· exact sv))
 | ((with_reducible apply aw_cond_false); (· exact sv))
 | ((with_reducible apply awO_un); (· rfl); (· decide); (· exact sv))
 | (refine Kont.go ‹Kont _ _ _ _› _ ?_)
 | ((with_reducible apply awO_c); (· rfl); (· rfl); (· exact sv); (· (first | with_reducible exact c1 | with_reducible exact c2)); (· rfl); (· rfl); (· rfl); (· decide))
 | ((first | ((with_reducible apply awO_guardN); (· rfl); (· rfl); (· exact sv); (· exact nB)) | ((with_reducible apply aw_condN); (· exact sv))); (· exact pN); (· exact pN); all_goals (intro hg; try (exfalso; omega)))
 | ((with_reducible apply retQ_mk); (· exact rI); (· exact sv); (· exact sv); rotate_left; (· rfl)))
          exact tp_mk (b := i - a) hI (by omega)
    · rw [if_neg hd] at hI
      have hd' : divB s[i] = false := by simpa using hd
      rw [hd'] at hdv
      simp only [Bool.or_eq_false_iff, decide_eq_false_iff_not] at hdv
      obtain ⟨⟨d1, d2⟩, d3⟩ := hdv
      rw [d1] at c1
      rw [d3] at c2
      obtain ⟨k1, k2, k3, k4⟩ := hok
      simp only [List.length_cons, List.length_drop] at k1
      generalize hp : pas (s[i] :: s.drop (i + 1)) 0 = p at *
      obtain ⟨pe, pr⟩ := p
      simp only at k1 k2 k3 k4 hI
      repeat' (first
 | ((with_reducible apply awO_ev); (· rfl); (· exact sv))
 | ((with_reducible apply aw_seq); intro _ _)
 | (with_reducible apply aw_region)
 | (with_reducible apply aw_block)
 | ((with_reducible first | apply awO_nil | apply aw_exit | apply aw_skip | apply aw_ret); (try simp only [CT, ↓reduceIte, Nat.reduceEqDiff]))
 | ((with_reducible apply awO_y); (· rfl); (· rfl); (· decide); (· exact sv); (· exact sv))
 | ((with_reducible apply aw_cond_true); (· exact sv))
 | ((with_reducible apply awO_un); (· rfl); (· decide); (· exact sv))
 | (refine Kont.go ‹Kont _ _ _ _› _ ?_)
 | ((with_reducible apply awO_c); (· rfl); (· rfl); (· exact sv); (· (first | with_reducible exact c1 | with_reducible exact c2 | with_reducible exact c3)); (· rfl); (· rfl); (· rfl); (· decide))
 | ((first | ((with_reducible apply awO_guardN); (· rfl); (· rfl); (· exact sv); (· exact nB)) | ((with_reducible apply aw_condN); (· exact sv))); (· exact pN); (· exact pN); all_goals (intro hg; try (exfalso; omega)))
 | ((with_reducible apply retQ_mk); (· exact rI); (· exact sv); (· exact sv); rotate_left; (· rfl)))
      · refine tp_mk (b := i - a + pe) ?_ (by omega); rw [hI, if_pos hg]
      · refine LE_mk (i + pe) ?_ ?_ sN sN sN
        · have := k2 hg
          refine ⟨by omega, by omega, ?_⟩
          rw [hI, if_neg (by simpa using hg), if_neg (by omega), drop_pas hil (by omega)]; congr 1; omega
        · have := k2 hg; omega
  · rw [List.drop_eq_nil_of_le (by omega : s.length ≤ i), wrd] at hI
    repeat' (first
 | ((with_reducible apply awO_ev); (· rfl); (· exact sv))
 | ((with_reducible apply aw_seq); intro _ _)
 | (with_reducible apply aw_region)
 | ((with_reducible first | apply awO_nil | apply aw_exit | apply aw_skip | apply aw_ret); (try simp only [CT, ↓reduceIte, Nat.reduceEqDiff]))
 | ((with_reducible apply awO_n); (· rfl); (· rfl); (· decide); (· exact sv); (· rfl); (· rfl); (· decide))
 | ((with_reducible apply aw_cond_false); (· exact sv))
 | (refine Kont.go ‹Kont _ _ _ _› _ ?_)
 | ((first | ((with_reducible apply awO_guardN); (· rfl); (· rfl); (· exact sv); (· exact nB)) | ((with_reducible apply aw_condN); (· exact sv))); (· exact pN); (· exact pN); all_goals (intro hg; try (exfalso; omega)))
 | ((with_reducible apply retQ_mk); (· exact rI); (· exact sv); (· exact sv); rotate_left; (· rfl)))
    exact tp_mk (b := i - a) hI (by omega)
theorem rdigits_ab (s : List UInt8) (hs : s.length ≤ 1000000) : Ab Tryz.prog 52 [az s] (ab (s.all digitB && decide (0 < s.length))) := by
  refine Fn_of_aw (keep := []) Tryz.func52 rfl rfl (by simp [Tryz.ntmps52]) ?_
  simp only [num_cons, num_nil, Tryz.ntmps52, Tryz.results52]
  repeat' (first
 | ((with_reducible apply awO_ev); (· rfl); (· exact sv))
 | ((with_reducible apply aw_seq); intro _ _)
 | (with_reducible apply aw_region)
 | (with_reducible apply aw_block)
 | ((with_reducible first | apply awO_nil | apply aw_exit | apply aw_skip | apply aw_ret); (try simp only [CT, ↓reduceIte, Nat.reduceEqDiff]))
 | (refine Kont.go ‹Kont _ _ _ _› _ ?_))
  refine aw_loopF (fun k : Nat => [(3, ai k)]) (fun _ => []) (fun k => k ≤ s.length ∧ s.all digitB = (s.drop k).all digitB) (fun k => s.length - k) 0 ⟨by omega, rfl⟩ ?_ ?_ ?_
  · (simp only [LP, look_cons, look_nil, and_true, true_and, ↓reduceIte, Nat.reduceEqDiff, Option.some.injEq, AV.v.injEq, Value.int.injEq, Int.natCast_add, Int.cast_ofNat_Int])
  · (simp only [LP, look_cons, look_nil, and_true, true_and, ↓reduceIte, Nat.reduceEqDiff, Option.some.injEq, AV.v.injEq, Value.int.injEq, Int.natCast_add, Int.cast_ofNat_Int])
  intro k ⟨hk, hI⟩
  (simp only [LP, List.append_assoc, List.nil_append, List.cons_append, List.append_nil, List.contains_cons, List.contains_nil, Nat.reduceBEq, Bool.or_false, Bool.or_true, Bool.true_or, Bool.false_or, ↓reduceIte, Bool.false_eq_true])
  by_cases hkl : k < s.length
  · rw [dropc hkl, List.all_cons] at hI
    repeat' (first
 | ((with_reducible apply awO_ev); (· rfl); (· exact sv))
 | ((with_reducible apply aw_seq); intro _ _)
 | (with_reducible apply aw_region)
 | (with_reducible apply aw_block)
 | ((with_reducible first | apply awO_nil | apply aw_exit | apply aw_skip | apply aw_ret); (try simp only [CT, ↓reduceIte, Nat.reduceEqDiff]))
 | (refine Kont.go ‹Kont _ _ _ _› _ ?_)
 | ((with_reducible apply awO_c); (· rfl); (· rfl); (· exact sv); (· (first | exact rdigit_ab _)); (· rfl); (· rfl); (· rfl); (· decide))
 | ((first | ((with_reducible apply awO_guardN); (· rfl); (· rfl); (· exact sv); (· exact nB)) | ((with_reducible apply aw_condN); (· exact sv))); (· exact pN); (· exact pN); all_goals (intro hg; try (exfalso; omega)))
 | ((with_reducible apply retQ_mk); (· exact rI); (· exact sv); (· exact sv); rotate_left; (· rfl)))
    all_goals (first
      | (refine LE_mk (k + 1) ?_ ?_ sN sN sN
         · exact ⟨hkl, by rw [hI, hg]; rfl⟩
         · omega)
      | (rw [hI, hg]; rfl))
  · skip
    repeat' (first
 | ((with_reducible apply awO_ev); (· rfl); (· exact sv))
 | ((with_reducible apply aw_seq); intro _ _)
 | (with_reducible apply aw_region)
 | ((with_reducible first | apply awO_nil | apply aw_exit | apply aw_skip | apply aw_ret); (try simp only [CT, ↓reduceIte, Nat.reduceEqDiff]))
 | (refine Kont.go ‹Kont _ _ _ _› _ ?_)
 | ((first | ((with_reducible apply awO_guardN); (· rfl); (· rfl); (· exact sv); (· exact nB)) | ((with_reducible apply aw_condN); (· exact sv))); (· exact pN); (· exact pN); all_goals (intro hg; try (exfalso; omega)))
 | ((with_reducible apply retQ_mk); (· exact rI); (· exact sv); (· exact sv); rotate_left; (· rfl)))
    rw [hI, List.drop_eq_nil_of_le (by omega)]; simp
theorem wrd_pos {s : List UInt8} {a w : Nat} (hal : a < s.length) (h10 : ¬ s[a].toNat = 10) (hopn : opN (s.drop a) = 0) (hnb : blankB s[a] = false) (hw : wrd (s.drop a) 0 = (w, 0)) : 0 < w := by
  have hdv : ¬ divB s[a] = true := fun hd => by
    rcases (divB_split _).1 hd with h | h | h
    · have h' := opB_oper h
      have := opK_pos (l := s.drop a) (by rw [dropc hal]; exact h') (min 3 (s.drop a).length) (by rw [List.length_drop]; omega)
      unfold opN at hopn
      omega
    · exact h10 h
    · rw [hnb] at h; cases h
  rw [dropc hal, wrd, if_neg hdv] at hw
  have hp := pas_ok (l := s[a] :: s.drop (a + 1)) 0 (by rw [List.length_cons]; omega)
  obtain ⟨k1, k2, k3, k4⟩ := hp
  split at hw
  · next hne => injection hw with _ h; exact absurd h hne
  · next hne =>
    have := k2 (by simpa using hne)
    rw [if_neg (by omega)] at hw
    have h5 := wrd_ok _ (List.drop ((pas (s[a] :: List.drop (a + 1) s) 0).1 - 1) (List.drop (a + 1) s)) (0 + (pas (s[a] :: List.drop (a + 1) s) 0).1) (Nat.le_refl _)
    rw [hw] at h5
    simp only at h5
    omega
theorem skp_nb {s : List UInt8} {z : Int} (h : skp s z < s.length) : blankB s[skp s z] = false := by
  have := skpN_nb _ (s.drop (clp z s.length)) (Nat.le_refl _)
  rw [List.drop_drop] at this
  have e : clp z s.length + skpN (s.drop (clp z s.length)) = skp s z := rfl
  rw [e, dropc h] at this
  rcases this with h' | ⟨c, r, h', hb⟩
  · cases h'
  · injection h' with h' _; rw [h']; exact hb
theorem rnext_ab (s : List UInt8) (z : Int) (hs : s.length ≤ 1000000) : Ab Tryz.prog 28 [az s, ai z] (nxA (nextF s z)) := by
  unfold nextF
  by_cases h1 : 16384 < s.length
  · rw [if_pos h1]
    refine Fn_of_aw (keep := []) Tryz.func28 rfl rfl (by simp [Tryz.ntmps28]) ?_
    simp only [num_cons, num_nil, Tryz.ntmps28, Tryz.results28]
    repeat' (first
 | ((with_reducible apply awO_ev); (· rfl); (· exact sv))
 | ((with_reducible apply aw_seq); intro _ _)
 | (with_reducible apply aw_region)
 | ((with_reducible first | apply awO_nil | apply aw_exit | apply aw_skip | apply aw_ret); (try simp only [CT, ↓reduceIte, Nat.reduceEqDiff]))
 | (refine Kont.go ‹Kont _ _ _ _› _ ?_)
 | ((first | ((with_reducible apply awO_guardN); (· rfl); (· rfl); (· exact sv); (· exact nB)) | ((with_reducible apply aw_condN); (· exact sv))); (· exact pN); (· exact pN); all_goals (intro hg; try (exfalso; omega)))
 | ((with_reducible apply retQ_mk); (· exact rI); (· exact sv); (· exact sv); rotate_left; (· rfl)))
    all_goals rfl
  rw [if_neg h1]
  have c0 := rskip_ab s z hs
  have hle := skp_le s z
  have hnb := skp_nb (s := s) (z := z)
  generalize skp s z = a at *
  by_cases hal : a < s.length
  · have hnb := hnb hal
    by_cases h10 : s[a].toNat = 10
    · rw [nxt_nl hal h10, show s[a] = 10 from UInt8.toNat_inj.1 h10]
      refine Fn_of_aw (keep := []) Tryz.func28 rfl rfl (by simp [Tryz.ntmps28]) ?_
      simp only [num_cons, num_nil, Tryz.ntmps28, Tryz.results28]
      repeat' (first
 | ((with_reducible apply awO_ev); (· rfl); (· exact sv))
 | ((with_reducible apply aw_seq); intro _ _)
 | (with_reducible apply aw_region)
 | ((with_reducible first | apply awO_nil | apply aw_exit | apply aw_skip | apply aw_ret); (try simp only [CT, ↓reduceIte, Nat.reduceEqDiff]))
 | (refine Kont.go ‹Kont _ _ _ _› _ ?_)
 | ((with_reducible apply awO_c); (· rfl); (· rfl); (· exact sv); (· (first | with_reducible exact c0)); (· rfl); (· rfl); (· rfl); (· decide))
 | ((first | ((with_reducible apply awO_guardN); (· rfl); (· rfl); (· exact sv); (· exact nB)) | ((with_reducible apply aw_condN); (· exact sv))); (· exact pN); (· exact pN); all_goals (intro hg; try (exfalso; omega)))
 | ((with_reducible apply retQ_mk); (· exact rI); (· exact sv); (· exact sv); rotate_left; (· rfl)))
      all_goals rfl
    have c1 := roperator_ab s a a rfl (by omega) hs
    rcases hopn : opN (s.drop a) with _ | k
    · rw [hopn] at c1
      have c2 := rword_ab s a a rfl (by omega) hs
      rcases hw : wrd (s.drop a) 0 with ⟨w, e⟩
      rw [hw] at c2
      have hwo := wrd_ok _ (s.drop a) 0 (Nat.le_refl _)
      rw [List.length_drop, hw] at hwo
      simp only at hwo
      by_cases he : e = 0
      · subst he
        have hw0 := wrd_pos hal h10 hopn hnb hw
        rw [nxt_word hal h10 hopn hw]
        have c3 := rdigits_ab (List.take (a + w - a) (List.drop a s)) (by simp; omega)
        have e1 : a + w - a = w := by omega
        have e2 : (decide (0 < (List.take (a + w - a) (List.drop a s)).length)) = true := by simp; omega
        rw [e2, Bool.and_true, congrArg (fun x => List.all (List.take x (List.drop a s)) digitB) e1] at c3
        have hred : ∀ h : a + w < s.length, redB (s.drop (a + w)) = decide (s[a + w].toNat = 60 ∨ s[a + w].toNat = 62) := fun h => by rw [dropc h]; rfl
        have e3 : ((a : Int) + (w : Int)).toNat = a + w := by omega
        cases hnum : ((s.drop a).take w).all digitB with
        | false =>
          rw [hnum] at c3
          rw [if_neg (by simp)]
          refine Fn_of_aw (keep := []) Tryz.func28 rfl rfl (by simp [Tryz.ntmps28]) ?_
          simp only [num_cons, num_nil, Tryz.ntmps28, Tryz.results28]
          repeat' (first
 | ((with_reducible apply awO_ev); (· rfl); (· exact sv))
 | ((with_reducible apply aw_seq); intro _ _)
 | (with_reducible apply aw_region)
 | ((with_reducible first | apply awO_nil | apply aw_exit | apply aw_skip | apply aw_ret); (try simp only [CT, ↓reduceIte, Nat.reduceEqDiff]))
 | ((with_reducible apply awO_n); (· rfl); (· rfl); (· decide); (· exact sv); (· rfl); (· rfl); (· decide))
 | ((with_reducible apply awO_u); (· rfl); (· rfl); (· exact svr); (· rfl); (· decide))
 | ((with_reducible apply aw_cond_false); (· exact sv))
 | (refine Kont.go ‹Kont _ _ _ _› _ ?_)
 | ((with_reducible apply awO_c); (· rfl); (· rfl); (· exact sv); (· (first | with_reducible exact c0 | with_reducible exact c1 | with_reducible exact c2 | with_reducible exact c3)); (· rfl); (· rfl); (· rfl); (· decide))
 | ((first | ((with_reducible apply awO_guardN); (· rfl); (· rfl); (· exact sv); (· exact nB)) | ((with_reducible apply aw_condN); (· exact sv))); (· exact pN); (· exact pN); all_goals (intro hg; try (exfalso; omega)))
 | ((with_reducible apply retQ_mk); (· exact rI); (· exact sv); (· exact sv); rotate_left; (· rfl)))
          all_goals (simp only [e1]; done)
        | true =>
          rw [hnum] at c3
          by_cases hlt : a + w < s.length
          · rw [hred hlt]
            by_cases hre : s[a + w].toNat = 60 ∨ s[a + w].toNat = 62
            · rw [decide_eq_true hre, if_pos ⟨rfl, rfl⟩]
              refine Fn_of_aw (keep := []) Tryz.func28 rfl rfl (by simp [Tryz.ntmps28]) ?_
              simp only [num_cons, num_nil, Tryz.ntmps28, Tryz.results28]
              repeat' (first
 | ((with_reducible apply awO_ev); (· rfl); (· exact sv))
 | ((with_reducible apply aw_seq); intro _ _)
 | (with_reducible apply aw_region)
 | ((with_reducible first | apply awO_nil | apply aw_exit | apply aw_skip | apply aw_ret); (try simp only [CT, ↓reduceIte, Nat.reduceEqDiff]))
 | ((with_reducible apply awO_y); (· rfl); (· rfl); (· decide); (· exact sv); (· exact sv))
 | ((with_reducible apply awO_n); (· rfl); (· rfl); (· decide); (· exact sv); (· rfl); (· rfl); (· decide))
 | ((with_reducible apply aw_cond_true); (· exact sv))
 | ((with_reducible apply aw_cond_false); (· exact sv))
 | (refine Kont.go ‹Kont _ _ _ _› _ ?_)
 | ((with_reducible apply awO_c); (· rfl); (· rfl); (· exact sv); (· (first | with_reducible exact c0 | with_reducible exact c1 | with_reducible exact c2 | with_reducible exact c3)); (· rfl); (· rfl); (· rfl); (· decide))
 | ((first | ((with_reducible apply awO_guardN); (· rfl); (· rfl); (· exact sv); (· exact nB)) | ((with_reducible apply aw_condN); (· exact sv))); (· exact pN); (· exact pN); all_goals (intro hg; try (exfalso; omega)))
 | ((with_reducible apply retQ_mk); (· exact rI); (· exact sv); (· exact sv); rotate_left; (· rfl)))
              all_goals (simp only [e1]; done)
            · rw [decide_eq_false hre, if_neg (by simp)]
              refine Fn_of_aw (keep := []) Tryz.func28 rfl rfl (by simp [Tryz.ntmps28]) ?_
              simp only [num_cons, num_nil, Tryz.ntmps28, Tryz.results28]
              repeat' (first
 | ((with_reducible apply awO_ev); (· rfl); (· exact sv))
 | ((with_reducible apply aw_seq); intro _ _)
 | (with_reducible apply aw_region)
 | ((with_reducible first | apply awO_nil | apply aw_exit | apply aw_skip | apply aw_ret); (try simp only [CT, ↓reduceIte, Nat.reduceEqDiff]))
 | ((with_reducible apply awO_y); (· rfl); (· rfl); (· decide); (· exact sv); (· exact sv))
 | ((with_reducible apply aw_cond_false); (· exact sv))
 | (refine Kont.go ‹Kont _ _ _ _› _ ?_)
 | ((with_reducible apply awO_c); (· rfl); (· rfl); (· exact sv); (· (first | with_reducible exact c0 | with_reducible exact c1 | with_reducible exact c2 | with_reducible exact c3)); (· rfl); (· rfl); (· rfl); (· decide))
 | ((first | ((with_reducible apply awO_guardN); (· rfl); (· rfl); (· exact sv); (· exact nB)) | ((with_reducible apply aw_condN); (· exact sv))); (· exact pN); (· exact pN); all_goals (intro hg; try (exfalso; omega)))
 | ((with_reducible apply retQ_mk); (· exact rI); (· exact sv); (· exact sv); rotate_left; (· rfl)))
              all_goals (simp only [e1]; done)
          · rw [List.drop_eq_nil_of_le (by omega : s.length ≤ a + w), if_neg (by simp [redB])]
            refine Fn_of_aw (keep := []) Tryz.func28 rfl rfl (by simp [Tryz.ntmps28]) ?_
            simp only [num_cons, num_nil, Tryz.ntmps28, Tryz.results28]
            repeat' (first
 | ((with_reducible apply awO_ev); (· rfl); (· exact sv))
 | ((with_reducible apply aw_seq); intro _ _)
 | (with_reducible apply aw_region)
 | ((with_reducible first | apply awO_nil | apply aw_exit | apply aw_skip | apply aw_ret); (try simp only [CT, ↓reduceIte, Nat.reduceEqDiff]))
 | ((with_reducible apply awO_y); (· rfl); (· rfl); (· decide); (· exact sv); (· exact sv))
 | ((with_reducible apply awO_n); (· rfl); (· rfl); (· decide); (· exact sv); (· rfl); (· rfl); (· decide))
 | ((with_reducible apply awO_u); (· rfl); (· rfl); (· exact svr); (· rfl); (· decide))
 | ((with_reducible apply aw_cond_false); (· exact sv))
 | (refine Kont.go ‹Kont _ _ _ _› _ ?_)
 | ((with_reducible apply awO_c); (· rfl); (· rfl); (· exact sv); (· (first | with_reducible exact c0 | with_reducible exact c1 | with_reducible exact c2 | with_reducible exact c3)); (· rfl); (· rfl); (· rfl); (· decide))
 | ((first | ((with_reducible apply awO_guardN); (· rfl); (· rfl); (· exact sv); (· exact nB)) | ((with_reducible apply aw_condN); (· exact sv))); (· exact pN); (· exact pN); all_goals (intro hg; try (exfalso; omega)))
 | ((with_reducible apply retQ_mk); (· exact rI); (· exact sv); (· exact sv); rotate_left; (· rfl)))
            all_goals (simp only [e1]; done)
      · rw [nxt_err hal h10 hopn hw he]
        refine Fn_of_aw (keep := []) Tryz.func28 rfl rfl (by simp [Tryz.ntmps28]) ?_
        simp only [num_cons, num_nil, Tryz.ntmps28, Tryz.results28]
        repeat' (first
 | ((with_reducible apply awO_ev); (· rfl); (· exact sv))
 | ((with_reducible apply aw_seq); intro _ _)
 | (with_reducible apply aw_region)
 | ((with_reducible first | apply awO_nil | apply aw_exit | apply aw_skip | apply aw_ret); (try simp only [CT, ↓reduceIte, Nat.reduceEqDiff]))
 | ((with_reducible apply aw_cond_false); (· exact sv))
 | (refine Kont.go ‹Kont _ _ _ _› _ ?_)
 | ((with_reducible apply awO_c); (· rfl); (· rfl); (· exact sv); (· (first | with_reducible exact c0 | with_reducible exact c1 | with_reducible exact c2)); (· rfl); (· rfl); (· rfl); (· decide))
 | ((first | ((with_reducible apply awO_guardN); (· rfl); (· rfl); (· exact sv); (· exact nB)) | ((with_reducible apply aw_condN); (· exact sv))); (· exact pN); (· exact pN); all_goals (intro hg; try (exfalso; omega)))
 | ((with_reducible apply retQ_mk); (· exact rI); (· exact sv); (· exact sv); rotate_left; (· rfl)))
        all_goals rfl
    · rw [hopn] at c1
      have := opK_le (s.drop a) (min 3 (s.drop a).length)
      unfold opN at hopn
      rw [List.length_drop] at this
      rw [nxt_op hal h10 (by unfold opN; exact hopn)]
      rw [List.length_drop] at hopn
      have e1 : a + (k + 1) - a = k + 1 := by omega
      refine Fn_of_aw (keep := []) Tryz.func28 rfl rfl (by simp [Tryz.ntmps28]) ?_
      simp only [num_cons, num_nil, Tryz.ntmps28, Tryz.results28]
      repeat' (first
 | ((with_reducible apply awO_ev); (· rfl); (· exact sv))
 | ((with_reducible apply aw_seq); intro _ _)
 | (with_reducible apply aw_region)
 | ((with_reducible first | apply awO_nil | apply aw_exit | apply aw_skip | apply aw_ret); (try simp only [CT, ↓reduceIte, Nat.reduceEqDiff]))
 | (refine Kont.go ‹Kont _ _ _ _› _ ?_)
 | ((with_reducible apply awO_c); (· rfl); (· rfl); (· exact sv); (· (first | with_reducible exact c0 | with_reducible exact c1)); (· rfl); (· rfl); (· rfl); (· decide))
 | ((first | ((with_reducible apply awO_guardN); (· rfl); (· rfl); (· exact sv); (· exact nB)) | ((with_reducible apply aw_condN); (· exact sv))); (· exact pN); (· exact pN); all_goals (intro hg; try (exfalso; omega)))
 | ((with_reducible apply retQ_mk); (· exact rI); (· exact sv); (· exact sv); rotate_left; (· rfl)))
      all_goals (simp only [e1]; first | done | rfl)
  · rw [nxt_end (by omega)]
    refine Fn_of_aw (keep := []) Tryz.func28 rfl rfl (by simp [Tryz.ntmps28]) ?_
    simp only [num_cons, num_nil, Tryz.ntmps28, Tryz.results28]
    repeat' (first
 | ((with_reducible apply awO_ev); (· rfl); (· exact sv))
 | ((with_reducible apply aw_seq); intro _ _)
 | (with_reducible apply aw_region)
 | ((with_reducible first | apply awO_nil | apply aw_exit | apply aw_skip | apply aw_ret); (try simp only [CT, ↓reduceIte, Nat.reduceEqDiff]))
 | (refine Kont.go ‹Kont _ _ _ _› _ ?_)
 | ((with_reducible apply awO_c); (· rfl); (· rfl); (· exact sv); (· (first | with_reducible exact c0)); (· rfl); (· rfl); (· rfl); (· decide))
 | ((first | ((with_reducible apply awO_guardN); (· rfl); (· rfl); (· exact sv); (· exact nB)) | ((with_reducible apply aw_condN); (· exact sv))); (· exact pN); (· exact pN); all_goals (intro hg; try (exfalso; omega)))
 | ((with_reducible apply retQ_mk); (· exact rI); (· exact sv); (· exact sv); rotate_left; (· rfl)))
    all_goals rfl
theorem rall_ab (s : List UInt8) (hs : s.length ≤ 1000000) : Ab Tryz.prog 14 [az s] (allA (allF s)) := by
  generalize hr : allF s = R
  refine Fn_of_aw (keep := []) Tryz.func14 rfl rfl (by simp [Tryz.ntmps14]) ?_
  simp only [num_cons, num_nil, Tryz.ntmps14, Tryz.results14]
  repeat' (first
 | ((with_reducible apply awO_ev); (· rfl); (· exact sv))
 | ((with_reducible apply aw_seq); intro _ _)
 | (with_reducible apply aw_region)
 | (with_reducible apply aw_block)
 | ((with_reducible first | apply awO_nil | apply aw_exit | apply aw_skip | apply aw_ret); (try simp only [CT, ↓reduceIte, Nat.reduceEqDiff]))
 | (refine Kont.go ‹Kont _ _ _ _› _ ?_))
  refine aw_virt 5 100 4 rfl (by decide) (by simp) ?_
  refine aw_st svs ?_
  refine aw_loopF (fun x : Nat × Nat × List Tok => [(7, ai x.2.2.length), (6, ai x.2.1), (5, .os 100 0 4 x.2.2.length)]) (fun x => [(100, x.2.2.flatMap fun t => [ai t.kind, ai (t.pos : Nat), ai (t.fin : Nat), az t.text])])
    (fun x => x.2.1 ≤ s.length ∧ s.length - x.2.1 < x.1 ∧ x.2.2.length ≤ x.2.1 ∧ R = allJ x.2.2 (allT s x.1 x.2.1)) (fun x => x.1) (s.length + 2, 0, []) ⟨by simp, by simp only; omega, by simp, by rw [allJ_nil]; exact hr.symm⟩ ?_ ?_ ?_
  · (simp only [LP, look_cons, look_nil, and_true, true_and, ↓reduceIte, Nat.reduceEqDiff, Option.some.injEq, AV.v.injEq, Value.int.injEq, Int.natCast_add, Int.cast_ofNat_Int])
    first | done | rfl | exact ⟨rfl, rfl⟩
  · (simp only [LP, look_cons, look_nil, and_true, true_and, ↓reduceIte, Nat.reduceEqDiff, Option.some.injEq, AV.v.injEq, Value.int.injEq, Int.natCast_add, Int.cast_ofNat_Int])
    first | done | rfl
  rintro ⟨n, a, M⟩ ⟨ha, hn, hM, hI⟩
  simp only at ha hn hM hI
  obtain ⟨m, rfl⟩ : ∃ m, n = m + 1 := ⟨n - 1, by omega⟩
  have c1 := rnext_ab s a hs
  have hb := nxt_err_le (s := s) (z := a)
  have hpos := nxt_pos (s := s) (z := a)
  have hsk : a ≤ skp s (a : Int) := by unfold skp clp; omega
  rw [allT] at hI
  generalize nextF s a = r at *
  obtain ⟨⟨tk, tp, tf, tt⟩, e⟩ := r
  simp only at hb hpos hI
  (simp only [LP, List.append_assoc, List.nil_append, List.cons_append, List.append_nil, List.contains_cons, List.contains_nil, Nat.reduceBEq, Bool.or_false, Bool.or_true, Bool.true_or, Bool.false_or, ↓reduceIte, Bool.false_eq_true])
  repeat' (first
 | ((with_reducible apply awO_ev); (· rfl); (· exact sv))
 | ((with_reducible apply aw_seq); intro _ _)
 | (with_reducible apply aw_region)
 | (with_reducible apply aw_block)
 | ((with_reducible first | apply awO_nil | apply aw_exit | apply aw_skip | apply aw_ret); (try simp only [CT, ↓reduceIte, Nat.reduceEqDiff]))
 | (refine Kont.go ‹Kont _ _ _ _› _ ?_)
 | ((with_reducible apply awO_c); (· rfl); (· rfl); (· exact sv); (· (first | with_reducible exact c1)); (· rfl); (· rfl); (· rfl); (· decide))
 | ((with_reducible apply aw_draw); (· decide +kernel); (simp only [List.size_toArray, List.length_cons, List.length_nil, Nat.reduceAdd]))
 | ((with_reducible apply awY_done); (· decide +kernel); (try simp only [CT, ↓reduceIte, Nat.reduceEqDiff]))
 | ((with_reducible apply awY_q); (· exact sQ); (· exact np); (· exact svg); (· rfl); (· exact sv))
 | ((first | ((with_reducible apply awO_guardN); (· rfl); (· rfl); (· exact sv); (· exact nB)) | ((with_reducible apply aw_condN); (· exact sv))); (· exact pN); (· exact pN); all_goals (intro hg; try (exfalso; omega)))
 | ((with_reducible apply retQ_mk); (· exact rI); (· exact sv); (· exact sv); rotate_left; (· rfl)))
  · rw [if_pos hg] at hI
    unfold allJ at hI
    rw [if_pos hg] at hI
    rw [hI]
    unfold allA
    simp only
    rw [if_neg hg]
  · have hg0 : e = 0 := by omega
    rw [if_neg (by simpa using hg0), if_pos hg] at hI
    rw [hI]
    simp [allA, allJ]
  · have hg0 : e = 0 := by omega
    have hp := hpos hg0 hg
    rw [if_neg (by simpa using hg0), if_neg hg] at hI
    refine LE_mk ((m, tf, M ++ [⟨tk, tp, tf, tt⟩])) ?_ ?_ sN sN sN
    · refine ⟨by simp only; omega, by simp only; omega, by simp only [List.length_append, List.length_cons, List.length_nil]; omega, ?_⟩
      rw [hI]
      by_cases h5 : (allT s m tf).2.2 = 0
      · rw [if_neg (by simpa using h5)]
        have h6 := allT_ok s m tf h5
        simp only [allJ, h6]
        simp
      · rw [if_pos h5]
        simp only [allJ]
        rw [if_pos h5, if_pos h5]
    · simp only; omega
instance decTok : DecidableEq Tok := fun x y => decidable_of_iff (x.kind = y.kind ∧ x.pos = y.pos ∧ x.fin = y.fin ∧ x.text = y.text) (by cases x; cases y; simp)
end Go.Proofs.YtgbhjlkenfmadaaGreatDoor
