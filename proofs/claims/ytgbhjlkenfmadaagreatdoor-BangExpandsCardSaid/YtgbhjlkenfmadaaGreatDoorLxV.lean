/- The reference's small functions of the lexer, on the abstract machine. -/
import Derived.Test.YtgbhjlkenfmadaaGreatDoorLxG
namespace Go.Proofs.YtgbhjlkenfmadaaGreatDoor
open Go.RowKit
set_option linter.unusedVariables false
set_option linter.unusedSimpArgs false
set_option maxRecDepth 100000
set_option maxHeartbeats 8000000
theorem rlimited_ab (z : Int) (n : Nat) (y : Int) (hy : y = n) : Ab Tryz.prog 79 [ai z, ai y] (ai (clp z n : Nat)) := by
  subst hy
  refine Fn_of_aw (keep := []) Tryz.func79 rfl rfl (by simp [Tryz.ntmps79]) ?_
  simp only [num_cons, num_nil, Tryz.ntmps79, Tryz.results79]
  repeat' (first
 | ((with_reducible apply awO_ev); (· rfl); (· exact sv))
 | ((with_reducible apply aw_seq); intro _ _)
 | (with_reducible apply aw_region)
 | ((with_reducible first | apply awO_nil | apply aw_exit | apply aw_skip | apply aw_ret); (try simp only [CT, ↓reduceIte, Nat.reduceEqDiff]))
 | (refine Kont.go ‹Kont _ _ _ _› _ ?_)
 | ((with_reducible apply retQ_mk); (· exact rI); (· exact sv); (· exact sv); rotate_left; (· rfl)))
  refine ai_eq ?_
  unfold clp
  (repeat' split) <;> omega
theorem rcomment_ab (s : List UInt8) (a : Nat) (z : Int) (hz : z = a) (ha : a ≤ s.length) (hs : s.length ≤ 1000000) : Ab Tryz.prog 80 [az s, ai z] (ai ((a + comN (s.drop a) : Nat) : Int)) := by
  subst hz
  refine Fn_of_aw (keep := []) Tryz.func80 rfl rfl (by simp [Tryz.ntmps80]) ?_
  simp only [num_cons, num_nil, Tryz.ntmps80, Tryz.results80]
  repeat' (first
 | ((with_reducible apply awO_ev); (· rfl); (· exact sv))
 | ((with_reducible apply aw_seq); intro _ _)
 | (with_reducible apply aw_region)
 | (with_reducible apply aw_block)
 | ((with_reducible first | apply awO_nil | apply aw_exit | apply aw_skip | apply aw_ret); (try simp only [CT, ↓reduceIte, Nat.reduceEqDiff]))
 | (refine Kont.go ‹Kont _ _ _ _› _ ?_))
  refine aw_loopF (fun i : Nat => [(1, ai i)]) (fun _ => []) (fun i => i ≤ s.length ∧ a + comN (s.drop a) = i + comN (s.drop i)) (fun i => s.length - i) a ⟨ha, rfl⟩ ?_ ?_ ?_
  · (simp only [LP, look_cons, look_nil, and_true, true_and, ↓reduceIte, Nat.reduceEqDiff, Option.some.injEq, AV.v.injEq, Value.int.injEq, Int.natCast_add, Int.cast_ofNat_Int])
  · (simp only [LP, look_cons, look_nil, and_true, true_and, ↓reduceIte, Nat.reduceEqDiff, Option.some.injEq, AV.v.injEq, Value.int.injEq, Int.natCast_add, Int.cast_ofNat_Int])
  intro i ⟨hi, hI⟩
  (simp only [LP, List.append_assoc, List.nil_append, List.cons_append, List.append_nil, List.contains_cons, List.contains_nil, Nat.reduceBEq, Bool.or_false, Bool.or_true, Bool.true_or, Bool.false_or, ↓reduceIte, Bool.false_eq_true])
  by_cases hil : i < s.length
  · rw [dropc hil] at hI
    simp only [comN] at hI
    by_cases h10 : s[i].toNat = 10
    · rw [if_pos h10] at hI
      repeat' (first
 | ((with_reducible apply awO_ev); (· rfl); (· exact sv))
 | ((with_reducible apply aw_seq); intro _ _)
 | (with_reducible apply aw_region)
 | ((with_reducible first | apply awO_nil | apply aw_exit | apply aw_skip | apply aw_ret); (try simp only [CT, ↓reduceIte, Nat.reduceEqDiff]))
 | ((with_reducible apply awO_y); (· rfl); (· rfl); (· decide); (· exact sv); (· exact sv))
 | (refine Kont.go ‹Kont _ _ _ _› _ ?_)
 | ((first | ((with_reducible apply awO_guardN); (· rfl); (· rfl); (· exact sv); (· exact nB)) | ((with_reducible apply aw_condN); (· exact sv))); (· exact pN); (· exact pN); all_goals (intro hg; try (exfalso; omega)))
 | ((with_reducible apply retQ_mk); (· exact rI); (· exact sv); (· exact sv); rotate_left; (· rfl)))
      refine ai_eq ?_; omega
    · rw [if_neg h10] at hI
      repeat' (first
 | ((with_reducible apply awO_ev); (· rfl); (· exact sv))
 | ((with_reducible apply aw_seq); intro _ _)
 | (with_reducible apply aw_region)
 | (with_reducible apply aw_block)
 | ((with_reducible first | apply awO_nil | apply aw_exit | apply aw_skip | apply aw_ret); (try simp only [CT, ↓reduceIte, Nat.reduceEqDiff]))
 | ((with_reducible apply awO_y); (· rfl); (· rfl); (· decide); (· exact sv); (· exact sv))
 | (refine Kont.go ‹Kont _ _ _ _› _ ?_)
 | ((first | ((with_reducible apply awO_guardN); (· rfl); (· rfl); (· exact sv); (· exact nB)) | ((with_reducible apply aw_condN); (· exact sv))); (· exact pN); (· exact pN); all_goals (intro hg; try (exfalso; omega))))
      refine LE_mk (i + 1) ?_ ?_ sN sN sN
      · exact ⟨by omega, by omega⟩
      · omega
  · rw [List.drop_eq_nil_of_le (by omega : s.length ≤ i)] at hI
    simp only [comN] at hI
    repeat' (first
 | ((with_reducible apply awO_ev); (· rfl); (· exact sv))
 | ((with_reducible apply aw_seq); intro _ _)
 | (with_reducible apply aw_region)
 | ((with_reducible first | apply awO_nil | apply aw_exit | apply aw_skip | apply aw_ret); (try simp only [CT, ↓reduceIte, Nat.reduceEqDiff]))
 | ((with_reducible apply awO_n); (· rfl); (· rfl); (· decide); (· exact sv); (· rfl); (· rfl); (· decide))
 | ((with_reducible apply aw_cond_false); (· exact sv))
 | (refine Kont.go ‹Kont _ _ _ _› _ ?_)
 | ((first | ((with_reducible apply awO_guardN); (· rfl); (· rfl); (· exact sv); (· exact nB)) | ((with_reducible apply aw_condN); (· exact sv))); (· exact pN); (· exact pN); all_goals (intro hg; try (exfalso; omega)))
 | ((with_reducible apply retQ_mk); (· exact rI); (· exact sv); (· exact sv); rotate_left; (· rfl)))
    refine ai_eq ?_; omega
theorem rjoined_ab (s : List UInt8) (i : Nat) (z : Int) (hz : z = i) (hs : s.length ≤ 1000000) (hi : i ≤ s.length) : Ab Tryz.prog 81 [az s, ai z] (ab (joinB (s.drop i))) := by
  subst hz
  by_cases h1 : i + 1 < s.length
  · rw [dropc (by omega : i < s.length), dropc h1]
    refine Fn_of_aw (keep := []) Tryz.func81 rfl rfl (by simp [Tryz.ntmps81]) ?_
    simp only [num_cons, num_nil, Tryz.ntmps81, Tryz.results81]
    repeat' (first
 | ((with_reducible apply awO_ev); (· rfl); (· exact sv))
 | ((with_reducible apply aw_seq); intro _ _)
 | (with_reducible apply aw_region)
 | ((with_reducible first | apply awO_nil | apply aw_exit | apply aw_skip | apply aw_ret); (try simp only [CT, ↓reduceIte, Nat.reduceEqDiff]))
 | ((with_reducible apply awO_y); (· rfl); (· rfl); (· decide); (· exact sv); (· exact sv))
 | ((with_reducible apply awO_n); (· rfl); (· rfl); (· decide); (· exact sv); (· rfl); (· rfl); (· decide))
 | (refine Kont.go ‹Kont _ _ _ _› _ ?_)
 | ((first | ((with_reducible apply awO_guardN); (· rfl); (· rfl); (· exact sv); (· exact nB)) | ((with_reducible apply aw_condN); (· exact sv))); (· exact pN); (· exact pN); all_goals (intro hg; try (exfalso; omega)))
 | ((with_reducible apply retQ_mk); (· exact rI); (· exact sv); (· exact sv); rotate_left; (· rfl)))
    all_goals (refine ab_eq ?_; simp only [joinB, decide_eq_true_eq, Bool.false_eq_true, true_iff, false_iff]; omega)
  · have : joinB (s.drop i) = false := by
      rcases Nat.lt_or_ge i s.length with h | h
      · rw [dropc h, List.drop_eq_nil_of_le (by omega : s.length ≤ i + 1)]; rfl
      · rw [List.drop_eq_nil_of_le h]; rfl
    rw [this]
    refine Fn_of_aw (keep := []) Tryz.func81 rfl rfl (by simp [Tryz.ntmps81]) ?_
    simp only [num_cons, num_nil, Tryz.ntmps81, Tryz.results81]
    repeat' (first
 | ((with_reducible apply awO_ev); (· rfl); (· exact sv))
 | ((with_reducible apply aw_seq); intro _ _)
 | (with_reducible apply aw_region)
 | ((with_reducible first | apply awO_nil | apply aw_exit | apply aw_skip | apply aw_ret); (try simp only [CT, ↓reduceIte, Nat.reduceEqDiff]))
 | ((with_reducible apply awO_n); (· rfl); (· rfl); (· decide); (· exact sv); (· rfl); (· rfl); (· decide))
 | (refine Kont.go ‹Kont _ _ _ _› _ ?_)
 | ((first | ((with_reducible apply awO_guardN); (· rfl); (· rfl); (· exact sv); (· exact nB)) | ((with_reducible apply aw_condN); (· exact sv))); (· exact pN); (· exact pN); all_goals (intro hg; try (exfalso; omega)))
 | ((with_reducible apply retQ_mk); (· exact rI); (· exact sv); (· exact sv); rotate_left; (· rfl)))
    all_goals rfl
theorem rskip_ab (s : List UInt8) (z : Int) (hs : s.length ≤ 1000000) : Ab Tryz.prog 49 [az s, ai z] (ai (skp s z : Nat)) := by
  have hcl := clp_le z s.length
  have c0 := rlimited_ab z s.length s.length rfl
  refine Fn_of_aw (keep := []) Tryz.func49 rfl rfl (by simp [Tryz.ntmps49]) ?_
  simp only [num_cons, num_nil, Tryz.ntmps49, Tryz.results49]
  repeat' (first
 | ((with_reducible apply awO_ev); (· rfl); (· exact sv))
 | ((with_reducible apply aw_seq); intro _ _)
 | (with_reducible apply aw_region)
 | (with_reducible apply aw_block)
 | ((with_reducible first | apply awO_nil | apply aw_exit | apply aw_skip | apply aw_ret); (try simp only [CT, ↓reduceIte, Nat.reduceEqDiff]))
 | (refine Kont.go ‹Kont _ _ _ _› _ ?_)
 | ((with_reducible apply awO_c); (· rfl); (· rfl); (· exact sv); (· (first | with_reducible exact c0)); (· rfl); (· rfl); (· rfl); (· decide)))
  refine aw_loopF (fun i : Nat => [(1, ai i)]) (fun _ => []) (fun i => i ≤ s.length ∧ skp s z = i + skpN (s.drop i)) (fun i => s.length - i) (clp z s.length) ⟨hcl, rfl⟩ ?_ ?_ ?_
  · (simp only [LP, look_cons, look_nil, and_true, true_and, ↓reduceIte, Nat.reduceEqDiff, Option.some.injEq, AV.v.injEq, Value.int.injEq, Int.natCast_add, Int.cast_ofNat_Int])
  · (simp only [LP, look_cons, look_nil, and_true, true_and, ↓reduceIte, Nat.reduceEqDiff, Option.some.injEq, AV.v.injEq, Value.int.injEq, Int.natCast_add, Int.cast_ofNat_Int])
  intro i ⟨hi, hI⟩
  (simp only [LP, List.append_assoc, List.nil_append, List.cons_append, List.append_nil, List.contains_cons, List.contains_nil, Nat.reduceBEq, Bool.or_false, Bool.or_true, Bool.true_or, Bool.false_or, ↓reduceIte, Bool.false_eq_true])
  by_cases hil : i < s.length
  · have c1 := rblank_ab s[i]
    have c2 := rjoined_ab s i i rfl hs (by omega)
    have c3 := rcomment_ab s i i rfl (by omega) hs
    rw [dropc hil] at c2 c3 hI
    rw [skpN_cons] at hI
    by_cases h35 : s[i].toNat = 35
    · rw [if_neg (by simp [blankB]; omega), if_neg (by cases s.drop (i + 1) <;> simp [joinB]; omega), if_pos h35] at hI
      repeat' (first
 | ((with_reducible apply awO_ev); (· rfl); (· exact sv))
 | ((with_reducible apply aw_seq); intro _ _)
 | (with_reducible apply aw_region)
 | (with_reducible apply aw_block)
 | ((with_reducible first | apply awO_nil | apply aw_exit | apply aw_skip | apply aw_ret); (try simp only [CT, ↓reduceIte, Nat.reduceEqDiff]))
 | (refine Kont.go ‹Kont _ _ _ _› _ ?_)
 | ((with_reducible apply awO_c); (· rfl); (· rfl); (· exact sv); (· (first | with_reducible exact c3)); (· rfl); (· rfl); (· rfl); (· decide))
 | ((first | ((with_reducible apply awO_guardN); (· rfl); (· rfl); (· exact sv); (· exact nB)) | ((with_reducible apply aw_condN); (· exact sv))); (· exact pN); (· exact pN); all_goals (intro hg; try (exfalso; omega)))
 | ((with_reducible apply retQ_mk); (· exact rI); (· exact sv); (· exact sv); rotate_left; (· rfl)))
      refine ai_eq ?_; omega
    by_cases hb : blankB s[i] = true
    · rw [if_pos hb] at hI
      have hnj : joinB (s[i] :: s.drop (i + 1)) = false := by
        simp only [blankB, decide_eq_true_eq] at hb
        cases s.drop (i + 1) <;> simp [joinB]; omega
      rw [hnj] at c2
      rw [hb] at c1
      repeat' (first
 | ((with_reducible apply awO_ev); (· rfl); (· exact sv))
 | ((with_reducible apply aw_seq); intro _ _)
 | (with_reducible apply aw_region)
 | (with_reducible apply aw_block)
 | ((with_reducible first | apply awO_nil | apply aw_exit | apply aw_skip | apply aw_ret); (try simp only [CT, ↓reduceIte, Nat.reduceEqDiff]))
 | ((with_reducible apply aw_cond_true); (· exact sv))
 | ((with_reducible apply aw_cond_false); (· exact sv))
 | (refine Kont.go ‹Kont _ _ _ _› _ ?_)
 | ((with_reducible apply awO_c); (· rfl); (· rfl); (· exact sv); (· (first | with_reducible exact c1 | with_reducible exact c2)); (· rfl); (· rfl); (· rfl); (· decide))
 | ((first | ((with_reducible apply awO_guardN); (· rfl); (· rfl); (· exact sv); (· exact nB)) | ((with_reducible apply aw_condN); (· exact sv))); (· exact pN); (· exact pN); all_goals (intro hg; try (exfalso; omega))))
      refine LE_mk (i + 1) ?_ ?_ sN sN sN
      · exact ⟨by omega, by omega⟩
      · omega
    rw [if_neg hb] at hI
    have hb' : blankB s[i] = false := by simpa using hb
    rw [hb'] at c1
    by_cases hj : joinB (s[i] :: s.drop (i + 1)) = true
    · rw [if_pos hj, List.drop_drop] at hI
      rw [hj] at c2
      have hil2 : i + 1 < s.length := by
        rcases Nat.lt_or_ge (i + 1) s.length with h | h
        · exact h
        · rw [List.drop_eq_nil_of_le h] at hj; simp [joinB] at hj
      repeat' (first
 | ((with_reducible apply awO_ev); (· rfl); (· exact sv))
 | ((with_reducible apply aw_seq); intro _ _)
 | (with_reducible apply aw_region)
 | (with_reducible apply aw_block)
 | ((with_reducible first | apply awO_nil | apply aw_exit | apply aw_skip | apply aw_ret); (try simp only [CT, ↓reduceIte, Nat.reduceEqDiff]))
 | ((with_reducible apply aw_cond_true); (· exact sv))
 | (refine Kont.go ‹Kont _ _ _ _› _ ?_)
 | ((with_reducible apply awO_c); (· rfl); (· rfl); (· exact sv); (· (first | with_reducible exact c1 | with_reducible exact c2)); (· rfl); (· rfl); (· rfl); (· decide))
 | ((first | ((with_reducible apply awO_guardN); (· rfl); (· rfl); (· exact sv); (· exact nB)) | ((with_reducible apply aw_condN); (· exact sv))); (· exact pN); (· exact pN); all_goals (intro hg; try (exfalso; omega))))
      refine LE_mk (i + 2) ?_ ?_ sN sN sN
      · exact ⟨by omega, by rw [hI]; show _ = i + 2 + skpN (s.drop (i + 1 + 1)); omega⟩
      · omega
    rw [if_neg hj, if_neg h35] at hI
    have hj' : joinB (s[i] :: s.drop (i + 1)) = false := by simpa using hj
    rw [hj'] at c2
    repeat' (first
 | ((with_reducible apply awO_ev); (· rfl); (· exact sv))
 | ((with_reducible apply aw_seq); intro _ _)
 | (with_reducible apply aw_region)
 | (with_reducible apply aw_block)
 | ((with_reducible first | apply awO_nil | apply aw_exit | apply aw_skip | apply aw_ret); (try simp only [CT, ↓reduceIte, Nat.reduceEqDiff]))
 | ((with_reducible apply aw_cond_false); (· exact sv))
 | (refine Kont.go ‹Kont _ _ _ _› _ ?_)
 | ((with_reducible apply awO_c); (· rfl); (· rfl); (· exact sv); (· (first | with_reducible exact c1 | with_reducible exact c2)); (· rfl); (· rfl); (· rfl); (· decide))
 | ((first | ((with_reducible apply awO_guardN); (· rfl); (· rfl); (· exact sv); (· exact nB)) | ((with_reducible apply aw_condN); (· exact sv))); (· exact pN); (· exact pN); all_goals (intro hg; try (exfalso; omega)))
 | ((with_reducible apply retQ_mk); (· exact rI); (· exact sv); (· exact sv); rotate_left; (· rfl)))
    refine ai_eq ?_; omega
  · rw [List.drop_eq_nil_of_le (by omega : s.length ≤ i)] at hI
    repeat' (first
 | ((with_reducible apply awO_ev); (· rfl); (· exact sv))
 | ((with_reducible apply aw_seq); intro _ _)
 | (with_reducible apply aw_region)
 | ((with_reducible first | apply awO_nil | apply aw_exit | apply aw_skip | apply aw_ret); (try simp only [CT, ↓reduceIte, Nat.reduceEqDiff]))
 | (refine Kont.go ‹Kont _ _ _ _› _ ?_)
 | ((first | ((with_reducible apply awO_guardN); (· rfl); (· rfl); (· exact sv); (· exact nB)) | ((with_reducible apply aw_condN); (· exact sv))); (· exact pN); (· exact pN); all_goals (intro hg; try (exfalso; omega)))
 | ((with_reducible apply retQ_mk); (· exact rI); (· exact sv); (· exact sv); rotate_left; (· rfl)))
    refine ai_eq ?_; rw [hI]; simp [skpN]
/-- Whether an expansion begins here. -/
def expB : List UInt8 → Bool
  | [] => false
  | c :: r => decide (c.toNat = 36) && dolB r
theorem dol_word (d : UInt8) (r : List UInt8) : dolB (d :: r) = decide (wordB d = true ∨ specB d = true ∨ d.toNat = 123 ∨ d.toNat = 40) := by
  rw [Bool.eq_iff_iff]
  simp only [dolB, specB, startsB, wordB, Bool.or_eq_true, decide_eq_true_eq]
  omega
theorem rexp_ab (s : List UInt8) (i : Nat) (z : Int) (hz : z = i) (hi : i < s.length) (hs : s.length ≤ 1000000) : Ab Tryz.prog 120 [az s, ai z] (ab (expB (s.drop i))) := by
  subst hz
  rw [dropc hi]
  by_cases h1 : i + 1 < s.length
  · rw [dropc h1]
    simp only [expB, dol_word]
    refine Fn_of_aw (keep := []) Tryz.func120 rfl rfl (by simp [Tryz.ntmps120]) ?_
    simp only [num_cons, num_nil, Tryz.ntmps120, Tryz.results120]
    repeat' (first
 | ((with_reducible apply awO_ev); (· rfl); (· exact sv))
 | ((with_reducible apply aw_seq); intro _ _)
 | (with_reducible apply aw_region)
 | ((with_reducible first | apply awO_nil | apply aw_exit | apply aw_skip | apply aw_ret); (try simp only [CT, ↓reduceIte, Nat.reduceEqDiff]))
 | ((with_reducible apply awO_y); (· rfl); (· rfl); (· decide); (· exact sv); (· exact sv))
 | ((with_reducible apply awO_n); (· rfl); (· rfl); (· decide); (· exact sv); (· rfl); (· rfl); (· decide))
 | ((with_reducible apply awO_un); (· rfl); (· decide); (· exact sv))
 | (refine Kont.go ‹Kont _ _ _ _› _ ?_)
 | ((with_reducible apply awO_c); (· rfl); (· rfl); (· exact sv); (· (first | exact word_ab _ | exact spec_ab _)); (· rfl); (· rfl); (· rfl); (· decide))
 | ((first | ((with_reducible apply awO_guardN); (· rfl); (· rfl); (· exact sv); (· exact nB)) | ((with_reducible apply aw_condN); (· exact sv))); (· exact pN); (· exact pN); all_goals (intro hg; try (exfalso; omega)))
 | ((with_reducible apply retQ_mk); (· exact rI); (· exact sv); (· exact sv); rotate_left; (· rfl)))
    all_goals (refine ab_eq ?_; simp only [Bool.and_eq_true, decide_eq_true_eq, Bool.false_eq_true, true_iff, false_iff])
    all_goals (first | omega | (refine ⟨by omega, ?_⟩; simp_all; done) | (simp_all; done) | (simp_all; omega) | skip)
  · rw [List.drop_eq_nil_of_le (by omega : s.length ≤ i + 1)]
    refine Fn_of_aw (keep := []) Tryz.func120 rfl rfl (by simp [Tryz.ntmps120]) ?_
    simp only [num_cons, num_nil, Tryz.ntmps120, Tryz.results120]
    repeat' (first
 | ((with_reducible apply awO_ev); (· rfl); (· exact sv))
 | ((with_reducible apply aw_seq); intro _ _)
 | (with_reducible apply aw_region)
 | ((with_reducible first | apply awO_nil | apply aw_exit | apply aw_skip | apply aw_ret); (try simp only [CT, ↓reduceIte, Nat.reduceEqDiff]))
 | ((with_reducible apply awO_n); (· rfl); (· rfl); (· decide); (· exact sv); (· rfl); (· rfl); (· decide))
 | ((with_reducible apply aw_cond_true); (· exact sv))
 | (refine Kont.go ‹Kont _ _ _ _› _ ?_)
 | ((first | ((with_reducible apply awO_guardN); (· rfl); (· rfl); (· exact sv); (· exact nB)) | ((with_reducible apply aw_condN); (· exact sv))); (· exact pN); (· exact pN); all_goals (intro hg; try (exfalso; omega)))
 | ((with_reducible apply retQ_mk); (· exact rI); (· exact sv); (· exact sv); rotate_left; (· rfl)))
    all_goals (simp [expB, dolB]; done)
theorem rname_ab (s : List UInt8) (a : Nat) (z : Int) (hz : z = a) (ha : a ≤ s.length) (hs : s.length ≤ 1000000) : Ab Tryz.prog 142 [az s, ai z] (ai ((a + wordN (s.drop a) : Nat) : Int)) := by
  subst hz
  refine Fn_of_aw (keep := []) Tryz.func142 rfl rfl (by simp [Tryz.ntmps142]) ?_
  simp only [num_cons, num_nil, Tryz.ntmps142, Tryz.results142]
  repeat' (first
 | ((with_reducible apply awO_ev); (· rfl); (· exact sv))
 | ((with_reducible apply aw_seq); intro _ _)
 | (with_reducible apply aw_region)
 | (with_reducible apply aw_block)
 | ((with_reducible first | apply awO_nil | apply aw_exit | apply aw_skip | apply aw_ret); (try simp only [CT, ↓reduceIte, Nat.reduceEqDiff]))
 | (refine Kont.go ‹Kont _ _ _ _› _ ?_))
  refine aw_loopF (fun i : Nat => [(1, ai i)]) (fun _ => []) (fun i => i ≤ s.length ∧ a + wordN (s.drop a) = i + wordN (s.drop i)) (fun i => s.length - i) a ⟨ha, rfl⟩ ?_ ?_ ?_
  · (simp only [LP, look_cons, look_nil, and_true, true_and, ↓reduceIte, Nat.reduceEqDiff, Option.some.injEq, AV.v.injEq, Value.int.injEq, Int.natCast_add, Int.cast_ofNat_Int])
  · (simp only [LP, look_cons, look_nil, and_true, true_and, ↓reduceIte, Nat.reduceEqDiff, Option.some.injEq, AV.v.injEq, Value.int.injEq, Int.natCast_add, Int.cast_ofNat_Int])
  intro i ⟨hi, hI⟩
  (simp only [LP, List.append_assoc, List.nil_append, List.cons_append, List.append_nil, List.contains_cons, List.contains_nil, Nat.reduceBEq, Bool.or_false, Bool.or_true, Bool.true_or, Bool.false_or, ↓reduceIte, Bool.false_eq_true])
  by_cases hil : i < s.length
  · have c1 := word_ab s[i]
    rw [dropc hil] at hI
    simp only [wordN] at hI
    by_cases hw : wordB s[i] = true
    · rw [if_pos hw] at hI
      rw [hw] at c1
      repeat' (first
 | ((with_reducible apply awO_ev); (· rfl); (· exact sv))
 | ((with_reducible apply aw_seq); intro _ _)
 | (with_reducible apply aw_region)
 | (with_reducible apply aw_block)
 | ((with_reducible first | apply awO_nil | apply aw_exit | apply aw_skip | apply aw_ret); (try simp only [CT, ↓reduceIte, Nat.reduceEqDiff]))
 | ((with_reducible apply awO_y); (· rfl); (· rfl); (· decide); (· exact sv); (· exact sv))
 | ((with_reducible apply aw_cond_true); (· exact sv))
 | ((with_reducible apply awO_un); (· rfl); (· decide); (· exact sv))
 | (refine Kont.go ‹Kont _ _ _ _› _ ?_)
 | ((with_reducible apply awO_c); (· rfl); (· rfl); (· exact sv); (· (first | with_reducible exact c1)); (· rfl); (· rfl); (· rfl); (· decide))
 | ((first | ((with_reducible apply awO_guardN); (· rfl); (· rfl); (· exact sv); (· exact nB)) | ((with_reducible apply aw_condN); (· exact sv))); (· exact pN); (· exact pN); all_goals (intro hg; try (exfalso; omega))))
      refine LE_mk (i + 1) ?_ ?_ sN sN sN
      · exact ⟨by omega, by omega⟩
      · omega
    · have hw' : wordB s[i] = false := by simpa using hw
      rw [if_neg hw] at hI
      rw [hw'] at c1
      repeat' (first
 | ((with_reducible apply awO_ev); (· rfl); (· exact sv))
 | ((with_reducible apply aw_seq); intro _ _)
 | (with_reducible apply aw_region)
 | ((with_reducible first | apply awO_nil | apply aw_exit | apply aw_skip | apply aw_ret); (try simp only [CT, ↓reduceIte, Nat.reduceEqDiff]))
 | ((with_reducible apply awO_y); (· rfl); (· rfl); (· decide); (· exact sv); (· exact sv))
 | ((with_reducible apply aw_cond_false); (· exact sv))
 | ((with_reducible apply awO_un); (· rfl); (· decide); (· exact sv))
 | (refine Kont.go ‹Kont _ _ _ _› _ ?_)
 | ((with_reducible apply awO_c); (· rfl); (· rfl); (· exact sv); (· (first | with_reducible exact c1)); (· rfl); (· rfl); (· rfl); (· decide))
 | ((first | ((with_reducible apply awO_guardN); (· rfl); (· rfl); (· exact sv); (· exact nB)) | ((with_reducible apply aw_condN); (· exact sv))); (· exact pN); (· exact pN); all_goals (intro hg; try (exfalso; omega)))
 | ((with_reducible apply retQ_mk); (· exact rI); (· exact sv); (· exact sv); rotate_left; (· rfl)))
      refine ai_eq ?_; omega
  · rw [List.drop_eq_nil_of_le (by omega : s.length ≤ i)] at hI
    simp only [wordN] at hI
    repeat' (first
 | ((with_reducible apply awO_ev); (· rfl); (· exact sv))
 | ((with_reducible apply aw_seq); intro _ _)
 | (with_reducible apply aw_region)
 | ((with_reducible first | apply awO_nil | apply aw_exit | apply aw_skip | apply aw_ret); (try simp only [CT, ↓reduceIte, Nat.reduceEqDiff]))
 | ((with_reducible apply awO_n); (· rfl); (· rfl); (· decide); (· exact sv); (· rfl); (· rfl); (· decide))
 | ((with_reducible apply aw_cond_false); (· exact sv))
 | (refine Kont.go ‹Kont _ _ _ _› _ ?_)
 | ((first | ((with_reducible apply awO_guardN); (· rfl); (· rfl); (· exact sv); (· exact nB)) | ((with_reducible apply aw_condN); (· exact sv))); (· exact pN); (· exact pN); all_goals (intro hg; try (exfalso; omega)))
 | ((with_reducible apply retQ_mk); (· exact rI); (· exact sv); (· exact sv); rotate_left; (· rfl)))
    refine ai_eq ?_; omega
theorem rsingle_ab (s : List UInt8) (a : Nat) (z : Int) (hz : z = a) (ha : a < s.length) (hs : s.length ≤ 1000000) : Ab Tryz.prog 122 [az s, ai z] (tpr a (sngN (s.drop (a + 1)) 1)) := by
  subst hz
  refine Fn_of_aw (keep := []) Tryz.func122 rfl rfl (by simp [Tryz.ntmps122]) ?_
  simp only [num_cons, num_nil, Tryz.ntmps122, Tryz.results122]
  repeat' (first
 | ((with_reducible apply awO_ev); (· rfl); (· exact sv))
 | ((with_reducible apply aw_seq); intro _ _)
 | (with_reducible apply aw_region)
 | (with_reducible apply aw_block)
 | ((with_reducible first | apply awO_nil | apply aw_exit | apply aw_skip | apply aw_ret); (try simp only [CT, ↓reduceIte, Nat.reduceEqDiff]))
 | (refine Kont.go ‹Kont _ _ _ _› _ ?_))
  refine aw_loopF (fun i : Nat => [(6, ai i)]) (fun _ => []) (fun i => a + 1 ≤ i ∧ i ≤ s.length ∧ sngN (s.drop (a + 1)) 1 = sngN (s.drop i) (i - a)) (fun i => s.length - i) (a + 1) ⟨by omega, by omega, by congr 1; omega⟩ ?_ ?_ ?_
  · (simp only [LP, look_cons, look_nil, and_true, true_and, ↓reduceIte, Nat.reduceEqDiff, Option.some.injEq, AV.v.injEq, Value.int.injEq, Int.natCast_add, Int.cast_ofNat_Int])
  · (simp only [LP, look_cons, look_nil, and_true, true_and, ↓reduceIte, Nat.reduceEqDiff, Option.some.injEq, AV.v.injEq, Value.int.injEq, Int.natCast_add, Int.cast_ofNat_Int])
  intro i ⟨hi0, hi, hI⟩
  (simp only [LP, List.append_assoc, List.nil_append, List.cons_append, List.append_nil, List.contains_cons, List.contains_nil, Nat.reduceBEq, Bool.or_false, Bool.or_true, Bool.true_or, Bool.false_or, ↓reduceIte, Bool.false_eq_true])
  by_cases hil : i < s.length
  · rw [dropc hil] at hI
    simp only [sngN] at hI
    repeat' (first
 | ((with_reducible apply awO_ev); (· rfl); (· exact sv))
 | ((with_reducible apply aw_seq); intro _ _)
 | (with_reducible apply aw_region)
 | (with_reducible apply aw_block)
 | ((with_reducible first | apply awO_nil | apply aw_exit | apply aw_skip | apply aw_ret); (try simp only [CT, ↓reduceIte, Nat.reduceEqDiff]))
 | (refine Kont.go ‹Kont _ _ _ _› _ ?_)
 | ((first | ((with_reducible apply awO_guardN); (· rfl); (· rfl); (· exact sv); (· exact nB)) | ((with_reducible apply aw_condN); (· exact sv))); (· exact pN); (· exact pN); all_goals (intro hg; try (exfalso; omega)))
 | ((with_reducible apply retQ_mk); (· exact rI); (· exact sv); (· exact sv); rotate_left; (· rfl)))
    · exact tp_mk (b := i - a + 1) (by rw [hI, if_pos (by omega)]) (by omega)
    · refine LE_mk (i + 1) ?_ ?_ sN sN sN
      · exact ⟨by omega, by omega, by rw [hI, if_neg (by omega)]; congr 1; omega⟩
      · omega
  · rw [List.drop_eq_nil_of_le (by omega : s.length ≤ i)] at hI
    repeat' (first
 | ((with_reducible apply awO_ev); (· rfl); (· exact sv))
 | ((with_reducible apply aw_seq); intro _ _)
 | (with_reducible apply aw_region)
 | ((with_reducible first | apply awO_nil | apply aw_exit | apply aw_skip | apply aw_ret); (try simp only [CT, ↓reduceIte, Nat.reduceEqDiff]))
 | (refine Kont.go ‹Kont _ _ _ _› _ ?_)
 | ((first | ((with_reducible apply awO_guardN); (· rfl); (· rfl); (· exact sv); (· exact nB)) | ((with_reducible apply aw_condN); (· exact sv))); (· exact pN); (· exact pN); all_goals (intro hg; try (exfalso; omega)))
 | ((with_reducible apply retQ_mk); (· exact rI); (· exact sv); (· exact sv); rotate_left; (· rfl)))
    exact tp_mk (b := 0) hI (by omega)
theorem rbackquoted_ab (s : List UInt8) (a : Nat) (z : Int) (hz : z = a) (ha : a < s.length) (hs : s.length ≤ 1000000) : Ab Tryz.prog 119 [az s, ai z] (tpr a (bqtN (s.drop (a + 1)) 1)) := by
  subst hz
  refine Fn_of_aw (keep := []) Tryz.func119 rfl rfl (by simp [Tryz.ntmps119]) ?_
  simp only [num_cons, num_nil, Tryz.ntmps119, Tryz.results119]
  repeat' (first
 | ((with_reducible apply awO_ev); (· rfl); (· exact sv))
 | ((with_reducible apply aw_seq); intro _ _)
 | (with_reducible apply aw_region)
 | (with_reducible apply aw_block)
 | ((with_reducible first | apply awO_nil | apply aw_exit | apply aw_skip | apply aw_ret); (try simp only [CT, ↓reduceIte, Nat.reduceEqDiff]))
 | (refine Kont.go ‹Kont _ _ _ _› _ ?_))
  refine aw_loopF (fun i : Nat => [(6, ai i)]) (fun _ => []) (fun i => a + 1 ≤ i ∧ i ≤ s.length ∧ bqtN (s.drop (a + 1)) 1 = bqtN (s.drop i) (i - a)) (fun i => s.length - i) (a + 1) ⟨by omega, by omega, by congr 1; omega⟩ ?_ ?_ ?_
  · (simp only [LP, look_cons, look_nil, and_true, true_and, ↓reduceIte, Nat.reduceEqDiff, Option.some.injEq, AV.v.injEq, Value.int.injEq, Int.natCast_add, Int.cast_ofNat_Int])
  · (simp only [LP, look_cons, look_nil, and_true, true_and, ↓reduceIte, Nat.reduceEqDiff, Option.some.injEq, AV.v.injEq, Value.int.injEq, Int.natCast_add, Int.cast_ofNat_Int])
  intro i ⟨hi0, hi, hI⟩
  (simp only [LP, List.append_assoc, List.nil_append, List.cons_append, List.append_nil, List.contains_cons, List.contains_nil, Nat.reduceBEq, Bool.or_false, Bool.or_true, Bool.true_or, Bool.false_or, ↓reduceIte, Bool.false_eq_true])
  by_cases hil : i < s.length
  · rw [dropc hil] at hI
    by_cases hil2 : i + 1 < s.length
    · rw [dropc hil2] at hI
      simp only [bqtN] at hI
      repeat' (first
 | ((with_reducible apply awO_ev); (· rfl); (· exact sv))
 | ((with_reducible apply aw_seq); intro _ _)
 | (with_reducible apply aw_region)
 | (with_reducible apply aw_block)
 | ((with_reducible first | apply awO_nil | apply aw_exit | apply aw_skip | apply aw_ret); (try simp only [CT, ↓reduceIte, Nat.reduceEqDiff]))
 | ((with_reducible apply awO_y); (· rfl); (· rfl); (· decide); (· exact sv); (· exact sv))
 | ((with_reducible apply awO_n); (· rfl); (· rfl); (· decide); (· exact sv); (· rfl); (· rfl); (· decide))
 | ((with_reducible apply aw_cond_false); (· exact sv))
 | (refine Kont.go ‹Kont _ _ _ _› _ ?_)
 | ((first | ((with_reducible apply awO_guardN); (· rfl); (· rfl); (· exact sv); (· exact nB)) | ((with_reducible apply aw_condN); (· exact sv))); (· exact pN); (· exact pN); all_goals (intro hg; try (exfalso; omega)))
 | ((with_reducible apply retQ_mk); (· exact rI); (· exact sv); (· exact sv); rotate_left; (· rfl)))
      · refine tp_mk (b := i - a + 1) ?_ (by omega); rw [hI, if_pos (by omega)]
      · refine LE_mk (i + 1 + 1) ?_ ?_ sN sN sN
        · refine ⟨by omega, by omega, ?_⟩; rw [hI, if_neg (by omega), if_pos (by omega)]; congr 1; omega
        · omega
      · refine LE_mk (i + 1) ?_ ?_ sN sN sN
        · refine ⟨by omega, by omega, ?_⟩; rw [hI, if_neg (by omega), if_neg (by omega), ← dropc hil2]; congr 1; omega
        · omega
    · rw [List.drop_eq_nil_of_le (by omega : s.length ≤ i + 1)] at hI
      simp only [bqtN] at hI
      repeat' (first
 | ((with_reducible apply awO_ev); (· rfl); (· exact sv))
 | ((with_reducible apply aw_seq); intro _ _)
 | (with_reducible apply aw_region)
 | (with_reducible apply aw_block)
 | ((with_reducible first | apply awO_nil | apply aw_exit | apply aw_skip | apply aw_ret); (try simp only [CT, ↓reduceIte, Nat.reduceEqDiff]))
 | ((with_reducible apply awO_y); (· rfl); (· rfl); (· decide); (· exact sv); (· exact sv))
 | ((with_reducible apply awO_n); (· rfl); (· rfl); (· decide); (· exact sv); (· rfl); (· rfl); (· decide))
 | ((with_reducible apply aw_cond_false); (· exact sv))
 | (refine Kont.go ‹Kont _ _ _ _› _ ?_)
 | ((first | ((with_reducible apply awO_guardN); (· rfl); (· rfl); (· exact sv); (· exact nB)) | ((with_reducible apply aw_condN); (· exact sv))); (· exact pN); (· exact pN); all_goals (intro hg; try (exfalso; omega)))
 | ((with_reducible apply retQ_mk); (· exact rI); (· exact sv); (· exact sv); rotate_left; (· rfl)))
      · refine tp_mk (b := i - a + 1) ?_ (by omega); rw [hI, if_pos (by omega)]
      · refine tp_mk (b := i - a) ?_ (by omega); rw [hI, if_neg (by omega), if_pos (by omega)]
      · refine LE_mk (i + 1) ?_ ?_ sN sN sN
        · refine ⟨by omega, by omega, ?_⟩; rw [hI, if_neg (by omega), if_neg (by omega), List.drop_eq_nil_of_le (by omega : s.length ≤ i + 1)]; rfl
        · omega
  · rw [List.drop_eq_nil_of_le (by omega : s.length ≤ i)] at hI
    repeat' (first
 | ((with_reducible apply awO_ev); (· rfl); (· exact sv))
 | ((with_reducible apply aw_seq); intro _ _)
 | (with_reducible apply aw_region)
 | ((with_reducible first | apply awO_nil | apply aw_exit | apply aw_skip | apply aw_ret); (try simp only [CT, ↓reduceIte, Nat.reduceEqDiff]))
 | (refine Kont.go ‹Kont _ _ _ _› _ ?_)
 | ((first | ((with_reducible apply awO_guardN); (· rfl); (· rfl); (· exact sv); (· exact nB)) | ((with_reducible apply aw_condN); (· exact sv))); (· exact pN); (· exact pN); all_goals (intro hg; try (exfalso; omega)))
 | ((with_reducible apply retQ_mk); (· exact rI); (· exact sv); (· exact sv); rotate_left; (· rfl)))
    refine tp_mk (b := 0) ?_ (by omega); rw [hI]; rfl
end Go.Proofs.YtgbhjlkenfmadaaGreatDoor
/- The reference's Pass and what it calls, on the abstract machine: one length from the shorter ones. -/
namespace Go.Proofs.YtgbhjlkenfmadaaGreatDoor
open Go.RowKit
set_option linter.unusedVariables false
set_option linter.unusedSimpArgs false
set_option maxRecDepth 100000
set_option maxHeartbeats 8000000
/-- The contract of Pass for what is left of at most n bytes. -/
def PASH (n : Nat) : Prop := ∀ (s : List UInt8) (i : Nat) (z y : Int) (pl : Nat), s.length ≤ 1000000 → z = i → y = pl → pl ≤ 2 → i < s.length → s.length - i ≤ n → Ab Tryz.prog 85 [az s, ai z, ai y] (tpr i (pas (s.drop i) pl))
section
variable {n : Nat} (H : PASH n)
include H in
theorem rdouble_ab (s : List UInt8) (a : Nat) (z : Int) (hs : s.length ≤ 1000000) (hz : z = a) (ha : a < s.length) (hn : s.length - a ≤ n + 1) : Ab Tryz.prog 123 [az s, ai z] (tpr a (dbl (s.drop (a + 1)) 1)) := by
  subst hz
  refine Fn_of_aw (keep := []) Tryz.func123 rfl rfl (by simp [Tryz.ntmps123]) ?_
  simp only [num_cons, num_nil, Tryz.ntmps123, Tryz.results123]
  repeat' (first
 | ((with_reducible apply awO_ev); (· rfl); (· exact sv))
 | ((with_reducible apply aw_seq); intro _ _)
 | (with_reducible apply aw_region)
 | (with_reducible apply aw_block)
 | ((with_reducible first | apply awO_nil | apply aw_exit | apply aw_skip | apply aw_ret); (try simp only [CT, ↓reduceIte, Nat.reduceEqDiff]))
 | (refine Kont.go ‹Kont _ _ _ _› _ ?_))
  refine aw_loopF (fun i : Nat => [(6, ai i)]) (fun _ => []) (fun i => a + 1 ≤ i ∧ i ≤ s.length ∧ dbl (s.drop (a + 1)) 1 = dbl (s.drop i) (i - a)) (fun i => s.length - i) (a + 1) ⟨by omega, by omega, by congr 1; omega⟩ ?_ ?_ ?_
  · (simp only [LP, look_cons, look_nil, and_true, true_and, ↓reduceIte, Nat.reduceEqDiff, Option.some.injEq, AV.v.injEq, Value.int.injEq, Int.natCast_add, Int.cast_ofNat_Int])
  · (simp only [LP, look_cons, look_nil, and_true, true_and, ↓reduceIte, Nat.reduceEqDiff, Option.some.injEq, AV.v.injEq, Value.int.injEq, Int.natCast_add, Int.cast_ofNat_Int])
  intro i ⟨hi0, hi, hI⟩
  (simp only [LP, List.append_assoc, List.nil_append, List.cons_append, List.append_nil, List.contains_cons, List.contains_nil, Nat.reduceBEq, Bool.or_false, Bool.or_true, Bool.true_or, Bool.false_or, ↓reduceIte, Bool.false_eq_true])
  by_cases hil : i < s.length
  · have c1 := H s i i 1 1 hs rfl rfl (by omega) hil (by omega)
    have hok := pas_ok (l := s.drop i) 1 (by rw [List.length_drop]; omega)
    rw [dropc hil] at hI c1 hok
    obtain ⟨k1, k2, k3, k4⟩ := hok
    simp only [List.length_cons, List.length_drop] at k1
    generalize hp : pas (s[i] :: s.drop (i + 1)) 1 = p at *
    obtain ⟨pe, pr⟩ := p
    simp only at k1 k2 k3 k4
    repeat' (first
 | ((with_reducible apply awO_ev); (· rfl); (· exact sv))
 | ((with_reducible apply aw_seq); intro _ _)
 | (with_reducible apply aw_region)
 | (with_reducible apply aw_block)
 | ((with_reducible first | apply awO_nil | apply aw_exit | apply aw_skip | apply aw_ret); (try simp only [CT, ↓reduceIte, Nat.reduceEqDiff]))
 | (refine Kont.go ‹Kont _ _ _ _› _ ?_)
 | ((with_reducible apply awO_c); (· rfl); (· rfl); (· exact sv); (· (first | with_reducible exact c1)); (· rfl); (· rfl); (· rfl); (· decide))
 | ((first | ((with_reducible apply awO_guardN); (· rfl); (· rfl); (· exact sv); (· exact nB)) | ((with_reducible apply aw_condN); (· exact sv))); (· exact pN); (· exact pN); all_goals (intro hg; try (exfalso; omega)))
 | ((with_reducible apply retQ_mk); (· exact rI); (· exact sv); (· exact sv); rotate_left; (· rfl)))
    · exact tp_mk (b := i - a + 1) (by rw [hI, dbl_end (by omega)]) (by omega)
    · refine tp_mk (b := i - a + pe) ?_ (by omega); rw [hI, dbl_err (by omega) (by rw [hp]; exact hg), hp]
    · refine LE_mk (i + pe) ?_ ?_ sN sN sN
      · have := k2 hg
        refine ⟨by omega, by omega, ?_⟩
        rw [hI, dbl, if_neg (by omega), hp]
        simp only
        rw [if_neg (by simpa using hg), if_neg (by omega), drop_pas hil (by omega)]; congr 1; omega
      · have := k2 hg; omega
  · rw [List.drop_eq_nil_of_le (by omega : s.length ≤ i)] at hI
    repeat' (first
 | ((with_reducible apply awO_ev); (· rfl); (· exact sv))
 | ((with_reducible apply aw_seq); intro _ _)
 | (with_reducible apply aw_region)
 | ((with_reducible first | apply awO_nil | apply aw_exit | apply aw_skip | apply aw_ret); (try simp only [CT, ↓reduceIte, Nat.reduceEqDiff]))
 | (refine Kont.go ‹Kont _ _ _ _› _ ?_)
 | ((first | ((with_reducible apply awO_guardN); (· rfl); (· rfl); (· exact sv); (· exact nB)) | ((with_reducible apply aw_condN); (· exact sv))); (· exact pN); (· exact pN); all_goals (intro hg; try (exfalso; omega)))
 | ((with_reducible apply retQ_mk); (· exact rI); (· exact sv); (· exact sv); rotate_left; (· rfl)))
    refine tp_mk (b := 0) ?_ (by omega); rw [hI]; simp [dbl]
include H in
theorem rbraced_ab (s : List UInt8) (a : Nat) (z y : Int) (pl : Nat) (hs : s.length ≤ 1000000) (hz : z = a) (hy : y = pl) (hpl : pl ≤ 2) (ha : a + 2 ≤ s.length) (hn : s.length - a ≤ n + 1) : Ab Tryz.prog 139 [az s, ai z, ai y] (tpr a (brc (s.drop (a + 2)) 2 pl)) := by
  subst hz; subst hy
  refine Fn_of_aw (keep := []) Tryz.func139 rfl rfl (by simp [Tryz.ntmps139]) ?_
  simp only [num_cons, num_nil, Tryz.ntmps139, Tryz.results139]
  repeat' (first
 | ((with_reducible apply awO_ev); (· rfl); (· exact sv))
 | ((with_reducible apply aw_seq); intro _ _)
 | (with_reducible apply aw_region)
 | (with_reducible apply aw_block)
 | ((with_reducible first | apply awO_nil | apply aw_exit | apply aw_skip | apply aw_ret); (try simp only [CT, ↓reduceIte, Nat.reduceEqDiff]))
 | (refine Kont.go ‹Kont _ _ _ _› _ ?_))
  refine aw_loopF (fun i : Nat => [(8, ai i)]) (fun _ => []) (fun i => a + 2 ≤ i ∧ i ≤ s.length ∧ brc (s.drop (a + 2)) 2 pl = brc (s.drop i) (i - a) pl) (fun i => s.length - i) (a + 2) ⟨by omega, by omega, by congr 1; omega⟩ ?_ ?_ ?_
  · (simp only [LP, look_cons, look_nil, and_true, true_and, ↓reduceIte, Nat.reduceEqDiff, Option.some.injEq, AV.v.injEq, Value.int.injEq, Int.natCast_add, Int.cast_ofNat_Int])
  · (simp only [LP, look_cons, look_nil, and_true, true_and, ↓reduceIte, Nat.reduceEqDiff, Option.some.injEq, AV.v.injEq, Value.int.injEq, Int.natCast_add, Int.cast_ofNat_Int])
  intro i ⟨hi0, hi, hI⟩
  (simp only [LP, List.append_assoc, List.nil_append, List.cons_append, List.append_nil, List.contains_cons, List.contains_nil, Nat.reduceBEq, Bool.or_false, Bool.or_true, Bool.true_or, Bool.false_or, ↓reduceIte, Bool.false_eq_true])
  by_cases hil : i < s.length
  · have c1 := H s i i pl pl hs rfl rfl hpl hil (by omega)
    have hok := pas_ok (l := s.drop i) pl (by rw [List.length_drop]; omega)
    rw [dropc hil] at hI c1 hok
    rw [brc] at hI
    obtain ⟨k1, k2, k3, k4⟩ := hok
    simp only [List.length_cons, List.length_drop] at k1
    generalize hp : pas (s[i] :: s.drop (i + 1)) pl = p at *
    obtain ⟨pe, pr⟩ := p
    simp only at k1 k2 k3 k4 hI
    repeat' (first
 | ((with_reducible apply awO_ev); (· rfl); (· exact sv))
 | ((with_reducible apply aw_seq); intro _ _)
 | (with_reducible apply aw_region)
 | (with_reducible apply aw_block)
 | ((with_reducible first | apply awO_nil | apply aw_exit | apply aw_skip | apply aw_ret); (try simp only [CT, ↓reduceIte, Nat.reduceEqDiff]))
 | ((with_reducible apply awO_y); (· rfl); (· rfl); (· decide); (· exact sv); (· exact sv))
 | ((with_reducible apply awO_n); (· rfl); (· rfl); (· decide); (· exact sv); (· rfl); (· rfl); (· decide))
 | ((with_reducible apply aw_cond_false); (· exact sv))
 | (refine Kont.go ‹Kont _ _ _ _› _ ?_)
 | ((with_reducible apply awO_c); (· rfl); (· rfl); (· exact sv); (· (first | with_reducible exact c1)); (· rfl); (· rfl); (· rfl); (· decide))
 | ((first | ((with_reducible apply awO_guardN); (· rfl); (· rfl); (· exact sv); (· exact nB)) | ((with_reducible apply aw_condN); (· exact sv))); (· exact pN); (· exact pN); all_goals (intro hg; try (exfalso; omega)))
 | ((with_reducible apply retQ_mk); (· exact rI); (· exact sv); (· exact sv); rotate_left; (· rfl)))
    all_goals (first
      | (exfalso; omega)
      | exact tp_mk (b := i - a + 1) (by rw [hI, if_pos (by omega)]) (by omega)
      | exact tp_mk (b := i - a) (by rw [hI, if_neg (by omega), if_pos (by omega)]) (by omega)
      | (refine tp_mk (b := i - a + pe) ?_ (by omega); rw [hI, if_neg (by omega), if_neg (by omega), if_pos hg])
      | (refine LE_mk (i + pe) ?_ ?_ sN sN sN
         · have := k2 hg
           refine ⟨by omega, by omega, ?_⟩
           rw [hI, if_neg (by omega), if_neg (by omega), if_neg (by simpa using hg), if_neg (by omega), drop_pas hil (by omega)]; congr 1; omega
         · have := k2 hg; omega))
  · rw [List.drop_eq_nil_of_le (by omega : s.length ≤ i)] at hI
    repeat' (first
 | ((with_reducible apply awO_ev); (· rfl); (· exact sv))
 | ((with_reducible apply aw_seq); intro _ _)
 | (with_reducible apply aw_region)
 | ((with_reducible first | apply awO_nil | apply aw_exit | apply aw_skip | apply aw_ret); (try simp only [CT, ↓reduceIte, Nat.reduceEqDiff]))
 | (refine Kont.go ‹Kont _ _ _ _› _ ?_)
 | ((first | ((with_reducible apply awO_guardN); (· rfl); (· rfl); (· exact sv); (· exact nB)) | ((with_reducible apply aw_condN); (· exact sv))); (· exact pN); (· exact pN); all_goals (intro hg; try (exfalso; omega)))
 | ((with_reducible apply retQ_mk); (· exact rI); (· exact sv); (· exact sv); rotate_left; (· rfl)))
    refine tp_mk (b := 0) ?_ (by omega); rw [hI]; simp [brc]
include H in
theorem rarithmetic_ab (s : List UInt8) (a : Nat) (z : Int) (hs : s.length ≤ 1000000) (hz : z = a) (ha : a + 3 ≤ s.length) (hn : s.length - a ≤ n + 1) : Ab Tryz.prog 140 [az s, ai z] (tpr a (ari (s.drop (a + 3)) 3 0)) := by
  subst hz
  refine Fn_of_aw (keep := []) Tryz.func140 rfl rfl (by simp [Tryz.ntmps140]) ?_
  simp only [num_cons, num_nil, Tryz.ntmps140, Tryz.results140]
  repeat' (first
 | ((with_reducible apply awO_ev); (· rfl); (· exact sv))
 | ((with_reducible apply aw_seq); intro _ _)
 | (with_reducible apply aw_region)
 | (with_reducible apply aw_block)
 | ((with_reducible first | apply awO_nil | apply aw_exit | apply aw_skip | apply aw_ret); (try simp only [CT, ↓reduceIte, Nat.reduceEqDiff]))
 | (refine Kont.go ‹Kont _ _ _ _› _ ?_))
  refine aw_loopF (fun x : Nat × Nat => [(6, ai x.1), (7, ai x.2)]) (fun _ => []) (fun x => a + 3 ≤ x.1 ∧ x.1 ≤ s.length ∧ x.2 ≤ x.1 ∧ ari (s.drop (a + 3)) 3 0 = ari (s.drop x.1) (x.1 - a) x.2) (fun x => s.length - x.1) (a + 3, 0) ⟨by simp, by simp only; omega, by simp, by simp only; congr 1; omega⟩ ?_ ?_ ?_
  · (simp only [LP, look_cons, look_nil, and_true, true_and, ↓reduceIte, Nat.reduceEqDiff, Option.some.injEq, AV.v.injEq, Value.int.injEq, Int.natCast_add, Int.cast_ofNat_Int])
  · (simp only [LP, look_cons, look_nil, and_true, true_and, ↓reduceIte, Nat.reduceEqDiff, Option.some.injEq, AV.v.injEq, Value.int.injEq, Int.natCast_add, Int.cast_ofNat_Int])
  rintro ⟨i, dep⟩ ⟨hi0, hi, hdep, hI⟩
  simp only at hi0 hi hdep hI
  (simp only [LP, List.append_assoc, List.nil_append, List.cons_append, List.append_nil, List.contains_cons, List.contains_nil, Nat.reduceBEq, Bool.or_false, Bool.or_true, Bool.true_or, Bool.false_or, ↓reduceIte, Bool.false_eq_true])
  by_cases hil : i < s.length
  · rw [dropc hil] at hI
    by_cases hend : s[i].toNat = 41 ∧ dep = 0
    · obtain ⟨h41, hd0⟩ := hend
      subst hd0
      rw [ari_close h41] at hI
      by_cases hil2 : i + 1 < s.length
      · rw [dropc hil2] at hI
        simp only at hI
        by_cases h2 : s[i + 1].toNat = 41
        · rw [if_pos h2] at hI
          repeat' (first
 | ((with_reducible apply awO_ev); (· rfl); (· exact sv))
 | ((with_reducible apply aw_seq); intro _ _)
 | (with_reducible apply aw_region)
 | (with_reducible apply aw_block)
 | ((with_reducible first | apply awO_nil | apply aw_exit | apply aw_skip | apply aw_ret); (try simp only [CT, ↓reduceIte, Nat.reduceEqDiff]))
 | ((with_reducible apply awO_y); (· rfl); (· rfl); (· decide); (· exact sv); (· exact sv))
 | ((with_reducible apply aw_cond_false); (· exact sv))
 | (refine Kont.go ‹Kont _ _ _ _› _ ?_)
 | ((first | ((with_reducible apply awO_guardN); (· rfl); (· rfl); (· exact sv); (· exact nB)) | ((with_reducible apply aw_condN); (· exact sv))); (· exact pN); (· exact pN); all_goals (intro hg; try (exfalso; omega)))
 | ((with_reducible apply retQ_mk); (· exact rI); (· exact sv); (· exact sv); rotate_left; (· rfl)))
          exact tp_mk (b := i - a + 2) hI (by omega)
        · rw [if_neg h2] at hI
          repeat' (first
 | ((with_reducible apply awO_ev); (· rfl); (· exact sv))
 | ((with_reducible apply aw_seq); intro _ _)
 | (with_reducible apply aw_region)
 | (with_reducible apply aw_block)
 | ((with_reducible first | apply awO_nil | apply aw_exit | apply aw_skip | apply aw_ret); (try simp only [CT, ↓reduceIte, Nat.reduceEqDiff]))
 | ((with_reducible apply awO_y); (· rfl); (· rfl); (· decide); (· exact sv); (· exact sv))
 | ((with_reducible apply aw_cond_false); (· exact sv))
 | (refine Kont.go ‹Kont _ _ _ _› _ ?_)
 | ((first | ((with_reducible apply awO_guardN); (· rfl); (· rfl); (· exact sv); (· exact nB)) | ((with_reducible apply aw_condN); (· exact sv))); (· exact pN); (· exact pN); all_goals (intro hg; try (exfalso; omega)))
 | ((with_reducible apply retQ_mk); (· exact rI); (· exact sv); (· exact sv); rotate_left; (· rfl)))
          exact tp_mk (b := i - a) hI (by omega)
      · rw [List.drop_eq_nil_of_le (by omega : s.length ≤ i + 1)] at hI
        simp only at hI
        repeat' (first
 | ((with_reducible apply awO_ev); (· rfl); (· exact sv))
 | ((with_reducible apply aw_seq); intro _ _)
 | (with_reducible apply aw_region)
 | (with_reducible apply aw_block)
 | ((with_reducible first | apply awO_nil | apply aw_exit | apply aw_skip | apply aw_ret); (try simp only [CT, ↓reduceIte, Nat.reduceEqDiff]))
 | ((with_reducible apply awO_y); (· rfl); (· rfl); (· decide); (· exact sv); (· exact sv))
 | ((with_reducible apply aw_cond_false); (· exact sv))
 | (refine Kont.go ‹Kont _ _ _ _› _ ?_)
 | ((first | ((with_reducible apply awO_guardN); (· rfl); (· rfl); (· exact sv); (· exact nB)) | ((with_reducible apply aw_condN); (· exact sv))); (· exact pN); (· exact pN); all_goals (intro hg; try (exfalso; omega)))
 | ((with_reducible apply retQ_mk); (· exact rI); (· exact sv); (· exact sv); rotate_left; (· rfl)))
        exact tp_mk (b := 0) hI (by omega)
    · rw [ari_step hend] at hI
      have c1 := H s i i 2 2 hs rfl rfl (by omega) hil (by omega)
      have hok := pas_ok (l := s.drop i) 2 (by rw [List.length_drop]; omega)
      rw [dropc hil] at c1 hok
      obtain ⟨k1, k2, k3, k4⟩ := hok
      simp only [List.length_cons, List.length_drop] at k1
      generalize hp : pas (s[i] :: s.drop (i + 1)) 2 = p at *
      obtain ⟨pe, pr⟩ := p
      simp only at k1 k2 k3 k4 hI
      repeat' (first
 | ((with_reducible apply awO_ev); (· rfl); (· exact sv))
 | ((with_reducible apply aw_seq); intro _ _)
 | (with_reducible apply aw_region)
 | (with_reducible apply aw_block)
 | ((with_reducible first | apply awO_nil | apply aw_exit | apply aw_skip | apply aw_ret); (try simp only [CT, ↓reduceIte, Nat.reduceEqDiff]))
 | ((with_reducible apply awO_y); (· rfl); (· rfl); (· decide); (· exact sv); (· exact sv))
 | ((with_reducible apply awO_n); (· rfl); (· rfl); (· decide); (· exact sv); (· rfl); (· rfl); (· decide))
 | ((with_reducible apply aw_cond_false); (· exact sv))
 | (refine Kont.go ‹Kont _ _ _ _› _ ?_)
 | ((with_reducible apply awO_c); (· rfl); (· rfl); (· exact sv); (· (first | with_reducible exact c1)); (· rfl); (· rfl); (· rfl); (· decide))
 | ((first | ((with_reducible apply awO_guardN); (· rfl); (· rfl); (· exact sv); (· exact nB)) | ((with_reducible apply aw_condN); (· exact sv))); (· exact pN); (· exact pN); all_goals (intro hg; try (exfalso; omega)))
 | ((with_reducible apply retQ_mk); (· exact rI); (· exact sv); (· exact sv); rotate_left; (· rfl)))
      all_goals (first
        | (exfalso; omega)
        | (refine tp_mk (b := i - a + pe) ?_ (by omega); rw [hI, if_pos hg])
        | (refine LE_mk ((i + pe, dep + 1)) ?_ ?_ sN sN sN
           · have := k2 hg
             refine ⟨by simp only; omega, by simp only; omega, by simp only; omega, ?_⟩
             rw [hI, if_neg (by simpa using hg), if_neg (by omega), drop_pas hil (by omega), if_pos (by omega)]; congr 1; simp only; omega
           · have := k2 hg; simp only; omega)
        | (refine LE_mk ((i + pe, dep - 1)) ?_ ?_ sN sN sN
           · have := k2 hg
             refine ⟨by simp only; omega, by simp only; omega, by simp only; omega, ?_⟩
             rw [hI, if_neg (by simpa using hg), if_neg (by omega), drop_pas hil (by omega), if_neg (by omega), if_pos (by omega)]; congr 1; simp only; omega
           · have := k2 hg; simp only; omega)
        | (refine LE_mk ((i + pe, dep)) ?_ ?_ sN sN sN
           · have := k2 hg
             refine ⟨by simp only; omega, by simp only; omega, by simp only; omega, ?_⟩
             rw [hI, if_neg (by simpa using hg), if_neg (by omega), drop_pas hil (by omega), if_neg (by omega), if_neg (by omega)]; congr 1; simp only; omega
           · have := k2 hg; simp only; omega))
  · rw [List.drop_eq_nil_of_le (by omega : s.length ≤ i)] at hI
    repeat' (first
 | ((with_reducible apply awO_ev); (· rfl); (· exact sv))
 | ((with_reducible apply aw_seq); intro _ _)
 | (with_reducible apply aw_region)
 | ((with_reducible first | apply awO_nil | apply aw_exit | apply aw_skip | apply aw_ret); (try simp only [CT, ↓reduceIte, Nat.reduceEqDiff]))
 | (refine Kont.go ‹Kont _ _ _ _› _ ?_)
 | ((first | ((with_reducible apply awO_guardN); (· rfl); (· rfl); (· exact sv); (· exact nB)) | ((with_reducible apply aw_condN); (· exact sv))); (· exact pN); (· exact pN); all_goals (intro hg; try (exfalso; omega)))
 | ((with_reducible apply retQ_mk); (· exact rI); (· exact sv); (· exact sv); rotate_left; (· rfl)))
    refine tp_mk (b := 0) ?_ (by omega); rw [hI]; simp [ari]
theorem divB_or (c : UInt8) : (blankB c || decide (c.toNat = 10) || opB c) = divB c := by
  rw [Bool.eq_iff_iff]; simp only [divB, opB, blankB, Bool.or_eq_true, decide_eq_true_eq]; omega
theorem beg_nodiv {c : UInt8} {r : List UInt8} (h : begB (c :: r) = true) : divB c = false ∧ c.toNat ≠ 40 ∧ c.toNat ≠ 41 ∧ c.toNat ≠ 35 := by
  simp only [begB, Bool.or_eq_true, Bool.and_eq_true, decide_eq_true_eq] at h
  simp only [divB, decide_eq_false_iff_not]
  omega
include H in
theorem rcommand_ab (s : List UInt8) (a : Nat) (z : Int) (hs : s.length ≤ 1000000) (hz : z = a) (ha : a + 2 ≤ s.length) (hn : s.length - a ≤ n + 1) : Ab Tryz.prog 141 [az s, ai z] (tpr a (cmd (s.drop (a + 2)) 2 0 true)) := by
  subst hz
  refine Fn_of_aw (keep := []) Tryz.func141 rfl rfl (by simp [Tryz.ntmps141]) ?_
  simp only [num_cons, num_nil, Tryz.ntmps141, Tryz.results141]
  repeat' (first
 | ((with_reducible apply awO_ev); (· rfl); (· exact sv))
 | ((with_reducible apply aw_seq); intro _ _)
 | (with_reducible apply aw_region)
 | (with_reducible apply aw_block)
 | ((with_reducible first | apply awO_nil | apply aw_exit | apply aw_skip | apply aw_ret); (try simp only [CT, ↓reduceIte, Nat.reduceEqDiff]))
 | (refine Kont.go ‹Kont _ _ _ _› _ ?_))
  refine aw_loopF (fun x : Nat × Nat × Bool => [(6, ai x.1), (7, ai ((x.2.1 : Int) + 1)), (8, ab x.2.2)]) (fun _ => []) (fun x => a + 2 ≤ x.1 ∧ x.1 ≤ s.length ∧ x.2.1 ≤ x.1 ∧ cmd (s.drop (a + 2)) 2 0 true = cmd (s.drop x.1) (x.1 - a) x.2.1 x.2.2) (fun x => s.length - x.1) (a + 2, 0, true) ⟨by simp, by simp only; omega, by simp, by simp only; congr 1; omega⟩ ?_ ?_ ?_
  · (simp only [LP, look_cons, look_nil, and_true, true_and, ↓reduceIte, Nat.reduceEqDiff, Option.some.injEq, AV.v.injEq, Value.int.injEq, Int.natCast_add, Int.cast_ofNat_Int])
    simp
  · (simp only [LP, look_cons, look_nil, and_true, true_and, ↓reduceIte, Nat.reduceEqDiff, Option.some.injEq, AV.v.injEq, Value.int.injEq, Int.natCast_add, Int.cast_ofNat_Int])
  rintro ⟨i, dep, st⟩ ⟨hi0, hi, hdep, hI⟩
  simp only at hi0 hi hdep hI
  (simp only [LP, List.append_assoc, List.nil_append, List.cons_append, List.append_nil, List.contains_cons, List.contains_nil, Nat.reduceBEq, Bool.or_false, Bool.or_true, Bool.true_or, Bool.false_or, ↓reduceIte, Bool.false_eq_true])
  by_cases hil : i < s.length
  · have c1 := rjoined_ab s i i rfl hs (by omega)
    have c4 := H s i i 0 0 hs rfl rfl (by omega) hil (by omega)
    have hok := pas_ok (l := s.drop i) 0 (by rw [List.length_drop]; omega)
    have c5 := rblank_ab s[i]
    have c6 := opByte_ab s[i]
    have hdv := divB_or s[i]
    rw [dropc hil] at hI c1 c4 hok
    by_cases hcm : s[i].toNat = 35 ∧ st = true
    · obtain ⟨h35, rfl⟩ := hcm
      have hj : ¬ joinB (s[i] :: s.drop (i + 1)) = true := by cases s.drop (i + 1) <;> simp [joinB]; omega
      rw [cmd, if_neg hj, if_pos ⟨h35, rfl⟩] at hI
      have c2 := rcomment_ab s i i rfl (by omega) hs
      have hcl := comN_le (s.drop i)
      rw [List.length_drop] at hcl
      rw [dropc hil] at c2 hcl
      have hc1 : 1 ≤ comN (s[i] :: s.drop (i + 1)) := by simp only [comN]; rw [if_neg (by omega)]; omega
      rw [drop_pas hil hc1] at hI
      clear c4 hok c5 c6 hdv
      generalize comN (s[i] :: s.drop (i + 1)) = cn at *
      repeat' (first
 | ((with_reducible apply awO_ev); (· rfl); (· exact sv))
 | ((with_reducible apply aw_seq); intro _ _)
 | (with_reducible apply aw_region)
 | (with_reducible apply aw_block)
 | ((with_reducible first | apply awO_nil | apply aw_exit | apply aw_skip | apply aw_ret); (try simp only [CT, ↓reduceIte, Nat.reduceEqDiff]))
 | ((with_reducible apply awO_y); (· rfl); (· rfl); (· decide); (· exact sv); (· exact sv))
 | (refine Kont.go ‹Kont _ _ _ _› _ ?_)
 | ((with_reducible apply awO_c); (· rfl); (· rfl); (· exact sv); (· (first | with_reducible exact c1 | with_reducible exact c2)); (· rfl); (· rfl); (· rfl); (· decide))
 | ((first | ((with_reducible apply awO_guardN); (· rfl); (· rfl); (· exact sv); (· exact nB)) | ((with_reducible apply aw_condN); (· exact sv))); (· exact pN); (· exact pN); all_goals (intro hg; try (exfalso; omega))))
      refine LE_mk ((i + cn, dep, true)) ?_ ?_ sN sN sN
      · refine ⟨by simp only; omega, by simp only; omega, by simp only; omega, ?_⟩
        rw [hI]; congr 1; simp only; omega
      · simp only; omega
    by_cases hj : joinB (s[i] :: s.drop (i + 1)) = true
    · rw [hj] at c1
      rw [cmd, if_pos hj, List.drop_drop] at hI
      have hil2 : i + 1 < s.length := by
        rcases Nat.lt_or_ge (i + 1) s.length with h | h
        · exact h
        · rw [List.drop_eq_nil_of_le h] at hj; simp [joinB] at hj
      clear c4 hok c5 c6 hdv
      repeat' (first
 | ((with_reducible apply awO_ev); (· rfl); (· exact sv))
 | ((with_reducible apply aw_seq); intro _ _)
 | (with_reducible apply aw_region)
 | (with_reducible apply aw_block)
 | ((with_reducible first | apply awO_nil | apply aw_exit | apply aw_skip | apply aw_ret); (try simp only [CT, ↓reduceIte, Nat.reduceEqDiff]))
 | ((with_reducible apply awO_y); (· rfl); (· rfl); (· decide); (· exact sv); (· exact sv))
 | ((with_reducible apply awO_n); (· rfl); (· rfl); (· decide); (· exact sv); (· rfl); (· rfl); (· decide))
 | ((with_reducible apply aw_cond_true); (· exact sv))
 | ((with_reducible apply aw_cond_false); (· exact sv))
 | (refine Kont.go ‹Kont _ _ _ _› _ ?_)
 | ((with_reducible apply awO_c); (· rfl); (· rfl); (· exact sv); (· (first | with_reducible exact c1)); (· rfl); (· rfl); (· rfl); (· decide))
 | ((first | ((with_reducible apply awO_guardN); (· rfl); (· rfl); (· exact sv); (· exact nB)) | ((with_reducible apply aw_condN); (· exact sv))); (· exact pN); (· exact pN); all_goals (intro hg; try (exfalso; omega))))
      all_goals (first
        | (exfalso; apply hcm; exact ⟨by omega, ‹_›⟩)
        | (refine LE_mk ((i + 2, dep, st)) ?_ ?_ sN sN sN
           · refine ⟨by simp only; omega, by simp only; omega, by simp only; omega, ?_⟩
             rw [hI]; congr 1; simp only; omega
           · simp only; omega))
    have hj' : joinB (s[i] :: s.drop (i + 1)) = false := by simpa using hj
    rw [hj'] at c1
    rw [cmd, if_neg hj, if_neg hcm] at hI
    by_cases hb : begB (s[i] :: s.drop (i + 1)) = true
    · rw [if_pos hb] at hI
      rw [pas_con (.inl rfl) hb] at c4 hok
      obtain ⟨n1, n2, n3, n4⟩ := beg_nodiv hb
      rw [n1] at hdv
      simp only [Bool.or_eq_false_iff, decide_eq_false_iff_not] at hdv
      obtain ⟨⟨d1, d2⟩, d3⟩ := hdv
      rw [d1] at c5
      rw [d3] at c6
      obtain ⟨k1, k2, k3, k4⟩ := hok
      simp only [List.length_cons, List.length_drop] at k1
      generalize hp : con (s[i] :: s.drop (i + 1)) 0 = p at *
      obtain ⟨pe, pr⟩ := p
      simp only at k1 k2 k3 k4 hI
      repeat' (first
 | ((with_reducible apply awO_ev); (· rfl); (· exact sv))
 | ((with_reducible apply aw_seq); intro _ _)
 | (with_reducible apply aw_region)
 | (with_reducible apply aw_block)
 | ((with_reducible first | apply awO_nil | apply aw_exit | apply aw_skip | apply aw_ret); (try simp only [CT, ↓reduceIte, Nat.reduceEqDiff]))
 | ((with_reducible apply awO_y); (· rfl); (· rfl); (· decide); (· exact sv); (· exact sv))
 | ((with_reducible apply awO_n); (· rfl); (· rfl); (· decide); (· exact sv); (· rfl); (· rfl); (· decide))
 | ((with_reducible apply aw_cond_false); (· exact sv))
 | ((with_reducible apply awO_un); (· rfl); (· decide); (· exact sv))
 | (refine Kont.go ‹Kont _ _ _ _› _ ?_)
 | ((with_reducible apply awO_c); (· rfl); (· rfl); (· exact sv); (· (first | with_reducible exact c1 | with_reducible exact c4 | with_reducible exact c5 | with_reducible exact c6)); (· rfl); (· rfl); (· rfl); (· decide))
 | ((first | ((with_reducible apply awO_guardN); (· rfl); (· rfl); (· exact sv); (· exact nB)) | ((with_reducible apply aw_condN); (· exact sv))); (· exact pN); (· exact pN); all_goals (intro hg; try (exfalso; omega)))
 | ((with_reducible apply retQ_mk); (· exact rI); (· exact sv); (· exact sv); rotate_left; (· rfl)))
      all_goals (first
        | (exfalso; omega)
        | (exfalso; apply hcm; exact ⟨by omega, ‹_›⟩)
        | (refine tp_mk (b := i - a + pe) ?_ (by omega); rw [hI, if_pos hg])
        | (refine LE_mk ((i + pe, dep, false)) ?_ ?_ sN sN sN
           · have := k2 hg
             refine ⟨by simp only; omega, by simp only; omega, by simp only; omega, ?_⟩
             rw [hI, if_neg (by simpa using hg), if_neg (by omega), drop_pas hil (by omega)]; congr 1; simp only; omega
           · have := k2 hg; simp only; omega))
    · have hb' : begB (s[i] :: s.drop (i + 1)) = false := by simpa using hb
      rw [if_neg hb] at hI
      rw [pas_one (.inr hb')] at c4
      clear hok
      by_cases he : s[i].toNat = 41 ∧ dep = 0
      · rw [if_pos he] at hI
        obtain ⟨h41, rfl⟩ := he
        repeat' (first
 | ((with_reducible apply awO_ev); (· rfl); (· exact sv))
 | ((with_reducible apply aw_seq); intro _ _)
 | (with_reducible apply aw_region)
 | (with_reducible apply aw_block)
 | ((with_reducible first | apply awO_nil | apply aw_exit | apply aw_skip | apply aw_ret); (try simp only [CT, ↓reduceIte, Nat.reduceEqDiff]))
 | ((with_reducible apply awO_y); (· rfl); (· rfl); (· decide); (· exact sv); (· exact sv))
 | ((with_reducible apply awO_n); (· rfl); (· rfl); (· decide); (· exact sv); (· rfl); (· rfl); (· decide))
 | ((with_reducible apply aw_cond_true); (· exact sv))
 | ((with_reducible apply aw_cond_false); (· exact sv))
 | (refine Kont.go ‹Kont _ _ _ _› _ ?_)
 | ((with_reducible apply awO_c); (· rfl); (· rfl); (· exact sv); (· (first | with_reducible exact c1)); (· rfl); (· rfl); (· rfl); (· decide))
 | ((first | ((with_reducible apply awO_guardN); (· rfl); (· rfl); (· exact sv); (· exact nB)) | ((with_reducible apply aw_condN); (· exact sv))); (· exact pN); (· exact pN); all_goals (intro hg; try (exfalso; omega)))
 | ((with_reducible apply retQ_mk); (· exact rI); (· exact sv); (· exact sv); rotate_left; (· rfl)))
        all_goals (first | (exfalso; omega) | exact tp_mk (b := i - a + 1) hI (by omega) | (exfalso; apply hcm; exact ⟨by omega, ‹_›⟩))
      · rw [if_neg he] at hI
        have hz : ∀ (st' : Bool) (dep' : Nat), st' = divB s[i] → dep' = (if s[i].toNat = 40 then dep + 1 else if s[i].toNat = 41 then dep - 1 else dep) → cmd (s.drop (a + 2)) 2 0 true = cmd (s.drop (i + 1)) (i + 1 - a) dep' st' := fun st' dep' h1 h2 => by
          rw [hI, h1, h2]; congr 1; omega
        cases hbl : blankB s[i] with
        | true =>
          have hst : divB s[i] = true := by rw [← hdv, hbl]; rfl
          rw [hbl] at c5
          repeat' (first
 | ((with_reducible apply awO_ev); (· rfl); (· exact sv))
 | ((with_reducible apply aw_seq); intro _ _)
 | (with_reducible apply aw_region)
 | (with_reducible apply aw_block)
 | ((with_reducible first | apply awO_nil | apply aw_exit | apply aw_skip | apply aw_ret); (try simp only [CT, ↓reduceIte, Nat.reduceEqDiff]))
 | ((with_reducible apply awO_y); (· rfl); (· rfl); (· decide); (· exact sv); (· exact sv))
 | ((with_reducible apply awO_n); (· rfl); (· rfl); (· decide); (· exact sv); (· rfl); (· rfl); (· decide))
 | ((with_reducible apply aw_cond_false); (· exact sv))
 | (refine Kont.go ‹Kont _ _ _ _› _ ?_)
 | ((with_reducible apply awO_c); (· rfl); (· rfl); (· exact sv); (· (first | with_reducible exact c1 | with_reducible exact c4 | with_reducible exact c5 | with_reducible exact c6)); (· rfl); (· rfl); (· rfl); (· decide))
 | ((first | ((with_reducible apply awO_guardN); (· rfl); (· rfl); (· exact sv); (· exact nB)) | ((with_reducible apply aw_condN); (· exact sv))); (· exact pN); (· exact pN); all_goals (intro hg; try (exfalso; omega))))
          all_goals (first
            | (exfalso; omega)
            | (exfalso; apply hcm; exact ⟨by omega, ‹_›⟩)
            | (refine LE_mk ((i + 1, dep + 1, true)) ?_ ?_ sN sN sN
               · exact ⟨by simp only; omega, by simp only; omega, by simp only; omega, hz true (dep + 1) hst.symm (by rw [if_pos (by omega)])⟩
               · simp only; omega)
            | (refine LE_mk ((i + 1, dep - 1, true)) ?_ ?_ sN sN sN
               · exact ⟨by simp only; omega, by simp only; omega, by simp only; omega, hz true (dep - 1) hst.symm (by rw [if_neg (by omega), if_pos (by omega)])⟩
               · simp only; omega)
            | (refine LE_mk ((i + 1, dep, true)) ?_ ?_ sN sN sN
               · exact ⟨by simp only; omega, by simp only; omega, by simp only; omega, hz true (dep) hst.symm (by rw [if_neg (by omega), if_neg (by omega)])⟩
               · simp only; omega))
        | false =>
          rw [hbl] at c5
          by_cases h10 : s[i].toNat = 10
          · have hst : divB s[i] = true := by rw [← hdv, decide_eq_true h10]; simp
            repeat' (first
 | ((with_reducible apply awO_ev); (· rfl); (· exact sv))
 | ((with_reducible apply aw_seq); intro _ _)
 | (with_reducible apply aw_region)
 | (with_reducible apply aw_block)
 | ((with_reducible first | apply awO_nil | apply aw_exit | apply aw_skip | apply aw_ret); (try simp only [CT, ↓reduceIte, Nat.reduceEqDiff]))
 | ((with_reducible apply awO_y); (· rfl); (· rfl); (· decide); (· exact sv); (· exact sv))
 | ((with_reducible apply awO_n); (· rfl); (· rfl); (· decide); (· exact sv); (· rfl); (· rfl); (· decide))
 | ((with_reducible apply aw_cond_false); (· exact sv))
 | (refine Kont.go ‹Kont _ _ _ _› _ ?_)
 | ((with_reducible apply awO_c); (· rfl); (· rfl); (· exact sv); (· (first | with_reducible exact c1 | with_reducible exact c4 | with_reducible exact c5 | with_reducible exact c6)); (· rfl); (· rfl); (· rfl); (· decide))
 | ((first | ((with_reducible apply awO_guardN); (· rfl); (· rfl); (· exact sv); (· exact nB)) | ((with_reducible apply aw_condN); (· exact sv))); (· exact pN); (· exact pN); all_goals (intro hg; try (exfalso; omega))))
            all_goals (first
              | (exfalso; omega)
              | (exfalso; apply hcm; exact ⟨by omega, ‹_›⟩)
              | (refine LE_mk ((i + 1, dep + 1, true)) ?_ ?_ sN sN sN
                 · exact ⟨by simp only; omega, by simp only; omega, by simp only; omega, hz true (dep + 1) hst.symm (by rw [if_pos (by omega)])⟩
                 · simp only; omega)
              | (refine LE_mk ((i + 1, dep - 1, true)) ?_ ?_ sN sN sN
                 · exact ⟨by simp only; omega, by simp only; omega, by simp only; omega, hz true (dep - 1) hst.symm (by rw [if_neg (by omega), if_pos (by omega)])⟩
                 · simp only; omega)
              | (refine LE_mk ((i + 1, dep, true)) ?_ ?_ sN sN sN
                 · exact ⟨by simp only; omega, by simp only; omega, by simp only; omega, hz true (dep) hst.symm (by rw [if_neg (by omega), if_neg (by omega)])⟩
                 · simp only; omega))
          · cases hop : opB s[i] with
            | true =>
              have hst : divB s[i] = true := by rw [← hdv, hop]; simp
              rw [hop] at c6
              repeat' (first
 | ((with_reducible apply awO_ev); (· rfl); (· exact sv))
 | ((with_reducible apply aw_seq); intro _ _)
 | (with_reducible apply aw_region)
 | (with_reducible apply aw_block)
 | ((with_reducible first | apply awO_nil | apply aw_exit | apply aw_skip | apply aw_ret); (try simp only [CT, ↓reduceIte, Nat.reduceEqDiff]))
 | ((with_reducible apply awO_y); (· rfl); (· rfl); (· decide); (· exact sv); (· exact sv))
 | ((with_reducible apply awO_n); (· rfl); (· rfl); (· decide); (· exact sv); (· rfl); (· rfl); (· decide))
 | ((with_reducible apply aw_cond_false); (· exact sv))
 | ((with_reducible apply awO_un); (· rfl); (· decide); (· exact sv))
 | (refine Kont.go ‹Kont _ _ _ _› _ ?_)
 | ((with_reducible apply awO_c); (· rfl); (· rfl); (· exact sv); (· (first | with_reducible exact c1 | with_reducible exact c4 | with_reducible exact c5 | with_reducible exact c6)); (· rfl); (· rfl); (· rfl); (· decide))
 | ((first | ((with_reducible apply awO_guardN); (· rfl); (· rfl); (· exact sv); (· exact nB)) | ((with_reducible apply aw_condN); (· exact sv))); (· exact pN); (· exact pN); all_goals (intro hg; try (exfalso; omega))))
              all_goals (first
                | (exfalso; omega)
                | (exfalso; apply hcm; exact ⟨by omega, ‹_›⟩)
                | (refine LE_mk ((i + 1, dep + 1, true)) ?_ ?_ sN sN sN
                   · exact ⟨by simp only; omega, by simp only; omega, by simp only; omega, hz true (dep + 1) hst.symm (by rw [if_pos (by omega)])⟩
                   · simp only; omega)
                | (refine LE_mk ((i + 1, dep - 1, true)) ?_ ?_ sN sN sN
                   · exact ⟨by simp only; omega, by simp only; omega, by simp only; omega, hz true (dep - 1) hst.symm (by rw [if_neg (by omega), if_pos (by omega)])⟩
                   · simp only; omega)
                | (refine LE_mk ((i + 1, dep, true)) ?_ ?_ sN sN sN
                   · exact ⟨by simp only; omega, by simp only; omega, by simp only; omega, hz true (dep) hst.symm (by rw [if_neg (by omega), if_neg (by omega)])⟩
                   · simp only; omega))
            | false =>
              have hst : divB s[i] = false := by rw [← hdv, hop, hbl, decide_eq_false h10]; rfl
              rw [hop] at c6
              repeat' (first
 | ((with_reducible apply awO_ev); (· rfl); (· exact sv))
 | ((with_reducible apply aw_seq); intro _ _)
 | (with_reducible apply aw_region)
 | (with_reducible apply aw_block)
 | ((with_reducible first | apply awO_nil | apply aw_exit | apply aw_skip | apply aw_ret); (try simp only [CT, ↓reduceIte, Nat.reduceEqDiff]))
 | ((with_reducible apply awO_y); (· rfl); (· rfl); (· decide); (· exact sv); (· exact sv))
 | ((with_reducible apply awO_n); (· rfl); (· rfl); (· decide); (· exact sv); (· rfl); (· rfl); (· decide))
 | ((with_reducible apply aw_cond_false); (· exact sv))
 | ((with_reducible apply awO_un); (· rfl); (· decide); (· exact sv))
 | (refine Kont.go ‹Kont _ _ _ _› _ ?_)
 | ((with_reducible apply awO_c); (· rfl); (· rfl); (· exact sv); (· (first | with_reducible exact c1 | with_reducible exact c4 | with_reducible exact c5 | with_reducible exact c6)); (· rfl); (· rfl); (· rfl); (· decide))
 | ((first | ((with_reducible apply awO_guardN); (· rfl); (· rfl); (· exact sv); (· exact nB)) | ((with_reducible apply aw_condN); (· exact sv))); (· exact pN); (· exact pN); all_goals (intro hg; try (exfalso; omega))))
              all_goals (first
                | (exfalso; omega)
                | (exfalso; apply hcm; exact ⟨by omega, ‹_›⟩)
                | (refine LE_mk ((i + 1, dep + 1, false)) ?_ ?_ sN sN sN
                   · exact ⟨by simp only; omega, by simp only; omega, by simp only; omega, hz false (dep + 1) hst.symm (by rw [if_pos (by omega)])⟩
                   · simp only; omega)
                | (refine LE_mk ((i + 1, dep - 1, false)) ?_ ?_ sN sN sN
                   · exact ⟨by simp only; omega, by simp only; omega, by simp only; omega, hz false (dep - 1) hst.symm (by rw [if_neg (by omega), if_pos (by omega)])⟩
                   · simp only; omega)
                | (refine LE_mk ((i + 1, dep, false)) ?_ ?_ sN sN sN
                   · exact ⟨by simp only; omega, by simp only; omega, by simp only; omega, hz false (dep) hst.symm (by rw [if_neg (by omega), if_neg (by omega)])⟩
                   · simp only; omega))
  · rw [List.drop_eq_nil_of_le (by omega : s.length ≤ i)] at hI
    repeat' (first
 | ((with_reducible apply awO_ev); (· rfl); (· exact sv))
 | ((with_reducible apply aw_seq); intro _ _)
 | (with_reducible apply aw_region)
 | ((with_reducible first | apply awO_nil | apply aw_exit | apply aw_skip | apply aw_ret); (try simp only [CT, ↓reduceIte, Nat.reduceEqDiff]))
 | (refine Kont.go ‹Kont _ _ _ _› _ ?_)
 | ((first | ((with_reducible apply awO_guardN); (· rfl); (· rfl); (· exact sv); (· exact nB)) | ((with_reducible apply aw_condN); (· exact sv))); (· exact pN); (· exact pN); all_goals (intro hg; try (exfalso; omega)))
 | ((with_reducible apply retQ_mk); (· exact rI); (· exact sv); (· exact sv); rotate_left; (· rfl)))
    refine tp_mk (b := 0) ?_ (by omega); rw [hI]; simp [cmd]
end
end Go.Proofs.YtgbhjlkenfmadaaGreatDoor
/- The reference's expansion, Pass and Close, on the abstract machine. -/
namespace Go.Proofs.YtgbhjlkenfmadaaGreatDoor
open Go.RowKit
set_option linter.unusedVariables false
set_option linter.unusedSimpArgs false
set_option maxRecDepth 100000
set_option maxHeartbeats 8000000
theorem spec_nostart {d : UInt8} (h : specB d = true) : startsB d = false := by
  simp only [specB, startsB, decide_eq_true_eq, decide_eq_false_iff_not] at *; omega
theorem dol_start {d : UInt8} {r : List UInt8} (h : dolB (d :: r) = true) (h1 : specB d = false) (h2 : ¬ d.toNat = 123) (h3 : ¬ d.toNat = 40) : startsB d = true := by
  simp only [dolB, h1, Bool.or_false, Bool.or_eq_true, decide_eq_true_eq] at h
  rcases h with h | h
  · exact h
  · omega
section
variable {n : Nat} (H : PASH n)
include H in
theorem rexpansion_ab (s : List UInt8) (a : Nat) (z y : Int) (pl : Nat) (hs : s.length ≤ 1000000) (hz : z = a) (hy : y = pl) (hpl : pl ≤ 2) (ha : a < s.length) (hn : s.length - a ≤ n + 1) (h36 : s[a].toNat = 36) (hdol : dolB (s.drop (a + 1)) = true) :
    Ab Tryz.prog 121 [az s, ai z, ai y] (tpr a (con (s.drop a) pl)) := by
  subst hz; subst hy
  have ha1 : a + 1 < s.length := by
    rcases Nat.lt_or_ge (a + 1) s.length with h | h
    · exact h
    · rw [List.drop_eq_nil_of_le h] at hdol; cases hdol
  rw [dropc ha, dropc ha1, con_36 h36]
  rw [dropc ha1] at hdol
  by_cases h123 : s[a + 1].toNat = 123
  · rw [if_neg (by omega), if_pos h123]
    have c1 := rbraced_ab H s a a pl pl hs rfl rfl hpl (by omega) (by omega)
    refine Fn_of_aw (keep := []) Tryz.func121 rfl rfl (by simp [Tryz.ntmps121]) ?_
    simp only [num_cons, num_nil, Tryz.ntmps121, Tryz.results121]
    repeat' (first
 | ((with_reducible apply awO_ev); (· rfl); (· exact sv))
 | ((with_reducible apply aw_seq); intro _ _)
 | (with_reducible apply aw_region)
 | (with_reducible apply aw_block)
 | ((with_reducible first | apply awO_nil | apply aw_exit | apply aw_skip | apply aw_ret); (try simp only [CT, ↓reduceIte, Nat.reduceEqDiff]))
 | (refine Kont.go ‹Kont _ _ _ _› _ ?_)
 | ((with_reducible apply awO_c); (· rfl); (· rfl); (· exact sv); (· (first | with_reducible exact c1)); (· rfl); (· rfl); (· rfl); (· decide))
 | ((first | ((with_reducible apply awO_guardN); (· rfl); (· rfl); (· exact sv); (· exact nB)) | ((with_reducible apply aw_condN); (· exact sv))); (· exact pN); (· exact pN); all_goals (intro hg; try (exfalso; omega)))
 | ((with_reducible apply retQ_mk); (· exact rI); (· exact sv); (· exact sv); rotate_left; (· rfl)))
    all_goals rfl
  by_cases h40 : s[a + 1].toNat = 40
  · rw [if_pos h40]
    by_cases ha2 : a + 2 < s.length
    · rw [dropc ha2]
      simp only
      by_cases h402 : s[a + 2].toNat = 40
      · rw [if_pos h402]
        have c1 := rarithmetic_ab H s a a hs rfl (by omega) (by omega)
        refine Fn_of_aw (keep := []) Tryz.func121 rfl rfl (by simp [Tryz.ntmps121]) ?_
        simp only [num_cons, num_nil, Tryz.ntmps121, Tryz.results121]
        repeat' (first
 | ((with_reducible apply awO_ev); (· rfl); (· exact sv))
 | ((with_reducible apply aw_seq); intro _ _)
 | (with_reducible apply aw_region)
 | (with_reducible apply aw_block)
 | ((with_reducible first | apply awO_nil | apply aw_exit | apply aw_skip | apply aw_ret); (try simp only [CT, ↓reduceIte, Nat.reduceEqDiff]))
 | ((with_reducible apply awO_y); (· rfl); (· rfl); (· decide); (· exact sv); (· exact sv))
 | (refine Kont.go ‹Kont _ _ _ _› _ ?_)
 | ((with_reducible apply awO_c); (· rfl); (· rfl); (· exact sv); (· (first | with_reducible exact c1)); (· rfl); (· rfl); (· rfl); (· decide))
 | ((first | ((with_reducible apply awO_guardN); (· rfl); (· rfl); (· exact sv); (· exact nB)) | ((with_reducible apply aw_condN); (· exact sv))); (· exact pN); (· exact pN); all_goals (intro hg; try (exfalso; omega)))
 | ((with_reducible apply retQ_mk); (· exact rI); (· exact sv); (· exact sv); rotate_left; (· rfl)))
        all_goals rfl
      · rw [if_neg h402]
        have c1 := rcommand_ab H s a a hs rfl (by omega) (by omega)
        rw [dropc ha2] at c1
        refine Fn_of_aw (keep := []) Tryz.func121 rfl rfl (by simp [Tryz.ntmps121]) ?_
        simp only [num_cons, num_nil, Tryz.ntmps121, Tryz.results121]
        repeat' (first
 | ((with_reducible apply awO_ev); (· rfl); (· exact sv))
 | ((with_reducible apply aw_seq); intro _ _)
 | (with_reducible apply aw_region)
 | (with_reducible apply aw_block)
 | ((with_reducible first | apply awO_nil | apply aw_exit | apply aw_skip | apply aw_ret); (try simp only [CT, ↓reduceIte, Nat.reduceEqDiff]))
 | ((with_reducible apply awO_y); (· rfl); (· rfl); (· decide); (· exact sv); (· exact sv))
 | (refine Kont.go ‹Kont _ _ _ _› _ ?_)
 | ((with_reducible apply awO_c); (· rfl); (· rfl); (· exact sv); (· (first | with_reducible exact c1)); (· rfl); (· rfl); (· rfl); (· decide))
 | ((first | ((with_reducible apply awO_guardN); (· rfl); (· rfl); (· exact sv); (· exact nB)) | ((with_reducible apply aw_condN); (· exact sv))); (· exact pN); (· exact pN); all_goals (intro hg; try (exfalso; omega)))
 | ((with_reducible apply retQ_mk); (· exact rI); (· exact sv); (· exact sv); rotate_left; (· rfl)))
        all_goals rfl
    · have hnil : s.drop (a + 2) = [] := List.drop_eq_nil_of_le (by omega)
      rw [hnil]
      simp only
      have c1 := rcommand_ab H s a a hs rfl (by omega) (by omega)
      rw [hnil] at c1
      refine Fn_of_aw (keep := []) Tryz.func121 rfl rfl (by simp [Tryz.ntmps121]) ?_
      simp only [num_cons, num_nil, Tryz.ntmps121, Tryz.results121]
      repeat' (first
 | ((with_reducible apply awO_ev); (· rfl); (· exact sv))
 | ((with_reducible apply aw_seq); intro _ _)
 | (with_reducible apply aw_region)
 | (with_reducible apply aw_block)
 | ((with_reducible first | apply awO_nil | apply aw_exit | apply aw_skip | apply aw_ret); (try simp only [CT, ↓reduceIte, Nat.reduceEqDiff]))
 | ((with_reducible apply awO_y); (· rfl); (· rfl); (· decide); (· exact sv); (· exact sv))
 | ((with_reducible apply awO_n); (· rfl); (· rfl); (· decide); (· exact sv); (· rfl); (· rfl); (· decide))
 | ((with_reducible apply aw_cond_false); (· exact sv))
 | (refine Kont.go ‹Kont _ _ _ _› _ ?_)
 | ((with_reducible apply awO_c); (· rfl); (· rfl); (· exact sv); (· (first | with_reducible exact c1)); (· rfl); (· rfl); (· rfl); (· decide))
 | ((first | ((with_reducible apply awO_guardN); (· rfl); (· rfl); (· exact sv); (· exact nB)) | ((with_reducible apply aw_condN); (· exact sv))); (· exact pN); (· exact pN); all_goals (intro hg; try (exfalso; omega)))
 | ((with_reducible apply retQ_mk); (· exact rI); (· exact sv); (· exact sv); rotate_left; (· rfl)))
      all_goals rfl
  rw [if_neg h40, if_neg h123]
  have c2 := spec_ab s[a + 1]
  cases hsp : specB s[a + 1] with
  | true =>
    rw [hsp] at c2
    rw [if_neg (by rw [spec_nostart hsp]; simp)]
    refine Fn_of_aw (keep := []) Tryz.func121 rfl rfl (by simp [Tryz.ntmps121]) ?_
    simp only [num_cons, num_nil, Tryz.ntmps121, Tryz.results121]
    repeat' (first
 | ((with_reducible apply awO_ev); (· rfl); (· exact sv))
 | ((with_reducible apply aw_seq); intro _ _)
 | (with_reducible apply aw_region)
 | (with_reducible apply aw_block)
 | ((with_reducible first | apply awO_nil | apply aw_exit | apply aw_skip | apply aw_ret); (try simp only [CT, ↓reduceIte, Nat.reduceEqDiff]))
 | ((with_reducible apply awO_n); (· rfl); (· rfl); (· decide); (· exact sv); (· rfl); (· rfl); (· decide))
 | ((with_reducible apply aw_cond_true); (· exact sv))
 | ((with_reducible apply aw_cond_false); (· exact sv))
 | (refine Kont.go ‹Kont _ _ _ _› _ ?_)
 | ((with_reducible apply awO_c); (· rfl); (· rfl); (· exact sv); (· (first | with_reducible exact c2)); (· rfl); (· rfl); (· rfl); (· decide))
 | ((first | ((with_reducible apply awO_guardN); (· rfl); (· rfl); (· exact sv); (· exact nB)) | ((with_reducible apply aw_condN); (· exact sv))); (· exact pN); (· exact pN); all_goals (intro hg; try (exfalso; omega)))
 | ((with_reducible apply retQ_mk); (· exact rI); (· exact sv); (· exact sv); rotate_left; (· rfl)))
    all_goals exact tp_mk (b := 2) rfl (by omega)
  | false =>
    rw [hsp] at c2
    rw [if_pos (dol_start hdol hsp h123 h40)]
    have c3 := rname_ab s (a + 1) (a + 1) (by omega) (by omega) hs
    rw [dropc ha1] at c3
    have hw := wordN_le (s[a + 1] :: s.drop (a + 2))
    refine Fn_of_aw (keep := []) Tryz.func121 rfl rfl (by simp [Tryz.ntmps121]) ?_
    simp only [num_cons, num_nil, Tryz.ntmps121, Tryz.results121]
    repeat' (first
 | ((with_reducible apply awO_ev); (· rfl); (· exact sv))
 | ((with_reducible apply aw_seq); intro _ _)
 | (with_reducible apply aw_region)
 | (with_reducible apply aw_block)
 | ((with_reducible first | apply awO_nil | apply aw_exit | apply aw_skip | apply aw_ret); (try simp only [CT, ↓reduceIte, Nat.reduceEqDiff]))
 | ((with_reducible apply awO_n); (· rfl); (· rfl); (· decide); (· exact sv); (· rfl); (· rfl); (· decide))
 | ((with_reducible apply aw_cond_false); (· exact sv))
 | (refine Kont.go ‹Kont _ _ _ _› _ ?_)
 | ((with_reducible apply awO_c); (· rfl); (· rfl); (· exact sv); (· (first | with_reducible exact c2 | with_reducible exact c3)); (· rfl); (· rfl); (· rfl); (· decide))
 | ((first | ((with_reducible apply awO_guardN); (· rfl); (· rfl); (· exact sv); (· exact nB)) | ((with_reducible apply aw_condN); (· exact sv))); (· exact pN); (· exact pN); all_goals (intro hg; try (exfalso; omega)))
 | ((with_reducible apply retQ_mk); (· exact rI); (· exact sv); (· exact sv); rotate_left; (· rfl)))
    all_goals exact tp_mk rfl (by omega)
end
theorem PASH_zero : PASH 0 := fun s i z y pl hs hz hy hpl hi hn => by omega
theorem PASH_succ {n : Nat} (H : PASH n) : PASH (n + 1) := by
  intro s a z y pl hs hz hy hpl ha hn
  subst hz; subst hy
  by_cases h92 : s[a].toNat = 92
  · have hb : begB (s[a] :: s.drop (a + 1)) = true := by simp only [begB, Bool.or_eq_true, decide_eq_true_eq]; exact .inl (.inl h92)
    rw [dropc ha, pas_con (.inr (by omega)) hb, con_92 h92, List.length_drop]
    by_cases h1 : a + 1 = s.length
    · rw [if_pos (by omega)]
      refine Fn_of_aw (keep := []) Tryz.func85 rfl rfl (by simp [Tryz.ntmps85]) ?_
      simp only [num_cons, num_nil, Tryz.ntmps85, Tryz.results85]
      repeat' (first
 | ((with_reducible apply awO_ev); (· rfl); (· exact sv))
 | ((with_reducible apply aw_seq); intro _ _)
 | (with_reducible apply aw_region)
 | (with_reducible apply aw_block)
 | ((with_reducible first | apply awO_nil | apply aw_exit | apply aw_skip | apply aw_ret); (try simp only [CT, ↓reduceIte, Nat.reduceEqDiff]))
 | ((with_reducible apply awO_y); (· rfl); (· rfl); (· decide); (· exact sv); (· exact sv))
 | (refine Kont.go ‹Kont _ _ _ _› _ ?_)
 | ((first | ((with_reducible apply awO_guardN); (· rfl); (· rfl); (· exact sv); (· exact nB)) | ((with_reducible apply aw_condN); (· exact sv))); (· exact pN); (· exact pN); all_goals (intro hg; try (exfalso; omega)))
 | ((with_reducible apply retQ_mk); (· exact rI); (· exact sv); (· exact sv); rotate_left; (· rfl)))
      all_goals exact tp_mk (b := 0) rfl (by omega)
    · rw [if_neg (by omega)]
      refine Fn_of_aw (keep := []) Tryz.func85 rfl rfl (by simp [Tryz.ntmps85]) ?_
      simp only [num_cons, num_nil, Tryz.ntmps85, Tryz.results85]
      repeat' (first
 | ((with_reducible apply awO_ev); (· rfl); (· exact sv))
 | ((with_reducible apply aw_seq); intro _ _)
 | (with_reducible apply aw_region)
 | (with_reducible apply aw_block)
 | ((with_reducible first | apply awO_nil | apply aw_exit | apply aw_skip | apply aw_ret); (try simp only [CT, ↓reduceIte, Nat.reduceEqDiff]))
 | ((with_reducible apply awO_y); (· rfl); (· rfl); (· decide); (· exact sv); (· exact sv))
 | (refine Kont.go ‹Kont _ _ _ _› _ ?_)
 | ((first | ((with_reducible apply awO_guardN); (· rfl); (· rfl); (· exact sv); (· exact nB)) | ((with_reducible apply aw_condN); (· exact sv))); (· exact pN); (· exact pN); all_goals (intro hg; try (exfalso; omega)))
 | ((with_reducible apply retQ_mk); (· exact rI); (· exact sv); (· exact sv); rotate_left; (· rfl)))
      all_goals exact tp_mk (b := 2) rfl (by omega)
  by_cases h96 : s[a].toNat = 96
  · have hb : begB (s[a] :: s.drop (a + 1)) = true := by simp only [begB, Bool.or_eq_true, decide_eq_true_eq]; omega
    rw [dropc ha, pas_con (.inr (by omega)) hb, con_96 h96]
    have c1 := rbackquoted_ab s a a rfl ha hs
    refine Fn_of_aw (keep := []) Tryz.func85 rfl rfl (by simp [Tryz.ntmps85]) ?_
    simp only [num_cons, num_nil, Tryz.ntmps85, Tryz.results85]
    repeat' (first
 | ((with_reducible apply awO_ev); (· rfl); (· exact sv))
 | ((with_reducible apply aw_seq); intro _ _)
 | (with_reducible apply aw_region)
 | (with_reducible apply aw_block)
 | ((with_reducible first | apply awO_nil | apply aw_exit | apply aw_skip | apply aw_ret); (try simp only [CT, ↓reduceIte, Nat.reduceEqDiff]))
 | ((with_reducible apply awO_n); (· rfl); (· rfl); (· decide); (· exact sv); (· rfl); (· rfl); (· decide))
 | ((with_reducible apply aw_cond_false); (· exact sv))
 | (refine Kont.go ‹Kont _ _ _ _› _ ?_)
 | ((with_reducible apply awO_c); (· rfl); (· rfl); (· exact sv); (· (first | with_reducible exact c1)); (· rfl); (· rfl); (· rfl); (· decide))
 | ((first | ((with_reducible apply awO_guardN); (· rfl); (· rfl); (· exact sv); (· exact nB)) | ((with_reducible apply aw_condN); (· exact sv))); (· exact pN); (· exact pN); all_goals (intro hg; try (exfalso; omega)))
 | ((with_reducible apply retQ_mk); (· exact rI); (· exact sv); (· exact sv); rotate_left; (· rfl)))
    all_goals rfl
  have c0 := rexp_ab s a a rfl ha hs
  have hex : expB (s.drop a) = (decide (s[a].toNat = 36) && dolB (s.drop (a + 1))) := by rw [dropc ha]; rfl
  rw [hex] at c0
  by_cases hx : s[a].toNat = 36 ∧ dolB (s.drop (a + 1)) = true
  · have hb : begB (s[a] :: s.drop (a + 1)) = true := by simp only [begB, Bool.or_eq_true, Bool.and_eq_true, decide_eq_true_eq]; exact .inr hx
    have c1 := rexpansion_ab H s a a pl pl hs rfl rfl hpl ha (by omega) hx.1 hx.2
    rw [decide_eq_true hx.1, hx.2] at c0
    rw [dropc ha] at c1 ⊢
    rw [pas_con (.inr (by omega)) hb]
    obtain ⟨h36, _⟩ := hx
    refine Fn_of_aw (keep := []) Tryz.func85 rfl rfl (by simp [Tryz.ntmps85]) ?_
    simp only [num_cons, num_nil, Tryz.ntmps85, Tryz.results85]
    repeat' (first
 | ((with_reducible apply awO_ev); (· rfl); (· exact sv))
 | ((with_reducible apply aw_seq); intro _ _)
 | (with_reducible apply aw_region)
 | (with_reducible apply aw_block)
 | ((with_reducible first | apply awO_nil | apply aw_exit | apply aw_skip | apply aw_ret); (try simp only [CT, ↓reduceIte, Nat.reduceEqDiff]))
 | ((with_reducible apply awO_n); (· rfl); (· rfl); (· decide); (· exact sv); (· rfl); (· rfl); (· decide))
 | ((with_reducible apply aw_cond_true); (· exact sv))
 | ((with_reducible apply aw_cond_false); (· exact sv))
 | (refine Kont.go ‹Kont _ _ _ _› _ ?_)
 | ((with_reducible apply awO_c); (· rfl); (· rfl); (· exact sv); (· (first | with_reducible exact c0 | with_reducible exact c1)); (· rfl); (· rfl); (· rfl); (· decide))
 | ((first | ((with_reducible apply awO_guardN); (· rfl); (· rfl); (· exact sv); (· exact nB)) | ((with_reducible apply aw_condN); (· exact sv))); (· exact pN); (· exact pN); all_goals (intro hg; try (exfalso; omega)))
 | ((with_reducible apply retQ_mk); (· exact rI); (· exact sv); (· exact sv); rotate_left; (· rfl)))
    all_goals rfl
  have hx0 : (decide (s[a].toNat = 36) && dolB (s.drop (a + 1))) = false := by
    rw [Bool.eq_false_iff]
    simp only [ne_eq, Bool.and_eq_true, decide_eq_true_eq]
    exact hx
  rw [hx0] at c0
  rw [dropc ha]
  by_cases h39 : s[a].toNat = 39
  · by_cases h0 : pl = 0
    · subst h0
      have hb : begB (s[a] :: s.drop (a + 1)) = true := by simp only [begB, Bool.or_eq_true, decide_eq_true_eq]; omega
      rw [pas_con (.inl rfl) hb, con_39 h39]
      have c1 := rsingle_ab s a a rfl ha hs
      refine Fn_of_aw (keep := []) Tryz.func85 rfl rfl (by simp [Tryz.ntmps85]) ?_
      simp only [num_cons, num_nil, Tryz.ntmps85, Tryz.results85]
      repeat' (first
 | ((with_reducible apply awO_ev); (· rfl); (· exact sv))
 | ((with_reducible apply aw_seq); intro _ _)
 | (with_reducible apply aw_region)
 | (with_reducible apply aw_block)
 | ((with_reducible first | apply awO_nil | apply aw_exit | apply aw_skip | apply aw_ret); (try simp only [CT, ↓reduceIte, Nat.reduceEqDiff]))
 | ((with_reducible apply awO_y); (· rfl); (· rfl); (· decide); (· exact sv); (· exact sv))
 | ((with_reducible apply awO_n); (· rfl); (· rfl); (· decide); (· exact sv); (· rfl); (· rfl); (· decide))
 | ((with_reducible apply aw_cond_true); (· exact sv))
 | ((with_reducible apply aw_cond_false); (· exact sv))
 | (refine Kont.go ‹Kont _ _ _ _› _ ?_)
 | ((with_reducible apply awO_c); (· rfl); (· rfl); (· exact sv); (· (first | with_reducible exact c0 | with_reducible exact c1)); (· rfl); (· rfl); (· rfl); (· decide))
 | ((first | ((with_reducible apply awO_guardN); (· rfl); (· rfl); (· exact sv); (· exact nB)) | ((with_reducible apply aw_condN); (· exact sv))); (· exact pN); (· exact pN); all_goals (intro hg; try (exfalso; omega)))
 | ((with_reducible apply retQ_mk); (· exact rI); (· exact sv); (· exact sv); rotate_left; (· rfl)))
      all_goals rfl
    · rw [pas_one (.inl ⟨h0, .inl h39⟩)]
      refine Fn_of_aw (keep := []) Tryz.func85 rfl rfl (by simp [Tryz.ntmps85]) ?_
      simp only [num_cons, num_nil, Tryz.ntmps85, Tryz.results85]
      repeat' (first
 | ((with_reducible apply awO_ev); (· rfl); (· exact sv))
 | ((with_reducible apply aw_seq); intro _ _)
 | (with_reducible apply aw_region)
 | (with_reducible apply aw_block)
 | ((with_reducible first | apply awO_nil | apply aw_exit | apply aw_skip | apply aw_ret); (try simp only [CT, ↓reduceIte, Nat.reduceEqDiff]))
 | ((with_reducible apply awO_y); (· rfl); (· rfl); (· decide); (· exact sv); (· exact sv))
 | ((with_reducible apply awO_n); (· rfl); (· rfl); (· decide); (· exact sv); (· rfl); (· rfl); (· decide))
 | ((with_reducible apply aw_cond_false); (· exact sv))
 | (refine Kont.go ‹Kont _ _ _ _› _ ?_)
 | ((with_reducible apply awO_c); (· rfl); (· rfl); (· exact sv); (· (first | with_reducible exact c0)); (· rfl); (· rfl); (· rfl); (· decide))
 | ((first | ((with_reducible apply awO_guardN); (· rfl); (· rfl); (· exact sv); (· exact nB)) | ((with_reducible apply aw_condN); (· exact sv))); (· exact pN); (· exact pN); all_goals (intro hg; try (exfalso; omega)))
 | ((with_reducible apply retQ_mk); (· exact rI); (· exact sv); (· exact sv); rotate_left; (· rfl)))
      all_goals exact tp_mk (b := 1) rfl (by omega)
  by_cases h34 : s[a].toNat = 34
  · by_cases h0 : pl = 0
    · subst h0
      have hb : begB (s[a] :: s.drop (a + 1)) = true := by simp only [begB, Bool.or_eq_true, decide_eq_true_eq]; omega
      rw [pas_con (.inl rfl) hb, con_34 h34]
      have c1 := rdouble_ab H s a a hs rfl ha (by omega)
      refine Fn_of_aw (keep := []) Tryz.func85 rfl rfl (by simp [Tryz.ntmps85]) ?_
      simp only [num_cons, num_nil, Tryz.ntmps85, Tryz.results85]
      repeat' (first
 | ((with_reducible apply awO_ev); (· rfl); (· exact sv))
 | ((with_reducible apply aw_seq); intro _ _)
 | (with_reducible apply aw_region)
 | (with_reducible apply aw_block)
 | ((with_reducible first | apply awO_nil | apply aw_exit | apply aw_skip | apply aw_ret); (try simp only [CT, ↓reduceIte, Nat.reduceEqDiff]))
 | ((with_reducible apply awO_y); (· rfl); (· rfl); (· decide); (· exact sv); (· exact sv))
 | ((with_reducible apply awO_n); (· rfl); (· rfl); (· decide); (· exact sv); (· rfl); (· rfl); (· decide))
 | ((with_reducible apply aw_cond_true); (· exact sv))
 | ((with_reducible apply aw_cond_false); (· exact sv))
 | (refine Kont.go ‹Kont _ _ _ _› _ ?_)
 | ((with_reducible apply awO_c); (· rfl); (· rfl); (· exact sv); (· (first | with_reducible exact c0 | with_reducible exact c1)); (· rfl); (· rfl); (· rfl); (· decide))
 | ((first | ((with_reducible apply awO_guardN); (· rfl); (· rfl); (· exact sv); (· exact nB)) | ((with_reducible apply aw_condN); (· exact sv))); (· exact pN); (· exact pN); all_goals (intro hg; try (exfalso; omega)))
 | ((with_reducible apply retQ_mk); (· exact rI); (· exact sv); (· exact sv); rotate_left; (· rfl)))
      all_goals rfl
    · rw [pas_one (.inl ⟨h0, .inr h34⟩)]
      refine Fn_of_aw (keep := []) Tryz.func85 rfl rfl (by simp [Tryz.ntmps85]) ?_
      simp only [num_cons, num_nil, Tryz.ntmps85, Tryz.results85]
      repeat' (first
 | ((with_reducible apply awO_ev); (· rfl); (· exact sv))
 | ((with_reducible apply aw_seq); intro _ _)
 | (with_reducible apply aw_region)
 | (with_reducible apply aw_block)
 | ((with_reducible first | apply awO_nil | apply aw_exit | apply aw_skip | apply aw_ret); (try simp only [CT, ↓reduceIte, Nat.reduceEqDiff]))
 | ((with_reducible apply awO_y); (· rfl); (· rfl); (· decide); (· exact sv); (· exact sv))
 | ((with_reducible apply awO_n); (· rfl); (· rfl); (· decide); (· exact sv); (· rfl); (· rfl); (· decide))
 | ((with_reducible apply aw_cond_false); (· exact sv))
 | (refine Kont.go ‹Kont _ _ _ _› _ ?_)
 | ((with_reducible apply awO_c); (· rfl); (· rfl); (· exact sv); (· (first | with_reducible exact c0)); (· rfl); (· rfl); (· rfl); (· decide))
 | ((first | ((with_reducible apply awO_guardN); (· rfl); (· rfl); (· exact sv); (· exact nB)) | ((with_reducible apply aw_condN); (· exact sv))); (· exact pN); (· exact pN); all_goals (intro hg; try (exfalso; omega)))
 | ((with_reducible apply retQ_mk); (· exact rI); (· exact sv); (· exact sv); rotate_left; (· rfl)))
      all_goals exact tp_mk (b := 1) rfl (by omega)
  have hb : begB (s[a] :: s.drop (a + 1)) = false := by
    rw [Bool.eq_false_iff]
    simp only [begB, ne_eq, Bool.or_eq_true, decide_eq_true_eq, hx0, Bool.false_eq_true, or_false]
    omega
  rw [pas_one (.inr hb)]
  refine Fn_of_aw (keep := []) Tryz.func85 rfl rfl (by simp [Tryz.ntmps85]) ?_
  simp only [num_cons, num_nil, Tryz.ntmps85, Tryz.results85]
  repeat' (first
 | ((with_reducible apply awO_ev); (· rfl); (· exact sv))
 | ((with_reducible apply aw_seq); intro _ _)
 | (with_reducible apply aw_region)
 | (with_reducible apply aw_block)
 | ((with_reducible first | apply awO_nil | apply aw_exit | apply aw_skip | apply aw_ret); (try simp only [CT, ↓reduceIte, Nat.reduceEqDiff]))
 | ((with_reducible apply awO_n); (· rfl); (· rfl); (· decide); (· exact sv); (· rfl); (· rfl); (· decide))
 | ((with_reducible apply aw_cond_false); (· exact sv))
 | (refine Kont.go ‹Kont _ _ _ _› _ ?_)
 | ((with_reducible apply awO_c); (· rfl); (· rfl); (· exact sv); (· (first | with_reducible exact c0)); (· rfl); (· rfl); (· rfl); (· decide))
 | ((first | ((with_reducible apply awO_guardN); (· rfl); (· rfl); (· exact sv); (· exact nB)) | ((with_reducible apply aw_condN); (· exact sv))); (· exact pN); (· exact pN); all_goals (intro hg; try (exfalso; omega)))
 | ((with_reducible apply retQ_mk); (· exact rI); (· exact sv); (· exact sv); rotate_left; (· rfl)))
  all_goals exact tp_mk (b := 1) rfl (by omega)
theorem PASH_all : ∀ n, PASH n
  | 0 => PASH_zero
  | n + 1 => PASH_succ (PASH_all n)
theorem pass_ab (s : List UInt8) (i : Nat) (z : Int) (hz : z = i) (hi : i < s.length) (hs : s.length ≤ 1000000) : Ab Tryz.prog 85 [az s, ai z, ai 0] (tpr i (pas (s.drop i) 0)) :=
  PASH_all _ s i z 0 0 hs hz rfl (by omega) hi (Nat.le_refl _)
end Go.Proofs.YtgbhjlkenfmadaaGreatDoor
