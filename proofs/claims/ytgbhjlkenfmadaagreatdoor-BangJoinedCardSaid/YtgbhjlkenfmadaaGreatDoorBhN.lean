/- The law BangJoined, on the abstract machine. -/
import Derived.Test.YtgbhjlkenfmadaaGreatDoorLxW
import Derived.Test.YtgbhjlkenfmadaaGreatDoorBhL
import Derived.Test.YtgbhjlkenfmadaaGreatDoorBhM
namespace Go.Proofs.YtgbhjlkenfmadaaGreatDoor
open Go.RowKit
set_option linter.unusedVariables false
set_option linter.unusedSimpArgs false
set_option maxRecDepth 100000
set_option maxHeartbeats 8000000
theorem bangJoined_ab (s : List UInt8) (hs : s.length ≤ 9000000000000000) : Ab Tryz.prog 5 [az s] (ab true) := by
  by_cases h1 : 300 < s.length
  · skip
    refine Fn_of_aw (keep := []) Tryz.func5 rfl rfl (by simp [Tryz.ntmps5]) ?_
    simp only [num_cons, num_nil, Tryz.ntmps5, Tryz.results5]
    repeat' (first
 | ((with_reducible apply awO_ev); (· rfl); (· exact sv))
 | ((with_reducible apply aw_seq); intro _ _)
 | (with_reducible apply aw_region)
 | ((with_reducible first | apply awO_nil | apply aw_exit | apply aw_skip | apply aw_ret); (try simp only [CT, ↓reduceIte, Nat.reduceEqDiff]))
 | ((with_reducible apply awO_n); (· rfl); (· rfl); (· decide); (· exact sv); (· rfl); (· rfl); (· decide))
 | ((with_reducible apply aw_cond_true); (· exact sv))
 | (refine Kont.go ‹Kont _ _ _ _› _ ?_)
 | ((with_reducible apply awO_c); (· rfl); (· rfl); (· exact sv); (· (first | with_reducible exact awake4_ab)); (· rfl); (· rfl); (· rfl); (· decide))
 | ((first | ((with_reducible apply awO_guardN); (· rfl); (· rfl); (· exact sv); (· exact nB)) | ((with_reducible apply aw_condN); (· exact sv))); (· exact pN); (· exact pN); all_goals (intro hg; try (exfalso; omega)))
 | ((with_reducible apply retQ_mk); (· exact rI); (· exact sv); (· exact sv); rotate_left; (· rfl)))
    all_goals rfl
  have c1 := has_ab4 s 35 hs
  have c2 := has_ab4 s 10 hs
  cases h35 : s.contains 35 with
  | true =>
    rw [h35] at c1
    refine Fn_of_aw (keep := []) Tryz.func5 rfl rfl (by simp [Tryz.ntmps5]) ?_
    simp only [num_cons, num_nil, Tryz.ntmps5, Tryz.results5]
    repeat' (first
 | ((with_reducible apply awO_ev); (· rfl); (· exact sv))
 | ((with_reducible apply aw_seq); intro _ _)
 | (with_reducible apply aw_region)
 | ((with_reducible first | apply awO_nil | apply aw_exit | apply aw_skip | apply aw_ret); (try simp only [CT, ↓reduceIte, Nat.reduceEqDiff]))
 | ((with_reducible apply awO_y); (· rfl); (· rfl); (· decide); (· exact sv); (· exact sv))
 | ((with_reducible apply awO_n); (· rfl); (· rfl); (· decide); (· exact sv); (· rfl); (· rfl); (· decide))
 | ((with_reducible apply aw_cond_true); (· exact sv))
 | ((with_reducible apply awO_un); (· rfl); (· decide); (· exact sv))
 | (refine Kont.go ‹Kont _ _ _ _› _ ?_)
 | ((with_reducible apply awO_c); (· rfl); (· rfl); (· exact sv); (· (first | exact c1 | with_reducible exact awake4_ab)); (· rfl); (· rfl); (· rfl); (· decide))
 | ((first | ((with_reducible apply awO_guardN); (· rfl); (· rfl); (· exact sv); (· exact nB)) | ((with_reducible apply aw_condN); (· exact sv))); (· exact pN); (· exact pN); all_goals (intro hg; try (exfalso; omega)))
 | ((with_reducible apply retQ_mk); (· exact rI); (· exact sv); (· exact sv); rotate_left; (· rfl)))
    all_goals rfl
  | false =>
    rw [h35] at c1
    cases h10 : s.contains 10 with
    | true =>
      rw [h10] at c2
      refine Fn_of_aw (keep := []) Tryz.func5 rfl rfl (by simp [Tryz.ntmps5]) ?_
      simp only [num_cons, num_nil, Tryz.ntmps5, Tryz.results5]
      repeat' (first
 | ((with_reducible apply awO_ev); (· rfl); (· exact sv))
 | ((with_reducible apply aw_seq); intro _ _)
 | (with_reducible apply aw_region)
 | ((with_reducible first | apply awO_nil | apply aw_exit | apply aw_skip | apply aw_ret); (try simp only [CT, ↓reduceIte, Nat.reduceEqDiff]))
 | ((with_reducible apply awO_y); (· rfl); (· rfl); (· decide); (· exact sv); (· exact sv))
 | ((with_reducible apply aw_cond_true); (· exact sv))
 | ((with_reducible apply awO_un); (· rfl); (· decide); (· exact sv))
 | (refine Kont.go ‹Kont _ _ _ _› _ ?_)
 | ((with_reducible apply awO_c); (· rfl); (· rfl); (· exact sv); (· (first | exact c1 | exact c2 | with_reducible exact awake4_ab)); (· rfl); (· rfl); (· rfl); (· decide))
 | ((first | ((with_reducible apply awO_guardN); (· rfl); (· rfl); (· exact sv); (· exact nB)) | ((with_reducible apply aw_condN); (· exact sv))); (· exact pN); (· exact pN); all_goals (intro hg; try (exfalso; omega)))
 | ((with_reducible apply retQ_mk); (· exact rI); (· exact sv); (· exact sv); rotate_left; (· rfl)))
      all_goals rfl
    | false =>
      rw [h10] at c2
      have hc : ∀ c ∈ s, c.toNat ≠ 35 ∧ c.toNat ≠ 10 := fun c hm => by
        refine ⟨fun h => ?_, fun h => ?_⟩
        · have h : c = 35 := UInt8.toNat_inj.1 h
          subst h
          rw [List.contains_iff_mem.2 hm] at h35; cases h35
        · have h : c = 10 := UInt8.toNat_inj.1 h
          subst h
          rw [List.contains_iff_mem.2 hm] at h10; cases h10
      have c3 := rall_ab s (by omega)
      have hj := words_join (s := s) (by omega) hc
      have c4 := words_ab s (by omega)
      have htot := words_tot s
      have hn := words_ok.num s
      unfold allA at c3
      by_cases he : (allF s).2.2 = 0
      rotate_left
      · rw [if_neg he] at c3
        clear hj
        generalize allF s = A at *
        obtain ⟨T, p, e⟩ := A
        simp only at c3 he
        refine Fn_of_aw (keep := []) Tryz.func5 rfl rfl (by simp [Tryz.ntmps5]) ?_
        simp only [num_cons, num_nil, Tryz.ntmps5, Tryz.results5]
        repeat' (first
 | ((with_reducible apply awO_ev); (· rfl); (· exact sv))
 | ((with_reducible apply aw_seq); intro _ _)
 | (with_reducible apply aw_region)
 | ((with_reducible first | apply awO_nil | apply aw_exit | apply aw_skip | apply aw_ret); (try simp only [CT, ↓reduceIte, Nat.reduceEqDiff]))
 | ((with_reducible apply awO_y); (· rfl); (· rfl); (· decide); (· exact sv); (· exact sv))
 | ((with_reducible apply aw_cond_false); (· exact sv))
 | ((with_reducible apply awO_un); (· rfl); (· decide); (· exact sv))
 | (refine Kont.go ‹Kont _ _ _ _› _ ?_)
 | ((with_reducible apply awO_c); (· rfl); (· rfl); (· exact sv); (· (first | exact c1 | exact c2 | exact c3 | with_reducible exact awake4_ab)); (· rfl); (· rfl); (· rfl); (· decide))
 | ((first | ((with_reducible apply awO_guardN); (· rfl); (· rfl); (· exact sv); (· exact nB)) | ((with_reducible apply aw_condN); (· exact sv))); (· exact pN); (· exact pN); all_goals (intro hg; try (exfalso; omega)))
 | ((with_reducible apply retQ_mk); (· exact rI); (· exact sv); (· exact sv); rotate_left; (· rfl)))
        all_goals first | rfl | (exfalso; exact hg rfl)
      have hj := hj he
      rw [if_pos he, he] at c3
      generalize (allF s).1 = T at *
      generalize (allF s).2.1 = p at *
      generalize wordsF s = W at *
      have hjt := jnB_tot W
      have c5 := words_ab (jnB W) (by omega)
      rw [hj] at c5
      have c6 := texts_one W (by omega)
      refine Fn_of_aw (keep := []) Tryz.func5 rfl rfl (by simp [Tryz.ntmps5]) ?_
      simp only [num_cons, num_nil, Tryz.ntmps5, Tryz.results5]
      repeat' (first
 | ((with_reducible apply awO_ev); (· rfl); (· exact sv))
 | ((with_reducible apply aw_seq); intro _ _)
 | (with_reducible apply aw_region)
 | (with_reducible apply aw_block)
 | ((with_reducible first | apply awO_nil | apply aw_exit | apply aw_skip | apply aw_ret); (try simp only [CT, ↓reduceIte, Nat.reduceEqDiff]))
 | ((with_reducible apply awO_y); (· rfl); (· rfl); (· decide); (· exact sv); (· exact sv))
 | ((with_reducible apply aw_cond_false); (· exact sv))
 | ((with_reducible apply awO_un); (· rfl); (· decide); (· exact sv))
 | (refine Kont.go ‹Kont _ _ _ _› _ ?_)
 | ((with_reducible apply awO_c); (· rfl); (· rfl); (· exact sv); (· (first | exact c1 | exact c2 | exact c3 | exact c4)); (· rfl); (· rfl); (· rfl); (· decide))
 | ((first | ((with_reducible apply awO_guardN); (· rfl); (· rfl); (· exact sv); (· exact nB)) | ((with_reducible apply aw_condN); (· exact sv))); (· exact pN); (· exact pN); all_goals (intro hg; try (exfalso; omega))))
      refine aw_loopF (fun x : Nat × List UInt8 => [(8, ai (x.1 : Nat)), (7, az x.2)]) (fun _ => []) (fun x => x.1 ≤ W.length ∧ x.2 = jnB (W.take x.1)) (fun x => W.length - x.1) (0, []) ⟨by omega, rfl⟩ ?_ ?_ ?_
      · exact ⟨rfl, rfl, trivial⟩
      · exact trivial
      rintro ⟨i, A⟩ ⟨hi, hA⟩
      simp only at hi hA
      have hjl : A.length ≤ totW W := by
        rw [hA]
        exact Nat.le_trans (jnB_tot _) (totW_sub (List.take_sublist i W))
      (simp only [LP, List.append_assoc, List.nil_append, List.cons_append, List.append_nil, List.contains_cons, List.contains_nil, Nat.reduceBEq, Bool.or_false, Bool.or_true, Bool.true_or, Bool.false_or, ↓reduceIte, Bool.false_eq_true])
      by_cases hil : i < W.length
      · have e1 := jn_all hil
        rw [← hA] at e1
        have hwl : W[i].length ≤ totW W := by
          have := totW_sub (List.singleton_sublist.2 (List.getElem_mem hil))
          simp only [totW_cons] at this
          omega
        by_cases k0 : i = 0
        · subst k0
          rw [if_pos rfl] at e1
          obtain rfl : A = [] := by rw [hA]; rfl
          repeat' (first
 | ((with_reducible apply awO_ev); (· rfl); (· exact sv))
 | ((with_reducible apply aw_seq); intro _ _)
 | (with_reducible apply aw_region)
 | (with_reducible apply aw_block)
 | ((with_reducible first | apply awO_nil | apply aw_exit | apply aw_skip | apply aw_ret); (try simp only [CT, ↓reduceIte, Nat.reduceEqDiff]))
 | ((with_reducible apply aw_cond_false); (· exact sv))
 | (refine Kont.go ‹Kont _ _ _ _› _ ?_)
 | ((first | ((with_reducible apply awO_guardN); (· rfl); (· rfl); (· exact sv); (· exact nB)) | ((with_reducible apply aw_condN); (· exact sv))); (· exact pN); (· exact pN); all_goals (intro hg; try (exfalso; omega))))
          all_goals refine LE_mk (1, W[0]) ⟨hil, e1.symm⟩ (by simp only; omega) sN sN trivial
        · rw [if_neg k0] at e1
          repeat' (first
 | ((with_reducible apply awO_ev); (· rfl); (· exact sv))
 | ((with_reducible apply aw_seq); intro _ _)
 | (with_reducible apply aw_region)
 | (with_reducible apply aw_block)
 | ((with_reducible first | apply awO_nil | apply aw_exit | apply aw_skip | apply aw_ret); (try simp only [CT, ↓reduceIte, Nat.reduceEqDiff]))
 | (refine Kont.go ‹Kont _ _ _ _› _ ?_)
 | ((first | ((with_reducible apply awO_guardN); (· rfl); (· rfl); (· exact sv); (· exact nB)) | ((with_reducible apply aw_condN); (· exact sv))); (· exact pN); (· exact pN); all_goals (intro hg; try (exfalso; omega))))
          all_goals refine LE_mk (i + 1, A ++ [32] ++ W[i]) ⟨hil, e1.symm⟩ (by simp only; omega) sN sN trivial
      · obtain rfl : A = jnB W := by rw [hA, List.take_of_length_le (by omega)]
        repeat' (first
 | ((with_reducible apply awO_ev); (· rfl); (· exact sv))
 | ((with_reducible apply aw_seq); intro _ _)
 | (with_reducible apply aw_region)
 | ((with_reducible first | apply awO_nil | apply aw_exit | apply aw_skip | apply aw_ret); (try simp only [CT, ↓reduceIte, Nat.reduceEqDiff]))
 | ((with_reducible apply awO_un); (· rfl); (· decide); (· exact sv))
 | (refine Kont.go ‹Kont _ _ _ _› _ ?_)
 | ((with_reducible apply awO_c); (· rfl); (· rfl); (· exact sv); (· (first | exact c5 | exact c6 | with_reducible exact awake4_ab)); (· rfl); (· rfl); (· rfl); (· decide))
 | ((first | ((with_reducible apply awO_guardN); (· rfl); (· rfl); (· exact sv); (· exact nB)) | ((with_reducible apply aw_condN); (· exact sv))); (· exact pN); (· exact pN); all_goals (intro hg; try (exfalso; omega)))
 | ((with_reducible apply retQ_mk); (· exact rI); (· exact sv); (· exact sv); rotate_left; (· rfl)))
        all_goals rfl
end Go.Proofs.YtgbhjlkenfmadaaGreatDoor
