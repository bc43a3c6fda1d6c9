/- The law BangExpands, on the abstract machine. -/
import Derived.Test.YtgbhjlkenfmadaaGreatDoorBhK
import Derived.Test.YtgbhjlkenfmadaaGreatDoorBgS
namespace Go.Proofs.YtgbhjlkenfmadaaGreatDoor
open Go.RowKit
set_option linter.unusedVariables false
set_option linter.unusedSimpArgs false
set_option maxRecDepth 100000
set_option maxHeartbeats 8000000
theorem bangExpands_ab (F : Int) (L : List (List UInt8)) (s : List UInt8) (hL : L.length ≤ 9000000000000000) (hl : ∀ l ∈ L, l.length ≤ 9000000000000000) (hs : s.length ≤ 9000000000000000) : Ab Tryz.prog 4 [hsA F L, az s] (ab true) := by
  have c1 := ok_ab F L hL hl
  cases ho : okH F L with
  | false =>
    rw [ho] at c1
    refine Fn_of_aw (keep := []) Tryz.func4 rfl rfl (by simp [Tryz.ntmps4]) ?_
    simp only [num_cons, num_nil, Tryz.ntmps4, Tryz.results4]
    repeat' (first
 | ((with_reducible apply awO_ev); (· rfl); (· exact sv))
 | ((with_reducible apply aw_seq); intro _ _)
 | (with_reducible apply aw_region)
 | ((with_reducible first | apply awO_nil | apply aw_exit | apply aw_skip | apply aw_ret); (try simp only [CT, ↓reduceIte, Nat.reduceEqDiff]))
 | ((with_reducible apply awO_n); (· rfl); (· rfl); (· decide); (· exact sv); (· rfl); (· rfl); (· decide))
 | ((with_reducible apply aw_cond_true); (· exact sv))
 | (refine Kont.go ‹Kont _ _ _ _› _ ?_)
 | ((with_reducible apply awO_c); (· rfl); (· rfl); (· exact sv); (· (first | exact c1 | with_reducible exact awake4_ab)); (· rfl); (· rfl); (· rfl); (· decide))
 | ((with_reducible apply retQ_mk); (· exact rI); (· exact sv); (· exact sv); rotate_left; (· rfl)))
    all_goals rfl
  | true =>
    rw [ho] at c1
    obtain ⟨o1, o2, o3⟩ := okH_ok ho
    by_cases h1 : 600 < s.length
    · skip
      refine Fn_of_aw (keep := []) Tryz.func4 rfl rfl (by simp [Tryz.ntmps4]) ?_
      simp only [num_cons, num_nil, Tryz.ntmps4, Tryz.results4]
      repeat' (first
 | ((with_reducible apply awO_ev); (· rfl); (· exact sv))
 | ((with_reducible apply aw_seq); intro _ _)
 | (with_reducible apply aw_region)
 | ((with_reducible first | apply awO_nil | apply aw_exit | apply aw_skip | apply aw_ret); (try simp only [CT, ↓reduceIte, Nat.reduceEqDiff]))
 | ((with_reducible apply awO_y); (· rfl); (· rfl); (· decide); (· exact sv); (· exact sv))
 | (refine Kont.go ‹Kont _ _ _ _› _ ?_)
 | ((with_reducible apply awO_c); (· rfl); (· rfl); (· exact sv); (· (first | exact c1 | with_reducible exact awake4_ab)); (· rfl); (· rfl); (· rfl); (· decide))
 | ((first | ((with_reducible apply awO_guardN); (· rfl); (· rfl); (· exact sv); (· exact nB)) | ((with_reducible apply aw_condN); (· exact sv))); (· exact pN); (· exact pN); all_goals (intro hg; try (exfalso; omega)))
 | ((with_reducible apply retQ_mk); (· exact rI); (· exact sv); (· exact sv); rotate_left; (· rfl)))
      all_goals rfl
    have c2 := expand_ab F L s (by omega) (by omega) o3 (by omega)
    have c3 := rExpand_ab F L s (by omega) (by omega) o3 (by omega)
    generalize expF wordsF F L s = r at *
    obtain ⟨t, b, e⟩ := r
    simp only at c2 c3
    cases b with
    | true =>
      refine Fn_of_aw (keep := []) Tryz.func4 rfl rfl (by simp [Tryz.ntmps4]) ?_
      simp only [num_cons, num_nil, Tryz.ntmps4, Tryz.results4]
      repeat' (first
 | ((with_reducible apply awO_ev); (· rfl); (· exact sv))
 | ((with_reducible apply aw_seq); intro _ _)
 | (with_reducible apply aw_region)
 | ((with_reducible first | apply awO_nil | apply aw_exit | apply aw_skip | apply aw_ret); (try simp only [CT, ↓reduceIte, Nat.reduceEqDiff]))
 | ((with_reducible apply awO_y); (· rfl); (· rfl); (· decide); (· exact sv); (· exact sv))
 | ((with_reducible apply awO_n); (· rfl); (· rfl); (· decide); (· exact sv); (· rfl); (· rfl); (· decide))
 | ((with_reducible apply awO_un); (· rfl); (· decide); (· exact sv))
 | (refine Kont.go ‹Kont _ _ _ _› _ ?_)
 | ((with_reducible apply awO_c); (· rfl); (· rfl); (· exact sv); (· (first | exact c1 | exact c2 | exact c3 | with_reducible exact awake4_ab)); (· rfl); (· rfl); (· rfl); (· decide))
 | ((first | ((with_reducible apply awO_guardN); (· rfl); (· rfl); (· exact sv); (· exact nB)) | ((with_reducible apply aw_condN); (· exact sv))); (· exact pN); (· exact pN); all_goals (intro hg; try (exfalso; omega)))
 | ((with_reducible apply retQ_mk); (· exact rI); (· exact sv); (· exact sv); rotate_left; (· rfl)))
      all_goals first | rfl | (exfalso; exact hg trivial) | (exfalso; exact hg rfl) | (exfalso; simp at hg; done)
    | false =>
      refine Fn_of_aw (keep := []) Tryz.func4 rfl rfl (by simp [Tryz.ntmps4]) ?_
      simp only [num_cons, num_nil, Tryz.ntmps4, Tryz.results4]
      repeat' (first
 | ((with_reducible apply awO_ev); (· rfl); (· exact sv))
 | ((with_reducible apply aw_seq); intro _ _)
 | (with_reducible apply aw_region)
 | ((with_reducible first | apply awO_nil | apply aw_exit | apply aw_skip | apply aw_ret); (try simp only [CT, ↓reduceIte, Nat.reduceEqDiff]))
 | ((with_reducible apply awO_y); (· rfl); (· rfl); (· decide); (· exact sv); (· exact sv))
 | ((with_reducible apply awO_n); (· rfl); (· rfl); (· decide); (· exact sv); (· rfl); (· rfl); (· decide))
 | ((with_reducible apply awO_un); (· rfl); (· decide); (· exact sv))
 | (refine Kont.go ‹Kont _ _ _ _› _ ?_)
 | ((with_reducible apply awO_c); (· rfl); (· rfl); (· exact sv); (· (first | exact c1 | exact c2 | exact c3 | with_reducible exact awake4_ab)); (· rfl); (· rfl); (· rfl); (· decide))
 | ((first | ((with_reducible apply awO_guardN); (· rfl); (· rfl); (· exact sv); (· exact nB)) | ((with_reducible apply aw_condN); (· exact sv))); (· exact pN); (· exact pN); all_goals (intro hg; try (exfalso; omega)))
 | ((with_reducible apply retQ_mk); (· exact rI); (· exact sv); (· exact sv); rotate_left; (· rfl)))
      all_goals first | rfl | (exfalso; exact hg trivial) | (exfalso; exact hg rfl) | (exfalso; simp at hg; done)
end Go.Proofs.YtgbhjlkenfmadaaGreatDoor
