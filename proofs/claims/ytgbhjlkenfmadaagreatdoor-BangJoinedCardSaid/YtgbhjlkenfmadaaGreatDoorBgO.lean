/- bang: event, on the abstract machine. -/
import Derived.Test.YtgbhjlkenfmadaaGreatDoorBgJ
import Derived.Test.YtgbhjlkenfmadaaGreatDoorBgM
import Derived.Test.YtgbhjlkenfmadaaGreatDoorBgN
namespace Go.Proofs.YtgbhjlkenfmadaaGreatDoor
open Go.RowKit
set_option linter.unusedVariables false
set_option linter.unusedSimpArgs false
set_option maxRecDepth 100000
set_option maxHeartbeats 8000000
section
variable (F : Int) (L : List (List UInt8)) (s : List UInt8)
theorem event_fn (i : Nat) (z : Int) (sh : Bool) (hz : z = i) (hi : i < s.length) (hs : s.length ≤ 4096) (hF : 1 ≤ F ∧ F ≤ 2147483647) (hL : L.length ≤ 100000) (hl : ∀ l ∈ L, l.length ≤ 4096) (hp : (trB (atB s i) && !evB (atB s i)) = false) :
    ∃ b, Fn Tryz.prog 38 [.pt 7 0, ai z] (xH F L s sh) (.tp [az (evA wordsF F L s i sh).1, ai ((evA wordsF F L s i sh).2.1 : Nat), ai (evA wordsF F L s i sh).2.2.2]) (xH F L s b) [7] ∧ ((evA wordsF F L s i sh).2.2.2 = 0 → b = (evA wordsF F L s i sh).2.2.1) := by
  subst hz
  obtain ⟨j, c1, hj⟩ := line_fn F L s sh i i rfl hi hs hF hL hl hp
  have hok := evtF_ok (F := F) (L := L) (s := s) (a := i)
  have hE : evA wordsF F L s i sh = if (evtF F L s i).2.2 ≠ 0 then ([], 0, false, (evtF F L s i).2.2)
      else if (choF wordsF (evtF F L s i).1 s (evtF F L s i).2.1).2.2 ≠ 0 then ([], 0, false, (choF wordsF (evtF F L s i).1 s (evtF F L s i).2.1).2.2)
      else modT s (choF wordsF (evtF F L s i).1 s (evtF F L s i).2.1).1 (choF wordsF (evtF F L s i).1 s (evtF F L s i).2.1).2.1 sh := rfl
  generalize evA wordsF F L s i sh = R at *
  generalize evtF F L s i = v at *
  obtain ⟨vt, vk, ve⟩ := v
  simp only at c1 hj hok hE
  by_cases h1 : ve = 0
  · obtain ⟨g1, g2, g3⟩ := hok h1 (by omega)
    have hvl := hl vt g1
    rw [if_neg (by simpa using h1)] at hE
    have hj := hj h1
    subst hj
    have c2 := choose_fn F L s sh vt vk vk rfl g3 hs hvl
    have hco := choF_ok words_ok (line := vt) (s := s) (i := vk) g3 hvl
    generalize choF wordsF vt s vk = q at *
    obtain ⟨qt, qk, qe⟩ := q
    simp only at c2 hE hco
    by_cases h2 : qe = 0
    · obtain ⟨k1, k2, k3⟩ := hco h2
      rw [if_neg (by simpa using h2)] at hE
      have c3 := modify_fn F L s qt qk qk sh rfl k2 hs k3
      rw [← hE] at c3
      refine ⟨modB s (s.length + 1) qt qk sh, ?_, fun h => ?_⟩
      rotate_left
      · rw [hE] at h ⊢
        exact modB_ok s _ _ _ _ h
      refine Fn_of_aw (keep := [7]) Tryz.func38 rfl rfl (by simp [Tryz.ntmps38]) ?_
      simp only [num_cons, num_nil, Tryz.ntmps38, Tryz.results38]
      repeat' (first
 | ((with_reducible apply awO_ev); (· rfl); (· exact sv))
 | ((with_reducible apply aw_seq); intro _ _)
 | (with_reducible apply aw_region)
 | ((with_reducible first | apply awO_nil | apply aw_exit | apply aw_skip | apply aw_ret); (try simp only [CT, ↓reduceIte, Nat.reduceEqDiff]))
 | (refine Kont.go ‹Kont _ _ _ _› _ ?_)
 | ((with_reducible apply awO_m); (· rfl); (· rfl); (· exact sv); (· (first | exact c1 | exact c2 | exact c3)); (· exact svq); (· exact svq); (· exact svq); (· exact svq); (· rfl); (· exact nd); (with_reducible apply awO_st); (· exact svs))
 | ((first | ((with_reducible apply awO_guardN); (· rfl); (· rfl); (· exact sv); (· exact nB)) | ((with_reducible apply aw_condN); (· exact sv))); (· exact pN); (· exact pN); all_goals (intro hg; try (exfalso; omega)))
 | ((try with_reducible apply wk_id); (with_reducible apply retQ_mk1); (· exact rI); (· exact sv); (· exact sv); (· exact sv); (· exact sv); rotate_left; rotate_left; (· simp); (· rfl)))
      all_goals rfl
    · rw [if_pos h2] at hE
      refine ⟨sh, ?_, fun h => by rw [hE] at h; exact absurd h h2⟩
      refine Fn_of_aw (keep := [7]) Tryz.func38 rfl rfl (by simp [Tryz.ntmps38]) ?_
      simp only [num_cons, num_nil, Tryz.ntmps38, Tryz.results38]
      repeat' (first
 | ((with_reducible apply awO_ev); (· rfl); (· exact sv))
 | ((with_reducible apply aw_seq); intro _ _)
 | (with_reducible apply aw_region)
 | ((with_reducible first | apply awO_nil | apply aw_exit | apply aw_skip | apply aw_ret); (try simp only [CT, ↓reduceIte, Nat.reduceEqDiff]))
 | (refine Kont.go ‹Kont _ _ _ _› _ ?_)
 | ((with_reducible apply awO_m); (· rfl); (· rfl); (· exact sv); (· (first | exact c1 | exact c2)); (· exact svq); (· exact svq); (· exact svq); (· exact svq); (· rfl); (· exact nd); (with_reducible apply awO_st); (· exact svs))
 | ((first | ((with_reducible apply awO_guardN); (· rfl); (· rfl); (· exact sv); (· exact nB)) | ((with_reducible apply aw_condN); (· exact sv))); (· exact pN); (· exact pN); all_goals (intro hg; try (exfalso; omega)))
 | ((try with_reducible apply wk_id); (with_reducible apply retQ_mk1); (· exact rI); (· exact sv); (· exact sv); (· exact sv); (· exact sv); rotate_left; rotate_left; (· simp); (· rfl)))
      all_goals first | rfl | (rw [hE]; done) | (rw [hE]; rfl)
  · rw [if_pos h1] at hE
    refine ⟨sh, ?_, fun h => by rw [hE] at h; exact absurd h h1⟩
    refine Fn_of_aw (keep := [7]) Tryz.func38 rfl rfl (by simp [Tryz.ntmps38]) ?_
    simp only [num_cons, num_nil, Tryz.ntmps38, Tryz.results38]
    repeat' (first
 | ((with_reducible apply awO_ev); (· rfl); (· exact sv))
 | ((with_reducible apply aw_seq); intro _ _)
 | (with_reducible apply aw_region)
 | ((with_reducible first | apply awO_nil | apply aw_exit | apply aw_skip | apply aw_ret); (try simp only [CT, ↓reduceIte, Nat.reduceEqDiff]))
 | (refine Kont.go ‹Kont _ _ _ _› _ ?_)
 | ((with_reducible apply awO_m); (· rfl); (· rfl); (· exact sv); (· (first | exact c1)); (· exact svq); (· exact svq); (· exact svq); (· exact svq); (· rfl); (· exact nd); (with_reducible apply awO_st); (· exact svs))
 | ((first | ((with_reducible apply awO_guardN); (· rfl); (· rfl); (· exact sv); (· exact nB)) | ((with_reducible apply aw_condN); (· exact sv))); (· exact pN); (· exact pN); all_goals (intro hg; try (exfalso; omega)))
 | ((try with_reducible apply wk_id); (with_reducible apply retQ_mk1); (· exact rI); (· exact sv); (· exact sv); (· exact sv); (· exact sv); rotate_left; rotate_left; (· simp); (· rfl)))
    all_goals first | rfl | (rw [hE]; done) | (rw [hE]; rfl)
end
end Go.Proofs.YtgbhjlkenfmadaaGreatDoor
