/- bang: at, number, position, selection, designator, on the abstract machine. -/
import Derived.Test.YtgbhjlkenfmadaaGreatDoorBgC
import Derived.Test.YtgbhjlkenfmadaaGreatDoorStr
namespace Go.Proofs.YtgbhjlkenfmadaaGreatDoor
open Go.RowKit
set_option linter.unusedVariables false
set_option linter.unusedSimpArgs false
set_option maxRecDepth 100000
set_option maxHeartbeats 8000000
/-- An expansion as an own object. -/
abbrev xH (F : Int) (L : List (List UInt8)) (s : List UInt8) (sh : Bool) : Hp := [(7, [ai F, .rd L.length (L.map az), az s, ab sh])]
theorem cnvU8 {n : Int} (h0 : 0 ≤ n) (h1 : n ≤ 255) : cnv Tryz.prog 5 3 (.int .u8 n) = some (.int .i64 n) := by
  rw [cnv_int (k := .i64) .u8 n (by kernel_rfl) (by kernel_rfl), wrap64 (by omega) (by omega)]
attribute [go_sem] cnvU8
section
variable (F : Int) (L : List (List UInt8)) (s : List UInt8) (sh : Bool)
theorem at_fn (i : Nat) (z : Int) (hz : z = i) : Fn Tryz.prog 110 [.pt 7 0, ai z] (xH F L s sh) (au (atB s i)) (xH F L s sh) [7] := by
  subst hz
  refine Fn_of_aw (keep := [7]) Tryz.func110 rfl rfl (by simp [Tryz.ntmps110]) ?_
  simp only [num_cons, num_nil, Tryz.ntmps110, Tryz.results110]
  by_cases hi : i < s.length
  · rw [atB_lt hi]
    repeat' (first
 | ((with_reducible apply awO_ev); (· rfl); (· exact sv))
 | ((with_reducible apply aw_seq); intro _ _)
 | (with_reducible apply aw_region)
 | ((with_reducible first | apply awO_nil | apply aw_exit | apply aw_skip | apply aw_ret); (try simp only [CT, ↓reduceIte, Nat.reduceEqDiff]))
 | (refine Kont.go ‹Kont _ _ _ _› _ ?_)
 | ((first | ((with_reducible apply awO_guardN); (· rfl); (· rfl); (· exact sv); (· exact nB)) | ((with_reducible apply aw_condN); (· exact sv))); (· exact pN); (· exact pN); all_goals (intro hg; try (exfalso; omega)))
 | ((try with_reducible apply wk_id); (with_reducible apply retQ_mk1); (· exact rI); (· exact sv); (· exact sv); (· exact sv); (· exact sv); rotate_left; rotate_left; (· simp); (· rfl)))
    all_goals rfl
  · rw [atB_ge (by omega)]
    repeat' (first
 | ((with_reducible apply awO_ev); (· rfl); (· exact sv))
 | ((with_reducible apply aw_seq); intro _ _)
 | (with_reducible apply aw_region)
 | ((with_reducible first | apply awO_nil | apply aw_exit | apply aw_skip | apply aw_ret); (try simp only [CT, ↓reduceIte, Nat.reduceEqDiff]))
 | (refine Kont.go ‹Kont _ _ _ _› _ ?_)
 | ((first | ((with_reducible apply awO_guardN); (· rfl); (· rfl); (· exact sv); (· exact nB)) | ((with_reducible apply aw_condN); (· exact sv))); (· exact pN); (· exact pN); all_goals (intro hg; try (exfalso; omega)))
 | ((try with_reducible apply wk_id); (with_reducible apply retQ_mk1); (· exact rI); (· exact sv); (· exact sv); (· exact sv); (· exact sv); rotate_left; rotate_left; (· simp); (· rfl)))
    all_goals rfl
theorem number_fn (i : Nat) (z : Int) (hz : z = i) (hi : i ≤ s.length) (hs : s.length ≤ 100000) : Fn Tryz.prog 105 [.pt 7 0, ai z] (xH F L s sh) (.tp [ai (numF s i).1, ai ((numF s i).2 : Nat), ab (decide (0 < dgN (s.drop i)))]) (xH F L s sh) [7] := by
  subst hz
  refine Fn_of_aw (keep := [7]) Tryz.func105 rfl rfl (by simp [Tryz.ntmps105]) ?_
  simp only [num_cons, num_nil, Tryz.ntmps105, Tryz.results105]
  repeat' (first
 | ((with_reducible apply awO_ev); (· rfl); (· exact sv))
 | ((with_reducible apply aw_seq); intro _ _)
 | (with_reducible apply aw_region)
 | (with_reducible apply aw_block)
 | ((with_reducible first | apply awO_nil | apply aw_exit | apply aw_skip | apply aw_ret); (try simp only [CT, ↓reduceIte, Nat.reduceEqDiff]))
 | (refine Kont.go ‹Kont _ _ _ _› _ ?_))
  refine aw_loopF (fun x : Nat × Int => [(7, ai x.2), (8, ai x.1)]) (fun _ => (xH F L s sh)) (fun x => i ≤ x.1 ∧ x.1 ≤ s.length ∧ dgN (s.drop i) = (x.1 - i) + dgN (s.drop x.1) ∧ x.2 = dgV ((s.drop i).take (min (x.1 - i) 9))) (fun x => s.length - x.1) (i, 0) ⟨Nat.le_refl _, hi, by simp only; omega, by simp [dgV]⟩ ?_ ?_ ?_
  · (simp only [LP, look_cons, look_nil, and_true, true_and, ↓reduceIte, Nat.reduceEqDiff, Option.some.injEq, AV.v.injEq, Value.int.injEq, Int.natCast_add, Int.cast_ofNat_Int])
    first | done | rfl
  · exact ⟨rfl, trivial⟩
  rintro ⟨e, n⟩ ⟨h1, h2, hI, hn⟩
  simp only at h1 h2 hI hn
  (simp only [LP, List.append_assoc, List.nil_append, List.cons_append, List.append_nil, List.contains_cons, List.contains_nil, Nat.reduceBEq, Bool.or_false, Bool.or_true, Bool.true_or, Bool.false_or, ↓reduceIte, Bool.false_eq_true])
  have hnb := dgV_take_lt (l := s.drop i) (k := min (e - i) 9) (by omega) (by omega)
  rw [← hn] at hnb
  have hend : dgN (s.drop e) = 0 → numF s i = (if 9 < e - i then 999999999 else n, e) ∧ decide (0 < dgN (s.drop i)) = decide ((i : Int) < e) := fun h => by
    rw [h, Nat.add_zero] at hI
    refine ⟨?_, by rw [hI]; simp; omega⟩
    unfold numF
    rw [hI, hn]
    by_cases h9 : 9 < e - i
    · rw [if_pos h9, if_pos h9]; congr 1; omega
    · rw [if_neg h9, if_neg h9, Nat.min_eq_left (by omega)]; congr 1; omega
  by_cases hel : e < s.length
  · have hst := dgN_drop hel
    by_cases hd : dgB s[e] = true
    · rw [if_pos hd] at hst
      simp only [dgB, decide_eq_true_eq] at hd
      by_cases h9 : e - i < 9
      · have hv := dgV_take (s := s.drop i) (k := e - i) (by simp; omega)
        simp only [List.getElem_drop, show i + (e - i) = e from by omega] at hv
        have hb := dgV_take_lt (l := s.drop i) (k := e - i) (by omega) (by omega)
        rw [Nat.min_eq_left (by omega)] at hn
        rw [← hn] at hv hb
        repeat' (first
 | ((with_reducible apply awO_ev); (· rfl); (· exact sv))
 | ((with_reducible apply aw_seq); intro _ _)
 | (with_reducible apply aw_region)
 | (with_reducible apply aw_block)
 | ((with_reducible first | apply awO_nil | apply aw_exit | apply aw_skip | apply aw_ret); (try simp only [CT, ↓reduceIte, Nat.reduceEqDiff]))
 | ((with_reducible apply awO_y); (· rfl); (· rfl); (· decide); (· exact sv); (· exact sv))
 | (refine Kont.go ‹Kont _ _ _ _› _ ?_)
 | ((first | ((with_reducible apply awO_guardN); (· rfl); (· rfl); (· exact sv); (· exact nB)) | ((with_reducible apply aw_condN); (· exact sv))); (· exact pN); (· exact pN); all_goals (intro hg; try (exfalso; omega))))
        refine LE_mk (e + 1, n * 10 + ((s[e].toNat : Int) - 48)) ⟨by simp only; omega, hel, by simp only; omega, ?_⟩ (by simp only; omega) sN sN ⟨rfl, trivial⟩
        simp only
        rw [Nat.min_eq_left (by omega), show e + 1 - i = e - i + 1 by omega, hv]
      · skip
        repeat' (first
 | ((with_reducible apply awO_ev); (· rfl); (· exact sv))
 | ((with_reducible apply aw_seq); intro _ _)
 | (with_reducible apply aw_region)
 | (with_reducible apply aw_block)
 | ((with_reducible first | apply awO_nil | apply aw_exit | apply aw_skip | apply aw_ret); (try simp only [CT, ↓reduceIte, Nat.reduceEqDiff]))
 | ((with_reducible apply awO_y); (· rfl); (· rfl); (· decide); (· exact sv); (· exact sv))
 | (refine Kont.go ‹Kont _ _ _ _› _ ?_)
 | ((first | ((with_reducible apply awO_guardN); (· rfl); (· rfl); (· exact sv); (· exact nB)) | ((with_reducible apply aw_condN); (· exact sv))); (· exact pN); (· exact pN); all_goals (intro hg; try (exfalso; omega))))
        refine LE_mk (e + 1, n) ⟨by simp only; omega, hel, by simp only; omega, ?_⟩ (by simp only; omega) sN sN ⟨rfl, trivial⟩
        simp only
        rw [hn, Nat.min_eq_right (by omega), Nat.min_eq_right (by omega)]
    · rw [if_neg hd] at hst
      simp only [dgB, decide_eq_true_eq] at hd
      obtain ⟨hN, hD⟩ := hend hst
      by_cases h9 : 9 < e - i
      · rw [if_pos h9] at hN
        repeat' (first
 | ((with_reducible apply awO_ev); (· rfl); (· exact sv))
 | ((with_reducible apply aw_seq); intro _ _)
 | (with_reducible apply aw_region)
 | ((with_reducible first | apply awO_nil | apply aw_exit | apply aw_skip | apply aw_ret); (try simp only [CT, ↓reduceIte, Nat.reduceEqDiff]))
 | ((with_reducible apply awO_y); (· rfl); (· rfl); (· decide); (· exact sv); (· exact sv))
 | ((with_reducible apply awO_n); (· rfl); (· rfl); (· decide); (· exact sv); (· rfl); (· rfl); (· decide))
 | ((with_reducible apply aw_cond_false); (· exact sv))
 | (refine Kont.go ‹Kont _ _ _ _› _ ?_)
 | ((first | ((with_reducible apply awO_guardN); (· rfl); (· rfl); (· exact sv); (· exact nB)) | ((with_reducible apply aw_condN); (· exact sv))); (· exact pN); (· exact pN); all_goals (intro hg; try (exfalso; omega)))
 | ((try with_reducible apply wk_id); (with_reducible apply retQ_mk1); (· exact rI); (· exact sv); (· exact sv); (· exact sv); (· exact sv); rotate_left; rotate_left; (· simp); (· rfl)))
        all_goals first | rfl | rw [hN, hD]
      · rw [if_neg h9] at hN
        repeat' (first
 | ((with_reducible apply awO_ev); (· rfl); (· exact sv))
 | ((with_reducible apply aw_seq); intro _ _)
 | (with_reducible apply aw_region)
 | ((with_reducible first | apply awO_nil | apply aw_exit | apply aw_skip | apply aw_ret); (try simp only [CT, ↓reduceIte, Nat.reduceEqDiff]))
 | ((with_reducible apply awO_y); (· rfl); (· rfl); (· decide); (· exact sv); (· exact sv))
 | ((with_reducible apply awO_n); (· rfl); (· rfl); (· decide); (· exact sv); (· rfl); (· rfl); (· decide))
 | ((with_reducible apply aw_cond_false); (· exact sv))
 | (refine Kont.go ‹Kont _ _ _ _› _ ?_)
 | ((first | ((with_reducible apply awO_guardN); (· rfl); (· rfl); (· exact sv); (· exact nB)) | ((with_reducible apply aw_condN); (· exact sv))); (· exact pN); (· exact pN); all_goals (intro hg; try (exfalso; omega)))
 | ((try with_reducible apply wk_id); (with_reducible apply retQ_mk1); (· exact rI); (· exact sv); (· exact sv); (· exact sv); (· exact sv); rotate_left; rotate_left; (· simp); (· rfl)))
        all_goals first | rfl | rw [hN, hD]
  · have hst := dgN_end (s := s) (i := e) (by omega)
    obtain ⟨hN, hD⟩ := hend hst
    by_cases h9 : 9 < e - i
    · rw [if_pos h9] at hN
      repeat' (first
 | ((with_reducible apply awO_ev); (· rfl); (· exact sv))
 | ((with_reducible apply aw_seq); intro _ _)
 | (with_reducible apply aw_region)
 | ((with_reducible first | apply awO_nil | apply aw_exit | apply aw_skip | apply aw_ret); (try simp only [CT, ↓reduceIte, Nat.reduceEqDiff]))
 | ((with_reducible apply awO_n); (· rfl); (· rfl); (· decide); (· exact sv); (· rfl); (· rfl); (· decide))
 | ((with_reducible apply aw_cond_false); (· exact sv))
 | (refine Kont.go ‹Kont _ _ _ _› _ ?_)
 | ((first | ((with_reducible apply awO_guardN); (· rfl); (· rfl); (· exact sv); (· exact nB)) | ((with_reducible apply aw_condN); (· exact sv))); (· exact pN); (· exact pN); all_goals (intro hg; try (exfalso; omega)))
 | ((try with_reducible apply wk_id); (with_reducible apply retQ_mk1); (· exact rI); (· exact sv); (· exact sv); (· exact sv); (· exact sv); rotate_left; rotate_left; (· simp); (· rfl)))
      all_goals first | rfl | rw [hN, hD]
    · rw [if_neg h9] at hN
      repeat' (first
 | ((with_reducible apply awO_ev); (· rfl); (· exact sv))
 | ((with_reducible apply aw_seq); intro _ _)
 | (with_reducible apply aw_region)
 | ((with_reducible first | apply awO_nil | apply aw_exit | apply aw_skip | apply aw_ret); (try simp only [CT, ↓reduceIte, Nat.reduceEqDiff]))
 | ((with_reducible apply awO_n); (· rfl); (· rfl); (· decide); (· exact sv); (· rfl); (· rfl); (· decide))
 | ((with_reducible apply aw_cond_false); (· exact sv))
 | (refine Kont.go ‹Kont _ _ _ _› _ ?_)
 | ((first | ((with_reducible apply awO_guardN); (· rfl); (· rfl); (· exact sv); (· exact nB)) | ((with_reducible apply aw_condN); (· exact sv))); (· exact pN); (· exact pN); all_goals (intro hg; try (exfalso; omega)))
 | ((try with_reducible apply wk_id); (with_reducible apply retQ_mk1); (· exact rI); (· exact sv); (· exact sv); (· exact sv); (· exact sv); rotate_left; rotate_left; (· simp); (· rfl)))
      all_goals first | rfl | rw [hN, hD]
theorem position_fn (i : Nat) (z last : Int) (hz : z = i) (hi : i ≤ s.length) (hs : s.length ≤ 100000) : Fn Tryz.prog 146 [.pt 7 0, ai z, ai last] (xH F L s sh) (.tp [ai (posF s i last).1, ai ((posF s i last).2.1 : Nat), ab (posF s i last).2.2]) (xH F L s sh) [7] := by
  subst hz
  have c1 := at_fn F L s sh i i rfl
  have c2 := number_fn F L s sh i i rfl hi hs
  refine Fn_of_aw (keep := [7]) Tryz.func146 rfl rfl (by simp [Tryz.ntmps146]) ?_
  simp only [num_cons, num_nil, Tryz.ntmps146, Tryz.results146]
  by_cases h1 : atB s i = 94
  · have e : posF s i last = (1, i + 1, true) := by unfold posF; rw [if_pos h1]
    have k1 : (atB s i).toNat = 94 := by rw [h1]; rfl
    repeat' (first
 | ((with_reducible apply awO_ev); (· rfl); (· exact sv))
 | ((with_reducible apply aw_seq); intro _ _)
 | (with_reducible apply aw_region)
 | (with_reducible apply aw_block)
 | ((with_reducible first | apply awO_nil | apply aw_exit | apply aw_skip | apply aw_ret); (try simp only [CT, ↓reduceIte, Nat.reduceEqDiff]))
 | (refine Kont.go ‹Kont _ _ _ _› _ ?_)
 | ((with_reducible apply awO_m); (· rfl); (· rfl); (· exact sv); (· (first | with_reducible exact c1)); (· exact svq); (· exact svq); (· exact svq); (· exact svq); (· rfl); (· exact nd); (with_reducible apply awO_st); (· exact svs))
 | ((first | ((with_reducible apply awO_guardN); (· rfl); (· rfl); (· exact sv); (· exact nB)) | ((with_reducible apply aw_condN); (· exact sv))); (· exact pN); (· exact pN); all_goals (intro hg; try (exfalso; omega)))
 | ((try with_reducible apply wk_id); (with_reducible apply retQ_mk1); (· exact rI); (· exact sv); (· exact sv); (· exact sv); (· exact sv); rotate_left; rotate_left; (· simp); (· rfl)))
    all_goals first | rfl | rw [e]; rfl
  have k1 : ¬ (atB s i).toNat = 94 := fun h => h1 (UInt8.toNat_inj.1 h)
  by_cases h2 : atB s i = 36
  · have e : posF s i last = (last, i + 1, true) := by unfold posF; rw [if_neg h1, if_pos h2]
    have k2 : (atB s i).toNat = 36 := by rw [h2]; rfl
    repeat' (first
 | ((with_reducible apply awO_ev); (· rfl); (· exact sv))
 | ((with_reducible apply aw_seq); intro _ _)
 | (with_reducible apply aw_region)
 | (with_reducible apply aw_block)
 | ((with_reducible first | apply awO_nil | apply aw_exit | apply aw_skip | apply aw_ret); (try simp only [CT, ↓reduceIte, Nat.reduceEqDiff]))
 | (refine Kont.go ‹Kont _ _ _ _› _ ?_)
 | ((with_reducible apply awO_m); (· rfl); (· rfl); (· exact sv); (· (first | with_reducible exact c1)); (· exact svq); (· exact svq); (· exact svq); (· exact svq); (· rfl); (· exact nd); (with_reducible apply awO_st); (· exact svs))
 | ((first | ((with_reducible apply awO_guardN); (· rfl); (· rfl); (· exact sv); (· exact nB)) | ((with_reducible apply aw_condN); (· exact sv))); (· exact pN); (· exact pN); all_goals (intro hg; try (exfalso; omega)))
 | ((try with_reducible apply wk_id); (with_reducible apply retQ_mk1); (· exact rI); (· exact sv); (· exact sv); (· exact sv); (· exact sv); rotate_left; rotate_left; (· simp); (· rfl)))
    all_goals first | rfl | rw [e]; rfl
  have k2 : ¬ (atB s i).toNat = 36 := fun h => h2 (UInt8.toNat_inj.1 h)
  have e : posF s i last = ((numF s i).1, (numF s i).2, decide (0 < dgN (s.drop i))) := by unfold posF; rw [if_neg h1, if_neg h2]
  repeat' (first
 | ((with_reducible apply awO_ev); (· rfl); (· exact sv))
 | ((with_reducible apply aw_seq); intro _ _)
 | (with_reducible apply aw_region)
 | (with_reducible apply aw_block)
 | ((with_reducible first | apply awO_nil | apply aw_exit | apply aw_skip | apply aw_ret); (try simp only [CT, ↓reduceIte, Nat.reduceEqDiff]))
 | (refine Kont.go ‹Kont _ _ _ _› _ ?_)
 | ((with_reducible apply awO_m); (· rfl); (· rfl); (· exact sv); (· (first | with_reducible exact c1 | with_reducible exact c2)); (· exact svq); (· exact svq); (· exact svq); (· exact svq); (· rfl); (· exact nd); (with_reducible apply awO_st); (· exact svs))
 | ((first | ((with_reducible apply awO_guardN); (· rfl); (· rfl); (· exact sv); (· exact nB)) | ((with_reducible apply aw_condN); (· exact sv))); (· exact pN); (· exact pN); all_goals (intro hg; try (exfalso; omega)))
 | ((try with_reducible apply wk_id); (with_reducible apply retQ_mk1); (· exact rI); (· exact sv); (· exact sv); (· exact sv); (· exact sv); rotate_left; rotate_left; (· simp); (· rfl)))
  all_goals first | rfl | rw [e]
theorem selection_fn (i : Nat) (z last : Int) (hz : z = i) (hi : i ≤ s.length) (hs : s.length ≤ 100000) (hl : -1 ≤ last ∧ last ≤ 999999999) : Fn Tryz.prog 133 [.pt 7 0, ai z, ai last] (xH F L s sh) (.tp [ai (selF s i last).1, ai (selF s i last).2.1, ai ((selF s i last).2.2.1 : Nat), ab (selF s i last).2.2.2]) (xH F L s sh) [7] := by
  subst hz
  have c1 := at_fn F L s sh i i rfl
  refine Fn_of_aw (keep := [7]) Tryz.func133 rfl rfl (by simp [Tryz.ntmps133]) ?_
  simp only [num_cons, num_nil, Tryz.ntmps133, Tryz.results133]
  by_cases h1 : atB s i = 42
  · have e : selF s i last = (1, last, i + 1, true) := by unfold selF; rw [if_pos h1]
    have k1 : (atB s i).toNat = 42 := by rw [h1]; rfl
    repeat' (first
 | ((with_reducible apply awO_ev); (· rfl); (· exact sv))
 | ((with_reducible apply aw_seq); intro _ _)
 | (with_reducible apply aw_region)
 | ((with_reducible first | apply awO_nil | apply aw_exit | apply aw_skip | apply aw_ret); (try simp only [CT, ↓reduceIte, Nat.reduceEqDiff]))
 | (refine Kont.go ‹Kont _ _ _ _› _ ?_)
 | ((with_reducible apply awO_m); (· rfl); (· rfl); (· exact sv); (· (first | with_reducible exact c1)); (· exact svq); (· exact svq); (· exact svq); (· exact svq); (· rfl); (· exact nd); (with_reducible apply awO_st); (· exact svs))
 | ((first | ((with_reducible apply awO_guardN); (· rfl); (· rfl); (· exact sv); (· exact nB)) | ((with_reducible apply aw_condN); (· exact sv))); (· exact pN); (· exact pN); all_goals (intro hg; try (exfalso; omega)))
 | ((try with_reducible apply wk_id); (with_reducible apply retQ_mk1); (· exact rI); (· exact sv); (· exact sv); (· exact sv); (· exact sv); rotate_left; rotate_left; (· simp); (· rfl)))
    all_goals first | rfl | rw [e]; rfl
  have k1 : ¬ (atB s i).toNat = 42 := fun h => h1 (UInt8.toNat_inj.1 h)
  by_cases h2 : atB s i = 45
  · have e : selF s i last = (0, posF s (i + 1) last) := by unfold selF; rw [if_neg h1, if_pos h2]
    have k2 : (atB s i).toNat = 45 := by rw [h2]; rfl
    have hin := at_in h2 (by decide)
    have c2 := fun z hz => position_fn F L s sh (i + 1) z last hz hin hs
    repeat' (first
 | ((with_reducible apply awO_ev); (· rfl); (· exact sv))
 | ((with_reducible apply aw_seq); intro _ _)
 | (with_reducible apply aw_region)
 | ((with_reducible first | apply awO_nil | apply aw_exit | apply aw_skip | apply aw_ret); (try simp only [CT, ↓reduceIte, Nat.reduceEqDiff]))
 | (refine Kont.go ‹Kont _ _ _ _› _ ?_)
 | ((with_reducible apply awO_m); (· rfl); (· rfl); (· exact sv); (· (first | with_reducible exact c1 | exact c2 _ (by omega))); (· exact svq); (· exact svq); (· exact svq); (· exact svq); (· rfl); (· exact nd); (with_reducible apply awO_st); (· exact svs))
 | ((first | ((with_reducible apply awO_guardN); (· rfl); (· rfl); (· exact sv); (· exact nB)) | ((with_reducible apply aw_condN); (· exact sv))); (· exact pN); (· exact pN); all_goals (intro hg; try (exfalso; omega)))
 | ((try with_reducible apply wk_id); (with_reducible apply retQ_mk1); (· exact rI); (· exact sv); (· exact sv); (· exact sv); (· exact sv); rotate_left; rotate_left; (· simp); (· rfl)))
    all_goals first | rfl | rw [e]
  have k2 : ¬ (atB s i).toNat = 45 := fun h => h2 (UInt8.toNat_inj.1 h)
  have c2 := position_fn F L s sh i i last rfl hi hs
  have hp := posF_ok (last := last) hi
  have e0 : selF s i last = if (posF s i last).2.2 = false then (0, 0, 0, false)
      else if atB s (posF s i last).2.1 = 42 then ((posF s i last).1, last, (posF s i last).2.1 + 1, true)
      else if atB s (posF s i last).2.1 = 45 then
        if (posF s ((posF s i last).2.1 + 1) last).2.2 = true then ((posF s i last).1, posF s ((posF s i last).2.1 + 1) last) else ((posF s i last).1, last - 1, (posF s i last).2.1 + 1, true)
      else ((posF s i last).1, (posF s i last).1, (posF s i last).2.1, true) := by
    unfold selF; rw [if_neg h1, if_neg h2]
  generalize posF s i last = p at *
  obtain ⟨pn, pe, pb⟩ := p
  simp only at hp e0 c2
  cases pb with
  | false =>
    have e : selF s i last = (0, 0, 0, false) := by rw [e0, if_pos rfl]
    repeat' (first
 | ((with_reducible apply awO_ev); (· rfl); (· exact sv))
 | ((with_reducible apply aw_seq); intro _ _)
 | (with_reducible apply aw_region)
 | ((with_reducible first | apply awO_nil | apply aw_exit | apply aw_skip | apply aw_ret); (try simp only [CT, ↓reduceIte, Nat.reduceEqDiff]))
 | ((with_reducible apply aw_cond_true); (· exact sv))
 | (refine Kont.go ‹Kont _ _ _ _› _ ?_)
 | ((with_reducible apply awO_m); (· rfl); (· rfl); (· exact sv); (· (first | with_reducible exact c1 | with_reducible exact c2)); (· exact svq); (· exact svq); (· exact svq); (· exact svq); (· rfl); (· exact nd); (with_reducible apply awO_st); (· exact svs))
 | ((first | ((with_reducible apply awO_guardN); (· rfl); (· rfl); (· exact sv); (· exact nB)) | ((with_reducible apply aw_condN); (· exact sv))); (· exact pN); (· exact pN); all_goals (intro hg; try (exfalso; omega)))
 | ((try with_reducible apply wk_id); (with_reducible apply retQ_mk1); (· exact rI); (· exact sv); (· exact sv); (· exact sv); (· exact sv); rotate_left; rotate_left; (· simp); (· rfl)))
    all_goals first | rfl | rw [e]; rfl
  | true =>
    rw [if_neg (by decide)] at e0
    have c3 := at_fn F L s sh pe pe rfl
    by_cases h3 : atB s pe = 42
    · rw [if_pos h3] at e0
      have k3 : (atB s pe).toNat = 42 := by rw [h3]; rfl
      repeat' (first
 | ((with_reducible apply awO_ev); (· rfl); (· exact sv))
 | ((with_reducible apply aw_seq); intro _ _)
 | (with_reducible apply aw_region)
 | (with_reducible apply aw_block)
 | ((with_reducible first | apply awO_nil | apply aw_exit | apply aw_skip | apply aw_ret); (try simp only [CT, ↓reduceIte, Nat.reduceEqDiff]))
 | ((with_reducible apply aw_cond_false); (· exact sv))
 | (refine Kont.go ‹Kont _ _ _ _› _ ?_)
 | ((with_reducible apply awO_m); (· rfl); (· rfl); (· exact sv); (· (first | with_reducible exact c1 | with_reducible exact c2 | with_reducible exact c3)); (· exact svq); (· exact svq); (· exact svq); (· exact svq); (· rfl); (· exact nd); (with_reducible apply awO_st); (· exact svs))
 | ((first | ((with_reducible apply awO_guardN); (· rfl); (· rfl); (· exact sv); (· exact nB)) | ((with_reducible apply aw_condN); (· exact sv))); (· exact pN); (· exact pN); all_goals (intro hg; try (exfalso; omega)))
 | ((try with_reducible apply wk_id); (with_reducible apply retQ_mk1); (· exact rI); (· exact sv); (· exact sv); (· exact sv); (· exact sv); rotate_left; rotate_left; (· simp); (· rfl)))
      all_goals first | rfl | rw [e0]; rfl
    rw [if_neg h3] at e0
    have k3 : ¬ (atB s pe).toNat = 42 := fun h => h3 (UInt8.toNat_inj.1 h)
    by_cases h4 : atB s pe = 45
    · rw [if_pos h4] at e0
      have k4 : (atB s pe).toNat = 45 := by rw [h4]; rfl
      have hin := at_in h4 (by decide)
      have c4 := fun z hz => position_fn F L s sh (pe + 1) z last hz hin hs
      generalize posF s (pe + 1) last = q at *
      obtain ⟨qn, qe, qb⟩ := q
      simp only at e0 c4
      cases qb with
      | true =>
        rw [if_pos rfl] at e0
        repeat' (first
 | ((with_reducible apply awO_ev); (· rfl); (· exact sv))
 | ((with_reducible apply aw_seq); intro _ _)
 | (with_reducible apply aw_region)
 | (with_reducible apply aw_block)
 | ((with_reducible first | apply awO_nil | apply aw_exit | apply aw_skip | apply aw_ret); (try simp only [CT, ↓reduceIte, Nat.reduceEqDiff]))
 | ((with_reducible apply aw_cond_true); (· exact sv))
 | ((with_reducible apply aw_cond_false); (· exact sv))
 | (refine Kont.go ‹Kont _ _ _ _› _ ?_)
 | ((with_reducible apply awO_m); (· rfl); (· rfl); (· exact sv); (· (first | with_reducible exact c1 | with_reducible exact c2 | with_reducible exact c3 | exact c4 _ (by omega))); (· exact svq); (· exact svq); (· exact svq); (· exact svq); (· rfl); (· exact nd); (with_reducible apply awO_st); (· exact svs))
 | ((first | ((with_reducible apply awO_guardN); (· rfl); (· rfl); (· exact sv); (· exact nB)) | ((with_reducible apply aw_condN); (· exact sv))); (· exact pN); (· exact pN); all_goals (intro hg; try (exfalso; omega)))
 | ((try with_reducible apply wk_id); (with_reducible apply retQ_mk1); (· exact rI); (· exact sv); (· exact sv); (· exact sv); (· exact sv); rotate_left; rotate_left; (· simp); (· rfl)))
        all_goals first | rfl | rw [e0]
      | false =>
        rw [if_neg (by decide)] at e0
        repeat' (first
 | ((with_reducible apply awO_ev); (· rfl); (· exact sv))
 | ((with_reducible apply aw_seq); intro _ _)
 | (with_reducible apply aw_region)
 | (with_reducible apply aw_block)
 | ((with_reducible first | apply awO_nil | apply aw_exit | apply aw_skip | apply aw_ret); (try simp only [CT, ↓reduceIte, Nat.reduceEqDiff]))
 | ((with_reducible apply aw_cond_false); (· exact sv))
 | (refine Kont.go ‹Kont _ _ _ _› _ ?_)
 | ((with_reducible apply awO_m); (· rfl); (· rfl); (· exact sv); (· (first | with_reducible exact c1 | with_reducible exact c2 | with_reducible exact c3 | exact c4 _ (by omega))); (· exact svq); (· exact svq); (· exact svq); (· exact svq); (· rfl); (· exact nd); (with_reducible apply awO_st); (· exact svs))
 | ((first | ((with_reducible apply awO_guardN); (· rfl); (· rfl); (· exact sv); (· exact nB)) | ((with_reducible apply aw_condN); (· exact sv))); (· exact pN); (· exact pN); all_goals (intro hg; try (exfalso; omega)))
 | ((try with_reducible apply wk_id); (with_reducible apply retQ_mk1); (· exact rI); (· exact sv); (· exact sv); (· exact sv); (· exact sv); rotate_left; rotate_left; (· simp); (· rfl)))
        all_goals first | rfl | rw [e0]; rfl
    rw [if_neg h4] at e0
    have k4 : ¬ (atB s pe).toNat = 45 := fun h => h4 (UInt8.toNat_inj.1 h)
    repeat' (first
 | ((with_reducible apply awO_ev); (· rfl); (· exact sv))
 | ((with_reducible apply aw_seq); intro _ _)
 | (with_reducible apply aw_region)
 | (with_reducible apply aw_block)
 | ((with_reducible first | apply awO_nil | apply aw_exit | apply aw_skip | apply aw_ret); (try simp only [CT, ↓reduceIte, Nat.reduceEqDiff]))
 | ((with_reducible apply aw_cond_false); (· exact sv))
 | (refine Kont.go ‹Kont _ _ _ _› _ ?_)
 | ((with_reducible apply awO_m); (· rfl); (· rfl); (· exact sv); (· (first | with_reducible exact c1 | with_reducible exact c2 | with_reducible exact c3)); (· exact svq); (· exact svq); (· exact svq); (· exact svq); (· rfl); (· exact nd); (with_reducible apply awO_st); (· exact svs))
 | ((first | ((with_reducible apply awO_guardN); (· rfl); (· rfl); (· exact sv); (· exact nB)) | ((with_reducible apply aw_condN); (· exact sv))); (· exact pN); (· exact pN); all_goals (intro hg; try (exfalso; omega)))
 | ((try with_reducible apply wk_id); (with_reducible apply retQ_mk1); (· exact rI); (· exact sv); (· exact sv); (· exact sv); (· exact sv); rotate_left; rotate_left; (· simp); (· rfl)))
    all_goals first | rfl | rw [e0]
theorem designator_fn (i : Nat) (z last : Int) (hz : z = i) (hi : i ≤ s.length) (hs : s.length ≤ 100000) (hl : -1 ≤ last ∧ last ≤ 999999999) : Fn Tryz.prog 108 [.pt 7 0, ai z, ai last] (xH F L s sh) (.tp [ai (desF s i last).1, ai (desF s i last).2.1, ai ((desF s i last).2.2.1 : Nat), ab (desF s i last).2.2.2]) (xH F L s sh) [7] := by
  subst hz
  have c1 := at_fn F L s sh i i rfl
  refine Fn_of_aw (keep := [7]) Tryz.func108 rfl rfl (by simp [Tryz.ntmps108]) ?_
  simp only [num_cons, num_nil, Tryz.ntmps108, Tryz.results108]
  by_cases h1 : atB s i = 94
  · have e : desF s i last = (1, 1, i + 1, true) := by unfold desF; rw [if_pos h1]
    have k1 : (atB s i).toNat = 94 := by rw [h1]; rfl
    repeat' (first
 | ((with_reducible apply awO_ev); (· rfl); (· exact sv))
 | ((with_reducible apply aw_seq); intro _ _)
 | (with_reducible apply aw_region)
 | (with_reducible apply aw_block)
 | ((with_reducible first | apply awO_nil | apply aw_exit | apply aw_skip | apply aw_ret); (try simp only [CT, ↓reduceIte, Nat.reduceEqDiff]))
 | (refine Kont.go ‹Kont _ _ _ _› _ ?_)
 | ((with_reducible apply awO_m); (· rfl); (· rfl); (· exact sv); (· (first | with_reducible exact c1)); (· exact svq); (· exact svq); (· exact svq); (· exact svq); (· rfl); (· exact nd); (with_reducible apply awO_st); (· exact svs))
 | ((first | ((with_reducible apply awO_guardN); (· rfl); (· rfl); (· exact sv); (· exact nB)) | ((with_reducible apply aw_condN); (· exact sv))); (· exact pN); (· exact pN); all_goals (intro hg; try (exfalso; omega)))
 | ((try with_reducible apply wk_id); (with_reducible apply retQ_mk1); (· exact rI); (· exact sv); (· exact sv); (· exact sv); (· exact sv); rotate_left; rotate_left; (· simp); (· rfl)))
    all_goals first | rfl | rw [e]; rfl
  have k1 : ¬ (atB s i).toNat = 94 := fun h => h1 (UInt8.toNat_inj.1 h)
  by_cases h2 : atB s i = 36
  · have e : desF s i last = (last, last, i + 1, true) := by unfold desF; rw [if_neg h1, if_pos h2]
    have k2 : (atB s i).toNat = 36 := by rw [h2]; rfl
    repeat' (first
 | ((with_reducible apply awO_ev); (· rfl); (· exact sv))
 | ((with_reducible apply aw_seq); intro _ _)
 | (with_reducible apply aw_region)
 | (with_reducible apply aw_block)
 | ((with_reducible first | apply awO_nil | apply aw_exit | apply aw_skip | apply aw_ret); (try simp only [CT, ↓reduceIte, Nat.reduceEqDiff]))
 | (refine Kont.go ‹Kont _ _ _ _› _ ?_)
 | ((with_reducible apply awO_m); (· rfl); (· rfl); (· exact sv); (· (first | with_reducible exact c1)); (· exact svq); (· exact svq); (· exact svq); (· exact svq); (· rfl); (· exact nd); (with_reducible apply awO_st); (· exact svs))
 | ((first | ((with_reducible apply awO_guardN); (· rfl); (· rfl); (· exact sv); (· exact nB)) | ((with_reducible apply aw_condN); (· exact sv))); (· exact pN); (· exact pN); all_goals (intro hg; try (exfalso; omega)))
 | ((try with_reducible apply wk_id); (with_reducible apply retQ_mk1); (· exact rI); (· exact sv); (· exact sv); (· exact sv); (· exact sv); rotate_left; rotate_left; (· simp); (· rfl)))
    all_goals first | rfl | rw [e]; rfl
  have k2 : ¬ (atB s i).toNat = 36 := fun h => h2 (UInt8.toNat_inj.1 h)
  by_cases h3 : atB s i = 42
  · have e : desF s i last = (1, last, i + 1, true) := by unfold desF; rw [if_neg h1, if_neg h2, if_pos h3]
    have k3 : (atB s i).toNat = 42 := by rw [h3]; rfl
    repeat' (first
 | ((with_reducible apply awO_ev); (· rfl); (· exact sv))
 | ((with_reducible apply aw_seq); intro _ _)
 | (with_reducible apply aw_region)
 | (with_reducible apply aw_block)
 | ((with_reducible first | apply awO_nil | apply aw_exit | apply aw_skip | apply aw_ret); (try simp only [CT, ↓reduceIte, Nat.reduceEqDiff]))
 | (refine Kont.go ‹Kont _ _ _ _› _ ?_)
 | ((with_reducible apply awO_m); (· rfl); (· rfl); (· exact sv); (· (first | with_reducible exact c1)); (· exact svq); (· exact svq); (· exact svq); (· exact svq); (· rfl); (· exact nd); (with_reducible apply awO_st); (· exact svs))
 | ((first | ((with_reducible apply awO_guardN); (· rfl); (· rfl); (· exact sv); (· exact nB)) | ((with_reducible apply aw_condN); (· exact sv))); (· exact pN); (· exact pN); all_goals (intro hg; try (exfalso; omega)))
 | ((try with_reducible apply wk_id); (with_reducible apply retQ_mk1); (· exact rI); (· exact sv); (· exact sv); (· exact sv); (· exact sv); rotate_left; rotate_left; (· simp); (· rfl)))
    all_goals first | rfl | rw [e]; rfl
  have k3 : ¬ (atB s i).toNat = 42 := fun h => h3 (UInt8.toNat_inj.1 h)
  by_cases h4 : atB s i = 58
  · have e : desF s i last = selF s (i + 1) last := by unfold desF; rw [if_neg h1, if_neg h2, if_neg h3, if_pos h4]
    have k4 : (atB s i).toNat = 58 := by rw [h4]; rfl
    have hin := at_in h4 (by decide)
    have c2 := fun z hz => selection_fn F L s sh (i + 1) z last hz hin hs hl
    repeat' (first
 | ((with_reducible apply awO_ev); (· rfl); (· exact sv))
 | ((with_reducible apply aw_seq); intro _ _)
 | (with_reducible apply aw_region)
 | (with_reducible apply aw_block)
 | ((with_reducible first | apply awO_nil | apply aw_exit | apply aw_skip | apply aw_ret); (try simp only [CT, ↓reduceIte, Nat.reduceEqDiff]))
 | (refine Kont.go ‹Kont _ _ _ _› _ ?_)
 | ((with_reducible apply awO_m); (· rfl); (· rfl); (· exact sv); (· (first | with_reducible exact c1 | exact c2 _ (by omega))); (· exact svq); (· exact svq); (· exact svq); (· exact svq); (· rfl); (· exact nd); (with_reducible apply awO_st); (· exact svs))
 | ((first | ((with_reducible apply awO_guardN); (· rfl); (· rfl); (· exact sv); (· exact nB)) | ((with_reducible apply aw_condN); (· exact sv))); (· exact pN); (· exact pN); all_goals (intro hg; try (exfalso; omega)))
 | ((try with_reducible apply wk_id); (with_reducible apply retQ_mk1); (· exact rI); (· exact sv); (· exact sv); (· exact sv); (· exact sv); rotate_left; rotate_left; (· simp); (· rfl)))
    all_goals first | rfl | rw [e]
  have k4 : ¬ (atB s i).toNat = 58 := fun h => h4 (UInt8.toNat_inj.1 h)
  have e : desF s i last = (0, 0, 0, false) := by unfold desF; rw [if_neg h1, if_neg h2, if_neg h3, if_neg h4]
  repeat' (first
 | ((with_reducible apply awO_ev); (· rfl); (· exact sv))
 | ((with_reducible apply aw_seq); intro _ _)
 | (with_reducible apply aw_region)
 | (with_reducible apply aw_block)
 | ((with_reducible first | apply awO_nil | apply aw_exit | apply aw_skip | apply aw_ret); (try simp only [CT, ↓reduceIte, Nat.reduceEqDiff]))
 | (refine Kont.go ‹Kont _ _ _ _› _ ?_)
 | ((with_reducible apply awO_m); (· rfl); (· rfl); (· exact sv); (· (first | with_reducible exact c1)); (· exact svq); (· exact svq); (· exact svq); (· exact svq); (· rfl); (· exact nd); (with_reducible apply awO_st); (· exact svs))
 | ((first | ((with_reducible apply awO_guardN); (· rfl); (· rfl); (· exact sv); (· exact nB)) | ((with_reducible apply aw_condN); (· exact sv))); (· exact pN); (· exact pN); all_goals (intro hg; try (exfalso; omega)))
 | ((try with_reducible apply wk_id); (with_reducible apply retQ_mk1); (· exact rI); (· exact sv); (· exact sv); (· exact sv); (· exact sv); rotate_left; rotate_left; (· simp); (· rfl)))
  all_goals first | rfl | rw [e]; rfl
end
end Go.Proofs.YtgbhjlkenfmadaaGreatDoor
