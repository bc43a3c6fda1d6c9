/- bang: quick, line, on the abstract machine. -/
import Derived.Test.YtgbhjlkenfmadaaGreatDoorBgH
namespace Go.Proofs.YtgbhjlkenfmadaaGreatDoor
open Go.RowKit
set_option linter.unusedVariables false
set_option linter.unusedSimpArgs false
set_option maxRecDepth 100000
set_option maxHeartbeats 8000000
theorem orE_2 (x : Option (List UInt8)) (k : Nat) (h : (orE x k).2.2 = 0) : (orE x k).2.1 = k := by
  cases x with
  | none => cases h
  | some l => rfl
theorem lastR_or (L : List (List UInt8)) (k : Nat) : lastR L = ((orE L.getLast? k).1, (orE L.getLast? k).2.2) := by unfold lastR orE; cases L.getLast? <;> rfl
theorem getR_or (F : Int) (L : List (List UInt8)) (n : Int) (k : Nat) : getR F L n = ((orE (getL F L n) k).1, (orE (getL F L n) k).2.2) := by unfold getR orE; cases getL F L n <;> rfl
theorem cutN_len (p s : List UInt8) : (cutN p s).1.length ≤ s.length ∧ (cutN p s).2.1.length ≤ s.length := by
  unfold cutN
  rcases ixN p s with _ | m
  · exact ⟨Nat.le_refl _, Nat.zero_le _⟩
  · exact ⟨by simp only [List.length_take]; omega, by simp only [List.length_drop]; omega⟩
section
variable (F : Int) (L : List (List UInt8)) (s : List UInt8) (sh : Bool)
theorem quick_fn (h0 : 0 < s.length) (hs : s.length ≤ 4096) (hL : L.length ≤ 100000) (hl : ∀ l ∈ L, l.length ≤ 4096) :
    Fn Tryz.prog 23 [.pt 7 0] (xH F L s sh) (.tp [az (quiF L (s.drop 1)).1, ai (quiF L (s.drop 1)).2]) (xH F L s sh) [7] := by
  obtain ⟨r, hr⟩ : ∃ r, r = s.drop 1 := ⟨_, rfl⟩
  have c1 : Ab Tryz.prog 32 [az (List.drop 1 s), az [94]] (.tp [az (cutN [94] r).1, az (cutN [94] r).2.1, ab (cutN [94] r).2.2]) := by rw [hr]; exact cut_ab (List.drop 1 s) [94] (by rw [List.length_drop]; omega)
  have c2 := xlast_fn F L s sh hL
  have hrl : r.length = s.length - 1 := by rw [hr]; exact List.length_drop
  rw [← hr]
  clear hr
  refine Fn_of_aw (keep := [7]) Tryz.func23 rfl rfl (by simp [Tryz.ntmps23]) ?_
  simp only [num_cons, num_nil, Tryz.ntmps23, Tryz.results23]
  rcases h : ixN [94] r with _ | _ | k
  · have e : quiF L r = ([], 6) := by unfold quiF; rw [h]
    have ec : cutN [94] r = (r, [], false) := by unfold cutN; rw [h]
    rw [ec] at c1
    repeat' (first
 | ((with_reducible apply awO_ev); (· rfl); (· exact sv))
 | ((with_reducible apply aw_seq); intro _ _)
 | (with_reducible apply aw_region)
 | ((with_reducible first | apply awO_nil | apply aw_exit | apply aw_skip | apply aw_ret); (try simp only [CT, ↓reduceIte, Nat.reduceEqDiff]))
 | ((with_reducible apply awO_n); (· rfl); (· rfl); (· decide); (· exact sv); (· rfl); (· rfl); (· decide))
 | ((with_reducible apply aw_cond_true); (· exact sv))
 | (refine Kont.go ‹Kont _ _ _ _› _ ?_)
 | ((with_reducible apply awO_c); (· rfl); (· rfl); (· exact sv); (· (first | exact c1)); (· rfl); (· rfl); (· rfl); (· decide))
 | ((try with_reducible apply wk_id); (with_reducible apply retQ_mk1); (· exact rI); (· exact sv); (· exact sv); (· exact sv); (· exact sv); rotate_left; rotate_left; (· simp); (· rfl)))
    all_goals first | rfl | (rw [e]; done) | (rw [e]; rfl)
  · have e : quiF L r = ([], 6) := by unfold quiF; rw [h]
    have ec : cutN [94] r = ([], r.drop 1, true) := by unfold cutN; rw [h]; simp
    rw [ec] at c1
    repeat' (first
 | ((with_reducible apply awO_ev); (· rfl); (· exact sv))
 | ((with_reducible apply aw_seq); intro _ _)
 | (with_reducible apply aw_region)
 | ((with_reducible first | apply awO_nil | apply aw_exit | apply aw_skip | apply aw_ret); (try simp only [CT, ↓reduceIte, Nat.reduceEqDiff]))
 | ((with_reducible apply awO_y); (· rfl); (· rfl); (· decide); (· exact sv); (· exact sv))
 | ((with_reducible apply aw_cond_true); (· exact sv))
 | (refine Kont.go ‹Kont _ _ _ _› _ ?_)
 | ((with_reducible apply awO_c); (· rfl); (· rfl); (· exact sv); (· (first | exact c1)); (· rfl); (· rfl); (· rfl); (· decide))
 | ((try with_reducible apply wk_id); (with_reducible apply retQ_mk1); (· exact rI); (· exact sv); (· exact sv); (· exact sv); (· exact sv); rotate_left; rotate_left; (· simp); (· rfl)))
    all_goals first | rfl | (rw [e]; done) | (rw [e]; rfl)
  · have b1 := (ixN_some h).1
    simp only [List.length_cons, List.length_nil] at b1
    have ec : cutN [94] r = (r.take (k + 1), r.drop (k + 1 + 1), true) := by unfold cutN; rw [h]; rfl
    rw [ec] at c1
    have ha : (r.take (k + 1)).length = k + 1 := by rw [List.length_take]; omega
    have hne : r.take (k + 1) ≠ [] := by intro e; rw [e] at ha; simp at ha
    have hrl2 : (r.drop (k + 1 + 1)).length ≤ 4096 := by rw [List.length_drop]; omega
    have c3 := cut_ab (r.drop (k + 1 + 1)) [94] (by omega)
    have hq : quiF L r = match L.getLast? with
        | none => ([], 8)
        | some line => if (ixN (r.take (k + 1)) line).isSome = true then (rep1 (r.take (k + 1)) (cutN [94] (r.drop (k + 1 + 1))).1 line ++ (cutN [94] (r.drop (k + 1 + 1))).2.1, 0) else ([], 8) := by
      unfold quiF
      rw [h]
      simp only
      cases L.getLast? with
      | none => rfl
      | some line =>
        simp only
        rcases hx : ixN (r.take (k + 1)) line with _ | x
        · rfl
        · unfold rep1 cutN
          rw [hx]
          simp only [Option.isSome_some, if_true, ha]
          rcases ixN [94] (r.drop (k + 1 + 1)) with _ | m
          · simp
          · simp
    have hcb := cutN_len [94] (r.drop (k + 1 + 1))
    generalize r.take (k + 1) = a at *
    generalize r.drop (k + 1 + 1) = r2 at *
    generalize cutN [94] r2 = q at *
    obtain ⟨b, c, ok⟩ := q
    simp only at c3 hq hcb
    unfold lastR at c2
    rcases hla : L.getLast? with _ | line
    · rw [hla] at c2 hq
      have e := hq
      simp only at e
      repeat' (first
 | ((with_reducible apply awO_ev); (· rfl); (· exact sv))
 | ((with_reducible apply aw_seq); intro _ _)
 | (with_reducible apply aw_region)
 | ((with_reducible first | apply awO_nil | apply aw_exit | apply aw_skip | apply aw_ret); (try simp only [CT, ↓reduceIte, Nat.reduceEqDiff]))
 | ((with_reducible apply awO_y); (· rfl); (· rfl); (· decide); (· exact sv); (· exact sv))
 | ((with_reducible apply awO_n); (· rfl); (· rfl); (· decide); (· exact sv); (· rfl); (· rfl); (· decide))
 | ((with_reducible apply aw_cond_true); (· exact sv))
 | (refine Kont.go ‹Kont _ _ _ _› _ ?_)
 | ((with_reducible apply awO_c); (· rfl); (· rfl); (· exact sv); (· (first | exact c1 | exact c2 | exact c3)); (· rfl); (· rfl); (· rfl); (· decide))
 | ((with_reducible apply awO_m); (· rfl); (· rfl); (· exact sv); (· (first | exact c1 | exact c2 | exact c3)); (· exact svq); (· exact svq); (· exact svq); (· exact svq); (· rfl); (· exact nd); (with_reducible apply awO_st); (· exact svs))
 | ((first | ((with_reducible apply awO_guardN); (· rfl); (· rfl); (· exact sv); (· exact nB)) | ((with_reducible apply aw_condN); (· exact sv))); (· exact pN); (· exact pN); all_goals (intro hg; try (exfalso; omega)))
 | ((try with_reducible apply wk_id); (with_reducible apply retQ_mk1); (· exact rI); (· exact sv); (· exact sv); (· exact sv); (· exact sv); rotate_left; rotate_left; (· simp); (· rfl)))
      all_goals first | rfl | (rw [e]; done) | (rw [e]; rfl)
    · rw [hla] at c2 hq
      simp only at hq c2
      have hline : line.length ≤ 4096 := hl _ (List.mem_of_getLast? hla)
      have c4 := contains_ab line a (by omega)
      cases hc : (ixN a line).isSome with
      | false =>
        rw [hc] at c4 hq
        have e := hq
        rw [if_neg (by decide)] at e
        repeat' (first
 | ((with_reducible apply awO_ev); (· rfl); (· exact sv))
 | ((with_reducible apply aw_seq); intro _ _)
 | (with_reducible apply aw_region)
 | ((with_reducible first | apply awO_nil | apply aw_exit | apply aw_skip | apply aw_ret); (try simp only [CT, ↓reduceIte, Nat.reduceEqDiff]))
 | ((with_reducible apply awO_y); (· rfl); (· rfl); (· decide); (· exact sv); (· exact sv))
 | ((with_reducible apply aw_cond_true); (· exact sv))
 | ((with_reducible apply awO_un); (· rfl); (· decide); (· exact sv))
 | (refine Kont.go ‹Kont _ _ _ _› _ ?_)
 | ((with_reducible apply awO_c); (· rfl); (· rfl); (· exact sv); (· (first | exact c1 | exact c2 | exact c3 | exact c4)); (· rfl); (· rfl); (· rfl); (· decide))
 | ((with_reducible apply awO_m); (· rfl); (· rfl); (· exact sv); (· (first | exact c1 | exact c2 | exact c3 | exact c4)); (· exact svq); (· exact svq); (· exact svq); (· exact svq); (· rfl); (· exact nd); (with_reducible apply awO_st); (· exact svs))
 | ((first | ((with_reducible apply awO_guardN); (· rfl); (· rfl); (· exact sv); (· exact nB)) | ((with_reducible apply aw_condN); (· exact sv))); (· exact pN); (· exact pN); all_goals (intro hg; try (exfalso; omega)))
 | ((try with_reducible apply wk_id); (with_reducible apply retQ_mk1); (· exact rI); (· exact sv); (· exact sv); (· exact sv); (· exact sv); rotate_left; rotate_left; (· simp); (· rfl)))
        all_goals first | rfl | (rw [e]; done) | (rw [e]; rfl)
      | true =>
        rw [hc] at c4 hq
        rw [if_pos rfl] at hq
        have c5 := replace_ab line a b 1 (by omega) hne (by omega)
        rw [(lib_one hne hc).1] at c5
        have e := hq
        have hl1 := (lib_one (b := b) hne hc).2
        repeat' (first
 | ((with_reducible apply awO_ev); (· rfl); (· exact sv))
 | ((with_reducible apply aw_seq); intro _ _)
 | (with_reducible apply aw_region)
 | ((with_reducible first | apply awO_nil | apply aw_exit | apply aw_skip | apply aw_ret); (try simp only [CT, ↓reduceIte, Nat.reduceEqDiff]))
 | ((with_reducible apply awO_y); (· rfl); (· rfl); (· decide); (· exact sv); (· exact sv))
 | ((with_reducible apply aw_cond_false); (· exact sv))
 | ((with_reducible apply awO_un); (· rfl); (· decide); (· exact sv))
 | (refine Kont.go ‹Kont _ _ _ _› _ ?_)
 | ((with_reducible apply awO_c); (· rfl); (· rfl); (· exact sv); (· (first | exact c1 | exact c2 | exact c3 | exact c4 | exact c5)); (· rfl); (· rfl); (· rfl); (· decide))
 | ((with_reducible apply awO_m); (· rfl); (· rfl); (· exact sv); (· (first | exact c1 | exact c2 | exact c3 | exact c4 | exact c5)); (· exact svq); (· exact svq); (· exact svq); (· exact svq); (· rfl); (· exact nd); (with_reducible apply awO_st); (· exact svs))
 | ((first | ((with_reducible apply awO_guardN); (· rfl); (· rfl); (· exact sv); (· exact nB)) | ((with_reducible apply aw_condN); (· exact sv))); (· exact pN); (· exact pN); all_goals (intro hg; try (exfalso; omega)))
 | ((try with_reducible apply wk_id); (with_reducible apply retQ_mk1); (· exact rI); (· exact sv); (· exact sv); (· exact sv); (· exact sv); rotate_left; rotate_left; (· simp); (· rfl)))
        all_goals first | rfl | (rw [e]; done) | (rw [e]; rfl)
end
end Go.Proofs.YtgbhjlkenfmadaaGreatDoor
