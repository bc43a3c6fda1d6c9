/- The document's bang: quick, on the abstract machine. -/
import Derived.Test.YtgbhjlkenfmadaaGreatDoorBhC
import Derived.Test.YtgbhjlkenfmadaaGreatDoorBgN
namespace Go.Proofs.YtgbhjlkenfmadaaGreatDoor
open Go.RowKit
set_option linter.unusedVariables false
set_option linter.unusedSimpArgs false
set_option maxRecDepth 100000
set_option maxHeartbeats 16000000
theorem tp2z {t t' : List UInt8} {e e' : Int} (h1 : t = t') (h2 : e = e') : AV.tp [.v (.string (str t)), .v (.int .i64 e)] = .tp [az t', ai e'] := by rw [h1, h2]
theorem rquick_ab (F : Int) (L : List (List UInt8)) (s : List UInt8) (hs : s.length ≤ 4096) (hF : 1 ≤ F ∧ F ≤ 2147483647) (hL : L.length ≤ 100000) (hl : ∀ l ∈ L, l.length ≤ 4096) (h0 : 0 < s.length) :
    Ab Tryz.prog 26 [hsA F L, az s] (.tp [az (quiF L (s.drop 1)).1, ai (quiF L (s.drop 1)).2]) := by
  have c1 := rindex_ab s [94] 1 1 rfl (by decide) (by omega) (by omega) (by decide)
  by_cases hbad : ixS [94] s 1 < 2
  · have e : quiF L (s.drop 1) = ([], 6) := by
      unfold quiF
      rcases h : ixN [94] (s.drop 1) with _ | _ | k
      · rfl
      · rfl
      · unfold ixS at hbad
        rw [h] at hbad
        simp only at hbad
        omega
    generalize ixS [94] s 1 = y at *
    rw [e]
    refine Fn_of_aw (keep := []) Tryz.func26 rfl rfl (by simp [Tryz.ntmps26]) ?_
    simp only [num_cons, num_nil, Tryz.ntmps26, Tryz.results26]
    repeat' (first
 | ((with_reducible apply awO_ev); (· rfl); (· exact sv))
 | ((with_reducible apply aw_seq); intro _ _)
 | (with_reducible apply aw_region)
 | ((with_reducible first | apply awO_nil | apply aw_exit | apply aw_skip | apply aw_ret); (try simp only [CT, ↓reduceIte, Nat.reduceEqDiff]))
 | (refine Kont.go ‹Kont _ _ _ _› _ ?_)
 | ((with_reducible apply awO_c); (· rfl); (· rfl); (· exact sv); (· (first | exact c1)); (· rfl); (· rfl); (· rfl); (· decide))
 | ((first | ((with_reducible apply awO_guardN); (· rfl); (· rfl); (· exact sv); (· exact nB)) | ((with_reducible apply aw_condN); (· exact sv))); (· exact pN); (· exact pN); all_goals (intro hg; try (exfalso; omega)))
 | ((with_reducible apply retQ_mk); (· exact rI); (· exact sv); (· exact sv); rotate_left; (· rfl)))
    all_goals first | rfl | exact tp2z rfl rfl
  obtain ⟨n, hn⟩ : ∃ n, ixN [94] (s.drop 1) = some (n + 1) := by
    rcases h : ixN [94] (s.drop 1) with _ | _ | n
    · exact absurd (by unfold ixS; rw [h]; exact (by decide : (-1 : Int) < 2)) hbad
    · exact absurd (by unfold ixS; rw [h]; exact (by decide : ((1 + 0 : Nat) : Int) < 2)) hbad
    · exact ⟨n, rfl⟩
  clear hbad
  have b1 := (ixN_some hn).1
  simp only [List.length_drop, List.length_cons, List.length_nil] at b1
  obtain ⟨k, hk⟩ : ∃ k, k = 1 + (n + 1) := ⟨_, rfl⟩
  have ek : ixS [94] s 1 = (k : Int) := by unfold ixS; rw [hn, hk]
  rw [ek] at c1
  have hAe : (s.drop 1).take (n + 1) = (s.drop 1).take (k - 1) := by rw [show k - 1 = n + 1 from by omega]
  have hBe : (s.drop 1).drop (n + 1 + 1) = s.drop (k + 1) := by rw [List.drop_drop, show 1 + (n + 1 + 1) = k + 1 from by omega]
  have hAl : ((s.drop 1).take (k - 1)).length = k - 1 := by simp only [List.length_take, List.length_drop]; omega
  have hAn : (s.drop 1).take (k - 1) ≠ [] := by
    intro h
    rw [h] at hAl
    simp only [List.length_nil] at hAl
    omega
  have hBl : (s.drop (k + 1)).length ≤ 4096 := by simp only [List.length_drop]; omega
  have e0 : quiF L (s.drop 1) = match L.getLast? with
      | none => ([], 8)
      | some line => match ixN ((s.drop 1).take (k - 1)) line with
        | none => ([], 8)
        | some x => (line.take x ++ (match ixN [94] (s.drop (k + 1)) with | none => s.drop (k + 1) | some m => (s.drop (k + 1)).take m) ++ line.drop (x + (n + 1)) ++
            (match ixN [94] (s.drop (k + 1)) with | none => [] | some m => (s.drop (k + 1)).drop (m + 1)), 0) := by
    unfold quiF
    rw [hn]
    simp only [hAe, hBe]
    cases L.getLast? with
    | none => rfl
    | some line =>
      simp only
      cases ixN ((s.drop 1).take (k - 1)) line with
      | none => rfl
      | some x =>
        simp only
        cases ixN [94] (s.drop (k + 1)) with
        | none => rfl
        | some m => rfl
  have c2 := rindex_ab (s.drop (k + 1)) [94] 0 0 rfl (by decide) (by omega) (by omega) (by decide)
  rw [ixS_zero] at c2
  have cl := rlast_ab F L (by omega) hL
  have c3 := fun line (hll : line.length ≤ 4096) => rindex_ab line ((s.drop 1).take (k - 1)) 0 0 rfl hAn (by omega) (by omega) (by rw [hAl]; omega)
  have hnk : n + 1 = ((s.drop 1).take (k - 1)).length := by omega
  rw [hnk] at e0
  clear hBe hAe hk ek hn
  generalize hA : (s.drop 1).take (k - 1) = A at *
  have hm : ∃ (y : Int) (B C : List UInt8), ixI [94] (s.drop (k + 1)) = y ∧ B.length ≤ 4096 ∧ C.length ≤ 4096 ∧ ((y < 0 ∧ B = s.drop (k + 1) ∧ C = []) ∨ (∃ m : Nat, y = m ∧ m + 1 ≤ (s.drop (k + 1)).length ∧ B = (s.drop (k + 1)).take m ∧ C = (s.drop (k + 1)).drop (m + 1))) ∧ quiF L (s.drop 1) = match L.getLast? with
      | none => ([], 8)
      | some line => match ixN A line with
        | none => ([], 8)
        | some x => (line.take x ++ B ++ line.drop (x + A.length) ++ C, 0) := by
    rcases h : ixN [94] (s.drop (k + 1)) with _ | m
    · rw [h] at e0
      exact ⟨-1, _, _, by unfold ixI; rw [h], hBl, Nat.zero_le _, .inl ⟨by omega, rfl, rfl⟩, e0⟩
    · rw [h] at e0
      have b2 := (ixN_some h).1
      simp only [List.length_cons, List.length_nil] at b2
      exact ⟨m, _, _, by unfold ixI; rw [h], by simp only [List.length_take, List.length_drop]; omega, by simp only [List.length_drop]; omega, .inr ⟨m, rfl, by omega, rfl, rfl⟩, e0⟩
  clear e0
  obtain ⟨y, B, C, hy, hB1, hC1, hyc, e0⟩ := hm
  rw [hy] at c2
  have ns : ¬ ((k : Int) < 2) := by omega
  by_cases hL0 : 0 < L.length
  rotate_left
  · have hn : L.getLast? = none := by rw [List.length_eq_zero_iff.1 (by omega : L.length = 0)]; rfl
    rw [decide_eq_false hL0] at cl
    have e : quiF L (s.drop 1) = ([], 8) := by rw [e0, hn]
    rw [e]
    rcases hyc with ⟨y1, y2, y3⟩ | ⟨m, y1, y0, y2, y3⟩
    · skip
      refine Fn_of_aw (keep := []) Tryz.func26 rfl rfl (by simp [Tryz.ntmps26]) ?_
      simp only [num_cons, num_nil, Tryz.ntmps26, Tryz.results26]
      repeat' (first
 | ((with_reducible apply awO_ev); (· rfl); (· exact sv))
 | ((with_reducible apply aw_seq); intro _ _)
 | (with_reducible apply aw_region)
 | ((with_reducible first | apply awO_nil | apply aw_exit | apply aw_skip | apply aw_ret); (try simp only [CT, ↓reduceIte, Nat.reduceEqDiff]))
 | ((with_reducible apply aw_cond_true); (· exact sv))
 | (refine Kont.go ‹Kont _ _ _ _› _ ?_)
 | ((with_reducible apply awO_c); (· rfl); (· rfl); (· exact sv); (· (first | exact c1 | exact c2 | exact cl)); (· rfl); (· rfl); (· rfl); (· decide))
 | ((with_reducible apply aw_draw); (· decide +kernel); (simp only [List.size_toArray, List.length_cons, List.length_nil, Nat.reduceAdd]))
 | ((with_reducible apply awY_done); (· decide +kernel); (try simp only [CT, ↓reduceIte, Nat.reduceEqDiff]))
 | ((with_reducible apply awY_q); (· exact sQ); (· exact np); (· exact svg); (· rfl); (· exact sv))
 | ((first | ((with_reducible apply awO_guardN); (· rfl); (· rfl); (· exact sv); (· exact nB)) | ((with_reducible apply aw_condN); (· exact sv))); (· exact pN); (· exact pN); all_goals (intro hg; try (exfalso; omega)))
 | ((with_reducible apply retQ_mk); (· exact rI); (· exact sv); (· exact sv); rotate_left; (· rfl)))
      all_goals first | rfl | exact tp2z rfl rfl
    · subst y1
      refine Fn_of_aw (keep := []) Tryz.func26 rfl rfl (by simp [Tryz.ntmps26]) ?_
      simp only [num_cons, num_nil, Tryz.ntmps26, Tryz.results26]
      repeat' (first
 | ((with_reducible apply awO_ev); (· rfl); (· exact sv))
 | ((with_reducible apply aw_seq); intro _ _)
 | (with_reducible apply aw_region)
 | ((with_reducible first | apply awO_nil | apply aw_exit | apply aw_skip | apply aw_ret); (try simp only [CT, ↓reduceIte, Nat.reduceEqDiff]))
 | ((with_reducible apply aw_cond_true); (· exact sv))
 | (refine Kont.go ‹Kont _ _ _ _› _ ?_)
 | ((with_reducible apply awO_c); (· rfl); (· rfl); (· exact sv); (· (first | exact c1 | exact c2 | exact cl)); (· rfl); (· rfl); (· rfl); (· decide))
 | ((with_reducible apply aw_draw); (· decide +kernel); (simp only [List.size_toArray, List.length_cons, List.length_nil, Nat.reduceAdd]))
 | ((with_reducible apply awY_done); (· decide +kernel); (try simp only [CT, ↓reduceIte, Nat.reduceEqDiff]))
 | ((with_reducible apply awY_q); (· exact sQ); (· exact np); (· exact svg); (· rfl); (· exact sv))
 | ((first | ((with_reducible apply awO_guardN); (· rfl); (· rfl); (· exact sv); (· exact nB)) | ((with_reducible apply aw_condN); (· exact sv))); (· exact pN); (· exact pN); all_goals (intro hg; try (exfalso; omega)))
 | ((with_reducible apply retQ_mk); (· exact rI); (· exact sv); (· exact sv); rotate_left; (· rfl)))
      all_goals first | rfl | exact tp2z rfl rfl
  have hne : L ≠ [] := List.length_pos_iff.1 hL0
  obtain ⟨line, hl0⟩ : ∃ l, L.getLast? = some l := ⟨_, List.getLast?_eq_some_getLast hne⟩
  have hll : line.length ≤ 4096 := hl _ (List.mem_of_getLast? hl0)
  rw [hl0] at e0
  rw [decide_eq_true hL0] at cl
  have cg := rget_ab F L (F + L.length - 1) (by omega) hL
  rw [show getR F L (F + L.length - 1) = (line, 0) from by unfold getR; rw [getL_last hne, hl0]] at cg
  have c4 := c3 line hll
  rw [ixS_zero] at c4
  rcases hx : ixN A line with _ | x
  · rw [show ixI A line = -1 from by unfold ixI; rw [hx]] at c4
    have e : quiF L (s.drop 1) = ([], 8) := by rw [e0]; simp only [hx]
    rw [e]
    rcases hyc with ⟨y1, y2, y3⟩ | ⟨m, y1, y0, y2, y3⟩
    · skip
      refine Fn_of_aw (keep := []) Tryz.func26 rfl rfl (by simp [Tryz.ntmps26]) ?_
      simp only [num_cons, num_nil, Tryz.ntmps26, Tryz.results26]
      repeat' (first
 | ((with_reducible apply awO_ev); (· rfl); (· exact sv))
 | ((with_reducible apply aw_seq); intro _ _)
 | (with_reducible apply aw_region)
 | ((with_reducible first | apply awO_nil | apply aw_exit | apply aw_skip | apply aw_ret); (try simp only [CT, ↓reduceIte, Nat.reduceEqDiff]))
 | ((with_reducible apply aw_cond_true); (· exact sv))
 | ((with_reducible apply aw_cond_false); (· exact sv))
 | (refine Kont.go ‹Kont _ _ _ _› _ ?_)
 | ((with_reducible apply awO_c); (· rfl); (· rfl); (· exact sv); (· (first | exact c1 | exact c2 | exact cl | exact cg | (rw [hA]; exact c4) | exact c4)); (· rfl); (· rfl); (· rfl); (· decide))
 | ((with_reducible apply aw_draw); (· decide +kernel); (simp only [List.size_toArray, List.length_cons, List.length_nil, Nat.reduceAdd]))
 | ((with_reducible apply awY_done); (· decide +kernel); (try simp only [CT, ↓reduceIte, Nat.reduceEqDiff]))
 | ((with_reducible apply awY_q); (· exact sQ); (· exact np); (· exact svg); (· rfl); (· exact sv))
 | ((first | ((with_reducible apply awO_guardN); (· rfl); (· rfl); (· exact sv); (· exact nB)) | ((with_reducible apply aw_condN); (· exact sv))); (· exact pN); (· exact pN); all_goals (intro hg; try (exfalso; omega)))
 | ((with_reducible apply retQ_mk); (· exact rI); (· exact sv); (· exact sv); rotate_left; (· rfl)))
      all_goals first | rfl | exact tp2z rfl rfl
    · subst y1
      refine Fn_of_aw (keep := []) Tryz.func26 rfl rfl (by simp [Tryz.ntmps26]) ?_
      simp only [num_cons, num_nil, Tryz.ntmps26, Tryz.results26]
      repeat' (first
 | ((with_reducible apply awO_ev); (· rfl); (· exact sv))
 | ((with_reducible apply aw_seq); intro _ _)
 | (with_reducible apply aw_region)
 | ((with_reducible first | apply awO_nil | apply aw_exit | apply aw_skip | apply aw_ret); (try simp only [CT, ↓reduceIte, Nat.reduceEqDiff]))
 | ((with_reducible apply aw_cond_true); (· exact sv))
 | ((with_reducible apply aw_cond_false); (· exact sv))
 | (refine Kont.go ‹Kont _ _ _ _› _ ?_)
 | ((with_reducible apply awO_c); (· rfl); (· rfl); (· exact sv); (· (first | exact c1 | exact c2 | exact cl | exact cg | (rw [hA]; exact c4) | exact c4)); (· rfl); (· rfl); (· rfl); (· decide))
 | ((with_reducible apply aw_draw); (· decide +kernel); (simp only [List.size_toArray, List.length_cons, List.length_nil, Nat.reduceAdd]))
 | ((with_reducible apply awY_done); (· decide +kernel); (try simp only [CT, ↓reduceIte, Nat.reduceEqDiff]))
 | ((with_reducible apply awY_q); (· exact sQ); (· exact np); (· exact svg); (· rfl); (· exact sv))
 | ((first | ((with_reducible apply awO_guardN); (· rfl); (· rfl); (· exact sv); (· exact nB)) | ((with_reducible apply aw_condN); (· exact sv))); (· exact pN); (· exact pN); all_goals (intro hg; try (exfalso; omega)))
 | ((with_reducible apply retQ_mk); (· exact rI); (· exact sv); (· exact sv); rotate_left; (· rfl)))
      all_goals first | rfl | exact tp2z rfl rfl
  · rw [show ixI A line = (x : Int) from by unfold ixI; rw [hx]] at c4
    have bx := (ixN_some hx).1
    have e : quiF L (s.drop 1) = (line.take x ++ B ++ line.drop (x + A.length) ++ C, 0) := by rw [e0]; simp only [hx]
    rw [e]
    clear e e0
    rcases hyc with ⟨y1, y2, y3⟩ | ⟨m, y1, y0, y2, y3⟩
    · subst y2
      subst y3
      have hAl2 : ((s.drop 1).take (k - 1)).length = A.length := by rw [hA]
      refine Fn_of_aw (keep := []) Tryz.func26 rfl rfl (by simp [Tryz.ntmps26]) ?_
      simp only [num_cons, num_nil, Tryz.ntmps26, Tryz.results26]
      repeat' (first
 | ((with_reducible apply awO_ev); (· rfl); (· exact sv))
 | ((with_reducible apply aw_seq); intro _ _)
 | (with_reducible apply aw_region)
 | ((with_reducible first | apply awO_nil | apply aw_exit | apply aw_skip | apply aw_ret); (try simp only [CT, ↓reduceIte, Nat.reduceEqDiff]))
 | ((with_reducible apply aw_cond_false); (· exact sv))
 | (refine Kont.go ‹Kont _ _ _ _› _ ?_)
 | ((with_reducible apply awO_c); (· rfl); (· rfl); (· exact sv); (· (first | exact c1 | exact c2 | exact cl | exact cg | (rw [hA]; exact c4) | exact c4)); (· rfl); (· rfl); (· rfl); (· decide))
 | ((with_reducible apply aw_draw); (· decide +kernel); (simp only [List.size_toArray, List.length_cons, List.length_nil, Nat.reduceAdd]))
 | ((with_reducible apply awY_done); (· decide +kernel); (try simp only [CT, ↓reduceIte, Nat.reduceEqDiff]))
 | ((with_reducible apply awY_q); (· exact sQ); (· exact np); (· exact svg); (· rfl); (· exact sv))
 | ((first | ((with_reducible apply awO_guardN); (· rfl); (· rfl); (· exact sv); (· exact nB)) | ((with_reducible apply aw_condN); (· exact sv))); (· exact pN); (· exact pN); all_goals (intro hg; try (exfalso; omega)))
 | ((with_reducible apply retQ_mk); (· exact rI); (· exact sv); (· exact sv); rotate_left; (· rfl)))
      all_goals first | rfl | (simp only [hA]; rfl) | (simp only [hA]; exact tp2z rfl rfl) | (simp only [hA, List.append_nil]; done) | (simp only [hA, List.append_nil]; exact tp2z rfl rfl)
    · subst y1
      subst y2
      subst y3
      have hAl2 : ((s.drop 1).take (k - 1)).length = A.length := by rw [hA]
      refine Fn_of_aw (keep := []) Tryz.func26 rfl rfl (by simp [Tryz.ntmps26]) ?_
      simp only [num_cons, num_nil, Tryz.ntmps26, Tryz.results26]
      repeat' (first
 | ((with_reducible apply awO_ev); (· rfl); (· exact sv))
 | ((with_reducible apply aw_seq); intro _ _)
 | (with_reducible apply aw_region)
 | ((with_reducible first | apply awO_nil | apply aw_exit | apply aw_skip | apply aw_ret); (try simp only [CT, ↓reduceIte, Nat.reduceEqDiff]))
 | ((with_reducible apply aw_cond_false); (· exact sv))
 | (refine Kont.go ‹Kont _ _ _ _› _ ?_)
 | ((with_reducible apply awO_c); (· rfl); (· rfl); (· exact sv); (· (first | exact c1 | exact c2 | exact cl | exact cg | (rw [hA]; exact c4) | exact c4)); (· rfl); (· rfl); (· rfl); (· decide))
 | ((with_reducible apply aw_draw); (· decide +kernel); (simp only [List.size_toArray, List.length_cons, List.length_nil, Nat.reduceAdd]))
 | ((with_reducible apply awY_done); (· decide +kernel); (try simp only [CT, ↓reduceIte, Nat.reduceEqDiff]))
 | ((with_reducible apply awY_q); (· exact sQ); (· exact np); (· exact svg); (· rfl); (· exact sv))
 | ((first | ((with_reducible apply awO_guardN); (· rfl); (· rfl); (· exact sv); (· exact nB)) | ((with_reducible apply aw_condN); (· exact sv))); (· exact pN); (· exact pN); all_goals (intro hg; try (exfalso; omega)))
 | ((with_reducible apply retQ_mk); (· exact rI); (· exact sv); (· exact sv); rotate_left; (· rfl)))
      all_goals first | rfl | (simp only [hA]; rfl) | (simp only [hA]; exact tp2z rfl rfl) | (simp only [hA, List.append_nil]; done) | (simp only [hA, List.append_nil]; exact tp2z rfl rfl)
end Go.Proofs.YtgbhjlkenfmadaaGreatDoor
