/- The document's bang: last, ends, contains, event, on the abstract machine. -/
import Derived.Test.YtgbhjlkenfmadaaGreatDoorBhB
import Derived.Test.YtgbhjlkenfmadaaGreatDoorBgJ
namespace Go.Proofs.YtgbhjlkenfmadaaGreatDoor
open Go.RowKit
set_option linter.unusedVariables false
set_option linter.unusedSimpArgs false
set_option maxRecDepth 100000
set_option maxHeartbeats 8000000
theorem rlast_ab (F : Int) (L : List (List UInt8)) (hF : 1 ≤ F ∧ F ≤ 4294967296) (hL : L.length ≤ 100000) : Ab Tryz.prog 42 [hsA F L] (.tp [ai (F + L.length - 1), ab (decide (0 < L.length))]) := by
  by_cases h : 0 < L.length
  · have e : decide (0 < L.length) = true := decide_eq_true h
    have e2 : decide ((0 : Int) < (L.length : Int)) = true := decide_eq_true (by omega)
    refine Fn_of_aw (keep := []) Tryz.func42 rfl rfl (by simp [Tryz.ntmps42]) ?_
    simp only [num_cons, num_nil, Tryz.ntmps42, Tryz.results42]
    repeat' (first
 | ((with_reducible apply awO_ev); (· rfl); (· exact sv))
 | ((with_reducible apply aw_seq); intro _ _)
 | (with_reducible apply aw_region)
 | ((with_reducible first | apply awO_nil | apply aw_exit | apply aw_skip | apply aw_ret); (try simp only [CT, ↓reduceIte, Nat.reduceEqDiff]))
 | (refine Kont.go ‹Kont _ _ _ _› _ ?_)
 | ((with_reducible apply aw_draw); (· decide +kernel); (simp only [List.size_toArray, List.length_cons, List.length_nil, Nat.reduceAdd]))
 | ((with_reducible apply awY_done); (· decide +kernel); (try simp only [CT, ↓reduceIte, Nat.reduceEqDiff]))
 | ((with_reducible apply awY_q); (· exact sQ); (· exact np); (· exact svg); (· rfl); (· exact sv))
 | ((with_reducible apply retQ_mk); (· exact rI); (· exact sv); (· exact sv); rotate_left; (· rfl)))
    all_goals (rw [e, e2]; done)
  · have e : decide (0 < L.length) = false := decide_eq_false h
    have e2 : decide ((0 : Int) < (L.length : Int)) = false := decide_eq_false (by omega)
    refine Fn_of_aw (keep := []) Tryz.func42 rfl rfl (by simp [Tryz.ntmps42]) ?_
    simp only [num_cons, num_nil, Tryz.ntmps42, Tryz.results42]
    repeat' (first
 | ((with_reducible apply awO_ev); (· rfl); (· exact sv))
 | ((with_reducible apply aw_seq); intro _ _)
 | (with_reducible apply aw_region)
 | ((with_reducible first | apply awO_nil | apply aw_exit | apply aw_skip | apply aw_ret); (try simp only [CT, ↓reduceIte, Nat.reduceEqDiff]))
 | (refine Kont.go ‹Kont _ _ _ _› _ ?_)
 | ((with_reducible apply aw_draw); (· decide +kernel); (simp only [List.size_toArray, List.length_cons, List.length_nil, Nat.reduceAdd]))
 | ((with_reducible apply awY_done); (· decide +kernel); (try simp only [CT, ↓reduceIte, Nat.reduceEqDiff]))
 | ((with_reducible apply awY_q); (· exact sQ); (· exact np); (· exact svg); (· rfl); (· exact sv))
 | ((with_reducible apply retQ_mk); (· exact rI); (· exact sv); (· exact sv); rotate_left; (· rfl)))
    all_goals (rw [e, e2]; done)
theorem trB_alt (c : UInt8) : List.contains [9, 10, 32, 58, 94, 36, 42, 33, 59, 38, 124, 60, 62, 40, 41, 61, 39, 34, 96, 92] c = trB c := by
  show List.contains (9 :: 10 :: 32 :: [58, 94, 36, 42, 33, 59, 38, 124, 60, 62, 40, 41, 61, 39, 34, 96, 92]) c = List.contains (9 :: 32 :: 10 :: [58, 94, 36, 42, 33, 59, 38, 124, 60, 62, 40, 41, 61, 39, 34, 96, 92]) c
  generalize ([58, 94, 36, 42, 33, 59, 38, 124, 60, 62, 40, 41, 61, 39, 34, 96, 92] : List UInt8) = r
  simp only [List.contains_cons]
  exact congrArg _ (Bool.or_left_comm _ _ _)
theorem rends_ab (c : UInt8) : Ab Tryz.prog 74 [au c] (ab (trB c)) := by
  have c1 := rin_ab [9, 10, 32, 58, 94, 36, 42, 33, 59, 38, 124, 60, 62, 40, 41, 61, 39, 34, 96, 92] c (by decide)
  rw [trB_alt] at c1
  refine Fn_of_aw (keep := []) Tryz.func74 rfl rfl (by simp [Tryz.ntmps74]) ?_
  simp only [num_cons, num_nil, Tryz.ntmps74, Tryz.results74]
  repeat' (first
 | ((with_reducible apply awO_ev); (· rfl); (· exact sv))
 | ((with_reducible apply aw_seq); intro _ _)
 | (with_reducible apply aw_region)
 | ((with_reducible first | apply awO_nil | apply aw_exit | apply aw_skip | apply aw_ret); (try simp only [CT, ↓reduceIte, Nat.reduceEqDiff]))
 | (refine Kont.go ‹Kont _ _ _ _› _ ?_)
 | ((with_reducible apply awO_c); (· rfl); (· rfl); (· exact sv); (· (first | exact c1)); (· rfl); (· rfl); (· rfl); (· decide))
 | ((with_reducible apply retQ_mk); (· exact rI); (· exact sv); (· exact sv); rotate_left; (· rfl)))
  all_goals rfl
theorem trB_no {c : UInt8} (h : trB c = true) : dgB c = false ∧ ¬ c.toNat = 45 ∧ ¬ c.toNat = 63 := by
  unfold trB trmL at h
  rw [List.contains_iff_mem] at h
  simp only [List.mem_cons, List.not_mem_nil, or_false] at h
  rcases h with h | h | h | h | h | h | h | h | h | h | h | h | h | h | h | h | h | h | h | h <;> subst h <;> decide
section
variable (F : Int) (L : List (List UInt8)) (s : List UInt8)
/-- What a search gives, and the line of its number. -/
theorem numR_some {F : Int} {L : List (List UInt8)} {q : List UInt8 → Bool} {k : Nat} (h : lstI q L = some k) : numR F q L = (F + k, true) ∧ ∃ l, lstS q L = some l ∧ getR F L (F + k) = (l, 0) := by
  have hk := lstI_lt h
  exact ⟨by unfold numR; rw [h], L[k], by unfold lstS; rw [h]; simp [hk], by unfold getR; rw [getL_idx hk, List.getElem?_eq_getElem hk]⟩
theorem numR_none {F : Int} {L : List (List UInt8)} {q : List UInt8 → Bool} (h : lstI q L = none) : numR F q L = (0, false) ∧ lstS q L = none := ⟨by unfold numR; rw [h], by unfold lstS; rw [h]; rfl⟩
theorem rcon_ab (i : Nat) (z : Int) (hz : z = i) (hi : i ≤ s.length) (hs : s.length ≤ 4096) (hF : 1 ≤ F ∧ F ≤ 2147483647) (hL : L.length ≤ 100000) (hl : ∀ l ∈ L, l.length ≤ 4096) :
    ∃ j : Int, Ab Tryz.prog 73 [hsA F L, az s, ai z] (.tp [az (conF L s i).1, ai j, ai (conF L s i).2.2]) ∧ ((conF L s i).2.2 = 0 → j = (conF L s i).2.1) := by
  subst hz
  have c1 := rindex_ab s [63] i i rfl (by decide) (by omega) (by omega) (by decide)
  have c2 := fun p hp0 (hp : p.length ≤ 100000) => rContains_ab F p L (by omega) hL (fun l h => by have := hl l h; omega) hp hp0
  have c3 := fun n => rget_ab F L n (by omega) hL
  rcases h : ixN [63] (s.drop i) with _ | _ | k
  · have ei : ixS [63] s i = -1 := by unfold ixS; rw [h]
    rw [ei] at c1
    by_cases h0 : s.drop i = []
    · have e : conF L s i = ([], 0, 6) := by unfold conF; rw [h]; simp only; rw [if_pos h0]
      have hlen0 : (s.drop i).length = 0 := by rw [h0]; rfl
      rw [List.length_drop] at hlen0
      rw [e]
      refine ⟨0, ?_, fun h => by cases h⟩
      refine Fn_of_aw (keep := []) Tryz.func73 rfl rfl (by simp [Tryz.ntmps73]) ?_
      simp only [num_cons, num_nil, Tryz.ntmps73, Tryz.results73]
      repeat' (first
 | ((with_reducible apply awO_ev); (· rfl); (· exact sv))
 | ((with_reducible apply aw_seq); intro _ _)
 | (with_reducible apply aw_region)
 | ((with_reducible first | apply awO_nil | apply aw_exit | apply aw_skip | apply aw_ret); (try simp only [CT, ↓reduceIte, Nat.reduceEqDiff]))
 | ((with_reducible apply aw_cond_true); (· exact sv))
 | (refine Kont.go ‹Kont _ _ _ _› _ ?_)
 | ((with_reducible apply awO_c); (· rfl); (· rfl); (· exact sv); (· (first | exact c1)); (· rfl); (· rfl); (· rfl); (· decide))
 | ((first | ((with_reducible apply awO_guardN); (· rfl); (· rfl); (· exact sv); (· exact nB)) | ((with_reducible apply aw_condN); (· exact sv))); (· exact pN); (· exact pN); all_goals (intro hg; try (exfalso; omega)))
 | ((with_reducible apply retQ_mk); (· exact rI); (· exact sv); (· exact sv); rotate_left; (· rfl)))
      all_goals rfl
    · have hlen0 : 0 < (s.drop i).length := List.length_pos_iff.2 h0
      rw [List.length_drop] at hlen0
      have et : (s.drop i).take (s.length - i) = s.drop i := List.take_of_length_le (by rw [List.length_drop]; omega)
      have c2' := c2 (s.drop i) h0 (by rw [List.length_drop]; omega)
      have e : conF L s i = orE (lstS (fun l => (ixN (s.drop i) l).isSome) L) s.length := by unfold conF; rw [h]; simp only; rw [if_neg h0]
      rw [← et] at c2'
      rw [et] at c2'
      rcases hn : lstI (fun l => (ixN (s.drop i) l).isSome) L with _ | k
      · obtain ⟨e2, e3⟩ := numR_none (F := F) hn
        rw [e2] at c2'
        rw [e3] at e
        rw [e]
        refine ⟨0, ?_, fun h => by cases h⟩
        refine Fn_of_aw (keep := []) Tryz.func73 rfl rfl (by simp [Tryz.ntmps73]) ?_
        simp only [num_cons, num_nil, Tryz.ntmps73, Tryz.results73]
        repeat' (first
 | ((with_reducible apply awO_ev); (· rfl); (· exact sv))
 | ((with_reducible apply aw_seq); intro _ _)
 | (with_reducible apply aw_region)
 | ((with_reducible first | apply awO_nil | apply aw_exit | apply aw_skip | apply aw_ret); (try simp only [CT, ↓reduceIte, Nat.reduceEqDiff]))
 | ((with_reducible apply aw_cond_true); (· exact sv))
 | (refine Kont.go ‹Kont _ _ _ _› _ ?_)
 | ((with_reducible apply awO_c); (· rfl); (· rfl); (· exact sv); (· (first | exact c1 | (first | exact c2' | (rw [et]; exact c2')))); (· rfl); (· rfl); (· rfl); (· decide))
 | ((with_reducible apply aw_draw); (· decide +kernel); (simp only [List.size_toArray, List.length_cons, List.length_nil, Nat.reduceAdd]))
 | ((with_reducible apply awY_done); (· decide +kernel); (try simp only [CT, ↓reduceIte, Nat.reduceEqDiff]))
 | ((with_reducible apply awY_q); (· exact sQ); (· exact np); (· exact svg); (· rfl); (· exact sv))
 | ((with_reducible apply awI_c); (· exact svg); (· rfl); (· rfl); (· exact sv); (· (first | exact c1 | (first | exact c2' | (rw [et]; exact c2')))); (· rfl); (· rfl); (· rfl); (· exact nd); simp only [put_some])
 | ((first | ((with_reducible apply awO_guardN); (· rfl); (· rfl); (· exact sv); (· exact nB)) | ((with_reducible apply aw_condN); (· exact sv))); (· exact pN); (· exact pN); all_goals (intro hg; try (exfalso; omega)))
 | ((with_reducible apply retQ_mk); (· exact rI); (· exact sv); (· exact sv); rotate_left; (· rfl))
 | ((with_reducible apply awY_p); (· exact sH); (first | ((with_reducible apply awP_1); (· decide +kernel)) | ((with_reducible apply awP_2); (· exact sP)))))
        all_goals rfl
      · obtain ⟨e2, l, e3, e4⟩ := numR_some (F := F) hn
        rw [e2] at c2'
        rw [e3] at e
        rw [e]
        have c3' := c3 (F + k)
        rw [e4] at c3'
        refine ⟨s.length, ?_, fun _ => rfl⟩
        refine Fn_of_aw (keep := []) Tryz.func73 rfl rfl (by simp [Tryz.ntmps73]) ?_
        simp only [num_cons, num_nil, Tryz.ntmps73, Tryz.results73]
        repeat' (first
 | ((with_reducible apply awO_ev); (· rfl); (· exact sv))
 | ((with_reducible apply aw_seq); intro _ _)
 | (with_reducible apply aw_region)
 | ((with_reducible first | apply awO_nil | apply aw_exit | apply aw_skip | apply aw_ret); (try simp only [CT, ↓reduceIte, Nat.reduceEqDiff]))
 | ((with_reducible apply aw_cond_true); (· exact sv))
 | ((with_reducible apply aw_cond_false); (· exact sv))
 | (refine Kont.go ‹Kont _ _ _ _› _ ?_)
 | ((with_reducible apply awO_c); (· rfl); (· rfl); (· exact sv); (· (first | exact c1 | (first | exact c2' | (rw [et]; exact c2')) | exact c3')); (· rfl); (· rfl); (· rfl); (· decide))
 | ((with_reducible apply aw_draw); (· decide +kernel); (simp only [List.size_toArray, List.length_cons, List.length_nil, Nat.reduceAdd]))
 | ((with_reducible apply awY_done); (· decide +kernel); (try simp only [CT, ↓reduceIte, Nat.reduceEqDiff]))
 | ((with_reducible apply awY_q); (· exact sQ); (· exact np); (· exact svg); (· rfl); (· exact sv))
 | ((with_reducible apply awI_c); (· exact svg); (· rfl); (· rfl); (· exact sv); (· (first | exact c1 | (first | exact c2' | (rw [et]; exact c2')) | exact c3')); (· rfl); (· rfl); (· rfl); (· exact nd); simp only [put_some])
 | ((first | ((with_reducible apply awO_guardN); (· rfl); (· rfl); (· exact sv); (· exact nB)) | ((with_reducible apply aw_condN); (· exact sv))); (· exact pN); (· exact pN); all_goals (intro hg; try (exfalso; omega)))
 | ((with_reducible apply retQ_mk); (· exact rI); (· exact sv); (· exact sv); rotate_left; (· rfl))
 | ((with_reducible apply awY_p); (· exact sH); (first | ((with_reducible apply awP_1); (· decide +kernel)) | ((with_reducible apply awP_2); (· exact sP)))))
        all_goals rfl
  · have e : conF L s i = ([], 0, 6) := by unfold conF; rw [h]
    have ei : ixS [63] s i = i := by unfold ixS; rw [h]; rfl
    rw [ei] at c1
    rw [e]
    refine ⟨0, ?_, fun h => by cases h⟩
    refine Fn_of_aw (keep := []) Tryz.func73 rfl rfl (by simp [Tryz.ntmps73]) ?_
    simp only [num_cons, num_nil, Tryz.ntmps73, Tryz.results73]
    repeat' (first
 | ((with_reducible apply awO_ev); (· rfl); (· exact sv))
 | ((with_reducible apply aw_seq); intro _ _)
 | (with_reducible apply aw_region)
 | ((with_reducible first | apply awO_nil | apply aw_exit | apply aw_skip | apply aw_ret); (try simp only [CT, ↓reduceIte, Nat.reduceEqDiff]))
 | ((with_reducible apply aw_cond_true); (· exact sv))
 | (refine Kont.go ‹Kont _ _ _ _› _ ?_)
 | ((with_reducible apply awO_c); (· rfl); (· rfl); (· exact sv); (· (first | exact c1)); (· rfl); (· rfl); (· rfl); (· decide))
 | ((first | ((with_reducible apply awO_guardN); (· rfl); (· rfl); (· exact sv); (· exact nB)) | ((with_reducible apply aw_condN); (· exact sv))); (· exact pN); (· exact pN); all_goals (intro hg; try (exfalso; omega)))
 | ((with_reducible apply retQ_mk); (· exact rI); (· exact sv); (· exact sv); rotate_left; (· rfl)))
    all_goals rfl
  · have b1 := (ixN_some h).1
    simp only [List.length_drop, List.length_cons, List.length_nil] at b1
    have ei : ixS [63] s i = ((i + (k + 1) : Nat) : Int) := by unfold ixS; rw [h]
    rw [ei] at c1
    have et : i + (k + 1) - i = k + 1 := by omega
    have e : conF L s i = orE (lstS (fun l => (ixN ((s.drop i).take (k + 1)) l).isSome) L) (i + (k + 1) + 1) := by unfold conF; rw [h]
    have hpl : ((s.drop i).take (k + 1)).length = k + 1 := by rw [List.length_take, List.length_drop]; omega
    have c2' := c2 ((s.drop i).take (k + 1)) (by intro e; rw [e] at hpl; simp at hpl) (by omega)
    rcases hn : lstI (fun l => (ixN ((s.drop i).take (k + 1)) l).isSome) L with _ | q
    · obtain ⟨e2, e3⟩ := numR_none (F := F) hn
      rw [e2] at c2'
      rw [e3] at e
      rw [e]
      refine ⟨0, ?_, fun h => by cases h⟩
      refine Fn_of_aw (keep := []) Tryz.func73 rfl rfl (by simp [Tryz.ntmps73]) ?_
      simp only [num_cons, num_nil, Tryz.ntmps73, Tryz.results73]
      repeat' (first
 | ((with_reducible apply awO_ev); (· rfl); (· exact sv))
 | ((with_reducible apply aw_seq); intro _ _)
 | (with_reducible apply aw_region)
 | ((with_reducible first | apply awO_nil | apply aw_exit | apply aw_skip | apply aw_ret); (try simp only [CT, ↓reduceIte, Nat.reduceEqDiff]))
 | ((with_reducible apply aw_cond_true); (· exact sv))
 | (refine Kont.go ‹Kont _ _ _ _› _ ?_)
 | ((with_reducible apply awO_c); (· rfl); (· rfl); (· exact sv); (· (first | exact c1 | (first | exact c2' | (rw [et]; exact c2')))); (· rfl); (· rfl); (· rfl); (· decide))
 | ((with_reducible apply aw_draw); (· decide +kernel); (simp only [List.size_toArray, List.length_cons, List.length_nil, Nat.reduceAdd]))
 | ((with_reducible apply awY_done); (· decide +kernel); (try simp only [CT, ↓reduceIte, Nat.reduceEqDiff]))
 | ((with_reducible apply awY_q); (· exact sQ); (· exact np); (· exact svg); (· rfl); (· exact sv))
 | ((with_reducible apply awI_c); (· exact svg); (· rfl); (· rfl); (· exact sv); (· (first | exact c1 | (first | exact c2' | (rw [et]; exact c2')))); (· rfl); (· rfl); (· rfl); (· exact nd); simp only [put_some])
 | ((first | ((with_reducible apply awO_guardN); (· rfl); (· rfl); (· exact sv); (· exact nB)) | ((with_reducible apply aw_condN); (· exact sv))); (· exact pN); (· exact pN); all_goals (intro hg; try (exfalso; omega)))
 | ((with_reducible apply retQ_mk); (· exact rI); (· exact sv); (· exact sv); rotate_left; (· rfl))
 | ((with_reducible apply awY_p); (· exact sH); (first | ((with_reducible apply awP_1); (· decide +kernel)) | ((with_reducible apply awP_2); (· exact sP)))))
      all_goals rfl
    · obtain ⟨e2, l, e3, e4⟩ := numR_some (F := F) hn
      rw [e2] at c2'
      rw [e3] at e
      rw [e]
      have c3' := c3 (F + q)
      rw [e4] at c3'
      refine ⟨((i + (k + 1) + 1 : Nat) : Int), ?_, fun _ => rfl⟩
      refine Fn_of_aw (keep := []) Tryz.func73 rfl rfl (by simp [Tryz.ntmps73]) ?_
      simp only [num_cons, num_nil, Tryz.ntmps73, Tryz.results73]
      repeat' (first
 | ((with_reducible apply awO_ev); (· rfl); (· exact sv))
 | ((with_reducible apply aw_seq); intro _ _)
 | (with_reducible apply aw_region)
 | ((with_reducible first | apply awO_nil | apply aw_exit | apply aw_skip | apply aw_ret); (try simp only [CT, ↓reduceIte, Nat.reduceEqDiff]))
 | ((with_reducible apply aw_cond_false); (· exact sv))
 | (refine Kont.go ‹Kont _ _ _ _› _ ?_)
 | ((with_reducible apply awO_c); (· rfl); (· rfl); (· exact sv); (· (first | exact c1 | (first | exact c2' | (rw [et]; exact c2')) | exact c3')); (· rfl); (· rfl); (· rfl); (· decide))
 | ((with_reducible apply aw_draw); (· decide +kernel); (simp only [List.size_toArray, List.length_cons, List.length_nil, Nat.reduceAdd]))
 | ((with_reducible apply awY_done); (· decide +kernel); (try simp only [CT, ↓reduceIte, Nat.reduceEqDiff]))
 | ((with_reducible apply awY_q); (· exact sQ); (· exact np); (· exact svg); (· rfl); (· exact sv))
 | ((with_reducible apply awI_c); (· exact svg); (· rfl); (· rfl); (· exact sv); (· (first | exact c1 | (first | exact c2' | (rw [et]; exact c2')) | exact c3')); (· rfl); (· rfl); (· rfl); (· exact nd); simp only [put_some])
 | ((first | ((with_reducible apply awO_guardN); (· rfl); (· rfl); (· exact sv); (· exact nB)) | ((with_reducible apply aw_condN); (· exact sv))); (· exact pN); (· exact pN); all_goals (intro hg; try (exfalso; omega)))
 | ((with_reducible apply retQ_mk); (· exact rI); (· exact sv); (· exact sv); rotate_left; (· rfl))
 | ((with_reducible apply awY_p); (· exact sH); (first | ((with_reducible apply awP_1); (· decide +kernel)) | ((with_reducible apply awP_2); (· exact sP)))))
      all_goals first | rfl | (rw [e]; done) | (rw [e]; rfl) | exact tp3 rfl (by omega) rfl
end
end Go.Proofs.YtgbhjlkenfmadaaGreatDoor
