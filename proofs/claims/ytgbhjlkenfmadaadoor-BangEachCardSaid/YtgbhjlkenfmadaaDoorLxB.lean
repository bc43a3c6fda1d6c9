/- The lexer's scanning functions that call no construct, on the abstract machine. -/
import Derived.Test.YtgbhjlkenfmadaaDoorLxS
namespace Go.Proofs.YtgbhjlkenfmadaaDoor
open Go.RowKit
set_option linter.unusedVariables false
set_option linter.unusedSimpArgs false
set_option maxRecDepth 100000
set_option maxHeartbeats 4000000
abbrev tpr (a : Nat) (p : Nat × Int) : AV := .tp [ai ((a + p.1 : Nat) : Int), ai p.2]
theorem tp_eq {a : Nat} {p : Nat × Int} {x y : Int} (h1 : x = ((a + p.1 : Nat) : Int)) (h2 : y = p.2) : AV.tp [.v (.int .i64 x), .v (.int .i64 y)] = tpr a p := by rw [h1, h2]
theorem tp_mk {a b : Nat} {e : Int} {p : Nat × Int} {x : Int} (hp : p = (b, e)) (h1 : x = ((a + b : Nat) : Int)) : AV.tp [.v (.int .i64 x), .v (.int .i64 e)] = tpr a p := by rw [hp, h1]
theorem dropc {s : List UInt8} {i : Nat} (h : i < s.length) : s.drop i = s[i] :: s.drop (i + 1) := List.drop_eq_getElem_cons h
theorem join_pre (l : List UInt8) : ([92, 10] : List UInt8).isPrefixOf l = joinB l := by
  match l with
  | [] => rfl
  | [a] => simp [joinB, List.isPrefixOf]
  | a :: b :: r =>
    rw [Bool.eq_iff_iff]
    simp only [List.isPrefixOf, Bool.and_true, Bool.and_eq_true, beq_iff_eq, joinB, decide_eq_true_eq, ← UInt8.toNat_inj, UInt8.reduceToNat]
    omega
theorem joins_ab (s : List UInt8) (i : Nat) (z : Int) (hz : z = i) (hi : i ≤ s.length) (hs : s.length ≤ 1000000) : Ab Tryd.prog 69 [az s, ai z] (ab (joinB (s.drop i))) := by
  subst hz
  rw [← join_pre]
  refine Fn_of_aw (keep := []) Tryd.func69 rfl rfl (by simp [Tryd.ntmps69]) ?_
  simp only [num_cons, num_nil, Tryd.ntmps69, Tryd.results69]
  repeat' (first
 | ((with_reducible apply awO_ev); (· rfl); (· exact sv))
 | ((with_reducible apply aw_seq); intro _ _)
 | (with_reducible apply aw_region)
 | ((first | (with_reducible apply awO_nil) | (with_reducible apply aw_exit) | (with_reducible apply aw_skip) | (with_reducible apply aw_ret)); (try simp only [CT, ↓reduceIte, Nat.reduceEqDiff]))
 | (refine Kont.go ‹Kont _ _ _ _› _ ?_)
 | ((with_reducible apply awO_c); (· rfl); (· rfl); (· exact sv); (· (first | exact hasPrefix_ab _ _)); (· rfl); (· rfl); (· rfl); (· decide))
 | ((with_reducible apply retQ_mk); (· (first | exact .inr rfl | exact .inl rfl)); (· exact sv); (· exact sv); rotate_left; (· rfl)))
  rfl
theorem comN_idx (l : List UInt8) : (idxB l 10 = -1 → comN l = l.length) ∧ (0 ≤ idxB l 10 → (comN l : Int) = idxB l 10) := by
  induction l with
  | nil => exact ⟨fun _ => rfl, fun h => absurd h (by decide)⟩
  | cons c r ih =>
    have e : c = 10 ↔ c.toNat = 10 := by rw [← UInt8.toNat_inj]; rfl
    have := idxB_ge r 10
    simp only [idxB, comN, List.length_cons]
    by_cases hc : c = 10
    · rw [if_pos hc, if_pos (e.1 hc)]; exact ⟨fun h => absurd h (by decide), fun _ => rfl⟩
    · rw [if_neg hc, if_neg (fun h => hc (e.2 h))]
      split
      · next h => exact ⟨fun _ => by rw [ih.1 h], fun h => absurd h (by decide)⟩
      · next h => exact ⟨fun h' => by omega, fun h' => by have := ih.2 (by omega); omega⟩
theorem comment_ab (s : List UInt8) (i : Nat) (z : Int) (hz : z = i) (hi : i ≤ s.length) (hs : s.length ≤ 1000000) : Ab Tryd.prog 70 [az s, ai z] (ai ((i + comN (s.drop i) : Nat) : Int)) := by
  subst hz
  have h1 := comN_idx (s.drop i)
  have h2 := idxB_ge (s.drop i) 10
  have h3 := idxB_lt (s.drop i) 10
  have h4 : (s.drop i).length = s.length - i := List.length_drop
  refine Fn_of_aw (keep := []) Tryd.func70 rfl rfl (by simp [Tryd.ntmps70]) ?_
  simp only [num_cons, num_nil, Tryd.ntmps70, Tryd.results70]
  repeat' (first
 | ((with_reducible apply awO_ev); (· rfl); (· exact sv))
 | ((with_reducible apply aw_seq); intro _ _)
 | (with_reducible apply aw_region)
 | ((first | (with_reducible apply awO_nil) | (with_reducible apply aw_exit) | (with_reducible apply aw_skip) | (with_reducible apply aw_ret)); (try simp only [CT, ↓reduceIte, Nat.reduceEqDiff]))
 | (refine Kont.go ‹Kont _ _ _ _› _ ?_)
 | ((with_reducible apply awO_c); (· rfl); (· rfl); (· exact sv); (· (first | exact indexByte_ab _ 10)); (· rfl); (· rfl); (· rfl); (· decide))
 | ((first | ((with_reducible apply awO_guard); (· rfl); (· rfl); (· exact sv)) | ((with_reducible apply aw_cond); (· exact sv))); all_goals (intro hg; (try simp only [Bool.not_true, Bool.not_false]); (try simp only [decide_eq_true_eq, decide_eq_false_iff_not, Bool.not_true, Bool.not_false, Bool.not_eq_true', Bool.not_eq_false', Bool.not_not, beq_eq_false_iff_ne, ne_eq, beq_iff_eq, decide_eq_decide] at hg); try (exfalso; omega)))
 | ((with_reducible apply retQ_mk); (· (first | exact .inr rfl | exact .inl rfl)); (· exact sv); (· exact sv); rotate_left; (· rfl)))
  · refine ai_eq ?_; have := h1.1 (by omega); omega
  · refine ai_eq ?_; have := h1.2 (by omega); omega
theorem idxB_mem (l : List UInt8) (c : UInt8) : 0 ≤ idxB l c ↔ c ∈ l := by
  induction l with
  | nil => exact ⟨fun h => absurd h (by show ¬ (0 : Int) ≤ -1; decide), fun h => by cases h⟩
  | cons b l ih =>
    have := idxB_ge l c
    simp only [idxB, List.mem_cons]
    by_cases h : b = c
    · rw [if_pos h]; exact ⟨fun _ => .inl h.symm, fun _ => by omega⟩
    · rw [if_neg h]
      split
      · next h' => exact ⟨fun h2 => absurd h2 (by decide), fun h2 => by rcases h2 with h2 | h2; exact absurd h2.symm h; have := ih.2 h2; omega⟩
      · next h' => exact ⟨fun h2 => .inr (ih.1 (by omega)), fun h2 => by rcases h2 with h2 | h2; exact absurd h2.symm h; have := ih.2 h2; omega⟩
theorem dol_cons (c : UInt8) (r : List UInt8) : dolB (c :: r) = decide (startsB c = true ∨ digitB c = true ∨ c ∈ ([64, 42, 35, 63, 45, 36, 33, 123, 40] : List UInt8)) := by
  rw [Bool.eq_iff_iff]
  simp only [dolB, specB, digitB, startsB, Bool.or_eq_true, decide_eq_true_eq, List.mem_cons, List.not_mem_nil, or_false, ← UInt8.toNat_inj, UInt8.reduceToNat]
  omega
theorem dollar_ab (s : List UInt8) (i : Nat) (z : Int) (hz : z = i) (hs : s.length ≤ 1000000) : Ab Tryd.prog 71 [az s, ai z] (ab (dolB (s.drop i))) := by
  subst hz
  by_cases hi : i < s.length
  · rw [dropc hi, dol_cons]
    have hm := idxB_mem [64, 42, 35, 63, 45, 36, 33, 123, 40] s[i]
    refine Fn_of_aw (keep := []) Tryd.func71 rfl rfl (by simp [Tryd.ntmps71]) ?_
    simp only [num_cons, num_nil, Tryd.ntmps71, Tryd.results71]
    repeat' (first
 | ((with_reducible apply awO_ev); (· rfl); (· exact sv))
 | ((with_reducible apply aw_seq); intro _ _)
 | (with_reducible apply aw_region)
 | ((first | (with_reducible apply awO_nil) | (with_reducible apply aw_exit) | (with_reducible apply aw_skip) | (with_reducible apply aw_ret)); (try simp only [CT, ↓reduceIte, Nat.reduceEqDiff]))
 | ((with_reducible apply awO_y); (· rfl); (· rfl); (· decide); (· exact sv); (· exact sv))
 | ((with_reducible apply awO_n); (· rfl); (· rfl); (· decide); (· exact sv); (· rfl); (· rfl); (· decide))
 | ((with_reducible apply awO_un); (· rfl); (· decide); (· exact sv))
 | (refine Kont.go ‹Kont _ _ _ _› _ ?_)
 | ((with_reducible apply awO_c); (· rfl); (· rfl); (· exact sv); (· (first | exact starts_ab _ | exact digit_ab _ | exact indexByte_ab _ _)); (· rfl); (· rfl); (· rfl); (· decide))
 | ((first | ((with_reducible apply awO_guard); (· rfl); (· rfl); (· exact sv)) | ((with_reducible apply aw_cond); (· exact sv))); all_goals (intro hg; (try simp only [Bool.not_true, Bool.not_false]); (try simp only [decide_eq_true_eq, decide_eq_false_iff_not, Bool.not_true, Bool.not_false, Bool.not_eq_true', Bool.not_eq_false', Bool.not_not, beq_eq_false_iff_ne, ne_eq, beq_iff_eq, decide_eq_decide] at hg); try (exfalso; omega)))
 | ((with_reducible apply retQ_mk); (· (first | exact .inr rfl | exact .inl rfl)); (· exact sv); (· exact sv); rotate_left; (· rfl)))
    all_goals (refine ab_eq ?_; simp only [decide_eq_true_eq, true_iff, hm])
    all_goals simp_all
  · rw [List.drop_eq_nil_of_le (by omega)]
    refine Fn_of_aw (keep := []) Tryd.func71 rfl rfl (by simp [Tryd.ntmps71]) ?_
    simp only [num_cons, num_nil, Tryd.ntmps71, Tryd.results71]
    repeat' (first
 | ((with_reducible apply awO_ev); (· rfl); (· exact sv))
 | ((with_reducible apply aw_seq); intro _ _)
 | (with_reducible apply aw_region)
 | ((first | (with_reducible apply awO_nil) | (with_reducible apply aw_exit) | (with_reducible apply aw_skip) | (with_reducible apply aw_ret)); (try simp only [CT, ↓reduceIte, Nat.reduceEqDiff]))
 | ((with_reducible apply awO_n); (· rfl); (· rfl); (· decide); (· exact sv); (· rfl); (· rfl); (· decide))
 | ((with_reducible apply awO_u); (· rfl); (· rfl); (· exact svr); (· rfl); (· decide))
 | (refine Kont.go ‹Kont _ _ _ _› _ ?_)
 | ((first | ((with_reducible apply awO_guard); (· rfl); (· rfl); (· exact sv)) | ((with_reducible apply aw_cond); (· exact sv))); all_goals (intro hg; (try simp only [Bool.not_true, Bool.not_false]); (try simp only [decide_eq_true_eq, decide_eq_false_iff_not, Bool.not_true, Bool.not_false, Bool.not_eq_true', Bool.not_eq_false', Bool.not_not, beq_eq_false_iff_ne, ne_eq, beq_iff_eq, decide_eq_decide] at hg); try (exfalso; omega)))
 | ((with_reducible apply retQ_mk); (· (first | exact .inr rfl | exact .inl rfl)); (· exact sv); (· exact sv); rotate_left; (· rfl)))
    rfl
theorem begins_ab (s : List UInt8) (i : Nat) (z : Int) (hz : z = i) (hi : i < s.length) (hs : s.length ≤ 1000000) : Ab Tryd.prog 48 [az s, ai z] (ab (begB (s.drop i))) := by
  subst hz
  rw [dropc hi]
  refine Fn_of_aw (keep := []) Tryd.func48 rfl rfl (by simp [Tryd.ntmps48]) ?_
  simp only [num_cons, num_nil, Tryd.ntmps48, Tryd.results48]
  repeat' (first
 | ((with_reducible apply awO_ev); (· rfl); (· exact sv))
 | ((with_reducible apply aw_seq); intro _ _)
 | (with_reducible apply aw_region)
 | (with_reducible apply aw_block)
 | ((first | (with_reducible apply awO_nil) | (with_reducible apply aw_exit) | (with_reducible apply aw_skip) | (with_reducible apply aw_ret)); (try simp only [CT, ↓reduceIte, Nat.reduceEqDiff]))
 | (refine Kont.go ‹Kont _ _ _ _› _ ?_)
 | ((with_reducible apply awO_c); (· rfl); (· rfl); (· exact sv); (· (first | exact dollar_ab s (i + 1) _ (by omega) hs)); (· rfl); (· rfl); (· rfl); (· decide))
 | ((first | ((with_reducible apply awO_guard); (· rfl); (· rfl); (· exact sv)) | ((with_reducible apply aw_cond); (· exact sv))); all_goals (intro hg; (try simp only [Bool.not_true, Bool.not_false]); (try simp only [decide_eq_true_eq, decide_eq_false_iff_not, Bool.not_true, Bool.not_false, Bool.not_eq_true', Bool.not_eq_false', Bool.not_not, beq_eq_false_iff_ne, ne_eq, beq_iff_eq, decide_eq_decide] at hg); try (exfalso; omega)))
 | ((with_reducible apply retQ_mk); (· (first | exact .inr rfl | exact .inl rfl)); (· exact sv); (· exact sv); rotate_left; (· rfl)))
  all_goals (refine ab_eq ?_; simp only [begB, Bool.or_eq_true, Bool.and_eq_true, decide_eq_true_eq, Bool.false_eq_true, true_iff, false_iff])
  all_goals (first | omega | exact .inr ⟨by omega, hg⟩ | (simp_all; done) | (intro h; simp_all; omega) | skip)
theorem backquoted_ab (s : List UInt8) (a : Nat) (z : Int) (hz : z = a) (ha : a < s.length) (hs : s.length ≤ 1000000) : Ab Tryd.prog 73 [az s, ai z] (tpr a (bqtN (s.drop (a + 1)) 1)) := by
  subst hz
  refine Fn_of_aw (keep := []) Tryd.func73 rfl rfl (by simp [Tryd.ntmps73]) ?_
  simp only [num_cons, num_nil, Tryd.ntmps73, Tryd.results73]
  repeat' (first
 | ((with_reducible apply awO_ev); (· rfl); (· exact sv))
 | ((with_reducible apply aw_seq); intro _ _)
 | (with_reducible apply aw_region)
 | (with_reducible apply aw_block)
 | ((first | (with_reducible apply awO_nil) | (with_reducible apply aw_exit) | (with_reducible apply aw_skip) | (with_reducible apply aw_ret)); (try simp only [CT, ↓reduceIte, Nat.reduceEqDiff]))
 | (refine Kont.go ‹Kont _ _ _ _› _ ?_))
  refine aw_loopF (fun i : Nat => [(6, ai i)]) (fun _ => []) (fun i => a + 1 ≤ i ∧ i ≤ s.length ∧ bqtN (s.drop (a + 1)) 1 = bqtN (s.drop i) (i - a)) (fun i => s.length - i) (a + 1) ⟨by omega, by omega, by congr 1; omega⟩ ?_ ?_ ?_
  · (simp only [LP, look_cons, look_nil, and_true, true_and, ↓reduceIte, Nat.reduceEqDiff, Option.some.injEq, AV.v.injEq, Value.int.injEq, Int.natCast_add, Int.cast_ofNat_Int])
  · (simp only [LP, look_cons, look_nil, and_true, true_and, ↓reduceIte, Nat.reduceEqDiff, Option.some.injEq, AV.v.injEq, Value.int.injEq, Int.natCast_add, Int.cast_ofNat_Int])
  intro i ⟨hi0, hi, hI⟩
  (simp only [LP, List.append_assoc, List.nil_append, List.cons_append, List.append_nil, List.contains_cons, List.contains_nil, Nat.reduceBEq, Bool.or_false, Bool.or_true, Bool.true_or, Bool.false_or, ↓reduceIte, Bool.false_eq_true])
  by_cases hil : i < s.length
  · rw [dropc hil] at hI
    by_cases hil2 : i + 1 < s.length
    · rw [dropc hil2] at hI
      simp only [bqtN] at hI
      repeat' (first
 | ((with_reducible apply awO_ev); (· rfl); (· exact sv))
 | ((with_reducible apply aw_seq); intro _ _)
 | (with_reducible apply aw_region)
 | (with_reducible apply aw_block)
 | ((first | (with_reducible apply awO_nil) | (with_reducible apply aw_exit) | (with_reducible apply aw_skip) | (with_reducible apply aw_ret)); (try simp only [CT, ↓reduceIte, Nat.reduceEqDiff]))
 | (refine Kont.go ‹Kont _ _ _ _› _ ?_)
 | ((first | ((with_reducible apply awO_guard); (· rfl); (· rfl); (· exact sv)) | ((with_reducible apply aw_cond); (· exact sv))); all_goals (intro hg; (try simp only [Bool.not_true, Bool.not_false]); (try simp only [decide_eq_true_eq, decide_eq_false_iff_not, Bool.not_true, Bool.not_false, Bool.not_eq_true', Bool.not_eq_false', Bool.not_not, beq_eq_false_iff_ne, ne_eq, beq_iff_eq, decide_eq_decide] at hg); try (exfalso; omega)))
 | ((with_reducible apply retQ_mk); (· (first | exact .inr rfl | exact .inl rfl)); (· exact sv); (· exact sv); rotate_left; (· rfl)))
      · refine tp_mk (b := i - a + 1) ?_ (by omega); rw [hI, if_pos (by omega)]
      · refine LE_mk (i + 1 + 1) ?_ ?_ sN sN sN
        · refine ⟨by omega, by omega, ?_⟩; rw [hI, if_neg (by omega), if_pos (by omega)]; congr 1; omega
        · omega
      · refine LE_mk (i + 1) ?_ ?_ sN sN sN
        · refine ⟨by omega, by omega, ?_⟩; rw [hI, if_neg (by omega), if_neg (by omega), ← dropc hil2]; congr 1; omega
        · omega
    · rw [List.drop_eq_nil_of_le (by omega : s.length ≤ i + 1)] at hI
      simp only [bqtN] at hI
      repeat' (first
 | ((with_reducible apply awO_ev); (· rfl); (· exact sv))
 | ((with_reducible apply aw_seq); intro _ _)
 | (with_reducible apply aw_region)
 | (with_reducible apply aw_block)
 | ((first | (with_reducible apply awO_nil) | (with_reducible apply aw_exit) | (with_reducible apply aw_skip) | (with_reducible apply aw_ret)); (try simp only [CT, ↓reduceIte, Nat.reduceEqDiff]))
 | (refine Kont.go ‹Kont _ _ _ _› _ ?_)
 | ((first | ((with_reducible apply awO_guard); (· rfl); (· rfl); (· exact sv)) | ((with_reducible apply aw_cond); (· exact sv))); all_goals (intro hg; (try simp only [Bool.not_true, Bool.not_false]); (try simp only [decide_eq_true_eq, decide_eq_false_iff_not, Bool.not_true, Bool.not_false, Bool.not_eq_true', Bool.not_eq_false', Bool.not_not, beq_eq_false_iff_ne, ne_eq, beq_iff_eq, decide_eq_decide] at hg); try (exfalso; omega)))
 | ((with_reducible apply retQ_mk); (· (first | exact .inr rfl | exact .inl rfl)); (· exact sv); (· exact sv); rotate_left; (· rfl)))
      · refine tp_mk (b := i - a + 1) ?_ (by omega); rw [hI, if_pos (by omega)]
      · refine tp_mk (b := i - a) ?_ (by omega); rw [hI, if_neg (by omega), if_pos (by omega)]
      · refine LE_mk (i + 1) ?_ ?_ sN sN sN
        · refine ⟨by omega, by omega, ?_⟩; rw [hI, if_neg (by omega), if_neg (by omega), List.drop_eq_nil_of_le (by omega : s.length ≤ i + 1)]; rfl
        · omega
  · rw [List.drop_eq_nil_of_le (by omega : s.length ≤ i)] at hI
    repeat' (first
 | ((with_reducible apply awO_ev); (· rfl); (· exact sv))
 | ((with_reducible apply aw_seq); intro _ _)
 | (with_reducible apply aw_region)
 | ((first | (with_reducible apply awO_nil) | (with_reducible apply aw_exit) | (with_reducible apply aw_skip) | (with_reducible apply aw_ret)); (try simp only [CT, ↓reduceIte, Nat.reduceEqDiff]))
 | (refine Kont.go ‹Kont _ _ _ _› _ ?_)
 | ((first | ((with_reducible apply awO_guard); (· rfl); (· rfl); (· exact sv)) | ((with_reducible apply aw_cond); (· exact sv))); all_goals (intro hg; (try simp only [Bool.not_true, Bool.not_false]); (try simp only [decide_eq_true_eq, decide_eq_false_iff_not, Bool.not_true, Bool.not_false, Bool.not_eq_true', Bool.not_eq_false', Bool.not_not, beq_eq_false_iff_ne, ne_eq, beq_iff_eq, decide_eq_decide] at hg); try (exfalso; omega)))
 | ((with_reducible apply retQ_mk); (· (first | exact .inr rfl | exact .inl rfl)); (· exact sv); (· exact sv); rotate_left; (· rfl)))
    refine tp_mk (b := 0) ?_ (by omega); rw [hI]; rfl
end Go.Proofs.YtgbhjlkenfmadaaDoor
