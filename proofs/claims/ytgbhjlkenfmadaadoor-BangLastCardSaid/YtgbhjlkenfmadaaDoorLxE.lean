/- The lexer's arithmetic and command, on the abstract machine. -/
import Derived.Test.YtgbhjlkenfmadaaDoorLxC
namespace Go.Proofs.YtgbhjlkenfmadaaDoor
open Go.RowKit
set_option linter.unusedVariables false
set_option linter.unusedSimpArgs false
set_option maxRecDepth 100000
set_option maxHeartbeats 8000000
theorem dep_le {c : UInt8} {dep i : Nat} (h : dep ≤ i) : (if c.toNat = 40 then dep + 1 else if c.toNat = 41 then dep - 1 else dep) ≤ i + 1 := by (repeat' split) <;> omega
theorem ari_step {c : UInt8} {r : List UInt8} {o dep : Nat} (h : ¬ (c.toNat = 41 ∧ dep = 0)) : ari (c :: r) o dep = if (pas (c :: r) 2).2 ≠ 0 then (o + (pas (c :: r) 2).1, (pas (c :: r) 2).2) else
    if (pas (c :: r) 2).1 = 0 then (0, 0) else ari (r.drop ((pas (c :: r) 2).1 - 1)) (o + (pas (c :: r) 2).1) (if c.toNat = 40 then dep + 1 else if c.toNat = 41 then dep - 1 else dep) := by
  rw [ari.eq_def]; simp only; rw [if_neg h]
theorem ari_close {c : UInt8} {r : List UInt8} {o : Nat} (h : c.toNat = 41) : ari (c :: r) o 0 = (match r with | [] => (0, 7) | d :: _ => if d.toNat = 41 then (o + 2, 0) else (o, 6)) := by
  rw [ari.eq_def]; simp only; rw [if_pos ⟨h, trivial⟩]; cases r <;> rfl
section
variable {n : Nat} (H : CONH n)
include H in
theorem arithmetic_ab (s : List UInt8) (a : Nat) (z : Int) (hs : s.length ≤ 1000000) (hz : z = a) (ha : a + 3 ≤ s.length) (hn : s.length - a ≤ n + 1) : Ab Tryd.prog 74 [az s, ai z] (tpr a (ari (s.drop (a + 3)) 3 0)) := by
  subst hz
  refine Fn_of_aw (keep := []) Tryd.func74 rfl rfl (by simp [Tryd.ntmps74]) ?_
  simp only [num_cons, num_nil, Tryd.ntmps74, Tryd.results74]
  repeat' (first
 | ((with_reducible apply awO_ev); (· rfl); (· exact sv))
 | ((with_reducible apply aw_seq); intro _ _)
 | (with_reducible apply aw_region)
 | (with_reducible apply aw_block)
 | ((first | (with_reducible apply awO_nil) | (with_reducible apply aw_exit) | (with_reducible apply aw_skip) | (with_reducible apply aw_ret)); (try simp only [CT, ↓reduceIte, Nat.reduceEqDiff]))
 | (refine Kont.go ‹Kont _ _ _ _› _ ?_))
  refine aw_loopF (fun x : Nat × Nat => [(7, ai x.1), (6, ai x.2)]) (fun _ => []) (fun x => a + 3 ≤ x.1 ∧ x.1 ≤ s.length ∧ x.2 ≤ x.1 ∧ ari (s.drop (a + 3)) 3 0 = ari (s.drop x.1) (x.1 - a) x.2) (fun x => s.length - x.1) (a + 3, 0) ⟨by simp, by simp only; omega, by simp, by simp only; congr 1; omega⟩ ?_ ?_ ?_
  · (simp only [LP, look_cons, look_nil, and_true, true_and, ↓reduceIte, Nat.reduceEqDiff, Option.some.injEq, AV.v.injEq, Value.int.injEq, Int.natCast_add, Int.cast_ofNat_Int])
  · (simp only [LP, look_cons, look_nil, and_true, true_and, ↓reduceIte, Nat.reduceEqDiff, Option.some.injEq, AV.v.injEq, Value.int.injEq, Int.natCast_add, Int.cast_ofNat_Int])
  rintro ⟨i, dep⟩ ⟨hi0, hi, hdep, hI⟩
  simp only at hi0 hi hdep hI
  (simp only [LP, List.append_assoc, List.nil_append, List.cons_append, List.append_nil, List.contains_cons, List.contains_nil, Nat.reduceBEq, Bool.or_false, Bool.or_true, Bool.true_or, Bool.false_or, ↓reduceIte, Bool.false_eq_true])
  by_cases hil : i < s.length
  · rw [dropc hil] at hI
    by_cases hend : s[i].toNat = 41 ∧ dep = 0
    · obtain ⟨h41, hd0⟩ := hend
      subst hd0
      rw [ari_close h41] at hI
      by_cases hil2 : i + 1 < s.length
      · rw [dropc hil2] at hI
        simp only at hI
        by_cases h2 : s[i + 1].toNat = 41
        · rw [if_pos h2] at hI
          repeat' (first
 | ((with_reducible apply awO_ev); (· rfl); (· exact sv))
 | ((with_reducible apply aw_seq); intro _ _)
 | (with_reducible apply aw_region)
 | (with_reducible apply aw_block)
 | ((first | (with_reducible apply awO_nil) | (with_reducible apply aw_exit) | (with_reducible apply aw_skip) | (with_reducible apply aw_ret)); (try simp only [CT, ↓reduceIte, Nat.reduceEqDiff]))
 | ((with_reducible apply awO_y); (· rfl); (· rfl); (· decide); (· exact sv); (· exact sv))
 | ((with_reducible apply aw_cond_false); (· exact sv))
 | (refine Kont.go ‹Kont _ _ _ _› _ ?_)
 | ((first | ((with_reducible apply awO_guard); (· rfl); (· rfl); (· exact sv)) | ((with_reducible apply aw_cond); (· exact sv))); all_goals (intro hg; (try simp only [Bool.not_true, Bool.not_false]); (try simp only [decide_eq_true_eq, decide_eq_false_iff_not, Bool.not_true, Bool.not_false, Bool.not_eq_true', Bool.not_eq_false', Bool.not_not, beq_eq_false_iff_ne, ne_eq, beq_iff_eq, decide_eq_decide] at hg); try (exfalso; omega)))
 | ((with_reducible apply retQ_mk); (· (first | exact .inr rfl | exact .inl rfl)); (· exact sv); (· exact sv); rotate_left; (· rfl)))
          exact tp_mk (b := i - a + 2) hI (by omega)
        · rw [if_neg h2] at hI
          repeat' (first
 | ((with_reducible apply awO_ev); (· rfl); (· exact sv))
 | ((with_reducible apply aw_seq); intro _ _)
 | (with_reducible apply aw_region)
 | (with_reducible apply aw_block)
 | ((first | (with_reducible apply awO_nil) | (with_reducible apply aw_exit) | (with_reducible apply aw_skip) | (with_reducible apply aw_ret)); (try simp only [CT, ↓reduceIte, Nat.reduceEqDiff]))
 | ((with_reducible apply awO_y); (· rfl); (· rfl); (· decide); (· exact sv); (· exact sv))
 | ((with_reducible apply aw_cond_false); (· exact sv))
 | (refine Kont.go ‹Kont _ _ _ _› _ ?_)
 | ((first | ((with_reducible apply awO_guard); (· rfl); (· rfl); (· exact sv)) | ((with_reducible apply aw_cond); (· exact sv))); all_goals (intro hg; (try simp only [Bool.not_true, Bool.not_false]); (try simp only [decide_eq_true_eq, decide_eq_false_iff_not, Bool.not_true, Bool.not_false, Bool.not_eq_true', Bool.not_eq_false', Bool.not_not, beq_eq_false_iff_ne, ne_eq, beq_iff_eq, decide_eq_decide] at hg); try (exfalso; omega)))
 | ((with_reducible apply retQ_mk); (· (first | exact .inr rfl | exact .inl rfl)); (· exact sv); (· exact sv); rotate_left; (· rfl)))
          exact tp_mk (b := i - a) hI (by omega)
      · rw [List.drop_eq_nil_of_le (by omega : s.length ≤ i + 1)] at hI
        simp only at hI
        repeat' (first
 | ((with_reducible apply awO_ev); (· rfl); (· exact sv))
 | ((with_reducible apply aw_seq); intro _ _)
 | (with_reducible apply aw_region)
 | (with_reducible apply aw_block)
 | ((first | (with_reducible apply awO_nil) | (with_reducible apply aw_exit) | (with_reducible apply aw_skip) | (with_reducible apply aw_ret)); (try simp only [CT, ↓reduceIte, Nat.reduceEqDiff]))
 | ((with_reducible apply awO_y); (· rfl); (· rfl); (· decide); (· exact sv); (· exact sv))
 | ((with_reducible apply aw_cond_false); (· exact sv))
 | (refine Kont.go ‹Kont _ _ _ _› _ ?_)
 | ((first | ((with_reducible apply awO_guard); (· rfl); (· rfl); (· exact sv)) | ((with_reducible apply aw_cond); (· exact sv))); all_goals (intro hg; (try simp only [Bool.not_true, Bool.not_false]); (try simp only [decide_eq_true_eq, decide_eq_false_iff_not, Bool.not_true, Bool.not_false, Bool.not_eq_true', Bool.not_eq_false', Bool.not_not, beq_eq_false_iff_ne, ne_eq, beq_iff_eq, decide_eq_decide] at hg); try (exfalso; omega)))
 | ((with_reducible apply retQ_mk); (· (first | exact .inr rfl | exact .inl rfl)); (· exact sv); (· exact sv); rotate_left; (· rfl)))
        exact tp_mk (b := 0) hI (by omega)
    · rw [ari_step hend] at hI
      have c1 := inside_ab H s i i false hs rfl hil (by omega)
      have hok := pas_ok (l := s.drop i) (plN true false) (by rw [List.length_drop]; omega)
      have e1 : plN true false = 2 := rfl
      rw [e1] at c1 hok
      rw [dropc hil] at c1 hok
      obtain ⟨k1, k2, k3, k4⟩ := hok
      simp only [List.length_cons, List.length_drop] at k1
      generalize hp : pas (s[i] :: s.drop (i + 1)) 2 = p at *
      obtain ⟨pe, pr⟩ := p
      simp only at k1 k2 k3 k4 hI
      repeat' (first
 | ((with_reducible apply awO_ev); (· rfl); (· exact sv))
 | ((with_reducible apply aw_seq); intro _ _)
 | (with_reducible apply aw_region)
 | (with_reducible apply aw_block)
 | ((first | (with_reducible apply awO_nil) | (with_reducible apply aw_exit) | (with_reducible apply aw_skip) | (with_reducible apply aw_ret)); (try simp only [CT, ↓reduceIte, Nat.reduceEqDiff]))
 | ((with_reducible apply awO_y); (· rfl); (· rfl); (· decide); (· exact sv); (· exact sv))
 | ((with_reducible apply awO_n); (· rfl); (· rfl); (· decide); (· exact sv); (· rfl); (· rfl); (· decide))
 | ((with_reducible apply aw_cond_false); (· exact sv))
 | (refine Kont.go ‹Kont _ _ _ _› _ ?_)
 | ((with_reducible apply awO_c); (· rfl); (· rfl); (· exact sv); (· (first | with_reducible exact c1)); (· rfl); (· rfl); (· rfl); (· decide))
 | ((first | ((with_reducible apply awO_guard); (· rfl); (· rfl); (· exact sv)) | ((with_reducible apply aw_cond); (· exact sv))); all_goals (intro hg; (try simp only [Bool.not_true, Bool.not_false]); (try simp only [decide_eq_true_eq, decide_eq_false_iff_not, Bool.not_true, Bool.not_false, Bool.not_eq_true', Bool.not_eq_false', Bool.not_not, beq_eq_false_iff_ne, ne_eq, beq_iff_eq, decide_eq_decide] at hg); try (exfalso; omega)))
 | ((with_reducible apply retQ_mk); (· (first | exact .inr rfl | exact .inl rfl)); (· exact sv); (· exact sv); rotate_left; (· rfl)))
      all_goals (first
        | (exfalso; omega)
        | (refine tp_mk (b := i - a + pe) ?_ (by omega); rw [hI, if_pos hg])
        | (refine LE_mk ((i + pe, dep + 1)) ?_ ?_ sN sN sN
           · have := k2 hg
             refine ⟨by simp only; omega, by simp only; omega, by simp only; omega, ?_⟩
             rw [hI, if_neg (by simpa using hg), if_neg (by omega), drop_pas hil (by omega), if_pos (by omega)]; congr 1; simp only; omega
           · have := k2 hg; simp only; omega)
        | (refine LE_mk ((i + pe, dep - 1)) ?_ ?_ sN sN sN
           · have := k2 hg
             refine ⟨by simp only; omega, by simp only; omega, by simp only; omega, ?_⟩
             rw [hI, if_neg (by simpa using hg), if_neg (by omega), drop_pas hil (by omega), if_neg (by omega), if_pos (by omega)]; congr 1; simp only; omega
           · have := k2 hg; simp only; omega)
        | (refine LE_mk ((i + pe, dep)) ?_ ?_ sN sN sN
           · have := k2 hg
             refine ⟨by simp only; omega, by simp only; omega, by simp only; omega, ?_⟩
             rw [hI, if_neg (by simpa using hg), if_neg (by omega), drop_pas hil (by omega), if_neg (by omega), if_neg (by omega)]; congr 1; simp only; omega
           · have := k2 hg; simp only; omega)
        | skip)
  · rw [List.drop_eq_nil_of_le (by omega : s.length ≤ i)] at hI
    repeat' (first
 | ((with_reducible apply awO_ev); (· rfl); (· exact sv))
 | ((with_reducible apply aw_seq); intro _ _)
 | (with_reducible apply aw_region)
 | ((first | (with_reducible apply awO_nil) | (with_reducible apply aw_exit) | (with_reducible apply aw_skip) | (with_reducible apply aw_ret)); (try simp only [CT, ↓reduceIte, Nat.reduceEqDiff]))
 | (refine Kont.go ‹Kont _ _ _ _› _ ?_)
 | ((first | ((with_reducible apply awO_guard); (· rfl); (· rfl); (· exact sv)) | ((with_reducible apply aw_cond); (· exact sv))); all_goals (intro hg; (try simp only [Bool.not_true, Bool.not_false]); (try simp only [decide_eq_true_eq, decide_eq_false_iff_not, Bool.not_true, Bool.not_false, Bool.not_eq_true', Bool.not_eq_false', Bool.not_not, beq_eq_false_iff_ne, ne_eq, beq_iff_eq, decide_eq_decide] at hg); try (exfalso; omega)))
 | ((with_reducible apply retQ_mk); (· (first | exact .inr rfl | exact .inl rfl)); (· exact sv); (· exact sv); rotate_left; (· rfl)))
    refine tp_mk (b := 0) ?_ (by omega); rw [hI]; simp [ari]
include H in
theorem command_ab (s : List UInt8) (a : Nat) (z : Int) (hs : s.length ≤ 1000000) (hz : z = a) (ha : a + 2 ≤ s.length) (hn : s.length - a ≤ n + 1) : Ab Tryd.prog 75 [az s, ai z] (tpr a (cmd (s.drop (a + 2)) 2 0 true)) := by
  subst hz
  refine Fn_of_aw (keep := []) Tryd.func75 rfl rfl (by simp [Tryd.ntmps75]) ?_
  simp only [num_cons, num_nil, Tryd.ntmps75, Tryd.results75]
  repeat' (first
 | ((with_reducible apply awO_ev); (· rfl); (· exact sv))
 | ((with_reducible apply aw_seq); intro _ _)
 | (with_reducible apply aw_region)
 | (with_reducible apply aw_block)
 | ((first | (with_reducible apply awO_nil) | (with_reducible apply aw_exit) | (with_reducible apply aw_skip) | (with_reducible apply aw_ret)); (try simp only [CT, ↓reduceIte, Nat.reduceEqDiff]))
 | (refine Kont.go ‹Kont _ _ _ _› _ ?_))
  refine aw_loopF (fun x : Nat × Nat × Bool => [(8, ai x.1), (6, ai x.2.1), (7, ab x.2.2)]) (fun _ => []) (fun x => a + 2 ≤ x.1 ∧ x.1 ≤ s.length ∧ x.2.1 ≤ x.1 ∧ cmd (s.drop (a + 2)) 2 0 true = cmd (s.drop x.1) (x.1 - a) x.2.1 x.2.2) (fun x => s.length - x.1) (a + 2, 0, true) ⟨by simp, by simp only; omega, by simp, by simp only; congr 1; omega⟩ ?_ ?_ ?_
  · (simp only [LP, look_cons, look_nil, and_true, true_and, ↓reduceIte, Nat.reduceEqDiff, Option.some.injEq, AV.v.injEq, Value.int.injEq, Int.natCast_add, Int.cast_ofNat_Int])
  · (simp only [LP, look_cons, look_nil, and_true, true_and, ↓reduceIte, Nat.reduceEqDiff, Option.some.injEq, AV.v.injEq, Value.int.injEq, Int.natCast_add, Int.cast_ofNat_Int])
  rintro ⟨i, dep, st⟩ ⟨hi0, hi, hdep, hI⟩
  simp only at hi0 hi hdep hI
  (simp only [LP, List.append_assoc, List.nil_append, List.cons_append, List.append_nil, List.contains_cons, List.contains_nil, Nat.reduceBEq, Bool.or_false, Bool.or_true, Bool.true_or, Bool.false_or, ↓reduceIte, Bool.false_eq_true])
  by_cases hil : i < s.length
  · have c1 := joins_ab s i i rfl (by omega) hs
    rw [dropc hil] at hI c1
    by_cases hj : joinB (s[i] :: s.drop (i + 1)) = true
    · rw [hj] at c1
      rw [cmd, if_pos hj, List.drop_drop] at hI
      have hil2 : i + 1 < s.length := by
        rcases Nat.lt_or_ge (i + 1) s.length with h | h
        · exact h
        · rw [List.drop_eq_nil_of_le h] at hj; simp [joinB] at hj
      repeat' (first
 | ((with_reducible apply awO_ev); (· rfl); (· exact sv))
 | ((with_reducible apply aw_seq); intro _ _)
 | (with_reducible apply aw_region)
 | (with_reducible apply aw_block)
 | ((first | (with_reducible apply awO_nil) | (with_reducible apply aw_exit) | (with_reducible apply aw_skip) | (with_reducible apply aw_ret)); (try simp only [CT, ↓reduceIte, Nat.reduceEqDiff]))
 | ((with_reducible apply aw_cond_true); (· exact sv))
 | (refine Kont.go ‹Kont _ _ _ _› _ ?_)
 | ((with_reducible apply awO_c); (· rfl); (· rfl); (· exact sv); (· (first | with_reducible exact c1)); (· rfl); (· rfl); (· rfl); (· decide))
 | ((first | ((with_reducible apply awO_guard); (· rfl); (· rfl); (· exact sv)) | ((with_reducible apply aw_cond); (· exact sv))); all_goals (intro hg; (try simp only [Bool.not_true, Bool.not_false]); (try simp only [decide_eq_true_eq, decide_eq_false_iff_not, Bool.not_true, Bool.not_false, Bool.not_eq_true', Bool.not_eq_false', Bool.not_not, beq_eq_false_iff_ne, ne_eq, beq_iff_eq, decide_eq_decide] at hg); try (exfalso; omega))))
      refine LE_mk ((i + 2, dep, st)) ?_ ?_ sN sN sN
      · refine ⟨by simp only; omega, by simp only; omega, by simp only; omega, ?_⟩
        rw [hI]; congr 1; simp only; omega
      · simp only; omega
    have hj' : joinB (s[i] :: s.drop (i + 1)) = false := by simpa using hj
    rw [hj'] at c1
    rw [cmd, if_neg hj] at hI
    by_cases hcm : s[i].toNat = 35 ∧ st = true
    · rw [if_pos hcm] at hI
      obtain ⟨h35, rfl⟩ := hcm
      have c2 := comment_ab s i i rfl (by omega) hs
      have hcl := comN_le (s.drop i)
      rw [List.length_drop] at hcl
      rw [dropc hil] at c2 hcl
      have hc1 : 1 ≤ comN (s[i] :: s.drop (i + 1)) := by simp only [comN]; rw [if_neg (by omega)]; omega
      rw [drop_pas hil hc1] at hI
      generalize comN (s[i] :: s.drop (i + 1)) = cn at *
      repeat' (first
 | ((with_reducible apply awO_ev); (· rfl); (· exact sv))
 | ((with_reducible apply aw_seq); intro _ _)
 | (with_reducible apply aw_region)
 | (with_reducible apply aw_block)
 | ((first | (with_reducible apply awO_nil) | (with_reducible apply aw_exit) | (with_reducible apply aw_skip) | (with_reducible apply aw_ret)); (try simp only [CT, ↓reduceIte, Nat.reduceEqDiff]))
 | ((with_reducible apply awO_y); (· rfl); (· rfl); (· decide); (· exact sv); (· exact sv))
 | ((with_reducible apply aw_cond_true); (· exact sv))
 | ((with_reducible apply aw_cond_false); (· exact sv))
 | (refine Kont.go ‹Kont _ _ _ _› _ ?_)
 | ((with_reducible apply awO_c); (· rfl); (· rfl); (· exact sv); (· (first | with_reducible exact c1 | with_reducible exact c2)); (· rfl); (· rfl); (· rfl); (· decide))
 | ((first | ((with_reducible apply awO_guard); (· rfl); (· rfl); (· exact sv)) | ((with_reducible apply aw_cond); (· exact sv))); all_goals (intro hg; (try simp only [Bool.not_true, Bool.not_false]); (try simp only [decide_eq_true_eq, decide_eq_false_iff_not, Bool.not_true, Bool.not_false, Bool.not_eq_true', Bool.not_eq_false', Bool.not_not, beq_eq_false_iff_ne, ne_eq, beq_iff_eq, decide_eq_decide] at hg); try (exfalso; omega))))
      refine LE_mk ((i + cn, dep, true)) ?_ ?_ sN sN sN
      · refine ⟨by simp only; omega, by simp only; omega, by simp only; omega, ?_⟩
        rw [hI]; congr 1; simp only; omega
      · simp only; omega
    rw [if_neg hcm] at hI
    have c3 := begins_ab s i i rfl hil hs
    rw [dropc hil] at c3
    have hcm' : ¬ (s[i].toNat = 35 ∧ st = true) := hcm
    by_cases hb : begB (s[i] :: s.drop (i + 1)) = true
    · rw [hb] at c3
      rw [if_pos hb] at hI
      have c2 := H s i i false false hs rfl hil (by omega) (by rw [dropc hil]; exact hb) (fun h => h)
      have hok := con_ok (l := s.drop i) 0 (by rw [dropc hil]; exact hb)
      have e1 : plN false false = 0 := rfl
      rw [dropc hil] at c2 hok
      rw [e1] at c2
      obtain ⟨k1, k2, k3, k4⟩ := hok
      simp only [List.length_cons, List.length_drop] at k1
      generalize hp : con (s[i] :: s.drop (i + 1)) 0 = p at *
      obtain ⟨pe, pr⟩ := p
      simp only at k1 k2 k3 k4 hI
      repeat' (first
 | ((with_reducible apply awO_ev); (· rfl); (· exact sv))
 | ((with_reducible apply aw_seq); intro _ _)
 | (with_reducible apply aw_region)
 | (with_reducible apply aw_block)
 | ((first | (with_reducible apply awO_nil) | (with_reducible apply aw_exit) | (with_reducible apply aw_skip) | (with_reducible apply aw_ret)); (try simp only [CT, ↓reduceIte, Nat.reduceEqDiff]))
 | ((with_reducible apply awO_y); (· rfl); (· rfl); (· decide); (· exact sv); (· exact sv))
 | ((with_reducible apply awO_n); (· rfl); (· rfl); (· decide); (· exact sv); (· rfl); (· rfl); (· decide))
 | ((with_reducible apply aw_cond_true); (· exact sv))
 | ((with_reducible apply aw_cond_false); (· exact sv))
 | (refine Kont.go ‹Kont _ _ _ _› _ ?_)
 | ((with_reducible apply awO_c); (· rfl); (· rfl); (· exact sv); (· (first | with_reducible exact c1 | with_reducible exact c2 | with_reducible exact c3)); (· rfl); (· rfl); (· rfl); (· decide))
 | ((first | ((with_reducible apply awO_guard); (· rfl); (· rfl); (· exact sv)) | ((with_reducible apply aw_cond); (· exact sv))); all_goals (intro hg; (try simp only [Bool.not_true, Bool.not_false]); (try simp only [decide_eq_true_eq, decide_eq_false_iff_not, Bool.not_true, Bool.not_false, Bool.not_eq_true', Bool.not_eq_false', Bool.not_not, beq_eq_false_iff_ne, ne_eq, beq_iff_eq, decide_eq_decide] at hg); try (exfalso; omega)))
 | ((with_reducible apply retQ_mk); (· (first | exact .inr rfl | exact .inl rfl)); (· exact sv); (· exact sv); rotate_left; (· rfl)))
      all_goals (first
        | (exfalso; omega)
        | (exfalso; apply hcm'; exact ⟨by omega, ‹_›⟩)
        | (refine tp_mk (b := i - a + pe) ?_ (by omega); rw [hI, if_pos hg])
        | (refine LE_mk ((i + pe, dep, false)) ?_ ?_ sN sN sN
           · have := k2 hg
             refine ⟨by simp only; omega, by simp only; omega, by simp only; omega, ?_⟩
             rw [hI, if_neg (by simpa using hg), if_neg (by omega), drop_pas hil (by omega)]; congr 1; simp only; omega
           · have := k2 hg; simp only; omega)
        | skip)
    · have hb' : begB (s[i] :: s.drop (i + 1)) = false := by simpa using hb
      rw [hb'] at c3
      rw [if_neg hb] at hI
      by_cases he : s[i].toNat = 41 ∧ dep = 0
      · rw [if_pos he] at hI
        obtain ⟨h41, rfl⟩ := he
        repeat' (first
 | ((with_reducible apply awO_ev); (· rfl); (· exact sv))
 | ((with_reducible apply aw_seq); intro _ _)
 | (with_reducible apply aw_region)
 | (with_reducible apply aw_block)
 | ((first | (with_reducible apply awO_nil) | (with_reducible apply aw_exit) | (with_reducible apply aw_skip) | (with_reducible apply aw_ret)); (try simp only [CT, ↓reduceIte, Nat.reduceEqDiff]))
 | ((with_reducible apply awO_y); (· rfl); (· rfl); (· decide); (· exact sv); (· exact sv))
 | ((with_reducible apply awO_n); (· rfl); (· rfl); (· decide); (· exact sv); (· rfl); (· rfl); (· decide))
 | ((with_reducible apply aw_cond_true); (· exact sv))
 | ((with_reducible apply aw_cond_false); (· exact sv))
 | (refine Kont.go ‹Kont _ _ _ _› _ ?_)
 | ((with_reducible apply awO_c); (· rfl); (· rfl); (· exact sv); (· (first | with_reducible exact c1 | with_reducible exact c3)); (· rfl); (· rfl); (· rfl); (· decide))
 | ((first | ((with_reducible apply awO_guard); (· rfl); (· rfl); (· exact sv)) | ((with_reducible apply aw_cond); (· exact sv))); all_goals (intro hg; (try simp only [Bool.not_true, Bool.not_false]); (try simp only [decide_eq_true_eq, decide_eq_false_iff_not, Bool.not_true, Bool.not_false, Bool.not_eq_true', Bool.not_eq_false', Bool.not_not, beq_eq_false_iff_ne, ne_eq, beq_iff_eq, decide_eq_decide] at hg); try (exfalso; omega)))
 | ((with_reducible apply retQ_mk); (· (first | exact .inr rfl | exact .inl rfl)); (· exact sv); (· exact sv); rotate_left; (· rfl)))
        all_goals (first | (exfalso; omega) | exact tp_mk (b := i - a + 1) hI (by omega) | (exfalso; apply hcm'; exact ⟨by omega, ‹_›⟩))
      · rw [if_neg he] at hI
        repeat' (first
 | ((with_reducible apply awO_ev); (· rfl); (· exact sv))
 | ((with_reducible apply aw_seq); intro _ _)
 | (with_reducible apply aw_region)
 | (with_reducible apply aw_block)
 | ((first | (with_reducible apply awO_nil) | (with_reducible apply aw_exit) | (with_reducible apply aw_skip) | (with_reducible apply aw_ret)); (try simp only [CT, ↓reduceIte, Nat.reduceEqDiff]))
 | ((with_reducible apply awO_y); (· rfl); (· rfl); (· decide); (· exact sv); (· exact sv))
 | ((with_reducible apply awO_n); (· rfl); (· rfl); (· decide); (· exact sv); (· rfl); (· rfl); (· decide))
 | ((with_reducible apply aw_cond_false); (· exact sv))
 | (refine Kont.go ‹Kont _ _ _ _› _ ?_)
 | ((with_reducible apply awO_c); (· rfl); (· rfl); (· exact sv); (· (first | with_reducible exact c1 | with_reducible exact c3 | exact divides_ab _)); (· rfl); (· rfl); (· rfl); (· decide))
 | ((first | ((with_reducible apply awO_guard); (· rfl); (· rfl); (· exact sv)) | ((with_reducible apply aw_cond); (· exact sv))); all_goals (intro hg; (try simp only [Bool.not_true, Bool.not_false]); (try simp only [decide_eq_true_eq, decide_eq_false_iff_not, Bool.not_true, Bool.not_false, Bool.not_eq_true', Bool.not_eq_false', Bool.not_not, beq_eq_false_iff_ne, ne_eq, beq_iff_eq, decide_eq_decide] at hg); try (exfalso; omega))))
        all_goals (first
          | (exfalso; omega)
          | (exfalso; apply hcm'; exact ⟨by omega, ‹_›⟩)
          | (refine LE_mk ((i + 1, dep + 1, divB s[i])) ?_ ?_ sN sN sN
             · refine ⟨by simp only; omega, by simp only; omega, by simp only; omega, ?_⟩
               rw [hI, if_pos (by omega)]; congr 1; simp only; omega
             · simp only; omega)
          | (refine LE_mk ((i + 1, dep - 1, divB s[i])) ?_ ?_ sN sN sN
             · refine ⟨by simp only; omega, by simp only; omega, by simp only; omega, ?_⟩
               rw [hI, if_neg (by omega), if_pos (by omega)]; congr 1; simp only; omega
             · simp only; omega)
          | (refine LE_mk ((i + 1, dep, divB s[i])) ?_ ?_ sN sN sN
             · refine ⟨by simp only; omega, by simp only; omega, by simp only; omega, ?_⟩
               rw [hI, if_neg (by omega), if_neg (by omega)]; congr 1; simp only; omega
             · simp only; omega)
          | skip)
  · rw [List.drop_eq_nil_of_le (by omega : s.length ≤ i)] at hI
    repeat' (first
 | ((with_reducible apply awO_ev); (· rfl); (· exact sv))
 | ((with_reducible apply aw_seq); intro _ _)
 | (with_reducible apply aw_region)
 | ((first | (with_reducible apply awO_nil) | (with_reducible apply aw_exit) | (with_reducible apply aw_skip) | (with_reducible apply aw_ret)); (try simp only [CT, ↓reduceIte, Nat.reduceEqDiff]))
 | (refine Kont.go ‹Kont _ _ _ _› _ ?_)
 | ((first | ((with_reducible apply awO_guard); (· rfl); (· rfl); (· exact sv)) | ((with_reducible apply aw_cond); (· exact sv))); all_goals (intro hg; (try simp only [Bool.not_true, Bool.not_false]); (try simp only [decide_eq_true_eq, decide_eq_false_iff_not, Bool.not_true, Bool.not_false, Bool.not_eq_true', Bool.not_eq_false', Bool.not_not, beq_eq_false_iff_ne, ne_eq, beq_iff_eq, decide_eq_decide] at hg); try (exfalso; omega)))
 | ((with_reducible apply retQ_mk); (· (first | exact .inr rfl | exact .inl rfl)); (· exact sv); (· exact sv); rotate_left; (· rfl)))
    refine tp_mk (b := 0) ?_ (by omega); rw [hI]; simp [cmd]
end
end Go.Proofs.YtgbhjlkenfmadaaDoor
