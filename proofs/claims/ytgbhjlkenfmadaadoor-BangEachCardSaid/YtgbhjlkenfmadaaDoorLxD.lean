/- The lexer's braced, arithmetic and command, on the abstract machine. -/
import Derived.Test.YtgbhjlkenfmadaaDoorLxC
namespace Go.Proofs.YtgbhjlkenfmadaaDoor
open Go.RowKit
set_option linter.unusedVariables false
set_option linter.unusedSimpArgs false
set_option maxRecDepth 100000
set_option maxHeartbeats 8000000
section
variable {n : Nat} (H : CONH n)
include H in
theorem braced_ab (s : List UInt8) (a : Nat) (z : Int) (q d : Bool) (hs : s.length ≤ 1000000) (hz : z = a) (ha : a + 2 ≤ s.length) (hn : s.length - a ≤ n + 1) (hqd : d = true → q = true) : Ab Tryd.prog 76 [az s, ai z, plc q d] (tpr a (brc (s.drop (a + 2)) 2 (plN q d))) := by
  subst hz
  have hpl : (plN q d = 1 ↔ d = true) ∧ (plN q d = 0 ↔ q = false) := by unfold plN; cases q <;> cases d <;> simp_all
  refine Fn_of_aw (keep := []) Tryd.func76 rfl rfl (by simp [Tryd.ntmps76]) ?_
  simp only [num_cons, num_nil, Tryd.ntmps76, Tryd.results76]
  repeat' (first
 | ((with_reducible apply awO_ev); (· rfl); (· exact sv))
 | ((with_reducible apply aw_seq); intro _ _)
 | (with_reducible apply aw_region)
 | (with_reducible apply aw_block)
 | ((first | (with_reducible apply awO_nil) | (with_reducible apply aw_exit) | (with_reducible apply aw_skip) | (with_reducible apply aw_ret)); (try simp only [CT, ↓reduceIte, Nat.reduceEqDiff]))
 | (refine Kont.go ‹Kont _ _ _ _› _ ?_))
  refine aw_loopF (fun i : Nat => [(8, ai i)]) (fun _ => [(5, [ab q, ab d])]) (fun i => a + 2 ≤ i ∧ i ≤ s.length ∧ brc (s.drop (a + 2)) 2 (plN q d) = brc (s.drop i) (i - a) (plN q d)) (fun i => s.length - i) (a + 2) ⟨by omega, by omega, by congr 1; omega⟩ ?_ ?_ ?_
  · (simp only [LP, look_cons, look_nil, and_true, true_and, ↓reduceIte, Nat.reduceEqDiff, Option.some.injEq, AV.v.injEq, Value.int.injEq, Int.natCast_add, Int.cast_ofNat_Int])
  · (simp only [LP, look_cons, look_nil, and_true, true_and, ↓reduceIte, Nat.reduceEqDiff, Option.some.injEq, AV.v.injEq, Value.int.injEq, Int.natCast_add, Int.cast_ofNat_Int])
  intro i ⟨hi0, hi, hI⟩
  (simp only [LP, List.append_assoc, List.nil_append, List.cons_append, List.append_nil, List.contains_cons, List.contains_nil, Nat.reduceBEq, Bool.or_false, Bool.or_true, Bool.true_or, Bool.false_or, ↓reduceIte, Bool.false_eq_true])
  by_cases hil : i < s.length
  · rw [dropc hil] at hI
    by_cases h125 : s[i].toNat = 125
    · rw [brc, if_pos h125] at hI
      repeat' (first
 | ((with_reducible apply awO_ev); (· rfl); (· exact sv))
 | ((with_reducible apply aw_seq); intro _ _)
 | (with_reducible apply aw_region)
 | (with_reducible apply aw_block)
 | ((first | (with_reducible apply awO_nil) | (with_reducible apply aw_exit) | (with_reducible apply aw_skip) | (with_reducible apply aw_ret)); (try simp only [CT, ↓reduceIte, Nat.reduceEqDiff]))
 | (refine Kont.go ‹Kont _ _ _ _› _ ?_)
 | ((first | ((with_reducible apply awO_guard); (· rfl); (· rfl); (· exact sv)) | ((with_reducible apply aw_cond); (· exact sv))); all_goals (intro hg; (try simp only [Bool.not_true, Bool.not_false]); (try simp only [decide_eq_true_eq, decide_eq_false_iff_not, Bool.not_true, Bool.not_false, Bool.not_eq_true', Bool.not_eq_false', Bool.not_not, beq_eq_false_iff_ne, ne_eq, beq_iff_eq, decide_eq_decide] at hg); try (exfalso; omega)))
 | ((with_reducible apply retQ_mk); (· (first | exact .inr rfl | exact .inl rfl)); (· exact sv); (· exact sv); rotate_left; (· rfl)))
      exact tp_mk (b := i - a + 1) hI (by omega)
    rw [brc, if_neg h125] at hI
    by_cases h34 : s[i].toNat = 34 ∧ plN q d = 1
    · rw [if_pos h34] at hI
      have hd := hpl.1.1 h34.2
      have hq := hqd hd
      subst hd; subst hq
      obtain ⟨h34, _⟩ := h34
      repeat' (first
 | ((with_reducible apply awO_ev); (· rfl); (· exact sv))
 | ((with_reducible apply aw_seq); intro _ _)
 | (with_reducible apply aw_region)
 | (with_reducible apply aw_block)
 | ((first | (with_reducible apply awO_nil) | (with_reducible apply aw_exit) | (with_reducible apply aw_skip) | (with_reducible apply aw_ret)); (try simp only [CT, ↓reduceIte, Nat.reduceEqDiff]))
 | ((with_reducible apply awO_y); (· rfl); (· rfl); (· decide); (· exact sv); (· exact sv))
 | ((with_reducible apply aw_cond_true); (· exact sv))
 | (refine Kont.go ‹Kont _ _ _ _› _ ?_)
 | ((first | ((with_reducible apply awO_guard); (· rfl); (· rfl); (· exact sv)) | ((with_reducible apply aw_cond); (· exact sv))); all_goals (intro hg; (try simp only [Bool.not_true, Bool.not_false]); (try simp only [decide_eq_true_eq, decide_eq_false_iff_not, Bool.not_true, Bool.not_false, Bool.not_eq_true', Bool.not_eq_false', Bool.not_not, beq_eq_false_iff_ne, ne_eq, beq_iff_eq, decide_eq_decide] at hg); try (exfalso; omega)))
 | ((with_reducible apply retQ_mk); (· (first | exact .inr rfl | exact .inl rfl)); (· exact sv); (· exact sv); rotate_left; (· rfl)))
      exact tp_mk (b := i - a) hI (by omega)
    rw [if_neg h34] at hI
    have c1 := begins_ab s i i rfl hil hs
    rw [dropc hil] at c1
    by_cases hone : (plN q d ≠ 0 ∧ (s[i].toNat = 39 ∨ s[i].toNat = 34)) ∨ begB (s[i] :: s.drop (i + 1)) = false
    · rw [pas_one hone] at hI
      simp only [ne_eq, not_true_eq_false, if_false] at hI
      rw [if_neg (by decide)] at hI
      simp only [Nat.sub_self, List.drop_zero] at hI
      repeat' (first
 | ((with_reducible apply awO_ev); (· rfl); (· exact sv))
 | ((with_reducible apply aw_seq); intro _ _)
 | (with_reducible apply aw_region)
 | (with_reducible apply aw_block)
 | ((first | (with_reducible apply awO_nil) | (with_reducible apply aw_exit) | (with_reducible apply aw_skip) | (with_reducible apply aw_ret)); (try simp only [CT, ↓reduceIte, Nat.reduceEqDiff]))
 | ((with_reducible apply awO_y); (· rfl); (· rfl); (· decide); (· exact sv); (· exact sv))
 | ((with_reducible apply awO_n); (· rfl); (· rfl); (· decide); (· exact sv); (· rfl); (· rfl); (· decide))
 | ((with_reducible apply aw_cond_true); (· exact sv))
 | ((with_reducible apply aw_cond_false); (· exact sv))
 | ((with_reducible apply awO_un); (· rfl); (· decide); (· exact sv))
 | (refine Kont.go ‹Kont _ _ _ _› _ ?_)
 | ((with_reducible apply awO_c); (· rfl); (· rfl); (· exact sv); (· (first | with_reducible exact c1)); (· rfl); (· rfl); (· rfl); (· decide))
 | ((first | ((with_reducible apply awO_guard); (· rfl); (· rfl); (· exact sv)) | ((with_reducible apply aw_cond); (· exact sv))); all_goals (intro hg; (try simp only [Bool.not_true, Bool.not_false]); (try simp only [decide_eq_true_eq, decide_eq_false_iff_not, Bool.not_true, Bool.not_false, Bool.not_eq_true', Bool.not_eq_false', Bool.not_not, beq_eq_false_iff_ne, ne_eq, beq_iff_eq, decide_eq_decide] at hg); try (exfalso; omega)))
 | ((with_reducible apply retQ_mk); (· (first | exact .inr rfl | exact .inl rfl)); (· exact sv); (· exact sv); rotate_left; (· rfl)))
      all_goals (first
        | (refine LE_mk (i + 1) ?_ ?_ sN sN sN
           · refine ⟨by omega, by omega, ?_⟩; rw [hI]; congr 1; omega
           · omega)
        | skip)
      all_goals (exfalso; rcases hone with ⟨h1, h2⟩ | h1)
      all_goals (first | omega | (simp_all; done) | (have := hpl.2; have := hpl.1; cases q <;> cases d <;> simp_all <;> omega) | skip)
    · have hb : begB (s[i] :: s.drop (i + 1)) = true := by cases hh : begB (s[i] :: s.drop (i + 1)) <;> simp_all
      have hnq : plN q d = 0 ∨ ¬ (s[i].toNat = 39 ∨ s[i].toNat = 34) := by
        by_cases h0 : plN q d = 0
        · exact .inl h0
        · exact .inr fun h => hone (.inl ⟨h0, h⟩)
      have c2 := H s i i q d hs rfl hil (by omega) (by rw [dropc hil]; exact hb) hqd
      rw [pas_con hnq hb] at hI
      have hok := con_ok (l := s.drop i) (plN q d) (by rw [dropc hil]; exact hb)
      rw [hb] at c1
      rw [dropc hil] at c2 hok
      obtain ⟨k1, k2, k3, k4⟩ := hok
      simp only [List.length_cons, List.length_drop] at k1
      generalize hp : con (s[i] :: s.drop (i + 1)) (plN q d) = p at *
      obtain ⟨pe, pr⟩ := p
      simp only at k1 k2 k3 k4 hI
      have hnq' : ¬ (q = true ∧ (s[i].toNat = 39 ∨ s[i].toNat = 34)) := by
        rintro ⟨h1, h2⟩
        rcases hnq with h | h
        · have := hpl.2.1 h; rw [h1] at this; cases this
        · exact h h2
      have hnd : ¬ (d = true ∧ s[i].toNat = 34) := fun h => h34 ⟨h.2, hpl.1.2 h.1⟩
      repeat' (first
 | ((with_reducible apply awO_ev); (· rfl); (· exact sv))
 | ((with_reducible apply aw_seq); intro _ _)
 | (with_reducible apply aw_region)
 | (with_reducible apply aw_block)
 | ((first | (with_reducible apply awO_nil) | (with_reducible apply aw_exit) | (with_reducible apply aw_skip) | (with_reducible apply aw_ret)); (try simp only [CT, ↓reduceIte, Nat.reduceEqDiff]))
 | ((with_reducible apply awO_y); (· rfl); (· rfl); (· decide); (· exact sv); (· exact sv))
 | ((with_reducible apply awO_n); (· rfl); (· rfl); (· decide); (· exact sv); (· rfl); (· rfl); (· decide))
 | ((with_reducible apply aw_cond_true); (· exact sv))
 | ((with_reducible apply aw_cond_false); (· exact sv))
 | ((with_reducible apply awO_un); (· rfl); (· decide); (· exact sv))
 | (refine Kont.go ‹Kont _ _ _ _› _ ?_)
 | ((with_reducible apply awO_c); (· rfl); (· rfl); (· exact sv); (· (first | with_reducible exact c1 | with_reducible exact c2)); (· rfl); (· rfl); (· rfl); (· decide))
 | ((first | ((with_reducible apply awO_guard); (· rfl); (· rfl); (· exact sv)) | ((with_reducible apply aw_cond); (· exact sv))); all_goals (intro hg; (try simp only [Bool.not_true, Bool.not_false]); (try simp only [decide_eq_true_eq, decide_eq_false_iff_not, Bool.not_true, Bool.not_false, Bool.not_eq_true', Bool.not_eq_false', Bool.not_not, beq_eq_false_iff_ne, ne_eq, beq_iff_eq, decide_eq_decide] at hg); try (exfalso; omega)))
 | ((with_reducible apply retQ_mk); (· (first | exact .inr rfl | exact .inl rfl)); (· exact sv); (· exact sv); rotate_left; (· rfl)))
      all_goals (first
        | (exfalso; omega)
        | (exact absurd ⟨‹_›, by omega⟩ hnd)
        | (exact absurd ⟨‹_›, by omega⟩ hnq')
        | (refine tp_mk (b := i - a + pe) ?_ (by omega); rw [hI, if_pos hg])
        | (refine LE_mk (i + pe) ?_ ?_ sN sN sN
           · have := k2 hg
             refine ⟨by omega, by omega, ?_⟩
             rw [hI, if_neg (by simpa using hg), if_neg (by omega), drop_pas hil (by omega)]; congr 1; omega
           · have := k2 hg; omega)
        | skip)
  · rw [List.drop_eq_nil_of_le (by omega : s.length ≤ i)] at hI
    repeat' (first
 | ((with_reducible apply awO_ev); (· rfl); (· exact sv))
 | ((with_reducible apply aw_seq); intro _ _)
 | (with_reducible apply aw_region)
 | ((first | (with_reducible apply awO_nil) | (with_reducible apply aw_exit) | (with_reducible apply aw_skip) | (with_reducible apply aw_ret)); (try simp only [CT, ↓reduceIte, Nat.reduceEqDiff]))
 | (refine Kont.go ‹Kont _ _ _ _› _ ?_)
 | ((first | ((with_reducible apply awO_guard); (· rfl); (· rfl); (· exact sv)) | ((with_reducible apply aw_cond); (· exact sv))); all_goals (intro hg; (try simp only [Bool.not_true, Bool.not_false]); (try simp only [decide_eq_true_eq, decide_eq_false_iff_not, Bool.not_true, Bool.not_false, Bool.not_eq_true', Bool.not_eq_false', Bool.not_not, beq_eq_false_iff_ne, ne_eq, beq_iff_eq, decide_eq_decide] at hg); try (exfalso; omega)))
 | ((with_reducible apply retQ_mk); (· (first | exact .inr rfl | exact .inl rfl)); (· exact sv); (· exact sv); rotate_left; (· rfl)))
    refine tp_mk (b := 0) ?_ (by omega); rw [hI]; simp [brc]
end
end Go.Proofs.YtgbhjlkenfmadaaDoor
