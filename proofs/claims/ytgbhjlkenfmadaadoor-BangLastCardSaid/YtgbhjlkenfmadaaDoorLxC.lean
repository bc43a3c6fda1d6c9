/- The lexer's constructs, on the abstract machine: one length from the shorter ones. -/
import Derived.Test.YtgbhjlkenfmadaaDoorLxB
namespace Go.Proofs.YtgbhjlkenfmadaaDoor
open Go.RowKit
set_option linter.unusedVariables false
set_option linter.unusedSimpArgs false
set_option maxRecDepth 100000
set_option maxHeartbeats 8000000
def plN (q d : Bool) : Nat := if q = false then 0 else if d = true then 1 else 2
abbrev plc (q d : Bool) : AV := .ag [ab q, ab d]
/-- The contract of construct for what is left of at most n bytes. -/
def CONH (n : Nat) : Prop := ∀ (s : List UInt8) (i : Nat) (z : Int) (q d : Bool), s.length ≤ 1000000 → z = i → i < s.length → s.length - i ≤ n → begB (s.drop i) = true → (d = true → q = true) → Ab Tryd.prog 49 [az s, ai z, plc q d] (tpr i (con (s.drop i) (plN q d)))
section
variable {n : Nat} (H : CONH n)
theorem pas_one {c : UInt8} {r : List UInt8} {pl : Nat} (h : (pl ≠ 0 ∧ (c.toNat = 39 ∨ c.toNat = 34)) ∨ begB (c :: r) = false) : pas (c :: r) pl = (1, 0) := by rw [pas, if_pos h]
theorem pas_con {c : UInt8} {r : List UInt8} {pl : Nat} (h1 : pl = 0 ∨ ¬ (c.toNat = 39 ∨ c.toNat = 34)) (h2 : begB (c :: r) = true) : pas (c :: r) pl = con (c :: r) pl := by
  rw [pas, if_neg]
  rintro (h | h)
  · rcases h1 with h1 | h1
    · exact h.1 h1
    · exact h1 h.2
  · rw [h2] at h; cases h
include H in
theorem inside_ab (s : List UInt8) (i : Nat) (z : Int) (d : Bool) (hs : s.length ≤ 1000000) (hz : z = i) (hi : i < s.length) (hn : s.length - i ≤ n) : Ab Tryd.prog 90 [az s, ai z, plc true d] (tpr i (pas (s.drop i) (plN true d))) := by
  subst hz
  have hd := dropc hi
  have hp : plN true d ≠ 0 := by unfold plN; rw [if_neg (by simp)]; split <;> decide
  by_cases hb : begB (s.drop i) = true
  · have c1 := begins_ab s i i rfl hi hs
    have c2 := H s i i true d hs rfl hi hn hb (fun _ => rfl)
    rw [hb] at c1
    rw [hd] at hb ⊢
    rw [hd] at c2
    by_cases hq : s[i].toNat = 39 ∨ s[i].toNat = 34
    · rw [pas_one (.inl ⟨hp, hq⟩)]
      refine Fn_of_aw (keep := []) Tryd.func90 rfl rfl (by simp [Tryd.ntmps90]) ?_
      simp only [num_cons, num_nil, Tryd.ntmps90, Tryd.results90]
      repeat' (first
 | ((with_reducible apply awO_ev); (· rfl); (· exact sv))
 | ((with_reducible apply aw_seq); intro _ _)
 | (with_reducible apply aw_region)
 | ((first | (with_reducible apply awO_nil) | (with_reducible apply aw_exit) | (with_reducible apply aw_skip) | (with_reducible apply aw_ret)); (try simp only [CT, ↓reduceIte, Nat.reduceEqDiff]))
 | ((with_reducible apply awO_y); (· rfl); (· rfl); (· decide); (· exact sv); (· exact sv))
 | ((with_reducible apply awO_n); (· rfl); (· rfl); (· decide); (· exact sv); (· rfl); (· rfl); (· decide))
 | ((with_reducible apply aw_cond_true); (· exact sv))
 | (refine Kont.go ‹Kont _ _ _ _› _ ?_)
 | ((first | ((with_reducible apply awO_guard); (· rfl); (· rfl); (· exact sv)) | ((with_reducible apply aw_cond); (· exact sv))); all_goals (intro hg; (try simp only [Bool.not_true, Bool.not_false]); (try simp only [decide_eq_true_eq, decide_eq_false_iff_not, Bool.not_true, Bool.not_false, Bool.not_eq_true', Bool.not_eq_false', Bool.not_not, beq_eq_false_iff_ne, ne_eq, beq_iff_eq, decide_eq_decide] at hg); try (exfalso; omega)))
 | ((with_reducible apply retQ_mk); (· (first | exact .inr rfl | exact .inl rfl)); (· exact sv); (· exact sv); rotate_left; (· rfl)))
      all_goals (first | (exfalso; omega) | exact tp_mk (b := 1) rfl (by omega))
    · rw [pas_con (.inr hq) hb]
      refine Fn_of_aw (keep := []) Tryd.func90 rfl rfl (by simp [Tryd.ntmps90]) ?_
      simp only [num_cons, num_nil, Tryd.ntmps90, Tryd.results90]
      repeat' (first
 | ((with_reducible apply awO_ev); (· rfl); (· exact sv))
 | ((with_reducible apply aw_seq); intro _ _)
 | (with_reducible apply aw_region)
 | ((first | (with_reducible apply awO_nil) | (with_reducible apply aw_exit) | (with_reducible apply aw_skip) | (with_reducible apply aw_ret)); (try simp only [CT, ↓reduceIte, Nat.reduceEqDiff]))
 | ((with_reducible apply awO_y); (· rfl); (· rfl); (· decide); (· exact sv); (· exact sv))
 | ((with_reducible apply aw_cond_false); (· exact sv))
 | ((with_reducible apply awO_un); (· rfl); (· decide); (· exact sv))
 | (refine Kont.go ‹Kont _ _ _ _› _ ?_)
 | ((with_reducible apply awO_c); (· rfl); (· rfl); (· exact sv); (· (first | with_reducible exact c1 | with_reducible exact c2)); (· rfl); (· rfl); (· rfl); (· decide))
 | ((first | ((with_reducible apply awO_guard); (· rfl); (· rfl); (· exact sv)) | ((with_reducible apply aw_cond); (· exact sv))); all_goals (intro hg; (try simp only [Bool.not_true, Bool.not_false]); (try simp only [decide_eq_true_eq, decide_eq_false_iff_not, Bool.not_true, Bool.not_false, Bool.not_eq_true', Bool.not_eq_false', Bool.not_not, beq_eq_false_iff_ne, ne_eq, beq_iff_eq, decide_eq_decide] at hg); try (exfalso; omega)))
 | ((with_reducible apply retQ_mk); (· (first | exact .inr rfl | exact .inl rfl)); (· exact sv); (· exact sv); rotate_left; (· rfl)))
      all_goals (first | (exfalso; omega) | rfl)
  · have hb' : begB (s.drop i) = false := by simpa using hb
    have c1 := begins_ab s i i rfl hi hs
    rw [hb'] at c1
    rw [hd] at hb' ⊢
    rw [pas_one (.inr hb')]
    refine Fn_of_aw (keep := []) Tryd.func90 rfl rfl (by simp [Tryd.ntmps90]) ?_
    simp only [num_cons, num_nil, Tryd.ntmps90, Tryd.results90]
    repeat' (first
 | ((with_reducible apply awO_ev); (· rfl); (· exact sv))
 | ((with_reducible apply aw_seq); intro _ _)
 | (with_reducible apply aw_region)
 | ((first | (with_reducible apply awO_nil) | (with_reducible apply aw_exit) | (with_reducible apply aw_skip) | (with_reducible apply aw_ret)); (try simp only [CT, ↓reduceIte, Nat.reduceEqDiff]))
 | ((with_reducible apply awO_y); (· rfl); (· rfl); (· decide); (· exact sv); (· exact sv))
 | ((with_reducible apply awO_n); (· rfl); (· rfl); (· decide); (· exact sv); (· rfl); (· rfl); (· decide))
 | ((with_reducible apply aw_cond_true); (· exact sv))
 | ((with_reducible apply awO_un); (· rfl); (· decide); (· exact sv))
 | (refine Kont.go ‹Kont _ _ _ _› _ ?_)
 | ((with_reducible apply awO_c); (· rfl); (· rfl); (· exact sv); (· (first | with_reducible exact c1)); (· rfl); (· rfl); (· rfl); (· decide))
 | ((first | ((with_reducible apply awO_guard); (· rfl); (· rfl); (· exact sv)) | ((with_reducible apply aw_cond); (· exact sv))); all_goals (intro hg; (try simp only [Bool.not_true, Bool.not_false]); (try simp only [decide_eq_true_eq, decide_eq_false_iff_not, Bool.not_true, Bool.not_false, Bool.not_eq_true', Bool.not_eq_false', Bool.not_not, beq_eq_false_iff_ne, ne_eq, beq_iff_eq, decide_eq_decide] at hg); try (exfalso; omega)))
 | ((with_reducible apply retQ_mk); (· (first | exact .inr rfl | exact .inl rfl)); (· exact sv); (· exact sv); rotate_left; (· rfl)))
    all_goals exact tp_mk (b := 1) rfl (by omega)
theorem dbl_end {c : UInt8} {r : List UInt8} {o : Nat} (h : c.toNat = 34) : dbl (c :: r) o = (o + 1, 0) := by rw [dbl, if_pos h]
theorem dbl_err {c : UInt8} {r : List UInt8} {o : Nat} (h : ¬ c.toNat = 34) (h2 : ¬ (pas (c :: r) 1).2 = 0) : dbl (c :: r) o = (o + (pas (c :: r) 1).1, (pas (c :: r) 1).2) := by rw [dbl, if_neg h, if_pos h2]
theorem drop_pas {s : List UInt8} {i k : Nat} (h : i < s.length) (hk : 1 ≤ k) : (s.drop (i + 1)).drop (k - 1) = s.drop (i + k) := by rw [List.drop_drop]; congr 1; omega
include H in
theorem double_ab (s : List UInt8) (a : Nat) (z : Int) (hs : s.length ≤ 1000000) (hz : z = a) (ha : a < s.length) (hn : s.length - a ≤ n + 1) : Ab Tryd.prog 72 [az s, ai z] (tpr a (dbl (s.drop (a + 1)) 1)) := by
  subst hz
  refine Fn_of_aw (keep := []) Tryd.func72 rfl rfl (by simp [Tryd.ntmps72]) ?_
  simp only [num_cons, num_nil, Tryd.ntmps72, Tryd.results72]
  repeat' (first
 | ((with_reducible apply awO_ev); (· rfl); (· exact sv))
 | ((with_reducible apply aw_seq); intro _ _)
 | (with_reducible apply aw_region)
 | (with_reducible apply aw_block)
 | ((first | (with_reducible apply awO_nil) | (with_reducible apply aw_exit) | (with_reducible apply aw_skip) | (with_reducible apply aw_ret)); (try simp only [CT, ↓reduceIte, Nat.reduceEqDiff]))
 | (refine Kont.go ‹Kont _ _ _ _› _ ?_))
  refine aw_loopF (fun i : Nat => [(6, ai i)]) (fun _ => []) (fun i => a + 1 ≤ i ∧ i ≤ s.length ∧ dbl (s.drop (a + 1)) 1 = dbl (s.drop i) (i - a)) (fun i => s.length - i) (a + 1) ⟨by omega, by omega, by congr 1; omega⟩ ?_ ?_ ?_
  · (simp only [LP, look_cons, look_nil, and_true, true_and, ↓reduceIte, Nat.reduceEqDiff, Option.some.injEq, AV.v.injEq, Value.int.injEq, Int.natCast_add, Int.cast_ofNat_Int])
  · (simp only [LP, look_cons, look_nil, and_true, true_and, ↓reduceIte, Nat.reduceEqDiff, Option.some.injEq, AV.v.injEq, Value.int.injEq, Int.natCast_add, Int.cast_ofNat_Int])
  intro i ⟨hi0, hi, hI⟩
  (simp only [LP, List.append_assoc, List.nil_append, List.cons_append, List.append_nil, List.contains_cons, List.contains_nil, Nat.reduceBEq, Bool.or_false, Bool.or_true, Bool.true_or, Bool.false_or, ↓reduceIte, Bool.false_eq_true])
  by_cases hil : i < s.length
  · have c1 := inside_ab H s i i true hs rfl hil (by omega)
    have hok := pas_ok (l := s.drop i) (plN true true) (by rw [List.length_drop]; omega)
    rw [dropc hil] at hI c1 hok
    have e1 : plN true true = 1 := rfl
    rw [e1] at c1 hok
    obtain ⟨k1, k2, k3, k4⟩ := hok
    simp only [List.length_cons, List.length_drop] at k1
    generalize hp : pas (s[i] :: s.drop (i + 1)) 1 = p at *
    obtain ⟨pe, pr⟩ := p
    simp only at k1 k2 k3 k4
    repeat' (first
 | ((with_reducible apply awO_ev); (· rfl); (· exact sv))
 | ((with_reducible apply aw_seq); intro _ _)
 | (with_reducible apply aw_region)
 | (with_reducible apply aw_block)
 | ((first | (with_reducible apply awO_nil) | (with_reducible apply aw_exit) | (with_reducible apply aw_skip) | (with_reducible apply aw_ret)); (try simp only [CT, ↓reduceIte, Nat.reduceEqDiff]))
 | (refine Kont.go ‹Kont _ _ _ _› _ ?_)
 | ((with_reducible apply awO_c); (· rfl); (· rfl); (· exact sv); (· (first | with_reducible exact c1)); (· rfl); (· rfl); (· rfl); (· decide))
 | ((first | ((with_reducible apply awO_guard); (· rfl); (· rfl); (· exact sv)) | ((with_reducible apply aw_cond); (· exact sv))); all_goals (intro hg; (try simp only [Bool.not_true, Bool.not_false]); (try simp only [decide_eq_true_eq, decide_eq_false_iff_not, Bool.not_true, Bool.not_false, Bool.not_eq_true', Bool.not_eq_false', Bool.not_not, beq_eq_false_iff_ne, ne_eq, beq_iff_eq, decide_eq_decide] at hg); try (exfalso; omega)))
 | ((with_reducible apply retQ_mk); (· (first | exact .inr rfl | exact .inl rfl)); (· exact sv); (· exact sv); rotate_left; (· rfl)))
    · exact tp_mk (b := i - a + 1) (by rw [hI, dbl_end (by omega)]) (by omega)
    · refine tp_mk (b := i - a + pe) ?_ (by omega); rw [hI, dbl_err (by omega) (by rw [hp]; exact hg), hp]
    · refine LE_mk (i + pe) ?_ ?_ sN sN sN
      · have := k2 hg
        refine ⟨by omega, by omega, ?_⟩
        rw [hI, dbl, if_neg (by omega), hp]
        simp only
        rw [if_neg (by simpa using hg), if_neg (by omega), drop_pas hil (by omega)]; congr 1; omega
      · have := k2 hg; omega
  · rw [List.drop_eq_nil_of_le (by omega : s.length ≤ i)] at hI
    repeat' (first
 | ((with_reducible apply awO_ev); (· rfl); (· exact sv))
 | ((with_reducible apply aw_seq); intro _ _)
 | (with_reducible apply aw_region)
 | ((first | (with_reducible apply awO_nil) | (with_reducible apply aw_exit) | (with_reducible apply aw_skip) | (with_reducible apply aw_ret)); (try simp only [CT, ↓reduceIte, Nat.reduceEqDiff]))
 | (refine Kont.go ‹Kont _ _ _ _› _ ?_)
 | ((first | ((with_reducible apply awO_guard); (· rfl); (· rfl); (· exact sv)) | ((with_reducible apply aw_cond); (· exact sv))); all_goals (intro hg; (try simp only [Bool.not_true, Bool.not_false]); (try simp only [decide_eq_true_eq, decide_eq_false_iff_not, Bool.not_true, Bool.not_false, Bool.not_eq_true', Bool.not_eq_false', Bool.not_not, beq_eq_false_iff_ne, ne_eq, beq_iff_eq, decide_eq_decide] at hg); try (exfalso; omega)))
 | ((with_reducible apply retQ_mk); (· (first | exact .inr rfl | exact .inl rfl)); (· exact sv); (· exact sv); rotate_left; (· rfl)))
    refine tp_mk (b := 0) ?_ (by omega); rw [hI]; simp [dbl]
end
end Go.Proofs.YtgbhjlkenfmadaaDoor
