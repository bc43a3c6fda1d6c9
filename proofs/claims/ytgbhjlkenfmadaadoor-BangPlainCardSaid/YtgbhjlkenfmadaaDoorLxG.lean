/- The lexer's Operator, Reserved, Skip, Close, number, token, on the abstract machine. -/
import Derived.Test.YtgbhjlkenfmadaaDoorLxF
namespace Go.Proofs.YtgbhjlkenfmadaaDoor
open Go.RowKit
set_option linter.unusedVariables false
set_option linter.unusedSimpArgs false
set_option maxRecDepth 100000
set_option maxHeartbeats 8000000
def operB (s : List UInt8) : Bool := decide (s = [38, 38] ∨ s = [124, 124] ∨ s = [59] ∨ s = [59, 59] ∨ s = [38] ∨ s = [124] ∨ s = [40] ∨ s = [41] ∨ s = [60] ∨ s = [62] ∨ s = [60, 60] ∨ s = [60, 60, 45] ∨ s = [62, 62] ∨ s = [60, 38] ∨ s = [62, 38] ∨ s = [60, 62] ∨ s = [62, 124] ∨ s = [10])
def resvB (s : List UInt8) : Bool := decide (s = [33] ∨ s = [123] ∨ s = [125] ∨ s = [99, 97, 115, 101] ∨ s = [100, 111] ∨ s = [100, 111, 110, 101] ∨ s = [101, 108, 105, 102] ∨ s = [101, 108, 115, 101] ∨ s = [101, 115, 97, 99] ∨ s = [102, 105] ∨ s = [102, 111, 114] ∨ s = [105, 102] ∨ s = [105, 110] ∨ s = [116, 104, 101, 110] ∨ s = [117, 110, 116, 105, 108] ∨ s = [119, 104, 105, 108, 101])
theorem oper_ab (s : List UInt8) : Ab Tryd.prog 46 [az s] (ab (operB s)) := by
  unfold operB
  refine Fn_of_aw (keep := []) Tryd.func46 rfl rfl (by simp [Tryd.ntmps46]) ?_
  simp only [num_cons, num_nil, Tryd.ntmps46, Tryd.results46]
  repeat' (first
 | ((with_reducible apply awO_ev); (· rfl); (· exact sv))
 | ((with_reducible apply aw_seq); intro _ _)
 | (with_reducible apply aw_region)
 | (with_reducible apply aw_block)
 | ((first | (with_reducible apply awO_nil) | (with_reducible apply aw_exit) | (with_reducible apply aw_skip) | (with_reducible apply aw_ret)); (try simp only [CT, ↓reduceIte, Nat.reduceEqDiff]))
 | (refine Kont.go ‹Kont _ _ _ _› _ ?_)
 | ((first | ((with_reducible apply awO_guard); (· rfl); (· rfl); (· exact sv)) | ((with_reducible apply aw_cond); (· exact sv))); all_goals (intro hg; (try simp only [Bool.not_true, Bool.not_false]); (try simp only [decide_eq_true_eq, decide_eq_false_iff_not, Bool.not_true, Bool.not_false, Bool.not_eq_true', Bool.not_eq_false', Bool.not_not, beq_eq_false_iff_ne, ne_eq, beq_iff_eq, decide_eq_decide] at hg); try (exfalso; omega)))
 | ((with_reducible apply retQ_mk); (· (first | exact .inr rfl | exact .inl rfl)); (· exact sv); (· exact sv); rotate_left; (· rfl)))
  all_goals (refine ab_eq ?_; simp only [decide_eq_true_eq, Bool.false_eq_true, true_iff, false_iff]; first | (simp only [hg, true_or, or_true]; done) | (simp only [*, or_self, not_false_eq_true]; done) | (simp_all; done))
def skpN : List UInt8 → Nat
  | [] => 0
  | [c] => if blankB c = true then 1 else if c.toNat = 35 then comN [c] else 0
  | c :: d :: r => if blankB c = true then skpN (d :: r) + 1 else if joinB (c :: d :: r) = true then skpN r + 2 else if c.toNat = 35 then comN (c :: d :: r) else 0
theorem skpN_cons (c : UInt8) (r : List UInt8) : skpN (c :: r) = if blankB c = true then skpN r + 1 else if joinB (c :: r) = true then skpN (r.drop 1) + 2 else if c.toNat = 35 then comN (c :: r) else 0 := by
  cases r with
  | nil =>
    simp only [skpN, joinB, Bool.false_eq_true, if_false]
  | cons d r => rfl
theorem skpN_le : ∀ (n : Nat) (l : List UInt8), l.length ≤ n → skpN l ≤ l.length := by
  intro n
  induction n with
  | zero =>
    intro l hl
    obtain rfl : l = [] := List.eq_nil_of_length_eq_zero (by omega)
    exact Nat.le_refl _
  | succ n ih =>
    intro l hl
    cases l with
    | nil => exact Nat.le_refl _
    | cons c r =>
      have hc := comN_le (c :: r)
      simp only [List.length_cons] at hl hc ⊢
      rw [skpN_cons]
      split
      · have := ih r (by omega); omega
      split
      · next hj =>
        have h1 : 1 ≤ r.length := by
          cases r with
          | nil => simp [joinB] at hj
          | cons d r => simp
        have := ih (r.drop 1) (by simp; omega)
        simp only [List.length_drop] at this
        omega
      split <;> omega
theorem skpN_stop {l : List UInt8} (h : l = [] ∨ ∃ c r, l = c :: r ∧ c.toNat = 10) : skpN l = 0 := by
  rcases h with rfl | ⟨c, r, rfl, h⟩
  · rfl
  · rw [skpN_cons, if_neg (by simp [blankB]; omega), if_neg (by cases r <;> simp [joinB]; omega), if_neg (by omega)]
theorem comN_stop (l : List UInt8) : l.drop (comN l) = [] ∨ ∃ c r, l.drop (comN l) = c :: r ∧ c.toNat = 10 := by
  induction l with
  | nil => exact .inl rfl
  | cons c r ih =>
    simp only [comN]
    split
    · next h => exact .inr ⟨c, r, rfl, h⟩
    · simpa using ih
def clp (z : Int) (n : Nat) : Nat := (max 0 (min z n)).toNat
theorem clp_le (z : Int) (n : Nat) : clp z n ≤ n := by unfold clp; omega
def skp (s : List UInt8) (z : Int) : Nat := clp z s.length + skpN (s.drop (clp z s.length))
theorem skp_le (s : List UInt8) (z : Int) : skp s z ≤ s.length := by
  have h1 := clp_le z s.length
  have h2 := skpN_le _ (s.drop (clp z s.length)) (Nat.le_refl _)
  rw [List.length_drop] at h2
  unfold skp
  omega
theorem skip_ab (s : List UInt8) (z : Int) (hs : s.length ≤ 1000000) : Ab Tryd.prog 44 [az s, ai z] (ai (skp s z : Nat)) := by
  have hcl := clp_le z s.length
  refine Fn_of_aw (keep := []) Tryd.func44 rfl rfl (by simp [Tryd.ntmps44]) ?_
  simp only [num_cons, num_nil, Tryd.ntmps44, Tryd.results44]
  repeat' (first
 | ((with_reducible apply awO_ev); (· rfl); (· exact sv))
 | ((with_reducible apply aw_seq); intro _ _)
 | (with_reducible apply aw_region)
 | (with_reducible apply aw_block)
 | ((first | (with_reducible apply awO_nil) | (with_reducible apply aw_exit) | (with_reducible apply aw_skip) | (with_reducible apply aw_ret)); (try simp only [CT, ↓reduceIte, Nat.reduceEqDiff]))
 | (refine Kont.go ‹Kont _ _ _ _› _ ?_))
  refine aw_loopF (fun i : Nat => [(1, ai i)]) (fun _ => []) (fun i => i ≤ s.length ∧ skp s z = i + skpN (s.drop i)) (fun i => s.length - i) (clp z s.length) ⟨hcl, rfl⟩ ?_ ?_ ?_
  · (simp only [LP, look_cons, look_nil, and_true, true_and, ↓reduceIte, Nat.reduceEqDiff, Option.some.injEq, AV.v.injEq, Value.int.injEq, Int.natCast_add, Int.cast_ofNat_Int])
    unfold clp
    (repeat' split) <;> omega
  · (simp only [LP, look_cons, look_nil, and_true, true_and, ↓reduceIte, Nat.reduceEqDiff, Option.some.injEq, AV.v.injEq, Value.int.injEq, Int.natCast_add, Int.cast_ofNat_Int])
  intro i ⟨hi, hI⟩
  (simp only [LP, List.append_assoc, List.nil_append, List.cons_append, List.append_nil, List.contains_cons, List.contains_nil, Nat.reduceBEq, Bool.or_false, Bool.or_true, Bool.true_or, Bool.false_or, ↓reduceIte, Bool.false_eq_true])
  by_cases hil : i < s.length
  · have c1 := blank_ab s[i]
    have c2 := joins_ab s i i rfl (by omega) hs
    have c3 := comment_ab s i i rfl (by omega) hs
    have hcl3 := comN_le (s.drop i)
    have hst := comN_stop (s.drop i)
    rw [List.length_drop] at hcl3
    rw [dropc hil] at c2 c3 hI hcl3
    rw [List.drop_drop] at hst
    rw [dropc hil] at hst
    rw [skpN_cons] at hI
    by_cases hb : blankB s[i] = true
    · rw [if_pos hb] at hI
      rw [hb] at c1
      repeat' (first
 | ((with_reducible apply awO_ev); (· rfl); (· exact sv))
 | ((with_reducible apply aw_seq); intro _ _)
 | (with_reducible apply aw_region)
 | (with_reducible apply aw_block)
 | ((first | (with_reducible apply awO_nil) | (with_reducible apply aw_exit) | (with_reducible apply aw_skip) | (with_reducible apply aw_ret)); (try simp only [CT, ↓reduceIte, Nat.reduceEqDiff]))
 | ((with_reducible apply aw_cond_true); (· exact sv))
 | (refine Kont.go ‹Kont _ _ _ _› _ ?_)
 | ((with_reducible apply awO_c); (· rfl); (· rfl); (· exact sv); (· (first | with_reducible exact c1)); (· rfl); (· rfl); (· rfl); (· decide))
 | ((first | ((with_reducible apply awO_guard); (· rfl); (· rfl); (· exact sv)) | ((with_reducible apply aw_cond); (· exact sv))); all_goals (intro hg; (try simp only [Bool.not_true, Bool.not_false]); (try simp only [decide_eq_true_eq, decide_eq_false_iff_not, Bool.not_true, Bool.not_false, Bool.not_eq_true', Bool.not_eq_false', Bool.not_not, beq_eq_false_iff_ne, ne_eq, beq_iff_eq, decide_eq_decide] at hg); try (exfalso; omega))))
      refine LE_mk (i + 1) ?_ ?_ sN sN sN
      · exact ⟨by omega, by omega⟩
      · omega
    rw [if_neg hb] at hI
    have hb' : blankB s[i] = false := by simpa using hb
    rw [hb'] at c1
    by_cases hj : joinB (s[i] :: s.drop (i + 1)) = true
    · rw [if_pos hj, List.drop_drop] at hI
      rw [hj] at c2
      have hil2 : i + 1 < s.length := by
        rcases Nat.lt_or_ge (i + 1) s.length with h | h
        · exact h
        · rw [List.drop_eq_nil_of_le h] at hj; simp [joinB] at hj
      repeat' (first
 | ((with_reducible apply awO_ev); (· rfl); (· exact sv))
 | ((with_reducible apply aw_seq); intro _ _)
 | (with_reducible apply aw_region)
 | (with_reducible apply aw_block)
 | ((first | (with_reducible apply awO_nil) | (with_reducible apply aw_exit) | (with_reducible apply aw_skip) | (with_reducible apply aw_ret)); (try simp only [CT, ↓reduceIte, Nat.reduceEqDiff]))
 | ((with_reducible apply aw_cond_true); (· exact sv))
 | ((with_reducible apply aw_cond_false); (· exact sv))
 | (refine Kont.go ‹Kont _ _ _ _› _ ?_)
 | ((with_reducible apply awO_c); (· rfl); (· rfl); (· exact sv); (· (first | with_reducible exact c1 | with_reducible exact c2)); (· rfl); (· rfl); (· rfl); (· decide))
 | ((first | ((with_reducible apply awO_guard); (· rfl); (· rfl); (· exact sv)) | ((with_reducible apply aw_cond); (· exact sv))); all_goals (intro hg; (try simp only [Bool.not_true, Bool.not_false]); (try simp only [decide_eq_true_eq, decide_eq_false_iff_not, Bool.not_true, Bool.not_false, Bool.not_eq_true', Bool.not_eq_false', Bool.not_not, beq_eq_false_iff_ne, ne_eq, beq_iff_eq, decide_eq_decide] at hg); try (exfalso; omega))))
      refine LE_mk (i + 2) ?_ ?_ sN sN sN
      · exact ⟨by omega, by rw [hI]; show _ = i + 2 + skpN (s.drop (i + 1 + 1)); omega⟩
      · omega
    rw [if_neg hj] at hI
    have hj' : joinB (s[i] :: s.drop (i + 1)) = false := by simpa using hj
    rw [hj'] at c2
    by_cases h35 : s[i].toNat = 35
    · rw [if_pos h35] at hI
      have hc1 : 1 ≤ comN (s[i] :: s.drop (i + 1)) := by simp only [comN]; rw [if_neg (by omega)]; omega
      have hz := skpN_stop hst
      generalize comN (s[i] :: s.drop (i + 1)) = cn at *
      repeat' (first
 | ((with_reducible apply awO_ev); (· rfl); (· exact sv))
 | ((with_reducible apply aw_seq); intro _ _)
 | (with_reducible apply aw_region)
 | (with_reducible apply aw_block)
 | ((first | (with_reducible apply awO_nil) | (with_reducible apply aw_exit) | (with_reducible apply aw_skip) | (with_reducible apply aw_ret)); (try simp only [CT, ↓reduceIte, Nat.reduceEqDiff]))
 | ((with_reducible apply aw_cond_false); (· exact sv))
 | (refine Kont.go ‹Kont _ _ _ _› _ ?_)
 | ((with_reducible apply awO_c); (· rfl); (· rfl); (· exact sv); (· (first | with_reducible exact c1 | with_reducible exact c2 | with_reducible exact c3)); (· rfl); (· rfl); (· rfl); (· decide))
 | ((first | ((with_reducible apply awO_guard); (· rfl); (· rfl); (· exact sv)) | ((with_reducible apply aw_cond); (· exact sv))); all_goals (intro hg; (try simp only [Bool.not_true, Bool.not_false]); (try simp only [decide_eq_true_eq, decide_eq_false_iff_not, Bool.not_true, Bool.not_false, Bool.not_eq_true', Bool.not_eq_false', Bool.not_not, beq_eq_false_iff_ne, ne_eq, beq_iff_eq, decide_eq_decide] at hg); try (exfalso; omega))))
      refine LE_mk (i + cn) ?_ ?_ sN sN sN
      · exact ⟨by omega, by rw [hz]; omega⟩
      · omega
    · rw [if_neg h35] at hI
      repeat' (first
 | ((with_reducible apply awO_ev); (· rfl); (· exact sv))
 | ((with_reducible apply aw_seq); intro _ _)
 | (with_reducible apply aw_region)
 | (with_reducible apply aw_block)
 | ((first | (with_reducible apply awO_nil) | (with_reducible apply aw_exit) | (with_reducible apply aw_skip) | (with_reducible apply aw_ret)); (try simp only [CT, ↓reduceIte, Nat.reduceEqDiff]))
 | ((with_reducible apply aw_cond_false); (· exact sv))
 | (refine Kont.go ‹Kont _ _ _ _› _ ?_)
 | ((with_reducible apply awO_c); (· rfl); (· rfl); (· exact sv); (· (first | with_reducible exact c1 | with_reducible exact c2)); (· rfl); (· rfl); (· rfl); (· decide))
 | ((first | ((with_reducible apply awO_guard); (· rfl); (· rfl); (· exact sv)) | ((with_reducible apply aw_cond); (· exact sv))); all_goals (intro hg; (try simp only [Bool.not_true, Bool.not_false]); (try simp only [decide_eq_true_eq, decide_eq_false_iff_not, Bool.not_true, Bool.not_false, Bool.not_eq_true', Bool.not_eq_false', Bool.not_not, beq_eq_false_iff_ne, ne_eq, beq_iff_eq, decide_eq_decide] at hg); try (exfalso; omega)))
 | ((with_reducible apply retQ_mk); (· (first | exact .inr rfl | exact .inl rfl)); (· exact sv); (· exact sv); rotate_left; (· rfl)))
      refine ai_eq ?_; omega
  · rw [List.drop_eq_nil_of_le (by omega : s.length ≤ i)] at hI
    repeat' (first
 | ((with_reducible apply awO_ev); (· rfl); (· exact sv))
 | ((with_reducible apply aw_seq); intro _ _)
 | (with_reducible apply aw_region)
 | ((first | (with_reducible apply awO_nil) | (with_reducible apply aw_exit) | (with_reducible apply aw_skip) | (with_reducible apply aw_ret)); (try simp only [CT, ↓reduceIte, Nat.reduceEqDiff]))
 | (refine Kont.go ‹Kont _ _ _ _› _ ?_)
 | ((first | ((with_reducible apply awO_guard); (· rfl); (· rfl); (· exact sv)) | ((with_reducible apply aw_cond); (· exact sv))); all_goals (intro hg; (try simp only [Bool.not_true, Bool.not_false]); (try simp only [decide_eq_true_eq, decide_eq_false_iff_not, Bool.not_true, Bool.not_false, Bool.not_eq_true', Bool.not_eq_false', Bool.not_not, beq_eq_false_iff_ne, ne_eq, beq_iff_eq, decide_eq_decide] at hg); try (exfalso; omega)))
 | ((with_reducible apply retQ_mk); (· (first | exact .inr rfl | exact .inl rfl)); (· exact sv); (· exact sv); rotate_left; (· rfl)))
    refine ai_eq ?_; rw [hI]; simp [skpN]
/-- What Close answers. -/
def closeF (s : List UInt8) (z : Int) : Int × Int :=
  if 16384 < s.length then (0, 3) else if z < 0 ∨ (s.length : Int) ≤ z ∨ begB (s.drop z.toNat) = false then (0, 1) else (((z.toNat + (con (s.drop z.toNat) 0).1 : Nat) : Int), (con (s.drop z.toNat) 0).2)
abbrev tp2 (p : Int × Int) : AV := .tp [ai p.1, ai p.2]
theorem number_ab (s : List UInt8) (hs : s.length ≤ 1000000) : Ab Tryd.prog 50 [az s] (ab (s.all digitB)) := by
  refine Fn_of_aw (keep := []) Tryd.func50 rfl rfl (by simp [Tryd.ntmps50]) ?_
  simp only [num_cons, num_nil, Tryd.ntmps50, Tryd.results50]
  repeat' (first
 | ((with_reducible apply awO_ev); (· rfl); (· exact sv))
 | ((with_reducible apply aw_seq); intro _ _)
 | (with_reducible apply aw_region)
 | (with_reducible apply aw_block)
 | ((first | (with_reducible apply awO_nil) | (with_reducible apply aw_exit) | (with_reducible apply aw_skip) | (with_reducible apply aw_ret)); (try simp only [CT, ↓reduceIte, Nat.reduceEqDiff]))
 | (refine Kont.go ‹Kont _ _ _ _› _ ?_))
  refine aw_loopF (fun k : Nat => [(3, ai k)]) (fun _ => []) (fun k => k ≤ s.length ∧ s.all digitB = (s.drop k).all digitB) (fun k => s.length - k) 0 ⟨by omega, rfl⟩ ?_ ?_ ?_
  · (simp only [LP, look_cons, look_nil, and_true, true_and, ↓reduceIte, Nat.reduceEqDiff, Option.some.injEq, AV.v.injEq, Value.int.injEq, Int.natCast_add, Int.cast_ofNat_Int])
  · (simp only [LP, look_cons, look_nil, and_true, true_and, ↓reduceIte, Nat.reduceEqDiff, Option.some.injEq, AV.v.injEq, Value.int.injEq, Int.natCast_add, Int.cast_ofNat_Int])
  intro k ⟨hk, hI⟩
  (simp only [LP, List.append_assoc, List.nil_append, List.cons_append, List.append_nil, List.contains_cons, List.contains_nil, Nat.reduceBEq, Bool.or_false, Bool.or_true, Bool.true_or, Bool.false_or, ↓reduceIte, Bool.false_eq_true])
  by_cases hkl : k < s.length
  · rw [dropc hkl, List.all_cons] at hI
    repeat' (first
 | ((with_reducible apply awO_ev); (· rfl); (· exact sv))
 | ((with_reducible apply aw_seq); intro _ _)
 | (with_reducible apply aw_region)
 | (with_reducible apply aw_block)
 | ((first | (with_reducible apply awO_nil) | (with_reducible apply aw_exit) | (with_reducible apply aw_skip) | (with_reducible apply aw_ret)); (try simp only [CT, ↓reduceIte, Nat.reduceEqDiff]))
 | (refine Kont.go ‹Kont _ _ _ _› _ ?_)
 | ((with_reducible apply awO_c); (· rfl); (· rfl); (· exact sv); (· (first | exact digit_ab _)); (· rfl); (· rfl); (· rfl); (· decide))
 | ((first | ((with_reducible apply awO_guard); (· rfl); (· rfl); (· exact sv)) | ((with_reducible apply aw_cond); (· exact sv))); all_goals (intro hg; (try simp only [Bool.not_true, Bool.not_false]); (try simp only [decide_eq_true_eq, decide_eq_false_iff_not, Bool.not_true, Bool.not_false, Bool.not_eq_true', Bool.not_eq_false', Bool.not_not, beq_eq_false_iff_ne, ne_eq, beq_iff_eq, decide_eq_decide] at hg); try (exfalso; omega)))
 | ((with_reducible apply retQ_mk); (· (first | exact .inr rfl | exact .inl rfl)); (· exact sv); (· exact sv); rotate_left; (· rfl)))
    all_goals (first
      | (refine LE_mk (k + 1) ?_ ?_ sN sN sN
         · exact ⟨hkl, by rw [hI, hg]; rfl⟩
         · omega)
      | (rw [hI, hg]; rfl))
  · skip
    repeat' (first
 | ((with_reducible apply awO_ev); (· rfl); (· exact sv))
 | ((with_reducible apply aw_seq); intro _ _)
 | (with_reducible apply aw_region)
 | ((first | (with_reducible apply awO_nil) | (with_reducible apply aw_exit) | (with_reducible apply aw_skip) | (with_reducible apply aw_ret)); (try simp only [CT, ↓reduceIte, Nat.reduceEqDiff]))
 | (refine Kont.go ‹Kont _ _ _ _› _ ?_)
 | ((first | ((with_reducible apply awO_guard); (· rfl); (· rfl); (· exact sv)) | ((with_reducible apply aw_cond); (· exact sv))); all_goals (intro hg; (try simp only [Bool.not_true, Bool.not_false]); (try simp only [decide_eq_true_eq, decide_eq_false_iff_not, Bool.not_true, Bool.not_false, Bool.not_eq_true', Bool.not_eq_false', Bool.not_not, beq_eq_false_iff_ne, ne_eq, beq_iff_eq, decide_eq_decide] at hg); try (exfalso; omega)))
 | ((with_reducible apply retQ_mk); (· (first | exact .inr rfl | exact .inl rfl)); (· exact sv); (· exact sv); rotate_left; (· rfl)))
    rw [hI, List.drop_eq_nil_of_le (by omega)]; rfl
structure Tok where
  kind : Int
  pos : Nat
  fin : Nat
  text : List UInt8
abbrev tokA (t : Tok) : AV := .ag [ai t.kind, ai (t.pos : Nat), ai (t.fin : Nat), az t.text]
theorem token_ab (s : List UInt8) (k : Int) (p e : Nat) (y z : Int) (hy : y = p) (hz : z = e) (h1 : p ≤ e) (h2 : e ≤ s.length) (hs : s.length ≤ 1000000) : Ab Tryd.prog 45 [az s, ai k, ai y, ai z] (tokA ⟨k, p, e, (s.drop p).take (e - p)⟩) := by
  subst hy; subst hz
  refine Fn_of_aw (keep := []) Tryd.func45 rfl rfl (by simp [Tryd.ntmps45]) ?_
  simp only [num_cons, num_nil, Tryd.ntmps45, Tryd.results45]
  repeat' (first
 | ((with_reducible apply awO_ev); (· rfl); (· exact sv))
 | ((with_reducible apply aw_seq); intro _ _)
 | (with_reducible apply aw_region)
 | ((first | (with_reducible apply awO_nil) | (with_reducible apply aw_exit) | (with_reducible apply aw_skip) | (with_reducible apply aw_ret)); (try simp only [CT, ↓reduceIte, Nat.reduceEqDiff]))
 | (refine Kont.go ‹Kont _ _ _ _› _ ?_)
 | ((with_reducible apply retQ_mk); (· (first | exact .inr rfl | exact .inl rfl)); (· exact sv); (· exact sv); rotate_left; (· rfl)))
  rfl
end Go.Proofs.YtgbhjlkenfmadaaDoor
