/- The lexer's construct, on the abstract machine. -/
import Derived.Test.YtgbhjlkenfmadaaDoorLxD
import Derived.Test.YtgbhjlkenfmadaaDoorLxE
namespace Go.Proofs.YtgbhjlkenfmadaaDoor
open Go.RowKit
set_option linter.unusedVariables false
set_option linter.unusedSimpArgs false
set_option maxRecDepth 100000
set_option maxHeartbeats 8000000
theorem sng_idx (l : List UInt8) : ∀ o, (idxB l 39 = -1 → sngN l o = (0, 7)) ∧ (0 ≤ idxB l 39 → sngN l o = (o + (idxB l 39).toNat + 1, 0)) := by
  induction l with
  | nil => intro o; exact ⟨fun _ => rfl, fun h => absurd h (by decide)⟩
  | cons c r ih =>
    intro o
    have e : c = 39 ↔ c.toNat = 39 := by rw [← UInt8.toNat_inj]; rfl
    have := idxB_ge r 39
    obtain ⟨h1, h2⟩ := ih (o + 1)
    simp only [idxB, sngN]
    by_cases hc : c = 39
    · rw [if_pos hc, if_pos (e.1 hc)]; exact ⟨fun h => absurd h (by decide), fun _ => rfl⟩
    · rw [if_neg hc, if_neg (fun h => hc (e.2 h))]
      split
      · next h => exact ⟨fun _ => h1 h, fun h => absurd h (by decide)⟩
      · next h =>
        refine ⟨fun h' => by omega, fun h' => ?_⟩
        rw [h2 (by omega)]
        congr 1
        omega
theorem con_92 {c : UInt8} {r : List UInt8} {pl : Nat} (h : c.toNat = 92) : con (c :: r) pl = if r.length = 0 then (0, 7) else (2, 0) := by rw [con.eq_def]; simp only; rw [if_pos h]
theorem con_39 {c : UInt8} {r : List UInt8} {pl : Nat} (h : c.toNat = 39) : con (c :: r) pl = sngN r 1 := by rw [con.eq_def]; simp only; rw [if_neg (by omega), if_pos h]
theorem con_34 {c : UInt8} {r : List UInt8} {pl : Nat} (h : c.toNat = 34) : con (c :: r) pl = dbl r 1 := by rw [con.eq_def]; simp only; rw [if_neg (by omega), if_neg (by omega), if_pos h]
theorem con_96 {c : UInt8} {r : List UInt8} {pl : Nat} (h : c.toNat = 96) : con (c :: r) pl = bqtN r 1 := by rw [con.eq_def]; simp only; rw [if_neg (by omega), if_neg (by omega), if_neg (by omega), if_pos h]
theorem con_36 {c d : UInt8} {t : List UInt8} {pl : Nat} (h : c.toNat = 36) : con (c :: d :: t) pl = if d.toNat = 40 then (match t with | [] => cmd [] 2 0 true | e :: u => if e.toNat = 40 then ari u 3 0 else cmd (e :: u) 2 0 true) else if d.toNat = 123 then brc t 2 pl
    else if startsB d = true then (1 + wordN (d :: t), 0) else (2, 0) := by
  rw [con.eq_def]; simp only; rw [if_neg (by omega), if_neg (by omega), if_neg (by omega), if_neg (by omega)]
  cases t <;> rfl
theorem pre3 {c d : UInt8} {t : List UInt8} (h : c.toNat = 36) : ([36, 40, 40] : List UInt8).isPrefixOf (c :: d :: t) = (decide (d.toNat = 40) && (match t with | [] => false | e :: _ => decide (e.toNat = 40))) := by
  cases t with
  | nil => simp [List.isPrefixOf]
  | cons e u =>
    rw [Bool.eq_iff_iff]
    simp only [List.isPrefixOf, Bool.and_true, Bool.and_eq_true, beq_iff_eq, decide_eq_true_eq, ← UInt8.toNat_inj, UInt8.reduceToNat]
    omega
theorem startsB_word {c : UInt8} : wordB c = (startsB c || digitB c) := by
  rw [Bool.eq_iff_iff]; simp only [wordB, startsB, digitB, Bool.or_eq_true, decide_eq_true_eq]; omega
theorem CONH_zero : CONH 0 := fun s i z q d hs hz hi hn => by omega
theorem CONH_succ {n : Nat} (H : CONH n) : CONH (n + 1) := by
  intro s a z q d hs hz ha hn hb hqd
  subst hz
  rw [dropc ha] at hb ⊢
  by_cases h92 : s[a].toNat = 92
  · rw [con_92 h92, List.length_drop]
    by_cases h1 : a + 1 = s.length
    · rw [if_pos (by omega)]
      refine Fn_of_aw (keep := []) Tryd.func49 rfl rfl (by simp [Tryd.ntmps49]) ?_
      simp only [num_cons, num_nil, Tryd.ntmps49, Tryd.results49]
      repeat' (first
 | ((with_reducible apply awO_ev); (· rfl); (· exact sv))
 | ((with_reducible apply aw_seq); intro _ _)
 | (with_reducible apply aw_region)
 | (with_reducible apply aw_block)
 | ((first | (with_reducible apply awO_nil) | (with_reducible apply aw_exit) | (with_reducible apply aw_skip) | (with_reducible apply aw_ret)); (try simp only [CT, ↓reduceIte, Nat.reduceEqDiff]))
 | (refine Kont.go ‹Kont _ _ _ _› _ ?_)
 | ((first | ((with_reducible apply awO_guard); (· rfl); (· rfl); (· exact sv)) | ((with_reducible apply aw_cond); (· exact sv))); all_goals (intro hg; (try simp only [Bool.not_true, Bool.not_false]); (try simp only [decide_eq_true_eq, decide_eq_false_iff_not, Bool.not_true, Bool.not_false, Bool.not_eq_true', Bool.not_eq_false', Bool.not_not, beq_eq_false_iff_ne, ne_eq, beq_iff_eq, decide_eq_decide] at hg); try (exfalso; omega)))
 | ((with_reducible apply retQ_mk); (· (first | exact .inr rfl | exact .inl rfl)); (· exact sv); (· exact sv); rotate_left; (· rfl)))
      all_goals exact tp_mk (b := 0) rfl (by omega)
    · rw [if_neg (by omega)]
      refine Fn_of_aw (keep := []) Tryd.func49 rfl rfl (by simp [Tryd.ntmps49]) ?_
      simp only [num_cons, num_nil, Tryd.ntmps49, Tryd.results49]
      repeat' (first
 | ((with_reducible apply awO_ev); (· rfl); (· exact sv))
 | ((with_reducible apply aw_seq); intro _ _)
 | (with_reducible apply aw_region)
 | (with_reducible apply aw_block)
 | ((first | (with_reducible apply awO_nil) | (with_reducible apply aw_exit) | (with_reducible apply aw_skip) | (with_reducible apply aw_ret)); (try simp only [CT, ↓reduceIte, Nat.reduceEqDiff]))
 | (refine Kont.go ‹Kont _ _ _ _› _ ?_)
 | ((first | ((with_reducible apply awO_guard); (· rfl); (· rfl); (· exact sv)) | ((with_reducible apply aw_cond); (· exact sv))); all_goals (intro hg; (try simp only [Bool.not_true, Bool.not_false]); (try simp only [decide_eq_true_eq, decide_eq_false_iff_not, Bool.not_true, Bool.not_false, Bool.not_eq_true', Bool.not_eq_false', Bool.not_not, beq_eq_false_iff_ne, ne_eq, beq_iff_eq, decide_eq_decide] at hg); try (exfalso; omega)))
 | ((with_reducible apply retQ_mk); (· (first | exact .inr rfl | exact .inl rfl)); (· exact sv); (· exact sv); rotate_left; (· rfl)))
      all_goals exact tp_mk (b := 2) rfl (by omega)
  by_cases h39 : s[a].toNat = 39
  · rw [con_39 h39]
    have e1 := sng_idx (s.drop (a + 1)) 1
    have e2 := idxB_ge (s.drop (a + 1)) 39
    have e3 := idxB_lt (s.drop (a + 1)) 39
    rw [List.length_drop] at e3
    refine Fn_of_aw (keep := []) Tryd.func49 rfl rfl (by simp [Tryd.ntmps49]) ?_
    simp only [num_cons, num_nil, Tryd.ntmps49, Tryd.results49]
    repeat' (first
 | ((with_reducible apply awO_ev); (· rfl); (· exact sv))
 | ((with_reducible apply aw_seq); intro _ _)
 | (with_reducible apply aw_region)
 | (with_reducible apply aw_block)
 | ((first | (with_reducible apply awO_nil) | (with_reducible apply aw_exit) | (with_reducible apply aw_skip) | (with_reducible apply aw_ret)); (try simp only [CT, ↓reduceIte, Nat.reduceEqDiff]))
 | (refine Kont.go ‹Kont _ _ _ _› _ ?_)
 | ((with_reducible apply awO_c); (· rfl); (· rfl); (· exact sv); (· (first | exact indexByte_ab _ 39)); (· rfl); (· rfl); (· rfl); (· decide))
 | ((first | ((with_reducible apply awO_guard); (· rfl); (· rfl); (· exact sv)) | ((with_reducible apply aw_cond); (· exact sv))); all_goals (intro hg; (try simp only [Bool.not_true, Bool.not_false]); (try simp only [decide_eq_true_eq, decide_eq_false_iff_not, Bool.not_true, Bool.not_false, Bool.not_eq_true', Bool.not_eq_false', Bool.not_not, beq_eq_false_iff_ne, ne_eq, beq_iff_eq, decide_eq_decide] at hg); try (exfalso; omega)))
 | ((with_reducible apply retQ_mk); (· (first | exact .inr rfl | exact .inl rfl)); (· exact sv); (· exact sv); rotate_left; (· rfl)))
    · exact tp_mk (b := 0) (e1.1 (by omega)) (by omega)
    · exact tp_mk (e1.2 (by omega)) (by omega)
  by_cases h34 : s[a].toNat = 34
  · rw [con_34 h34]
    have c1 := double_ab H s a a hs rfl ha (by omega)
    refine Fn_of_aw (keep := []) Tryd.func49 rfl rfl (by simp [Tryd.ntmps49]) ?_
    simp only [num_cons, num_nil, Tryd.ntmps49, Tryd.results49]
    repeat' (first
 | ((with_reducible apply awO_ev); (· rfl); (· exact sv))
 | ((with_reducible apply aw_seq); intro _ _)
 | (with_reducible apply aw_region)
 | (with_reducible apply aw_block)
 | ((first | (with_reducible apply awO_nil) | (with_reducible apply aw_exit) | (with_reducible apply aw_skip) | (with_reducible apply aw_ret)); (try simp only [CT, ↓reduceIte, Nat.reduceEqDiff]))
 | (refine Kont.go ‹Kont _ _ _ _› _ ?_)
 | ((with_reducible apply awO_c); (· rfl); (· rfl); (· exact sv); (· (first | with_reducible exact c1)); (· rfl); (· rfl); (· rfl); (· decide))
 | ((first | ((with_reducible apply awO_guard); (· rfl); (· rfl); (· exact sv)) | ((with_reducible apply aw_cond); (· exact sv))); all_goals (intro hg; (try simp only [Bool.not_true, Bool.not_false]); (try simp only [decide_eq_true_eq, decide_eq_false_iff_not, Bool.not_true, Bool.not_false, Bool.not_eq_true', Bool.not_eq_false', Bool.not_not, beq_eq_false_iff_ne, ne_eq, beq_iff_eq, decide_eq_decide] at hg); try (exfalso; omega)))
 | ((with_reducible apply retQ_mk); (· (first | exact .inr rfl | exact .inl rfl)); (· exact sv); (· exact sv); rotate_left; (· rfl)))
    all_goals rfl
  by_cases h96 : s[a].toNat = 96
  · rw [con_96 h96]
    have c1 := backquoted_ab s a a rfl ha hs
    refine Fn_of_aw (keep := []) Tryd.func49 rfl rfl (by simp [Tryd.ntmps49]) ?_
    simp only [num_cons, num_nil, Tryd.ntmps49, Tryd.results49]
    repeat' (first
 | ((with_reducible apply awO_ev); (· rfl); (· exact sv))
 | ((with_reducible apply aw_seq); intro _ _)
 | (with_reducible apply aw_region)
 | (with_reducible apply aw_block)
 | ((first | (with_reducible apply awO_nil) | (with_reducible apply aw_exit) | (with_reducible apply aw_skip) | (with_reducible apply aw_ret)); (try simp only [CT, ↓reduceIte, Nat.reduceEqDiff]))
 | (refine Kont.go ‹Kont _ _ _ _› _ ?_)
 | ((with_reducible apply awO_c); (· rfl); (· rfl); (· exact sv); (· (first | with_reducible exact c1)); (· rfl); (· rfl); (· rfl); (· decide))
 | ((first | ((with_reducible apply awO_guard); (· rfl); (· rfl); (· exact sv)) | ((with_reducible apply aw_cond); (· exact sv))); all_goals (intro hg; (try simp only [Bool.not_true, Bool.not_false]); (try simp only [decide_eq_true_eq, decide_eq_false_iff_not, Bool.not_true, Bool.not_false, Bool.not_eq_true', Bool.not_eq_false', Bool.not_not, beq_eq_false_iff_ne, ne_eq, beq_iff_eq, decide_eq_decide] at hg); try (exfalso; omega)))
 | ((with_reducible apply retQ_mk); (· (first | exact .inr rfl | exact .inl rfl)); (· exact sv); (· exact sv); rotate_left; (· rfl)))
    all_goals rfl
  have h36 : s[a].toNat = 36 ∧ dolB (s.drop (a + 1)) = true := by
    simp only [begB, Bool.or_eq_true, Bool.and_eq_true, decide_eq_true_eq] at hb
    rcases hb with hb | hb
    · exfalso; omega
    · exact hb
  obtain ⟨h36, hdol⟩ := h36
  have ha1 : a + 1 < s.length := by
    rcases Nat.lt_or_ge (a + 1) s.length with h | h
    · exact h
    · rw [List.drop_eq_nil_of_le h] at hdol; cases hdol
  have hd0 : s.drop a = s[a] :: s[a + 1] :: s.drop (a + 2) := by rw [dropc ha, dropc ha1]
  rw [dropc ha1, con_36 h36]
  have hpre : ([36, 40, 40] : List UInt8).isPrefixOf (s.drop a) = (decide (s[a + 1].toNat = 40) && (match s.drop (a + 2) with | [] => false | e :: _ => decide (e.toNat = 40))) := by rw [hd0, pre3 h36]
  have c0 := hasPrefix_ab (s.drop a) [36, 40, 40]
  rw [hpre] at c0
  clear hpre
  by_cases h40 : s[a + 1].toNat = 40
  · rw [if_pos h40]
    rw [decide_eq_true h40, Bool.true_and] at c0
    by_cases ha2 : a + 2 < s.length
    · rw [dropc ha2] at c0 ⊢
      simp only at c0 ⊢
      by_cases h402 : s[a + 2].toNat = 40
      · rw [if_pos h402]
        rw [decide_eq_true h402] at c0
        have c1 := arithmetic_ab H s a a hs rfl (by omega) (by omega)
        refine Fn_of_aw (keep := []) Tryd.func49 rfl rfl (by simp [Tryd.ntmps49]) ?_
        simp only [num_cons, num_nil, Tryd.ntmps49, Tryd.results49]
        repeat' (first
 | ((with_reducible apply awO_ev); (· rfl); (· exact sv))
 | ((with_reducible apply aw_seq); intro _ _)
 | (with_reducible apply aw_region)
 | (with_reducible apply aw_block)
 | ((first | (with_reducible apply awO_nil) | (with_reducible apply aw_exit) | (with_reducible apply aw_skip) | (with_reducible apply aw_ret)); (try simp only [CT, ↓reduceIte, Nat.reduceEqDiff]))
 | ((with_reducible apply aw_cond_true); (· exact sv))
 | (refine Kont.go ‹Kont _ _ _ _› _ ?_)
 | ((with_reducible apply awO_c); (· rfl); (· rfl); (· exact sv); (· (first | with_reducible exact c0 | with_reducible exact c1)); (· rfl); (· rfl); (· rfl); (· decide))
 | ((first | ((with_reducible apply awO_guard); (· rfl); (· rfl); (· exact sv)) | ((with_reducible apply aw_cond); (· exact sv))); all_goals (intro hg; (try simp only [Bool.not_true, Bool.not_false]); (try simp only [decide_eq_true_eq, decide_eq_false_iff_not, Bool.not_true, Bool.not_false, Bool.not_eq_true', Bool.not_eq_false', Bool.not_not, beq_eq_false_iff_ne, ne_eq, beq_iff_eq, decide_eq_decide] at hg); try (exfalso; omega)))
 | ((with_reducible apply retQ_mk); (· (first | exact .inr rfl | exact .inl rfl)); (· exact sv); (· exact sv); rotate_left; (· rfl)))
        all_goals rfl
      · rw [if_neg h402]
        rw [decide_eq_false h402] at c0
        have c1 := command_ab H s a a hs rfl (by omega) (by omega)
        rw [dropc ha2] at c1
        refine Fn_of_aw (keep := []) Tryd.func49 rfl rfl (by simp [Tryd.ntmps49]) ?_
        simp only [num_cons, num_nil, Tryd.ntmps49, Tryd.results49]
        repeat' (first
 | ((with_reducible apply awO_ev); (· rfl); (· exact sv))
 | ((with_reducible apply aw_seq); intro _ _)
 | (with_reducible apply aw_region)
 | (with_reducible apply aw_block)
 | ((first | (with_reducible apply awO_nil) | (with_reducible apply aw_exit) | (with_reducible apply aw_skip) | (with_reducible apply aw_ret)); (try simp only [CT, ↓reduceIte, Nat.reduceEqDiff]))
 | ((with_reducible apply aw_cond_false); (· exact sv))
 | (refine Kont.go ‹Kont _ _ _ _› _ ?_)
 | ((with_reducible apply awO_c); (· rfl); (· rfl); (· exact sv); (· (first | with_reducible exact c0 | with_reducible exact c1)); (· rfl); (· rfl); (· rfl); (· decide))
 | ((first | ((with_reducible apply awO_guard); (· rfl); (· rfl); (· exact sv)) | ((with_reducible apply aw_cond); (· exact sv))); all_goals (intro hg; (try simp only [Bool.not_true, Bool.not_false]); (try simp only [decide_eq_true_eq, decide_eq_false_iff_not, Bool.not_true, Bool.not_false, Bool.not_eq_true', Bool.not_eq_false', Bool.not_not, beq_eq_false_iff_ne, ne_eq, beq_iff_eq, decide_eq_decide] at hg); try (exfalso; omega)))
 | ((with_reducible apply retQ_mk); (· (first | exact .inr rfl | exact .inl rfl)); (· exact sv); (· exact sv); rotate_left; (· rfl)))
        all_goals rfl
    · have hnil : s.drop (a + 2) = [] := List.drop_eq_nil_of_le (by omega)
      rw [hnil] at c0 ⊢
      simp only at c0 ⊢
      have c1 := command_ab H s a a hs rfl (by omega) (by omega)
      rw [hnil] at c1
      refine Fn_of_aw (keep := []) Tryd.func49 rfl rfl (by simp [Tryd.ntmps49]) ?_
      simp only [num_cons, num_nil, Tryd.ntmps49, Tryd.results49]
      repeat' (first
 | ((with_reducible apply awO_ev); (· rfl); (· exact sv))
 | ((with_reducible apply aw_seq); intro _ _)
 | (with_reducible apply aw_region)
 | (with_reducible apply aw_block)
 | ((first | (with_reducible apply awO_nil) | (with_reducible apply aw_exit) | (with_reducible apply aw_skip) | (with_reducible apply aw_ret)); (try simp only [CT, ↓reduceIte, Nat.reduceEqDiff]))
 | ((with_reducible apply aw_cond_false); (· exact sv))
 | (refine Kont.go ‹Kont _ _ _ _› _ ?_)
 | ((with_reducible apply awO_c); (· rfl); (· rfl); (· exact sv); (· (first | with_reducible exact c0 | with_reducible exact c1)); (· rfl); (· rfl); (· rfl); (· decide))
 | ((first | ((with_reducible apply awO_guard); (· rfl); (· rfl); (· exact sv)) | ((with_reducible apply aw_cond); (· exact sv))); all_goals (intro hg; (try simp only [Bool.not_true, Bool.not_false]); (try simp only [decide_eq_true_eq, decide_eq_false_iff_not, Bool.not_true, Bool.not_false, Bool.not_eq_true', Bool.not_eq_false', Bool.not_not, beq_eq_false_iff_ne, ne_eq, beq_iff_eq, decide_eq_decide] at hg); try (exfalso; omega)))
 | ((with_reducible apply retQ_mk); (· (first | exact .inr rfl | exact .inl rfl)); (· exact sv); (· exact sv); rotate_left; (· rfl)))
      all_goals rfl
  rw [if_neg h40]
  rw [decide_eq_false h40, Bool.false_and] at c0
  by_cases h123 : s[a + 1].toNat = 123
  · rw [if_pos h123]
    have c1 := braced_ab H s a a q d hs rfl (by omega) (by omega) hqd
    refine Fn_of_aw (keep := []) Tryd.func49 rfl rfl (by simp [Tryd.ntmps49]) ?_
    simp only [num_cons, num_nil, Tryd.ntmps49, Tryd.results49]
    repeat' (first
 | ((with_reducible apply awO_ev); (· rfl); (· exact sv))
 | ((with_reducible apply aw_seq); intro _ _)
 | (with_reducible apply aw_region)
 | (with_reducible apply aw_block)
 | ((first | (with_reducible apply awO_nil) | (with_reducible apply aw_exit) | (with_reducible apply aw_skip) | (with_reducible apply aw_ret)); (try simp only [CT, ↓reduceIte, Nat.reduceEqDiff]))
 | ((with_reducible apply aw_cond_false); (· exact sv))
 | (refine Kont.go ‹Kont _ _ _ _› _ ?_)
 | ((with_reducible apply awO_c); (· rfl); (· rfl); (· exact sv); (· (first | with_reducible exact c0 | with_reducible exact c1)); (· rfl); (· rfl); (· rfl); (· decide))
 | ((first | ((with_reducible apply awO_guard); (· rfl); (· rfl); (· exact sv)) | ((with_reducible apply aw_cond); (· exact sv))); all_goals (intro hg; (try simp only [Bool.not_true, Bool.not_false]); (try simp only [decide_eq_true_eq, decide_eq_false_iff_not, Bool.not_true, Bool.not_false, Bool.not_eq_true', Bool.not_eq_false', Bool.not_not, beq_eq_false_iff_ne, ne_eq, beq_iff_eq, decide_eq_decide] at hg); try (exfalso; omega)))
 | ((with_reducible apply retQ_mk); (· (first | exact .inr rfl | exact .inl rfl)); (· exact sv); (· exact sv); rotate_left; (· rfl)))
    all_goals rfl
  rw [if_neg h123]
  have c2 := starts_ab s[a + 1]
  by_cases hst : startsB s[a + 1] = true
  · rw [if_pos hst]
    rw [hst] at c2
    have hw : wordN (s[a + 1] :: s.drop (a + 2)) = wordN (s.drop (a + 2)) + 1 := by
      simp only [wordN]; rw [if_pos (by rw [startsB_word, hst]; rfl)]
    have hlw := wordN_le (s.drop (a + 2))
    rw [List.length_drop] at hlw
    rw [hw]
    refine Fn_of_aw (keep := []) Tryd.func49 rfl rfl (by simp [Tryd.ntmps49]) ?_
    simp only [num_cons, num_nil, Tryd.ntmps49, Tryd.results49]
    repeat' (first
 | ((with_reducible apply awO_ev); (· rfl); (· exact sv))
 | ((with_reducible apply aw_seq); intro _ _)
 | (with_reducible apply aw_region)
 | (with_reducible apply aw_block)
 | ((first | (with_reducible apply awO_nil) | (with_reducible apply aw_exit) | (with_reducible apply aw_skip) | (with_reducible apply aw_ret)); (try simp only [CT, ↓reduceIte, Nat.reduceEqDiff]))
 | ((with_reducible apply aw_cond_false); (· exact sv))
 | (refine Kont.go ‹Kont _ _ _ _› _ ?_)
 | ((with_reducible apply awO_c); (· rfl); (· rfl); (· exact sv); (· (first | with_reducible exact c0 | with_reducible exact c2)); (· rfl); (· rfl); (· rfl); (· decide))
 | ((first | ((with_reducible apply awO_guard); (· rfl); (· rfl); (· exact sv)) | ((with_reducible apply aw_cond); (· exact sv))); all_goals (intro hg; (try simp only [Bool.not_true, Bool.not_false]); (try simp only [decide_eq_true_eq, decide_eq_false_iff_not, Bool.not_true, Bool.not_false, Bool.not_eq_true', Bool.not_eq_false', Bool.not_not, beq_eq_false_iff_ne, ne_eq, beq_iff_eq, decide_eq_decide] at hg); try (exfalso; omega))))
    refine aw_loopF (fun i : Nat => [(9, ai i)]) (fun _ => [(5, [ab q, ab d])]) (fun i => a + 2 ≤ i ∧ i ≤ s.length ∧ a + 2 + wordN (s.drop (a + 2)) = i + wordN (s.drop i)) (fun i => s.length - i) (a + 2) ⟨by omega, by omega, rfl⟩ ?_ ?_ ?_
    · (simp only [LP, look_cons, look_nil, and_true, true_and, ↓reduceIte, Nat.reduceEqDiff, Option.some.injEq, AV.v.injEq, Value.int.injEq, Int.natCast_add, Int.cast_ofNat_Int])
    · (simp only [LP, look_cons, look_nil, and_true, true_and, ↓reduceIte, Nat.reduceEqDiff, Option.some.injEq, AV.v.injEq, Value.int.injEq, Int.natCast_add, Int.cast_ofNat_Int])
    intro i ⟨hi0, hi, hI⟩
    (simp only [LP, List.append_assoc, List.nil_append, List.cons_append, List.append_nil, List.contains_cons, List.contains_nil, Nat.reduceBEq, Bool.or_false, Bool.or_true, Bool.true_or, Bool.false_or, ↓reduceIte, Bool.false_eq_true])
    by_cases hil : i < s.length
    · rw [dropc hil] at hI
      simp only [wordN] at hI
      by_cases hwb : wordB s[i] = true
      · rw [if_pos hwb] at hI
        rw [startsB_word, Bool.or_eq_true] at hwb
        repeat' (first
 | ((with_reducible apply awO_ev); (· rfl); (· exact sv))
 | ((with_reducible apply aw_seq); intro _ _)
 | (with_reducible apply aw_region)
 | (with_reducible apply aw_block)
 | ((first | (with_reducible apply awO_nil) | (with_reducible apply aw_exit) | (with_reducible apply aw_skip) | (with_reducible apply aw_ret)); (try simp only [CT, ↓reduceIte, Nat.reduceEqDiff]))
 | ((with_reducible apply awO_y); (· rfl); (· rfl); (· decide); (· exact sv); (· exact sv))
 | ((with_reducible apply awO_n); (· rfl); (· rfl); (· decide); (· exact sv); (· rfl); (· rfl); (· decide))
 | ((with_reducible apply aw_cond_true); (· exact sv))
 | ((with_reducible apply awO_un); (· rfl); (· decide); (· exact sv))
 | (refine Kont.go ‹Kont _ _ _ _› _ ?_)
 | ((with_reducible apply awO_c); (· rfl); (· rfl); (· exact sv); (· (first | exact starts_ab _ | exact digit_ab _)); (· rfl); (· rfl); (· rfl); (· decide))
 | ((first | ((with_reducible apply awO_guard); (· rfl); (· rfl); (· exact sv)) | ((with_reducible apply aw_cond); (· exact sv))); all_goals (intro hg; (try simp only [Bool.not_true, Bool.not_false]); (try simp only [decide_eq_true_eq, decide_eq_false_iff_not, Bool.not_true, Bool.not_false, Bool.not_eq_true', Bool.not_eq_false', Bool.not_not, beq_eq_false_iff_ne, ne_eq, beq_iff_eq, decide_eq_decide] at hg); try (exfalso; omega)))
 | ((with_reducible apply retQ_mk); (· (first | exact .inr rfl | exact .inl rfl)); (· exact sv); (· exact sv); rotate_left; (· rfl)))
        all_goals (first
          | (refine LE_mk (i + 1) ?_ ?_ sN sN sN
             · exact ⟨by omega, by omega, by omega⟩
             · omega)
          | (rcases hwb with h | h; (· exact absurd (h.symm.trans ‹startsB s[i] = false›) (by decide)); (· exact absurd (h.symm.trans ‹digitB s[i] = false›) (by decide))))
      · rw [if_neg hwb] at hI
        have hwb' : startsB s[i] = false ∧ digitB s[i] = false := by
          rw [startsB_word] at hwb
          simpa using hwb
        have c3 := starts_ab s[i]
        have c4 := digit_ab s[i]
        rw [hwb'.1] at c3
        rw [hwb'.2] at c4
        repeat' (first
 | ((with_reducible apply awO_ev); (· rfl); (· exact sv))
 | ((with_reducible apply aw_seq); intro _ _)
 | (with_reducible apply aw_region)
 | ((first | (with_reducible apply awO_nil) | (with_reducible apply aw_exit) | (with_reducible apply aw_skip) | (with_reducible apply aw_ret)); (try simp only [CT, ↓reduceIte, Nat.reduceEqDiff]))
 | ((with_reducible apply awO_y); (· rfl); (· rfl); (· decide); (· exact sv); (· exact sv))
 | ((with_reducible apply aw_cond_false); (· exact sv))
 | ((with_reducible apply awO_un); (· rfl); (· decide); (· exact sv))
 | (refine Kont.go ‹Kont _ _ _ _› _ ?_)
 | ((with_reducible apply awO_c); (· rfl); (· rfl); (· exact sv); (· (first | with_reducible exact c3 | with_reducible exact c4)); (· rfl); (· rfl); (· rfl); (· decide))
 | ((first | ((with_reducible apply awO_guard); (· rfl); (· rfl); (· exact sv)) | ((with_reducible apply aw_cond); (· exact sv))); all_goals (intro hg; (try simp only [Bool.not_true, Bool.not_false]); (try simp only [decide_eq_true_eq, decide_eq_false_iff_not, Bool.not_true, Bool.not_false, Bool.not_eq_true', Bool.not_eq_false', Bool.not_not, beq_eq_false_iff_ne, ne_eq, beq_iff_eq, decide_eq_decide] at hg); try (exfalso; omega)))
 | ((with_reducible apply retQ_mk); (· (first | exact .inr rfl | exact .inl rfl)); (· exact sv); (· exact sv); rotate_left; (· rfl)))
        exact tp_mk rfl (by omega)
    · rw [List.drop_eq_nil_of_le (by omega : s.length ≤ i)] at hI
      simp only [wordN] at hI
      repeat' (first
 | ((with_reducible apply awO_ev); (· rfl); (· exact sv))
 | ((with_reducible apply aw_seq); intro _ _)
 | (with_reducible apply aw_region)
 | ((first | (with_reducible apply awO_nil) | (with_reducible apply aw_exit) | (with_reducible apply aw_skip) | (with_reducible apply aw_ret)); (try simp only [CT, ↓reduceIte, Nat.reduceEqDiff]))
 | ((with_reducible apply awO_n); (· rfl); (· rfl); (· decide); (· exact sv); (· rfl); (· rfl); (· decide))
 | ((with_reducible apply awO_u); (· rfl); (· rfl); (· exact svr); (· rfl); (· decide))
 | ((with_reducible apply aw_cond_false); (· exact sv))
 | (refine Kont.go ‹Kont _ _ _ _› _ ?_)
 | ((first | ((with_reducible apply awO_guard); (· rfl); (· rfl); (· exact sv)) | ((with_reducible apply aw_cond); (· exact sv))); all_goals (intro hg; (try simp only [Bool.not_true, Bool.not_false]); (try simp only [decide_eq_true_eq, decide_eq_false_iff_not, Bool.not_true, Bool.not_false, Bool.not_eq_true', Bool.not_eq_false', Bool.not_not, beq_eq_false_iff_ne, ne_eq, beq_iff_eq, decide_eq_decide] at hg); try (exfalso; omega)))
 | ((with_reducible apply retQ_mk); (· (first | exact .inr rfl | exact .inl rfl)); (· exact sv); (· exact sv); rotate_left; (· rfl)))
      exact tp_mk rfl (by omega)
  · have hst' : startsB s[a + 1] = false := by simpa using hst
    rw [if_neg hst]
    rw [hst'] at c2
    refine Fn_of_aw (keep := []) Tryd.func49 rfl rfl (by simp [Tryd.ntmps49]) ?_
    simp only [num_cons, num_nil, Tryd.ntmps49, Tryd.results49]
    repeat' (first
 | ((with_reducible apply awO_ev); (· rfl); (· exact sv))
 | ((with_reducible apply aw_seq); intro _ _)
 | (with_reducible apply aw_region)
 | (with_reducible apply aw_block)
 | ((first | (with_reducible apply awO_nil) | (with_reducible apply aw_exit) | (with_reducible apply aw_skip) | (with_reducible apply aw_ret)); (try simp only [CT, ↓reduceIte, Nat.reduceEqDiff]))
 | ((with_reducible apply aw_cond_true); (· exact sv))
 | ((with_reducible apply aw_cond_false); (· exact sv))
 | (refine Kont.go ‹Kont _ _ _ _› _ ?_)
 | ((with_reducible apply awO_c); (· rfl); (· rfl); (· exact sv); (· (first | with_reducible exact c0 | with_reducible exact c2)); (· rfl); (· rfl); (· rfl); (· decide))
 | ((first | ((with_reducible apply awO_guard); (· rfl); (· rfl); (· exact sv)) | ((with_reducible apply aw_cond); (· exact sv))); all_goals (intro hg; (try simp only [Bool.not_true, Bool.not_false]); (try simp only [decide_eq_true_eq, decide_eq_false_iff_not, Bool.not_true, Bool.not_false, Bool.not_eq_true', Bool.not_eq_false', Bool.not_not, beq_eq_false_iff_ne, ne_eq, beq_iff_eq, decide_eq_decide] at hg); try (exfalso; omega)))
 | ((with_reducible apply retQ_mk); (· (first | exact .inr rfl | exact .inl rfl)); (· exact sv); (· exact sv); rotate_left; (· rfl)))
    exact tp_mk (b := 2) rfl (by omega)
theorem CONH_all : ∀ n, CONH n
  | 0 => CONH_zero
  | n + 1 => CONH_succ (CONH_all n)
theorem construct_ab (s : List UInt8) (i : Nat) (z : Int) (hz : z = i) (hi : i < s.length) (hs : s.length ≤ 1000000) (hb : begB (s.drop i) = true) : Ab Tryd.prog 49 [az s, ai z, plc false false] (tpr i (con (s.drop i) 0)) :=
  CONH_all _ s i z false false hs hz hi (Nat.le_refl _) hb (fun h => h)
end Go.Proofs.YtgbhjlkenfmadaaDoor
