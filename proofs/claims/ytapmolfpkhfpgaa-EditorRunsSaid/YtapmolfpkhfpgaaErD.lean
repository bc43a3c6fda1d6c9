/- The editor: HasPrefix, Find of both, the usual bindings, on the abstract machine. -/
import Derived.Test.YtapmolfpkhfpgaaCom
import Derived.Test.YtapmolfpkhfpgaaStEq
import Derived.Test.YtapmolfpkhfpgaaKmC
namespace Go.Proofs.Ytapmolfpkhfpgaa
open Go.RowKit
set_option linter.unusedVariables false
set_option linter.unusedSimpArgs false
set_option maxRecDepth 100000
set_option maxHeartbeats 8000000
theorem isPrefixOf_take {p l : List UInt8} : p.isPrefixOf l = decide (p.length ≤ l.length ∧ l.take p.length = p) := by
  rw [Bool.eq_iff_iff, List.isPrefixOf_iff_prefix, decide_eq_true_eq, List.prefix_iff_eq_take]
  constructor
  · intro h; refine ⟨?_, h.symm⟩; have := congrArg List.length h; rw [List.length_take] at this; omega
  · intro h; exact h.2.symm
theorem slHasPrefix_ab (l p : List UInt8) : Ab Try.prog 77 [az l, az p] (ab (p.isPrefixOf l)) := by
  refine Fn_of_aw (keep := []) Try.func77 rfl rfl (by simp [Try.ntmps77]) ?_
  simp only [num_cons, num_nil, Try.ntmps77, Try.results77]
  repeat' (first
 | ((with_reducible apply awO_ev); (· rfl); (· exact sv))
 | ((with_reducible apply aw_seq); intro _ _)
 | (with_reducible apply aw_region)
 | ((first | (with_reducible apply awO_nil) | (with_reducible apply aw_exit) | (with_reducible apply aw_skip) | (with_reducible apply aw_ret)); (try simp only [CT, ↓reduceIte, Nat.reduceEqDiff]))
 | ((with_reducible apply awO_y); (· rfl); (· rfl); (· decide); (· exact sv); (· exact sv))
 | ((with_reducible apply awO_n); (· rfl); (· rfl); (· decide); (· exact sv); (· rfl); (· rfl); (· decide))
 | (refine Kont.go ‹Kont _ _ _ _› _ ?_)
 | ((first | ((with_reducible apply awO_guard); (· rfl); (· rfl); (· exact sv)) | ((with_reducible apply aw_cond); (· exact sv))); all_goals (intro hg; (try simp only [Bool.not_true, Bool.not_false]); (try simp only [decide_eq_true_eq, decide_eq_false_iff_not, Bool.not_true, Bool.not_false, Bool.not_eq_true', Bool.not_eq_false', Bool.not_not, beq_eq_false_iff_ne, ne_eq, beq_iff_eq, decide_eq_decide] at hg); try (exfalso; omega)))
 | ((with_reducible apply retQ_mk); (· (first | exact .inr rfl | exact .inl rfl)); (· exact sv); (· exact sv); rotate_left; (· rfl)))
  all_goals (refine ab_eq ?_; rw [isPrefixOf_take]; simp only [decide_eq_true_eq, Bool.false_eq_true, false_iff])
  · constructor
    · intro h; exact ⟨by omega, h⟩
    · exact fun h => h.2
  · intro h; omega
theorem hasPrefix_ab (l p : List UInt8) : Ab Try.prog 70 [az l, az p] (ab (p.isPrefixOf l)) := by
  refine Fn_of_aw (keep := []) Try.func70 rfl rfl (by simp [Try.ntmps70]) ?_
  simp only [num_cons, num_nil, Try.ntmps70, Try.results70]
  repeat' (first
 | ((with_reducible apply awO_ev); (· rfl); (· exact sv))
 | ((with_reducible apply aw_seq); intro _ _)
 | (with_reducible apply aw_region)
 | ((first | (with_reducible apply awO_nil) | (with_reducible apply aw_exit) | (with_reducible apply aw_skip) | (with_reducible apply aw_ret)); (try simp only [CT, ↓reduceIte, Nat.reduceEqDiff]))
 | (refine Kont.go ‹Kont _ _ _ _› _ ?_)
 | ((with_reducible apply awO_c); (· rfl); (· rfl); (· exact sv); (· (first | exact slHasPrefix_ab _ _)); (· rfl); (· rfl); (· rfl); (· decide))
 | ((with_reducible apply retQ_mk); (· (first | exact .inr rfl | exact .inl rfl)); (· exact sv); (· exact sv); rotate_left; (· rfl)))
  rfl
abbrev biC (L : List Bi) : List AV := L.flatMap fun b => [az b.k, ai b.a]
abbrev biA (L : List Bi) : AV := .rd L.length (biC L)
theorem proper_ab (a b : List UInt8) : Ab Try.prog 54 [az a, az b] (ab (prpB a b)) := by
  have c1 := hasPrefix_ab b a
  unfold prpB
  by_cases h : a.length < b.length
  · rw [decide_eq_true h, Bool.true_and]
    generalize a.isPrefixOf b = q at *
    refine Fn_of_aw (keep := []) Try.func54 rfl rfl (by simp [Try.ntmps54]) ?_
    simp only [num_cons, num_nil, Try.ntmps54, Try.results54]
    repeat' (first
 | ((with_reducible apply awO_ev); (· rfl); (· exact sv))
 | ((with_reducible apply aw_seq); intro _ _)
 | (with_reducible apply aw_region)
 | ((first | (with_reducible apply awO_nil) | (with_reducible apply aw_exit) | (with_reducible apply aw_skip) | (with_reducible apply aw_ret)); (try simp only [CT, ↓reduceIte, Nat.reduceEqDiff]))
 | ((with_reducible apply awO_y); (· rfl); (· rfl); (· decide); (· exact sv); (· exact sv))
 | ((with_reducible apply awO_un); (· rfl); (· decide); (· exact sv))
 | (refine Kont.go ‹Kont _ _ _ _› _ ?_)
 | ((with_reducible apply awO_c); (· rfl); (· rfl); (· exact sv); (· (first | exact c1)); (· rfl); (· rfl); (· rfl); (· decide))
 | ((first | ((with_reducible apply awO_guard); (· rfl); (· rfl); (· exact sv)) | ((with_reducible apply aw_cond); (· exact sv))); all_goals (intro hg; (try simp only [Bool.not_true, Bool.not_false]); (try simp only [decide_eq_true_eq, decide_eq_false_iff_not, Bool.not_true, Bool.not_false, Bool.not_eq_true', Bool.not_eq_false', Bool.not_not, beq_eq_false_iff_ne, ne_eq, beq_iff_eq, decide_eq_decide] at hg); try (exfalso; omega)))
 | ((with_reducible apply retQ_mk); (· (first | exact .inr rfl | exact .inl rfl)); (· exact sv); (· exact sv); rotate_left; (· rfl)))
    all_goals rfl
  · rw [decide_eq_false h, Bool.false_and]
    refine Fn_of_aw (keep := []) Try.func54 rfl rfl (by simp [Try.ntmps54]) ?_
    simp only [num_cons, num_nil, Try.ntmps54, Try.results54]
    repeat' (first
 | ((with_reducible apply awO_ev); (· rfl); (· exact sv))
 | ((with_reducible apply aw_seq); intro _ _)
 | (with_reducible apply aw_region)
 | ((first | (with_reducible apply awO_nil) | (with_reducible apply aw_exit) | (with_reducible apply aw_skip) | (with_reducible apply aw_ret)); (try simp only [CT, ↓reduceIte, Nat.reduceEqDiff]))
 | ((with_reducible apply awO_n); (· rfl); (· rfl); (· decide); (· exact sv); (· rfl); (· rfl); (· decide))
 | (refine Kont.go ‹Kont _ _ _ _› _ ?_)
 | ((first | ((with_reducible apply awO_guard); (· rfl); (· rfl); (· exact sv)) | ((with_reducible apply aw_cond); (· exact sv))); all_goals (intro hg; (try simp only [Bool.not_true, Bool.not_false]); (try simp only [decide_eq_true_eq, decide_eq_false_iff_not, Bool.not_true, Bool.not_false, Bool.not_eq_true', Bool.not_eq_false', Bool.not_not, beq_eq_false_iff_ne, ne_eq, beq_iff_eq, decide_eq_decide] at hg); try (exfalso; omega)))
 | ((with_reducible apply retQ_mk); (· (first | exact .inr rfl | exact .inl rfl)); (· exact sv); (· exact sv); rotate_left; (· rfl)))
    all_goals rfl
theorem begins_ab (a b : List UInt8) (ha : a.length ≤ 9000000000000000) (hb : b.length ≤ 9000000000000000) : Ab Try.prog 55 [az a, az b] (ab (a.isPrefixOf b)) := by
  rw [isPrefixOf_take]
  by_cases h : a.length ≤ b.length
  · skip
    refine Fn_of_aw (keep := []) Try.func55 rfl rfl (by simp [Try.ntmps55]) ?_
    simp only [num_cons, num_nil, Try.ntmps55, Try.results55]
    repeat' (first
 | ((with_reducible apply awO_ev); (· rfl); (· exact sv))
 | ((with_reducible apply aw_seq); intro _ _)
 | (with_reducible apply aw_region)
 | ((first | (with_reducible apply awO_nil) | (with_reducible apply aw_exit) | (with_reducible apply aw_skip) | (with_reducible apply aw_ret)); (try simp only [CT, ↓reduceIte, Nat.reduceEqDiff]))
 | ((with_reducible apply awO_y); (· rfl); (· rfl); (· decide); (· exact sv); (· exact sv))
 | (refine Kont.go ‹Kont _ _ _ _› _ ?_)
 | ((first | ((with_reducible apply awO_guard); (· rfl); (· rfl); (· exact sv)) | ((with_reducible apply aw_cond); (· exact sv))); all_goals (intro hg; (try simp only [Bool.not_true, Bool.not_false]); (try simp only [decide_eq_true_eq, decide_eq_false_iff_not, Bool.not_true, Bool.not_false, Bool.not_eq_true', Bool.not_eq_false', Bool.not_not, beq_eq_false_iff_ne, ne_eq, beq_iff_eq, decide_eq_decide] at hg); try (exfalso; omega)))
 | ((with_reducible apply retQ_mk); (· (first | exact .inr rfl | exact .inl rfl)); (· exact sv); (· exact sv); rotate_left; (· rfl)))
    all_goals
      refine ab_eq ?_
      simp only [decide_eq_true_eq]
      exact ⟨fun e => ⟨h, e⟩, fun e => e.2⟩
  · skip
    refine Fn_of_aw (keep := []) Try.func55 rfl rfl (by simp [Try.ntmps55]) ?_
    simp only [num_cons, num_nil, Try.ntmps55, Try.results55]
    repeat' (first
 | ((with_reducible apply awO_ev); (· rfl); (· exact sv))
 | ((with_reducible apply aw_seq); intro _ _)
 | (with_reducible apply aw_region)
 | ((first | (with_reducible apply awO_nil) | (with_reducible apply aw_exit) | (with_reducible apply aw_skip) | (with_reducible apply aw_ret)); (try simp only [CT, ↓reduceIte, Nat.reduceEqDiff]))
 | ((with_reducible apply awO_n); (· rfl); (· rfl); (· decide); (· exact sv); (· rfl); (· rfl); (· decide))
 | (refine Kont.go ‹Kont _ _ _ _› _ ?_)
 | ((first | ((with_reducible apply awO_guard); (· rfl); (· rfl); (· exact sv)) | ((with_reducible apply aw_cond); (· exact sv))); all_goals (intro hg; (try simp only [Bool.not_true, Bool.not_false]); (try simp only [decide_eq_true_eq, decide_eq_false_iff_not, Bool.not_true, Bool.not_false, Bool.not_eq_true', Bool.not_eq_false', Bool.not_not, beq_eq_false_iff_ne, ne_eq, beq_iff_eq, decide_eq_decide] at hg); try (exfalso; omega)))
 | ((with_reducible apply retQ_mk); (· (first | exact .inr rfl | exact .inl rfl)); (· exact sv); (· exact sv); rotate_left; (· rfl)))
    all_goals
      refine ab_eq ?_
      simp only [decide_eq_true_eq, Bool.false_eq_true, false_iff]
      exact fun e => h e.1
theorem has_take {L : List Bi} {i : Nat} (h : i < L.length) (s : List UInt8) : hasB (L.take (i + 1)) s = (hasB (L.take i) s || decide (L[i].k = s)) := by
  unfold hasB
  rw [List.take_succ_eq_append_getElem h, List.any_append]; simp
theorem fnA_not {L : List Bi} {s : List UInt8} (h : hasB L s = false) : fnA L s = 0 := by
  unfold hasB at h
  rw [fnA, List.find?_eq_none.2 (fun b hb => List.any_eq_false.1 h b hb)]; rfl
theorem fnA_app (A B : List Bi) (s : List UInt8) : fnA (A ++ B) s = if hasB A s = true then fnA A s else fnA B s := by
  unfold fnA hasB
  rw [List.find?_append]
  cases hA : A.find? fun b => decide (b.k = s) with
  | none =>
    rw [if_neg]
    · rfl
    · rw [Bool.not_eq_true, List.any_eq_false]
      exact fun b hb => List.find?_eq_none.1 hA b hb
  | some b =>
    rw [if_pos (List.any_eq_true.2 ⟨b, List.mem_of_find?_eq_some hA, List.find?_some hA⟩)]
    rfl
theorem fnA_take {L : List Bi} {i : Nat} (h : i < L.length) (s : List UInt8) : fnA (L.take (i + 1)) s = if hasB (L.take i) s = true then fnA (L.take i) s else if L[i].k = s then L[i].a else 0 := by
  rw [List.take_succ_eq_append_getElem h, fnA_app]
  congr 1
  unfold fnA
  by_cases e : L[i].k = s <;> simp [e]
theorem fnM_take {L : List Bi} {i : Nat} (h : i < L.length) (s : List UInt8) : fnM (L.take (i + 1)) s = if prpB s L[i].k = true then 1 else fnM (L.take i) s := by
  unfold fnM
  rw [List.take_succ_eq_append_getElem h, List.any_append]
  have e : mrB s L[i] = prpB s L[i].k := rfl
  simp only [List.any_cons, List.any_nil, Bool.or_false, e]
  cases prpB s L[i].k <;> simp
theorem find_ab (L : List Bi) (s : List UInt8) (hL : L.length ≤ 9000000000000000) (hk : ∀ i (h : i < L.length), L[i].k.length ≤ 9000000000000000) (hs : s.length ≤ 9000000000000000) : Ab Try.prog 33 [biA L, az s] (.tp [ai (fnA L s), ai (fnM L s)]) := by
  refine Fn_of_aw (keep := []) Try.func33 rfl rfl (by simp [Try.ntmps33]) ?_
  simp only [num_cons, num_nil, Try.ntmps33, Try.results33]
  repeat' (first
 | ((with_reducible apply awO_ev); (· rfl); (· exact sv))
 | ((with_reducible apply aw_seq); intro _ _)
 | (with_reducible apply aw_region)
 | (with_reducible apply aw_block)
 | ((first | (with_reducible apply awO_nil) | (with_reducible apply aw_exit) | (with_reducible apply aw_skip) | (with_reducible apply aw_ret)); (try simp only [CT, ↓reduceIte, Nat.reduceEqDiff]))
 | (refine Kont.go ‹Kont _ _ _ _› _ ?_))
  refine aw_loopF (fun i : Nat => [(13, ai i), (6, ai (fnA (L.take i) s)), (7, ai (fnM (L.take i) s)), (8, ab (hasB (L.take i) s))]) (fun _ => []) (fun i => i ≤ L.length) (fun i => L.length - i) 0 (by omega) ?_ ?_ ?_
  · exact ⟨rfl, rfl, rfl, rfl, trivial⟩
  · exact trivial
  intro i hi
  (simp only [LP, List.append_assoc, List.nil_append, List.cons_append, List.append_nil, List.contains_cons, List.contains_nil, Nat.reduceBEq, Bool.or_false, Bool.or_true, Bool.true_or, Bool.false_or, ↓reduceIte, Bool.false_eq_true])
  by_cases hil : i < L.length
  · have hkl := hk i hil
    have e1 := fnA_take hil s
    have e2 := fnM_take hil s
    have e3 := has_take hil s
    have cp := proper_ab s L[i].k
    cases hf : hasB (L.take i) s with
    | true =>
      rw [hf, if_pos rfl] at e1
      rw [hf, Bool.true_or] at e3
      cases hm : prpB s L[i].k with
      | true =>
        rw [hm, if_pos rfl] at e2
        rw [hm] at cp
        repeat' (first
 | ((with_reducible apply awO_ev); (· rfl); (· exact sv))
 | ((with_reducible apply aw_seq); intro _ _)
 | (with_reducible apply aw_region)
 | (with_reducible apply aw_block)
 | ((first | (with_reducible apply awO_nil) | (with_reducible apply aw_exit) | (with_reducible apply aw_skip) | (with_reducible apply aw_ret)); (try simp only [CT, ↓reduceIte, Nat.reduceEqDiff]))
 | ((with_reducible apply awO_n); (· rfl); (· rfl); (· decide); (· exact sv); (· rfl); (· rfl); (· decide))
 | ((with_reducible apply aw_cond_true); (· exact sv))
 | ((with_reducible apply aw_cond_false); (· exact sv))
 | (refine Kont.go ‹Kont _ _ _ _› _ ?_)
 | ((with_reducible apply awO_c); (· rfl); (· rfl); (· exact sv); (· (first | exact cp)); (· rfl); (· rfl); (· rfl); (· decide))
 | ((first | ((with_reducible apply awO_guard); (· rfl); (· rfl); (· exact sv)) | ((with_reducible apply aw_cond); (· exact sv))); all_goals (intro hg; (try simp only [Bool.not_true, Bool.not_false]); (try simp only [decide_eq_true_eq, decide_eq_false_iff_not, Bool.not_true, Bool.not_false, Bool.not_eq_true', Bool.not_eq_false', Bool.not_not, beq_eq_false_iff_ne, ne_eq, beq_iff_eq, decide_eq_decide] at hg); try (exfalso; omega))))
        all_goals first
          | (refine LE_mk (i + 1) (by omega) (by omega) ?_ sN sN
             rw [e1, e2, e3]
             exact ⟨rfl, rfl, rfl, rfl, trivial⟩)
      | false =>
        rw [hm, if_neg (by simp)] at e2
        rw [hm] at cp
        repeat' (first
 | ((with_reducible apply awO_ev); (· rfl); (· exact sv))
 | ((with_reducible apply aw_seq); intro _ _)
 | (with_reducible apply aw_region)
 | (with_reducible apply aw_block)
 | ((first | (with_reducible apply awO_nil) | (with_reducible apply aw_exit) | (with_reducible apply aw_skip) | (with_reducible apply aw_ret)); (try simp only [CT, ↓reduceIte, Nat.reduceEqDiff]))
 | ((with_reducible apply awO_n); (· rfl); (· rfl); (· decide); (· exact sv); (· rfl); (· rfl); (· decide))
 | ((with_reducible apply aw_cond_false); (· exact sv))
 | (refine Kont.go ‹Kont _ _ _ _› _ ?_)
 | ((with_reducible apply awO_c); (· rfl); (· rfl); (· exact sv); (· (first | exact cp)); (· rfl); (· rfl); (· rfl); (· decide))
 | ((first | ((with_reducible apply awO_guard); (· rfl); (· rfl); (· exact sv)) | ((with_reducible apply aw_cond); (· exact sv))); all_goals (intro hg; (try simp only [Bool.not_true, Bool.not_false]); (try simp only [decide_eq_true_eq, decide_eq_false_iff_not, Bool.not_true, Bool.not_false, Bool.not_eq_true', Bool.not_eq_false', Bool.not_not, beq_eq_false_iff_ne, ne_eq, beq_iff_eq, decide_eq_decide] at hg); try (exfalso; omega))))
        all_goals first
          | (refine LE_mk (i + 1) (by omega) (by omega) ?_ sN sN
             rw [e1, e2, e3]
             exact ⟨rfl, rfl, rfl, rfl, trivial⟩)
    | false =>
      rw [hf, if_neg (by simp)] at e1
      rw [hf, Bool.false_or] at e3
      have e0 := fnA_not hf
      rw [e0]
      by_cases hq : L[i].k = s
      · rw [if_pos hq] at e1
        rw [decide_eq_true hq] at e3
        cases hm : prpB s L[i].k with
        | true =>
          rw [hm, if_pos rfl] at e2
          rw [hm] at cp
          repeat' (first
 | ((with_reducible apply awO_ev); (· rfl); (· exact sv))
 | ((with_reducible apply aw_seq); intro _ _)
 | (with_reducible apply aw_region)
 | (with_reducible apply aw_block)
 | ((first | (with_reducible apply awO_nil) | (with_reducible apply aw_exit) | (with_reducible apply aw_skip) | (with_reducible apply aw_ret)); (try simp only [CT, ↓reduceIte, Nat.reduceEqDiff]))
 | ((with_reducible apply awO_y); (· rfl); (· rfl); (· decide); (· exact sv); (· exact sv))
 | ((with_reducible apply aw_cond_true); (· exact sv))
 | (refine Kont.go ‹Kont _ _ _ _› _ ?_)
 | ((with_reducible apply awO_c); (· rfl); (· rfl); (· exact sv); (· (first | exact cp)); (· rfl); (· rfl); (· rfl); (· decide))
 | ((first | ((with_reducible apply awO_guard); (· rfl); (· rfl); (· exact sv)) | ((with_reducible apply aw_cond); (· exact sv))); all_goals (intro hg; (try simp only [Bool.not_true, Bool.not_false]); (try simp only [decide_eq_true_eq, decide_eq_false_iff_not, Bool.not_true, Bool.not_false, Bool.not_eq_true', Bool.not_eq_false', Bool.not_not, beq_eq_false_iff_ne, ne_eq, beq_iff_eq, decide_eq_decide] at hg); try (exfalso; omega))))
          all_goals first
            | exact absurd ‹L[i].k = s› hq
            | exact absurd hq ‹¬ L[i].k = s›
            | (refine LE_mk (i + 1) (by omega) (by omega) ?_ sN sN
               rw [e1, e2, e3]
               exact ⟨rfl, rfl, rfl, rfl, trivial⟩)
        | false =>
          rw [hm, if_neg (by simp)] at e2
          rw [hm] at cp
          repeat' (first
 | ((with_reducible apply awO_ev); (· rfl); (· exact sv))
 | ((with_reducible apply aw_seq); intro _ _)
 | (with_reducible apply aw_region)
 | (with_reducible apply aw_block)
 | ((first | (with_reducible apply awO_nil) | (with_reducible apply aw_exit) | (with_reducible apply aw_skip) | (with_reducible apply aw_ret)); (try simp only [CT, ↓reduceIte, Nat.reduceEqDiff]))
 | ((with_reducible apply awO_y); (· rfl); (· rfl); (· decide); (· exact sv); (· exact sv))
 | ((with_reducible apply aw_cond_false); (· exact sv))
 | (refine Kont.go ‹Kont _ _ _ _› _ ?_)
 | ((with_reducible apply awO_c); (· rfl); (· rfl); (· exact sv); (· (first | exact cp)); (· rfl); (· rfl); (· rfl); (· decide))
 | ((first | ((with_reducible apply awO_guard); (· rfl); (· rfl); (· exact sv)) | ((with_reducible apply aw_cond); (· exact sv))); all_goals (intro hg; (try simp only [Bool.not_true, Bool.not_false]); (try simp only [decide_eq_true_eq, decide_eq_false_iff_not, Bool.not_true, Bool.not_false, Bool.not_eq_true', Bool.not_eq_false', Bool.not_not, beq_eq_false_iff_ne, ne_eq, beq_iff_eq, decide_eq_decide] at hg); try (exfalso; omega))))
          all_goals first
            | exact absurd ‹L[i].k = s› hq
            | exact absurd hq ‹¬ L[i].k = s›
            | (refine LE_mk (i + 1) (by omega) (by omega) ?_ sN sN
               rw [e1, e2, e3]
               exact ⟨rfl, rfl, rfl, rfl, trivial⟩)
      · rw [if_neg hq] at e1
        rw [decide_eq_false hq] at e3
        cases hm : prpB s L[i].k with
        | true =>
          rw [hm, if_pos rfl] at e2
          rw [hm] at cp
          repeat' (first
 | ((with_reducible apply awO_ev); (· rfl); (· exact sv))
 | ((with_reducible apply aw_seq); intro _ _)
 | (with_reducible apply aw_region)
 | (with_reducible apply aw_block)
 | ((first | (with_reducible apply awO_nil) | (with_reducible apply aw_exit) | (with_reducible apply aw_skip) | (with_reducible apply aw_ret)); (try simp only [CT, ↓reduceIte, Nat.reduceEqDiff]))
 | ((with_reducible apply awO_y); (· rfl); (· rfl); (· decide); (· exact sv); (· exact sv))
 | ((with_reducible apply aw_cond_true); (· exact sv))
 | (refine Kont.go ‹Kont _ _ _ _› _ ?_)
 | ((with_reducible apply awO_c); (· rfl); (· rfl); (· exact sv); (· (first | exact cp)); (· rfl); (· rfl); (· rfl); (· decide))
 | ((first | ((with_reducible apply awO_guard); (· rfl); (· rfl); (· exact sv)) | ((with_reducible apply aw_cond); (· exact sv))); all_goals (intro hg; (try simp only [Bool.not_true, Bool.not_false]); (try simp only [decide_eq_true_eq, decide_eq_false_iff_not, Bool.not_true, Bool.not_false, Bool.not_eq_true', Bool.not_eq_false', Bool.not_not, beq_eq_false_iff_ne, ne_eq, beq_iff_eq, decide_eq_decide] at hg); try (exfalso; omega))))
          all_goals first
            | exact absurd ‹L[i].k = s› hq
            | exact absurd hq ‹¬ L[i].k = s›
            | (refine LE_mk (i + 1) (by omega) (by omega) ?_ sN sN
               rw [e1, e2, e3]
               exact ⟨rfl, rfl, rfl, rfl, trivial⟩)
        | false =>
          rw [hm, if_neg (by simp)] at e2
          rw [hm] at cp
          repeat' (first
 | ((with_reducible apply awO_ev); (· rfl); (· exact sv))
 | ((with_reducible apply aw_seq); intro _ _)
 | (with_reducible apply aw_region)
 | (with_reducible apply aw_block)
 | ((first | (with_reducible apply awO_nil) | (with_reducible apply aw_exit) | (with_reducible apply aw_skip) | (with_reducible apply aw_ret)); (try simp only [CT, ↓reduceIte, Nat.reduceEqDiff]))
 | ((with_reducible apply awO_y); (· rfl); (· rfl); (· decide); (· exact sv); (· exact sv))
 | ((with_reducible apply aw_cond_false); (· exact sv))
 | (refine Kont.go ‹Kont _ _ _ _› _ ?_)
 | ((with_reducible apply awO_c); (· rfl); (· rfl); (· exact sv); (· (first | exact cp)); (· rfl); (· rfl); (· rfl); (· decide))
 | ((first | ((with_reducible apply awO_guard); (· rfl); (· rfl); (· exact sv)) | ((with_reducible apply aw_cond); (· exact sv))); all_goals (intro hg; (try simp only [Bool.not_true, Bool.not_false]); (try simp only [decide_eq_true_eq, decide_eq_false_iff_not, Bool.not_true, Bool.not_false, Bool.not_eq_true', Bool.not_eq_false', Bool.not_not, beq_eq_false_iff_ne, ne_eq, beq_iff_eq, decide_eq_decide] at hg); try (exfalso; omega))))
          all_goals first
            | exact absurd ‹L[i].k = s› hq
            | exact absurd hq ‹¬ L[i].k = s›
            | (refine LE_mk (i + 1) (by omega) (by omega) ?_ sN sN
               rw [e1, e2, e3]
               exact ⟨rfl, rfl, rfl, rfl, trivial⟩)
  · rw [List.take_of_length_le (by omega)]
    repeat' (first
 | ((with_reducible apply awO_ev); (· rfl); (· exact sv))
 | ((with_reducible apply aw_seq); intro _ _)
 | (with_reducible apply aw_region)
 | ((first | (with_reducible apply awO_nil) | (with_reducible apply aw_exit) | (with_reducible apply aw_skip) | (with_reducible apply aw_ret)); (try simp only [CT, ↓reduceIte, Nat.reduceEqDiff]))
 | (refine Kont.go ‹Kont _ _ _ _› _ ?_)
 | ((first | ((with_reducible apply awO_guard); (· rfl); (· rfl); (· exact sv)) | ((with_reducible apply aw_cond); (· exact sv))); all_goals (intro hg; (try simp only [Bool.not_true, Bool.not_false]); (try simp only [decide_eq_true_eq, decide_eq_false_iff_not, Bool.not_true, Bool.not_false, Bool.not_eq_true', Bool.not_eq_false', Bool.not_not, beq_eq_false_iff_ne, ne_eq, beq_iff_eq, decide_eq_decide] at hg); try (exfalso; omega)))
 | ((with_reducible apply retQ_mk); (· (first | exact .inr rfl | exact .inl rfl)); (· exact sv); (· exact sv); rotate_left; (· rfl)))
    all_goals rfl
theorem rfind_ab (L : List Bi) (s : List UInt8) (hL : L.length ≤ 9000000000000000) (hk : ∀ i (h : i < L.length), L[i].k.length ≤ 9000000000000000) (hs : s.length ≤ 9000000000000000) : Ab Try.prog 34 [biA L, az s] (.tp [ai (fnA L s), ai (fnM L s)]) := by
  refine Fn_of_aw (keep := []) Try.func34 rfl rfl (by simp [Try.ntmps34]) ?_
  simp only [num_cons, num_nil, Try.ntmps34, Try.results34]
  repeat' (first
 | ((with_reducible apply awO_ev); (· rfl); (· exact sv))
 | ((with_reducible apply aw_seq); intro _ _)
 | (with_reducible apply aw_region)
 | (with_reducible apply aw_block)
 | ((first | (with_reducible apply awO_nil) | (with_reducible apply aw_exit) | (with_reducible apply aw_skip) | (with_reducible apply aw_ret)); (try simp only [CT, ↓reduceIte, Nat.reduceEqDiff]))
 | (refine Kont.go ‹Kont _ _ _ _› _ ?_))
  refine aw_loopF (fun i : Nat => [(9, ai i), (6, ai (fnA (L.take i) s)), (7, ai (fnM (L.take i) s)), (8, ab (hasB (L.take i) s))]) (fun _ => []) (fun i => i ≤ L.length) (fun i => L.length - i) 0 (by omega) ?_ ?_ ?_
  · exact ⟨rfl, rfl, rfl, rfl, trivial⟩
  · exact trivial
  intro i hi
  (simp only [LP, List.append_assoc, List.nil_append, List.cons_append, List.append_nil, List.contains_cons, List.contains_nil, Nat.reduceBEq, Bool.or_false, Bool.or_true, Bool.true_or, Bool.false_or, ↓reduceIte, Bool.false_eq_true])
  by_cases hil : i < L.length
  · have hkl := hk i hil
    have e1 := fnA_take hil s
    have e2 := fnM_take hil s
    have e3 := has_take hil s
    have cp := begins_ab s L[i].k hs hkl
    cases hf : hasB (L.take i) s with
    | true =>
      rw [hf, if_pos rfl] at e1
      rw [hf, Bool.true_or] at e3
      cases hm : prpB s L[i].k with
      | true =>
        rw [hm, if_pos rfl] at e2
        have hm1 : s.length < L[i].k.length := by simp only [prpB, Bool.and_eq_true, decide_eq_true_eq] at hm; exact hm.1
        have hm2 : s.isPrefixOf L[i].k = true := by simp only [prpB, Bool.and_eq_true] at hm; exact hm.2
        rw [hm2] at cp
        repeat' (first
 | ((with_reducible apply awO_ev); (· rfl); (· exact sv))
 | ((with_reducible apply aw_seq); intro _ _)
 | (with_reducible apply aw_region)
 | (with_reducible apply aw_block)
 | ((first | (with_reducible apply awO_nil) | (with_reducible apply aw_exit) | (with_reducible apply aw_skip) | (with_reducible apply aw_ret)); (try simp only [CT, ↓reduceIte, Nat.reduceEqDiff]))
 | ((with_reducible apply awO_y); (· rfl); (· rfl); (· decide); (· exact sv); (· exact sv))
 | ((with_reducible apply awO_n); (· rfl); (· rfl); (· decide); (· exact sv); (· rfl); (· rfl); (· decide))
 | ((with_reducible apply aw_cond_true); (· exact sv))
 | ((with_reducible apply aw_cond_false); (· exact sv))
 | ((with_reducible apply awO_un); (· rfl); (· decide); (· exact sv))
 | (refine Kont.go ‹Kont _ _ _ _› _ ?_)
 | ((with_reducible apply awO_c); (· rfl); (· rfl); (· exact sv); (· (first | exact cp)); (· rfl); (· rfl); (· rfl); (· decide))
 | ((first | ((with_reducible apply awO_guard); (· rfl); (· rfl); (· exact sv)) | ((with_reducible apply aw_cond); (· exact sv))); all_goals (intro hg; (try simp only [Bool.not_true, Bool.not_false]); (try simp only [decide_eq_true_eq, decide_eq_false_iff_not, Bool.not_true, Bool.not_false, Bool.not_eq_true', Bool.not_eq_false', Bool.not_not, beq_eq_false_iff_ne, ne_eq, beq_iff_eq, decide_eq_decide] at hg); try (exfalso; omega))))
        all_goals first
          | (refine LE_mk (i + 1) (by omega) (by omega) ?_ sN sN
             rw [e1, e2, e3]
             exact ⟨rfl, rfl, rfl, rfl, trivial⟩)
      | false =>
        rw [hm, if_neg (by simp)] at e2
        have hm1 : s.length < L[i].k.length → s.isPrefixOf L[i].k = false := fun h => by simp only [prpB, decide_eq_true h, Bool.true_and] at hm; exact hm
        by_cases hl : s.length < L[i].k.length
        · rw [hm1 hl] at cp
          repeat' (first
 | ((with_reducible apply awO_ev); (· rfl); (· exact sv))
 | ((with_reducible apply aw_seq); intro _ _)
 | (with_reducible apply aw_region)
 | (with_reducible apply aw_block)
 | ((first | (with_reducible apply awO_nil) | (with_reducible apply aw_exit) | (with_reducible apply aw_skip) | (with_reducible apply aw_ret)); (try simp only [CT, ↓reduceIte, Nat.reduceEqDiff]))
 | ((with_reducible apply awO_y); (· rfl); (· rfl); (· decide); (· exact sv); (· exact sv))
 | ((with_reducible apply awO_n); (· rfl); (· rfl); (· decide); (· exact sv); (· rfl); (· rfl); (· decide))
 | ((with_reducible apply aw_cond_false); (· exact sv))
 | ((with_reducible apply awO_un); (· rfl); (· decide); (· exact sv))
 | (refine Kont.go ‹Kont _ _ _ _› _ ?_)
 | ((with_reducible apply awO_c); (· rfl); (· rfl); (· exact sv); (· (first | exact cp)); (· rfl); (· rfl); (· rfl); (· decide))
 | ((first | ((with_reducible apply awO_guard); (· rfl); (· rfl); (· exact sv)) | ((with_reducible apply aw_cond); (· exact sv))); all_goals (intro hg; (try simp only [Bool.not_true, Bool.not_false]); (try simp only [decide_eq_true_eq, decide_eq_false_iff_not, Bool.not_true, Bool.not_false, Bool.not_eq_true', Bool.not_eq_false', Bool.not_not, beq_eq_false_iff_ne, ne_eq, beq_iff_eq, decide_eq_decide] at hg); try (exfalso; omega))))
          all_goals first
            | (refine LE_mk (i + 1) (by omega) (by omega) ?_ sN sN
               rw [e1, e2, e3]
               exact ⟨rfl, rfl, rfl, rfl, trivial⟩)
        · skip
          repeat' (first
 | ((with_reducible apply awO_ev); (· rfl); (· exact sv))
 | ((with_reducible apply aw_seq); intro _ _)
 | (with_reducible apply aw_region)
 | (with_reducible apply aw_block)
 | ((first | (with_reducible apply awO_nil) | (with_reducible apply aw_exit) | (with_reducible apply aw_skip) | (with_reducible apply aw_ret)); (try simp only [CT, ↓reduceIte, Nat.reduceEqDiff]))
 | ((with_reducible apply awO_y); (· rfl); (· rfl); (· decide); (· exact sv); (· exact sv))
 | ((with_reducible apply awO_n); (· rfl); (· rfl); (· decide); (· exact sv); (· rfl); (· rfl); (· decide))
 | ((with_reducible apply aw_cond_false); (· exact sv))
 | (refine Kont.go ‹Kont _ _ _ _› _ ?_)
 | ((first | ((with_reducible apply awO_guard); (· rfl); (· rfl); (· exact sv)) | ((with_reducible apply aw_cond); (· exact sv))); all_goals (intro hg; (try simp only [Bool.not_true, Bool.not_false]); (try simp only [decide_eq_true_eq, decide_eq_false_iff_not, Bool.not_true, Bool.not_false, Bool.not_eq_true', Bool.not_eq_false', Bool.not_not, beq_eq_false_iff_ne, ne_eq, beq_iff_eq, decide_eq_decide] at hg); try (exfalso; omega))))
          all_goals first
            | (refine LE_mk (i + 1) (by omega) (by omega) ?_ sN sN
               rw [e1, e2, e3]
               exact ⟨rfl, rfl, rfl, rfl, trivial⟩)
    | false =>
      rw [hf, if_neg (by simp)] at e1
      rw [hf, Bool.false_or] at e3
      have e0 := fnA_not hf
      rw [e0]
      by_cases hq : L[i].k = s
      · rw [if_pos hq] at e1
        rw [decide_eq_true hq] at e3
        cases hm : prpB s L[i].k with
        | true =>
          rw [hm, if_pos rfl] at e2
          have hm1 : s.length < L[i].k.length := by simp only [prpB, Bool.and_eq_true, decide_eq_true_eq] at hm; exact hm.1
          have hm2 : s.isPrefixOf L[i].k = true := by simp only [prpB, Bool.and_eq_true] at hm; exact hm.2
          rw [hm2] at cp
          repeat' (first
 | ((with_reducible apply awO_ev); (· rfl); (· exact sv))
 | ((with_reducible apply aw_seq); intro _ _)
 | (with_reducible apply aw_region)
 | (with_reducible apply aw_block)
 | ((first | (with_reducible apply awO_nil) | (with_reducible apply aw_exit) | (with_reducible apply aw_skip) | (with_reducible apply aw_ret)); (try simp only [CT, ↓reduceIte, Nat.reduceEqDiff]))
 | ((with_reducible apply awO_y); (· rfl); (· rfl); (· decide); (· exact sv); (· exact sv))
 | ((with_reducible apply awO_n); (· rfl); (· rfl); (· decide); (· exact sv); (· rfl); (· rfl); (· decide))
 | ((with_reducible apply aw_cond_true); (· exact sv))
 | ((with_reducible apply aw_cond_false); (· exact sv))
 | ((with_reducible apply awO_un); (· rfl); (· decide); (· exact sv))
 | (refine Kont.go ‹Kont _ _ _ _› _ ?_)
 | ((with_reducible apply awO_c); (· rfl); (· rfl); (· exact sv); (· (first | exact cp)); (· rfl); (· rfl); (· rfl); (· decide))
 | ((first | ((with_reducible apply awO_guard); (· rfl); (· rfl); (· exact sv)) | ((with_reducible apply aw_cond); (· exact sv))); all_goals (intro hg; (try simp only [Bool.not_true, Bool.not_false]); (try simp only [decide_eq_true_eq, decide_eq_false_iff_not, Bool.not_true, Bool.not_false, Bool.not_eq_true', Bool.not_eq_false', Bool.not_not, beq_eq_false_iff_ne, ne_eq, beq_iff_eq, decide_eq_decide] at hg); try (exfalso; omega))))
          all_goals first
            | exact absurd ‹L[i].k = s› hq
            | exact absurd hq ‹¬ L[i].k = s›
            | (refine LE_mk (i + 1) (by omega) (by omega) ?_ sN sN
               rw [e1, e2, e3]
               exact ⟨rfl, rfl, rfl, rfl, trivial⟩)
        | false =>
          rw [hm, if_neg (by simp)] at e2
          have hm1 : s.length < L[i].k.length → s.isPrefixOf L[i].k = false := fun h => by simp only [prpB, decide_eq_true h, Bool.true_and] at hm; exact hm
          by_cases hl : s.length < L[i].k.length
          · rw [hm1 hl] at cp
            repeat' (first
 | ((with_reducible apply awO_ev); (· rfl); (· exact sv))
 | ((with_reducible apply aw_seq); intro _ _)
 | (with_reducible apply aw_region)
 | (with_reducible apply aw_block)
 | ((first | (with_reducible apply awO_nil) | (with_reducible apply aw_exit) | (with_reducible apply aw_skip) | (with_reducible apply aw_ret)); (try simp only [CT, ↓reduceIte, Nat.reduceEqDiff]))
 | ((with_reducible apply awO_y); (· rfl); (· rfl); (· decide); (· exact sv); (· exact sv))
 | ((with_reducible apply awO_n); (· rfl); (· rfl); (· decide); (· exact sv); (· rfl); (· rfl); (· decide))
 | ((with_reducible apply aw_cond_true); (· exact sv))
 | ((with_reducible apply aw_cond_false); (· exact sv))
 | ((with_reducible apply awO_un); (· rfl); (· decide); (· exact sv))
 | (refine Kont.go ‹Kont _ _ _ _› _ ?_)
 | ((with_reducible apply awO_c); (· rfl); (· rfl); (· exact sv); (· (first | exact cp)); (· rfl); (· rfl); (· rfl); (· decide))
 | ((first | ((with_reducible apply awO_guard); (· rfl); (· rfl); (· exact sv)) | ((with_reducible apply aw_cond); (· exact sv))); all_goals (intro hg; (try simp only [Bool.not_true, Bool.not_false]); (try simp only [decide_eq_true_eq, decide_eq_false_iff_not, Bool.not_true, Bool.not_false, Bool.not_eq_true', Bool.not_eq_false', Bool.not_not, beq_eq_false_iff_ne, ne_eq, beq_iff_eq, decide_eq_decide] at hg); try (exfalso; omega))))
            all_goals first
              | exact absurd ‹L[i].k = s› hq
              | exact absurd hq ‹¬ L[i].k = s›
              | (refine LE_mk (i + 1) (by omega) (by omega) ?_ sN sN
                 rw [e1, e2, e3]
                 exact ⟨rfl, rfl, rfl, rfl, trivial⟩)
          · skip
            repeat' (first
 | ((with_reducible apply awO_ev); (· rfl); (· exact sv))
 | ((with_reducible apply aw_seq); intro _ _)
 | (with_reducible apply aw_region)
 | (with_reducible apply aw_block)
 | ((first | (with_reducible apply awO_nil) | (with_reducible apply aw_exit) | (with_reducible apply aw_skip) | (with_reducible apply aw_ret)); (try simp only [CT, ↓reduceIte, Nat.reduceEqDiff]))
 | ((with_reducible apply awO_y); (· rfl); (· rfl); (· decide); (· exact sv); (· exact sv))
 | ((with_reducible apply awO_n); (· rfl); (· rfl); (· decide); (· exact sv); (· rfl); (· rfl); (· decide))
 | ((with_reducible apply aw_cond_true); (· exact sv))
 | ((with_reducible apply aw_cond_false); (· exact sv))
 | (refine Kont.go ‹Kont _ _ _ _› _ ?_)
 | ((first | ((with_reducible apply awO_guard); (· rfl); (· rfl); (· exact sv)) | ((with_reducible apply aw_cond); (· exact sv))); all_goals (intro hg; (try simp only [Bool.not_true, Bool.not_false]); (try simp only [decide_eq_true_eq, decide_eq_false_iff_not, Bool.not_true, Bool.not_false, Bool.not_eq_true', Bool.not_eq_false', Bool.not_not, beq_eq_false_iff_ne, ne_eq, beq_iff_eq, decide_eq_decide] at hg); try (exfalso; omega))))
            all_goals first
              | exact absurd ‹L[i].k = s› hq
              | exact absurd hq ‹¬ L[i].k = s›
              | (refine LE_mk (i + 1) (by omega) (by omega) ?_ sN sN
                 rw [e1, e2, e3]
                 exact ⟨rfl, rfl, rfl, rfl, trivial⟩)
      · rw [if_neg hq] at e1
        rw [decide_eq_false hq] at e3
        cases hm : prpB s L[i].k with
        | true =>
          rw [hm, if_pos rfl] at e2
          have hm1 : s.length < L[i].k.length := by simp only [prpB, Bool.and_eq_true, decide_eq_true_eq] at hm; exact hm.1
          have hm2 : s.isPrefixOf L[i].k = true := by simp only [prpB, Bool.and_eq_true] at hm; exact hm.2
          rw [hm2] at cp
          repeat' (first
 | ((with_reducible apply awO_ev); (· rfl); (· exact sv))
 | ((with_reducible apply aw_seq); intro _ _)
 | (with_reducible apply aw_region)
 | (with_reducible apply aw_block)
 | ((first | (with_reducible apply awO_nil) | (with_reducible apply aw_exit) | (with_reducible apply aw_skip) | (with_reducible apply aw_ret)); (try simp only [CT, ↓reduceIte, Nat.reduceEqDiff]))
 | ((with_reducible apply awO_y); (· rfl); (· rfl); (· decide); (· exact sv); (· exact sv))
 | ((with_reducible apply awO_n); (· rfl); (· rfl); (· decide); (· exact sv); (· rfl); (· rfl); (· decide))
 | ((with_reducible apply aw_cond_true); (· exact sv))
 | ((with_reducible apply aw_cond_false); (· exact sv))
 | ((with_reducible apply awO_un); (· rfl); (· decide); (· exact sv))
 | (refine Kont.go ‹Kont _ _ _ _› _ ?_)
 | ((with_reducible apply awO_c); (· rfl); (· rfl); (· exact sv); (· (first | exact cp)); (· rfl); (· rfl); (· rfl); (· decide))
 | ((first | ((with_reducible apply awO_guard); (· rfl); (· rfl); (· exact sv)) | ((with_reducible apply aw_cond); (· exact sv))); all_goals (intro hg; (try simp only [Bool.not_true, Bool.not_false]); (try simp only [decide_eq_true_eq, decide_eq_false_iff_not, Bool.not_true, Bool.not_false, Bool.not_eq_true', Bool.not_eq_false', Bool.not_not, beq_eq_false_iff_ne, ne_eq, beq_iff_eq, decide_eq_decide] at hg); try (exfalso; omega))))
          all_goals first
            | exact absurd ‹L[i].k = s› hq
            | exact absurd hq ‹¬ L[i].k = s›
            | (refine LE_mk (i + 1) (by omega) (by omega) ?_ sN sN
               rw [e1, e2, e3]
               exact ⟨rfl, rfl, rfl, rfl, trivial⟩)
        | false =>
          rw [hm, if_neg (by simp)] at e2
          have hm1 : s.length < L[i].k.length → s.isPrefixOf L[i].k = false := fun h => by simp only [prpB, decide_eq_true h, Bool.true_and] at hm; exact hm
          by_cases hl : s.length < L[i].k.length
          · rw [hm1 hl] at cp
            repeat' (first
 | ((with_reducible apply awO_ev); (· rfl); (· exact sv))
 | ((with_reducible apply aw_seq); intro _ _)
 | (with_reducible apply aw_region)
 | (with_reducible apply aw_block)
 | ((first | (with_reducible apply awO_nil) | (with_reducible apply aw_exit) | (with_reducible apply aw_skip) | (with_reducible apply aw_ret)); (try simp only [CT, ↓reduceIte, Nat.reduceEqDiff]))
 | ((with_reducible apply awO_y); (· rfl); (· rfl); (· decide); (· exact sv); (· exact sv))
 | ((with_reducible apply awO_n); (· rfl); (· rfl); (· decide); (· exact sv); (· rfl); (· rfl); (· decide))
 | ((with_reducible apply aw_cond_true); (· exact sv))
 | ((with_reducible apply aw_cond_false); (· exact sv))
 | ((with_reducible apply awO_un); (· rfl); (· decide); (· exact sv))
 | (refine Kont.go ‹Kont _ _ _ _› _ ?_)
 | ((with_reducible apply awO_c); (· rfl); (· rfl); (· exact sv); (· (first | exact cp)); (· rfl); (· rfl); (· rfl); (· decide))
 | ((first | ((with_reducible apply awO_guard); (· rfl); (· rfl); (· exact sv)) | ((with_reducible apply aw_cond); (· exact sv))); all_goals (intro hg; (try simp only [Bool.not_true, Bool.not_false]); (try simp only [decide_eq_true_eq, decide_eq_false_iff_not, Bool.not_true, Bool.not_false, Bool.not_eq_true', Bool.not_eq_false', Bool.not_not, beq_eq_false_iff_ne, ne_eq, beq_iff_eq, decide_eq_decide] at hg); try (exfalso; omega))))
            all_goals first
              | exact absurd ‹L[i].k = s› hq
              | exact absurd hq ‹¬ L[i].k = s›
              | (refine LE_mk (i + 1) (by omega) (by omega) ?_ sN sN
                 rw [e1, e2, e3]
                 exact ⟨rfl, rfl, rfl, rfl, trivial⟩)
          · skip
            repeat' (first
 | ((with_reducible apply awO_ev); (· rfl); (· exact sv))
 | ((with_reducible apply aw_seq); intro _ _)
 | (with_reducible apply aw_region)
 | (with_reducible apply aw_block)
 | ((first | (with_reducible apply awO_nil) | (with_reducible apply aw_exit) | (with_reducible apply aw_skip) | (with_reducible apply aw_ret)); (try simp only [CT, ↓reduceIte, Nat.reduceEqDiff]))
 | ((with_reducible apply awO_y); (· rfl); (· rfl); (· decide); (· exact sv); (· exact sv))
 | ((with_reducible apply awO_n); (· rfl); (· rfl); (· decide); (· exact sv); (· rfl); (· rfl); (· decide))
 | ((with_reducible apply aw_cond_true); (· exact sv))
 | ((with_reducible apply aw_cond_false); (· exact sv))
 | (refine Kont.go ‹Kont _ _ _ _› _ ?_)
 | ((first | ((with_reducible apply awO_guard); (· rfl); (· rfl); (· exact sv)) | ((with_reducible apply aw_cond); (· exact sv))); all_goals (intro hg; (try simp only [Bool.not_true, Bool.not_false]); (try simp only [decide_eq_true_eq, decide_eq_false_iff_not, Bool.not_true, Bool.not_false, Bool.not_eq_true', Bool.not_eq_false', Bool.not_not, beq_eq_false_iff_ne, ne_eq, beq_iff_eq, decide_eq_decide] at hg); try (exfalso; omega))))
            all_goals first
              | exact absurd ‹L[i].k = s› hq
              | exact absurd hq ‹¬ L[i].k = s›
              | (refine LE_mk (i + 1) (by omega) (by omega) ?_ sN sN
                 rw [e1, e2, e3]
                 exact ⟨rfl, rfl, rfl, rfl, trivial⟩)
  · rw [List.take_of_length_le (by omega)]
    repeat' (first
 | ((with_reducible apply awO_ev); (· rfl); (· exact sv))
 | ((with_reducible apply aw_seq); intro _ _)
 | (with_reducible apply aw_region)
 | ((first | (with_reducible apply awO_nil) | (with_reducible apply aw_exit) | (with_reducible apply aw_skip) | (with_reducible apply aw_ret)); (try simp only [CT, ↓reduceIte, Nat.reduceEqDiff]))
 | (refine Kont.go ‹Kont _ _ _ _› _ ?_)
 | ((first | ((with_reducible apply awO_guard); (· rfl); (· rfl); (· exact sv)) | ((with_reducible apply aw_cond); (· exact sv))); all_goals (intro hg; (try simp only [Bool.not_true, Bool.not_false]); (try simp only [decide_eq_true_eq, decide_eq_false_iff_not, Bool.not_true, Bool.not_false, Bool.not_eq_true', Bool.not_eq_false', Bool.not_not, beq_eq_false_iff_ne, ne_eq, beq_iff_eq, decide_eq_decide] at hg); try (exfalso; omega)))
 | ((with_reducible apply retQ_mk); (· (first | exact .inr rfl | exact .inl rfl)); (· exact sv); (· exact sv); rotate_left; (· rfl)))
    all_goals rfl
def dfB : List Bi := [⟨[1], 5⟩, ⟨[2], 3⟩, ⟨[3], 24⟩, ⟨[4], 23⟩, ⟨[5], 6⟩, ⟨[6], 4⟩, ⟨[8], 9⟩, ⟨[9], 22⟩, ⟨[10], 2⟩, ⟨[11], 11⟩, ⟨[13], 2⟩, ⟨[14], 21⟩, ⟨[16], 20⟩, ⟨[20], 19⟩, ⟨[21], 12⟩, ⟨[23], 14⟩, ⟨[24, 18], 18⟩, ⟨[24, 21], 17⟩, ⟨[24, 24], 26⟩, ⟨[25], 15⟩, ⟨[27, 32], 25⟩, ⟨[27, 91, 65], 20⟩, ⟨[27, 91, 66], 21⟩, ⟨[27, 91, 67], 4⟩, ⟨[27, 91, 68], 3⟩, ⟨[27, 98], 7⟩, ⟨[27, 100], 13⟩, ⟨[27, 102], 8⟩, ⟨[27, 108], 28⟩, ⟨[27, 117], 27⟩, ⟨[27, 121], 16⟩, ⟨[31], 17⟩, ⟨[127], 9⟩]
theorem dfB_len : dfB.length = 33 := by decide
theorem dfB_k16 : ∀ b ∈ dfB, b.k.length ≤ 3 := by decide
theorem dfB_k : ∀ i (h : i < dfB.length), dfB[i].k.length ≤ 9000000000000000 := fun i h => by
  have := dfB_k16 _ (List.getElem_mem h)
  omega
theorem dfB_vd : vdB dfB = 0 := by decide +kernel
theorem rdefault_ab : Ab Try.prog 20 [] (biA dfB) := by
  refine Fn_of_aw (keep := []) Try.func20 rfl rfl (by simp [Try.ntmps20]) ?_
  simp only [num_cons, num_nil, Try.ntmps20, Try.results20]
  repeat' (first
 | ((with_reducible apply awO_ev); (· rfl); (· exact sv))
 | ((with_reducible apply aw_seq); intro _ _)
 | (with_reducible apply aw_region)
 | ((first | (with_reducible apply awO_nil) | (with_reducible apply aw_exit) | (with_reducible apply aw_skip) | (with_reducible apply aw_ret)); (try simp only [CT, ↓reduceIte, Nat.reduceEqDiff]))
 | (refine Kont.go ‹Kont _ _ _ _› _ ?_)
 | ((with_reducible apply retQ_mk); (· (first | exact .inr rfl | exact .inl rfl)); (· exact sv); (· exact sv); rotate_left; (· rfl)))
  all_goals rfl
end Go.Proofs.Ytapmolfpkhfpgaa
