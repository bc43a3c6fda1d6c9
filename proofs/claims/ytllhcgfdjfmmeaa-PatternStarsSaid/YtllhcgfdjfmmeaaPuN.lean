/- More laws of patterns, on the abstract machine. -/
import Derived.Test.YtllhcgfdjfmmeaaPuJ
import Derived.Test.YtllhcgfdjfmmeaaPuK
import Derived.Test.YtllhcgfdjfmmeaaPuM
namespace Go.Proofs.Ytllhcgfdjfmmeaa
open Go.RowKit
set_option linter.unusedVariables false
set_option linter.unusedSimpArgs false
set_option maxRecDepth 100000
set_option maxHeartbeats 8000000
theorem itR_cat (x : It) : (cat (itR x)).length ≤ x.t.length + x.s.length * 3 + 10 := by
  have hsp : ∀ s : List Sn, (cat (s.flatMap spR)).length = s.length * 3 := fun s => by
    induction s with
    | nil => rfl
    | cons y s ih => rw [List.flatMap_cons, cat_append, List.length_append, ih, List.length_cons]; simp [spR, cat]; omega
  unfold itR
  split
  · simp [cat] <;> omega
  · split
    · simp [cat] <;> omega
    · split
      · simp [cat] <;> omega
      · rw [stR, cat, cat_append, cat_append, List.length_append, List.length_append, List.length_append, hsp]
        have h1 : (opR x.n).t.length ≤ 2 := by cases x.n <;> simp [opR]
        have h2 : (cat (if x.s.length = 0 then spR ⟨98, 97⟩ else [])).length ≤ 3 := by split <;> simp [spR, cat]
        simp only [cat, List.length_append, List.length_cons, List.length_nil]
        omega
theorem runR_cat (p : List It) (h : ∀ x ∈ p, x.s.length ≤ 40 ∧ x.t.length ≤ 40) : (cat (runR p)).length ≤ p.length * 170 := by
  induction p with
  | nil => simp [runR, cat]
  | cons x r ih =>
    have h1 := h x (List.mem_cons_self ..)
    have h2 := ih (fun y hy => h y (List.mem_cons_of_mem _ hy))
    have h3 := itR_cat x
    rw [show runR (x :: r) = itR x ++ runR r from rfl, cat_append, List.length_append, List.length_cons, Nat.succ_mul]
    omega
theorem patternRuns_ab (p : List It) (hp : BigI p) : Ab Try.prog 4 [itsA p] (ab true) := by
  have c0 := awake_ab
  obtain ⟨b, c1, hb⟩ := few_ab p 12 (by omega) 12 rfl hp.1 hp.2
  cases b with
  | false =>
    refine Fn_of_aw (keep := []) Try.func4 rfl rfl (by simp [Try.ntmps4]) ?_
    simp only [num_cons, num_nil, Try.ntmps4, Try.results4]
    repeat' (first
 | ((with_reducible apply awO_ev); (· rfl); (· exact sv))
 | ((with_reducible apply aw_seq); intro _ _)
 | (with_reducible apply aw_region)
 | (with_reducible apply aw_block)
 | ((first | (with_reducible apply awO_nil) | (with_reducible apply aw_exit) | (with_reducible apply aw_skip) | (with_reducible apply aw_ret)); (try simp only [CT, ↓reduceIte, Nat.reduceEqDiff]))
 | ((with_reducible apply awO_y); (· rfl); (· rfl); (· decide); (· exact sv); (· exact sv))
 | ((with_reducible apply awO_n); (· rfl); (· rfl); (· decide); (· exact sv); (· rfl); (· rfl); (· decide))
 | ((with_reducible apply awO_u); (· rfl); (· rfl); (· exact svr); (· rfl); (· decide))
 | ((with_reducible apply aw_cond_true); (· exact sv))
 | ((with_reducible apply aw_cond_false); (· exact sv))
 | ((with_reducible apply awO_un); (· rfl); (· decide); (· exact sv))
 | (refine Kont.go ‹Kont _ _ _ _› _ ?_)
 | ((with_reducible apply awO_c); (· rfl); (· rfl); (· exact sv); (· (first | exact c0 | exact c1)); (· rfl); (· rfl); (· rfl); (· decide))
 | ((with_reducible apply awO_f); (· rfl); (· rfl); (· exact sv); (· exact sv); (· (first | exact c0 | exact c1)); (· rfl); (· rfl); (· decide))
 | ((with_reducible apply awO_m); (· rfl); (· rfl); (· exact sv); (· (first | exact c0 | exact c1)); (· exact svq); (· exact svq); (· exact svq); (· exact svq); (· rfl); (· exact nd); (with_reducible apply awO_st); (· exact svs))
 | ((first | ((with_reducible apply awO_guard); (· rfl); (· rfl); (· exact sv)) | ((with_reducible apply aw_cond); (· exact sv))); all_goals (intro hg; (try simp only [Bool.not_true, Bool.not_false]); (try simp only [decide_eq_true_eq, decide_eq_false_iff_not, Bool.not_true, Bool.not_false, Bool.not_eq_true', Bool.not_eq_false', Bool.not_not, beq_eq_false_iff_ne, ne_eq, beq_iff_eq, decide_eq_decide] at hg); try (exfalso; omega)))
 | ((with_reducible apply retQ_mk); (· (first | exact .inr rfl | exact .inl rfl)); (· exact sv); (· exact sv); rotate_left; (· rfl)))
    all_goals (first | rfl | exact absurd trivial hg)
  | true =>
    obtain ⟨h1, h2⟩ := hb rfl
    have hx : ∀ x ∈ p, x.s.length ≤ 100000 ∧ x.t.length ≤ 100000 := fun x h => by have := h2 x h; omega
    have c2 := runs_ab p (by omega) (fun x h => by have := h2 x h; omega)
    have c3 := rvalid_ab p (by omega) hx
    cases hv : vld p with
    | false =>
      rw [hv] at c2 c3
      rw [if_neg (by simp)] at c2
      refine Fn_of_aw (keep := []) Try.func4 rfl rfl (by simp [Try.ntmps4]) ?_
      simp only [num_cons, num_nil, Try.ntmps4, Try.results4]
      repeat' (first
 | ((with_reducible apply awO_ev); (· rfl); (· exact sv))
 | ((with_reducible apply aw_seq); intro _ _)
 | (with_reducible apply aw_region)
 | (with_reducible apply aw_block)
 | ((first | (with_reducible apply awO_nil) | (with_reducible apply aw_exit) | (with_reducible apply aw_skip) | (with_reducible apply aw_ret)); (try simp only [CT, ↓reduceIte, Nat.reduceEqDiff]))
 | ((with_reducible apply awO_y); (· rfl); (· rfl); (· decide); (· exact sv); (· exact sv))
 | ((with_reducible apply awO_n); (· rfl); (· rfl); (· decide); (· exact sv); (· rfl); (· rfl); (· decide))
 | ((with_reducible apply awO_u); (· rfl); (· rfl); (· exact svr); (· rfl); (· decide))
 | ((with_reducible apply aw_cond_true); (· exact sv))
 | ((with_reducible apply aw_cond_false); (· exact sv))
 | ((with_reducible apply awO_un); (· rfl); (· decide); (· exact sv))
 | (refine Kont.go ‹Kont _ _ _ _› _ ?_)
 | ((with_reducible apply awO_c); (· rfl); (· rfl); (· exact sv); (· (first | exact c0 | exact c1 | exact c2 | exact c3)); (· rfl); (· rfl); (· rfl); (· decide))
 | ((with_reducible apply awO_f); (· rfl); (· rfl); (· exact sv); (· exact sv); (· (first | exact c0 | exact c1 | exact c2 | exact c3)); (· rfl); (· rfl); (· decide))
 | ((with_reducible apply awO_m); (· rfl); (· rfl); (· exact sv); (· (first | exact c0 | exact c1 | exact c2 | exact c3)); (· exact svq); (· exact svq); (· exact svq); (· exact svq); (· rfl); (· exact nd); (with_reducible apply awO_st); (· exact svs))
 | ((first | ((with_reducible apply awO_guard); (· rfl); (· rfl); (· exact sv)) | ((with_reducible apply aw_cond); (· exact sv))); all_goals (intro hg; (try simp only [Bool.not_true, Bool.not_false]); (try simp only [decide_eq_true_eq, decide_eq_false_iff_not, Bool.not_true, Bool.not_false, Bool.not_eq_true', Bool.not_eq_false', Bool.not_not, beq_eq_false_iff_ne, ne_eq, beq_iff_eq, decide_eq_decide] at hg); try (exfalso; omega)))
 | ((with_reducible apply retQ_mk); (· (first | exact .inr rfl | exact .inl rfl)); (· exact sv); (· exact sv); rotate_left; (· rfl)))
      all_goals (first | rfl | exact absurd trivial hg)
    | true =>
      rw [hv] at c2 c3
      rw [if_pos rfl] at c2
      have hl := runR_len p 40 (fun x h => (h2 x h).1)
      have hc := runR_cat p h2
      have c4 := compile_ab (runR p) (by omega) (by omega)
      have c5 := rcompile_ab (runR p) (by omega) (by omega)
      rw [compl_runs p hv] at c4 c5
      have c6 := same_ab p (by omega) (fun x h => (hx x h).1)
      generalize runR p = R at *
      refine Fn_of_aw (keep := []) Try.func4 rfl rfl (by simp [Try.ntmps4]) ?_
      simp only [num_cons, num_nil, Try.ntmps4, Try.results4]
      repeat' (first
 | ((with_reducible apply awO_ev); (· rfl); (· exact sv))
 | ((with_reducible apply aw_seq); intro _ _)
 | (with_reducible apply aw_region)
 | (with_reducible apply aw_block)
 | ((first | (with_reducible apply awO_nil) | (with_reducible apply aw_exit) | (with_reducible apply aw_skip) | (with_reducible apply aw_ret)); (try simp only [CT, ↓reduceIte, Nat.reduceEqDiff]))
 | ((with_reducible apply awO_y); (· rfl); (· rfl); (· decide); (· exact sv); (· exact sv))
 | ((with_reducible apply awO_n); (· rfl); (· rfl); (· decide); (· exact sv); (· rfl); (· rfl); (· decide))
 | ((with_reducible apply awO_u); (· rfl); (· rfl); (· exact svr); (· rfl); (· decide))
 | ((with_reducible apply aw_cond_true); (· exact sv))
 | ((with_reducible apply aw_cond_false); (· exact sv))
 | ((with_reducible apply awO_un); (· rfl); (· decide); (· exact sv))
 | (refine Kont.go ‹Kont _ _ _ _› _ ?_)
 | ((with_reducible apply awO_c); (· rfl); (· rfl); (· exact sv); (· (first | exact c0 | exact c1 | exact c2 | exact c3 | exact c4 | exact c5 | exact c6)); (· rfl); (· rfl); (· rfl); (· decide))
 | ((with_reducible apply awO_f); (· rfl); (· rfl); (· exact sv); (· exact sv); (· (first | exact c0 | exact c1 | exact c2 | exact c3 | exact c4 | exact c5 | exact c6)); (· rfl); (· rfl); (· decide))
 | ((with_reducible apply awO_m); (· rfl); (· rfl); (· exact sv); (· (first | exact c0 | exact c1 | exact c2 | exact c3 | exact c4 | exact c5 | exact c6)); (· exact svq); (· exact svq); (· exact svq); (· exact svq); (· rfl); (· exact nd); (with_reducible apply awO_st); (· exact svs))
 | ((first | ((with_reducible apply awO_guard); (· rfl); (· rfl); (· exact sv)) | ((with_reducible apply aw_cond); (· exact sv))); all_goals (intro hg; (try simp only [Bool.not_true, Bool.not_false]); (try simp only [decide_eq_true_eq, decide_eq_false_iff_not, Bool.not_true, Bool.not_false, Bool.not_eq_true', Bool.not_eq_false', Bool.not_not, beq_eq_false_iff_ne, ne_eq, beq_iff_eq, decide_eq_decide] at hg); try (exfalso; omega)))
 | ((with_reducible apply retQ_mk); (· (first | exact .inr rfl | exact .inl rfl)); (· exact sv); (· exact sv); rotate_left; (· rfl)))
      all_goals (first | rfl | exact absurd trivial hg)
theorem bytes_bd (s : List UInt8) : ∀ x ∈ s.map byI, x.s.length = 0 ∧ x.t.length = 1 := fun x hx => by
  obtain ⟨c, _, rfl⟩ := List.mem_map.1 hx
  exact ⟨rfl, rfl⟩
theorem patternQuotes_ab (s t : List UInt8) (hs : s.length ≤ 9000000000000000) (ht : t.length ≤ 9000000000000000) : Ab Try.prog 8 [az s, az t] (ab true) := by
  have c0 := awake_ab
  by_cases h1 : s.length ≤ 40
  · by_cases h2 : t.length ≤ 40
    · have e : compl (chs [⟨s, 1⟩]) = s.map byI := by
        rw [chs_quoted, compl_quoted]
        show s.map byI ++ compl (chs []) = _
        rw [show chs [] = [] from rfl, compl_nil, List.append_nil]
      have c1 := quoted_ab s
      have c2 := compile_ab [⟨s, 1⟩] (by simp) (by simp [cat]; omega)
      rw [e] at c2
      have hb := bytes_bd s
      have c3 := literal_ab (s.map byI) (by simp; omega) (fun x h => by have := hb x h; omega)
      rw [lit_bytes] at c3
      simp only [lA, Option.getD_some, Option.isSome_some] at c3
      have c4 := match_ab (s.map byI) s (by simp; omega) (by omega) (fun x h => by have := hb x h; omega)
      have c5 := match_ab (s.map byI) t (by simp; omega) (by omega) (fun x h => by have := hb x h; omega)
      rw [mt_bytes] at c4 c5
      rw [show decide (s = s) = true by simp] at c4
      have c6 := special_ab [⟨s, 1⟩] (by simp) (by simp [cat]; omega)
      rw [e, byt_bytes] at c6
      generalize s.map byI = p at *
      by_cases hst : s = t
      · rw [show decide (s = t) = true by simpa using hst] at c5
        refine Fn_of_aw (keep := []) Try.func8 rfl rfl (by simp [Try.ntmps8]) ?_
        simp only [num_cons, num_nil, Try.ntmps8, Try.results8]
        repeat' (first
 | ((with_reducible apply awO_ev); (· rfl); (· exact sv))
 | ((with_reducible apply aw_seq); intro _ _)
 | (with_reducible apply aw_region)
 | (with_reducible apply aw_block)
 | ((first | (with_reducible apply awO_nil) | (with_reducible apply aw_exit) | (with_reducible apply aw_skip) | (with_reducible apply aw_ret)); (try simp only [CT, ↓reduceIte, Nat.reduceEqDiff]))
 | ((with_reducible apply awO_y); (· rfl); (· rfl); (· decide); (· exact sv); (· exact sv))
 | ((with_reducible apply awO_n); (· rfl); (· rfl); (· decide); (· exact sv); (· rfl); (· rfl); (· decide))
 | ((with_reducible apply awO_u); (· rfl); (· rfl); (· exact svr); (· rfl); (· decide))
 | ((with_reducible apply aw_cond_true); (· exact sv))
 | ((with_reducible apply aw_cond_false); (· exact sv))
 | ((with_reducible apply awO_un); (· rfl); (· decide); (· exact sv))
 | (refine Kont.go ‹Kont _ _ _ _› _ ?_)
 | ((with_reducible apply awO_c); (· rfl); (· rfl); (· exact sv); (· (first | exact c0 | exact c1 | exact c2 | exact c3 | exact c4 | exact c5 | exact c6)); (· rfl); (· rfl); (· rfl); (· decide))
 | ((with_reducible apply awO_f); (· rfl); (· rfl); (· exact sv); (· exact sv); (· (first | exact c0 | exact c1 | exact c2 | exact c3 | exact c4 | exact c5 | exact c6)); (· rfl); (· rfl); (· decide))
 | ((with_reducible apply awO_m); (· rfl); (· rfl); (· exact sv); (· (first | exact c0 | exact c1 | exact c2 | exact c3 | exact c4 | exact c5 | exact c6)); (· exact svq); (· exact svq); (· exact svq); (· exact svq); (· rfl); (· exact nd); (with_reducible apply awO_st); (· exact svs))
 | ((first | ((with_reducible apply awO_guard); (· rfl); (· rfl); (· exact sv)) | ((with_reducible apply aw_cond); (· exact sv))); all_goals (intro hg; (try simp only [Bool.not_true, Bool.not_false]); (try simp only [decide_eq_true_eq, decide_eq_false_iff_not, Bool.not_true, Bool.not_false, Bool.not_eq_true', Bool.not_eq_false', Bool.not_not, beq_eq_false_iff_ne, ne_eq, beq_iff_eq, decide_eq_decide] at hg); try (exfalso; omega)))
 | ((with_reducible apply retQ_mk); (· (first | exact .inr rfl | exact .inl rfl)); (· exact sv); (· exact sv); rotate_left; (· rfl)))
        all_goals (first | rfl | exact absurd trivial hg | exact absurd (by simp [hst]) hg)
      · rw [show decide (s = t) = false by simpa using hst] at c5
        refine Fn_of_aw (keep := []) Try.func8 rfl rfl (by simp [Try.ntmps8]) ?_
        simp only [num_cons, num_nil, Try.ntmps8, Try.results8]
        repeat' (first
 | ((with_reducible apply awO_ev); (· rfl); (· exact sv))
 | ((with_reducible apply aw_seq); intro _ _)
 | (with_reducible apply aw_region)
 | (with_reducible apply aw_block)
 | ((first | (with_reducible apply awO_nil) | (with_reducible apply aw_exit) | (with_reducible apply aw_skip) | (with_reducible apply aw_ret)); (try simp only [CT, ↓reduceIte, Nat.reduceEqDiff]))
 | ((with_reducible apply awO_y); (· rfl); (· rfl); (· decide); (· exact sv); (· exact sv))
 | ((with_reducible apply awO_n); (· rfl); (· rfl); (· decide); (· exact sv); (· rfl); (· rfl); (· decide))
 | ((with_reducible apply awO_u); (· rfl); (· rfl); (· exact svr); (· rfl); (· decide))
 | ((with_reducible apply aw_cond_true); (· exact sv))
 | ((with_reducible apply aw_cond_false); (· exact sv))
 | ((with_reducible apply awO_un); (· rfl); (· decide); (· exact sv))
 | (refine Kont.go ‹Kont _ _ _ _› _ ?_)
 | ((with_reducible apply awO_c); (· rfl); (· rfl); (· exact sv); (· (first | exact c0 | exact c1 | exact c2 | exact c3 | exact c4 | exact c5 | exact c6)); (· rfl); (· rfl); (· rfl); (· decide))
 | ((with_reducible apply awO_f); (· rfl); (· rfl); (· exact sv); (· exact sv); (· (first | exact c0 | exact c1 | exact c2 | exact c3 | exact c4 | exact c5 | exact c6)); (· rfl); (· rfl); (· decide))
 | ((with_reducible apply awO_m); (· rfl); (· rfl); (· exact sv); (· (first | exact c0 | exact c1 | exact c2 | exact c3 | exact c4 | exact c5 | exact c6)); (· exact svq); (· exact svq); (· exact svq); (· exact svq); (· rfl); (· exact nd); (with_reducible apply awO_st); (· exact svs))
 | ((first | ((with_reducible apply awO_guard); (· rfl); (· rfl); (· exact sv)) | ((with_reducible apply aw_cond); (· exact sv))); all_goals (intro hg; (try simp only [Bool.not_true, Bool.not_false]); (try simp only [decide_eq_true_eq, decide_eq_false_iff_not, Bool.not_true, Bool.not_false, Bool.not_eq_true', Bool.not_eq_false', Bool.not_not, beq_eq_false_iff_ne, ne_eq, beq_iff_eq, decide_eq_decide] at hg); try (exfalso; omega)))
 | ((with_reducible apply retQ_mk); (· (first | exact .inr rfl | exact .inl rfl)); (· exact sv); (· exact sv); rotate_left; (· rfl)))
        all_goals (first | rfl | exact absurd trivial hg | exact absurd (by simp [hst]) hg)
    · skip
      refine Fn_of_aw (keep := []) Try.func8 rfl rfl (by simp [Try.ntmps8]) ?_
      simp only [num_cons, num_nil, Try.ntmps8, Try.results8]
      repeat' (first
 | ((with_reducible apply awO_ev); (· rfl); (· exact sv))
 | ((with_reducible apply aw_seq); intro _ _)
 | (with_reducible apply aw_region)
 | (with_reducible apply aw_block)
 | ((first | (with_reducible apply awO_nil) | (with_reducible apply aw_exit) | (with_reducible apply aw_skip) | (with_reducible apply aw_ret)); (try simp only [CT, ↓reduceIte, Nat.reduceEqDiff]))
 | ((with_reducible apply awO_y); (· rfl); (· rfl); (· decide); (· exact sv); (· exact sv))
 | ((with_reducible apply awO_n); (· rfl); (· rfl); (· decide); (· exact sv); (· rfl); (· rfl); (· decide))
 | ((with_reducible apply awO_u); (· rfl); (· rfl); (· exact svr); (· rfl); (· decide))
 | ((with_reducible apply aw_cond_true); (· exact sv))
 | ((with_reducible apply aw_cond_false); (· exact sv))
 | ((with_reducible apply awO_un); (· rfl); (· decide); (· exact sv))
 | (refine Kont.go ‹Kont _ _ _ _› _ ?_)
 | ((with_reducible apply awO_c); (· rfl); (· rfl); (· exact sv); (· (first | exact c0)); (· rfl); (· rfl); (· rfl); (· decide))
 | ((with_reducible apply awO_f); (· rfl); (· rfl); (· exact sv); (· exact sv); (· (first | exact c0)); (· rfl); (· rfl); (· decide))
 | ((with_reducible apply awO_m); (· rfl); (· rfl); (· exact sv); (· (first | exact c0)); (· exact svq); (· exact svq); (· exact svq); (· exact svq); (· rfl); (· exact nd); (with_reducible apply awO_st); (· exact svs))
 | ((first | ((with_reducible apply awO_guard); (· rfl); (· rfl); (· exact sv)) | ((with_reducible apply aw_cond); (· exact sv))); all_goals (intro hg; (try simp only [Bool.not_true, Bool.not_false]); (try simp only [decide_eq_true_eq, decide_eq_false_iff_not, Bool.not_true, Bool.not_false, Bool.not_eq_true', Bool.not_eq_false', Bool.not_not, beq_eq_false_iff_ne, ne_eq, beq_iff_eq, decide_eq_decide] at hg); try (exfalso; omega)))
 | ((with_reducible apply retQ_mk); (· (first | exact .inr rfl | exact .inl rfl)); (· exact sv); (· exact sv); rotate_left; (· rfl)))
      all_goals (first | rfl | exact absurd trivial hg)
  · skip
    refine Fn_of_aw (keep := []) Try.func8 rfl rfl (by simp [Try.ntmps8]) ?_
    simp only [num_cons, num_nil, Try.ntmps8, Try.results8]
    repeat' (first
 | ((with_reducible apply awO_ev); (· rfl); (· exact sv))
 | ((with_reducible apply aw_seq); intro _ _)
 | (with_reducible apply aw_region)
 | (with_reducible apply aw_block)
 | ((first | (with_reducible apply awO_nil) | (with_reducible apply aw_exit) | (with_reducible apply aw_skip) | (with_reducible apply aw_ret)); (try simp only [CT, ↓reduceIte, Nat.reduceEqDiff]))
 | ((with_reducible apply awO_y); (· rfl); (· rfl); (· decide); (· exact sv); (· exact sv))
 | ((with_reducible apply awO_n); (· rfl); (· rfl); (· decide); (· exact sv); (· rfl); (· rfl); (· decide))
 | ((with_reducible apply awO_u); (· rfl); (· rfl); (· exact svr); (· rfl); (· decide))
 | ((with_reducible apply aw_cond_true); (· exact sv))
 | ((with_reducible apply aw_cond_false); (· exact sv))
 | ((with_reducible apply awO_un); (· rfl); (· decide); (· exact sv))
 | (refine Kont.go ‹Kont _ _ _ _› _ ?_)
 | ((with_reducible apply awO_c); (· rfl); (· rfl); (· exact sv); (· (first | exact c0)); (· rfl); (· rfl); (· rfl); (· decide))
 | ((with_reducible apply awO_f); (· rfl); (· rfl); (· exact sv); (· exact sv); (· (first | exact c0)); (· rfl); (· rfl); (· decide))
 | ((with_reducible apply awO_m); (· rfl); (· rfl); (· exact sv); (· (first | exact c0)); (· exact svq); (· exact svq); (· exact svq); (· exact svq); (· rfl); (· exact nd); (with_reducible apply awO_st); (· exact svs))
 | ((first | ((with_reducible apply awO_guard); (· rfl); (· rfl); (· exact sv)) | ((with_reducible apply aw_cond); (· exact sv))); all_goals (intro hg; (try simp only [Bool.not_true, Bool.not_false]); (try simp only [decide_eq_true_eq, decide_eq_false_iff_not, Bool.not_true, Bool.not_false, Bool.not_eq_true', Bool.not_eq_false', Bool.not_not, beq_eq_false_iff_ne, ne_eq, beq_iff_eq, decide_eq_decide] at hg); try (exfalso; omega)))
 | ((with_reducible apply retQ_mk); (· (first | exact .inr rfl | exact .inl rfl)); (· exact sv); (· exact sv); rotate_left; (· rfl)))
    all_goals (first | rfl | exact absurd trivial hg)
theorem patternJoins_ab (s : List UInt8) (L : List El) (t : List UInt8) (hs : s.length ≤ 9000000000000000) (hL : Big L) (ht : t.length ≤ 9000000000000000) : Ab Try.prog 9 [az s, elsA L, az t] (ab true) := by
  have c0 := awake_ab
  by_cases h1 : s.length ≤ 30
  · by_cases h2 : t.length ≤ 30
    · have c1 := rsmall_ab L hL.1 hL.2
      cases hA : smB L with
      | false =>
        rw [hA] at c1
        refine Fn_of_aw (keep := []) Try.func9 rfl rfl (by simp [Try.ntmps9]) ?_
        simp only [num_cons, num_nil, Try.ntmps9, Try.results9]
        repeat' (first
 | ((with_reducible apply awO_ev); (· rfl); (· exact sv))
 | ((with_reducible apply aw_seq); intro _ _)
 | (with_reducible apply aw_region)
 | (with_reducible apply aw_block)
 | ((first | (with_reducible apply awO_nil) | (with_reducible apply aw_exit) | (with_reducible apply aw_skip) | (with_reducible apply aw_ret)); (try simp only [CT, ↓reduceIte, Nat.reduceEqDiff]))
 | ((with_reducible apply awO_y); (· rfl); (· rfl); (· decide); (· exact sv); (· exact sv))
 | ((with_reducible apply awO_n); (· rfl); (· rfl); (· decide); (· exact sv); (· rfl); (· rfl); (· decide))
 | ((with_reducible apply awO_u); (· rfl); (· rfl); (· exact svr); (· rfl); (· decide))
 | ((with_reducible apply aw_cond_true); (· exact sv))
 | ((with_reducible apply aw_cond_false); (· exact sv))
 | ((with_reducible apply awO_un); (· rfl); (· decide); (· exact sv))
 | (refine Kont.go ‹Kont _ _ _ _› _ ?_)
 | ((with_reducible apply awO_c); (· rfl); (· rfl); (· exact sv); (· (first | exact c0 | exact c1)); (· rfl); (· rfl); (· rfl); (· decide))
 | ((with_reducible apply awO_f); (· rfl); (· rfl); (· exact sv); (· exact sv); (· (first | exact c0 | exact c1)); (· rfl); (· rfl); (· decide))
 | ((with_reducible apply awO_m); (· rfl); (· rfl); (· exact sv); (· (first | exact c0 | exact c1)); (· exact svq); (· exact svq); (· exact svq); (· exact svq); (· rfl); (· exact nd); (with_reducible apply awO_st); (· exact svs))
 | ((first | ((with_reducible apply awO_guard); (· rfl); (· rfl); (· exact sv)) | ((with_reducible apply aw_cond); (· exact sv))); all_goals (intro hg; (try simp only [Bool.not_true, Bool.not_false]); (try simp only [decide_eq_true_eq, decide_eq_false_iff_not, Bool.not_true, Bool.not_false, Bool.not_eq_true', Bool.not_eq_false', Bool.not_not, beq_eq_false_iff_ne, ne_eq, beq_iff_eq, decide_eq_decide] at hg); try (exfalso; omega)))
 | ((with_reducible apply retQ_mk); (· (first | exact .inr rfl | exact .inl rfl)); (· exact sv); (· exact sv); rotate_left; (· rfl)))
        all_goals (first | rfl | exact absurd trivial hg)
      | true =>
        rw [hA] at c1
        obtain ⟨g1, g2⟩ := smB_spec hA
        obtain ⟨o1, o2⟩ := compl_bd hA
        have e : compl (chs (⟨s, 1⟩ :: L)) = s.map byI ++ compl (chs L) := by rw [chs_quoted, compl_quoted]
        have c2 := quoted_own s
        have c3 := compile_ab (⟨s, 1⟩ :: L) (by simp; omega) (by simp [cat]; omega)
        rw [e, show elsA (⟨s, 1⟩ :: L) = AV.rd (1 + L.length) (az s :: ai 1 :: elC L) by unfold elsA; rw [List.length_cons, Nat.add_comm]; rfl] at c3
        have c4 := compile_ab L (by omega) (by omega)
        have hb := bytes_bd s
        have c5 := match_ab (s.map byI ++ compl (chs L)) (s ++ t) (by simp; omega) (by simp; omega) (fun x h => by
          rcases List.mem_append.1 h with h | h
          · have := hb x h; omega
          · have := o2 x h; omega)
        have c6 := match_ab (compl (chs L)) t (by omega) (by omega) (fun x h => by have := o2 x h; omega)
        rw [mt_join s t (compl_vld _)] at c5
        generalize compl (chs L) = q at *
        generalize s.map byI ++ q = r at *
        generalize mtB q t = b at *
        cases b with
        | true =>
          refine Fn_of_aw (keep := []) Try.func9 rfl rfl (by simp [Try.ntmps9]) ?_
          simp only [num_cons, num_nil, Try.ntmps9, Try.results9]
          repeat' (first
 | ((with_reducible apply awO_ev); (· rfl); (· exact sv))
 | ((with_reducible apply aw_seq); intro _ _)
 | (with_reducible apply aw_region)
 | (with_reducible apply aw_block)
 | ((first | (with_reducible apply awO_nil) | (with_reducible apply aw_exit) | (with_reducible apply aw_skip) | (with_reducible apply aw_ret)); (try simp only [CT, ↓reduceIte, Nat.reduceEqDiff]))
 | ((with_reducible apply awO_y); (· rfl); (· rfl); (· decide); (· exact sv); (· exact sv))
 | ((with_reducible apply awO_n); (· rfl); (· rfl); (· decide); (· exact sv); (· rfl); (· rfl); (· decide))
 | ((with_reducible apply awO_u); (· rfl); (· rfl); (· exact svr); (· rfl); (· decide))
 | ((with_reducible apply aw_cond_true); (· exact sv))
 | ((with_reducible apply aw_cond_false); (· exact sv))
 | ((with_reducible apply awO_un); (· rfl); (· decide); (· exact sv))
 | (refine Kont.go ‹Kont _ _ _ _› _ ?_)
 | ((with_reducible apply awO_c); (· rfl); (· rfl); (· exact sv); (· (first | exact c0 | exact c1 | exact c2 | exact c3 | exact c4 | exact c5 | exact c6)); (· rfl); (· rfl); (· rfl); (· decide))
 | ((with_reducible apply awO_f); (· rfl); (· rfl); (· exact sv); (· exact sv); (· (first | exact c0 | exact c1 | exact c2 | exact c3 | exact c4 | exact c5 | exact c6)); (· rfl); (· rfl); (· decide))
 | ((with_reducible apply awO_m); (· rfl); (· rfl); (· exact sv); (· (first | exact c0 | exact c1 | exact c2 | exact c3 | exact c4 | exact c5 | exact c6)); (· exact svq); (· exact svq); (· exact svq); (· exact svq); (· rfl); (· exact nd); (with_reducible apply awO_st); (· exact svs))
 | ((with_reducible apply awO_pc1); (· rfl); (· exact sv); (· exact sv); (· (first | decide | omega | (simp only [flat2_len, flat3_len, flat4_len, flat5_len, flat6_len]; omega) | (simp only [elC_len, List.length_append, List.length_map, List.length_cons, List.length_nil]; omega) | (simp; done) | (simp; omega))); (· (first | rfl | exact svq)); (with_reducible apply awO_st); (· exact svs))
 | ((with_reducible apply awO_pc2); (· rfl); (· exact sv); (· exact sv); (· (first | decide | omega | (simp only [flat2_len, flat3_len, flat4_len, flat5_len, flat6_len]; omega) | (simp only [elC_len, List.length_append, List.length_map, List.length_cons, List.length_nil]; omega) | (simp; done) | (simp; omega))); (· (first | rfl | exact svq)); (with_reducible apply awO_st); (· exact svs))
 | ((first | ((with_reducible apply awO_guard); (· rfl); (· rfl); (· exact sv)) | ((with_reducible apply aw_cond); (· exact sv))); all_goals (intro hg; (try simp only [Bool.not_true, Bool.not_false]); (try simp only [decide_eq_true_eq, decide_eq_false_iff_not, Bool.not_true, Bool.not_false, Bool.not_eq_true', Bool.not_eq_false', Bool.not_not, beq_eq_false_iff_ne, ne_eq, beq_iff_eq, decide_eq_decide] at hg); try (exfalso; omega)))
 | ((with_reducible apply retQ_mk); (· (first | exact .inr rfl | exact .inl rfl)); (· exact sv); (· exact sv); rotate_left; (· rfl)))
          all_goals (first | rfl | exact absurd trivial hg)
        | false =>
          refine Fn_of_aw (keep := []) Try.func9 rfl rfl (by simp [Try.ntmps9]) ?_
          simp only [num_cons, num_nil, Try.ntmps9, Try.results9]
          repeat' (first
 | ((with_reducible apply awO_ev); (· rfl); (· exact sv))
 | ((with_reducible apply aw_seq); intro _ _)
 | (with_reducible apply aw_region)
 | (with_reducible apply aw_block)
 | ((first | (with_reducible apply awO_nil) | (with_reducible apply aw_exit) | (with_reducible apply aw_skip) | (with_reducible apply aw_ret)); (try simp only [CT, ↓reduceIte, Nat.reduceEqDiff]))
 | ((with_reducible apply awO_y); (· rfl); (· rfl); (· decide); (· exact sv); (· exact sv))
 | ((with_reducible apply awO_n); (· rfl); (· rfl); (· decide); (· exact sv); (· rfl); (· rfl); (· decide))
 | ((with_reducible apply awO_u); (· rfl); (· rfl); (· exact svr); (· rfl); (· decide))
 | ((with_reducible apply aw_cond_true); (· exact sv))
 | ((with_reducible apply aw_cond_false); (· exact sv))
 | ((with_reducible apply awO_un); (· rfl); (· decide); (· exact sv))
 | (refine Kont.go ‹Kont _ _ _ _› _ ?_)
 | ((with_reducible apply awO_c); (· rfl); (· rfl); (· exact sv); (· (first | exact c0 | exact c1 | exact c2 | exact c3 | exact c4 | exact c5 | exact c6)); (· rfl); (· rfl); (· rfl); (· decide))
 | ((with_reducible apply awO_f); (· rfl); (· rfl); (· exact sv); (· exact sv); (· (first | exact c0 | exact c1 | exact c2 | exact c3 | exact c4 | exact c5 | exact c6)); (· rfl); (· rfl); (· decide))
 | ((with_reducible apply awO_m); (· rfl); (· rfl); (· exact sv); (· (first | exact c0 | exact c1 | exact c2 | exact c3 | exact c4 | exact c5 | exact c6)); (· exact svq); (· exact svq); (· exact svq); (· exact svq); (· rfl); (· exact nd); (with_reducible apply awO_st); (· exact svs))
 | ((with_reducible apply awO_pc1); (· rfl); (· exact sv); (· exact sv); (· (first | decide | omega | (simp only [flat2_len, flat3_len, flat4_len, flat5_len, flat6_len]; omega) | (simp only [elC_len, List.length_append, List.length_map, List.length_cons, List.length_nil]; omega) | (simp; done) | (simp; omega))); (· (first | rfl | exact svq)); (with_reducible apply awO_st); (· exact svs))
 | ((with_reducible apply awO_pc2); (· rfl); (· exact sv); (· exact sv); (· (first | decide | omega | (simp only [flat2_len, flat3_len, flat4_len, flat5_len, flat6_len]; omega) | (simp only [elC_len, List.length_append, List.length_map, List.length_cons, List.length_nil]; omega) | (simp; done) | (simp; omega))); (· (first | rfl | exact svq)); (with_reducible apply awO_st); (· exact svs))
 | ((first | ((with_reducible apply awO_guard); (· rfl); (· rfl); (· exact sv)) | ((with_reducible apply aw_cond); (· exact sv))); all_goals (intro hg; (try simp only [Bool.not_true, Bool.not_false]); (try simp only [decide_eq_true_eq, decide_eq_false_iff_not, Bool.not_true, Bool.not_false, Bool.not_eq_true', Bool.not_eq_false', Bool.not_not, beq_eq_false_iff_ne, ne_eq, beq_iff_eq, decide_eq_decide] at hg); try (exfalso; omega)))
 | ((with_reducible apply retQ_mk); (· (first | exact .inr rfl | exact .inl rfl)); (· exact sv); (· exact sv); rotate_left; (· rfl)))
          all_goals (first | rfl | exact absurd trivial hg)
    · skip
      refine Fn_of_aw (keep := []) Try.func9 rfl rfl (by simp [Try.ntmps9]) ?_
      simp only [num_cons, num_nil, Try.ntmps9, Try.results9]
      repeat' (first
 | ((with_reducible apply awO_ev); (· rfl); (· exact sv))
 | ((with_reducible apply aw_seq); intro _ _)
 | (with_reducible apply aw_region)
 | (with_reducible apply aw_block)
 | ((first | (with_reducible apply awO_nil) | (with_reducible apply aw_exit) | (with_reducible apply aw_skip) | (with_reducible apply aw_ret)); (try simp only [CT, ↓reduceIte, Nat.reduceEqDiff]))
 | ((with_reducible apply awO_y); (· rfl); (· rfl); (· decide); (· exact sv); (· exact sv))
 | ((with_reducible apply awO_n); (· rfl); (· rfl); (· decide); (· exact sv); (· rfl); (· rfl); (· decide))
 | ((with_reducible apply awO_u); (· rfl); (· rfl); (· exact svr); (· rfl); (· decide))
 | ((with_reducible apply aw_cond_true); (· exact sv))
 | ((with_reducible apply aw_cond_false); (· exact sv))
 | ((with_reducible apply awO_un); (· rfl); (· decide); (· exact sv))
 | (refine Kont.go ‹Kont _ _ _ _› _ ?_)
 | ((with_reducible apply awO_c); (· rfl); (· rfl); (· exact sv); (· (first | exact c0)); (· rfl); (· rfl); (· rfl); (· decide))
 | ((with_reducible apply awO_f); (· rfl); (· rfl); (· exact sv); (· exact sv); (· (first | exact c0)); (· rfl); (· rfl); (· decide))
 | ((with_reducible apply awO_m); (· rfl); (· rfl); (· exact sv); (· (first | exact c0)); (· exact svq); (· exact svq); (· exact svq); (· exact svq); (· rfl); (· exact nd); (with_reducible apply awO_st); (· exact svs))
 | ((first | ((with_reducible apply awO_guard); (· rfl); (· rfl); (· exact sv)) | ((with_reducible apply aw_cond); (· exact sv))); all_goals (intro hg; (try simp only [Bool.not_true, Bool.not_false]); (try simp only [decide_eq_true_eq, decide_eq_false_iff_not, Bool.not_true, Bool.not_false, Bool.not_eq_true', Bool.not_eq_false', Bool.not_not, beq_eq_false_iff_ne, ne_eq, beq_iff_eq, decide_eq_decide] at hg); try (exfalso; omega)))
 | ((with_reducible apply retQ_mk); (· (first | exact .inr rfl | exact .inl rfl)); (· exact sv); (· exact sv); rotate_left; (· rfl)))
      all_goals (first | rfl | exact absurd trivial hg)
  · skip
    refine Fn_of_aw (keep := []) Try.func9 rfl rfl (by simp [Try.ntmps9]) ?_
    simp only [num_cons, num_nil, Try.ntmps9, Try.results9]
    repeat' (first
 | ((with_reducible apply awO_ev); (· rfl); (· exact sv))
 | ((with_reducible apply aw_seq); intro _ _)
 | (with_reducible apply aw_region)
 | (with_reducible apply aw_block)
 | ((first | (with_reducible apply awO_nil) | (with_reducible apply aw_exit) | (with_reducible apply aw_skip) | (with_reducible apply aw_ret)); (try simp only [CT, ↓reduceIte, Nat.reduceEqDiff]))
 | ((with_reducible apply awO_y); (· rfl); (· rfl); (· decide); (· exact sv); (· exact sv))
 | ((with_reducible apply awO_n); (· rfl); (· rfl); (· decide); (· exact sv); (· rfl); (· rfl); (· decide))
 | ((with_reducible apply awO_u); (· rfl); (· rfl); (· exact svr); (· rfl); (· decide))
 | ((with_reducible apply aw_cond_true); (· exact sv))
 | ((with_reducible apply aw_cond_false); (· exact sv))
 | ((with_reducible apply awO_un); (· rfl); (· decide); (· exact sv))
 | (refine Kont.go ‹Kont _ _ _ _› _ ?_)
 | ((with_reducible apply awO_c); (· rfl); (· rfl); (· exact sv); (· (first | exact c0)); (· rfl); (· rfl); (· rfl); (· decide))
 | ((with_reducible apply awO_f); (· rfl); (· rfl); (· exact sv); (· exact sv); (· (first | exact c0)); (· rfl); (· rfl); (· decide))
 | ((with_reducible apply awO_m); (· rfl); (· rfl); (· exact sv); (· (first | exact c0)); (· exact svq); (· exact svq); (· exact svq); (· exact svq); (· rfl); (· exact nd); (with_reducible apply awO_st); (· exact svs))
 | ((first | ((with_reducible apply awO_guard); (· rfl); (· rfl); (· exact sv)) | ((with_reducible apply aw_cond); (· exact sv))); all_goals (intro hg; (try simp only [Bool.not_true, Bool.not_false]); (try simp only [decide_eq_true_eq, decide_eq_false_iff_not, Bool.not_true, Bool.not_false, Bool.not_eq_true', Bool.not_eq_false', Bool.not_not, beq_eq_false_iff_ne, ne_eq, beq_iff_eq, decide_eq_decide] at hg); try (exfalso; omega)))
 | ((with_reducible apply retQ_mk); (· (first | exact .inr rfl | exact .inl rfl)); (· exact sv); (· exact sv); rotate_left; (· rfl)))
    all_goals (first | rfl | exact absurd trivial hg)
theorem patternStars_ab (p : List It) (s t : List UInt8) (hp : BigI p) (hs : s.length ≤ 9000000000000000) (ht : t.length ≤ 9000000000000000) : Ab Try.prog 10 [itsA p, az s, az t] (ab true) := by
  have c0 := awake_ab
  obtain ⟨b, c1, hb⟩ := few_ab p 10 (by omega) 10 rfl hp.1 hp.2
  cases b with
  | false =>
    refine Fn_of_aw (keep := []) Try.func10 rfl rfl (by simp [Try.ntmps10]) ?_
    simp only [num_cons, num_nil, Try.ntmps10, Try.results10]
    repeat' (first
 | ((with_reducible apply awO_ev); (· rfl); (· exact sv))
 | ((with_reducible apply aw_seq); intro _ _)
 | (with_reducible apply aw_region)
 | (with_reducible apply aw_block)
 | ((first | (with_reducible apply awO_nil) | (with_reducible apply aw_exit) | (with_reducible apply aw_skip) | (with_reducible apply aw_ret)); (try simp only [CT, ↓reduceIte, Nat.reduceEqDiff]))
 | ((with_reducible apply awO_y); (· rfl); (· rfl); (· decide); (· exact sv); (· exact sv))
 | ((with_reducible apply awO_n); (· rfl); (· rfl); (· decide); (· exact sv); (· rfl); (· rfl); (· decide))
 | ((with_reducible apply awO_u); (· rfl); (· rfl); (· exact svr); (· rfl); (· decide))
 | ((with_reducible apply aw_cond_true); (· exact sv))
 | ((with_reducible apply aw_cond_false); (· exact sv))
 | ((with_reducible apply awO_un); (· rfl); (· decide); (· exact sv))
 | (refine Kont.go ‹Kont _ _ _ _› _ ?_)
 | ((with_reducible apply awO_c); (· rfl); (· rfl); (· exact sv); (· (first | exact c0 | exact c1)); (· rfl); (· rfl); (· rfl); (· decide))
 | ((with_reducible apply awO_f); (· rfl); (· rfl); (· exact sv); (· exact sv); (· (first | exact c0 | exact c1)); (· rfl); (· rfl); (· decide))
 | ((with_reducible apply awO_m); (· rfl); (· rfl); (· exact sv); (· (first | exact c0 | exact c1)); (· exact svq); (· exact svq); (· exact svq); (· exact svq); (· rfl); (· exact nd); (with_reducible apply awO_st); (· exact svs))
 | ((first | ((with_reducible apply awO_guard); (· rfl); (· rfl); (· exact sv)) | ((with_reducible apply aw_cond); (· exact sv))); all_goals (intro hg; (try simp only [Bool.not_true, Bool.not_false]); (try simp only [decide_eq_true_eq, decide_eq_false_iff_not, Bool.not_true, Bool.not_false, Bool.not_eq_true', Bool.not_eq_false', Bool.not_not, beq_eq_false_iff_ne, ne_eq, beq_iff_eq, decide_eq_decide] at hg); try (exfalso; omega)))
 | ((with_reducible apply retQ_mk); (· (first | exact .inr rfl | exact .inl rfl)); (· exact sv); (· exact sv); rotate_left; (· rfl)))
    all_goals (first | rfl | exact absurd trivial hg)
  | true =>
    obtain ⟨g1, g2⟩ := hb rfl
    by_cases h1 : s.length ≤ 30
    · by_cases h2 : t.length ≤ 30
      · have hx : ∀ x ∈ p, x.s.length ≤ 100000 ∧ x.t.length ≤ 100000 := fun x h => by have := g2 x h; omega
        have c2 := prefix_ab p s false (by omega) (by omega) hx
        have c3 := prefix_ab p s true (by omega) (by omega) hx
        have c4 := match_ab (p ++ [stI]) (s ++ t) (by simp; omega) (by simp; omega) (fun x h => by
          rcases List.mem_append.1 h with h | h
          · exact hx x h
          · rw [List.mem_singleton.1 h]; simp [stI])
        have c5 := prefixes_ab p (s ++ t) (by omega) (by simp; omega) hx
        rw [mt_star, show itsA (p ++ [stI]) = .rd (p.length + 1) (itC p ++ [ai 3, az [], ab false, .rd 0 []]) by unfold itsA; rw [itC_append, List.length_append]; rfl] at c4
        generalize (pfx p (s ++ t) false).isSome = b at *
        rcases pfx_pair p s with ⟨e1, e2⟩ | ⟨a, d, e1, e2, had, hds, m1, m2⟩
        · rw [e1] at c2
          rw [e2] at c3
          simp only [oA, Option.getD_none, Option.isSome_none] at c2 c3
          cases b with
          | true =>
            refine Fn_of_aw (keep := []) Try.func10 rfl rfl (by simp [Try.ntmps10]) ?_
            simp only [num_cons, num_nil, Try.ntmps10, Try.results10]
            repeat' (first
 | ((with_reducible apply awO_bnz); (· rfl); (· rfl); (· rfl); (· exact sv); (with_reducible apply awO_st); (· exact svs))
 | ((with_reducible apply awO_ev); (· rfl); (· exact sv))
 | ((with_reducible apply aw_seq); intro _ _)
 | (with_reducible apply aw_region)
 | (with_reducible apply aw_block)
 | ((first | (with_reducible apply awO_nil) | (with_reducible apply aw_exit) | (with_reducible apply aw_skip) | (with_reducible apply aw_ret)); (try simp only [CT, ↓reduceIte, Nat.reduceEqDiff]))
 | ((with_reducible apply awO_y); (· rfl); (· rfl); (· decide); (· exact sv); (· exact sv))
 | ((with_reducible apply awO_n); (· rfl); (· rfl); (· decide); (· exact sv); (· rfl); (· rfl); (· decide))
 | ((with_reducible apply awO_u); (· rfl); (· rfl); (· exact svr); (· rfl); (· decide))
 | ((with_reducible apply aw_cond_true); (· exact sv))
 | ((with_reducible apply aw_cond_false); (· exact sv))
 | ((with_reducible apply awO_un); (· rfl); (· decide); (· exact sv))
 | (refine Kont.go ‹Kont _ _ _ _› _ ?_)
 | ((with_reducible apply awO_c); (· rfl); (· rfl); (· exact sv); (· (first | exact c0 | exact c1 | exact c2 | exact c3 | exact c4 | exact c5)); (· rfl); (· rfl); (· rfl); (· decide))
 | ((with_reducible apply awO_f); (· rfl); (· rfl); (· exact sv); (· exact sv); (· (first | exact c0 | exact c1 | exact c2 | exact c3 | exact c4 | exact c5)); (· rfl); (· rfl); (· decide))
 | ((with_reducible apply awO_m); (· rfl); (· rfl); (· exact sv); (· (first | exact c0 | exact c1 | exact c2 | exact c3 | exact c4 | exact c5)); (· exact svq); (· exact svq); (· exact svq); (· exact svq); (· rfl); (· exact nd); (with_reducible apply awO_st); (· exact svs))
 | ((first | ((with_reducible apply awO_guard); (· rfl); (· rfl); (· exact sv)) | ((with_reducible apply aw_cond); (· exact sv))); all_goals (intro hg; (try simp only [Bool.not_true, Bool.not_false]); (try simp only [decide_eq_true_eq, decide_eq_false_iff_not, Bool.not_true, Bool.not_false, Bool.not_eq_true', Bool.not_eq_false', Bool.not_not, beq_eq_false_iff_ne, ne_eq, beq_iff_eq, decide_eq_decide] at hg); try (exfalso; omega)))
 | ((with_reducible apply retQ_mk); (· (first | exact .inr rfl | exact .inl rfl)); (· exact sv); (· exact sv); rotate_left; (· rfl)))
            all_goals (first | rfl | exact absurd trivial hg)
          | false =>
            refine Fn_of_aw (keep := []) Try.func10 rfl rfl (by simp [Try.ntmps10]) ?_
            simp only [num_cons, num_nil, Try.ntmps10, Try.results10]
            repeat' (first
 | ((with_reducible apply awO_bnz); (· rfl); (· rfl); (· rfl); (· exact sv); (with_reducible apply awO_st); (· exact svs))
 | ((with_reducible apply awO_ev); (· rfl); (· exact sv))
 | ((with_reducible apply aw_seq); intro _ _)
 | (with_reducible apply aw_region)
 | (with_reducible apply aw_block)
 | ((first | (with_reducible apply awO_nil) | (with_reducible apply aw_exit) | (with_reducible apply aw_skip) | (with_reducible apply aw_ret)); (try simp only [CT, ↓reduceIte, Nat.reduceEqDiff]))
 | ((with_reducible apply awO_y); (· rfl); (· rfl); (· decide); (· exact sv); (· exact sv))
 | ((with_reducible apply awO_n); (· rfl); (· rfl); (· decide); (· exact sv); (· rfl); (· rfl); (· decide))
 | ((with_reducible apply awO_u); (· rfl); (· rfl); (· exact svr); (· rfl); (· decide))
 | ((with_reducible apply aw_cond_true); (· exact sv))
 | ((with_reducible apply aw_cond_false); (· exact sv))
 | ((with_reducible apply awO_un); (· rfl); (· decide); (· exact sv))
 | (refine Kont.go ‹Kont _ _ _ _› _ ?_)
 | ((with_reducible apply awO_c); (· rfl); (· rfl); (· exact sv); (· (first | exact c0 | exact c1 | exact c2 | exact c3 | exact c4 | exact c5)); (· rfl); (· rfl); (· rfl); (· decide))
 | ((with_reducible apply awO_f); (· rfl); (· rfl); (· exact sv); (· exact sv); (· (first | exact c0 | exact c1 | exact c2 | exact c3 | exact c4 | exact c5)); (· rfl); (· rfl); (· decide))
 | ((with_reducible apply awO_m); (· rfl); (· rfl); (· exact sv); (· (first | exact c0 | exact c1 | exact c2 | exact c3 | exact c4 | exact c5)); (· exact svq); (· exact svq); (· exact svq); (· exact svq); (· rfl); (· exact nd); (with_reducible apply awO_st); (· exact svs))
 | ((first | ((with_reducible apply awO_guard); (· rfl); (· rfl); (· exact sv)) | ((with_reducible apply aw_cond); (· exact sv))); all_goals (intro hg; (try simp only [Bool.not_true, Bool.not_false]); (try simp only [decide_eq_true_eq, decide_eq_false_iff_not, Bool.not_true, Bool.not_false, Bool.not_eq_true', Bool.not_eq_false', Bool.not_not, beq_eq_false_iff_ne, ne_eq, beq_iff_eq, decide_eq_decide] at hg); try (exfalso; omega)))
 | ((with_reducible apply retQ_mk); (· (first | exact .inr rfl | exact .inl rfl)); (· exact sv); (· exact sv); rotate_left; (· rfl)))
            all_goals (first | rfl | exact absurd trivial hg)
        · rw [e1] at c2
          rw [e2] at c3
          simp only [oA, Option.getD_some, Option.isSome_some] at c2 c3
          have c6 := match_ab p (s.take a) (by omega) (by simp; omega) hx
          have c7 := match_ab p (s.take d) (by omega) (by simp; omega) hx
          rw [m1] at c6
          rw [m2] at c7
          cases b with
          | true =>
            refine Fn_of_aw (keep := []) Try.func10 rfl rfl (by simp [Try.ntmps10]) ?_
            simp only [num_cons, num_nil, Try.ntmps10, Try.results10]
            repeat' (first
 | ((with_reducible apply awO_bnz); (· rfl); (· rfl); (· rfl); (· exact sv); (with_reducible apply awO_st); (· exact svs))
 | ((with_reducible apply awO_ev); (· rfl); (· exact sv))
 | ((with_reducible apply aw_seq); intro _ _)
 | (with_reducible apply aw_region)
 | (with_reducible apply aw_block)
 | ((first | (with_reducible apply awO_nil) | (with_reducible apply aw_exit) | (with_reducible apply aw_skip) | (with_reducible apply aw_ret)); (try simp only [CT, ↓reduceIte, Nat.reduceEqDiff]))
 | ((with_reducible apply awO_y); (· rfl); (· rfl); (· decide); (· exact sv); (· exact sv))
 | ((with_reducible apply awO_n); (· rfl); (· rfl); (· decide); (· exact sv); (· rfl); (· rfl); (· decide))
 | ((with_reducible apply awO_u); (· rfl); (· rfl); (· exact svr); (· rfl); (· decide))
 | ((with_reducible apply aw_cond_true); (· exact sv))
 | ((with_reducible apply aw_cond_false); (· exact sv))
 | ((with_reducible apply awO_un); (· rfl); (· decide); (· exact sv))
 | (refine Kont.go ‹Kont _ _ _ _› _ ?_)
 | ((with_reducible apply awO_c); (· rfl); (· rfl); (· exact sv); (· (first | exact c0 | exact c1 | exact c2 | exact c3 | exact c4 | exact c5 | exact c6 | exact c7)); (· rfl); (· rfl); (· rfl); (· decide))
 | ((with_reducible apply awO_f); (· rfl); (· rfl); (· exact sv); (· exact sv); (· (first | exact c0 | exact c1 | exact c2 | exact c3 | exact c4 | exact c5 | exact c6 | exact c7)); (· rfl); (· rfl); (· decide))
 | ((with_reducible apply awO_m); (· rfl); (· rfl); (· exact sv); (· (first | exact c0 | exact c1 | exact c2 | exact c3 | exact c4 | exact c5 | exact c6 | exact c7)); (· exact svq); (· exact svq); (· exact svq); (· exact svq); (· rfl); (· exact nd); (with_reducible apply awO_st); (· exact svs))
 | ((first | ((with_reducible apply awO_guard); (· rfl); (· rfl); (· exact sv)) | ((with_reducible apply aw_cond); (· exact sv))); all_goals (intro hg; (try simp only [Bool.not_true, Bool.not_false]); (try simp only [decide_eq_true_eq, decide_eq_false_iff_not, Bool.not_true, Bool.not_false, Bool.not_eq_true', Bool.not_eq_false', Bool.not_not, beq_eq_false_iff_ne, ne_eq, beq_iff_eq, decide_eq_decide] at hg); try (exfalso; omega)))
 | ((with_reducible apply retQ_mk); (· (first | exact .inr rfl | exact .inl rfl)); (· exact sv); (· exact sv); rotate_left; (· rfl)))
            all_goals (first | rfl | exact absurd trivial hg)
          | false =>
            refine Fn_of_aw (keep := []) Try.func10 rfl rfl (by simp [Try.ntmps10]) ?_
            simp only [num_cons, num_nil, Try.ntmps10, Try.results10]
            repeat' (first
 | ((with_reducible apply awO_bnz); (· rfl); (· rfl); (· rfl); (· exact sv); (with_reducible apply awO_st); (· exact svs))
 | ((with_reducible apply awO_ev); (· rfl); (· exact sv))
 | ((with_reducible apply aw_seq); intro _ _)
 | (with_reducible apply aw_region)
 | (with_reducible apply aw_block)
 | ((first | (with_reducible apply awO_nil) | (with_reducible apply aw_exit) | (with_reducible apply aw_skip) | (with_reducible apply aw_ret)); (try simp only [CT, ↓reduceIte, Nat.reduceEqDiff]))
 | ((with_reducible apply awO_y); (· rfl); (· rfl); (· decide); (· exact sv); (· exact sv))
 | ((with_reducible apply awO_n); (· rfl); (· rfl); (· decide); (· exact sv); (· rfl); (· rfl); (· decide))
 | ((with_reducible apply awO_u); (· rfl); (· rfl); (· exact svr); (· rfl); (· decide))
 | ((with_reducible apply aw_cond_true); (· exact sv))
 | ((with_reducible apply aw_cond_false); (· exact sv))
 | ((with_reducible apply awO_un); (· rfl); (· decide); (· exact sv))
 | (refine Kont.go ‹Kont _ _ _ _› _ ?_)
 | ((with_reducible apply awO_c); (· rfl); (· rfl); (· exact sv); (· (first | exact c0 | exact c1 | exact c2 | exact c3 | exact c4 | exact c5 | exact c6 | exact c7)); (· rfl); (· rfl); (· rfl); (· decide))
 | ((with_reducible apply awO_f); (· rfl); (· rfl); (· exact sv); (· exact sv); (· (first | exact c0 | exact c1 | exact c2 | exact c3 | exact c4 | exact c5 | exact c6 | exact c7)); (· rfl); (· rfl); (· decide))
 | ((with_reducible apply awO_m); (· rfl); (· rfl); (· exact sv); (· (first | exact c0 | exact c1 | exact c2 | exact c3 | exact c4 | exact c5 | exact c6 | exact c7)); (· exact svq); (· exact svq); (· exact svq); (· exact svq); (· rfl); (· exact nd); (with_reducible apply awO_st); (· exact svs))
 | ((first | ((with_reducible apply awO_guard); (· rfl); (· rfl); (· exact sv)) | ((with_reducible apply aw_cond); (· exact sv))); all_goals (intro hg; (try simp only [Bool.not_true, Bool.not_false]); (try simp only [decide_eq_true_eq, decide_eq_false_iff_not, Bool.not_true, Bool.not_false, Bool.not_eq_true', Bool.not_eq_false', Bool.not_not, beq_eq_false_iff_ne, ne_eq, beq_iff_eq, decide_eq_decide] at hg); try (exfalso; omega)))
 | ((with_reducible apply retQ_mk); (· (first | exact .inr rfl | exact .inl rfl)); (· exact sv); (· exact sv); rotate_left; (· rfl)))
            all_goals (first | rfl | exact absurd trivial hg)
      · skip
        refine Fn_of_aw (keep := []) Try.func10 rfl rfl (by simp [Try.ntmps10]) ?_
        simp only [num_cons, num_nil, Try.ntmps10, Try.results10]
        repeat' (first
 | ((with_reducible apply awO_ev); (· rfl); (· exact sv))
 | ((with_reducible apply aw_seq); intro _ _)
 | (with_reducible apply aw_region)
 | (with_reducible apply aw_block)
 | ((first | (with_reducible apply awO_nil) | (with_reducible apply aw_exit) | (with_reducible apply aw_skip) | (with_reducible apply aw_ret)); (try simp only [CT, ↓reduceIte, Nat.reduceEqDiff]))
 | ((with_reducible apply awO_y); (· rfl); (· rfl); (· decide); (· exact sv); (· exact sv))
 | ((with_reducible apply awO_n); (· rfl); (· rfl); (· decide); (· exact sv); (· rfl); (· rfl); (· decide))
 | ((with_reducible apply awO_u); (· rfl); (· rfl); (· exact svr); (· rfl); (· decide))
 | ((with_reducible apply aw_cond_true); (· exact sv))
 | ((with_reducible apply aw_cond_false); (· exact sv))
 | ((with_reducible apply awO_un); (· rfl); (· decide); (· exact sv))
 | (refine Kont.go ‹Kont _ _ _ _› _ ?_)
 | ((with_reducible apply awO_c); (· rfl); (· rfl); (· exact sv); (· (first | exact c0 | exact c1)); (· rfl); (· rfl); (· rfl); (· decide))
 | ((with_reducible apply awO_f); (· rfl); (· rfl); (· exact sv); (· exact sv); (· (first | exact c0 | exact c1)); (· rfl); (· rfl); (· decide))
 | ((with_reducible apply awO_m); (· rfl); (· rfl); (· exact sv); (· (first | exact c0 | exact c1)); (· exact svq); (· exact svq); (· exact svq); (· exact svq); (· rfl); (· exact nd); (with_reducible apply awO_st); (· exact svs))
 | ((first | ((with_reducible apply awO_guard); (· rfl); (· rfl); (· exact sv)) | ((with_reducible apply aw_cond); (· exact sv))); all_goals (intro hg; (try simp only [Bool.not_true, Bool.not_false]); (try simp only [decide_eq_true_eq, decide_eq_false_iff_not, Bool.not_true, Bool.not_false, Bool.not_eq_true', Bool.not_eq_false', Bool.not_not, beq_eq_false_iff_ne, ne_eq, beq_iff_eq, decide_eq_decide] at hg); try (exfalso; omega)))
 | ((with_reducible apply retQ_mk); (· (first | exact .inr rfl | exact .inl rfl)); (· exact sv); (· exact sv); rotate_left; (· rfl)))
        all_goals (first | rfl | exact absurd trivial hg)
    · skip
      refine Fn_of_aw (keep := []) Try.func10 rfl rfl (by simp [Try.ntmps10]) ?_
      simp only [num_cons, num_nil, Try.ntmps10, Try.results10]
      repeat' (first
 | ((with_reducible apply awO_ev); (· rfl); (· exact sv))
 | ((with_reducible apply aw_seq); intro _ _)
 | (with_reducible apply aw_region)
 | (with_reducible apply aw_block)
 | ((first | (with_reducible apply awO_nil) | (with_reducible apply aw_exit) | (with_reducible apply aw_skip) | (with_reducible apply aw_ret)); (try simp only [CT, ↓reduceIte, Nat.reduceEqDiff]))
 | ((with_reducible apply awO_y); (· rfl); (· rfl); (· decide); (· exact sv); (· exact sv))
 | ((with_reducible apply awO_n); (· rfl); (· rfl); (· decide); (· exact sv); (· rfl); (· rfl); (· decide))
 | ((with_reducible apply awO_u); (· rfl); (· rfl); (· exact svr); (· rfl); (· decide))
 | ((with_reducible apply aw_cond_true); (· exact sv))
 | ((with_reducible apply aw_cond_false); (· exact sv))
 | ((with_reducible apply awO_un); (· rfl); (· decide); (· exact sv))
 | (refine Kont.go ‹Kont _ _ _ _› _ ?_)
 | ((with_reducible apply awO_c); (· rfl); (· rfl); (· exact sv); (· (first | exact c0 | exact c1)); (· rfl); (· rfl); (· rfl); (· decide))
 | ((with_reducible apply awO_f); (· rfl); (· rfl); (· exact sv); (· exact sv); (· (first | exact c0 | exact c1)); (· rfl); (· rfl); (· decide))
 | ((with_reducible apply awO_m); (· rfl); (· rfl); (· exact sv); (· (first | exact c0 | exact c1)); (· exact svq); (· exact svq); (· exact svq); (· exact svq); (· rfl); (· exact nd); (with_reducible apply awO_st); (· exact svs))
 | ((first | ((with_reducible apply awO_guard); (· rfl); (· rfl); (· exact sv)) | ((with_reducible apply aw_cond); (· exact sv))); all_goals (intro hg; (try simp only [Bool.not_true, Bool.not_false]); (try simp only [decide_eq_true_eq, decide_eq_false_iff_not, Bool.not_true, Bool.not_false, Bool.not_eq_true', Bool.not_eq_false', Bool.not_not, beq_eq_false_iff_ne, ne_eq, beq_iff_eq, decide_eq_decide] at hg); try (exfalso; omega)))
 | ((with_reducible apply retQ_mk); (· (first | exact .inr rfl | exact .inl rfl)); (· exact sv); (· exact sv); rotate_left; (· rfl)))
      all_goals (first | rfl | exact absurd trivial hg)
end Go.Proofs.Ytllhcgfdjfmmeaa
