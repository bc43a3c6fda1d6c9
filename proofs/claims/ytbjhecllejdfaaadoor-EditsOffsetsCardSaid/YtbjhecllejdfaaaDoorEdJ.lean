/- The laws of edits, on the abstract machine: Apply, Invert, Shift, Diff. -/
import Derived.Test.YtbjhecllejdfaaaDoorEdI
namespace Go.Proofs.YtbjhecllejdfaaaDoor
open Go.RowKit
set_option linter.unusedVariables false
set_option linter.unusedSimpArgs false
set_option maxRecDepth 100000
set_option maxHeartbeats 8000000
theorem cnvU16 {n : Int} (h0 : 0 ≤ n) (h1 : n ≤ 65535) : cnv Tryd.prog 41 3 (.int .u16 n) = some (.int .i64 n) := by
  rw [cnv_int (k := .i64) .u16 n (by kernel_rfl) (by kernel_rfl), wrap64 (by omega) (by omega)]
attribute [go_sem] cnvU16
/-- What is handed in. -/
structure BigE (L : List Ed) : Prop where
  n : L.length ≤ 9000000000000000
  x : ∀ k (h : k < L.length), L[k].x.length ≤ 9000000000000000
  i : ∀ k (h : k < L.length), -9223372036854775808 ≤ L[k].f ∧ L[k].f ≤ 9223372036854775807 ∧ -9223372036854775808 ≤ L[k].t ∧ L[k].t ≤ 9223372036854775807
theorem BigE.ok {s : List UInt8} {L : List Ed} (h : BigE L) (hf : fewE s L = true) : edOk L := fun k hk => by
  have h1 := (fewE_spec hf).2.2 k hk
  have h2 := h.i k hk
  exact ⟨by omega, h2⟩
theorem editsApplies_ab (s : List UInt8) (L : List Ed) (hs : s.length ≤ 9000000000000000) (hL : BigE L) : Ab Tryd.prog 6 [az s, edA L] (ab true) := by
  have c0 := awake_ab
  have c1 := few_ab s L hs hL.n hL.x
  cases hf : fewE s L with
  | false =>
    rw [hf] at c1
    refine Fn_of_aw (keep := []) Tryd.func6 rfl rfl (by simp [Tryd.ntmps6]) ?_
    simp only [num_cons, num_nil, Tryd.ntmps6, Tryd.results6]
    repeat' (first
 | ((with_reducible apply awO_ev); (· rfl); (· exact sv))
 | ((with_reducible apply aw_seq); intro _ _)
 | (with_reducible apply aw_region)
 | (with_reducible apply aw_block)
 | ((first | (with_reducible apply awO_nil) | (with_reducible apply aw_exit) | (with_reducible apply aw_skip) | (with_reducible apply aw_ret)); (try simp only [CT, ↓reduceIte, Nat.reduceEqDiff]))
 | ((with_reducible apply awO_y); (· rfl); (· rfl); (· decide); (· exact sv); (· exact sv))
 | ((with_reducible apply awO_n); (· rfl); (· rfl); (· decide); (· exact sv); (· rfl); (· rfl); (· decide))
 | ((with_reducible apply awO_u); (· rfl); (· rfl); (· exact svr); (· rfl); (· decide))
 | ((with_reducible apply aw_cond_true); (· exact sv))
 | ((with_reducible apply aw_cond_false); (· exact sv))
 | ((with_reducible apply awO_un); (· rfl); (· decide); (· exact sv))
 | (refine Kont.go ‹Kont _ _ _ _› _ ?_)
 | ((with_reducible apply awO_c); (· rfl); (· rfl); (· exact sv); (· (first | exact c0 | exact c1)); (· rfl); (· rfl); (· rfl); (· decide))
 | ((with_reducible apply awO_f); (· rfl); (· rfl); (· exact sv); (· exact sv); (· (first | exact c0 | exact c1)); (· rfl); (· rfl); (· decide))
 | ((with_reducible apply awO_m); (· rfl); (· rfl); (· exact sv); (· (first | exact c0 | exact c1)); (· exact svq); (· exact svq); (· exact svq); (· exact svq); (· rfl); (· exact nd); (with_reducible apply awO_st); (· exact svs))
 | ((first | ((with_reducible apply awO_guard); (· rfl); (· rfl); (· exact sv)) | ((with_reducible apply aw_cond); (· exact sv))); all_goals (intro hg; (try simp only [Bool.not_true, Bool.not_false]); (try simp only [decide_eq_true_eq, decide_eq_false_iff_not, Bool.not_true, Bool.not_false, Bool.not_eq_true', Bool.not_eq_false', Bool.not_not, beq_eq_false_iff_ne, ne_eq, beq_iff_eq, decide_eq_decide] at hg); try (exfalso; omega)))
 | ((with_reducible apply retQ_mk); (· (first | exact .inr rfl | exact .inl rfl)); (· exact sv); (· exact sv); rotate_left; (· rfl)))
    all_goals rfl
  | true =>
    rw [hf] at c1
    obtain ⟨f1, f2, f3⟩ := fewE_spec hf
    have ho := hL.ok hf
    have c2 := apply_ab s L (by omega) (by omega) ho
    have c3 := rapplyF_ab s L (by omega) (by omega) ho
    have c4 := valid_ab s L (by omega) (by omega) ho
    generalize apR s L = t at *
    generalize vldE s L = v at *
    refine Fn_of_aw (keep := []) Tryd.func6 rfl rfl (by simp [Tryd.ntmps6]) ?_
    simp only [num_cons, num_nil, Tryd.ntmps6, Tryd.results6]
    repeat' (first
 | ((with_reducible apply awO_ev); (· rfl); (· exact sv))
 | ((with_reducible apply aw_seq); intro _ _)
 | (with_reducible apply aw_region)
 | (with_reducible apply aw_block)
 | ((first | (with_reducible apply awO_nil) | (with_reducible apply aw_exit) | (with_reducible apply aw_skip) | (with_reducible apply aw_ret)); (try simp only [CT, ↓reduceIte, Nat.reduceEqDiff]))
 | ((with_reducible apply awO_y); (· rfl); (· rfl); (· decide); (· exact sv); (· exact sv))
 | ((with_reducible apply awO_n); (· rfl); (· rfl); (· decide); (· exact sv); (· rfl); (· rfl); (· decide))
 | ((with_reducible apply awO_u); (· rfl); (· rfl); (· exact svr); (· rfl); (· decide))
 | ((with_reducible apply aw_cond_true); (· exact sv))
 | ((with_reducible apply aw_cond_false); (· exact sv))
 | ((with_reducible apply awO_un); (· rfl); (· decide); (· exact sv))
 | (refine Kont.go ‹Kont _ _ _ _› _ ?_)
 | ((with_reducible apply awO_c); (· rfl); (· rfl); (· exact sv); (· (first | exact c0 | exact c1 | exact c2 | exact c3 | exact c4)); (· rfl); (· rfl); (· rfl); (· decide))
 | ((with_reducible apply awO_f); (· rfl); (· rfl); (· exact sv); (· exact sv); (· (first | exact c0 | exact c1 | exact c2 | exact c3 | exact c4)); (· rfl); (· rfl); (· decide))
 | ((with_reducible apply awO_m); (· rfl); (· rfl); (· exact sv); (· (first | exact c0 | exact c1 | exact c2 | exact c3 | exact c4)); (· exact svq); (· exact svq); (· exact svq); (· exact svq); (· rfl); (· exact nd); (with_reducible apply awO_st); (· exact svs))
 | ((first | ((with_reducible apply awO_guard); (· rfl); (· rfl); (· exact sv)) | ((with_reducible apply aw_cond); (· exact sv))); all_goals (intro hg; (try simp only [Bool.not_true, Bool.not_false]); (try simp only [decide_eq_true_eq, decide_eq_false_iff_not, Bool.not_true, Bool.not_false, Bool.not_eq_true', Bool.not_eq_false', Bool.not_not, beq_eq_false_iff_ne, ne_eq, beq_iff_eq, decide_eq_decide] at hg); try (exfalso; omega)))
 | ((with_reducible apply retQ_mk); (· (first | exact .inr rfl | exact .inl rfl)); (· exact sv); (· exact sv); rotate_left; (· rfl)))
    all_goals (first | rfl | exact absurd trivial hg | exact absurd rfl hg)
theorem ivE_x (s : List UInt8) : ∀ (L : List Ed) (m : Int), ∀ e ∈ ivE s m L, e.x.length ≤ s.length
  | [], m, e, h => by cases h
  | a :: l, m, e, h => by
    rw [ivE] at h
    rcases List.mem_cons.1 h with rfl | h
    · simp only [prt, List.length_take, List.length_drop]; omega
    · exact ivE_x s l _ e h
/-- The inverse is valid, and restores. -/
theorem inv_ok {s : List UInt8} {L : List Ed} (h : vldE s L = 0) (hx : s.length ≤ 16384) : edOk (ivE s 0 L) ∧ vldE (apE s 0 L) (ivE s 0 L) = 0 ∧ apR (apE s 0 L) (ivE s 0 L) = s ∧ (apE s 0 L).length ≤ 16384 ∧ (ivE s 0 L).length ≤ 256 := by
  obtain ⟨h1, h2, h3⟩ := vld_ord h
  have hlen := apE_len s L 0 (by omega) h2
  have hil := ivE_len s L 0
  have hord := Ord_inv s (apE s 0 L).length L 0 0 h2 (by omega) (by omega)
  have hadd := addE_inv s L 0 0 h2 (by omega)
  have hv : vldE (apE s 0 L) (ivE s 0 L) = 0 := by
    rw [vldE, if_neg (by omega)]
    exact vlE_ok _ _ _ _ (by omega) hord (by omega)
  refine ⟨fun k hk => ?_, hv, ?_, by omega, by omega⟩
  · have g1 := Ord_get hord (by omega) k hk
    have g2 := ivE_x s L 0 _ (List.getElem_mem hk)
    exact ⟨by omega, by omega, by omega, by omega, by omega⟩
  · rw [apR, if_pos hv]
    have := apE_inv s L 0 0 [] (by omega) h2 rfl
    simpa using this
theorem editsInverts_ab (s : List UInt8) (L : List Ed) (hs : s.length ≤ 9000000000000000) (hL : BigE L) : Ab Tryd.prog 9 [az s, edA L] (ab true) := by
  have c0 := awake_ab
  have c1 := few_ab s L hs hL.n hL.x
  cases hf : fewE s L with
  | false =>
    rw [hf] at c1
    refine Fn_of_aw (keep := []) Tryd.func9 rfl rfl (by simp [Tryd.ntmps9]) ?_
    simp only [num_cons, num_nil, Tryd.ntmps9, Tryd.results9]
    repeat' (first
 | ((with_reducible apply awO_ev); (· rfl); (· exact sv))
 | ((with_reducible apply aw_seq); intro _ _)
 | (with_reducible apply aw_region)
 | (with_reducible apply aw_block)
 | ((first | (with_reducible apply awO_nil) | (with_reducible apply aw_exit) | (with_reducible apply aw_skip) | (with_reducible apply aw_ret)); (try simp only [CT, ↓reduceIte, Nat.reduceEqDiff]))
 | ((with_reducible apply awO_y); (· rfl); (· rfl); (· decide); (· exact sv); (· exact sv))
 | ((with_reducible apply awO_n); (· rfl); (· rfl); (· decide); (· exact sv); (· rfl); (· rfl); (· decide))
 | ((with_reducible apply awO_u); (· rfl); (· rfl); (· exact svr); (· rfl); (· decide))
 | ((with_reducible apply aw_cond_true); (· exact sv))
 | ((with_reducible apply aw_cond_false); (· exact sv))
 | ((with_reducible apply awO_un); (· rfl); (· decide); (· exact sv))
 | (refine Kont.go ‹Kont _ _ _ _› _ ?_)
 | ((with_reducible apply awO_c); (· rfl); (· rfl); (· exact sv); (· (first | exact c0 | exact c1)); (· rfl); (· rfl); (· rfl); (· decide))
 | ((with_reducible apply awO_f); (· rfl); (· rfl); (· exact sv); (· exact sv); (· (first | exact c0 | exact c1)); (· rfl); (· rfl); (· decide))
 | ((with_reducible apply awO_m); (· rfl); (· rfl); (· exact sv); (· (first | exact c0 | exact c1)); (· exact svq); (· exact svq); (· exact svq); (· exact svq); (· rfl); (· exact nd); (with_reducible apply awO_st); (· exact svs))
 | ((first | ((with_reducible apply awO_guard); (· rfl); (· rfl); (· exact sv)) | ((with_reducible apply aw_cond); (· exact sv))); all_goals (intro hg; (try simp only [Bool.not_true, Bool.not_false]); (try simp only [decide_eq_true_eq, decide_eq_false_iff_not, Bool.not_true, Bool.not_false, Bool.not_eq_true', Bool.not_eq_false', Bool.not_not, beq_eq_false_iff_ne, ne_eq, beq_iff_eq, decide_eq_decide] at hg); try (exfalso; omega)))
 | ((with_reducible apply retQ_mk); (· (first | exact .inr rfl | exact .inl rfl)); (· exact sv); (· exact sv); rotate_left; (· rfl)))
    all_goals rfl
  | true =>
    rw [hf] at c1
    obtain ⟨f1, f2, f3⟩ := fewE_spec hf
    have ho := hL.ok hf
    by_cases h0 : vldE s L = 0
    · have c2 := invert_ab s L (by omega) (by omega) ho h0
      have c3 := rinvert_ab s L (by omega) (by omega) ho h0
      have hl := ivE_len s L 0
      have c4 := same_ab (ivE s 0 L) (by omega)
      by_cases hx : s.length ≤ 16384
      · obtain ⟨i1, i2, i3, i4, i5⟩ := inv_ok h0 hx
        have c5 := apply_ab s L (by omega) (by omega) ho
        have c6 := apply_ab (apE s 0 L) (ivE s 0 L) (by omega) (by omega) i1
        rw [i2, i3] at c6
        rw [apR, if_pos h0, h0] at c5
        generalize ivE s 0 L = X at *
        generalize apE s 0 L = t at *
        refine Fn_of_aw (keep := []) Tryd.func9 rfl rfl (by simp [Tryd.ntmps9]) ?_
        simp only [num_cons, num_nil, Tryd.ntmps9, Tryd.results9]
        repeat' (first
 | ((with_reducible apply awO_ev); (· rfl); (· exact sv))
 | ((with_reducible apply aw_seq); intro _ _)
 | (with_reducible apply aw_region)
 | (with_reducible apply aw_block)
 | ((first | (with_reducible apply awO_nil) | (with_reducible apply aw_exit) | (with_reducible apply aw_skip) | (with_reducible apply aw_ret)); (try simp only [CT, ↓reduceIte, Nat.reduceEqDiff]))
 | ((with_reducible apply awO_y); (· rfl); (· rfl); (· decide); (· exact sv); (· exact sv))
 | ((with_reducible apply awO_n); (· rfl); (· rfl); (· decide); (· exact sv); (· rfl); (· rfl); (· decide))
 | ((with_reducible apply awO_u); (· rfl); (· rfl); (· exact svr); (· rfl); (· decide))
 | ((with_reducible apply aw_cond_true); (· exact sv))
 | ((with_reducible apply aw_cond_false); (· exact sv))
 | ((with_reducible apply awO_un); (· rfl); (· decide); (· exact sv))
 | (refine Kont.go ‹Kont _ _ _ _› _ ?_)
 | ((with_reducible apply awO_c); (· rfl); (· rfl); (· exact sv); (· (first | exact c0 | exact c1 | exact c2 | exact c3 | exact c4 | exact c5 | exact c6)); (· rfl); (· rfl); (· rfl); (· decide))
 | ((with_reducible apply awO_f); (· rfl); (· rfl); (· exact sv); (· exact sv); (· (first | exact c0 | exact c1 | exact c2 | exact c3 | exact c4 | exact c5 | exact c6)); (· rfl); (· rfl); (· decide))
 | ((with_reducible apply awO_m); (· rfl); (· rfl); (· exact sv); (· (first | exact c0 | exact c1 | exact c2 | exact c3 | exact c4 | exact c5 | exact c6)); (· exact svq); (· exact svq); (· exact svq); (· exact svq); (· rfl); (· exact nd); (with_reducible apply awO_st); (· exact svs))
 | ((first | ((with_reducible apply awO_guard); (· rfl); (· rfl); (· exact sv)) | ((with_reducible apply aw_cond); (· exact sv))); all_goals (intro hg; (try simp only [Bool.not_true, Bool.not_false]); (try simp only [decide_eq_true_eq, decide_eq_false_iff_not, Bool.not_true, Bool.not_false, Bool.not_eq_true', Bool.not_eq_false', Bool.not_not, beq_eq_false_iff_ne, ne_eq, beq_iff_eq, decide_eq_decide] at hg); try (exfalso; omega)))
 | ((with_reducible apply retQ_mk); (· (first | exact .inr rfl | exact .inl rfl)); (· exact sv); (· exact sv); rotate_left; (· rfl)))
        all_goals (first | rfl | exact absurd trivial hg | exact absurd rfl hg)
      · generalize ivE s 0 L = X at *
        refine Fn_of_aw (keep := []) Tryd.func9 rfl rfl (by simp [Tryd.ntmps9]) ?_
        simp only [num_cons, num_nil, Tryd.ntmps9, Tryd.results9]
        repeat' (first
 | ((with_reducible apply awO_ev); (· rfl); (· exact sv))
 | ((with_reducible apply aw_seq); intro _ _)
 | (with_reducible apply aw_region)
 | (with_reducible apply aw_block)
 | ((first | (with_reducible apply awO_nil) | (with_reducible apply aw_exit) | (with_reducible apply aw_skip) | (with_reducible apply aw_ret)); (try simp only [CT, ↓reduceIte, Nat.reduceEqDiff]))
 | ((with_reducible apply awO_y); (· rfl); (· rfl); (· decide); (· exact sv); (· exact sv))
 | ((with_reducible apply awO_n); (· rfl); (· rfl); (· decide); (· exact sv); (· rfl); (· rfl); (· decide))
 | ((with_reducible apply awO_u); (· rfl); (· rfl); (· exact svr); (· rfl); (· decide))
 | ((with_reducible apply aw_cond_true); (· exact sv))
 | ((with_reducible apply aw_cond_false); (· exact sv))
 | ((with_reducible apply awO_un); (· rfl); (· decide); (· exact sv))
 | (refine Kont.go ‹Kont _ _ _ _› _ ?_)
 | ((with_reducible apply awO_c); (· rfl); (· rfl); (· exact sv); (· (first | exact c0 | exact c1 | exact c2 | exact c3 | exact c4)); (· rfl); (· rfl); (· rfl); (· decide))
 | ((with_reducible apply awO_f); (· rfl); (· rfl); (· exact sv); (· exact sv); (· (first | exact c0 | exact c1 | exact c2 | exact c3 | exact c4)); (· rfl); (· rfl); (· decide))
 | ((with_reducible apply awO_m); (· rfl); (· rfl); (· exact sv); (· (first | exact c0 | exact c1 | exact c2 | exact c3 | exact c4)); (· exact svq); (· exact svq); (· exact svq); (· exact svq); (· rfl); (· exact nd); (with_reducible apply awO_st); (· exact svs))
 | ((first | ((with_reducible apply awO_guard); (· rfl); (· rfl); (· exact sv)) | ((with_reducible apply aw_cond); (· exact sv))); all_goals (intro hg; (try simp only [Bool.not_true, Bool.not_false]); (try simp only [decide_eq_true_eq, decide_eq_false_iff_not, Bool.not_true, Bool.not_false, Bool.not_eq_true', Bool.not_eq_false', Bool.not_not, beq_eq_false_iff_ne, ne_eq, beq_iff_eq, decide_eq_decide] at hg); try (exfalso; omega)))
 | ((with_reducible apply retQ_mk); (· (first | exact .inr rfl | exact .inl rfl)); (· exact sv); (· exact sv); rotate_left; (· rfl)))
        all_goals (first | rfl | exact absurd trivial hg | exact absurd rfl hg)
    · have c2 := Fn_nzr (invertE_ab s L (by omega) (by omega) ho h0)
      have c3 := Fn_nzr (rinvertE_ab s L (by omega) (by omega) ho h0)
      rw [show nz (.tp [.v (.slice none 0 0), ai (vldE s L)]) = .tp [edA [], ai (vldE s L)] from rfl] at c2 c3
      have c4 := same_ab [] (by simp)
      generalize vldE s L = v at *
      refine Fn_of_aw (keep := []) Tryd.func9 rfl rfl (by simp [Tryd.ntmps9]) ?_
      simp only [num_cons, num_nil, Tryd.ntmps9, Tryd.results9]
      repeat' (first
 | ((with_reducible apply awO_ev); (· rfl); (· exact sv))
 | ((with_reducible apply aw_seq); intro _ _)
 | (with_reducible apply aw_region)
 | (with_reducible apply aw_block)
 | ((first | (with_reducible apply awO_nil) | (with_reducible apply aw_exit) | (with_reducible apply aw_skip) | (with_reducible apply aw_ret)); (try simp only [CT, ↓reduceIte, Nat.reduceEqDiff]))
 | ((with_reducible apply awO_y); (· rfl); (· rfl); (· decide); (· exact sv); (· exact sv))
 | ((with_reducible apply awO_n); (· rfl); (· rfl); (· decide); (· exact sv); (· rfl); (· rfl); (· decide))
 | ((with_reducible apply awO_u); (· rfl); (· rfl); (· exact svr); (· rfl); (· decide))
 | ((with_reducible apply aw_cond_true); (· exact sv))
 | ((with_reducible apply aw_cond_false); (· exact sv))
 | ((with_reducible apply awO_un); (· rfl); (· decide); (· exact sv))
 | (refine Kont.go ‹Kont _ _ _ _› _ ?_)
 | ((with_reducible apply awO_c); (· rfl); (· rfl); (· exact sv); (· (first | exact c0 | exact c1 | exact c2 | exact c3 | exact c4)); (· rfl); (· rfl); (· rfl); (· decide))
 | ((with_reducible apply awO_f); (· rfl); (· rfl); (· exact sv); (· exact sv); (· (first | exact c0 | exact c1 | exact c2 | exact c3 | exact c4)); (· rfl); (· rfl); (· decide))
 | ((with_reducible apply awO_m); (· rfl); (· rfl); (· exact sv); (· (first | exact c0 | exact c1 | exact c2 | exact c3 | exact c4)); (· exact svq); (· exact svq); (· exact svq); (· exact svq); (· rfl); (· exact nd); (with_reducible apply awO_st); (· exact svs))
 | ((first | ((with_reducible apply awO_guard); (· rfl); (· rfl); (· exact sv)) | ((with_reducible apply aw_cond); (· exact sv))); all_goals (intro hg; (try simp only [Bool.not_true, Bool.not_false]); (try simp only [decide_eq_true_eq, decide_eq_false_iff_not, Bool.not_true, Bool.not_false, Bool.not_eq_true', Bool.not_eq_false', Bool.not_not, beq_eq_false_iff_ne, ne_eq, beq_iff_eq, decide_eq_decide] at hg); try (exfalso; omega)))
 | ((with_reducible apply retQ_mk); (· (first | exact .inr rfl | exact .inl rfl)); (· exact sv); (· exact sv); rotate_left; (· rfl)))
      all_goals (first | rfl | exact absurd trivial hg | exact absurd rfl hg)
theorem editsShifts_ab (s : List UInt8) (L : List Ed) (p q : Int) (hs : s.length ≤ 9000000000000000) (hL : BigE L) (hp : 0 ≤ p ∧ p ≤ 65535) (hq : 0 ≤ q ∧ q ≤ 65535) : Ab Tryd.prog 7 [az s, edA L, .ag [.v (.int .u16 p), .v (.int .u16 q)]] (ab true) := by
  have c0 := awake_ab
  have c1 := few_ab s L hs hL.n hL.x
  cases hf : fewE s L with
  | false =>
    rw [hf] at c1
    refine Fn_of_aw (keep := []) Tryd.func7 rfl rfl (by simp [Tryd.ntmps7]) ?_
    simp only [num_cons, num_nil, Tryd.ntmps7, Tryd.results7]
    repeat' (first
 | ((with_reducible apply awO_ev); (· rfl); (· exact sv))
 | ((with_reducible apply aw_seq); intro _ _)
 | (with_reducible apply aw_region)
 | (with_reducible apply aw_block)
 | ((first | (with_reducible apply awO_nil) | (with_reducible apply aw_exit) | (with_reducible apply aw_skip) | (with_reducible apply aw_ret)); (try simp only [CT, ↓reduceIte, Nat.reduceEqDiff]))
 | ((with_reducible apply awO_y); (· rfl); (· rfl); (· decide); (· exact sv); (· exact sv))
 | ((with_reducible apply awO_n); (· rfl); (· rfl); (· decide); (· exact sv); (· rfl); (· rfl); (· decide))
 | ((with_reducible apply awO_u); (· rfl); (· rfl); (· exact svr); (· rfl); (· decide))
 | ((with_reducible apply aw_cond_true); (· exact sv))
 | ((with_reducible apply aw_cond_false); (· exact sv))
 | ((with_reducible apply awO_un); (· rfl); (· decide); (· exact sv))
 | (refine Kont.go ‹Kont _ _ _ _› _ ?_)
 | ((with_reducible apply awO_c); (· rfl); (· rfl); (· exact sv); (· (first | exact c0 | exact c1)); (· rfl); (· rfl); (· rfl); (· decide))
 | ((with_reducible apply awO_f); (· rfl); (· rfl); (· exact sv); (· exact sv); (· (first | exact c0 | exact c1)); (· rfl); (· rfl); (· decide))
 | ((with_reducible apply awO_m); (· rfl); (· rfl); (· exact sv); (· (first | exact c0 | exact c1)); (· exact svq); (· exact svq); (· exact svq); (· exact svq); (· rfl); (· exact nd); (with_reducible apply awO_st); (· exact svs))
 | ((first | ((with_reducible apply awO_guard); (· rfl); (· rfl); (· exact sv)) | ((with_reducible apply aw_cond); (· exact sv))); all_goals (intro hg; (try simp only [Bool.not_true, Bool.not_false]); (try simp only [decide_eq_true_eq, decide_eq_false_iff_not, Bool.not_true, Bool.not_false, Bool.not_eq_true', Bool.not_eq_false', Bool.not_not, beq_eq_false_iff_ne, ne_eq, beq_iff_eq, decide_eq_decide] at hg); try (exfalso; omega)))
 | ((with_reducible apply retQ_mk); (· (first | exact .inr rfl | exact .inl rfl)); (· exact sv); (· exact sv); rotate_left; (· rfl)))
    all_goals rfl
  | true =>
    rw [hf] at c1
    obtain ⟨f1, f2, f3⟩ := fewE_spec hf
    have ho := hL.ok hf
    have c2 := valid_ab s L (by omega) (by omega) ho
    by_cases h0 : vldE s L = 0
    · obtain ⟨h1, h2, h3⟩ := vld_ord h0
      rw [h0] at c2
      have hok : ∀ k (h : k < L.length), L[k].x.length ≤ 100000 ∧ 0 ≤ L[k].f ∧ L[k].f ≤ L[k].t ∧ L[k].t ≤ 100000 := fun k hk => by
        have g1 := Ord_get h2 (by omega) k hk
        have g2 := f3 k hk
        omega
      have e1 : ∃ i : Int, (if 16384 < p then 16384 else p) = i ∧ 0 ≤ i ∧ i ≤ 16384 := ⟨_, rfl, by split <;> omega, by split <;> omega⟩
      have e2 : ∃ k : Int, (if 16384 < q then 16384 else q) = k ∧ 0 ≤ k ∧ k ≤ 16384 := ⟨_, rfl, by split <;> omega, by split <;> omega⟩
      obtain ⟨i, hi, hi0, hi1⟩ := e1
      obtain ⟨k, hk, hk0, hk1⟩ := e2
      have c3 := shift_ab L i (by omega) (by omega) hok
      have c4 := shift_ab L k (by omega) (by omega) hok
      have c5 := rshift_ab L i (by omega) (by omega) hok
      have hm : i ≤ k → shE L i 0 ≤ shE L k 0 := fun h => shE_mono _ L 0 i k 0 h2 h
      generalize shE L i 0 = x at *
      generalize shE L k 0 = y at *
      by_cases hp1 : 16384 < p
      · by_cases hq1 : 16384 < q
        · rw [if_pos hp1] at hi
          rw [if_pos hq1] at hk
          subst hi
          subst hk
          refine Fn_of_aw (keep := []) Tryd.func7 rfl rfl (by simp [Tryd.ntmps7]) ?_
          simp only [num_cons, num_nil, Tryd.ntmps7, Tryd.results7]
          repeat' (first
 | ((with_reducible apply awO_ev); (· rfl); (· exact sv))
 | ((with_reducible apply aw_seq); intro _ _)
 | (with_reducible apply aw_region)
 | (with_reducible apply aw_block)
 | ((first | (with_reducible apply awO_nil) | (with_reducible apply aw_exit) | (with_reducible apply aw_skip) | (with_reducible apply aw_ret)); (try simp only [CT, ↓reduceIte, Nat.reduceEqDiff]))
 | ((with_reducible apply awO_y); (· rfl); (· rfl); (· decide); (· exact sv); (· exact sv))
 | ((with_reducible apply awO_n); (· rfl); (· rfl); (· decide); (· exact sv); (· rfl); (· rfl); (· decide))
 | ((with_reducible apply awO_u); (· rfl); (· rfl); (· exact svr); (· rfl); (· decide))
 | ((with_reducible apply aw_cond_true); (· exact sv))
 | ((with_reducible apply aw_cond_false); (· exact sv))
 | ((with_reducible apply awO_un); (· rfl); (· decide); (· exact sv))
 | (refine Kont.go ‹Kont _ _ _ _› _ ?_)
 | ((with_reducible apply awO_c); (· rfl); (· rfl); (· exact sv); (· (first | exact c0 | exact c1 | exact c2 | exact c3 | exact c4 | exact c5)); (· rfl); (· rfl); (· rfl); (· decide))
 | ((with_reducible apply awO_f); (· rfl); (· rfl); (· exact sv); (· exact sv); (· (first | exact c0 | exact c1 | exact c2 | exact c3 | exact c4 | exact c5)); (· rfl); (· rfl); (· decide))
 | ((with_reducible apply awO_m); (· rfl); (· rfl); (· exact sv); (· (first | exact c0 | exact c1 | exact c2 | exact c3 | exact c4 | exact c5)); (· exact svq); (· exact svq); (· exact svq); (· exact svq); (· rfl); (· exact nd); (with_reducible apply awO_st); (· exact svs))
 | ((with_reducible apply aw_drawZ); (· decide +kernel); (· decide +kernel))
 | ((with_reducible apply awZ_done); (try simp only [CT, ↓reduceIte, Nat.reduceEqDiff]))
 | ((with_reducible apply awZ_q); (· rfl); (· exact np); (· rfl); (· exact sv))
 | ((with_reducible apply awZ_qy); (· rfl); (· exact np); (· rfl); (· rfl); (· exact nd); (· exact sv); (· exact sv))
 | ((with_reducible apply awZ_qn); (· rfl); (· exact np); (· rfl); (· rfl); (· exact nd); (· exact sv); (· rfl); (· rfl); (· exact nd); simp only [put_some])
 | ((with_reducible apply awZ_qu); (· rfl); (· exact np); (· rfl); (· rfl); (· exact svr); (· rfl); (· exact nd); simp only [put_some])
 | ((with_reducible apply awZ_tn); (· decide +kernel); (· exact np); (· rfl); (· rfl); (· exact nd); (· exact sv); (· rfl); (· rfl); (· exact nd); simp only [put_some])
 | ((with_reducible apply awZ_tu); (· decide +kernel); (· exact np); (· rfl); (· rfl); (· exact svr); (· rfl); (· exact nd); simp only [put_some])
 | ((with_reducible apply awZ_ev); (· decide +kernel); (· rfl); (· exact sv))
 | ((with_reducible apply awZ_c); (· decide +kernel); (· rfl); (· rfl); (· exact sv); (· (first | exact c0 | exact c1 | exact c2 | exact c3 | exact c4 | exact c5)); (· rfl); (· rfl); (· rfl); (· exact nd); simp only [put_some])
 | ((with_reducible apply awZ_f); (· decide +kernel); (· rfl); (· rfl); (· exact sv); (· exact sv); (· (first | exact c0 | exact c1 | exact c2 | exact c3 | exact c4 | exact c5)); (· rfl); (· rfl); (· exact nd); simp only [put_some])
 | ((with_reducible apply awZ_cy); (· decide +kernel); (· rfl); (· rfl); (· exact nd); (· exact sv); (· rfl); (· exact sv); (· (first | exact c0 | exact c1 | exact c2 | exact c3 | exact c4 | exact c5)); (· rfl); (· rfl); (· rfl); (· exact nd); simp only [put_some])
 | ((with_reducible apply awZ_fy); (· decide +kernel); (· rfl); (· rfl); (· exact nd); (· exact sv); (· rfl); (· exact sv); (· exact sv); (· (first | exact c0 | exact c1 | exact c2 | exact c3 | exact c4 | exact c5)); (· rfl); (· rfl); (· exact nd); simp only [put_some])
 | ((with_reducible apply awZ_guard); (· decide +kernel); (· rfl); (· rfl); (· exact svl); all_goals (intro hg; (try simp only [Bool.not_true, Bool.not_false]); (try simp only [decide_eq_true_eq, decide_eq_false_iff_not, Bool.not_true, Bool.not_false, Bool.not_eq_true', Bool.not_eq_false', Bool.not_not, beq_eq_false_iff_ne, ne_eq, beq_iff_eq, decide_eq_decide] at hg); try (exfalso; omega)))
 | ((first | ((with_reducible apply awO_guard); (· rfl); (· rfl); (· exact sv)) | ((with_reducible apply aw_cond); (· exact sv))); all_goals (intro hg; (try simp only [Bool.not_true, Bool.not_false]); (try simp only [decide_eq_true_eq, decide_eq_false_iff_not, Bool.not_true, Bool.not_false, Bool.not_eq_true', Bool.not_eq_false', Bool.not_not, beq_eq_false_iff_ne, ne_eq, beq_iff_eq, decide_eq_decide] at hg); try (exfalso; omega)))
 | ((with_reducible apply retQ_mk); (· (first | exact .inr rfl | exact .inl rfl)); (· exact sv); (· exact sv); rotate_left; (· rfl)))
          all_goals (first | rfl | exact absurd trivial hg | exact absurd rfl hg)
        · rw [if_pos hp1] at hi
          rw [if_neg hq1] at hk
          subst hi
          subst hk
          refine Fn_of_aw (keep := []) Tryd.func7 rfl rfl (by simp [Tryd.ntmps7]) ?_
          simp only [num_cons, num_nil, Tryd.ntmps7, Tryd.results7]
          repeat' (first
 | ((with_reducible apply awO_ev); (· rfl); (· exact sv))
 | ((with_reducible apply aw_seq); intro _ _)
 | (with_reducible apply aw_region)
 | (with_reducible apply aw_block)
 | ((first | (with_reducible apply awO_nil) | (with_reducible apply aw_exit) | (with_reducible apply aw_skip) | (with_reducible apply aw_ret)); (try simp only [CT, ↓reduceIte, Nat.reduceEqDiff]))
 | ((with_reducible apply awO_y); (· rfl); (· rfl); (· decide); (· exact sv); (· exact sv))
 | ((with_reducible apply awO_n); (· rfl); (· rfl); (· decide); (· exact sv); (· rfl); (· rfl); (· decide))
 | ((with_reducible apply awO_u); (· rfl); (· rfl); (· exact svr); (· rfl); (· decide))
 | ((with_reducible apply aw_cond_true); (· exact sv))
 | ((with_reducible apply aw_cond_false); (· exact sv))
 | ((with_reducible apply awO_un); (· rfl); (· decide); (· exact sv))
 | (refine Kont.go ‹Kont _ _ _ _› _ ?_)
 | ((with_reducible apply awO_c); (· rfl); (· rfl); (· exact sv); (· (first | exact c0 | exact c1 | exact c2 | exact c3 | exact c4 | exact c5)); (· rfl); (· rfl); (· rfl); (· decide))
 | ((with_reducible apply awO_f); (· rfl); (· rfl); (· exact sv); (· exact sv); (· (first | exact c0 | exact c1 | exact c2 | exact c3 | exact c4 | exact c5)); (· rfl); (· rfl); (· decide))
 | ((with_reducible apply awO_m); (· rfl); (· rfl); (· exact sv); (· (first | exact c0 | exact c1 | exact c2 | exact c3 | exact c4 | exact c5)); (· exact svq); (· exact svq); (· exact svq); (· exact svq); (· rfl); (· exact nd); (with_reducible apply awO_st); (· exact svs))
 | ((with_reducible apply aw_drawZ); (· decide +kernel); (· decide +kernel))
 | ((with_reducible apply awZ_done); (try simp only [CT, ↓reduceIte, Nat.reduceEqDiff]))
 | ((with_reducible apply awZ_q); (· rfl); (· exact np); (· rfl); (· exact sv))
 | ((with_reducible apply awZ_qy); (· rfl); (· exact np); (· rfl); (· rfl); (· exact nd); (· exact sv); (· exact sv))
 | ((with_reducible apply awZ_qn); (· rfl); (· exact np); (· rfl); (· rfl); (· exact nd); (· exact sv); (· rfl); (· rfl); (· exact nd); simp only [put_some])
 | ((with_reducible apply awZ_qu); (· rfl); (· exact np); (· rfl); (· rfl); (· exact svr); (· rfl); (· exact nd); simp only [put_some])
 | ((with_reducible apply awZ_tn); (· decide +kernel); (· exact np); (· rfl); (· rfl); (· exact nd); (· exact sv); (· rfl); (· rfl); (· exact nd); simp only [put_some])
 | ((with_reducible apply awZ_tu); (· decide +kernel); (· exact np); (· rfl); (· rfl); (· exact svr); (· rfl); (· exact nd); simp only [put_some])
 | ((with_reducible apply awZ_ev); (· decide +kernel); (· rfl); (· exact sv))
 | ((with_reducible apply awZ_c); (· decide +kernel); (· rfl); (· rfl); (· exact sv); (· (first | exact c0 | exact c1 | exact c2 | exact c3 | exact c4 | exact c5)); (· rfl); (· rfl); (· rfl); (· exact nd); simp only [put_some])
 | ((with_reducible apply awZ_f); (· decide +kernel); (· rfl); (· rfl); (· exact sv); (· exact sv); (· (first | exact c0 | exact c1 | exact c2 | exact c3 | exact c4 | exact c5)); (· rfl); (· rfl); (· exact nd); simp only [put_some])
 | ((with_reducible apply awZ_cy); (· decide +kernel); (· rfl); (· rfl); (· exact nd); (· exact sv); (· rfl); (· exact sv); (· (first | exact c0 | exact c1 | exact c2 | exact c3 | exact c4 | exact c5)); (· rfl); (· rfl); (· rfl); (· exact nd); simp only [put_some])
 | ((with_reducible apply awZ_fy); (· decide +kernel); (· rfl); (· rfl); (· exact nd); (· exact sv); (· rfl); (· exact sv); (· exact sv); (· (first | exact c0 | exact c1 | exact c2 | exact c3 | exact c4 | exact c5)); (· rfl); (· rfl); (· exact nd); simp only [put_some])
 | ((with_reducible apply awZ_guard); (· decide +kernel); (· rfl); (· rfl); (· exact svl); all_goals (intro hg; (try simp only [Bool.not_true, Bool.not_false]); (try simp only [decide_eq_true_eq, decide_eq_false_iff_not, Bool.not_true, Bool.not_false, Bool.not_eq_true', Bool.not_eq_false', Bool.not_not, beq_eq_false_iff_ne, ne_eq, beq_iff_eq, decide_eq_decide] at hg); try (exfalso; omega)))
 | ((first | ((with_reducible apply awO_guard); (· rfl); (· rfl); (· exact sv)) | ((with_reducible apply aw_cond); (· exact sv))); all_goals (intro hg; (try simp only [Bool.not_true, Bool.not_false]); (try simp only [decide_eq_true_eq, decide_eq_false_iff_not, Bool.not_true, Bool.not_false, Bool.not_eq_true', Bool.not_eq_false', Bool.not_not, beq_eq_false_iff_ne, ne_eq, beq_iff_eq, decide_eq_decide] at hg); try (exfalso; omega)))
 | ((with_reducible apply retQ_mk); (· (first | exact .inr rfl | exact .inl rfl)); (· exact sv); (· exact sv); rotate_left; (· rfl)))
          all_goals (first | rfl | exact absurd trivial hg | exact absurd rfl hg)
      · by_cases hq1 : 16384 < q
        · rw [if_neg hp1] at hi
          rw [if_pos hq1] at hk
          subst hi
          subst hk
          refine Fn_of_aw (keep := []) Tryd.func7 rfl rfl (by simp [Tryd.ntmps7]) ?_
          simp only [num_cons, num_nil, Tryd.ntmps7, Tryd.results7]
          repeat' (first
 | ((with_reducible apply awO_ev); (· rfl); (· exact sv))
 | ((with_reducible apply aw_seq); intro _ _)
 | (with_reducible apply aw_region)
 | (with_reducible apply aw_block)
 | ((first | (with_reducible apply awO_nil) | (with_reducible apply aw_exit) | (with_reducible apply aw_skip) | (with_reducible apply aw_ret)); (try simp only [CT, ↓reduceIte, Nat.reduceEqDiff]))
 | ((with_reducible apply awO_y); (· rfl); (· rfl); (· decide); (· exact sv); (· exact sv))
 | ((with_reducible apply awO_n); (· rfl); (· rfl); (· decide); (· exact sv); (· rfl); (· rfl); (· decide))
 | ((with_reducible apply awO_u); (· rfl); (· rfl); (· exact svr); (· rfl); (· decide))
 | ((with_reducible apply aw_cond_true); (· exact sv))
 | ((with_reducible apply aw_cond_false); (· exact sv))
 | ((with_reducible apply awO_un); (· rfl); (· decide); (· exact sv))
 | (refine Kont.go ‹Kont _ _ _ _› _ ?_)
 | ((with_reducible apply awO_c); (· rfl); (· rfl); (· exact sv); (· (first | exact c0 | exact c1 | exact c2 | exact c3 | exact c4 | exact c5)); (· rfl); (· rfl); (· rfl); (· decide))
 | ((with_reducible apply awO_f); (· rfl); (· rfl); (· exact sv); (· exact sv); (· (first | exact c0 | exact c1 | exact c2 | exact c3 | exact c4 | exact c5)); (· rfl); (· rfl); (· decide))
 | ((with_reducible apply awO_m); (· rfl); (· rfl); (· exact sv); (· (first | exact c0 | exact c1 | exact c2 | exact c3 | exact c4 | exact c5)); (· exact svq); (· exact svq); (· exact svq); (· exact svq); (· rfl); (· exact nd); (with_reducible apply awO_st); (· exact svs))
 | ((with_reducible apply aw_drawZ); (· decide +kernel); (· decide +kernel))
 | ((with_reducible apply awZ_done); (try simp only [CT, ↓reduceIte, Nat.reduceEqDiff]))
 | ((with_reducible apply awZ_q); (· rfl); (· exact np); (· rfl); (· exact sv))
 | ((with_reducible apply awZ_qy); (· rfl); (· exact np); (· rfl); (· rfl); (· exact nd); (· exact sv); (· exact sv))
 | ((with_reducible apply awZ_qn); (· rfl); (· exact np); (· rfl); (· rfl); (· exact nd); (· exact sv); (· rfl); (· rfl); (· exact nd); simp only [put_some])
 | ((with_reducible apply awZ_qu); (· rfl); (· exact np); (· rfl); (· rfl); (· exact svr); (· rfl); (· exact nd); simp only [put_some])
 | ((with_reducible apply awZ_tn); (· decide +kernel); (· exact np); (· rfl); (· rfl); (· exact nd); (· exact sv); (· rfl); (· rfl); (· exact nd); simp only [put_some])
 | ((with_reducible apply awZ_tu); (· decide +kernel); (· exact np); (· rfl); (· rfl); (· exact svr); (· rfl); (· exact nd); simp only [put_some])
 | ((with_reducible apply awZ_ev); (· decide +kernel); (· rfl); (· exact sv))
 | ((with_reducible apply awZ_c); (· decide +kernel); (· rfl); (· rfl); (· exact sv); (· (first | exact c0 | exact c1 | exact c2 | exact c3 | exact c4 | exact c5)); (· rfl); (· rfl); (· rfl); (· exact nd); simp only [put_some])
 | ((with_reducible apply awZ_f); (· decide +kernel); (· rfl); (· rfl); (· exact sv); (· exact sv); (· (first | exact c0 | exact c1 | exact c2 | exact c3 | exact c4 | exact c5)); (· rfl); (· rfl); (· exact nd); simp only [put_some])
 | ((with_reducible apply awZ_cy); (· decide +kernel); (· rfl); (· rfl); (· exact nd); (· exact sv); (· rfl); (· exact sv); (· (first | exact c0 | exact c1 | exact c2 | exact c3 | exact c4 | exact c5)); (· rfl); (· rfl); (· rfl); (· exact nd); simp only [put_some])
 | ((with_reducible apply awZ_fy); (· decide +kernel); (· rfl); (· rfl); (· exact nd); (· exact sv); (· rfl); (· exact sv); (· exact sv); (· (first | exact c0 | exact c1 | exact c2 | exact c3 | exact c4 | exact c5)); (· rfl); (· rfl); (· exact nd); simp only [put_some])
 | ((with_reducible apply awZ_guard); (· decide +kernel); (· rfl); (· rfl); (· exact svl); all_goals (intro hg; (try simp only [Bool.not_true, Bool.not_false]); (try simp only [decide_eq_true_eq, decide_eq_false_iff_not, Bool.not_true, Bool.not_false, Bool.not_eq_true', Bool.not_eq_false', Bool.not_not, beq_eq_false_iff_ne, ne_eq, beq_iff_eq, decide_eq_decide] at hg); try (exfalso; omega)))
 | ((first | ((with_reducible apply awO_guard); (· rfl); (· rfl); (· exact sv)) | ((with_reducible apply aw_cond); (· exact sv))); all_goals (intro hg; (try simp only [Bool.not_true, Bool.not_false]); (try simp only [decide_eq_true_eq, decide_eq_false_iff_not, Bool.not_true, Bool.not_false, Bool.not_eq_true', Bool.not_eq_false', Bool.not_not, beq_eq_false_iff_ne, ne_eq, beq_iff_eq, decide_eq_decide] at hg); try (exfalso; omega)))
 | ((with_reducible apply retQ_mk); (· (first | exact .inr rfl | exact .inl rfl)); (· exact sv); (· exact sv); rotate_left; (· rfl)))
          all_goals (first | rfl | exact absurd trivial hg | exact absurd rfl hg)
        · rw [if_neg hp1] at hi
          rw [if_neg hq1] at hk
          subst hi
          subst hk
          refine Fn_of_aw (keep := []) Tryd.func7 rfl rfl (by simp [Tryd.ntmps7]) ?_
          simp only [num_cons, num_nil, Tryd.ntmps7, Tryd.results7]
          repeat' (first
 | ((with_reducible apply awO_ev); (· rfl); (· exact sv))
 | ((with_reducible apply aw_seq); intro _ _)
 | (with_reducible apply aw_region)
 | (with_reducible apply aw_block)
 | ((first | (with_reducible apply awO_nil) | (with_reducible apply aw_exit) | (with_reducible apply aw_skip) | (with_reducible apply aw_ret)); (try simp only [CT, ↓reduceIte, Nat.reduceEqDiff]))
 | ((with_reducible apply awO_y); (· rfl); (· rfl); (· decide); (· exact sv); (· exact sv))
 | ((with_reducible apply awO_n); (· rfl); (· rfl); (· decide); (· exact sv); (· rfl); (· rfl); (· decide))
 | ((with_reducible apply awO_u); (· rfl); (· rfl); (· exact svr); (· rfl); (· decide))
 | ((with_reducible apply aw_cond_true); (· exact sv))
 | ((with_reducible apply aw_cond_false); (· exact sv))
 | ((with_reducible apply awO_un); (· rfl); (· decide); (· exact sv))
 | (refine Kont.go ‹Kont _ _ _ _› _ ?_)
 | ((with_reducible apply awO_c); (· rfl); (· rfl); (· exact sv); (· (first | exact c0 | exact c1 | exact c2 | exact c3 | exact c4 | exact c5)); (· rfl); (· rfl); (· rfl); (· decide))
 | ((with_reducible apply awO_f); (· rfl); (· rfl); (· exact sv); (· exact sv); (· (first | exact c0 | exact c1 | exact c2 | exact c3 | exact c4 | exact c5)); (· rfl); (· rfl); (· decide))
 | ((with_reducible apply awO_m); (· rfl); (· rfl); (· exact sv); (· (first | exact c0 | exact c1 | exact c2 | exact c3 | exact c4 | exact c5)); (· exact svq); (· exact svq); (· exact svq); (· exact svq); (· rfl); (· exact nd); (with_reducible apply awO_st); (· exact svs))
 | ((with_reducible apply aw_drawZ); (· decide +kernel); (· decide +kernel))
 | ((with_reducible apply awZ_done); (try simp only [CT, ↓reduceIte, Nat.reduceEqDiff]))
 | ((with_reducible apply awZ_q); (· rfl); (· exact np); (· rfl); (· exact sv))
 | ((with_reducible apply awZ_qy); (· rfl); (· exact np); (· rfl); (· rfl); (· exact nd); (· exact sv); (· exact sv))
 | ((with_reducible apply awZ_qn); (· rfl); (· exact np); (· rfl); (· rfl); (· exact nd); (· exact sv); (· rfl); (· rfl); (· exact nd); simp only [put_some])
 | ((with_reducible apply awZ_qu); (· rfl); (· exact np); (· rfl); (· rfl); (· exact svr); (· rfl); (· exact nd); simp only [put_some])
 | ((with_reducible apply awZ_tn); (· decide +kernel); (· exact np); (· rfl); (· rfl); (· exact nd); (· exact sv); (· rfl); (· rfl); (· exact nd); simp only [put_some])
 | ((with_reducible apply awZ_tu); (· decide +kernel); (· exact np); (· rfl); (· rfl); (· exact svr); (· rfl); (· exact nd); simp only [put_some])
 | ((with_reducible apply awZ_ev); (· decide +kernel); (· rfl); (· exact sv))
 | ((with_reducible apply awZ_c); (· decide +kernel); (· rfl); (· rfl); (· exact sv); (· (first | exact c0 | exact c1 | exact c2 | exact c3 | exact c4 | exact c5)); (· rfl); (· rfl); (· rfl); (· exact nd); simp only [put_some])
 | ((with_reducible apply awZ_f); (· decide +kernel); (· rfl); (· rfl); (· exact sv); (· exact sv); (· (first | exact c0 | exact c1 | exact c2 | exact c3 | exact c4 | exact c5)); (· rfl); (· rfl); (· exact nd); simp only [put_some])
 | ((with_reducible apply awZ_cy); (· decide +kernel); (· rfl); (· rfl); (· exact nd); (· exact sv); (· rfl); (· exact sv); (· (first | exact c0 | exact c1 | exact c2 | exact c3 | exact c4 | exact c5)); (· rfl); (· rfl); (· rfl); (· exact nd); simp only [put_some])
 | ((with_reducible apply awZ_fy); (· decide +kernel); (· rfl); (· rfl); (· exact nd); (· exact sv); (· rfl); (· exact sv); (· exact sv); (· (first | exact c0 | exact c1 | exact c2 | exact c3 | exact c4 | exact c5)); (· rfl); (· rfl); (· exact nd); simp only [put_some])
 | ((with_reducible apply awZ_guard); (· decide +kernel); (· rfl); (· rfl); (· exact svl); all_goals (intro hg; (try simp only [Bool.not_true, Bool.not_false]); (try simp only [decide_eq_true_eq, decide_eq_false_iff_not, Bool.not_true, Bool.not_false, Bool.not_eq_true', Bool.not_eq_false', Bool.not_not, beq_eq_false_iff_ne, ne_eq, beq_iff_eq, decide_eq_decide] at hg); try (exfalso; omega)))
 | ((first | ((with_reducible apply awO_guard); (· rfl); (· rfl); (· exact sv)) | ((with_reducible apply aw_cond); (· exact sv))); all_goals (intro hg; (try simp only [Bool.not_true, Bool.not_false]); (try simp only [decide_eq_true_eq, decide_eq_false_iff_not, Bool.not_true, Bool.not_false, Bool.not_eq_true', Bool.not_eq_false', Bool.not_not, beq_eq_false_iff_ne, ne_eq, beq_iff_eq, decide_eq_decide] at hg); try (exfalso; omega)))
 | ((with_reducible apply retQ_mk); (· (first | exact .inr rfl | exact .inl rfl)); (· exact sv); (· exact sv); rotate_left; (· rfl)))
          all_goals (first | rfl | exact absurd trivial hg | exact absurd rfl hg)
    · generalize vldE s L = v at *
      refine Fn_of_aw (keep := []) Tryd.func7 rfl rfl (by simp [Tryd.ntmps7]) ?_
      simp only [num_cons, num_nil, Tryd.ntmps7, Tryd.results7]
      repeat' (first
 | ((with_reducible apply awO_ev); (· rfl); (· exact sv))
 | ((with_reducible apply aw_seq); intro _ _)
 | (with_reducible apply aw_region)
 | (with_reducible apply aw_block)
 | ((first | (with_reducible apply awO_nil) | (with_reducible apply aw_exit) | (with_reducible apply aw_skip) | (with_reducible apply aw_ret)); (try simp only [CT, ↓reduceIte, Nat.reduceEqDiff]))
 | ((with_reducible apply awO_y); (· rfl); (· rfl); (· decide); (· exact sv); (· exact sv))
 | ((with_reducible apply awO_n); (· rfl); (· rfl); (· decide); (· exact sv); (· rfl); (· rfl); (· decide))
 | ((with_reducible apply awO_u); (· rfl); (· rfl); (· exact svr); (· rfl); (· decide))
 | ((with_reducible apply aw_cond_true); (· exact sv))
 | ((with_reducible apply aw_cond_false); (· exact sv))
 | ((with_reducible apply awO_un); (· rfl); (· decide); (· exact sv))
 | (refine Kont.go ‹Kont _ _ _ _› _ ?_)
 | ((with_reducible apply awO_c); (· rfl); (· rfl); (· exact sv); (· (first | exact c0 | exact c1 | exact c2)); (· rfl); (· rfl); (· rfl); (· decide))
 | ((with_reducible apply awO_f); (· rfl); (· rfl); (· exact sv); (· exact sv); (· (first | exact c0 | exact c1 | exact c2)); (· rfl); (· rfl); (· decide))
 | ((with_reducible apply awO_m); (· rfl); (· rfl); (· exact sv); (· (first | exact c0 | exact c1 | exact c2)); (· exact svq); (· exact svq); (· exact svq); (· exact svq); (· rfl); (· exact nd); (with_reducible apply awO_st); (· exact svs))
 | ((first | ((with_reducible apply awO_guard); (· rfl); (· rfl); (· exact sv)) | ((with_reducible apply aw_cond); (· exact sv))); all_goals (intro hg; (try simp only [Bool.not_true, Bool.not_false]); (try simp only [decide_eq_true_eq, decide_eq_false_iff_not, Bool.not_true, Bool.not_false, Bool.not_eq_true', Bool.not_eq_false', Bool.not_not, beq_eq_false_iff_ne, ne_eq, beq_iff_eq, decide_eq_decide] at hg); try (exfalso; omega)))
 | ((with_reducible apply retQ_mk); (· (first | exact .inr rfl | exact .inl rfl)); (· exact sv); (· exact sv); rotate_left; (· rfl)))
      all_goals (first | rfl | exact absurd trivial hg | exact absurd rfl hg)
theorem dfE_edOk (a b : List UInt8) (ha : a.length ≤ 17000) (hb : b.length ≤ 17000) : edOk (dfE a b) := by
  have h2 := csf_le a b
  intro k hk
  unfold dfE at hk ⊢
  split at hk
  · simp at hk
  · next hne =>
    simp only [if_neg hne]
    have : k = 0 := by simpa using hk
    subst this
    simp only [List.getElem_cons_zero]
    rw [prt_len (by omega) (by omega)]
    omega
theorem editsDiffs_ab (a b : List UInt8) (ha : a.length ≤ 9000000000000000) (hb : b.length ≤ 9000000000000000) : Ab Tryd.prog 8 [az a, az b] (ab true) := by
  have c0 := awake_ab
  by_cases h1 : 17000 < a.length
  · skip
    refine Fn_of_aw (keep := []) Tryd.func8 rfl rfl (by simp [Tryd.ntmps8]) ?_
    simp only [num_cons, num_nil, Tryd.ntmps8, Tryd.results8]
    repeat' (first
 | ((with_reducible apply awO_ev); (· rfl); (· exact sv))
 | ((with_reducible apply aw_seq); intro _ _)
 | (with_reducible apply aw_region)
 | (with_reducible apply aw_block)
 | ((first | (with_reducible apply awO_nil) | (with_reducible apply aw_exit) | (with_reducible apply aw_skip) | (with_reducible apply aw_ret)); (try simp only [CT, ↓reduceIte, Nat.reduceEqDiff]))
 | ((with_reducible apply awO_y); (· rfl); (· rfl); (· decide); (· exact sv); (· exact sv))
 | ((with_reducible apply awO_n); (· rfl); (· rfl); (· decide); (· exact sv); (· rfl); (· rfl); (· decide))
 | ((with_reducible apply awO_u); (· rfl); (· rfl); (· exact svr); (· rfl); (· decide))
 | ((with_reducible apply aw_cond_true); (· exact sv))
 | ((with_reducible apply aw_cond_false); (· exact sv))
 | ((with_reducible apply awO_un); (· rfl); (· decide); (· exact sv))
 | (refine Kont.go ‹Kont _ _ _ _› _ ?_)
 | ((with_reducible apply awO_c); (· rfl); (· rfl); (· exact sv); (· (first | exact c0)); (· rfl); (· rfl); (· rfl); (· decide))
 | ((with_reducible apply awO_f); (· rfl); (· rfl); (· exact sv); (· exact sv); (· (first | exact c0)); (· rfl); (· rfl); (· decide))
 | ((with_reducible apply awO_m); (· rfl); (· rfl); (· exact sv); (· (first | exact c0)); (· exact svq); (· exact svq); (· exact svq); (· exact svq); (· rfl); (· exact nd); (with_reducible apply awO_st); (· exact svs))
 | ((first | ((with_reducible apply awO_guard); (· rfl); (· rfl); (· exact sv)) | ((with_reducible apply aw_cond); (· exact sv))); all_goals (intro hg; (try simp only [Bool.not_true, Bool.not_false]); (try simp only [decide_eq_true_eq, decide_eq_false_iff_not, Bool.not_true, Bool.not_false, Bool.not_eq_true', Bool.not_eq_false', Bool.not_not, beq_eq_false_iff_ne, ne_eq, beq_iff_eq, decide_eq_decide] at hg); try (exfalso; omega)))
 | ((with_reducible apply retQ_mk); (· (first | exact .inr rfl | exact .inl rfl)); (· exact sv); (· exact sv); rotate_left; (· rfl)))
    all_goals rfl
  by_cases h2 : 17000 < b.length
  · skip
    refine Fn_of_aw (keep := []) Tryd.func8 rfl rfl (by simp [Tryd.ntmps8]) ?_
    simp only [num_cons, num_nil, Tryd.ntmps8, Tryd.results8]
    repeat' (first
 | ((with_reducible apply awO_ev); (· rfl); (· exact sv))
 | ((with_reducible apply aw_seq); intro _ _)
 | (with_reducible apply aw_region)
 | (with_reducible apply aw_block)
 | ((first | (with_reducible apply awO_nil) | (with_reducible apply aw_exit) | (with_reducible apply aw_skip) | (with_reducible apply aw_ret)); (try simp only [CT, ↓reduceIte, Nat.reduceEqDiff]))
 | ((with_reducible apply awO_y); (· rfl); (· rfl); (· decide); (· exact sv); (· exact sv))
 | ((with_reducible apply awO_n); (· rfl); (· rfl); (· decide); (· exact sv); (· rfl); (· rfl); (· decide))
 | ((with_reducible apply awO_u); (· rfl); (· rfl); (· exact svr); (· rfl); (· decide))
 | ((with_reducible apply aw_cond_true); (· exact sv))
 | ((with_reducible apply aw_cond_false); (· exact sv))
 | ((with_reducible apply awO_un); (· rfl); (· decide); (· exact sv))
 | (refine Kont.go ‹Kont _ _ _ _› _ ?_)
 | ((with_reducible apply awO_c); (· rfl); (· rfl); (· exact sv); (· (first | exact c0)); (· rfl); (· rfl); (· rfl); (· decide))
 | ((with_reducible apply awO_f); (· rfl); (· rfl); (· exact sv); (· exact sv); (· (first | exact c0)); (· rfl); (· rfl); (· decide))
 | ((with_reducible apply awO_m); (· rfl); (· rfl); (· exact sv); (· (first | exact c0)); (· exact svq); (· exact svq); (· exact svq); (· exact svq); (· rfl); (· exact nd); (with_reducible apply awO_st); (· exact svs))
 | ((first | ((with_reducible apply awO_guard); (· rfl); (· rfl); (· exact sv)) | ((with_reducible apply aw_cond); (· exact sv))); all_goals (intro hg; (try simp only [Bool.not_true, Bool.not_false]); (try simp only [decide_eq_true_eq, decide_eq_false_iff_not, Bool.not_true, Bool.not_false, Bool.not_eq_true', Bool.not_eq_false', Bool.not_not, beq_eq_false_iff_ne, ne_eq, beq_iff_eq, decide_eq_decide] at hg); try (exfalso; omega)))
 | ((with_reducible apply retQ_mk); (· (first | exact .inr rfl | exact .inl rfl)); (· exact sv); (· exact sv); rotate_left; (· rfl)))
    all_goals rfl
  have c5 := apply_ab a (dfE a b) (by omega) (by unfold dfE; split <;> simp) (dfE_edOk a b (by omega) (by omega))
  have hv : b.length ≤ 16384 → vldE a (dfE a b) = 0 ∧ apR a (dfE a b) = b := fun h => by
    have := dfE_ok a b h
    exact ⟨this, by rw [apR, if_pos this, dfE_ap]⟩
  have c4 := same_ab (dfE a b) (by unfold dfE; split <;> simp)
  have key : ∀ (e : AV) (c2 : Ab Tryd.prog 22 [az a, az b] (edA (dfE a b))) (c3 : Ab Tryd.prog 24 [az a, az b] (edA (dfE a b))), Ab Tryd.prog 8 [az a, az b] (ab true) := by
    intro _ c2 c3
    by_cases h3 : b.length ≤ 16384
    · obtain ⟨v1, v2⟩ := hv h3
      rw [v1, v2] at c5
      generalize dfE a b = X at *
      refine Fn_of_aw (keep := []) Tryd.func8 rfl rfl (by simp [Tryd.ntmps8]) ?_
      simp only [num_cons, num_nil, Tryd.ntmps8, Tryd.results8]
      repeat' (first
 | ((with_reducible apply awO_ev); (· rfl); (· exact sv))
 | ((with_reducible apply aw_seq); intro _ _)
 | (with_reducible apply aw_region)
 | (with_reducible apply aw_block)
 | ((first | (with_reducible apply awO_nil) | (with_reducible apply aw_exit) | (with_reducible apply aw_skip) | (with_reducible apply aw_ret)); (try simp only [CT, ↓reduceIte, Nat.reduceEqDiff]))
 | ((with_reducible apply awO_y); (· rfl); (· rfl); (· decide); (· exact sv); (· exact sv))
 | ((with_reducible apply awO_n); (· rfl); (· rfl); (· decide); (· exact sv); (· rfl); (· rfl); (· decide))
 | ((with_reducible apply awO_u); (· rfl); (· rfl); (· exact svr); (· rfl); (· decide))
 | ((with_reducible apply aw_cond_true); (· exact sv))
 | ((with_reducible apply aw_cond_false); (· exact sv))
 | ((with_reducible apply awO_un); (· rfl); (· decide); (· exact sv))
 | (refine Kont.go ‹Kont _ _ _ _› _ ?_)
 | ((with_reducible apply awO_c); (· rfl); (· rfl); (· exact sv); (· (first | exact c0 | exact c2 | exact c3 | exact c4 | exact c5)); (· rfl); (· rfl); (· rfl); (· decide))
 | ((with_reducible apply awO_f); (· rfl); (· rfl); (· exact sv); (· exact sv); (· (first | exact c0 | exact c2 | exact c3 | exact c4 | exact c5)); (· rfl); (· rfl); (· decide))
 | ((with_reducible apply awO_m); (· rfl); (· rfl); (· exact sv); (· (first | exact c0 | exact c2 | exact c3 | exact c4 | exact c5)); (· exact svq); (· exact svq); (· exact svq); (· exact svq); (· rfl); (· exact nd); (with_reducible apply awO_st); (· exact svs))
 | ((first | ((with_reducible apply awO_guard); (· rfl); (· rfl); (· exact sv)) | ((with_reducible apply aw_cond); (· exact sv))); all_goals (intro hg; (try simp only [Bool.not_true, Bool.not_false]); (try simp only [decide_eq_true_eq, decide_eq_false_iff_not, Bool.not_true, Bool.not_false, Bool.not_eq_true', Bool.not_eq_false', Bool.not_not, beq_eq_false_iff_ne, ne_eq, beq_iff_eq, decide_eq_decide] at hg); try (exfalso; omega)))
 | ((with_reducible apply retQ_mk); (· (first | exact .inr rfl | exact .inl rfl)); (· exact sv); (· exact sv); rotate_left; (· rfl)))
      all_goals (first | rfl | exact absurd trivial hg | exact absurd rfl hg)
    · generalize vldE a (dfE a b) = v at *
      generalize apR a (dfE a b) = t at *
      generalize dfE a b = X at *
      refine Fn_of_aw (keep := []) Tryd.func8 rfl rfl (by simp [Tryd.ntmps8]) ?_
      simp only [num_cons, num_nil, Tryd.ntmps8, Tryd.results8]
      repeat' (first
 | ((with_reducible apply awO_ev); (· rfl); (· exact sv))
 | ((with_reducible apply aw_seq); intro _ _)
 | (with_reducible apply aw_region)
 | (with_reducible apply aw_block)
 | ((first | (with_reducible apply awO_nil) | (with_reducible apply aw_exit) | (with_reducible apply aw_skip) | (with_reducible apply aw_ret)); (try simp only [CT, ↓reduceIte, Nat.reduceEqDiff]))
 | ((with_reducible apply awO_y); (· rfl); (· rfl); (· decide); (· exact sv); (· exact sv))
 | ((with_reducible apply awO_n); (· rfl); (· rfl); (· decide); (· exact sv); (· rfl); (· rfl); (· decide))
 | ((with_reducible apply awO_u); (· rfl); (· rfl); (· exact svr); (· rfl); (· decide))
 | ((with_reducible apply aw_cond_true); (· exact sv))
 | ((with_reducible apply aw_cond_false); (· exact sv))
 | ((with_reducible apply awO_un); (· rfl); (· decide); (· exact sv))
 | (refine Kont.go ‹Kont _ _ _ _› _ ?_)
 | ((with_reducible apply awO_c); (· rfl); (· rfl); (· exact sv); (· (first | exact c0 | exact c2 | exact c3 | exact c4 | exact c5)); (· rfl); (· rfl); (· rfl); (· decide))
 | ((with_reducible apply awO_f); (· rfl); (· rfl); (· exact sv); (· exact sv); (· (first | exact c0 | exact c2 | exact c3 | exact c4 | exact c5)); (· rfl); (· rfl); (· decide))
 | ((with_reducible apply awO_m); (· rfl); (· rfl); (· exact sv); (· (first | exact c0 | exact c2 | exact c3 | exact c4 | exact c5)); (· exact svq); (· exact svq); (· exact svq); (· exact svq); (· rfl); (· exact nd); (with_reducible apply awO_st); (· exact svs))
 | ((first | ((with_reducible apply awO_guard); (· rfl); (· rfl); (· exact sv)) | ((with_reducible apply aw_cond); (· exact sv))); all_goals (intro hg; (try simp only [Bool.not_true, Bool.not_false]); (try simp only [decide_eq_true_eq, decide_eq_false_iff_not, Bool.not_true, Bool.not_false, Bool.not_eq_true', Bool.not_eq_false', Bool.not_not, beq_eq_false_iff_ne, ne_eq, beq_iff_eq, decide_eq_decide] at hg); try (exfalso; omega)))
 | ((with_reducible apply retQ_mk); (· (first | exact .inr rfl | exact .inl rfl)); (· exact sv); (· exact sv); rotate_left; (· rfl)))
      all_goals (first | rfl | exact absurd trivial hg | exact absurd rfl hg)
  by_cases h4 : a = b
  · subst h4
    have c2 := Fn_nzr (diff_eq a (by omega))
    have c3 := Fn_nzr (rdiff_eq a (by omega))
    rw [show nz (.v (.slice none 0 0)) = edA (dfE a a) by rw [dfE, if_pos rfl]; rfl] at c2 c3
    exact key .un c2 c3
  · exact key .un (diff_ab a b (by omega) (by omega) h4) (rdiff_ab a b (by omega) (by omega) h4)
end Go.Proofs.YtbjhecllejdfaaaDoor
