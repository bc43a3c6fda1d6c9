/- the document's takes and ends, on the abstract machine. -/
import Derived.Test.YtllhcgfdjfmmeaaPuD
import Derived.Test.YtllhcgfdjfmmeaaPtO
namespace Go.Proofs.Ytllhcgfdjfmmeaa
open Go.RowKit
set_option linter.unusedVariables false
set_option linter.unusedSimpArgs false
set_option maxRecDepth 100000
set_option maxHeartbeats 8000000
theorem rtakes_ab (x : It) (b : UInt8) (ht : x.k = 1 → 0 < x.t.length) (hs : x.s.length ≤ 100000) : Ab Try.prog 54 [itA x, au b] (ab (tks x b)) := by
  have c1 := rin_ab x.s b hs
  unfold tks
  by_cases h1 : x.k = 1
  · have h0 := ht h1
    rw [if_pos h1]
    refine Fn_of_aw (keep := []) Try.func54 rfl rfl (by simp [Try.ntmps54]) ?_
    simp only [num_cons, num_nil, Try.ntmps54, Try.results54]
    repeat' (first
 | ((with_reducible apply awO_ev); (· rfl); (· exact sv))
 | ((with_reducible apply aw_seq); intro _ _)
 | (with_reducible apply aw_region)
 | (with_reducible apply aw_block)
 | ((first | (with_reducible apply awO_nil) | (with_reducible apply aw_exit) | (with_reducible apply aw_skip) | (with_reducible apply aw_ret)); (try simp only [CT, ↓reduceIte, Nat.reduceEqDiff]))
 | ((with_reducible apply awO_y); (· rfl); (· rfl); (· decide); (· exact sv); (· exact sv))
 | ((with_reducible apply awO_n); (· rfl); (· rfl); (· decide); (· exact sv); (· rfl); (· rfl); (· decide))
 | ((with_reducible apply awO_u); (· rfl); (· rfl); (· exact svr); (· rfl); (· decide))
 | ((with_reducible apply aw_cond_true); (· exact sv))
 | ((with_reducible apply aw_cond_false); (· exact sv))
 | ((with_reducible apply awO_un); (· rfl); (· decide); (· exact sv))
 | (refine Kont.go ‹Kont _ _ _ _› _ ?_)
 | ((first | ((with_reducible apply awO_guard); (· rfl); (· rfl); (· exact sv)) | ((with_reducible apply aw_cond); (· exact sv))); all_goals (intro hg; (try simp only [Bool.not_true, Bool.not_false]); (try simp only [decide_eq_true_eq, decide_eq_false_iff_not, Bool.not_true, Bool.not_false, Bool.not_eq_true', Bool.not_eq_false', Bool.not_not, beq_eq_false_iff_ne, ne_eq, beq_iff_eq, decide_eq_decide] at hg); try (exfalso; omega)))
 | ((with_reducible apply retQ_mk); (· (first | exact .inr rfl | exact .inl rfl)); (· exact sv); (· exact sv); rotate_left; (· rfl)))
    all_goals
      refine ab_eq ?_
      rw [headD_get h0]
      simp [u8n]
  rw [if_neg h1]
  by_cases h4 : x.k = 4
  · rw [if_pos h4]
    refine Fn_of_aw (keep := []) Try.func54 rfl rfl (by simp [Try.ntmps54]) ?_
    simp only [num_cons, num_nil, Try.ntmps54, Try.results54]
    repeat' (first
 | ((with_reducible apply awO_ev); (· rfl); (· exact sv))
 | ((with_reducible apply aw_seq); intro _ _)
 | (with_reducible apply aw_region)
 | (with_reducible apply aw_block)
 | ((first | (with_reducible apply awO_nil) | (with_reducible apply aw_exit) | (with_reducible apply aw_skip) | (with_reducible apply aw_ret)); (try simp only [CT, ↓reduceIte, Nat.reduceEqDiff]))
 | ((with_reducible apply awO_y); (· rfl); (· rfl); (· decide); (· exact sv); (· exact sv))
 | ((with_reducible apply awO_n); (· rfl); (· rfl); (· decide); (· exact sv); (· rfl); (· rfl); (· decide))
 | ((with_reducible apply awO_u); (· rfl); (· rfl); (· exact svr); (· rfl); (· decide))
 | ((with_reducible apply aw_cond_true); (· exact sv))
 | ((with_reducible apply aw_cond_false); (· exact sv))
 | ((with_reducible apply awO_un); (· rfl); (· decide); (· exact sv))
 | (refine Kont.go ‹Kont _ _ _ _› _ ?_)
 | ((with_reducible apply awO_c); (· rfl); (· rfl); (· exact sv); (· (first | exact c1)); (· rfl); (· rfl); (· rfl); (· decide))
 | ((with_reducible apply awO_f); (· rfl); (· rfl); (· exact sv); (· exact sv); (· (first | exact c1)); (· rfl); (· rfl); (· decide))
 | ((with_reducible apply awO_m); (· rfl); (· rfl); (· exact sv); (· (first | exact c1)); (· exact svq); (· exact svq); (· exact svq); (· exact svq); (· rfl); (· exact nd); (with_reducible apply awO_st); (· exact svs))
 | ((with_reducible apply aw_draw); (· decide +kernel); (simp only [List.size_toArray, List.length_cons, List.length_nil, Nat.reduceAdd]))
 | ((with_reducible apply awY_done); (· decide +kernel); (try simp only [CT, ↓reduceIte, Nat.reduceEqDiff]))
 | ((with_reducible apply awY_q); (· exact sQ); (· exact np); (· exact svg); (· rfl); (· exact sv))
 | ((with_reducible apply awY_qy); (· exact sQ); (· exact np); (· exact svg); (· rfl); (· rfl); (· exact nd); (· exact sv); (· exact sv))
 | ((with_reducible apply awY_qn); (· exact sQ); (· exact np); (· exact svg); (· rfl); (· rfl); (· exact nd); (· exact sv); (· rfl); (· rfl); (· exact nd); simp only [put_some])
 | ((with_reducible apply awY_qu); (· exact sQ); (· exact np); (· exact svg); (· rfl); (· rfl); (· exact svr); (· rfl); (· exact nd); simp only [put_some])
 | ((with_reducible apply awY_tn); (· exact sT); (· exact np); (· exact svg); (· rfl); (· rfl); (· exact nd); (· exact sv); (· rfl); (· rfl); (· exact nd); simp only [put_some])
 | ((with_reducible apply awY_tu); (· exact sT); (· exact np); (· exact svg); (· rfl); (· rfl); (· exact svr); (· rfl); (· exact nd); simp only [put_some])
 | ((with_reducible apply endQ_rfl))
 | ((with_reducible apply endQ_sub); (· exact sE); (· exact sN))
 | ((with_reducible apply awI_ev); (· exact svg); (· rfl); (· exact sv))
 | ((with_reducible apply awI_c); (· exact svg); (· rfl); (· rfl); (· exact sv); (· (first | exact c1)); (· rfl); (· rfl); (· rfl); (· exact nd); simp only [put_some])
 | ((with_reducible apply awI_f); (· exact svg); (· rfl); (· rfl); (· exact sv); (· exact sv); (· (first | exact c1)); (· rfl); (· rfl); (· exact nd); simp only [put_some])
 | ((with_reducible apply awI_cy); (· exact svg); (· rfl); (· rfl); (· exact nd); (· exact sv); (· rfl); (· exact sv); (· (first | exact c1)); (· rfl); (· rfl); (· rfl); (· exact nd); simp only [put_some])
 | ((with_reducible apply awI_fy); (· exact svg); (· rfl); (· rfl); (· exact nd); (· exact sv); (· rfl); (· exact sv); (· exact sv); (· (first | exact c1)); (· rfl); (· rfl); (· exact nd); simp only [put_some])
 | ((first | ((with_reducible apply awO_guard); (· rfl); (· rfl); (· exact sv)) | ((with_reducible apply aw_cond); (· exact sv))); all_goals (intro hg; (try simp only [Bool.not_true, Bool.not_false]); (try simp only [decide_eq_true_eq, decide_eq_false_iff_not, Bool.not_true, Bool.not_false, Bool.not_eq_true', Bool.not_eq_false', Bool.not_not, beq_eq_false_iff_ne, ne_eq, beq_iff_eq, decide_eq_decide] at hg); try (exfalso; omega)))
 | ((with_reducible apply awY_guard); (· exact sR); (· exact svg); (· rfl); (· rfl); (· exact svl); all_goals (intro hg; (try simp only [Bool.not_true, Bool.not_false]); (try simp only [decide_eq_true_eq, decide_eq_false_iff_not, Bool.not_true, Bool.not_false, Bool.not_eq_true', Bool.not_eq_false', Bool.not_not, beq_eq_false_iff_ne, ne_eq, beq_iff_eq, decide_eq_decide] at hg); try (exfalso; omega)))
 | ((with_reducible apply retQ_mk); (· (first | exact .inr rfl | exact .inl rfl)); (· exact sv); (· exact sv); rotate_left; (· rfl))
 | ((with_reducible apply awY_p); (· exact sH); (first | ((with_reducible apply awP_1); (· decide +kernel)) | ((with_reducible apply awP_2); (· exact sP)))))
    all_goals rfl
  · rw [if_neg h4]
    refine Fn_of_aw (keep := []) Try.func54 rfl rfl (by simp [Try.ntmps54]) ?_
    simp only [num_cons, num_nil, Try.ntmps54, Try.results54]
    repeat' (first
 | ((with_reducible apply awO_ev); (· rfl); (· exact sv))
 | ((with_reducible apply aw_seq); intro _ _)
 | (with_reducible apply aw_region)
 | (with_reducible apply aw_block)
 | ((first | (with_reducible apply awO_nil) | (with_reducible apply aw_exit) | (with_reducible apply aw_skip) | (with_reducible apply aw_ret)); (try simp only [CT, ↓reduceIte, Nat.reduceEqDiff]))
 | ((with_reducible apply awO_y); (· rfl); (· rfl); (· decide); (· exact sv); (· exact sv))
 | ((with_reducible apply awO_n); (· rfl); (· rfl); (· decide); (· exact sv); (· rfl); (· rfl); (· decide))
 | ((with_reducible apply awO_u); (· rfl); (· rfl); (· exact svr); (· rfl); (· decide))
 | ((with_reducible apply aw_cond_true); (· exact sv))
 | ((with_reducible apply aw_cond_false); (· exact sv))
 | ((with_reducible apply awO_un); (· rfl); (· decide); (· exact sv))
 | (refine Kont.go ‹Kont _ _ _ _› _ ?_)
 | ((first | ((with_reducible apply awO_guard); (· rfl); (· rfl); (· exact sv)) | ((with_reducible apply aw_cond); (· exact sv))); all_goals (intro hg; (try simp only [Bool.not_true, Bool.not_false]); (try simp only [decide_eq_true_eq, decide_eq_false_iff_not, Bool.not_true, Bool.not_false, Bool.not_eq_true', Bool.not_eq_false', Bool.not_not, beq_eq_false_iff_ne, ne_eq, beq_iff_eq, decide_eq_decide] at hg); try (exfalso; omega)))
 | ((with_reducible apply retQ_mk); (· (first | exact .inr rfl | exact .inl rfl)); (· exact sv); (· exact sv); rotate_left; (· rfl)))
    all_goals rfl
/-- A row of the document's table, filled up to a place. -/
def rowP (p : List It) (s : List UInt8) (i k : Nat) : List Bool := (List.range (s.length + 1)).map fun j => decide (j < k) && mR p s i j
theorem rowP_len (p : List It) (s : List UInt8) (i k : Nat) : (rowP p s i k).length = s.length + 1 := by simp [rowP]
theorem rowP_get (p : List It) (s : List UInt8) (i k : Nat) {j : Nat} (h : j ≤ s.length) : (rowP p s i k)[j]? = some (decide (j < k) && mR p s i j) := by
  rw [rowP, List.getElem?_map, List.getElem?_range (by omega)]; rfl
theorem rowP_at (p : List It) (s : List UInt8) (i k : Nat) {j : Nat} (h : j ≤ s.length) (hk : j < k) (hl : j < (rowP p s i k).length) : (rowP p s i k)[j] = mR p s i j := by
  have := rowP_get p s i k h
  rw [List.getElem?_eq_getElem hl] at this
  injection this with this
  rw [this]; simp [hk]
theorem rowP_set (p : List It) (s : List UInt8) (i k : Nat) (hk : k ≤ s.length) (b : Bool) (hb : b = mR p s i k) : (rowP p s i k).set k b = rowP p s i (k + 1) := by
  refine List.ext_getElem? fun j => ?_
  by_cases hj : j ≤ s.length
  · rw [rowP_get p s i (k + 1) hj]
    by_cases e : j = k
    · subst e
      rw [List.getElem?_set_self (by rw [rowP_len]; omega), hb]; simp
    · rw [List.getElem?_set_ne (fun h => e h.symm), rowP_get p s i k hj]
      have : (j < k + 1) ↔ (j < k) := by omega
      simp [this]
  · rw [List.getElem?_eq_none (by rw [List.length_set, rowP_len]; omega), List.getElem?_eq_none (by rw [rowP_len]; omega)]
theorem rowP_zero (p : List It) (s : List UInt8) (i : Nat) : rowP p s i 0 = fls (s.length + 1) := by
  refine List.ext_getElem? fun j => ?_
  by_cases hj : j ≤ s.length
  · rw [rowP_get p s i 0 hj, fls, List.getElem?_replicate, if_pos (by omega)]; simp
  · rw [List.getElem?_eq_none (by rw [rowP_len]; omega), List.getElem?_eq_none (by rw [fls_len]; omega)]
/-- A whole row. -/
abbrev rowL (p : List It) (s : List UInt8) (i : Nat) : List Bool := rowP p s i (s.length + 1)
theorem rowL_zero (p : List It) (s : List UInt8) : (fls (s.length + 1)).set 0 true = rowL p s 0 := by
  refine List.ext_getElem? fun j => ?_
  by_cases hj : j ≤ s.length
  · rw [rowP_get p s 0 _ hj, mR_zero]
    by_cases e : j = 0
    · subst e; rw [List.getElem?_set_self (by rw [fls_len]; omega)]; simp
    · rw [List.getElem?_set_ne (fun h => e h.symm), fls, List.getElem?_replicate, if_pos (by omega)]; simp [e]
  · rw [List.getElem?_eq_none (by rw [List.length_set, fls_len]; omega), List.getElem?_eq_none (by rw [rowP_len]; omega)]
theorem NP_endE {i : Nat} {M : St} : NP (endE (.exit i) M) := fun c st h => by cases h.1
namespace Ends
theorem np {Q : Exit → St → Prop} (h : NP Q := by repeat (first | (with_reducible exact NP_ret) | (with_reducible apply NP_then) | (with_reducible apply NP_blk) | (with_reducible apply NP_wk) | (with_reducible apply NP_end) | (with_reducible exact NP_endE))) : NP Q := h
theorem ends_ab (p : List It) (s : List UInt8) (hp : p.length ≤ 1000) (hs : s.length ≤ 10000) (hv : ∀ x ∈ p, (x.k = 1 → 0 < x.t.length) ∧ x.s.length ≤ 100000) :
    Ab Try.prog 42 [itsA p, az s] (.rd (s.length + 1) ((rowL p s p.length).map ab)) := by
  refine Fn_of_aw (keep := []) Try.func42 rfl rfl (by simp [Try.ntmps42]) ?_
  simp only [num_cons, num_nil, Try.ntmps42, Try.results42]
  repeat' (first
 | ((with_reducible apply aw_scope); (· exact ng))
 | ((with_reducible apply aw_label); (try simp only [CT, ↓reduceIte, Nat.reduceEqDiff]))
 | ((with_reducible apply awO_b8); (· rfl); (· rfl); (· rfl); (· exact sv); (· simp only [go_sem]); (· omega); (· exact nd); (· decide); (with_reducible apply awO_st); (· exact svs))
 | ((with_reducible apply awO_mkB); (· rfl); (· rfl); (· rfl); (· exact sv); (· exact sv); (· exact sv); (· omega); (· exact nd); (· decide); (with_reducible apply awO_st); (· exact svs))
 | ((with_reducible apply awO_eqnil); (· rfl); (· rfl); (· exact sv); (· exact sv); (· exact svp); (· rfl); (· exact nd); intro nb hnb; simp only [put_some])
 | ((with_reducible apply awO_neqnil); (· rfl); (· rfl); (· exact sv); (· exact sv); (· exact svp); (· rfl); (· exact nd); intro nb hnb; simp only [put_some])
 | ((with_reducible apply awO_ev); (· rfl); (· exact sv))
 | ((with_reducible apply aw_seq); intro _ _)
 | (with_reducible apply aw_region)
 | (with_reducible apply aw_block)
 | ((first | (with_reducible apply awO_nil) | (with_reducible apply aw_exit) | (with_reducible apply aw_skip) | (with_reducible apply aw_ret)); (try simp only [CT, ↓reduceIte, Nat.reduceEqDiff]))
 | ((with_reducible apply awO_y); (· rfl); (· rfl); (· decide); (· exact sv); (· exact sv))
 | ((with_reducible apply awO_n); (· rfl); (· rfl); (· decide); (· exact sv); (· rfl); (· rfl); (· decide))
 | ((with_reducible apply awO_u); (· rfl); (· rfl); (· exact svr); (· rfl); (· decide))
 | ((with_reducible apply aw_cond_true); (· exact sv))
 | ((with_reducible apply aw_cond_false); (· exact sv))
 | ((with_reducible apply awO_un); (· rfl); (· decide); (· exact sv))
 | (refine Kont.go ‹Kont _ _ _ _› _ ?_)
 | ((first | ((with_reducible apply awO_guard); (· rfl); (· rfl); (· exact sv)) | ((with_reducible apply aw_cond); (· exact sv))); all_goals (intro hg; (try simp only [Bool.not_true, Bool.not_false]); (try simp only [decide_eq_true_eq, decide_eq_false_iff_not, Bool.not_true, Bool.not_false, Bool.not_eq_true', Bool.not_eq_false', Bool.not_not, beq_eq_false_iff_ne, ne_eq, beq_iff_eq, decide_eq_decide] at hg); try (exfalso; omega)))
 | ((with_reducible apply retQ_mk); (· (first | exact .inr rfl | exact .inl rfl)); (· exact sv); (· exact sv); rotate_left; (· rfl)))
  rw [map_set_ab, rowL_zero p s]
  refine aw_pub 5 12 rfl rfl (by simp [rowP_len]) (mapab_data _ _ _) ?_
  rw [List.drop_zero, List.take_of_length_le (by simp [rowP_len])]
  refine aw_st svs ?_
  refine aw_forget [14, 13, 12, 11, 10, 9, 4] ?_
  refine aw_st svs ?_
  refine aw_loopF (fun i : Nat => [(6, ai i), (5, .rd (s.length + 1) ((rowL p s i).map ab))]) (fun _ => []) (fun i => i ≤ p.length) (fun i => p.length - i) 0 (by omega) ?_ ?_ ?_
  · exact ⟨rfl, rfl, trivial⟩
  · exact trivial
  intro i hi
  (simp only [LP, List.append_assoc, List.nil_append, List.cons_append, List.append_nil, List.contains_cons, List.contains_nil, Nat.reduceBEq, Bool.or_false, Bool.or_true, Bool.true_or, Bool.false_or, ↓reduceIte, Bool.false_eq_true])
  by_cases hil : i < p.length
  · obtain ⟨h1, h2⟩ := hv p[i] (List.getElem_mem hil)
    have hrl : (rowL p s i).length = s.length + 1 := rowP_len p s i (s.length + 1)
    repeat' (first
 | ((with_reducible apply aw_scope); (· exact ng))
 | ((with_reducible apply aw_label); (try simp only [CT, ↓reduceIte, Nat.reduceEqDiff]))
 | ((with_reducible apply awO_b8); (· rfl); (· rfl); (· rfl); (· exact sv); (· simp only [go_sem]); (· omega); (· exact nd); (· decide); (with_reducible apply awO_st); (· exact svs))
 | ((with_reducible apply awO_mkB); (· rfl); (· rfl); (· rfl); (· exact sv); (· exact sv); (· exact sv); (· omega); (· exact nd); (· decide); (with_reducible apply awO_st); (· exact svs))
 | ((with_reducible apply awO_eqnil); (· rfl); (· rfl); (· exact sv); (· exact sv); (· exact svp); (· rfl); (· exact nd); intro nb hnb; simp only [put_some])
 | ((with_reducible apply awO_neqnil); (· rfl); (· rfl); (· exact sv); (· exact sv); (· exact svp); (· rfl); (· exact nd); intro nb hnb; simp only [put_some])
 | ((with_reducible apply awO_ev); (· rfl); (· exact sv))
 | ((with_reducible apply aw_seq); intro _ _)
 | (with_reducible apply aw_region)
 | (with_reducible apply aw_block)
 | ((first | (with_reducible apply awO_nil) | (with_reducible apply aw_exit) | (with_reducible apply aw_skip) | (with_reducible apply aw_ret)); (try simp only [CT, ↓reduceIte, Nat.reduceEqDiff]))
 | ((with_reducible apply awO_y); (· rfl); (· rfl); (· decide); (· exact sv); (· exact sv))
 | ((with_reducible apply awO_n); (· rfl); (· rfl); (· decide); (· exact sv); (· rfl); (· rfl); (· decide))
 | ((with_reducible apply awO_u); (· rfl); (· rfl); (· exact svr); (· rfl); (· decide))
 | ((with_reducible apply aw_cond_true); (· exact sv))
 | ((with_reducible apply aw_cond_false); (· exact sv))
 | ((with_reducible apply awO_un); (· rfl); (· decide); (· exact sv))
 | (refine Kont.go ‹Kont _ _ _ _› _ ?_)
 | ((first | ((with_reducible apply awO_guard); (· rfl); (· rfl); (· exact sv)) | ((with_reducible apply aw_cond); (· exact sv))); all_goals (intro hg; (try simp only [Bool.not_true, Bool.not_false]); (try simp only [decide_eq_true_eq, decide_eq_false_iff_not, Bool.not_true, Bool.not_false, Bool.not_eq_true', Bool.not_eq_false', Bool.not_not, beq_eq_false_iff_ne, ne_eq, beq_iff_eq, decide_eq_decide] at hg); try (exfalso; omega)))
 | ((with_reducible apply retQ_mk); (· (first | exact .inr rfl | exact .inl rfl)); (· exact sv); (· exact sv); rotate_left; (· rfl)))
    refine aw_joinX (.exit 2) [(0, itsA p), (1, az s), (6, ai i), (7, .os 24 0 1 (s.length + 1))] [(24, (rowL p s (i + 1)).map ab)] ?_ ?_
    · rw [← rowP_zero p s (i + 1)]
      refine aw_loopF (fun k : Nat => [(8, ai k)]) (fun k => [(24, (rowP p s (i + 1) k).map ab)]) (fun k => k ≤ s.length + 1) (fun k => s.length + 1 - k) 0 (by omega) ?_ ?_ ?_
      · exact ⟨rfl, trivial⟩
      · exact ⟨rfl, trivial⟩
      intro k hk
      (simp only [LP, List.append_assoc, List.nil_append, List.cons_append, List.append_nil, List.contains_cons, List.contains_nil, Nat.reduceBEq, Bool.or_false, Bool.or_true, Bool.true_or, Bool.false_or, ↓reduceIte, Bool.false_eq_true])
      have hnl := rowP_len p s (i + 1) k
      by_cases hkl : k ≤ s.length
      · have st := rowP_set p s (i + 1) k hkl
        by_cases hst : p[i].k = 3
        · obtain ⟨m0, m1⟩ := mR_star p s hil hst
          have hr : (rowL p s i)[k]'(by omega) = mR p s i k := rowP_at p s i (s.length + 1) hkl (by omega) (by rw [rowP_len]; omega)
          cases hb : mR p s i k with
          | true =>
            rw [hb] at hr
            have hm : true = mR p s (i + 1) k := by
              cases k with
              | zero => rw [m0, hb]
              | succ k => rw [m1, hb]; rfl
            repeat' (first
 | ((with_reducible apply awO_ev); (· rfl); (· exact sv))
 | ((with_reducible apply aw_seq); intro _ _)
 | (with_reducible apply aw_region)
 | (with_reducible apply aw_block)
 | ((first | (with_reducible apply awO_nil) | (with_reducible apply aw_exit) | (with_reducible apply aw_skip) | (with_reducible apply aw_ret)); (try simp only [CT, ↓reduceIte, Nat.reduceEqDiff]))
 | ((with_reducible apply awO_y); (· rfl); (· rfl); (· decide); (· exact sv); (· exact sv))
 | ((with_reducible apply awO_n); (· rfl); (· rfl); (· decide); (· exact sv); (· rfl); (· rfl); (· decide))
 | ((with_reducible apply awO_u); (· rfl); (· rfl); (· exact svr); (· rfl); (· decide))
 | ((with_reducible apply aw_cond_true); (· exact sv))
 | ((with_reducible apply aw_cond_false); (· exact sv))
 | ((with_reducible apply awO_un); (· rfl); (· decide); (· exact sv))
 | (refine Kont.go ‹Kont _ _ _ _› _ ?_)
 | ((first | ((with_reducible apply awO_guard); (· rfl); (· rfl); (· exact sv)) | ((with_reducible apply aw_cond); (· exact sv))); all_goals (intro hg; (try simp only [Bool.not_true, Bool.not_false]); (try simp only [decide_eq_true_eq, decide_eq_false_iff_not, Bool.not_true, Bool.not_false, Bool.not_eq_true', Bool.not_eq_false', Bool.not_not, beq_eq_false_iff_ne, ne_eq, beq_iff_eq, decide_eq_decide] at hg); try (exfalso; omega)))
 | ((with_reducible apply retQ_mk); (· (first | exact .inr rfl | exact .inl rfl)); (· exact sv); (· exact sv); rotate_left; (· rfl)))
            all_goals (first | (exfalso; exact Bool.noConfusion (hr.symm.trans ‹_ = false›)) | skip)
            refine LE_mk (k + 1) ?_ ?_ ?_ sN ?_
            · omega
            · omega
            · exact ⟨rfl, trivial⟩
            · refine ⟨?_, trivial⟩
              show some _ = some _
              rw [map_set_ab, st true (hm)]
          | false =>
            rw [hb] at hr
            by_cases h0 : 0 < k
            · have hT := rowP_at p s (i + 1) k (j := k - 1) (by omega) (by omega) (by omega)
              have hm : mR p s (i + 1) (k - 1) = mR p s (i + 1) k := by
                obtain ⟨k', rfl⟩ : ∃ k', k = k' + 1 := ⟨k - 1, by omega⟩
                rw [m1, hb]; rfl
              repeat' (first
 | ((with_reducible apply awO_ev); (· rfl); (· exact sv))
 | ((with_reducible apply aw_seq); intro _ _)
 | (with_reducible apply aw_region)
 | (with_reducible apply aw_block)
 | ((first | (with_reducible apply awO_nil) | (with_reducible apply aw_exit) | (with_reducible apply aw_skip) | (with_reducible apply aw_ret)); (try simp only [CT, ↓reduceIte, Nat.reduceEqDiff]))
 | ((with_reducible apply awO_y); (· rfl); (· rfl); (· decide); (· exact sv); (· exact sv))
 | ((with_reducible apply awO_n); (· rfl); (· rfl); (· decide); (· exact sv); (· rfl); (· rfl); (· decide))
 | ((with_reducible apply awO_u); (· rfl); (· rfl); (· exact svr); (· rfl); (· decide))
 | ((with_reducible apply aw_cond_true); (· exact sv))
 | ((with_reducible apply aw_cond_false); (· exact sv))
 | ((with_reducible apply awO_un); (· rfl); (· decide); (· exact sv))
 | (refine Kont.go ‹Kont _ _ _ _› _ ?_)
 | ((first | ((with_reducible apply awO_guard); (· rfl); (· rfl); (· exact sv)) | ((with_reducible apply aw_cond); (· exact sv))); all_goals (intro hg; (try simp only [Bool.not_true, Bool.not_false]); (try simp only [decide_eq_true_eq, decide_eq_false_iff_not, Bool.not_true, Bool.not_false, Bool.not_eq_true', Bool.not_eq_false', Bool.not_not, beq_eq_false_iff_ne, ne_eq, beq_iff_eq, decide_eq_decide] at hg); try (exfalso; omega)))
 | ((with_reducible apply retQ_mk); (· (first | exact .inr rfl | exact .inl rfl)); (· exact sv); (· exact sv); rotate_left; (· rfl)))
              all_goals (first | (exfalso; exact Bool.noConfusion (hr.symm.trans ‹_ = true›)) | skip)
              refine LE_mk (k + 1) ?_ ?_ ?_ sN ?_
              · omega
              · omega
              · exact ⟨rfl, trivial⟩
              · refine ⟨?_, trivial⟩
                show some _ = some _
                rw [map_set_ab, st _ (hT.trans hm)]
            · obtain rfl : k = 0 := by omega
              repeat' (first
 | ((with_reducible apply awO_ev); (· rfl); (· exact sv))
 | ((with_reducible apply aw_seq); intro _ _)
 | (with_reducible apply aw_region)
 | (with_reducible apply aw_block)
 | ((first | (with_reducible apply awO_nil) | (with_reducible apply aw_exit) | (with_reducible apply aw_skip) | (with_reducible apply aw_ret)); (try simp only [CT, ↓reduceIte, Nat.reduceEqDiff]))
 | ((with_reducible apply awO_y); (· rfl); (· rfl); (· decide); (· exact sv); (· exact sv))
 | ((with_reducible apply awO_n); (· rfl); (· rfl); (· decide); (· exact sv); (· rfl); (· rfl); (· decide))
 | ((with_reducible apply awO_u); (· rfl); (· rfl); (· exact svr); (· rfl); (· decide))
 | ((with_reducible apply aw_cond_true); (· exact sv))
 | ((with_reducible apply aw_cond_false); (· exact sv))
 | ((with_reducible apply awO_un); (· rfl); (· decide); (· exact sv))
 | (refine Kont.go ‹Kont _ _ _ _› _ ?_)
 | ((first | ((with_reducible apply awO_guard); (· rfl); (· rfl); (· exact sv)) | ((with_reducible apply aw_cond); (· exact sv))); all_goals (intro hg; (try simp only [Bool.not_true, Bool.not_false]); (try simp only [decide_eq_true_eq, decide_eq_false_iff_not, Bool.not_true, Bool.not_false, Bool.not_eq_true', Bool.not_eq_false', Bool.not_not, beq_eq_false_iff_ne, ne_eq, beq_iff_eq, decide_eq_decide] at hg); try (exfalso; omega)))
 | ((with_reducible apply retQ_mk); (· (first | exact .inr rfl | exact .inl rfl)); (· exact sv); (· exact sv); rotate_left; (· rfl)))
              all_goals (first | (exfalso; exact Bool.noConfusion (hr.symm.trans ‹_ = true›)) | skip)
              refine LE_mk (0 + 1) ?_ ?_ ?_ sN ?_
              · omega
              · omega
              · exact ⟨rfl, trivial⟩
              · refine ⟨?_, trivial⟩
                show some _ = some _
                rw [map_set_ab, st false (by rw [m0, hb])]
        · obtain ⟨m0, m1⟩ := mR_one p s hil hst
          by_cases h0 : 0 < k
          · have hr : (rowL p s i)[k - 1]'(by omega) = mR p s i (k - 1) := rowP_at p s i (s.length + 1) (j := k - 1) (by omega) (by omega) (by rw [rowP_len]; omega)
            have hks : k - 1 < s.length := by omega
            have c1 := rtakes_ab p[i] s[k - 1] h1 h2
            have hm : mR p s (i + 1) k = (mR p s i (k - 1) && tks p[i] s[k - 1]) := by
              obtain ⟨k', rfl⟩ : ∃ k', k = k' + 1 := ⟨k - 1, by omega⟩
              rw [m1, getD_at (by omega)]; rfl
            cases hb : mR p s i (k - 1) with
            | true =>
              rw [hb] at hr hm
              rw [Bool.true_and] at hm
              repeat' (first
 | ((with_reducible apply awO_ev); (· rfl); (· exact sv))
 | ((with_reducible apply aw_seq); intro _ _)
 | (with_reducible apply aw_region)
 | (with_reducible apply aw_block)
 | ((first | (with_reducible apply awO_nil) | (with_reducible apply aw_exit) | (with_reducible apply aw_skip) | (with_reducible apply aw_ret)); (try simp only [CT, ↓reduceIte, Nat.reduceEqDiff]))
 | ((with_reducible apply awO_y); (· rfl); (· rfl); (· decide); (· exact sv); (· exact sv))
 | ((with_reducible apply awO_n); (· rfl); (· rfl); (· decide); (· exact sv); (· rfl); (· rfl); (· decide))
 | ((with_reducible apply awO_u); (· rfl); (· rfl); (· exact svr); (· rfl); (· decide))
 | ((with_reducible apply aw_cond_true); (· exact sv))
 | ((with_reducible apply aw_cond_false); (· exact sv))
 | ((with_reducible apply awO_un); (· rfl); (· decide); (· exact sv))
 | (refine Kont.go ‹Kont _ _ _ _› _ ?_)
 | ((with_reducible apply awO_c); (· rfl); (· rfl); (· exact sv); (· (first | exact c1)); (· rfl); (· rfl); (· rfl); (· decide))
 | ((with_reducible apply awO_f); (· rfl); (· rfl); (· exact sv); (· exact sv); (· (first | exact c1)); (· rfl); (· rfl); (· decide))
 | ((with_reducible apply awO_m); (· rfl); (· rfl); (· exact sv); (· (first | exact c1)); (· exact svq); (· exact svq); (· exact svq); (· exact svq); (· rfl); (· exact nd); (with_reducible apply awO_st); (· exact svs))
 | ((with_reducible apply aw_drawZ); (· decide +kernel); (· decide +kernel))
 | ((with_reducible apply awZ_done); (try simp only [CT, ↓reduceIte, Nat.reduceEqDiff]))
 | ((with_reducible apply awZ_q); (· rfl); (· exact np); (· rfl); (· exact sv))
 | ((with_reducible apply awZ_qy); (· rfl); (· exact np); (· rfl); (· rfl); (· exact nd); (· exact sv); (· exact sv))
 | ((with_reducible apply awZ_qn); (· rfl); (· exact np); (· rfl); (· rfl); (· exact nd); (· exact sv); (· rfl); (· rfl); (· exact nd); simp only [put_some])
 | ((with_reducible apply awZ_qu); (· rfl); (· exact np); (· rfl); (· rfl); (· exact svr); (· rfl); (· exact nd); simp only [put_some])
 | ((with_reducible apply awZ_tn); (· decide +kernel); (· exact np); (· rfl); (· rfl); (· exact nd); (· exact sv); (· rfl); (· rfl); (· exact nd); simp only [put_some])
 | ((with_reducible apply awZ_tu); (· decide +kernel); (· exact np); (· rfl); (· rfl); (· exact svr); (· rfl); (· exact nd); simp only [put_some])
 | ((with_reducible apply awZ_ev); (· decide +kernel); (· rfl); (· exact sv))
 | ((with_reducible apply awZ_c); (· decide +kernel); (· rfl); (· rfl); (· exact sv); (· (first | exact c1)); (· rfl); (· rfl); (· rfl); (· exact nd); simp only [put_some])
 | ((with_reducible apply awZ_f); (· decide +kernel); (· rfl); (· rfl); (· exact sv); (· exact sv); (· (first | exact c1)); (· rfl); (· rfl); (· exact nd); simp only [put_some])
 | ((with_reducible apply awZ_cy); (· decide +kernel); (· rfl); (· rfl); (· exact nd); (· exact sv); (· rfl); (· exact sv); (· (first | exact c1)); (· rfl); (· rfl); (· rfl); (· exact nd); simp only [put_some])
 | ((with_reducible apply awZ_fy); (· decide +kernel); (· rfl); (· rfl); (· exact nd); (· exact sv); (· rfl); (· exact sv); (· exact sv); (· (first | exact c1)); (· rfl); (· rfl); (· exact nd); simp only [put_some])
 | ((with_reducible apply awZ_guard); (· decide +kernel); (· rfl); (· rfl); (· exact svl); all_goals (intro hg; (try simp only [Bool.not_true, Bool.not_false]); (try simp only [decide_eq_true_eq, decide_eq_false_iff_not, Bool.not_true, Bool.not_false, Bool.not_eq_true', Bool.not_eq_false', Bool.not_not, beq_eq_false_iff_ne, ne_eq, beq_iff_eq, decide_eq_decide] at hg); try (exfalso; omega)))
 | ((first | ((with_reducible apply awO_guard); (· rfl); (· rfl); (· exact sv)) | ((with_reducible apply aw_cond); (· exact sv))); all_goals (intro hg; (try simp only [Bool.not_true, Bool.not_false]); (try simp only [decide_eq_true_eq, decide_eq_false_iff_not, Bool.not_true, Bool.not_false, Bool.not_eq_true', Bool.not_eq_false', Bool.not_not, beq_eq_false_iff_ne, ne_eq, beq_iff_eq, decide_eq_decide] at hg); try (exfalso; omega)))
 | ((with_reducible apply retQ_mk); (· (first | exact .inr rfl | exact .inl rfl)); (· exact sv); (· exact sv); rotate_left; (· rfl)))
              all_goals (first | (exfalso; exact Bool.noConfusion (hr.symm.trans ‹_ = false›)) | skip)
              refine LE_mk (k + 1) ?_ ?_ ?_ sN ?_
              · omega
              · omega
              · exact ⟨rfl, trivial⟩
              · refine ⟨?_, trivial⟩
                show some _ = some _
                rw [map_set_ab, st _ (hm.symm)]
            | false =>
              rw [hb] at hr hm
              repeat' (first
 | ((with_reducible apply awO_ev); (· rfl); (· exact sv))
 | ((with_reducible apply aw_seq); intro _ _)
 | (with_reducible apply aw_region)
 | (with_reducible apply aw_block)
 | ((first | (with_reducible apply awO_nil) | (with_reducible apply aw_exit) | (with_reducible apply aw_skip) | (with_reducible apply aw_ret)); (try simp only [CT, ↓reduceIte, Nat.reduceEqDiff]))
 | ((with_reducible apply awO_y); (· rfl); (· rfl); (· decide); (· exact sv); (· exact sv))
 | ((with_reducible apply awO_n); (· rfl); (· rfl); (· decide); (· exact sv); (· rfl); (· rfl); (· decide))
 | ((with_reducible apply awO_u); (· rfl); (· rfl); (· exact svr); (· rfl); (· decide))
 | ((with_reducible apply aw_cond_true); (· exact sv))
 | ((with_reducible apply aw_cond_false); (· exact sv))
 | ((with_reducible apply awO_un); (· rfl); (· decide); (· exact sv))
 | (refine Kont.go ‹Kont _ _ _ _› _ ?_)
 | ((with_reducible apply awO_c); (· rfl); (· rfl); (· exact sv); (· (first | exact c1)); (· rfl); (· rfl); (· rfl); (· decide))
 | ((with_reducible apply awO_f); (· rfl); (· rfl); (· exact sv); (· exact sv); (· (first | exact c1)); (· rfl); (· rfl); (· decide))
 | ((with_reducible apply awO_m); (· rfl); (· rfl); (· exact sv); (· (first | exact c1)); (· exact svq); (· exact svq); (· exact svq); (· exact svq); (· rfl); (· exact nd); (with_reducible apply awO_st); (· exact svs))
 | ((with_reducible apply aw_drawZ); (· decide +kernel); (· decide +kernel))
 | ((with_reducible apply awZ_done); (try simp only [CT, ↓reduceIte, Nat.reduceEqDiff]))
 | ((with_reducible apply awZ_q); (· rfl); (· exact np); (· rfl); (· exact sv))
 | ((with_reducible apply awZ_qy); (· rfl); (· exact np); (· rfl); (· rfl); (· exact nd); (· exact sv); (· exact sv))
 | ((with_reducible apply awZ_qn); (· rfl); (· exact np); (· rfl); (· rfl); (· exact nd); (· exact sv); (· rfl); (· rfl); (· exact nd); simp only [put_some])
 | ((with_reducible apply awZ_qu); (· rfl); (· exact np); (· rfl); (· rfl); (· exact svr); (· rfl); (· exact nd); simp only [put_some])
 | ((with_reducible apply awZ_tn); (· decide +kernel); (· exact np); (· rfl); (· rfl); (· exact nd); (· exact sv); (· rfl); (· rfl); (· exact nd); simp only [put_some])
 | ((with_reducible apply awZ_tu); (· decide +kernel); (· exact np); (· rfl); (· rfl); (· exact svr); (· rfl); (· exact nd); simp only [put_some])
 | ((with_reducible apply awZ_ev); (· decide +kernel); (· rfl); (· exact sv))
 | ((with_reducible apply awZ_c); (· decide +kernel); (· rfl); (· rfl); (· exact sv); (· (first | exact c1)); (· rfl); (· rfl); (· rfl); (· exact nd); simp only [put_some])
 | ((with_reducible apply awZ_f); (· decide +kernel); (· rfl); (· rfl); (· exact sv); (· exact sv); (· (first | exact c1)); (· rfl); (· rfl); (· exact nd); simp only [put_some])
 | ((with_reducible apply awZ_cy); (· decide +kernel); (· rfl); (· rfl); (· exact nd); (· exact sv); (· rfl); (· exact sv); (· (first | exact c1)); (· rfl); (· rfl); (· rfl); (· exact nd); simp only [put_some])
 | ((with_reducible apply awZ_fy); (· decide +kernel); (· rfl); (· rfl); (· exact nd); (· exact sv); (· rfl); (· exact sv); (· exact sv); (· (first | exact c1)); (· rfl); (· rfl); (· exact nd); simp only [put_some])
 | ((with_reducible apply awZ_guard); (· decide +kernel); (· rfl); (· rfl); (· exact svl); all_goals (intro hg; (try simp only [Bool.not_true, Bool.not_false]); (try simp only [decide_eq_true_eq, decide_eq_false_iff_not, Bool.not_true, Bool.not_false, Bool.not_eq_true', Bool.not_eq_false', Bool.not_not, beq_eq_false_iff_ne, ne_eq, beq_iff_eq, decide_eq_decide] at hg); try (exfalso; omega)))
 | ((first | ((with_reducible apply awO_guard); (· rfl); (· rfl); (· exact sv)) | ((with_reducible apply aw_cond); (· exact sv))); all_goals (intro hg; (try simp only [Bool.not_true, Bool.not_false]); (try simp only [decide_eq_true_eq, decide_eq_false_iff_not, Bool.not_true, Bool.not_false, Bool.not_eq_true', Bool.not_eq_false', Bool.not_not, beq_eq_false_iff_ne, ne_eq, beq_iff_eq, decide_eq_decide] at hg); try (exfalso; omega)))
 | ((with_reducible apply retQ_mk); (· (first | exact .inr rfl | exact .inl rfl)); (· exact sv); (· exact sv); rotate_left; (· rfl)))
              all_goals (first | (exfalso; exact Bool.noConfusion (hr.symm.trans ‹_ = true›)) | skip)
              refine LE_mk (k + 1) ?_ ?_ ?_ sN ?_
              · omega
              · omega
              · exact ⟨rfl, trivial⟩
              · refine ⟨?_, trivial⟩
                show some _ = some _
                rw [map_set_ab, st false (hm.symm)]
          · obtain rfl : k = 0 := by omega
            repeat' (first
 | ((with_reducible apply awO_ev); (· rfl); (· exact sv))
 | ((with_reducible apply aw_seq); intro _ _)
 | (with_reducible apply aw_region)
 | (with_reducible apply aw_block)
 | ((first | (with_reducible apply awO_nil) | (with_reducible apply aw_exit) | (with_reducible apply aw_skip) | (with_reducible apply aw_ret)); (try simp only [CT, ↓reduceIte, Nat.reduceEqDiff]))
 | ((with_reducible apply awO_y); (· rfl); (· rfl); (· decide); (· exact sv); (· exact sv))
 | ((with_reducible apply awO_n); (· rfl); (· rfl); (· decide); (· exact sv); (· rfl); (· rfl); (· decide))
 | ((with_reducible apply awO_u); (· rfl); (· rfl); (· exact svr); (· rfl); (· decide))
 | ((with_reducible apply aw_cond_true); (· exact sv))
 | ((with_reducible apply aw_cond_false); (· exact sv))
 | ((with_reducible apply awO_un); (· rfl); (· decide); (· exact sv))
 | (refine Kont.go ‹Kont _ _ _ _› _ ?_)
 | ((with_reducible apply aw_drawZ); (· decide +kernel); (· decide +kernel))
 | ((with_reducible apply awZ_done); (try simp only [CT, ↓reduceIte, Nat.reduceEqDiff]))
 | ((with_reducible apply awZ_q); (· rfl); (· exact np); (· rfl); (· exact sv))
 | ((with_reducible apply awZ_qy); (· rfl); (· exact np); (· rfl); (· rfl); (· exact nd); (· exact sv); (· exact sv))
 | ((with_reducible apply awZ_qn); (· rfl); (· exact np); (· rfl); (· rfl); (· exact nd); (· exact sv); (· rfl); (· rfl); (· exact nd); simp only [put_some])
 | ((with_reducible apply awZ_qu); (· rfl); (· exact np); (· rfl); (· rfl); (· exact svr); (· rfl); (· exact nd); simp only [put_some])
 | ((with_reducible apply awZ_tn); (· decide +kernel); (· exact np); (· rfl); (· rfl); (· exact nd); (· exact sv); (· rfl); (· rfl); (· exact nd); simp only [put_some])
 | ((with_reducible apply awZ_tu); (· decide +kernel); (· exact np); (· rfl); (· rfl); (· exact svr); (· rfl); (· exact nd); simp only [put_some])
 | ((with_reducible apply awZ_ev); (· decide +kernel); (· rfl); (· exact sv))
 | ((with_reducible apply awZ_guard); (· decide +kernel); (· rfl); (· rfl); (· exact svl); all_goals (intro hg; (try simp only [Bool.not_true, Bool.not_false]); (try simp only [decide_eq_true_eq, decide_eq_false_iff_not, Bool.not_true, Bool.not_false, Bool.not_eq_true', Bool.not_eq_false', Bool.not_not, beq_eq_false_iff_ne, ne_eq, beq_iff_eq, decide_eq_decide] at hg); try (exfalso; omega)))
 | ((first | ((with_reducible apply awO_guard); (· rfl); (· rfl); (· exact sv)) | ((with_reducible apply aw_cond); (· exact sv))); all_goals (intro hg; (try simp only [Bool.not_true, Bool.not_false]); (try simp only [decide_eq_true_eq, decide_eq_false_iff_not, Bool.not_true, Bool.not_false, Bool.not_eq_true', Bool.not_eq_false', Bool.not_not, beq_eq_false_iff_ne, ne_eq, beq_iff_eq, decide_eq_decide] at hg); try (exfalso; omega)))
 | ((with_reducible apply retQ_mk); (· (first | exact .inr rfl | exact .inl rfl)); (· exact sv); (· exact sv); rotate_left; (· rfl)))
            refine LE_mk (0 + 1) ?_ ?_ ?_ sN ?_
            · omega
            · omega
            · exact ⟨rfl, trivial⟩
            · refine ⟨?_, trivial⟩
              show some _ = some _
              rw [map_set_ab, st false (m0.symm)]
      · obtain rfl : k = s.length + 1 := by omega
        repeat' (first
 | ((with_reducible apply awO_ev); (· rfl); (· exact sv))
 | ((with_reducible apply aw_seq); intro _ _)
 | (with_reducible apply aw_region)
 | (with_reducible apply aw_block)
 | ((first | (with_reducible apply awO_nil) | (with_reducible apply aw_exit) | (with_reducible apply aw_skip) | (with_reducible apply aw_ret)); (try simp only [CT, ↓reduceIte, Nat.reduceEqDiff]))
 | ((with_reducible apply awO_y); (· rfl); (· rfl); (· decide); (· exact sv); (· exact sv))
 | ((with_reducible apply awO_n); (· rfl); (· rfl); (· decide); (· exact sv); (· rfl); (· rfl); (· decide))
 | ((with_reducible apply awO_u); (· rfl); (· rfl); (· exact svr); (· rfl); (· decide))
 | ((with_reducible apply aw_cond_true); (· exact sv))
 | ((with_reducible apply aw_cond_false); (· exact sv))
 | ((with_reducible apply awO_un); (· rfl); (· decide); (· exact sv))
 | (refine Kont.go ‹Kont _ _ _ _› _ ?_)
 | ((first | ((with_reducible apply awO_guard); (· rfl); (· rfl); (· exact sv)) | ((with_reducible apply aw_cond); (· exact sv))); all_goals (intro hg; (try simp only [Bool.not_true, Bool.not_false]); (try simp only [decide_eq_true_eq, decide_eq_false_iff_not, Bool.not_true, Bool.not_false, Bool.not_eq_true', Bool.not_eq_false', Bool.not_not, beq_eq_false_iff_ne, ne_eq, beq_iff_eq, decide_eq_decide] at hg); try (exfalso; omega)))
 | ((with_reducible apply retQ_mk); (· (first | exact .inr rfl | exact .inl rfl)); (· exact sv); (· exact sv); rotate_left; (· rfl)))
        all_goals exact endE_mk ⟨rfl, rfl, rfl, rfl, trivial⟩ ⟨rfl, trivial⟩
    · have hrl2 : (rowL p s (i + 1)).length = s.length + 1 := rowP_len p s (i + 1) (s.length + 1)
      simp only [CT, ↓reduceIte, Nat.reduceEqDiff]
      refine Kont.go ‹Kont _ _ _ _› _ ?_
      refine aw_pub 7 24 rfl rfl (by simp [hrl2]) (mapab_data _ _ _) ?_
      rw [List.drop_zero, List.take_of_length_le (by simp [hrl2])]
      refine aw_st svs ?_
      repeat' (first
 | ((with_reducible apply awO_ev); (· rfl); (· exact sv))
 | ((with_reducible apply aw_seq); intro _ _)
 | (with_reducible apply aw_region)
 | (with_reducible apply aw_block)
 | ((first | (with_reducible apply awO_nil) | (with_reducible apply aw_exit) | (with_reducible apply aw_skip) | (with_reducible apply aw_ret)); (try simp only [CT, ↓reduceIte, Nat.reduceEqDiff]))
 | ((with_reducible apply awO_y); (· rfl); (· rfl); (· decide); (· exact sv); (· exact sv))
 | ((with_reducible apply awO_n); (· rfl); (· rfl); (· decide); (· exact sv); (· rfl); (· rfl); (· decide))
 | ((with_reducible apply awO_u); (· rfl); (· rfl); (· exact svr); (· rfl); (· decide))
 | ((with_reducible apply aw_cond_true); (· exact sv))
 | ((with_reducible apply aw_cond_false); (· exact sv))
 | ((with_reducible apply awO_un); (· rfl); (· decide); (· exact sv))
 | (refine Kont.go ‹Kont _ _ _ _› _ ?_)
 | ((first | ((with_reducible apply awO_guard); (· rfl); (· rfl); (· exact sv)) | ((with_reducible apply aw_cond); (· exact sv))); all_goals (intro hg; (try simp only [Bool.not_true, Bool.not_false]); (try simp only [decide_eq_true_eq, decide_eq_false_iff_not, Bool.not_true, Bool.not_false, Bool.not_eq_true', Bool.not_eq_false', Bool.not_not, beq_eq_false_iff_ne, ne_eq, beq_iff_eq, decide_eq_decide] at hg); try (exfalso; omega)))
 | ((with_reducible apply retQ_mk); (· (first | exact .inr rfl | exact .inl rfl)); (· exact sv); (· exact sv); rotate_left; (· rfl)))
      refine LE_mk (i + 1) ?_ ?_ ?_ sN ?_
      · omega
      · omega
      · exact ⟨rfl, rfl, trivial⟩
      · exact trivial
  · obtain rfl : i = p.length := by omega
    repeat' (first
 | ((with_reducible apply awO_ev); (· rfl); (· exact sv))
 | ((with_reducible apply aw_seq); intro _ _)
 | (with_reducible apply aw_region)
 | (with_reducible apply aw_block)
 | ((first | (with_reducible apply awO_nil) | (with_reducible apply aw_exit) | (with_reducible apply aw_skip) | (with_reducible apply aw_ret)); (try simp only [CT, ↓reduceIte, Nat.reduceEqDiff]))
 | ((with_reducible apply awO_y); (· rfl); (· rfl); (· decide); (· exact sv); (· exact sv))
 | ((with_reducible apply awO_n); (· rfl); (· rfl); (· decide); (· exact sv); (· rfl); (· rfl); (· decide))
 | ((with_reducible apply awO_u); (· rfl); (· rfl); (· exact svr); (· rfl); (· decide))
 | ((with_reducible apply aw_cond_true); (· exact sv))
 | ((with_reducible apply aw_cond_false); (· exact sv))
 | ((with_reducible apply awO_un); (· rfl); (· decide); (· exact sv))
 | (refine Kont.go ‹Kont _ _ _ _› _ ?_)
 | ((first | ((with_reducible apply awO_guard); (· rfl); (· rfl); (· exact sv)) | ((with_reducible apply aw_cond); (· exact sv))); all_goals (intro hg; (try simp only [Bool.not_true, Bool.not_false]); (try simp only [decide_eq_true_eq, decide_eq_false_iff_not, Bool.not_true, Bool.not_false, Bool.not_eq_true', Bool.not_eq_false', Bool.not_not, beq_eq_false_iff_ne, ne_eq, beq_iff_eq, decide_eq_decide] at hg); try (exfalso; omega)))
 | ((with_reducible apply retQ_mk); (· (first | exact .inr rfl | exact .inl rfl)); (· exact sv); (· exact sv); rotate_left; (· rfl)))
    all_goals rfl
end Ends
end Go.Proofs.Ytllhcgfdjfmmeaa
