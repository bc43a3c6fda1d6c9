/- Arithmetic expressions: the value of a constant, on the abstract machine. -/
import Derived.Test.YtogmppcfopgkdaaGreatDoorCaE
import Derived.Test.YtogmppcfopgkdaaGreatDoorBit
namespace Go.Proofs.YtogmppcfopgkdaaGreatDoor
open Go.RowKit
set_option linter.unusedVariables false
set_option linter.unusedSimpArgs false
set_option maxRecDepth 100000
set_option maxHeartbeats 8000000
theorem lower_ab (c : UInt8) : Ab Tryz.prog 263 [au c] (au (lowB c)) := by
  by_cases h : 65 ≤ c.toNat ∧ c.toNat ≤ 90
  · have e : lowB c = 32 := by unfold lowB; rw [if_pos h]
    rw [e]
    refine Fn_of_aw (keep := []) Tryz.func263 rfl rfl (by simp [Tryz.ntmps263]) ?_
    simp only [num_cons, num_nil, Tryz.ntmps263, Tryz.results263]
    exact wkB
  · have e : lowB c = 0 := by unfold lowB; rw [if_neg h]
    rw [e]
    refine Fn_of_aw (keep := []) Tryz.func263 rfl rfl (by simp [Tryz.ntmps263]) ?_
    simp only [num_cons, num_nil, Tryz.ntmps263, Tryz.results263]
    exact wkB
theorem idxZ_eq (l : List UInt8) (c : UInt8) : idxZ l c = idxB l c := by
  induction l with
  | nil => rfl
  | cons b l ih => simp only [idxZ, idxB, ih]
theorem value_ab (s : List UInt8) (h0 : 0 < s.length) (hl : s.length ≤ 1000000) : Ab Tryz.prog 236 [az s] (.tp [ai (valZ s).1, ai (valZ s).2]) := by
  have c1 := hasPrefix_ab s [48, 120]
  have c2 := hasPrefix_ab s [48, 88]
  generalize hR : valZ s = R
  unfold valZ at hR
  by_cases hx : [48, 120].isPrefixOf s = true ∨ [48, 88].isPrefixOf s = true
  · have h2 : 2 ≤ s.length := by
      rcases hx with h | h <;> · have := (List.isPrefixOf_iff_prefix.1 h).length_le; simpa using this
    rw [if_pos hx] at hR
    have hdl : (s.drop 2).length = s.length - 2 := List.length_drop
    by_cases he : s.drop 2 = []
    · rw [if_pos he] at hR
      have hel : s.length = 2 := by rw [he] at hdl; simp at hdl; omega
      subst hR
      rcases hx with h | h
      · rw [h] at c1
        refine Fn_of_aw (keep := []) Tryz.func236 rfl rfl (by simp [Tryz.ntmps236]) ?_
        simp only [num_cons, num_nil, Tryz.ntmps236, Tryz.results236]
        exact wkA
      · rw [h] at c2
        cases h1 : [48, 120].isPrefixOf s <;> rw [h1] at c1
        · skip
          refine Fn_of_aw (keep := []) Tryz.func236 rfl rfl (by simp [Tryz.ntmps236]) ?_
          simp only [num_cons, num_nil, Tryz.ntmps236, Tryz.results236]
          exact wkA
        · skip
          refine Fn_of_aw (keep := []) Tryz.func236 rfl rfl (by simp [Tryz.ntmps236]) ?_
          simp only [num_cons, num_nil, Tryz.ntmps236, Tryz.results236]
          exact wkA
    · rw [if_neg he] at hR
      have hel : ¬ (s.drop 2).length = 0 := fun h => he (List.length_eq_zero_iff.1 h)
      rcases hx with h | h
      · rw [h] at c1
        refine Fn_of_aw (keep := []) Tryz.func236 rfl rfl (by simp [Tryz.ntmps236]) ?_
        simp only [num_cons, num_nil, Tryz.ntmps236, Tryz.results236]
        exact wq4
      · rw [h] at c2
        cases h1 : [48, 120].isPrefixOf s with
        | true =>
          rw [h1] at c1
          refine Fn_of_aw (keep := []) Tryz.func236 rfl rfl (by simp [Tryz.ntmps236]) ?_
          simp only [num_cons, num_nil, Tryz.ntmps236, Tryz.results236]
          exact wq4
        | false =>
          rw [h1] at c1
          refine Fn_of_aw (keep := []) Tryz.func236 rfl rfl (by simp [Tryz.ntmps236]) ?_
          simp only [num_cons, num_nil, Tryz.ntmps236, Tryz.results236]
          exact wq4
  · rw [if_neg hx] at hR
    have e1 : [48, 120].isPrefixOf s = false := by cases h : [48, 120].isPrefixOf s <;> simp_all
    have e2 : [48, 88].isPrefixOf s = false := by cases h : [48, 88].isPrefixOf s <;> simp_all
    rw [e1] at c1
    rw [e2] at c2
    have hne : ¬ s.length = 0 := by omega
    by_cases h8 : s[0].toNat = 48
    · rw [if_pos (by cases s with
        | nil => simp at h0
        | cons c r => simp only [List.head?_cons, Option.some.injEq]; exact UInt8.toNat_inj.1 h8)] at hR
      refine Fn_of_aw (keep := []) Tryz.func236 rfl rfl (by simp [Tryz.ntmps236]) ?_
      simp only [num_cons, num_nil, Tryz.ntmps236, Tryz.results236]
      repeat' (first
 | ((with_reducible apply awO_ev); (· rfl); (· exact sv))
 | ((with_reducible apply aw_seq); intro _ _)
 | (with_reducible apply aw_region)
 | (with_reducible apply aw_block)
 | ((with_reducible first | apply awO_nil | apply aw_exit | apply aw_skip | apply aw_ret); (try simp only [CT, ↓reduceIte, Nat.reduceEqDiff]))
 | ((with_reducible apply awO_y); (· rfl); (· rfl); (· decide); (· exact sv); (· exact sv))
 | ((with_reducible apply aw_cond_false); (· exact sv))
 | ((with_reducible apply awO_un); (· rfl); (· decide); (· exact sv))
 | (refine Kont.go ‹Kont _ _ _ _› _ ?_)
 | ((with_reducible apply awO_c); (· rfl); (· rfl); (· exact sv); (· (first | exact c1 | exact c2)); (· rfl); (· rfl); (· rfl); (· decide))
 | ((first | ((with_reducible apply awO_guardN); (· rfl); (· rfl); (· exact sv); (· exact nB)) | ((with_reducible apply aw_condN); (· exact sv))); (· exact pN); (· exact pN); all_goals (intro hg; try (exfalso; omega))))
      refine aw_loopF (fun x : Nat × Int × Bool => [(8, ai x.1), (6, ai x.2.1), (7, ab x.2.2)]) (fun _ => []) (fun x => x.1 ≤ s.length ∧ 0 ≤ x.2.1 ∧ x.2.1 ≤ 9223372036854775807 ∧ vlL 8 (s.drop x.1) x.2.1 x.2.2 = R) (fun x => s.length - x.1) (0, 0, false) ⟨Nat.zero_le _, by decide, by decide, hR⟩ ?_ ?_ ?_
      · exact ⟨rfl, rfl, rfl, trivial⟩
      · trivial
      rintro ⟨i, n, large⟩ ⟨hi, hn0, hn1, hI⟩
      simp only at hi hn0 hn1 hI
      clear hR
      (simp only [LP, List.append_assoc, List.nil_append, List.cons_append, List.append_nil, List.contains_cons, List.contains_nil, Nat.reduceBEq, Bool.or_false, Bool.or_true, Bool.true_or, Bool.false_or, ↓reduceIte, Bool.false_eq_true])
      by_cases hil : i < s.length
      rotate_left
      · rw [List.drop_eq_nil_of_le (by omega)] at hI
        cases large with
        | true =>
          have hI : (0, 14) = R := hI
          subst hI
          exact wkA
        | false =>
          have hI : (n, 0) = R := hI
          subst hI
          exact wkA
      have hlt : i < (s).length := hil
      rw [List.drop_eq_getElem_cons hlt, vlL] at hI
      have hd := dgZ_lt (s)[i]
      have c4 := lower_ab (s)[i]
      have c5 : Ab Tryz.prog 56 [az hexL, au ((s)[i] ||| lowB (s)[i])] (ai (dgZ (s)[i])) := by
        have := indexByte_ab hexL ((s)[i] ||| lowB (s)[i])
        unfold dgZ
        rw [idxZ_eq]
        exact this
      generalize hg : dgZ (s)[i] = d at *
      by_cases hc : d < 0 ∨ 8 ≤ d
      · rw [if_pos hc] at hI
        subst hI
        exact wkA
      rw [if_neg hc] at hI
      have hq : (9223372036854775807 - d) / 8 = (9223372036854775807 - d).tdiv 8 := by
        rw [Int.tdiv_eq_ediv_of_nonneg (by omega)]
      have hq2 : (9223372036854775807 - d) / 8 ≤ 9223372036854775807 := by omega
      cases large with
      | true =>
        rw [if_pos (.inl rfl)] at hI
        exact wq5
      | false =>
        by_cases hl2 : (9223372036854775807 - d) / 8 < n
        · rw [if_pos (.inr hl2)] at hI
          exact wq5
        · rw [if_neg (by simpa using hl2)] at hI
          have hb1 : n * 8 + d ≤ 9223372036854775807 := by omega
          repeat' (first
 | ((with_reducible apply awO_ev); (· rfl); (· exact sv))
 | ((with_reducible apply aw_seq); intro _ _)
 | (with_reducible apply aw_region)
 | (with_reducible apply aw_block)
 | ((with_reducible first | apply awO_nil | apply aw_exit | apply aw_skip | apply aw_ret); (try simp only [CT, ↓reduceIte, Nat.reduceEqDiff]))
 | ((with_reducible apply awO_y); (· rfl); (· rfl); (· decide); (· exact sv); (· exact sv))
 | (refine Kont.go ‹Kont _ _ _ _› _ ?_)
 | ((with_reducible apply aw_draw); (· decide +kernel); (simp only [List.size_toArray, List.length_cons, List.length_nil, Nat.reduceAdd]))
 | ((with_reducible apply awY_done); (· decide +kernel); (try simp only [CT, ↓reduceIte, Nat.reduceEqDiff]))
 | ((with_reducible apply awY_q); (· exact sQ); (· exact np); (· exact svg); (· rfl); (· exact sv))
 | ((with_reducible apply awI_c); (· exact svg); (· rfl); (· rfl); (· exact sv); (· (first | exact c4 | exact c5)); (· rfl); (· rfl); (· rfl); (· exact nd); simp only [put_some])
 | ((first | ((with_reducible apply awO_guardN); (· rfl); (· rfl); (· exact sv); (· exact nB)) | ((with_reducible apply aw_condN); (· exact sv))); (· exact pN); (· exact pN); all_goals (intro hg; try (exfalso; omega)))
 | ((with_reducible apply awY_p); (· exact sH); (first | ((with_reducible apply awP_1); (· decide +kernel)) | ((with_reducible apply awP_2); (· exact sP)))))
          all_goals
            refine LE_mk ((i + 1, n * 8 + d, false)) ?_ ?_ sN sN sN
            · exact ⟨hlt, by show 0 ≤ n * 8 + d; omega, hb1, hI⟩
            · show _ - (i + 1) < _ - i
              omega
    · rw [if_neg (by cases s with
        | nil => simp at h0
        | cons c r => simp only [List.head?_cons, Option.some.injEq]; exact fun h => h8 (by simp [h]))] at hR
      refine Fn_of_aw (keep := []) Tryz.func236 rfl rfl (by simp [Tryz.ntmps236]) ?_
      simp only [num_cons, num_nil, Tryz.ntmps236, Tryz.results236]
      repeat' (first
 | ((with_reducible apply awO_ev); (· rfl); (· exact sv))
 | ((with_reducible apply aw_seq); intro _ _)
 | (with_reducible apply aw_region)
 | (with_reducible apply aw_block)
 | ((with_reducible first | apply awO_nil | apply aw_exit | apply aw_skip | apply aw_ret); (try simp only [CT, ↓reduceIte, Nat.reduceEqDiff]))
 | ((with_reducible apply awO_y); (· rfl); (· rfl); (· decide); (· exact sv); (· exact sv))
 | ((with_reducible apply aw_cond_false); (· exact sv))
 | ((with_reducible apply awO_un); (· rfl); (· decide); (· exact sv))
 | (refine Kont.go ‹Kont _ _ _ _› _ ?_)
 | ((with_reducible apply awO_c); (· rfl); (· rfl); (· exact sv); (· (first | exact c1 | exact c2)); (· rfl); (· rfl); (· rfl); (· decide))
 | ((first | ((with_reducible apply awO_guardN); (· rfl); (· rfl); (· exact sv); (· exact nB)) | ((with_reducible apply aw_condN); (· exact sv))); (· exact pN); (· exact pN); all_goals (intro hg; try (exfalso; omega))))
      refine aw_loopF (fun x : Nat × Int × Bool => [(8, ai x.1), (6, ai x.2.1), (7, ab x.2.2)]) (fun _ => []) (fun x => x.1 ≤ s.length ∧ 0 ≤ x.2.1 ∧ x.2.1 ≤ 9223372036854775807 ∧ vlL 10 (s.drop x.1) x.2.1 x.2.2 = R) (fun x => s.length - x.1) (0, 0, false) ⟨Nat.zero_le _, by decide, by decide, hR⟩ ?_ ?_ ?_
      · exact ⟨rfl, rfl, rfl, trivial⟩
      · trivial
      rintro ⟨i, n, large⟩ ⟨hi, hn0, hn1, hI⟩
      simp only at hi hn0 hn1 hI
      clear hR
      (simp only [LP, List.append_assoc, List.nil_append, List.cons_append, List.append_nil, List.contains_cons, List.contains_nil, Nat.reduceBEq, Bool.or_false, Bool.or_true, Bool.true_or, Bool.false_or, ↓reduceIte, Bool.false_eq_true])
      by_cases hil : i < s.length
      rotate_left
      · rw [List.drop_eq_nil_of_le (by omega)] at hI
        cases large with
        | true =>
          have hI : (0, 14) = R := hI
          subst hI
          exact wkA
        | false =>
          have hI : (n, 0) = R := hI
          subst hI
          exact wkA
      have hlt : i < (s).length := hil
      rw [List.drop_eq_getElem_cons hlt, vlL] at hI
      have hd := dgZ_lt (s)[i]
      have c4 := lower_ab (s)[i]
      have c5 : Ab Tryz.prog 56 [az hexL, au ((s)[i] ||| lowB (s)[i])] (ai (dgZ (s)[i])) := by
        have := indexByte_ab hexL ((s)[i] ||| lowB (s)[i])
        unfold dgZ
        rw [idxZ_eq]
        exact this
      generalize hg : dgZ (s)[i] = d at *
      by_cases hc : d < 0 ∨ 10 ≤ d
      · rw [if_pos hc] at hI
        subst hI
        exact wkA
      rw [if_neg hc] at hI
      have hq : (9223372036854775807 - d) / 10 = (9223372036854775807 - d).tdiv 10 := by
        rw [Int.tdiv_eq_ediv_of_nonneg (by omega)]
      have hq2 : (9223372036854775807 - d) / 10 ≤ 9223372036854775807 := by omega
      cases large with
      | true =>
        rw [if_pos (.inl rfl)] at hI
        exact wq5
      | false =>
        by_cases hl2 : (9223372036854775807 - d) / 10 < n
        · rw [if_pos (.inr hl2)] at hI
          exact wq5
        · rw [if_neg (by simpa using hl2)] at hI
          have hb1 : n * 10 + d ≤ 9223372036854775807 := by omega
          repeat' (first
 | ((with_reducible apply awO_ev); (· rfl); (· exact sv))
 | ((with_reducible apply aw_seq); intro _ _)
 | (with_reducible apply aw_region)
 | (with_reducible apply aw_block)
 | ((with_reducible first | apply awO_nil | apply aw_exit | apply aw_skip | apply aw_ret); (try simp only [CT, ↓reduceIte, Nat.reduceEqDiff]))
 | ((with_reducible apply awO_y); (· rfl); (· rfl); (· decide); (· exact sv); (· exact sv))
 | (refine Kont.go ‹Kont _ _ _ _› _ ?_)
 | ((with_reducible apply aw_draw); (· decide +kernel); (simp only [List.size_toArray, List.length_cons, List.length_nil, Nat.reduceAdd]))
 | ((with_reducible apply awY_done); (· decide +kernel); (try simp only [CT, ↓reduceIte, Nat.reduceEqDiff]))
 | ((with_reducible apply awY_q); (· exact sQ); (· exact np); (· exact svg); (· rfl); (· exact sv))
 | ((with_reducible apply awI_c); (· exact svg); (· rfl); (· rfl); (· exact sv); (· (first | exact c4 | exact c5)); (· rfl); (· rfl); (· rfl); (· exact nd); simp only [put_some])
 | ((first | ((with_reducible apply awO_guardN); (· rfl); (· rfl); (· exact sv); (· exact nB)) | ((with_reducible apply aw_condN); (· exact sv))); (· exact pN); (· exact pN); all_goals (intro hg; try (exfalso; omega)))
 | ((with_reducible apply awY_p); (· exact sH); (first | ((with_reducible apply awP_1); (· decide +kernel)) | ((with_reducible apply awP_2); (· exact sP)))))
          all_goals
            refine LE_mk ((i + 1, n * 10 + d, false)) ?_ ?_ sN sN sN
            · exact ⟨hlt, by show 0 ≤ n * 10 + d; omega, hb1, hI⟩
            · show _ - (i + 1) < _ - i
              omega
end Go.Proofs.YtogmppcfopgkdaaGreatDoor
