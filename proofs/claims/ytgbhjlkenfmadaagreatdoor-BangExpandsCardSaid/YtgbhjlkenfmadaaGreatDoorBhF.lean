/- The document's bang: chosen, on the abstract machine. -/
import Derived.Test.YtgbhjlkenfmadaaGreatDoorBhE
import Derived.Test.YtgbhjlkenfmadaaGreatDoorBgN
namespace Go.Proofs.YtgbhjlkenfmadaaGreatDoor
open Go.RowKit
set_option linter.unusedVariables false
set_option linter.unusedSimpArgs false
set_option maxRecDepth 100000
set_option maxHeartbeats 16000000
theorem rchosen_ab (line s : List UInt8) (i : Nat) (z : Int) (hz : z = i) (hi : i ≤ s.length) (hs : s.length ≤ 4096) (hl : line.length ≤ 4096) :
    ∃ j : Int, Ab Tryz.prog 47 [az line, az s, ai z] (.tp [az (choF wordsF line s i).1, ai j, ai (choF wordsF line s i).2.2]) ∧ ((choF wordsF line s i).2.2 = 0 → j = (choF wordsF line s i).2.1) := by
  subst hz
  have c1 := rwords4_ab line (by omega)
  have hn := words_ok.num line
  have hx := words_ok.len line
  have e0 : choF wordsF line s i = if (desF s i ((wordsF line).length - 1)).2.2.2 = false then (line, i, 0)
      else if (desF s i ((wordsF line).length - 1)).1 < 0 ∨ ((wordsF line).length : Int) ≤ (desF s i ((wordsF line).length - 1)).2.1 ∨ (desF s i ((wordsF line).length - 1)).2.1 + 1 < (desF s i ((wordsF line).length - 1)).1 then ([], 0, 8)
      else (jnB (subW (wordsF line) (desF s i ((wordsF line).length - 1)).1 (desF s i ((wordsF line).length - 1)).2.1), (desF s i ((wordsF line).length - 1)).2.2.1, 0) := rfl
  generalize wordsF line = W at *
  obtain ⟨d, c2, hd1, hd2⟩ := rdes_ab s i i ((W.length : Int) - 1) rfl hi (by omega) (by omega)
  have hok := desF_ok (last := (W.length : Int) - 1) hi (by omega)
  generalize desF s i ((W.length : Int) - 1) = d' at *
  obtain ⟨a, b, k, ok⟩ := d
  cases ok with
  | false =>
    simp only at hd1
    have e : choF wordsF line s i = (line, i, 0) := by rw [e0, if_pos hd1.symm]
    rw [e]
    refine ⟨i, ?_, fun _ => rfl⟩
    refine Fn_of_aw (keep := []) Tryz.func47 rfl rfl (by simp [Tryz.ntmps47]) ?_
    simp only [num_cons, num_nil, Tryz.ntmps47, Tryz.results47]
    repeat' (first
 | ((with_reducible apply awO_ev); (· rfl); (· exact sv))
 | ((with_reducible apply aw_seq); intro _ _)
 | (with_reducible apply aw_region)
 | ((with_reducible first | apply awO_nil | apply aw_exit | apply aw_skip | apply aw_ret); (try simp only [CT, ↓reduceIte, Nat.reduceEqDiff]))
 | ((with_reducible apply aw_cond_true); (· exact sv))
 | (refine Kont.go ‹Kont _ _ _ _› _ ?_)
 | ((with_reducible apply awO_c); (· rfl); (· rfl); (· exact sv); (· (first | exact c1 | exact c2)); (· rfl); (· rfl); (· rfl); (· decide))
 | ((with_reducible apply retQ_mk); (· exact rI); (· exact sv); (· exact sv); rotate_left; (· rfl)))
    all_goals first | rfl | exact tp3 rfl (by omega) rfl
  | true =>
    simp only at hd1
    have hd3 := hd2 hd1.symm
    subst hd3
    have hok := hok rfl
    simp only at hok c2 e0
    rw [if_neg (by decide)] at e0
    by_cases h : a < 0 ∨ (W.length : Int) ≤ b ∨ b + 1 < a
    · have e : choF wordsF line s i = ([], 0, 8) := by rw [e0, if_pos h]
      rw [e]
      refine ⟨i, ?_, fun h => by cases h⟩
      refine Fn_of_aw (keep := []) Tryz.func47 rfl rfl (by simp [Tryz.ntmps47]) ?_
      simp only [num_cons, num_nil, Tryz.ntmps47, Tryz.results47]
      repeat' (first
 | ((with_reducible apply awO_ev); (· rfl); (· exact sv))
 | ((with_reducible apply aw_seq); intro _ _)
 | (with_reducible apply aw_region)
 | ((with_reducible first | apply awO_nil | apply aw_exit | apply aw_skip | apply aw_ret); (try simp only [CT, ↓reduceIte, Nat.reduceEqDiff]))
 | ((with_reducible apply awO_y); (· rfl); (· rfl); (· decide); (· exact sv); (· exact sv))
 | ((with_reducible apply awO_n); (· rfl); (· rfl); (· decide); (· exact sv); (· rfl); (· rfl); (· decide))
 | ((with_reducible apply aw_cond_true); (· exact sv))
 | ((with_reducible apply aw_cond_false); (· exact sv))
 | (refine Kont.go ‹Kont _ _ _ _› _ ?_)
 | ((with_reducible apply awO_c); (· rfl); (· rfl); (· exact sv); (· (first | exact c1 | exact c2)); (· rfl); (· rfl); (· rfl); (· decide))
 | ((first | ((with_reducible apply awO_guardN); (· rfl); (· rfl); (· exact sv); (· exact nB)) | ((with_reducible apply aw_condN); (· exact sv))); (· exact pN); (· exact pN); all_goals (intro hg; try (exfalso; omega)))
 | ((with_reducible apply retQ_mk); (· exact rI); (· exact sv); (· exact sv); rotate_left; (· rfl)))
      all_goals first | rfl | exact tp3 rfl (by omega) rfl
    · have e : choF wordsF line s i = (jnB (subW W a b), k, 0) := by rw [e0, if_neg h]
      rw [e]
      refine ⟨k, ?_, fun _ => rfl⟩
      clear e e0
      obtain ⟨m, rfl⟩ : ∃ m : Nat, a = m := ⟨a.toNat, by omega⟩
      obtain ⟨B, rfl⟩ : ∃ B : Nat, b = (B : Int) - 1 := ⟨(b + 1).toNat, by omega⟩
      have es : subW W m ((B : Int) - 1) = (W.take B).drop m := by unfold subW; rw [Int.toNat_natCast, show ((B : Int) - 1 + 1).toNat = B from by omega]
      rw [es]
      generalize hR : jnB ((W.take B).drop m) = R
      refine Fn_of_aw (keep := []) Tryz.func47 rfl rfl (by simp [Tryz.ntmps47]) ?_
      simp only [num_cons, num_nil, Tryz.ntmps47, Tryz.results47]
      repeat' (first
 | ((with_reducible apply awO_ev); (· rfl); (· exact sv))
 | ((with_reducible apply aw_seq); intro _ _)
 | (with_reducible apply aw_region)
 | (with_reducible apply aw_block)
 | ((with_reducible first | apply awO_nil | apply aw_exit | apply aw_skip | apply aw_ret); (try simp only [CT, ↓reduceIte, Nat.reduceEqDiff]))
 | ((with_reducible apply awO_y); (· rfl); (· rfl); (· decide); (· exact sv); (· exact sv))
 | ((with_reducible apply aw_cond_false); (· exact sv))
 | (refine Kont.go ‹Kont _ _ _ _› _ ?_)
 | ((with_reducible apply awO_c); (· rfl); (· rfl); (· exact sv); (· (first | exact c1 | exact c2)); (· rfl); (· rfl); (· rfl); (· decide))
 | ((first | ((with_reducible apply awO_guardN); (· rfl); (· rfl); (· exact sv); (· exact nB)) | ((with_reducible apply aw_condN); (· exact sv))); (· exact pN); (· exact pN); all_goals (intro hg; try (exfalso; omega))))
      all_goals
        refine aw_loopF (fun x : Nat × List UInt8 => [(15, az x.2), (16, ai x.1)]) (fun _ => []) (fun x => m ≤ x.1 ∧ x.1 ≤ B ∧ x.2 = jnB ((W.take x.1).drop m)) (fun x => B - x.1) (m, []) ⟨Nat.le_refl _, by simp only; omega, by simp [jnB]⟩ ?_ ?_ ?_
        · exact ⟨rfl, rfl, trivial⟩
        · exact trivial
        rintro ⟨n, t⟩ ⟨h1, h2, hI⟩
        simp only at h1 h2 hI
        have htl : t.length ≤ 17000000 := by
          have k1 := jnB_len (m := 4096) ((W.take n).drop m) (fun x hx' => Nat.le_trans (hx x (List.mem_of_mem_take (List.mem_of_mem_drop hx'))) hl)
          rw [← hI] at k1
          have k2 : ((W.take n).drop m).length ≤ 4098 := by simp only [List.length_drop, List.length_take]; omega
          omega
        (simp only [LP, List.append_assoc, List.nil_append, List.cons_append, List.append_nil, List.contains_cons, List.contains_nil, Nat.reduceBEq, Bool.or_false, Bool.or_true, Bool.true_or, Bool.false_or, ↓reduceIte, Bool.false_eq_true])
        by_cases hnB : n < B
        · have hnW : n < W.length := by omega
          have hwl := hx _ (List.getElem_mem hnW)
          have hst : (W.take (n + 1)).drop m = (W.take n).drop m ++ [W[n]] := by
            rw [List.take_succ_eq_append_getElem hnW, List.drop_append_of_le_length (by simp only [List.length_take]; omega)]
          by_cases hnm : n = m
          · have ht : t = [] := by rw [hI, hnm, List.drop_eq_nil_of_le (by simp only [List.length_take]; omega)]; rfl
            have hst2 : jnB ((W.take (n + 1)).drop m) = t ++ W[n] := by
              rw [hst, ht, show (W.take n).drop m = [] from List.drop_eq_nil_of_le (by simp only [List.length_take]; omega)]; rfl
            repeat' (first
 | ((with_reducible apply awO_ev); (· rfl); (· exact sv))
 | ((with_reducible apply aw_seq); intro _ _)
 | (with_reducible apply aw_region)
 | (with_reducible apply aw_block)
 | ((with_reducible first | apply awO_nil | apply aw_exit | apply aw_skip | apply aw_ret); (try simp only [CT, ↓reduceIte, Nat.reduceEqDiff]))
 | (refine Kont.go ‹Kont _ _ _ _› _ ?_)
 | ((first | ((with_reducible apply awO_guardN); (· rfl); (· rfl); (· exact sv); (· exact nB)) | ((with_reducible apply aw_condN); (· exact sv))); (· exact pN); (· exact pN); all_goals (intro hg; try (exfalso; omega))))
            all_goals refine LE_mk (n + 1, t ++ W[n]) ⟨by simp only; omega, by simp only; omega, hst2.symm⟩ (by simp only; omega) sN sN sN
          · have hst2 : jnB ((W.take (n + 1)).drop m) = t ++ [32] ++ W[n] := by
              have hne : ¬ (W.take n).drop m = [] := by
                intro h
                have := congrArg List.length h
                simp only [List.length_drop, List.length_take, List.length_nil] at this
                omega
              rw [hst, jnB_snoc, if_neg hne, hI]
              simp
            repeat' (first
 | ((with_reducible apply awO_ev); (· rfl); (· exact sv))
 | ((with_reducible apply aw_seq); intro _ _)
 | (with_reducible apply aw_region)
 | (with_reducible apply aw_block)
 | ((with_reducible first | apply awO_nil | apply aw_exit | apply aw_skip | apply aw_ret); (try simp only [CT, ↓reduceIte, Nat.reduceEqDiff]))
 | (refine Kont.go ‹Kont _ _ _ _› _ ?_)
 | ((first | ((with_reducible apply awO_guardN); (· rfl); (· rfl); (· exact sv); (· exact nB)) | ((with_reducible apply aw_condN); (· exact sv))); (· exact pN); (· exact pN); all_goals (intro hg; try (exfalso; omega))))
            all_goals refine LE_mk (n + 1, t ++ [32] ++ W[n]) ⟨by simp only; omega, by simp only; omega, hst2.symm⟩ (by simp only; omega) sN sN sN
        · have hRt : R = t := by rw [hI, ← hR, show n = B from by omega]
          repeat' (first
 | ((with_reducible apply awO_ev); (· rfl); (· exact sv))
 | ((with_reducible apply aw_seq); intro _ _)
 | (with_reducible apply aw_region)
 | ((with_reducible first | apply awO_nil | apply aw_exit | apply aw_skip | apply aw_ret); (try simp only [CT, ↓reduceIte, Nat.reduceEqDiff]))
 | (refine Kont.go ‹Kont _ _ _ _› _ ?_)
 | ((first | ((with_reducible apply awO_guardN); (· rfl); (· rfl); (· exact sv); (· exact nB)) | ((with_reducible apply aw_condN); (· exact sv))); (· exact pN); (· exact pN); all_goals (intro hg; try (exfalso; omega)))
 | ((with_reducible apply retQ_mk); (· exact rI); (· exact sv); (· exact sv); rotate_left; (· rfl)))
          all_goals first | rfl | exact tp3 hRt.symm (by omega) rfl
end Go.Proofs.YtgbhjlkenfmadaaGreatDoor
