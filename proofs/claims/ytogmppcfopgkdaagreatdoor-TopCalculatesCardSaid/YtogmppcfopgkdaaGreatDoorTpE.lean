/- jobshelltop: small functions, on the abstract machine. -/
import Derived.Test.YtogmppcfopgkdaaGreatDoorXpH
import Derived.Lib.ItoaMem
import Derived.Lib.ItoaLen
namespace Go.Proofs.YtogmppcfopgkdaaGreatDoor
open Go.RowKit
set_option linter.unusedVariables false
set_option linter.unusedSimpArgs false
set_option maxRecDepth 100000
set_option maxHeartbeats 8000000
theorem any_drop {s : List UInt8} {i : Nat} (h : i < s.length) (c : UInt8) : (s.drop i).any (· == c) = ((s[i] == c) || (s.drop (i + 1)).any (· == c)) := by
  rw [List.drop_eq_getElem_cons h]; rfl
theorem sub_one {s : List UInt8} {i : Nat} (h : i < s.length) : List.take (((i : Int) + 1).toNat - i) (List.drop i s) = [s[i]] := by
  rw [show ((i : Int) + 1).toNat - i = 1 by omega, List.drop_eq_getElem_cons h]
  rfl
theorem sub_one2 {s : List UInt8} {i : Nat} (h : i < s.length) : List.take (i + 1 - i) (List.drop i s) = [s[i]] := by
  rw [show i + 1 - i = 1 by omega, List.drop_eq_getElem_cons h]
  rfl
theorem has_ab (s : List UInt8) (c : UInt8) (hs : s.length ≤ 10000) : Ab Tryz.prog 13 [az s, az [c]] (ab (s.any (· == c))) := by
  generalize hR : s.any (· == c) = R
  refine Fn_of_aw (keep := []) Tryz.func13 rfl rfl (by simp [Tryz.ntmps13]) ?_
  simp only [num_cons, num_nil, Tryz.ntmps13, Tryz.results13]
  repeat' (first
 | ((with_reducible apply awO_ev); (· rfl); (· exact sv))
 | ((with_reducible apply aw_seq); intro _ _)
 | (with_reducible apply aw_region)
 | (with_reducible apply aw_block)
 | ((with_reducible first | apply awO_nil | apply aw_exit | apply aw_skip | apply aw_ret); (try simp only [CT, ↓reduceIte, Nat.reduceEqDiff]))
 | (refine Kont.go ‹Kont _ _ _ _› _ ?_))
  refine aw_loopF (fun i : Nat => [(5, ai i)]) (fun _ => []) (fun i => i ≤ s.length ∧ R = (s.drop i).any (· == c)) (fun i => s.length - i) 0 ⟨Nat.zero_le _, hR.symm⟩ ?_ ?_ ?_
  · exact ⟨rfl, trivial⟩
  · exact trivial
  rintro i ⟨hi, hI⟩
  clear hR
  (simp only [LP, List.append_assoc, List.nil_append, List.cons_append, List.append_nil, List.contains_cons, List.contains_nil, Nat.reduceBEq, Bool.or_false, Bool.or_true, Bool.true_or, Bool.false_or, ↓reduceIte, Bool.false_eq_true])
  by_cases hil : i < s.length
  · rw [any_drop hil] at hI
    have ht := sub_one2 hil
    by_cases hc : s[i] = c
    · have hR : R = true := by rw [hI, hc]; simp
      subst hR
      repeat' (first
 | ((with_reducible apply awO_ev); (· rfl); (· exact sv))
 | ((with_reducible apply aw_seq); intro _ _)
 | (with_reducible apply aw_region)
 | (with_reducible apply aw_block)
 | ((with_reducible first | apply awO_nil | apply aw_exit | apply aw_skip | apply aw_ret); (try simp only [CT, ↓reduceIte, Nat.reduceEqDiff]))
 | (refine Kont.go ‹Kont _ _ _ _› _ ?_)
 | ((first | ((with_reducible apply awO_guardN); (· rfl); (· rfl); (· exact sv); (· exact nB)) | ((with_reducible apply aw_condN); (· exact sv))); (· exact pN); (· exact pN); all_goals (intro hg; try (exfalso; omega)))
 | ((with_reducible apply retQ_mk); (· exact rI); (· exact sv); (· exact sv); rotate_left; (· rfl)))
      all_goals first | rfl | (exfalso; exact hg (by rw [ht, hc]))
    · rw [show (s[i] == c) = false by simpa using hc, Bool.false_or] at hI
      repeat' (first
 | ((with_reducible apply awO_ev); (· rfl); (· exact sv))
 | ((with_reducible apply aw_seq); intro _ _)
 | (with_reducible apply aw_region)
 | (with_reducible apply aw_block)
 | ((with_reducible first | apply awO_nil | apply aw_exit | apply aw_skip | apply aw_ret); (try simp only [CT, ↓reduceIte, Nat.reduceEqDiff]))
 | (refine Kont.go ‹Kont _ _ _ _› _ ?_)
 | ((first | ((with_reducible apply awO_guardN); (· rfl); (· rfl); (· exact sv); (· exact nB)) | ((with_reducible apply aw_condN); (· exact sv))); (· exact pN); (· exact pN); all_goals (intro hg; try (exfalso; omega)))
 | ((with_reducible apply retQ_mk); (· exact rI); (· exact sv); (· exact sv); rotate_left; (· rfl)))
      all_goals first
        | (exfalso; rw [ht] at hg; exact hc (by injection hg))
        | (refine LE_mk (i + 1) ?_ ?_ sN sN sN
           · exact ⟨hil, hI⟩
           · omega)
  · obtain rfl : i = s.length := by omega
    have hR : R = false := by rw [hI, List.drop_length]; rfl
    subst hR
    exact wkB
def madB (s B : List UInt8) : Bool := s.all fun c => B.any (· == c)
theorem mad_drop {s B : List UInt8} {i : Nat} (h : i < s.length) : madB (s.drop i) B = (B.any (· == s[i]) && madB (s.drop (i + 1)) B) := by
  unfold madB
  rw [List.drop_eq_getElem_cons h]; rfl
theorem made_long (s B : List UInt8) (n : Nat) (hn : n < s.length) (hs : s.length ≤ 9000000000000000) : Ab Tryz.prog 4 [az s, az B, ai n] (ab false) := by
  refine Fn_of_aw (keep := []) Tryz.func4 rfl rfl (by simp [Tryz.ntmps4]) ?_
  simp only [num_cons, num_nil, Tryz.ntmps4, Tryz.results4]
  exact wkB
theorem made_ab (s B : List UInt8) (n : Nat) (hn : s.length ≤ n) (hs : n ≤ 10000) (hB : B.length ≤ 10000) : Ab Tryz.prog 4 [az s, az B, ai n] (ab (madB s B)) := by
  generalize hR : madB s B = R
  refine Fn_of_aw (keep := []) Tryz.func4 rfl rfl (by simp [Tryz.ntmps4]) ?_
  simp only [num_cons, num_nil, Tryz.ntmps4, Tryz.results4]
  repeat' (first
 | ((with_reducible apply awO_ev); (· rfl); (· exact sv))
 | ((with_reducible apply aw_seq); intro _ _)
 | (with_reducible apply aw_region)
 | (with_reducible apply aw_block)
 | ((with_reducible first | apply awO_nil | apply aw_exit | apply aw_skip | apply aw_ret); (try simp only [CT, ↓reduceIte, Nat.reduceEqDiff]))
 | (refine Kont.go ‹Kont _ _ _ _› _ ?_)
 | ((first | ((with_reducible apply awO_guardN); (· rfl); (· rfl); (· exact sv); (· exact nB)) | ((with_reducible apply aw_condN); (· exact sv))); (· exact pN); (· exact pN); all_goals (intro hg; try (exfalso; omega))))
  refine aw_loopF (fun i : Nat => [(14, ai i)]) (fun _ => []) (fun i => i ≤ s.length ∧ R = madB (s.drop i) B) (fun i => s.length - i) 0 ⟨Nat.zero_le _, hR.symm⟩ ?_ ?_ ?_
  · exact ⟨rfl, trivial⟩
  · exact trivial
  rintro i ⟨hi, hI⟩
  clear hR
  (simp only [LP, List.append_assoc, List.nil_append, List.cons_append, List.append_nil, List.contains_cons, List.contains_nil, Nat.reduceBEq, Bool.or_false, Bool.or_true, Bool.true_or, Bool.false_or, ↓reduceIte, Bool.false_eq_true])
  by_cases hil : i < s.length
  · rw [mad_drop hil] at hI
    have ht := sub_one hil
    have c1 := has_ab B s[i] hB
    have c2 := c1
    rw [← ht] at c1
    rw [← sub_one2 hil] at c2
    cases hb : B.any (· == s[i]) with
    | true =>
      rw [hb, Bool.true_and] at hI
      rw [hb] at c1 c2
      repeat' (first
 | ((with_reducible apply awO_ev); (· rfl); (· exact sv))
 | ((with_reducible apply aw_seq); intro _ _)
 | (with_reducible apply aw_region)
 | (with_reducible apply aw_block)
 | ((with_reducible first | apply awO_nil | apply aw_exit | apply aw_skip | apply aw_ret); (try simp only [CT, ↓reduceIte, Nat.reduceEqDiff]))
 | ((with_reducible apply aw_cond_false); (· exact sv))
 | (refine Kont.go ‹Kont _ _ _ _› _ ?_)
 | ((with_reducible apply awO_c); (· rfl); (· rfl); (· exact sv); (· (first | exact c1 | exact c2)); (· rfl); (· rfl); (· rfl); (· decide))
 | ((first | ((with_reducible apply awO_guardN); (· rfl); (· rfl); (· exact sv); (· exact nB)) | ((with_reducible apply aw_condN); (· exact sv))); (· exact pN); (· exact pN); all_goals (intro hg; try (exfalso; omega))))
      all_goals
        refine LE_mk (i + 1) ?_ ?_ sN sN sN
        · exact ⟨hil, hI⟩
        · omega
    | false =>
      rw [hb, Bool.false_and] at hI
      rw [hb] at c1 c2
      subst hI
      exact wkB
  · obtain rfl : i = s.length := by omega
    have hR : R = true := by rw [hI, List.drop_length]; rfl
    subst hR
    exact wkB
theorem same_ab (C : List (List UInt8)) (hC : C.length ≤ 10000) : Ab Tryz.prog 15 [.rd C.length (C.map az), .rd C.length (C.map az)] (ab true) := by
  refine Fn_of_aw (keep := []) Tryz.func15 rfl rfl (by simp [Tryz.ntmps15]) ?_
  simp only [num_cons, num_nil, Tryz.ntmps15, Tryz.results15]
  repeat' (first
 | ((with_reducible apply awO_ev); (· rfl); (· exact sv))
 | ((with_reducible apply aw_seq); intro _ _)
 | (with_reducible apply aw_region)
 | (with_reducible apply aw_block)
 | ((with_reducible first | apply awO_nil | apply aw_exit | apply aw_skip | apply aw_ret); (try simp only [CT, ↓reduceIte, Nat.reduceEqDiff]))
 | ((with_reducible apply aw_cond_false); (· exact sv))
 | (refine Kont.go ‹Kont _ _ _ _› _ ?_))
  refine aw_loopF (fun i : Nat => [(13, ai i)]) (fun _ => []) (fun i => i ≤ C.length) (fun i => C.length - i) 0 (Nat.zero_le _) ?_ ?_ ?_
  · exact ⟨rfl, trivial⟩
  · exact trivial
  rintro i hi
  (simp only [LP, List.append_assoc, List.nil_append, List.cons_append, List.append_nil, List.contains_cons, List.contains_nil, Nat.reduceBEq, Bool.or_false, Bool.or_true, Bool.true_or, Bool.false_or, ↓reduceIte, Bool.false_eq_true])
  by_cases hil : i < C.length
  · skip
    repeat' (first
 | ((with_reducible apply awO_ev); (· rfl); (· exact sv))
 | ((with_reducible apply aw_seq); intro _ _)
 | (with_reducible apply aw_region)
 | (with_reducible apply aw_block)
 | ((with_reducible first | apply awO_nil | apply aw_exit | apply aw_skip | apply aw_ret); (try simp only [CT, ↓reduceIte, Nat.reduceEqDiff]))
 | ((with_reducible apply aw_cond_false); (· exact sv))
 | (refine Kont.go ‹Kont _ _ _ _› _ ?_)
 | ((with_reducible apply aw_draw); (· decide +kernel); (simp only [List.size_toArray, List.length_cons, List.length_nil, Nat.reduceAdd]))
 | ((with_reducible apply awY_done); (· decide +kernel); (try simp only [CT, ↓reduceIte, Nat.reduceEqDiff]))
 | ((with_reducible apply awY_q); (· exact sQ); (· exact np); (· exact svg); (· rfl); (· exact sv))
 | ((first | ((with_reducible apply awO_guardN); (· rfl); (· rfl); (· exact sv); (· exact nB)) | ((with_reducible apply aw_condN); (· exact sv))); (· exact pN); (· exact pN); all_goals (intro hg; try (exfalso; omega))))
    all_goals first
      | (exfalso; exact hg rfl)
      | (refine LE_mk (i + 1) ?_ ?_ sN sN sN
         · exact hil
         · omega)
  · obtain rfl : i = C.length := by omega
    exact wkA
end Go.Proofs.YtogmppcfopgkdaaGreatDoor
/- jobshelltop: digits, environ, on the abstract machine. -/
namespace Go.Proofs.YtogmppcfopgkdaaGreatDoor
open Go.RowKit
set_option linter.unusedVariables false
set_option linter.unusedSimpArgs false
set_option maxRecDepth 100000
set_option maxHeartbeats 8000000
theorem rnew_ab : Ab Tryz.prog 10 [] filesA := by
  refine Fn_of_aw (keep := []) Tryz.func10 rfl rfl (by simp [Tryz.ntmps10]) ?_
  simp only [num_cons, num_nil, Tryz.ntmps10, Tryz.results10]
  exact wkB
theorem decD_lt {m : Nat} (h : m < 10) : Lib.decDigits m = [UInt8.ofNat (48 + m)] := by
  rw [Lib.decDigits, dif_pos h]
theorem decD_ge {m : Nat} (h : ¬ m < 10) : Lib.decDigits m = Lib.decDigits (m / 10) ++ [UInt8.ofNat (48 + m % 10)] := by
  rw [Lib.decDigits, dif_neg h]
theorem cnvIU8 {n : Int} (h0 : 0 ≤ n) (h1 : n ≤ 255) : cnv Tryz.prog 3 5 (.int .i64 n) = some (.int .u8 n) := by
  rw [cnv_int (k := .u8) .i64 n (by kernel_rfl) (by kernel_rfl), wrapU8 h0 h1]
theorem td10 (m : Nat) : (-(m : Int)).tdiv 10 = -((m / 10 : Nat) : Int) := by rw [Int.neg_tdiv]; rfl
theorem tm10 (m : Nat) : (-(m : Int)).tmod 10 = -((m % 10 : Nat) : Int) := by rw [Int.neg_tmod]; rfl
attribute [local go_sem] cnvIU8 td10 tm10
theorem positive_ab : ∀ (k m : Nat), m ≤ k → m ≤ 9223372036854775808 → Ab Tryz.prog 24 [ai (-(m : Int))] (az (Lib.decDigits m)) := by
  intro k
  induction k with
  | zero =>
    intro m h1 h2
    obtain rfl : m = 0 := by omega
    rw [decD_lt (by omega)]
    refine Fn_of_aw (keep := []) Tryz.func24 rfl rfl (by simp [Tryz.ntmps24]) ?_
    simp only [num_cons, num_nil, Tryz.ntmps24, Tryz.results24]
    exact wkA
  | succ k ih =>
    intro m h1 h2
    by_cases h : m < 10
    · rw [decD_lt h]
      refine Fn_of_aw (keep := []) Tryz.func24 rfl rfl (by simp [Tryz.ntmps24]) ?_
      simp only [num_cons, num_nil, Tryz.ntmps24, Tryz.results24]
      repeat' (first
 | ((with_reducible apply awO_ev); (· rfl); (· exact sv))
 | ((with_reducible apply aw_seq); intro _ _)
 | (with_reducible apply aw_region)
 | ((with_reducible first | apply awO_nil | apply aw_exit | apply aw_skip | apply aw_ret); (try simp only [CT, ↓reduceIte, Nat.reduceEqDiff]))
 | (refine Kont.go ‹Kont _ _ _ _› _ ?_)
 | ((first | ((with_reducible apply awO_guardN); (· rfl); (· rfl); (· exact sv); (· exact nB)) | ((with_reducible apply aw_condN); (· exact sv))); (· exact pN); (· exact pN); all_goals (intro hg; try (exfalso; omega)))
 | ((with_reducible apply retQ_mk); (· exact rI); (· exact sv); (· exact sv); rotate_left; (· rfl)))
      all_goals first | (rw [show ((48 : Int) - -(m : Int)).toNat = 48 + m by omega]) | (exfalso; omega)
    · rw [decD_ge h]
      have h10 := Nat.mod_lt m (show 0 < 10 by omega)
      have c1 := ih (m / 10) (by omega) (by omega)
      have hl : (Lib.decDigits (m / 10)).length ≤ 21 := by
        have := Lib.itoa_length_le ((m / 10 : Nat) : Int) (by omega) (by omega)
        rwa [Lib.itoa_nonneg] at this
      refine Fn_of_aw (keep := []) Tryz.func24 rfl rfl (by simp [Tryz.ntmps24]) ?_
      simp only [num_cons, num_nil, Tryz.ntmps24, Tryz.results24]
      repeat' (first
 | ((with_reducible apply awO_ev); (· rfl); (· exact sv))
 | ((with_reducible apply aw_seq); intro _ _)
 | (with_reducible apply aw_region)
 | ((with_reducible first | apply awO_nil | apply aw_exit | apply aw_skip | apply aw_ret); (try simp only [CT, ↓reduceIte, Nat.reduceEqDiff]))
 | (refine Kont.go ‹Kont _ _ _ _› _ ?_)
 | ((with_reducible apply aw_draw); (· decide +kernel); (simp only [List.size_toArray, List.length_cons, List.length_nil, Nat.reduceAdd]))
 | ((with_reducible apply awY_done); (· decide +kernel); (try simp only [CT, ↓reduceIte, Nat.reduceEqDiff]))
 | ((with_reducible apply awY_q); (· exact sQ); (· exact np); (· exact svg); (· rfl); (· exact sv))
 | ((with_reducible apply endQ_rfl))
 | ((with_reducible apply endQ_sub); (· exact sE); (· exact sN))
 | ((with_reducible apply awI_ev); (· exact svg); (· rfl); (· exact sv))
 | ((with_reducible apply awI_c); (· exact svg); (· rfl); (· rfl); (· exact sv); (· (first | exact c1)); (· rfl); (· rfl); (· rfl); (· exact nd); simp only [put_some])
 | ((first | ((with_reducible apply awO_guardN); (· rfl); (· rfl); (· exact sv); (· exact nB)) | ((with_reducible apply aw_condN); (· exact sv))); (· exact pN); (· exact pN); all_goals (intro hg; try (exfalso; omega)))
 | ((with_reducible apply retQ_mk); (· exact rI); (· exact sv); (· exact sv); rotate_left; (· rfl))
 | ((with_reducible apply awY_p); (· exact sH); (first | ((with_reducible apply awP_1); (· decide +kernel)) | ((with_reducible apply awP_2); (· exact sP)))))
      all_goals first | (exfalso; omega) | (rw [show ((48 : Int) - -((m % 10 : Nat) : Int)).toNat = 48 + m % 10 by omega])
theorem digits_ab (n : Int) (hn : I64 n) : Ab Tryz.prog 11 [ai n] (az (Lib.itoa n)) := by
  obtain ⟨h0, h1⟩ := hn
  by_cases h : n < 0
  · have c1 := positive_ab n.natAbs n.natAbs (Nat.le_refl _) (by omega)
    rw [show (-((n.natAbs : Nat) : Int)) = n by omega] at c1
    have hl : (Lib.decDigits n.natAbs).length ≤ 21 := by
      have := Lib.itoa_length_le n h0 h1
      rw [Lib.itoa, if_pos h, List.length_cons] at this
      omega
    rw [Lib.itoa, if_pos h]
    generalize Lib.decDigits n.natAbs = D at *
    refine Fn_of_aw (keep := []) Tryz.func11 rfl rfl (by simp [Tryz.ntmps11]) ?_
    simp only [num_cons, num_nil, Tryz.ntmps11, Tryz.results11]
    exact wkA
  · have c1 := positive_ab n.toNat n.toNat (Nat.le_refl _) (by omega)
    rw [show (-((n.toNat : Nat) : Int)) = 0 - n by omega] at c1
    rw [Lib.itoa, if_neg h]
    generalize Lib.decDigits n.toNat = D at *
    refine Fn_of_aw (keep := []) Tryz.func11 rfl rfl (by simp [Tryz.ntmps11]) ?_
    simp only [num_cons, num_nil, Tryz.ntmps11, Tryz.results11]
    exact wkA
end Go.Proofs.YtogmppcfopgkdaaGreatDoor
/- jobshelltop: environ, on the abstract machine. -/
namespace Go.Proofs.YtogmppcfopgkdaaGreatDoor
open Go.RowKit
set_option linter.unusedVariables false
set_option linter.unusedSimpArgs false
set_option maxRecDepth 100000
set_option maxHeartbeats 8000000
/-- The variables of the environment. -/
abbrev vr0 : List Vr := [⟨[73, 70, 83], [32, 9, 10], true, false, false⟩]
abbrev vr1 (v : List UInt8) : List Vr := [⟨[73, 70, 83], [32, 9, 10], true, false, false⟩, ⟨[120], v, true, false, false⟩]
theorem setV_x (v : List UInt8) : setV vr0 [120] v = vr1 v := by rfl
theorem getV_x (v : List UInt8) : getV (vr1 v) [120] = some ⟨[120], v, true, false, false⟩ := by rfl
theorem getV_i (v : List UInt8) : getV (vr1 v) [73, 70, 83] = some ⟨[73, 70, 83], [32, 9, 10], true, false, false⟩ := by rfl
theorem environ_ab (v : List UInt8) (hv : v.length ≤ 4096) : Ab Tryz.prog 6 [az v, ai 0] (.tp [.ag (enC (vr1 v)), ab true]) := by
  have c1 := set_ab vr0 [120] v (by decide) hv (by decide) (by simp)
  rw [setV_x] at c1
  simp only [vrC, List.flatMap_cons, List.flatMap_nil, List.append_nil, List.length_cons, List.length_nil, List.cons_append, List.nil_append] at c1 ⊢
  refine Fn_of_aw (keep := []) Tryz.func6 rfl rfl (by simp [Tryz.ntmps6]) ?_
  simp only [num_cons, num_nil, Tryz.ntmps6, Tryz.results6]
  repeat' (first
 | ((with_reducible apply awO_ev); (· rfl); (· exact sv))
 | ((with_reducible apply aw_seq); intro _ _)
 | (with_reducible apply aw_region)
 | ((with_reducible first | apply awO_nil | apply aw_exit | apply aw_skip | apply aw_ret); (try simp only [CT, ↓reduceIte, Nat.reduceEqDiff]))
 | (refine Kont.go ‹Kont _ _ _ _› _ ?_))
  refine awO_pub 16 10 (off := 0) (sz := 5) (n := 1) (cs := [az [73, 70, 83], az [32, 9, 10], ab true, ab false, ab false]) rfl rfl (by decide) rfl ?_
  rw [show (([az [73, 70, 83], az [32, 9, 10], ab true, ab false, ab false] : List AV).drop 0).take (1 * 5) = [az [73, 70, 83], az [32, 9, 10], ab true, ab false, ab false] from rfl]
  refine awO_st svs ?_
  exact wkA
end Go.Proofs.YtogmppcfopgkdaaGreatDoor
/- The fields of the words of the law, in plain Lean. -/
namespace Go.Proofs.YtogmppcfopgkdaaGreatDoor
set_option linter.unusedVariables false
set_option linter.unusedSimpArgs false
set_option maxRecDepth 100000
theorem divd_plain (ifs : List UInt8) (k : Int) (hk : k = 0 ∨ k = 1 ∨ k = 2) : ∀ (s : List UInt8) (now : List El), (∀ c ∈ s, c ∉ ifs) → divd ifs (s.map fun c => ⟨[c], k⟩) now = fld (now ++ s.map fun c => ⟨[c], k⟩)
  | [], now, h => by rw [List.map_nil, divd, List.append_nil]
  | c :: r, now, h => by
    have h0 := h c List.mem_cons_self
    have h2 : sepB ifs ⟨[c], k⟩ = false := by simp [sepB, h0]
    have h1 : whB ifs ⟨[c], k⟩ = false := by rw [whB, h2]; rfl
    rw [List.map_cons, divd, if_neg (by simp only; omega), if_neg (by rw [h1]; decide), if_neg (by rw [h2]; decide), divd_plain ifs k hk r _ fun d hd => h d (List.mem_cons_of_mem _ hd), List.append_assoc]
    rfl
theorem cat_one (s : List UInt8) (k : Int) : cat (s.map fun c => (⟨[c], k⟩ : El)) = s := by
  induction s with
  | nil => rfl
  | cons c r ih => simp only [List.map_cons, cat, List.flatMap_cons] at ih ⊢; rw [ih]; rfl
theorem runs_one (c : UInt8) (r : List UInt8) (k : Int) : runsOf ((c :: r).map fun c => (⟨[c], k⟩ : El)) = [⟨c :: r, k⟩] := by
  have h1 : ∀ r : List UInt8, ((r.map fun c => (⟨[c], k⟩ : El)).takeWhile fun y => decide (y.k = k)) = r.map fun c => (⟨[c], k⟩ : El) := by
    intro r
    induction r with
    | nil => rfl
    | cons d r ih => rw [List.map_cons, List.takeWhile_cons, if_pos (by simp), ih]
  have h2 : ∀ r : List UInt8, ((r.map fun c => (⟨[c], k⟩ : El)).dropWhile fun y => decide (y.k = k)) = [] := by
    intro r
    induction r with
    | nil => rfl
    | cons d r ih => rw [List.map_cons, List.dropWhile_cons, if_pos (by simp), ih]
  rw [List.map_cons, runsOf]
  simp only
  rw [h1, h2, cat_one, runsOf]
  rfl
theorem fields_one {s ifs : List UInt8} (hs : s ≠ []) (h : ∀ c ∈ s, c ∉ ifs) : fieldsOf [⟨s, 2⟩] ifs = [[⟨s, 2⟩]] := by
  have e : elems [(⟨s, 2⟩ : El)] = s.map fun c => ⟨[c], 2⟩ := by
    simp [elems, elemsOf]
  unfold fieldsOf
  rw [e, divd_plain ifs 2 (.inr (.inr rfl)) s [] h, List.nil_append]
  obtain ⟨c, r, rfl⟩ := List.exists_cons_of_ne_nil hs
  have : fld ((c :: r).map fun c => (⟨[c], 2⟩ : El)) = [(c :: r).map fun c => (⟨[c], 2⟩ : El)] := by simp [fld]
  rw [this, List.map_cons, List.map_nil, runs_one]
theorem fields_xv : fieldsOf [⟨[97, 32, 98], 2⟩] [32, 9, 10] = [[⟨[97], 2⟩], [⟨[98], 2⟩]] := by
  simp [fieldsOf, elems, elemsOf, divd, whB, sepB, wtB, delB, skW, fld, runsOf, cat]
theorem fields_q : fieldsOf [⟨[112], 0⟩, ⟨[97, 32, 98], 1⟩, ⟨[113], 0⟩] [32, 9, 10] = [[⟨[112], 0⟩, ⟨[97, 32, 98], 1⟩, ⟨[113], 0⟩]] := by
  simp [fieldsOf, elems, elemsOf, divd, whB, sepB, wtB, delB, skW, fld, runsOf, cat]
end Go.Proofs.YtogmppcfopgkdaaGreatDoor
/- The names and the values behind an arithmetic expansion, in plain Lean. -/
namespace Go.Proofs.YtogmppcfopgkdaaGreatDoor
set_option linter.unusedVariables false
set_option linter.unusedSimpArgs false
set_option maxRecDepth 100000
/-! ### The names in a tree -/
inductive NmE (B : List UInt8 → Prop) : Ex → Prop
  | mk {op n : Int} {nm : List UInt8} {ks : List Ex} (h : B nm) (hk : ∀ k ∈ ks, NmE B k) : NmE B (.mk op n nm ks)
theorem NmE.nm {B : List UInt8 → Prop} {op n : Int} {nm : List UInt8} {ks : List Ex} (h : NmE B (.mk op n nm ks)) : B nm := by cases h; assumption
theorem NmE.kid {B : List UInt8 → Prop} {op n : Int} {nm : List UInt8} {ks : List Ex} (h : NmE B (.mk op n nm ks)) {k : Ex} (hk : k ∈ ks) : NmE B k := by
  cases h with
  | mk _ h2 => exact h2 k hk
theorem tokL_sub {l : List UInt8} {a : Nat} : ∀ c ∈ (tokL l a).text, c ∈ l := by
  cases l with
  | nil => intro c hc; simp [tokL] at hc
  | cons x r =>
    intro c hc
    unfold tokL at hc
    simp only at hc
    split at hc
    · exact List.mem_of_mem_take hc
    · split at hc
      · next t ht => exact (List.isPrefixOf_iff_prefix.1 (symF_ok ht).2.2.1).subset hc
      · simp only [List.mem_cons, List.not_mem_nil, or_false] at hc
        subst hc
        exact List.mem_cons_self
theorem scnL_sub (s : List UInt8) (a : Nat) : ∀ c ∈ (scnL s a).text, c ∈ s := fun c h => List.mem_of_mem_drop (tokL_sub c h)
def NtNm (B : List UInt8 → Prop) : Nt → Prop
  | .ol _ e => NmE B e
  | _ => True
def PrNm (B : List UInt8 → Prop) : Pr → Prop
  | .ok e t => NmE B e ∧ B t.text
  | .er _ _ => True
theorem nm1 {B : List UInt8 → Prop} (h0 : B []) {op n : Int} {a : Ex} (ha : NmE B a) {nm : List UInt8} (hn : B nm) : NmE B (.mk op n nm [a]) := .mk hn fun k hk => by
  simp only [List.mem_cons, List.not_mem_nil, or_false] at hk
  subst hk; exact ha
theorem psF_nm (s : List UInt8) {B : List UInt8 → Prop} (h0 : B []) (hB : ∀ t : Tk, B (nxK s t).text) : ∀ (n : Nat) (x : Nt) (t : Tk), B t.text → NtNm B x → PrNm B (psF s n x t)
  | 0, x, t, ht, hx => by simp [psF, PrNm]
  | n + 1, .ex, t, ht, hx => by
    have ih := psF_nm s h0 hB n
    simp only [psF]
    split
    · cases ha : asgF (nxK s t) with
      | none => exact ih .cn t ht trivial
      | some op =>
        simp only
        split
        · have := ih .ex (nxK s (nxK s t)) (hB _) trivial
          cases hp : psF s n .ex (nxK s (nxK s t)) with
          | ok e t1 => rw [hp] at this; exact ⟨nm1 h0 this.1 ht, this.2⟩
          | er p y => trivial
        · trivial
    · exact ih .cn t ht trivial
  | n + 1, .cn, t, ht, hx => by
    have ih := psF_nm s h0 hB n
    simp only [psF]
    have h1 := ih (.op 3) t ht trivial
    cases hp : psF s n (.op 3) t with
    | er p y => trivial
    | ok e t1 =>
      rw [hp] at h1
      simp only
      split
      · have h2 := ih .ex (nxK s t1) (hB _) trivial
        cases hp2 : psF s n .ex (nxK s t1) with
        | er p y => trivial
        | ok y t2 =>
          rw [hp2] at h2
          simp only
          split
          · have h3 := ih .cn (nxK s t2) (hB _) trivial
            cases hp3 : psF s n .cn (nxK s t2) with
            | er p y => trivial
            | ok z t3 =>
              rw [hp3] at h3
              refine ⟨.mk h0 fun k hk => ?_, h3.2⟩
              simp only [List.mem_cons, List.not_mem_nil, or_false] at hk
              rcases hk with rfl | rfl | rfl
              · exact h1.1
              · exact h2.1
              · exact h3.1
          · trivial
      · exact h1
  | n + 1, .op l, t, ht, hx => by
    have ih := psF_nm s h0 hB n
    simp only [psF]
    have h1 := ih .un t ht trivial
    cases hp : psF s n .un t with
    | er p y => trivial
    | ok e t1 =>
      rw [hp] at h1
      exact ih (.ol l e) t1 h1.2 h1.1
  | n + 1, .ol l e, t, ht, hx => by
    have ih := psF_nm s h0 hB n
    simp only [psF]
    split
    · exact ⟨hx, ht⟩
    · have h1 := ih (.op ((oprF t).1 + 1)) (nxK s t) (hB _) trivial
      cases hp : psF s n (.op ((oprF t).1 + 1)) (nxK s t) with
      | er p y => trivial
      | ok r t1 =>
        rw [hp] at h1
        refine ih _ t1 h1.2 (.mk h0 fun k hk => ?_)
        simp only [List.mem_cons, List.not_mem_nil, or_false] at hk
        rcases hk with rfl | rfl
        · exact hx
        · exact h1.1
  | n + 1, .un, t, ht, hx => by
    have ih := psF_nm s h0 hB n
    simp only [psF]
    cases hu : unL t with
    | none => exact ih .pr t ht trivial
    | some op =>
      simp only
      have h1 := ih .un (nxK s t) (hB _) trivial
      cases hp : psF s n .un (nxK s t) with
      | er p y => trivial
      | ok e t1 => rw [hp] at h1; exact ⟨nm1 h0 h1.1 h0, h1.2⟩
  | n + 1, .pr, t, ht, hx => by
    simp only [psF]
    split
    · split
      · exact ⟨.mk h0 fun k hk => (by cases hk), hB _⟩
      · trivial
    · split
      · split
        · exact ⟨.mk ht fun k hk => (by cases hk), hB _⟩
        · trivial
      · trivial
theorem parR_nm (s : List UInt8) : NmE (fun nm => ∀ c ∈ nm, c ∈ s) (parR s).1 := by
  have h0 : ∀ c ∈ ([] : List UInt8), c ∈ s := fun c hc => (by cases hc)
  have h := psF_nm s (B := fun nm => ∀ c ∈ nm, c ∈ s) h0 (fun t => scnL_sub s _) (6 * s.length + 7) .ex (scnL s 0) (scnL_sub s 0) trivial
  have hz : NmE (fun nm => ∀ c ∈ nm, c ∈ s) ex0 := .mk h0 fun k hk => (by cases hk)
  unfold parR
  split
  · exact .mk h0 fun k hk => (by cases hk)
  · cases hp : psF s (6 * s.length + 7) .ex (scnL s 0) with
    | er p y => exact hz
    | ok e t =>
      rw [hp] at h
      simp only
      split
      · exact hz
      split
      · exact hz
      · exact h.1
/-! ### What holds of the variables behind the evaluation -/
theorem evE_pres {I : Mp → Prop} {B : List UInt8 → Prop} {nu : Int → List UInt8} (hput : ∀ nm n m, nmB nm = true → B nm → I64 n → I m → I (putM nm (nu n) m)) : ∀ (k : Nat) (e : Ex) (m : Mp), Wf e → NmE B e → I m → I64 (evE nu k e m).1.1 ∧ I (evE nu k e m).2
  | 0, e, m, hw, hb, hm => ⟨I64_0, hm⟩
  | k + 1, e, m, hw, hb, hm => by
    have ih := evE_pres hput k
    cases hw with
    | num n h0 h1 => exact ⟨I64_of h0 h1, hm⟩
    | var nm h => exact ⟨vrF_ok _ _, hm⟩
    | un op h ha =>
      rename_i a
      have h1 := ih a m ha (hb.kid (by simp)) hm
      rw [evE, if_neg (by omega), if_neg (by omega)]
      rcases hE : evE nu k a m with ⟨⟨x, e⟩, m1⟩
      rw [hE] at h1
      simp only at h1 ⊢
      split
      · exact ⟨I64_0, h1.2⟩
      repeat' split
      all_goals first | exact ⟨unF_ok _ h1.1, h1.2⟩ | (exfalso; omega)
    | bin op h ha hb' =>
      rename_i a b
      have h1 := ih a m ha (hb.kid (by simp)) hm
      rw [evE, if_neg (by omega), if_neg (by omega)]
      rcases hE : evE nu k a m with ⟨⟨x, e⟩, m1⟩
      rw [hE] at h1
      simp only at h1 ⊢
      have h2 := ih b m1 hb' (hb.kid (by simp)) h1.2
      split
      · exact ⟨I64_0, h1.2⟩
      rw [if_neg (by omega), if_neg (by omega), if_neg (by omega)]
      split
      · exact ⟨I64_0, h1.2⟩
      split
      · exact ⟨I64_1, h1.2⟩
      rcases hE2 : evE nu k b m1 with ⟨⟨u, e2⟩, m2⟩
      rw [hE2] at h2
      simp only at h2 ⊢
      split
      · exact ⟨I64_0, h2.2⟩
      · exact ⟨binF_ok _ h1.1, h2.2⟩
    | cnd ha hb' hc =>
      rename_i a b c
      have h1 := ih a m ha (hb.kid (by simp)) hm
      rw [evE, if_neg (by omega), if_neg (by omega)]
      rcases hE : evE nu k a m with ⟨⟨x, e⟩, m1⟩
      rw [hE] at h1
      simp only at h1 ⊢
      have h2 := ih b m1 hb' (hb.kid (by simp)) h1.2
      have h3 := ih c m1 hc (hb.kid (by simp)) h1.2
      split
      · exact ⟨I64_0, h1.2⟩
      repeat' split
      all_goals first | exact h2 | exact h3 | (exfalso; omega) | (exfalso; simp at *; done)
    | set n h nm hn ha =>
      rename_i a
      have h1 := ih a m ha (hb.kid (by simp)) hm
      rw [evE, if_neg (by omega), if_neg (by omega)]
      rcases hE : evE nu k a m with ⟨⟨x, e⟩, m1⟩
      rw [hE] at h1
      simp only at h1 ⊢
      split
      · exact ⟨I64_0, h1.2⟩
      have ha := asF_ok n nm h1.1 m1
      repeat' split
      all_goals first | exact ⟨I64_0, h1.2⟩ | exact ⟨ha, hput _ _ _ hn hb.nm ha h1.2⟩ | (exfalso; omega) | (exfalso; simp at *; done)
abbrev ifsN : List UInt8 := [73, 70, 83]
abbrev ifsV : List UInt8 := [32, 9, 10]
/-- What is known of the variables: their names and values are short, and IFS is what it was. -/
def InvM (m : Mp) : Prop := ∀ p ∈ m, nmB p.1 = true ∧ p.2.length ≤ 4096 ∧ (p.1 = ifsN → p.2 = ifsV)
theorem InvM.put {m : Mp} (h : InvM m) {nm v : List UInt8} (hn : nmB nm = true) (hv : v.length ≤ 4096) (hne : nm ≠ ifsN) : InvM (putM nm v m) := fun p hp => by
  rcases mem_putM.1 hp with rfl | ⟨hp, _⟩
  · exact ⟨hn, hv, fun e => absurd e hne⟩
  · exact h p hp
theorem mp0_mem {v : List UInt8} {p : List UInt8 × List UInt8} : p ∈ mp0 (bndV (vr1 v)) ↔ p = ([120], v) ∨ p = (ifsN, ifsV) := by
  show p ∈ putM [120] v (putM ifsN ifsV []) ↔ _
  rw [mem_putM, mem_putM]
  constructor
  · rintro (h | ⟨h | ⟨h, _⟩, _⟩)
    · exact .inl h
    · exact .inr h
    · cases h
  · rintro (h | h)
    · exact .inl h
    · refine .inr ⟨.inl h, ?_⟩
      rw [h]; simp
theorem inv0 {v : List UInt8} (hv : v.length ≤ 4096) : InvM (mp0 (bndV (vr1 v))) := fun p hp => by
  rcases mp0_mem.1 hp with rfl | rfl
  · exact ⟨(by decide : nmB [120] = true), hv, fun e => by simp at e⟩
  · exact ⟨by decide, by decide, fun _ => rfl⟩
theorem getM_mem {m : Mp} {k : List UInt8} (h : ∃ p ∈ m, p.1 = k) : ∃ p ∈ m, p.1 = k ∧ getM m k = p.2 := by
  unfold getM
  cases hf : m.find? fun p => p.1 == k with
  | none =>
    obtain ⟨p, hp, e⟩ := h
    have := List.find?_eq_none.1 hf p hp
    simp [e] at this
  | some p => exact ⟨p, List.mem_of_find?_eq_some hf, by simpa using List.find?_some hf, rfl⟩
theorem hasM_mem {m : Mp} {k : List UInt8} (h : hasM m k = true) : ∃ p ∈ m, p.1 = k := by
  unfold hasM at h
  obtain ⟨p, hp, e⟩ := List.any_eq_true.1 h
  exact ⟨p, hp, by simpa using e⟩
/-- What calc answers: names and values. -/
structure AnsM (K : List (List UInt8)) (g : List UInt8 → List UInt8) : Prop where
  nm : ∀ k ∈ K, nmB k = true ∧ (g k).length ≤ 4096 ∧ (k = ifsN → g k = ifsV)
  len : K.length ≤ 70
theorem itoa_short {n : Int} (h : I64 n) : (Lib.itoa n).length ≤ 4096 := by
  have := Lib.itoa_length_le n h.1 h.2
  omega
theorem txR_ok (s v : List UInt8) (hs : s.length ≤ 60) (h73 : 73 ∉ s) (hv : v.length ≤ 9) (he : (txR s (bndV (vr1 v))).2.2 = 0) :
    I64 (txR s (bndV (vr1 v))).1 ∧ ∃ K g, (txR s (bndV (vr1 v))).2.1 = K.map (fun k => (k, g k)) ∧ AnsM K g := by
  have hp := parR_ok s
  have hz := parR_sz s
  have hn := parR_nm s
  unfold txR at he ⊢
  split at he
  · next h => exact absurd he h
  · next h =>
    rw [if_neg h]
    have h0 : (parR s).2.2 = 0 := Classical.not_not.1 h
    obtain ⟨hw, hd⟩ := hp h0
    generalize (parR s).1 = e at *
    unfold evR at he ⊢
    split at he
    · next h2 => exact absurd he h2
    · next h2 =>
      rw [if_neg h2]
      have hput : ∀ nm n m, nmB nm = true → (∀ c ∈ nm, c ∈ s) → I64 n → InvM m → InvM (putM nm (Lib.itoa n) m) := fun nm n m h1 hb hn hm => hm.put h1 (itoa_short hn) fun e => by
        subst e
        exact h73 (hb 73 List.mem_cons_self)
      obtain ⟨k1, k2⟩ := evE_pres (I := InvM) hput 40 e (mp0 (bndV (vr1 v))) hw hn (inv0 (by omega))
      have hm0 := mpJ_ok (bndV (vr1 v)) (fun p hp => by
        simp only [bndV, List.map_cons, List.map_nil, List.mem_cons, List.not_mem_nil, or_false] at hp
        rcases hp with rfl | rfl
        · decide
        · exact ⟨(by decide : ([120] : List UInt8).length ≤ 5000), by simp only; omega⟩) 2 (by simp [bndV])
      have hm1 : mpJ (bndV (vr1 v)) 2 = mp0 (bndV (vr1 v)) := mpJ_len _
      rw [hm1] at hm0
      have hok := (evE_ok nuI 40 e (mp0 (bndV (vr1 v))) 2 hw hm0).2.len
      refine ⟨k1, srtM (evE Lib.itoa 40 e (mp0 (bndV (vr1 v)))).2, getM (evE Lib.itoa 40 e (mp0 (bndV (vr1 v)))).2, rfl, fun k hk => ?_, ?_⟩
      · unfold srtM at hk
        rw [List.mem_mergeSort, List.mem_map] at hk
        obtain ⟨p, hp, rfl⟩ := hk
        obtain ⟨q, hq, e1, e2⟩ := getM_mem (k := p.1) ⟨p, hp, rfl⟩
        rw [e2, ← e1]
        exact k2 q hq
      · unfold srtM
        rw [List.length_mergeSort, List.length_map]
        omega
/-! ### The environment behind the expansion -/
theorem find_mid {α : Type} {p : α → Bool} {A B : List α} {x : α} (hA : ∀ y ∈ A, p y = false) (hx : p x = true) : (A ++ [x] ++ B).find? p = some x := by
  rw [List.append_assoc, List.find?_append, List.find?_eq_none.2 (fun y hy => by simp [hA y hy])]
  simp [hx]
theorem find_skip {α : Type} {p : α → Bool} {A B : List α} {x : α} (hx : p x = false) : (A ++ [x] ++ B).find? p = (A ++ B).find? p := by
  simp [List.find?_append, hx]
theorem take_no {L : List Vr} {nm : List UInt8} {i : Nat} (hi : i ≤ L.findIdx (fun v => decide (v.nm = nm))) : ∀ y ∈ L.take i, decide (y.nm = nm) = false := fun y hy => by
  obtain ⟨j, hj, rfl⟩ := List.mem_iff_getElem.1 hy
  rw [List.length_take] at hj
  rw [List.getElem_take]
  have := List.not_of_lt_findIdx (p := fun v : Vr => decide (v.nm = nm)) (xs := L) (i := j) (by omega)
  simpa using this
theorem getV_same (L : List Vr) (nm val : List UInt8) : ∃ u, getV (setV L nm val) nm = some u ∧ u.val = val := by
  unfold setV
  split
  · next h =>
    have hlt := plcV_lt h
    rw [List.getElem?_eq_getElem hlt]
    simp only
    have hf : (plcV L nm).1 = L.findIdx (fun v => decide (v.nm = nm)) := by
      unfold plcV at h ⊢
      split at h
      · next h1 => rw [if_pos h1]
      · cases h
    have hnm : L[(plcV L nm).1].nm = nm := by
      have := List.findIdx_getElem (p := fun v : Vr => decide (v.nm = nm)) (xs := L) (w := by rw [← hf]; exact hlt)
      simp only [decide_eq_true_eq] at this
      simp only [hf]
      exact this
    exact ⟨_, find_mid (take_no (by omega)) (by simp [hnm]), rfl⟩
  · next h =>
    have hno : ∀ y ∈ L, decide (y.nm = nm) = false := by
      have hge : ¬ L.findIdx (fun v => decide (v.nm = nm)) < L.length := fun hlt => h (by unfold plcV; rw [if_pos hlt])
      have := take_no (L := L) (nm := nm) (i := L.length) (by omega)
      rwa [List.take_length] at this
    exact ⟨_, find_mid (fun y hy => hno y (List.mem_of_mem_take hy)) (by simp), rfl⟩
theorem getV_other (L : List Vr) (nm val : List UInt8) {k : List UInt8} (hk : k ≠ nm) : getV (setV L nm val) k = getV L k := by
  unfold setV
  split
  · next h =>
    have hlt := plcV_lt h
    rw [List.getElem?_eq_getElem hlt]
    simp only
    have hf : (plcV L nm).1 = L.findIdx (fun v => decide (v.nm = nm)) := by
      unfold plcV at h ⊢
      split at h
      · next h1 => rw [if_pos h1]
      · cases h
    have hnm : L[(plcV L nm).1].nm = nm := by
      have := List.findIdx_getElem (p := fun v : Vr => decide (v.nm = nm)) (xs := L) (w := by rw [← hf]; exact hlt)
      simp only [decide_eq_true_eq] at this
      simp only [hf]
      exact this
    have e : L = L.take (plcV L nm).1 ++ [L[(plcV L nm).1]] ++ L.drop ((plcV L nm).1 + 1) := by
      rw [← List.take_succ_eq_append_getElem hlt, List.take_append_drop]
    have q1 := find_skip (p := fun v : Vr => decide (v.nm = k)) (A := L.take (plcV L nm).1) (B := L.drop ((plcV L nm).1 + 1)) (x := ⟨L[(plcV L nm).1].nm, val, true, L[(plcV L nm).1].ex, L[(plcV L nm).1].ro⟩) (by simp only [hnm]; simp; exact fun e => hk e.symm)
    have q2 := find_skip (p := fun v : Vr => decide (v.nm = k)) (A := L.take (plcV L nm).1) (B := L.drop ((plcV L nm).1 + 1)) (x := L[(plcV L nm).1]) (by simp only [hnm]; simp; exact fun e => hk e.symm)
    rw [← e] at q2
    unfold getV
    rw [q1, q2]
  · unfold getV
    rw [find_skip (by simp; exact fun e => hk e.symm), Nat.add_zero, List.take_append_drop]
theorem asg_all {m : Mp} {L0 : List Vr} {g : List UInt8 → List UInt8} (h0 : ∀ k, hasM m k = true → ∃ u, getV L0 k = some u ∧ u.val = getM m k) (hi : hasM m ifsN = true ∧ getM m ifsN = ifsV) : ∀ (K D : List (List UInt8)) (L : List Vr), (∀ k ∈ K, k = ifsN → g k = ifsV) →
    (∀ k, (k ∈ D → ∃ u, getV L k = some u ∧ u.val = g k) ∧ (k ∉ D → getV L k = getV L0 k)) → getV L ifsN = getV L0 ifsN →
    (∀ k ∈ K, ∃ u, getV (asgA m (K.map fun k => (k, g k)) L) k = some u ∧ u.val = g k) ∧ (∀ k ∈ D, ∃ u, getV (asgA m (K.map fun k => (k, g k)) L) k = some u ∧ u.val = g k) ∧ getV (asgA m (K.map fun k => (k, g k)) L) ifsN = getV L0 ifsN
  | [], D, L, _, h, hL => ⟨fun k hk => (by cases hk), fun k hk => (h k).1 hk, hL⟩
  | x :: r, D, L, hK, h, hL => by
    have key : (∀ k, (k ∈ x :: D → ∃ u, getV (asgS m L (x, g x)) k = some u ∧ u.val = g k) ∧ (k ∉ x :: D → getV (asgS m L (x, g x)) k = getV L0 k)) ∧ getV (asgS m L (x, g x)) ifsN = getV L0 ifsN := by
      unfold asgS
      split
      · next hm =>
        obtain ⟨hm1, hm2⟩ := hm
        refine ⟨fun k => ⟨fun hk => ?_, fun hk => (h k).2 fun e => hk (List.mem_cons_of_mem _ e)⟩, hL⟩
        by_cases hd : k ∈ D
        · exact (h k).1 hd
        · rcases List.mem_cons.1 hk with rfl | hk
          · rw [(h k).2 hd]
            obtain ⟨u, q1, q2⟩ := h0 k hm1
            exact ⟨u, q1, q2.trans hm2⟩
          · exact absurd hk hd
      · next hm =>
        have hx : x ≠ ifsN := fun e => hm (by
          subst e
          exact ⟨hi.1, hi.2.trans (hK _ List.mem_cons_self rfl).symm⟩)
        simp only
        refine ⟨fun k => ⟨fun hk => ?_, fun hk => ?_⟩, ?_⟩
        · by_cases e : k = x
          · subst e; exact getV_same L k (g k)
          · rw [getV_other L x (g x) e]
            rcases List.mem_cons.1 hk with hk | hk
            · exact absurd hk e
            · exact (h k).1 hk
        · rw [getV_other L x (g x) (fun e => hk (by subst e; exact List.mem_cons_self))]
          exact (h k).2 fun e => hk (List.mem_cons_of_mem _ e)
        · rw [getV_other L x (g x) (fun e => hx e.symm)]
          exact hL
    obtain ⟨q1, q2, q3⟩ := asg_all h0 hi r (x :: D) (asgS m L (x, g x)) (fun k hk => hK k (List.mem_cons_of_mem _ hk)) key.1 key.2
    refine ⟨fun k hk => ?_, fun k hk => q2 k (List.mem_cons_of_mem _ hk), q3⟩
    rcases List.mem_cons.1 hk with rfl | hk
    · exact q2 k List.mem_cons_self
    · exact q1 k hk
theorem env_ok (v : List UInt8) {K : List (List UInt8)} {g : List UInt8 → List UInt8} (h : AnsM K g) : (∀ k ∈ K, ∃ u, getV (asgA (mp0 (bndV (vr1 v))) (K.map fun k => (k, g k)) (vr1 v)) k = some u ∧ u.val = g k) ∧ getV (asgA (mp0 (bndV (vr1 v))) (K.map fun k => (k, g k)) (vr1 v)) ifsN = some ⟨ifsN, ifsV, true, false, false⟩ := by
  have hg : ∀ k, hasM (mp0 (bndV (vr1 v))) k = true → ∃ u, getV (vr1 v) k = some u ∧ u.val = getM (mp0 (bndV (vr1 v))) k := fun k hk => by
    obtain ⟨p, hp, e1, e2⟩ := getM_mem (hasM_mem hk)
    rw [e2, ← e1]
    rcases mp0_mem.1 hp with rfl | rfl
    · exact ⟨_, getV_x v, rfl⟩
    · exact ⟨_, getV_i v, rfl⟩
  have hi : hasM (mp0 (bndV (vr1 v))) ifsN = true ∧ getM (mp0 (bndV (vr1 v))) ifsN = ifsV := by
    have hm : (ifsN, ifsV) ∈ mp0 (bndV (vr1 v)) := mp0_mem.2 (.inr rfl)
    refine ⟨List.any_eq_true.2 ⟨_, hm, by simp⟩, ?_⟩
    obtain ⟨p, hp, e1, e2⟩ := getM_mem ⟨_, hm, rfl⟩
    rw [e2]
    rcases mp0_mem.1 hp with rfl | rfl
    · simp at e1
    · rfl
  obtain ⟨q1, _, q3⟩ := asg_all hg hi K [] (vr1 v) (fun k hk => (h.nm k hk).2.2) (fun k => ⟨fun hk => (by cases hk), fun _ => rfl⟩) rfl
  exact ⟨q1, q3.trans (getV_i v)⟩
/-! ### Numerals -/
theorem dec_mem (n : Nat) : ∀ c ∈ Lib.decDigits n, 48 ≤ c.toNat ∧ c.toNat ≤ 57 := by
  induction n using Nat.strongRecOn with
  | ind n ih =>
    intro c hc
    rw [Lib.decDigits] at hc
    have hd : ∀ d : Nat, d < 10 → 48 ≤ (UInt8.ofNat (48 + d)).toNat ∧ (UInt8.ofNat (48 + d)).toNat ≤ 57 := fun d hd => by
      rw [UInt8.toNat_ofNat']; omega
    split at hc
    · next h =>
      simp only [List.mem_cons, List.not_mem_nil, or_false] at hc
      subst hc
      exact hd n h
    · next h =>
      rcases List.mem_append.1 hc with hc | hc
      · exact ih (n / 10) (by omega) c hc
      · simp only [List.mem_cons, List.not_mem_nil, or_false] at hc
        subst hc
        exact hd _ (Nat.mod_lt _ (by omega))
theorem itoa_mem (n : Int) : ∀ c ∈ Lib.itoa n, c.toNat = 45 ∨ (48 ≤ c.toNat ∧ c.toNat ≤ 57) := by
  intro c hc
  unfold Lib.itoa at hc
  split at hc
  · rcases List.mem_cons.1 hc with rfl | hc
    · exact .inl (by decide)
    · exact .inr (dec_mem _ c hc)
  · exact .inr (dec_mem _ c hc)
theorem itoa_ne (n : Int) : Lib.itoa n ≠ [] := by
  unfold Lib.itoa
  split
  · simp
  · rw [Lib.decDigits]
    split <;> simp
end Go.Proofs.YtogmppcfopgkdaaGreatDoor
