/- The editor: the document's letters, on the abstract machine. -/
import Derived.Test.YtapmolfpkhfpgaaErN
import Derived.Test.YtapmolfpkhfpgaaErJ
namespace Go.Proofs.Ytapmolfpkhfpgaa
open Go.RowKit
set_option linter.unusedVariables false
set_option linter.unusedSimpArgs false
set_option maxRecDepth 100000
set_option maxHeartbeats 8000000
theorem unB_int {n : Int} (h0 : 0 ≤ n) (h1 : n ≤ 255) : unB [.v (.int .u8 n)] = some [UInt8.ofNat n.toNat] := by
  simp only [unB]
  rw [if_pos ⟨h0, by omega⟩]; rfl
attribute [go_sem] unB_int
/-- What is out as far as i. -/
def outB' (f : UInt8 → UInt8) (t : List UInt8) (p i : Nat) : List UInt8 := t.take p ++ ((t.drop p).take (i - p)).map f
theorem outB_succ (f : UInt8 → UInt8) (t : List UInt8) {p i : Nat} (h1 : p ≤ i) (h2 : i < t.length) : outB' f t p (i + 1) = outB' f t p i ++ [f t[i]] := by
  have e1 : (t.drop p).take (i + 1 - p) = (t.drop p).take (i - p) ++ [t[i]] := by
    rw [show i + 1 - p = (i - p) + 1 by omega, List.take_succ_eq_append_getElem (by rw [List.length_drop]; omega), List.getElem_drop]
    congr 2
    congr 1
    omega
  unfold outB'
  rw [e1, List.map_append, List.append_assoc]; rfl
theorem outB_len (f : UInt8 → UInt8) (t : List UInt8) (p i : Nat) (hi : i ≤ t.length) : (outB' f t p i).length ≤ 2 * t.length := by
  unfold outB'
  simp only [List.length_append, List.length_map, List.length_take, List.length_drop]
  omega
theorem upper_ab (e : Er) (a : Int) (h0 : 0 ≤ e.now.p) (h1 : e.now.p ≤ e.now.t.length) (ht : e.now.t.length ≤ 100000) (hU : e.undo.length ≤ 64) :
    Ab Try.prog 53 [erA e, ab true, ai a] (erA (ltrR e upC a)) := by
  have c1 := next_ab e.now h0 h1 ht
  have hq := nxW_le e.now.t e.now.p.toNat (by omega)
  have c2 := edit_ab e ⟨outB' upC e.now.t e.now.p.toNat (nxW e.now.t e.now.p.toNat) ++ e.now.t.drop (nxW e.now.t e.now.p.toNat), nxW e.now.t e.now.p.toNat⟩ a hU
  have e1 : ltrR e upC a = edt e ⟨outB' upC e.now.t e.now.p.toNat (nxW e.now.t e.now.p.toNat) ++ e.now.t.drop (nxW e.now.t e.now.p.toNat), nxW e.now.t e.now.p.toNat⟩ a := rfl
  rw [e1]
  generalize edt e ⟨outB' upC e.now.t e.now.p.toNat (nxW e.now.t e.now.p.toNat) ++ e.now.t.drop (nxW e.now.t e.now.p.toNat), nxW e.now.t e.now.p.toNat⟩ a = r at *
  obtain ⟨⟨t, z⟩, m, K, U, R, ks, la, li, sd⟩ := e
  simp only at h0 h1 ht hq c1
  obtain ⟨p, rfl⟩ : ∃ p : Nat, z = p := ⟨z.toNat, by omega⟩
  simp only [Int.toNat_natCast, snA, erA, erC] at c1 c2 hq ⊢
  generalize nxW t p = q at *
  refine Fn_of_aw (keep := []) Try.func53 rfl rfl (by simp [Try.ntmps53]) ?_
  simp only [num_cons, num_nil, Try.ntmps53, Try.results53]
  repeat' (first
 | ((with_reducible apply awO_ev); (· rfl); (· exact sv))
 | ((with_reducible apply aw_seq); intro _ _)
 | (with_reducible apply aw_region)
 | (with_reducible apply aw_block)
 | ((first | (with_reducible apply awO_nil) | (with_reducible apply aw_exit) | (with_reducible apply aw_skip) | (with_reducible apply aw_ret)); (try simp only [CT, ↓reduceIte, Nat.reduceEqDiff]))
 | (refine Kont.go ‹Kont _ _ _ _› _ ?_)
 | ((with_reducible apply aw_draw); (· decide +kernel); (simp only [List.size_toArray, List.length_cons, List.length_nil, Nat.reduceAdd]))
 | ((with_reducible apply awY_done); (· decide +kernel); (try simp only [CT, ↓reduceIte, Nat.reduceEqDiff]))
 | ((with_reducible apply awY_q); (· exact sQ); (· exact np); (· exact svg); (· rfl); (· exact sv))
 | ((with_reducible apply awI_c); (· exact svg); (· rfl); (· rfl); (· exact sv); (· (first | exact c1)); (· rfl); (· rfl); (· rfl); (· exact nd); simp only [put_some])
 | ((with_reducible apply awY_p); (· exact sH); (first | ((with_reducible apply awP_1); (· decide +kernel)) | ((with_reducible apply awP_2); (· exact sP)))))
  refine aw_loopF (fun i : Nat => [(10, ai i), (9, az (outB' upC t p i))]) (fun i => [(3, [az t, ai p, ai m, .rd K.length (K.map az), .rd U.length (snC U), .rd R.length (snC R), az ks, ai la, ai li, az sd]), (6, zE)]) (fun i => p ≤ i ∧ i ≤ q) (fun i => q - i) p ⟨by omega, by omega⟩ ?_ ?_ ?_
  · exact ⟨rfl, congrArg some (az_eq (by simp [outB'])), trivial⟩
  · exact ⟨rfl, rfl, trivial⟩
  intro i ⟨hi, hiq⟩
  (simp only [LP, List.append_assoc, List.nil_append, List.cons_append, List.append_nil, List.contains_cons, List.contains_nil, Nat.reduceBEq, Bool.or_false, Bool.or_true, Bool.true_or, Bool.false_or, ↓reduceIte, Bool.false_eq_true])
  have hZl := outB_len upC t p i (by omega)
  by_cases hil : i < q
  · have hit : i < t.length := by omega
    have hs := outB_succ upC t hi hit
    have hc := UInt8.toNat_lt (t[i]'hit)
    by_cases hr : 97 ≤ (t[i]'hit).toNat ∧ (t[i]'hit).toNat ≤ 122
    · have hx : upC (t[i]'hit) = UInt8.ofNat ((t[i]'hit).toNat - 32) := by
        unfold upC; rw [if_pos hr]
      rw [hx] at hs
      generalize outB' upC t p i = Z at *
      repeat' (first
 | ((with_reducible apply awO_ev); (· rfl); (· exact sv))
 | ((with_reducible apply aw_seq); intro _ _)
 | (with_reducible apply aw_region)
 | (with_reducible apply aw_block)
 | ((first | (with_reducible apply awO_nil) | (with_reducible apply aw_exit) | (with_reducible apply aw_skip) | (with_reducible apply aw_ret)); (try simp only [CT, ↓reduceIte, Nat.reduceEqDiff]))
 | ((with_reducible apply awO_y); (· rfl); (· rfl); (· decide); (· exact sv); (· exact sv))
 | (refine Kont.go ‹Kont _ _ _ _› _ ?_)
 | ((first | ((with_reducible apply awO_guard); (· rfl); (· rfl); (· exact sv)) | ((with_reducible apply aw_cond); (· exact sv))); all_goals (intro hg; (try simp only [Bool.not_true, Bool.not_false]); (try simp only [decide_eq_true_eq, decide_eq_false_iff_not, Bool.not_true, Bool.not_false, Bool.not_eq_true', Bool.not_eq_false', Bool.not_not, beq_eq_false_iff_ne, ne_eq, beq_iff_eq, decide_eq_decide] at hg); try (exfalso; omega))))
      all_goals (refine LE_mk (i + 1) ⟨by omega, by omega⟩ (by omega) ?_ sN ⟨rfl, rfl, trivial⟩; rw [hs]; exact ⟨rfl, rfl, trivial⟩)
    · have hx : upC (t[i]'hit) = t[i]'hit := by
        unfold upC; rw [if_neg hr]
      rw [hx] at hs
      generalize outB' upC t p i = Z at *
      repeat' (first
 | ((with_reducible apply awO_ev); (· rfl); (· exact sv))
 | ((with_reducible apply aw_seq); intro _ _)
 | (with_reducible apply aw_region)
 | (with_reducible apply aw_block)
 | ((first | (with_reducible apply awO_nil) | (with_reducible apply aw_exit) | (with_reducible apply aw_skip) | (with_reducible apply aw_ret)); (try simp only [CT, ↓reduceIte, Nat.reduceEqDiff]))
 | ((with_reducible apply awO_y); (· rfl); (· rfl); (· decide); (· exact sv); (· exact sv))
 | ((with_reducible apply awO_n); (· rfl); (· rfl); (· decide); (· exact sv); (· rfl); (· rfl); (· decide))
 | ((with_reducible apply aw_cond_false); (· exact sv))
 | (refine Kont.go ‹Kont _ _ _ _› _ ?_)
 | ((first | ((with_reducible apply awO_guard); (· rfl); (· rfl); (· exact sv)) | ((with_reducible apply aw_cond); (· exact sv))); all_goals (intro hg; (try simp only [Bool.not_true, Bool.not_false]); (try simp only [decide_eq_true_eq, decide_eq_false_iff_not, Bool.not_true, Bool.not_false, Bool.not_eq_true', Bool.not_eq_false', Bool.not_not, beq_eq_false_iff_ne, ne_eq, beq_iff_eq, decide_eq_decide] at hg); try (exfalso; omega))))
      all_goals (refine LE_mk (i + 1) ⟨by omega, by omega⟩ (by omega) ?_ sN ⟨rfl, rfl, trivial⟩; rw [hs]; exact ⟨rfl, rfl, trivial⟩)
  · obtain rfl : i = q := by omega
    generalize outB' upC t p i = Z at *
    repeat' (first
 | ((with_reducible apply awO_ev); (· rfl); (· exact sv))
 | ((with_reducible apply aw_seq); intro _ _)
 | (with_reducible apply aw_region)
 | ((first | (with_reducible apply awO_nil) | (with_reducible apply aw_exit) | (with_reducible apply aw_skip) | (with_reducible apply aw_ret)); (try simp only [CT, ↓reduceIte, Nat.reduceEqDiff]))
 | (refine Kont.go ‹Kont _ _ _ _› _ ?_)
 | ((with_reducible apply aw_draw); (· decide +kernel); (simp only [List.size_toArray, List.length_cons, List.length_nil, Nat.reduceAdd]))
 | ((with_reducible apply awY_done); (· decide +kernel); (try simp only [CT, ↓reduceIte, Nat.reduceEqDiff]))
 | ((with_reducible apply awY_q); (· exact sQ); (· exact np); (· exact svg); (· rfl); (· exact sv))
 | ((with_reducible apply awI_ev); (· exact svg); (· rfl); (· exact sv))
 | ((with_reducible apply awI_c); (· exact svg); (· rfl); (· rfl); (· exact sv); (· (first | exact c2)); (· rfl); (· rfl); (· rfl); (· exact nd); simp only [put_some])
 | ((first | ((with_reducible apply awO_guard); (· rfl); (· rfl); (· exact sv)) | ((with_reducible apply aw_cond); (· exact sv))); all_goals (intro hg; (try simp only [Bool.not_true, Bool.not_false]); (try simp only [decide_eq_true_eq, decide_eq_false_iff_not, Bool.not_true, Bool.not_false, Bool.not_eq_true', Bool.not_eq_false', Bool.not_not, beq_eq_false_iff_ne, ne_eq, beq_iff_eq, decide_eq_decide] at hg); try (exfalso; omega)))
 | ((with_reducible apply retQ_mk); (· (first | exact .inr rfl | exact .inl rfl)); (· exact sv); (· exact sv); rotate_left; (· rfl))
 | ((with_reducible apply awY_p); (· exact sH); (first | ((with_reducible apply awP_1); (· decide +kernel)) | ((with_reducible apply awP_2); (· exact sP)))))
    all_goals rfl
theorem lower_ab (e : Er) (a : Int) (h0 : 0 ≤ e.now.p) (h1 : e.now.p ≤ e.now.t.length) (ht : e.now.t.length ≤ 100000) (hU : e.undo.length ≤ 64) :
    Ab Try.prog 53 [erA e, ab false, ai a] (erA (ltrR e loC a)) := by
  have c1 := next_ab e.now h0 h1 ht
  have hq := nxW_le e.now.t e.now.p.toNat (by omega)
  have c2 := edit_ab e ⟨outB' loC e.now.t e.now.p.toNat (nxW e.now.t e.now.p.toNat) ++ e.now.t.drop (nxW e.now.t e.now.p.toNat), nxW e.now.t e.now.p.toNat⟩ a hU
  have e1 : ltrR e loC a = edt e ⟨outB' loC e.now.t e.now.p.toNat (nxW e.now.t e.now.p.toNat) ++ e.now.t.drop (nxW e.now.t e.now.p.toNat), nxW e.now.t e.now.p.toNat⟩ a := rfl
  rw [e1]
  generalize edt e ⟨outB' loC e.now.t e.now.p.toNat (nxW e.now.t e.now.p.toNat) ++ e.now.t.drop (nxW e.now.t e.now.p.toNat), nxW e.now.t e.now.p.toNat⟩ a = r at *
  obtain ⟨⟨t, z⟩, m, K, U, R, ks, la, li, sd⟩ := e
  simp only at h0 h1 ht hq c1
  obtain ⟨p, rfl⟩ : ∃ p : Nat, z = p := ⟨z.toNat, by omega⟩
  simp only [Int.toNat_natCast, snA, erA, erC] at c1 c2 hq ⊢
  generalize nxW t p = q at *
  refine Fn_of_aw (keep := []) Try.func53 rfl rfl (by simp [Try.ntmps53]) ?_
  simp only [num_cons, num_nil, Try.ntmps53, Try.results53]
  repeat' (first
 | ((with_reducible apply awO_ev); (· rfl); (· exact sv))
 | ((with_reducible apply aw_seq); intro _ _)
 | (with_reducible apply aw_region)
 | (with_reducible apply aw_block)
 | ((first | (with_reducible apply awO_nil) | (with_reducible apply aw_exit) | (with_reducible apply aw_skip) | (with_reducible apply aw_ret)); (try simp only [CT, ↓reduceIte, Nat.reduceEqDiff]))
 | (refine Kont.go ‹Kont _ _ _ _› _ ?_)
 | ((with_reducible apply aw_draw); (· decide +kernel); (simp only [List.size_toArray, List.length_cons, List.length_nil, Nat.reduceAdd]))
 | ((with_reducible apply awY_done); (· decide +kernel); (try simp only [CT, ↓reduceIte, Nat.reduceEqDiff]))
 | ((with_reducible apply awY_q); (· exact sQ); (· exact np); (· exact svg); (· rfl); (· exact sv))
 | ((with_reducible apply awI_c); (· exact svg); (· rfl); (· rfl); (· exact sv); (· (first | exact c1)); (· rfl); (· rfl); (· rfl); (· exact nd); simp only [put_some])
 | ((with_reducible apply awY_p); (· exact sH); (first | ((with_reducible apply awP_1); (· decide +kernel)) | ((with_reducible apply awP_2); (· exact sP)))))
  refine aw_loopF (fun i : Nat => [(10, ai i), (9, az (outB' loC t p i))]) (fun i => [(3, [az t, ai p, ai m, .rd K.length (K.map az), .rd U.length (snC U), .rd R.length (snC R), az ks, ai la, ai li, az sd]), (6, zE)]) (fun i => p ≤ i ∧ i ≤ q) (fun i => q - i) p ⟨by omega, by omega⟩ ?_ ?_ ?_
  · exact ⟨rfl, congrArg some (az_eq (by simp [outB'])), trivial⟩
  · exact ⟨rfl, rfl, trivial⟩
  intro i ⟨hi, hiq⟩
  (simp only [LP, List.append_assoc, List.nil_append, List.cons_append, List.append_nil, List.contains_cons, List.contains_nil, Nat.reduceBEq, Bool.or_false, Bool.or_true, Bool.true_or, Bool.false_or, ↓reduceIte, Bool.false_eq_true])
  have hZl := outB_len loC t p i (by omega)
  by_cases hil : i < q
  · have hit : i < t.length := by omega
    have hs := outB_succ loC t hi hit
    have hc := UInt8.toNat_lt (t[i]'hit)
    by_cases hr : 65 ≤ (t[i]'hit).toNat ∧ (t[i]'hit).toNat ≤ 90
    · have hx : loC (t[i]'hit) = UInt8.ofNat ((t[i]'hit).toNat + 32) := by
        unfold loC; rw [if_pos hr]
      rw [hx] at hs
      generalize outB' loC t p i = Z at *
      repeat' (first
 | ((with_reducible apply awO_ev); (· rfl); (· exact sv))
 | ((with_reducible apply aw_seq); intro _ _)
 | (with_reducible apply aw_region)
 | (with_reducible apply aw_block)
 | ((first | (with_reducible apply awO_nil) | (with_reducible apply aw_exit) | (with_reducible apply aw_skip) | (with_reducible apply aw_ret)); (try simp only [CT, ↓reduceIte, Nat.reduceEqDiff]))
 | ((with_reducible apply awO_y); (· rfl); (· rfl); (· decide); (· exact sv); (· exact sv))
 | ((with_reducible apply awO_n); (· rfl); (· rfl); (· decide); (· exact sv); (· rfl); (· rfl); (· decide))
 | ((with_reducible apply aw_cond_false); (· exact sv))
 | (refine Kont.go ‹Kont _ _ _ _› _ ?_)
 | ((first | ((with_reducible apply awO_guard); (· rfl); (· rfl); (· exact sv)) | ((with_reducible apply aw_cond); (· exact sv))); all_goals (intro hg; (try simp only [Bool.not_true, Bool.not_false]); (try simp only [decide_eq_true_eq, decide_eq_false_iff_not, Bool.not_true, Bool.not_false, Bool.not_eq_true', Bool.not_eq_false', Bool.not_not, beq_eq_false_iff_ne, ne_eq, beq_iff_eq, decide_eq_decide] at hg); try (exfalso; omega))))
      all_goals (refine LE_mk (i + 1) ⟨by omega, by omega⟩ (by omega) ?_ sN ⟨rfl, rfl, trivial⟩; rw [hs]; exact ⟨rfl, rfl, trivial⟩)
    · have hx : loC (t[i]'hit) = t[i]'hit := by
        unfold loC; rw [if_neg hr]
      rw [hx] at hs
      generalize outB' loC t p i = Z at *
      repeat' (first
 | ((with_reducible apply awO_ev); (· rfl); (· exact sv))
 | ((with_reducible apply aw_seq); intro _ _)
 | (with_reducible apply aw_region)
 | (with_reducible apply aw_block)
 | ((first | (with_reducible apply awO_nil) | (with_reducible apply aw_exit) | (with_reducible apply aw_skip) | (with_reducible apply aw_ret)); (try simp only [CT, ↓reduceIte, Nat.reduceEqDiff]))
 | ((with_reducible apply awO_y); (· rfl); (· rfl); (· decide); (· exact sv); (· exact sv))
 | ((with_reducible apply awO_n); (· rfl); (· rfl); (· decide); (· exact sv); (· rfl); (· rfl); (· decide))
 | ((with_reducible apply aw_cond_false); (· exact sv))
 | (refine Kont.go ‹Kont _ _ _ _› _ ?_)
 | ((first | ((with_reducible apply awO_guard); (· rfl); (· rfl); (· exact sv)) | ((with_reducible apply aw_cond); (· exact sv))); all_goals (intro hg; (try simp only [Bool.not_true, Bool.not_false]); (try simp only [decide_eq_true_eq, decide_eq_false_iff_not, Bool.not_true, Bool.not_false, Bool.not_eq_true', Bool.not_eq_false', Bool.not_not, beq_eq_false_iff_ne, ne_eq, beq_iff_eq, decide_eq_decide] at hg); try (exfalso; omega))))
      all_goals (refine LE_mk (i + 1) ⟨by omega, by omega⟩ (by omega) ?_ sN ⟨rfl, rfl, trivial⟩; rw [hs]; exact ⟨rfl, rfl, trivial⟩)
  · obtain rfl : i = q := by omega
    generalize outB' loC t p i = Z at *
    repeat' (first
 | ((with_reducible apply awO_ev); (· rfl); (· exact sv))
 | ((with_reducible apply aw_seq); intro _ _)
 | (with_reducible apply aw_region)
 | ((first | (with_reducible apply awO_nil) | (with_reducible apply aw_exit) | (with_reducible apply aw_skip) | (with_reducible apply aw_ret)); (try simp only [CT, ↓reduceIte, Nat.reduceEqDiff]))
 | (refine Kont.go ‹Kont _ _ _ _› _ ?_)
 | ((with_reducible apply aw_draw); (· decide +kernel); (simp only [List.size_toArray, List.length_cons, List.length_nil, Nat.reduceAdd]))
 | ((with_reducible apply awY_done); (· decide +kernel); (try simp only [CT, ↓reduceIte, Nat.reduceEqDiff]))
 | ((with_reducible apply awY_q); (· exact sQ); (· exact np); (· exact svg); (· rfl); (· exact sv))
 | ((with_reducible apply awI_ev); (· exact svg); (· rfl); (· exact sv))
 | ((with_reducible apply awI_c); (· exact svg); (· rfl); (· rfl); (· exact sv); (· (first | exact c2)); (· rfl); (· rfl); (· rfl); (· exact nd); simp only [put_some])
 | ((first | ((with_reducible apply awO_guard); (· rfl); (· rfl); (· exact sv)) | ((with_reducible apply aw_cond); (· exact sv))); all_goals (intro hg; (try simp only [Bool.not_true, Bool.not_false]); (try simp only [decide_eq_true_eq, decide_eq_false_iff_not, Bool.not_true, Bool.not_false, Bool.not_eq_true', Bool.not_eq_false', Bool.not_not, beq_eq_false_iff_ne, ne_eq, beq_iff_eq, decide_eq_decide] at hg); try (exfalso; omega)))
 | ((with_reducible apply retQ_mk); (· (first | exact .inr rfl | exact .inl rfl)); (· exact sv); (· exact sv); rotate_left; (· rfl))
 | ((with_reducible apply awY_p); (· exact sH); (first | ((with_reducible apply awP_1); (· decide +kernel)) | ((with_reducible apply awP_2); (· exact sP)))))
    all_goals rfl
end Go.Proofs.Ytapmolfpkhfpgaa
