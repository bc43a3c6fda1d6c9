/- The editor as data and as own objects; small methods of the program, on the abstract machine. -/
import Derived.Test.YtapmolfpkhfpgaaErC
import Derived.Test.YtapmolfpkhfpgaaErD
import Derived.Test.YtapmolfpkhfpgaaMgD
namespace Go.Proofs.Ytapmolfpkhfpgaa
open Go.RowKit
set_option linter.unusedVariables false
set_option linter.unusedSimpArgs false
set_option maxRecDepth 100000
set_option maxHeartbeats 8000000
abbrev snC (U : List Sn) : List AV := U.flatMap fun s => [az s.t, ai s.p]
/-- An editor as data. -/
abbrev erC (e : Er) : List AV := [az e.now.t, ai e.now.p, ai e.mark, .rd e.kills.length (e.kills.map az), .rd e.undo.length (snC e.undo), .rd e.redo.length (snC e.redo), az e.keys, ai e.last, ai e.line, az e.saved]
abbrev erA (e : Er) : AV := .ag (erC e)
abbrev hsA (f : Int) (L : List (List UInt8)) : AV := .ag [ai f, .rd L.length (L.map az)]
/-- An editor at work: the own objects 9, 2000, 3000 and 4000. -/
abbrev wkC (e : Er) (L : List (List UInt8)) (a : Int) : List AV := [az e.now.t, ai e.now.p, ai e.mark, .os 2000 0 1 e.kills.length, .os 3000 0 2 e.undo.length, .os 4000 0 2 e.redo.length, az e.keys, ai e.last, ai e.line, az e.saved, .rd L.length (L.map az), ai a]
abbrev wkH (e : Er) (L : List (List UInt8)) (a : Int) : Hp := [(9, wkC e L a), (2000, e.kills.map az), (3000, snC e.undo), (4000, snC e.redo)]
theorem snC_data (U : List Sn) : (snC U).all dataC = true := by
  induction U with
  | nil => rfl
  | cons x r ih => simp only [snC, List.flatMap_cons, List.all_append] at ih ⊢; rw [ih]; rfl
theorem snC_append (a b : List Sn) : snC (a ++ b) = snC a ++ snC b := by simp [snC]
theorem snC_len (U : List Sn) : (snC U).length = U.length * 2 := flat2_len
theorem roK {hp : Hp} {keep : List Nat} (K : List (List UInt8)) : roCs hp keep (K.map az) = some (K.map az) := roCs_data (by simp [dataC])
theorem roS {hp : Hp} {keep : List Nat} (U : List Sn) : roCs hp keep (snC U) = some (snC U) := roCs_data (snC_data U)
theorem replace_fn (e : Er) (L : List (List UInt8)) (a : Int) (i j : Nat) (x : List UInt8) (hij : i ≤ j) (hj : j ≤ e.now.t.length) (ht : e.now.t.length ≤ 100000) (hx : x.length ≤ 100000) :
    Fn Try.prog 37 [.pt 9 0, ai i, ai j, az x] (wkH e L a) (.tp []) (wkH { e with now := rplS e.now i j x } L a) [9, 2000, 3000, 4000] := by
  refine Fn_of_aw (keep := [9, 2000, 3000, 4000]) Try.func37 rfl rfl (by simp [Try.ntmps37]) ?_
  simp only [num_cons, num_nil, Try.ntmps37, Try.results37]
  repeat' (first
 | ((with_reducible apply awO_ev); (· rfl); (· exact sv))
 | ((with_reducible apply aw_seq); intro _ _)
 | (with_reducible apply aw_region)
 | ((first | (with_reducible apply awO_nil) | (with_reducible apply aw_exit) | (with_reducible apply aw_skip) | (with_reducible apply aw_ret)); (try simp only [CT, ↓reduceIte, Nat.reduceEqDiff]))
 | (refine Kont.go ‹Kont _ _ _ _› _ ?_)
 | ((with_reducible apply aw_draw); (· decide +kernel); (simp only [List.size_toArray, List.length_cons, List.length_nil, Nat.reduceAdd]))
 | ((with_reducible apply awY_done); (· decide +kernel); (try simp only [CT, ↓reduceIte, Nat.reduceEqDiff]))
 | ((with_reducible apply awY_q); (· exact sQ); (· exact np); (· exact svg); (· rfl); (· exact sv))
 | ((with_reducible apply awI_ev); (· exact svg); (· rfl); (· exact sv))
 | ((with_reducible apply awY_p); (· exact sH); (first | ((with_reducible apply awP_1); (· decide +kernel)) | ((with_reducible apply awP_2); (· exact sP)))))
  all_goals refine retQ_mkL (.inl rfl) rfl rfl rfl ⟨⟨by simp, rfl⟩, ⟨by simp, roK _⟩, ⟨by simp, roS _⟩, ⟨by simp, roS _⟩, trivial⟩ rfl
theorem wordByte_ab (c : UInt8) : Ab Try.prog 56 [au c] (ab (wrB c)) := by
  refine Fn_of_aw (keep := []) Try.func56 rfl rfl (by simp [Try.ntmps56]) ?_
  simp only [num_cons, num_nil, Try.ntmps56, Try.results56]
  repeat' (first
 | ((with_reducible apply awO_ev); (· rfl); (· exact sv))
 | ((with_reducible apply aw_seq); intro _ _)
 | (with_reducible apply aw_region)
 | ((first | (with_reducible apply awO_nil) | (with_reducible apply aw_exit) | (with_reducible apply aw_skip) | (with_reducible apply aw_ret)); (try simp only [CT, ↓reduceIte, Nat.reduceEqDiff]))
 | ((with_reducible apply awO_y); (· rfl); (· rfl); (· decide); (· exact sv); (· exact sv))
 | ((with_reducible apply awO_n); (· rfl); (· rfl); (· decide); (· exact sv); (· rfl); (· rfl); (· decide))
 | ((with_reducible apply awO_u); (· rfl); (· rfl); (· exact svr); (· rfl); (· decide))
 | (refine Kont.go ‹Kont _ _ _ _› _ ?_)
 | ((first | ((with_reducible apply awO_guard); (· rfl); (· rfl); (· exact sv)) | ((with_reducible apply aw_cond); (· exact sv))); all_goals (intro hg; (try simp only [Bool.not_true, Bool.not_false]); (try simp only [decide_eq_true_eq, decide_eq_false_iff_not, Bool.not_true, Bool.not_false, Bool.not_eq_true', Bool.not_eq_false', Bool.not_not, beq_eq_false_iff_ne, ne_eq, beq_iff_eq, decide_eq_decide] at hg); try (exfalso; omega)))
 | ((with_reducible apply retQ_mk); (· (first | exact .inr rfl | exact .inl rfl)); (· exact sv); (· exact sv); rotate_left; (· rfl)))
  all_goals (refine ab_eq ?_; simp only [wrB, Bool.or_eq_true, Bool.and_eq_true, decide_eq_true_eq, Bool.false_eq_true, false_iff, true_iff]; omega)
theorem skF_true {q : UInt8 → Bool} {s : List UInt8} {i : Nat} (h : i < s.length) (e : q s[i] = true) : skF q s i = skF q s (i + 1) := by rw [skF_step q s i h, if_pos e]
theorem skF_false {q : UInt8 → Bool} {s : List UInt8} {i : Nat} (h : i < s.length) (e : q s[i] = false) : skF q s i = i := by rw [skF_step q s i h, if_neg (by simp [e])]
theorem bkF_true {q : UInt8 → Bool} {s : List UInt8} {i : Nat} (h0 : 0 < i) (h : i ≤ s.length) (e : q (s[i - 1]'(by omega)) = true) : bkF q s i = bkF q s (i - 1) := by
  obtain ⟨j, rfl⟩ : ∃ j, i = j + 1 := ⟨i - 1, by omega⟩
  simp only [Nat.add_sub_cancel] at e ⊢
  rw [bkF, List.getElem?_eq_getElem (by omega), Option.getD_some, if_pos e]
theorem bkF_false {q : UInt8 → Bool} {s : List UInt8} {i : Nat} (h0 : 0 < i) (h : i ≤ s.length) (e : q (s[i - 1]'(by omega)) = false) : bkF q s i = i := by
  obtain ⟨j, rfl⟩ : ∃ j, i = j + 1 := ⟨i - 1, by omega⟩
  simp only [Nat.add_sub_cancel] at e
  rw [bkF, List.getElem?_eq_getElem (by omega), Option.getD_some, if_neg (by simp [e])]
theorem after_fn (e : Er) (L : List (List UInt8)) (a : Int) (h0 : 0 ≤ e.now.p) (h1 : e.now.p ≤ e.now.t.length) (ht : e.now.t.length ≤ 100000) :
    Fn Try.prog 39 [.pt 9 0] (wkH e L a) (ai (nxW e.now.t e.now.p.toNat)) (wkH e L a) [9, 2000, 3000, 4000] := by
  obtain ⟨⟨t, z⟩, m, K, U, R, ks, la, li, sd⟩ := e
  simp only at h0 h1 ht
  obtain ⟨p, rfl⟩ : ∃ p : Nat, z = p := ⟨z.toNat, by omega⟩
  simp only [Int.toNat_natCast]
  rw [show wkH ⟨⟨t, p⟩, m, K, U, R, ks, la, li, sd⟩ L a = [(9, [az t, ai p, ai m, .os 2000 0 1 K.length, .os 3000 0 2 U.length, .os 4000 0 2 R.length, az ks, ai la, ai li, az sd, .rd L.length (L.map az), ai a]), (2000, K.map az), (3000, snC U), (4000, snC R)] from rfl]
  refine Fn_of_aw (keep := [9, 2000, 3000, 4000]) Try.func39 rfl rfl (by simp [Try.ntmps39]) ?_
  simp only [num_cons, num_nil, Try.ntmps39, Try.results39]
  repeat' (first
 | ((with_reducible apply awO_ev); (· rfl); (· exact sv))
 | ((with_reducible apply aw_seq); intro _ _)
 | (with_reducible apply aw_region)
 | (with_reducible apply aw_block)
 | ((first | (with_reducible apply awO_nil) | (with_reducible apply aw_exit) | (with_reducible apply aw_skip) | (with_reducible apply aw_ret)); (try simp only [CT, ↓reduceIte, Nat.reduceEqDiff]))
 | (refine Kont.go ‹Kont _ _ _ _› _ ?_)
 | ((with_reducible apply aw_draw); (· decide +kernel); (simp only [List.size_toArray, List.length_cons, List.length_nil, Nat.reduceAdd]))
 | ((with_reducible apply awY_done); (· decide +kernel); (try simp only [CT, ↓reduceIte, Nat.reduceEqDiff]))
 | ((with_reducible apply awY_q); (· exact sQ); (· exact np); (· exact svg); (· rfl); (· exact sv)))
  refine aw_loopF (fun i : Nat => [(3, ai i)]) (fun _ => [(9, [az t, ai p, ai m, .os 2000 0 1 K.length, .os 3000 0 2 U.length, .os 4000 0 2 R.length, az ks, ai la, ai li, az sd, .rd L.length (L.map az), ai a]), (2000, K.map az), (3000, snC U), (4000, snC R)]) (fun i => i ≤ t.length ∧ skF (fun c => !wrB c) t p = skF (fun c => !wrB c) t i) (fun i => t.length - i) p ⟨by omega, rfl⟩ ?_ ?_ ?_
  · exact ⟨rfl, trivial⟩
  · exact ⟨rfl, rfl, rfl, rfl, trivial⟩
  intro i ⟨hi, hI⟩
  (simp only [LP, List.append_assoc, List.nil_append, List.cons_append, List.append_nil, List.contains_cons, List.contains_nil, Nat.reduceBEq, Bool.or_false, Bool.or_true, Bool.true_or, Bool.false_or, ↓reduceIte, Bool.false_eq_true])
  by_cases hil : i < t.length
  · have cw := wordByte_ab t[i]
    cases hw : wrB t[i] with
    | false =>
      rw [hw] at cw
      have hs := skF_true (q := fun c => !wrB c) hil (by simp [hw])
      rw [hs] at hI
      repeat' (first
 | ((with_reducible apply awO_ev); (· rfl); (· exact sv))
 | ((with_reducible apply aw_seq); intro _ _)
 | (with_reducible apply aw_region)
 | (with_reducible apply aw_block)
 | ((first | (with_reducible apply awO_nil) | (with_reducible apply aw_exit) | (with_reducible apply aw_skip) | (with_reducible apply aw_ret)); (try simp only [CT, ↓reduceIte, Nat.reduceEqDiff]))
 | ((with_reducible apply awO_y); (· rfl); (· rfl); (· decide); (· exact sv); (· exact sv))
 | ((with_reducible apply aw_cond_true); (· exact sv))
 | ((with_reducible apply awO_un); (· rfl); (· decide); (· exact sv))
 | (refine Kont.go ‹Kont _ _ _ _› _ ?_)
 | ((with_reducible apply awO_c); (· rfl); (· rfl); (· exact sv); (· (first | exact cw)); (· rfl); (· rfl); (· rfl); (· decide))
 | ((first | ((with_reducible apply awO_guard); (· rfl); (· rfl); (· exact sv)) | ((with_reducible apply aw_cond); (· exact sv))); all_goals (intro hg; (try simp only [Bool.not_true, Bool.not_false]); (try simp only [decide_eq_true_eq, decide_eq_false_iff_not, Bool.not_true, Bool.not_false, Bool.not_eq_true', Bool.not_eq_false', Bool.not_not, beq_eq_false_iff_ne, ne_eq, beq_iff_eq, decide_eq_decide] at hg); try (exfalso; omega))))
      refine LE_mk (i + 1) ⟨by omega, hI⟩ (by omega) sN sN ⟨rfl, rfl, rfl, rfl, trivial⟩
    | true =>
      rw [hw] at cw
      have hs := skF_false (q := fun c => !wrB c) hil (by simp [hw])
      have hN : nxW t p = skF wrB t i := by unfold nxW; rw [hI, hs]
      repeat' (first
 | ((with_reducible apply awO_ev); (· rfl); (· exact sv))
 | ((with_reducible apply aw_seq); intro _ _)
 | (with_reducible apply aw_region)
 | (with_reducible apply aw_block)
 | ((first | (with_reducible apply awO_nil) | (with_reducible apply aw_exit) | (with_reducible apply aw_skip) | (with_reducible apply aw_ret)); (try simp only [CT, ↓reduceIte, Nat.reduceEqDiff]))
 | ((with_reducible apply awO_y); (· rfl); (· rfl); (· decide); (· exact sv); (· exact sv))
 | ((with_reducible apply aw_cond_false); (· exact sv))
 | ((with_reducible apply awO_un); (· rfl); (· decide); (· exact sv))
 | (refine Kont.go ‹Kont _ _ _ _› _ ?_)
 | ((with_reducible apply awO_c); (· rfl); (· rfl); (· exact sv); (· (first | exact cw)); (· rfl); (· rfl); (· rfl); (· decide))
 | ((first | ((with_reducible apply awO_guard); (· rfl); (· rfl); (· exact sv)) | ((with_reducible apply aw_cond); (· exact sv))); all_goals (intro hg; (try simp only [Bool.not_true, Bool.not_false]); (try simp only [decide_eq_true_eq, decide_eq_false_iff_not, Bool.not_true, Bool.not_false, Bool.not_eq_true', Bool.not_eq_false', Bool.not_not, beq_eq_false_iff_ne, ne_eq, beq_iff_eq, decide_eq_decide] at hg); try (exfalso; omega))))
      clear cw hw
      refine aw_loopF (fun j : Nat => [(3, ai j)]) (fun _ => [(9, [az t, ai p, ai m, .os 2000 0 1 K.length, .os 3000 0 2 U.length, .os 4000 0 2 R.length, az ks, ai la, ai li, az sd, .rd L.length (L.map az), ai a]), (2000, K.map az), (3000, snC U), (4000, snC R)]) (fun j => j ≤ t.length ∧ nxW t p = skF wrB t j) (fun j => t.length - j) i ⟨by omega, hN⟩ ?_ ?_ ?_
      · exact ⟨rfl, trivial⟩
      · exact ⟨rfl, rfl, rfl, rfl, trivial⟩
      intro j ⟨hj, hJ⟩
      (simp only [LP, List.append_assoc, List.nil_append, List.cons_append, List.append_nil, List.contains_cons, List.contains_nil, Nat.reduceBEq, Bool.or_false, Bool.or_true, Bool.true_or, Bool.false_or, ↓reduceIte, Bool.false_eq_true])
      by_cases hjl : j < t.length
      · have cw := wordByte_ab t[j]
        cases hw : wrB t[j] with
        | true =>
          rw [hw] at cw
          have hs := skF_true hjl hw
          rw [hs] at hJ
          repeat' (first
 | ((with_reducible apply awO_ev); (· rfl); (· exact sv))
 | ((with_reducible apply aw_seq); intro _ _)
 | (with_reducible apply aw_region)
 | (with_reducible apply aw_block)
 | ((first | (with_reducible apply awO_nil) | (with_reducible apply aw_exit) | (with_reducible apply aw_skip) | (with_reducible apply aw_ret)); (try simp only [CT, ↓reduceIte, Nat.reduceEqDiff]))
 | ((with_reducible apply awO_y); (· rfl); (· rfl); (· decide); (· exact sv); (· exact sv))
 | ((with_reducible apply aw_cond_true); (· exact sv))
 | ((with_reducible apply awO_un); (· rfl); (· decide); (· exact sv))
 | (refine Kont.go ‹Kont _ _ _ _› _ ?_)
 | ((with_reducible apply awO_c); (· rfl); (· rfl); (· exact sv); (· (first | exact cw)); (· rfl); (· rfl); (· rfl); (· decide))
 | ((first | ((with_reducible apply awO_guard); (· rfl); (· rfl); (· exact sv)) | ((with_reducible apply aw_cond); (· exact sv))); all_goals (intro hg; (try simp only [Bool.not_true, Bool.not_false]); (try simp only [decide_eq_true_eq, decide_eq_false_iff_not, Bool.not_true, Bool.not_false, Bool.not_eq_true', Bool.not_eq_false', Bool.not_not, beq_eq_false_iff_ne, ne_eq, beq_iff_eq, decide_eq_decide] at hg); try (exfalso; omega))))
          refine LE_mk (j + 1) ⟨by omega, hJ⟩ (by omega) sN sN ⟨rfl, rfl, rfl, rfl, trivial⟩
        | false =>
          rw [hw] at cw
          have hs := skF_false hjl hw
          rw [hs] at hJ
          repeat' (first
 | ((with_reducible apply awO_ev); (· rfl); (· exact sv))
 | ((with_reducible apply aw_seq); intro _ _)
 | (with_reducible apply aw_region)
 | ((first | (with_reducible apply awO_nil) | (with_reducible apply aw_exit) | (with_reducible apply aw_skip) | (with_reducible apply aw_ret)); (try simp only [CT, ↓reduceIte, Nat.reduceEqDiff]))
 | ((with_reducible apply awO_y); (· rfl); (· rfl); (· decide); (· exact sv); (· exact sv))
 | ((with_reducible apply aw_cond_false); (· exact sv))
 | ((with_reducible apply awO_un); (· rfl); (· decide); (· exact sv))
 | (refine Kont.go ‹Kont _ _ _ _› _ ?_)
 | ((with_reducible apply awO_c); (· rfl); (· rfl); (· exact sv); (· (first | exact cw)); (· rfl); (· rfl); (· rfl); (· decide))
 | ((first | ((with_reducible apply awO_guard); (· rfl); (· rfl); (· exact sv)) | ((with_reducible apply aw_cond); (· exact sv))); all_goals (intro hg; (try simp only [Bool.not_true, Bool.not_false]); (try simp only [decide_eq_true_eq, decide_eq_false_iff_not, Bool.not_true, Bool.not_false, Bool.not_eq_true', Bool.not_eq_false', Bool.not_not, beq_eq_false_iff_ne, ne_eq, beq_iff_eq, decide_eq_decide] at hg); try (exfalso; omega))))
          all_goals refine retQ_mkL (by first | exact .inr rfl | exact .inl rfl) rfl rfl (congrArg (fun n : Nat => ai n) hJ.symm) ⟨⟨by simp, rfl⟩, ⟨by simp, roK _⟩, ⟨by simp, roS _⟩, ⟨by simp, roS _⟩, trivial⟩ rfl
      · obtain rfl : j = t.length := by omega
        rw [skF_end] at hJ
        repeat' (first
 | ((with_reducible apply awO_ev); (· rfl); (· exact sv))
 | ((with_reducible apply aw_seq); intro _ _)
 | (with_reducible apply aw_region)
 | ((first | (with_reducible apply awO_nil) | (with_reducible apply aw_exit) | (with_reducible apply aw_skip) | (with_reducible apply aw_ret)); (try simp only [CT, ↓reduceIte, Nat.reduceEqDiff]))
 | ((with_reducible apply awO_n); (· rfl); (· rfl); (· decide); (· exact sv); (· rfl); (· rfl); (· decide))
 | ((with_reducible apply aw_cond_false); (· exact sv))
 | (refine Kont.go ‹Kont _ _ _ _› _ ?_)
 | ((first | ((with_reducible apply awO_guard); (· rfl); (· rfl); (· exact sv)) | ((with_reducible apply aw_cond); (· exact sv))); all_goals (intro hg; (try simp only [Bool.not_true, Bool.not_false]); (try simp only [decide_eq_true_eq, decide_eq_false_iff_not, Bool.not_true, Bool.not_false, Bool.not_eq_true', Bool.not_eq_false', Bool.not_not, beq_eq_false_iff_ne, ne_eq, beq_iff_eq, decide_eq_decide] at hg); try (exfalso; omega))))
        all_goals refine retQ_mkL (by first | exact .inr rfl | exact .inl rfl) rfl rfl (congrArg (fun n : Nat => ai n) hJ.symm) ⟨⟨by simp, rfl⟩, ⟨by simp, roK _⟩, ⟨by simp, roS _⟩, ⟨by simp, roS _⟩, trivial⟩ rfl
  · obtain rfl : i = t.length := by omega
    rw [skF_end] at hI
    have hN : nxW t p = skF wrB t t.length := by unfold nxW; rw [hI]
    repeat' (first
 | ((with_reducible apply awO_ev); (· rfl); (· exact sv))
 | ((with_reducible apply aw_seq); intro _ _)
 | (with_reducible apply aw_region)
 | (with_reducible apply aw_block)
 | ((first | (with_reducible apply awO_nil) | (with_reducible apply aw_exit) | (with_reducible apply aw_skip) | (with_reducible apply aw_ret)); (try simp only [CT, ↓reduceIte, Nat.reduceEqDiff]))
 | ((with_reducible apply awO_n); (· rfl); (· rfl); (· decide); (· exact sv); (· rfl); (· rfl); (· decide))
 | ((with_reducible apply aw_cond_false); (· exact sv))
 | (refine Kont.go ‹Kont _ _ _ _› _ ?_)
 | ((first | ((with_reducible apply awO_guard); (· rfl); (· rfl); (· exact sv)) | ((with_reducible apply aw_cond); (· exact sv))); all_goals (intro hg; (try simp only [Bool.not_true, Bool.not_false]); (try simp only [decide_eq_true_eq, decide_eq_false_iff_not, Bool.not_true, Bool.not_false, Bool.not_eq_true', Bool.not_eq_false', Bool.not_not, beq_eq_false_iff_ne, ne_eq, beq_iff_eq, decide_eq_decide] at hg); try (exfalso; omega))))
    refine aw_loopF (fun j : Nat => [(3, ai j)]) (fun _ => [(9, [az t, ai p, ai m, .os 2000 0 1 K.length, .os 3000 0 2 U.length, .os 4000 0 2 R.length, az ks, ai la, ai li, az sd, .rd L.length (L.map az), ai a]), (2000, K.map az), (3000, snC U), (4000, snC R)]) (fun j => j ≤ t.length ∧ nxW t p = skF wrB t j) (fun j => t.length - j) t.length ⟨by omega, hN⟩ ?_ ?_ ?_
    · exact ⟨rfl, trivial⟩
    · exact ⟨rfl, rfl, rfl, rfl, trivial⟩
    intro j ⟨hj, hJ⟩
    (simp only [LP, List.append_assoc, List.nil_append, List.cons_append, List.append_nil, List.contains_cons, List.contains_nil, Nat.reduceBEq, Bool.or_false, Bool.or_true, Bool.true_or, Bool.false_or, ↓reduceIte, Bool.false_eq_true])
    by_cases hjl : j < t.length
    · have cw := wordByte_ab t[j]
      cases hw : wrB t[j] with
      | true =>
        rw [hw] at cw
        have hs := skF_true hjl hw
        rw [hs] at hJ
        repeat' (first
 | ((with_reducible apply awO_ev); (· rfl); (· exact sv))
 | ((with_reducible apply aw_seq); intro _ _)
 | (with_reducible apply aw_region)
 | (with_reducible apply aw_block)
 | ((first | (with_reducible apply awO_nil) | (with_reducible apply aw_exit) | (with_reducible apply aw_skip) | (with_reducible apply aw_ret)); (try simp only [CT, ↓reduceIte, Nat.reduceEqDiff]))
 | ((with_reducible apply awO_y); (· rfl); (· rfl); (· decide); (· exact sv); (· exact sv))
 | ((with_reducible apply aw_cond_true); (· exact sv))
 | ((with_reducible apply awO_un); (· rfl); (· decide); (· exact sv))
 | (refine Kont.go ‹Kont _ _ _ _› _ ?_)
 | ((with_reducible apply awO_c); (· rfl); (· rfl); (· exact sv); (· (first | exact cw)); (· rfl); (· rfl); (· rfl); (· decide))
 | ((first | ((with_reducible apply awO_guard); (· rfl); (· rfl); (· exact sv)) | ((with_reducible apply aw_cond); (· exact sv))); all_goals (intro hg; (try simp only [Bool.not_true, Bool.not_false]); (try simp only [decide_eq_true_eq, decide_eq_false_iff_not, Bool.not_true, Bool.not_false, Bool.not_eq_true', Bool.not_eq_false', Bool.not_not, beq_eq_false_iff_ne, ne_eq, beq_iff_eq, decide_eq_decide] at hg); try (exfalso; omega))))
        refine LE_mk (j + 1) ⟨by omega, hJ⟩ (by omega) sN sN ⟨rfl, rfl, rfl, rfl, trivial⟩
      | false =>
        rw [hw] at cw
        have hs := skF_false hjl hw
        rw [hs] at hJ
        repeat' (first
 | ((with_reducible apply awO_ev); (· rfl); (· exact sv))
 | ((with_reducible apply aw_seq); intro _ _)
 | (with_reducible apply aw_region)
 | ((first | (with_reducible apply awO_nil) | (with_reducible apply aw_exit) | (with_reducible apply aw_skip) | (with_reducible apply aw_ret)); (try simp only [CT, ↓reduceIte, Nat.reduceEqDiff]))
 | ((with_reducible apply awO_y); (· rfl); (· rfl); (· decide); (· exact sv); (· exact sv))
 | ((with_reducible apply aw_cond_false); (· exact sv))
 | ((with_reducible apply awO_un); (· rfl); (· decide); (· exact sv))
 | (refine Kont.go ‹Kont _ _ _ _› _ ?_)
 | ((with_reducible apply awO_c); (· rfl); (· rfl); (· exact sv); (· (first | exact cw)); (· rfl); (· rfl); (· rfl); (· decide))
 | ((first | ((with_reducible apply awO_guard); (· rfl); (· rfl); (· exact sv)) | ((with_reducible apply aw_cond); (· exact sv))); all_goals (intro hg; (try simp only [Bool.not_true, Bool.not_false]); (try simp only [decide_eq_true_eq, decide_eq_false_iff_not, Bool.not_true, Bool.not_false, Bool.not_eq_true', Bool.not_eq_false', Bool.not_not, beq_eq_false_iff_ne, ne_eq, beq_iff_eq, decide_eq_decide] at hg); try (exfalso; omega))))
        all_goals refine retQ_mkL (by first | exact .inr rfl | exact .inl rfl) rfl rfl (congrArg (fun n : Nat => ai n) hJ.symm) ⟨⟨by simp, rfl⟩, ⟨by simp, roK _⟩, ⟨by simp, roS _⟩, ⟨by simp, roS _⟩, trivial⟩ rfl
    · obtain rfl : j = t.length := by omega
      rw [skF_end] at hJ
      repeat' (first
 | ((with_reducible apply awO_ev); (· rfl); (· exact sv))
 | ((with_reducible apply aw_seq); intro _ _)
 | (with_reducible apply aw_region)
 | ((first | (with_reducible apply awO_nil) | (with_reducible apply aw_exit) | (with_reducible apply aw_skip) | (with_reducible apply aw_ret)); (try simp only [CT, ↓reduceIte, Nat.reduceEqDiff]))
 | ((with_reducible apply awO_n); (· rfl); (· rfl); (· decide); (· exact sv); (· rfl); (· rfl); (· decide))
 | ((with_reducible apply aw_cond_false); (· exact sv))
 | (refine Kont.go ‹Kont _ _ _ _› _ ?_)
 | ((first | ((with_reducible apply awO_guard); (· rfl); (· rfl); (· exact sv)) | ((with_reducible apply aw_cond); (· exact sv))); all_goals (intro hg; (try simp only [Bool.not_true, Bool.not_false]); (try simp only [decide_eq_true_eq, decide_eq_false_iff_not, Bool.not_true, Bool.not_false, Bool.not_eq_true', Bool.not_eq_false', Bool.not_not, beq_eq_false_iff_ne, ne_eq, beq_iff_eq, decide_eq_decide] at hg); try (exfalso; omega))))
      all_goals refine retQ_mkL (by first | exact .inr rfl | exact .inl rfl) rfl rfl (congrArg (fun n : Nat => ai n) hJ.symm) ⟨⟨by simp, rfl⟩, ⟨by simp, roK _⟩, ⟨by simp, roS _⟩, ⟨by simp, roS _⟩, trivial⟩ rfl
theorem before_fn (e : Er) (L : List (List UInt8)) (a : Int) (h0 : 0 ≤ e.now.p) (h1 : e.now.p ≤ e.now.t.length) (ht : e.now.t.length ≤ 100000) :
    Fn Try.prog 38 [.pt 9 0] (wkH e L a) (ai (lsW e.now.t e.now.p.toNat)) (wkH e L a) [9, 2000, 3000, 4000] := by
  obtain ⟨⟨t, z⟩, m, K, U, R, ks, la, li, sd⟩ := e
  simp only at h0 h1 ht
  obtain ⟨p, rfl⟩ : ∃ p : Nat, z = p := ⟨z.toNat, by omega⟩
  simp only [Int.toNat_natCast]
  rw [show wkH ⟨⟨t, p⟩, m, K, U, R, ks, la, li, sd⟩ L a = [(9, [az t, ai p, ai m, .os 2000 0 1 K.length, .os 3000 0 2 U.length, .os 4000 0 2 R.length, az ks, ai la, ai li, az sd, .rd L.length (L.map az), ai a]), (2000, K.map az), (3000, snC U), (4000, snC R)] from rfl]
  refine Fn_of_aw (keep := [9, 2000, 3000, 4000]) Try.func38 rfl rfl (by simp [Try.ntmps38]) ?_
  simp only [num_cons, num_nil, Try.ntmps38, Try.results38]
  repeat' (first
 | ((with_reducible apply awO_ev); (· rfl); (· exact sv))
 | ((with_reducible apply aw_seq); intro _ _)
 | (with_reducible apply aw_region)
 | (with_reducible apply aw_block)
 | ((first | (with_reducible apply awO_nil) | (with_reducible apply aw_exit) | (with_reducible apply aw_skip) | (with_reducible apply aw_ret)); (try simp only [CT, ↓reduceIte, Nat.reduceEqDiff]))
 | (refine Kont.go ‹Kont _ _ _ _› _ ?_)
 | ((with_reducible apply aw_draw); (· decide +kernel); (simp only [List.size_toArray, List.length_cons, List.length_nil, Nat.reduceAdd]))
 | ((with_reducible apply awY_done); (· decide +kernel); (try simp only [CT, ↓reduceIte, Nat.reduceEqDiff]))
 | ((with_reducible apply awY_q); (· exact sQ); (· exact np); (· exact svg); (· rfl); (· exact sv)))
  refine aw_loopF (fun i : Nat => [(3, ai i)]) (fun _ => [(9, [az t, ai p, ai m, .os 2000 0 1 K.length, .os 3000 0 2 U.length, .os 4000 0 2 R.length, az ks, ai la, ai li, az sd, .rd L.length (L.map az), ai a]), (2000, K.map az), (3000, snC U), (4000, snC R)]) (fun i => i ≤ t.length ∧ bkF (fun c => !wrB c) t p = bkF (fun c => !wrB c) t i) (fun i => i) p ⟨by omega, rfl⟩ ?_ ?_ ?_
  · exact ⟨rfl, trivial⟩
  · exact ⟨rfl, rfl, rfl, rfl, trivial⟩
  intro i ⟨hi, hI⟩
  (simp only [LP, List.append_assoc, List.nil_append, List.cons_append, List.append_nil, List.contains_cons, List.contains_nil, Nat.reduceBEq, Bool.or_false, Bool.or_true, Bool.true_or, Bool.false_or, ↓reduceIte, Bool.false_eq_true])
  by_cases hil : 0 < i
  · have cw := wordByte_ab (t[i - 1]'(by omega))
    cases hw : wrB (t[i - 1]'(by omega)) with
    | false =>
      rw [hw] at cw
      have hs := bkF_true (q := fun c => !wrB c) hil hi (by simp [hw])
      rw [hs] at hI
      repeat' (first
 | ((with_reducible apply awO_ev); (· rfl); (· exact sv))
 | ((with_reducible apply aw_seq); intro _ _)
 | (with_reducible apply aw_region)
 | (with_reducible apply aw_block)
 | ((first | (with_reducible apply awO_nil) | (with_reducible apply aw_exit) | (with_reducible apply aw_skip) | (with_reducible apply aw_ret)); (try simp only [CT, ↓reduceIte, Nat.reduceEqDiff]))
 | ((with_reducible apply awO_y); (· rfl); (· rfl); (· decide); (· exact sv); (· exact sv))
 | ((with_reducible apply aw_cond_true); (· exact sv))
 | ((with_reducible apply awO_un); (· rfl); (· decide); (· exact sv))
 | (refine Kont.go ‹Kont _ _ _ _› _ ?_)
 | ((with_reducible apply awO_c); (· rfl); (· rfl); (· exact sv); (· (first | exact cw)); (· rfl); (· rfl); (· rfl); (· decide))
 | ((first | ((with_reducible apply awO_guard); (· rfl); (· rfl); (· exact sv)) | ((with_reducible apply aw_cond); (· exact sv))); all_goals (intro hg; (try simp only [Bool.not_true, Bool.not_false]); (try simp only [decide_eq_true_eq, decide_eq_false_iff_not, Bool.not_true, Bool.not_false, Bool.not_eq_true', Bool.not_eq_false', Bool.not_not, beq_eq_false_iff_ne, ne_eq, beq_iff_eq, decide_eq_decide] at hg); try (exfalso; omega))))
      refine LE_mk (i - 1) ⟨by omega, hI⟩ (by omega) ?_ sN ⟨rfl, rfl, rfl, rfl, trivial⟩
      exact ⟨congrArg some (ai_eq (by omega)), trivial⟩
    | true =>
      rw [hw] at cw
      have hs := bkF_false (q := fun c => !wrB c) hil hi (by simp [hw])
      have hN : lsW t p = bkF wrB t i := by unfold lsW; rw [hI, hs]
      repeat' (first
 | ((with_reducible apply awO_ev); (· rfl); (· exact sv))
 | ((with_reducible apply aw_seq); intro _ _)
 | (with_reducible apply aw_region)
 | (with_reducible apply aw_block)
 | ((first | (with_reducible apply awO_nil) | (with_reducible apply aw_exit) | (with_reducible apply aw_skip) | (with_reducible apply aw_ret)); (try simp only [CT, ↓reduceIte, Nat.reduceEqDiff]))
 | ((with_reducible apply awO_y); (· rfl); (· rfl); (· decide); (· exact sv); (· exact sv))
 | ((with_reducible apply aw_cond_false); (· exact sv))
 | ((with_reducible apply awO_un); (· rfl); (· decide); (· exact sv))
 | (refine Kont.go ‹Kont _ _ _ _› _ ?_)
 | ((with_reducible apply awO_c); (· rfl); (· rfl); (· exact sv); (· (first | exact cw)); (· rfl); (· rfl); (· rfl); (· decide))
 | ((first | ((with_reducible apply awO_guard); (· rfl); (· rfl); (· exact sv)) | ((with_reducible apply aw_cond); (· exact sv))); all_goals (intro hg; (try simp only [Bool.not_true, Bool.not_false]); (try simp only [decide_eq_true_eq, decide_eq_false_iff_not, Bool.not_true, Bool.not_false, Bool.not_eq_true', Bool.not_eq_false', Bool.not_not, beq_eq_false_iff_ne, ne_eq, beq_iff_eq, decide_eq_decide] at hg); try (exfalso; omega))))
      clear cw hw
      refine aw_loopF (fun j : Nat => [(3, ai j)]) (fun _ => [(9, [az t, ai p, ai m, .os 2000 0 1 K.length, .os 3000 0 2 U.length, .os 4000 0 2 R.length, az ks, ai la, ai li, az sd, .rd L.length (L.map az), ai a]), (2000, K.map az), (3000, snC U), (4000, snC R)]) (fun j => j ≤ t.length ∧ lsW t p = bkF wrB t j) (fun j => j) i ⟨by omega, hN⟩ ?_ ?_ ?_
      · exact ⟨rfl, trivial⟩
      · exact ⟨rfl, rfl, rfl, rfl, trivial⟩
      intro j ⟨hj, hJ⟩
      (simp only [LP, List.append_assoc, List.nil_append, List.cons_append, List.append_nil, List.contains_cons, List.contains_nil, Nat.reduceBEq, Bool.or_false, Bool.or_true, Bool.true_or, Bool.false_or, ↓reduceIte, Bool.false_eq_true])
      by_cases hjl : 0 < j
      · have cw := wordByte_ab (t[j - 1]'(by omega))
        cases hw : wrB (t[j - 1]'(by omega)) with
        | true =>
          rw [hw] at cw
          have hs := bkF_true (q := wrB) hjl hj hw
          rw [hs] at hJ
          repeat' (first
 | ((with_reducible apply awO_ev); (· rfl); (· exact sv))
 | ((with_reducible apply aw_seq); intro _ _)
 | (with_reducible apply aw_region)
 | (with_reducible apply aw_block)
 | ((first | (with_reducible apply awO_nil) | (with_reducible apply aw_exit) | (with_reducible apply aw_skip) | (with_reducible apply aw_ret)); (try simp only [CT, ↓reduceIte, Nat.reduceEqDiff]))
 | ((with_reducible apply awO_y); (· rfl); (· rfl); (· decide); (· exact sv); (· exact sv))
 | ((with_reducible apply aw_cond_true); (· exact sv))
 | ((with_reducible apply awO_un); (· rfl); (· decide); (· exact sv))
 | (refine Kont.go ‹Kont _ _ _ _› _ ?_)
 | ((with_reducible apply awO_c); (· rfl); (· rfl); (· exact sv); (· (first | exact cw)); (· rfl); (· rfl); (· rfl); (· decide))
 | ((first | ((with_reducible apply awO_guard); (· rfl); (· rfl); (· exact sv)) | ((with_reducible apply aw_cond); (· exact sv))); all_goals (intro hg; (try simp only [Bool.not_true, Bool.not_false]); (try simp only [decide_eq_true_eq, decide_eq_false_iff_not, Bool.not_true, Bool.not_false, Bool.not_eq_true', Bool.not_eq_false', Bool.not_not, beq_eq_false_iff_ne, ne_eq, beq_iff_eq, decide_eq_decide] at hg); try (exfalso; omega))))
          refine LE_mk (j - 1) ⟨by omega, hJ⟩ (by omega) ?_ sN ⟨rfl, rfl, rfl, rfl, trivial⟩
          exact ⟨congrArg some (ai_eq (by omega)), trivial⟩
        | false =>
          rw [hw] at cw
          have hs := bkF_false (q := wrB) hjl hj hw
          rw [hs] at hJ
          repeat' (first
 | ((with_reducible apply awO_ev); (· rfl); (· exact sv))
 | ((with_reducible apply aw_seq); intro _ _)
 | (with_reducible apply aw_region)
 | ((first | (with_reducible apply awO_nil) | (with_reducible apply aw_exit) | (with_reducible apply aw_skip) | (with_reducible apply aw_ret)); (try simp only [CT, ↓reduceIte, Nat.reduceEqDiff]))
 | ((with_reducible apply awO_y); (· rfl); (· rfl); (· decide); (· exact sv); (· exact sv))
 | ((with_reducible apply aw_cond_false); (· exact sv))
 | ((with_reducible apply awO_un); (· rfl); (· decide); (· exact sv))
 | (refine Kont.go ‹Kont _ _ _ _› _ ?_)
 | ((with_reducible apply awO_c); (· rfl); (· rfl); (· exact sv); (· (first | exact cw)); (· rfl); (· rfl); (· rfl); (· decide))
 | ((first | ((with_reducible apply awO_guard); (· rfl); (· rfl); (· exact sv)) | ((with_reducible apply aw_cond); (· exact sv))); all_goals (intro hg; (try simp only [Bool.not_true, Bool.not_false]); (try simp only [decide_eq_true_eq, decide_eq_false_iff_not, Bool.not_true, Bool.not_false, Bool.not_eq_true', Bool.not_eq_false', Bool.not_not, beq_eq_false_iff_ne, ne_eq, beq_iff_eq, decide_eq_decide] at hg); try (exfalso; omega))))
          all_goals refine retQ_mkL (by first | exact .inr rfl | exact .inl rfl) rfl rfl (congrArg (fun n : Nat => ai n) hJ.symm) ⟨⟨by simp, rfl⟩, ⟨by simp, roK _⟩, ⟨by simp, roS _⟩, ⟨by simp, roS _⟩, trivial⟩ rfl
      · obtain rfl : j = 0 := by omega
        rw [show bkF wrB t 0 = 0 from rfl] at hJ
        repeat' (first
 | ((with_reducible apply awO_ev); (· rfl); (· exact sv))
 | ((with_reducible apply aw_seq); intro _ _)
 | (with_reducible apply aw_region)
 | ((first | (with_reducible apply awO_nil) | (with_reducible apply aw_exit) | (with_reducible apply aw_skip) | (with_reducible apply aw_ret)); (try simp only [CT, ↓reduceIte, Nat.reduceEqDiff]))
 | ((with_reducible apply awO_n); (· rfl); (· rfl); (· decide); (· exact sv); (· rfl); (· rfl); (· decide))
 | ((with_reducible apply aw_cond_false); (· exact sv))
 | (refine Kont.go ‹Kont _ _ _ _› _ ?_))
        all_goals refine retQ_mkL (by first | exact .inr rfl | exact .inl rfl) rfl rfl (congrArg (fun n : Nat => ai n) hJ.symm) ⟨⟨by simp, rfl⟩, ⟨by simp, roK _⟩, ⟨by simp, roS _⟩, ⟨by simp, roS _⟩, trivial⟩ rfl
  · obtain rfl : i = 0 := by omega
    rw [show bkF (fun c => !wrB c) t 0 = 0 from rfl] at hI
    have hN : lsW t p = bkF wrB t 0 := by unfold lsW; rw [hI]
    repeat' (first
 | ((with_reducible apply awO_ev); (· rfl); (· exact sv))
 | ((with_reducible apply aw_seq); intro _ _)
 | (with_reducible apply aw_region)
 | (with_reducible apply aw_block)
 | ((first | (with_reducible apply awO_nil) | (with_reducible apply aw_exit) | (with_reducible apply aw_skip) | (with_reducible apply aw_ret)); (try simp only [CT, ↓reduceIte, Nat.reduceEqDiff]))
 | ((with_reducible apply awO_n); (· rfl); (· rfl); (· decide); (· exact sv); (· rfl); (· rfl); (· decide))
 | ((with_reducible apply aw_cond_false); (· exact sv))
 | (refine Kont.go ‹Kont _ _ _ _› _ ?_))
    refine aw_loopF (fun j : Nat => [(3, ai j)]) (fun _ => [(9, [az t, ai p, ai m, .os 2000 0 1 K.length, .os 3000 0 2 U.length, .os 4000 0 2 R.length, az ks, ai la, ai li, az sd, .rd L.length (L.map az), ai a]), (2000, K.map az), (3000, snC U), (4000, snC R)]) (fun j => j ≤ t.length ∧ lsW t p = bkF wrB t j) (fun j => j) 0 ⟨by omega, hN⟩ ?_ ?_ ?_
    · exact ⟨rfl, trivial⟩
    · exact ⟨rfl, rfl, rfl, rfl, trivial⟩
    intro j ⟨hj, hJ⟩
    (simp only [LP, List.append_assoc, List.nil_append, List.cons_append, List.append_nil, List.contains_cons, List.contains_nil, Nat.reduceBEq, Bool.or_false, Bool.or_true, Bool.true_or, Bool.false_or, ↓reduceIte, Bool.false_eq_true])
    by_cases hjl : 0 < j
    · have cw := wordByte_ab (t[j - 1]'(by omega))
      cases hw : wrB (t[j - 1]'(by omega)) with
      | true =>
        rw [hw] at cw
        have hs := bkF_true (q := wrB) hjl hj hw
        rw [hs] at hJ
        repeat' (first
 | ((with_reducible apply awO_ev); (· rfl); (· exact sv))
 | ((with_reducible apply aw_seq); intro _ _)
 | (with_reducible apply aw_region)
 | (with_reducible apply aw_block)
 | ((first | (with_reducible apply awO_nil) | (with_reducible apply aw_exit) | (with_reducible apply aw_skip) | (with_reducible apply aw_ret)); (try simp only [CT, ↓reduceIte, Nat.reduceEqDiff]))
 | ((with_reducible apply awO_y); (· rfl); (· rfl); (· decide); (· exact sv); (· exact sv))
 | ((with_reducible apply aw_cond_true); (· exact sv))
 | ((with_reducible apply awO_un); (· rfl); (· decide); (· exact sv))
 | (refine Kont.go ‹Kont _ _ _ _› _ ?_)
 | ((with_reducible apply awO_c); (· rfl); (· rfl); (· exact sv); (· (first | exact cw)); (· rfl); (· rfl); (· rfl); (· decide))
 | ((first | ((with_reducible apply awO_guard); (· rfl); (· rfl); (· exact sv)) | ((with_reducible apply aw_cond); (· exact sv))); all_goals (intro hg; (try simp only [Bool.not_true, Bool.not_false]); (try simp only [decide_eq_true_eq, decide_eq_false_iff_not, Bool.not_true, Bool.not_false, Bool.not_eq_true', Bool.not_eq_false', Bool.not_not, beq_eq_false_iff_ne, ne_eq, beq_iff_eq, decide_eq_decide] at hg); try (exfalso; omega))))
        refine LE_mk (j - 1) ⟨by omega, hJ⟩ (by omega) ?_ sN ⟨rfl, rfl, rfl, rfl, trivial⟩
        exact ⟨congrArg some (ai_eq (by omega)), trivial⟩
      | false =>
        rw [hw] at cw
        have hs := bkF_false (q := wrB) hjl hj hw
        rw [hs] at hJ
        repeat' (first
 | ((with_reducible apply awO_ev); (· rfl); (· exact sv))
 | ((with_reducible apply aw_seq); intro _ _)
 | (with_reducible apply aw_region)
 | ((first | (with_reducible apply awO_nil) | (with_reducible apply aw_exit) | (with_reducible apply aw_skip) | (with_reducible apply aw_ret)); (try simp only [CT, ↓reduceIte, Nat.reduceEqDiff]))
 | ((with_reducible apply awO_y); (· rfl); (· rfl); (· decide); (· exact sv); (· exact sv))
 | ((with_reducible apply aw_cond_false); (· exact sv))
 | ((with_reducible apply awO_un); (· rfl); (· decide); (· exact sv))
 | (refine Kont.go ‹Kont _ _ _ _› _ ?_)
 | ((with_reducible apply awO_c); (· rfl); (· rfl); (· exact sv); (· (first | exact cw)); (· rfl); (· rfl); (· rfl); (· decide))
 | ((first | ((with_reducible apply awO_guard); (· rfl); (· rfl); (· exact sv)) | ((with_reducible apply aw_cond); (· exact sv))); all_goals (intro hg; (try simp only [Bool.not_true, Bool.not_false]); (try simp only [decide_eq_true_eq, decide_eq_false_iff_not, Bool.not_true, Bool.not_false, Bool.not_eq_true', Bool.not_eq_false', Bool.not_not, beq_eq_false_iff_ne, ne_eq, beq_iff_eq, decide_eq_decide] at hg); try (exfalso; omega))))
        all_goals refine retQ_mkL (by first | exact .inr rfl | exact .inl rfl) rfl rfl (congrArg (fun n : Nat => ai n) hJ.symm) ⟨⟨by simp, rfl⟩, ⟨by simp, roK _⟩, ⟨by simp, roS _⟩, ⟨by simp, roS _⟩, trivial⟩ rfl
    · obtain rfl : j = 0 := by omega
      rw [show bkF wrB t 0 = 0 from rfl] at hJ
      repeat' (first
 | ((with_reducible apply awO_ev); (· rfl); (· exact sv))
 | ((with_reducible apply aw_seq); intro _ _)
 | (with_reducible apply aw_region)
 | ((first | (with_reducible apply awO_nil) | (with_reducible apply aw_exit) | (with_reducible apply aw_skip) | (with_reducible apply aw_ret)); (try simp only [CT, ↓reduceIte, Nat.reduceEqDiff]))
 | ((with_reducible apply awO_n); (· rfl); (· rfl); (· decide); (· exact sv); (· rfl); (· rfl); (· decide))
 | ((with_reducible apply aw_cond_false); (· exact sv))
 | (refine Kont.go ‹Kont _ _ _ _› _ ?_))
      all_goals refine retQ_mkL (by first | exact .inr rfl | exact .inl rfl) rfl rfl (congrArg (fun n : Nat => ai n) hJ.symm) ⟨⟨by simp, rfl⟩, ⟨by simp, roK _⟩, ⟨by simp, roS _⟩, ⟨by simp, roS _⟩, trivial⟩ rfl
end Go.Proofs.Ytapmolfpkhfpgaa
