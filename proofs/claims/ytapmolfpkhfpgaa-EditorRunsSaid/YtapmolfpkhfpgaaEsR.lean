/- The law of the editor on runs of keys, on the abstract machine. -/
import Derived.Test.YtapmolfpkhfpgaaEsM
namespace Go.Proofs.Ytapmolfpkhfpgaa
open Go.RowKit
set_option linter.unusedVariables false
set_option linter.unusedSimpArgs false
set_option maxRecDepth 100000
set_option maxHeartbeats 8000000
theorem runR_snoc (B : List Bi) (L : List (List UInt8)) (k : UInt8) : ∀ (s : List UInt8) (e : Er), runR B L e (s ++ [k]) = (keyR (runR B L e s) B k L).1
  | [], e => rfl
  | c :: s, e => runR_snoc B L k s _
def iR (L : List (List UInt8)) (s : List UInt8) : Er := runR dfB L newR s
theorem iR_snoc (L : List (List UInt8)) (s : List UInt8) (k : UInt8) : iR L (s ++ [k]) = (keyR (iR L s) dfB k L).1 := runR_snoc dfB L k s newR
theorem iR_ok (L : List (List UInt8)) (s : List UInt8) : ∀ i, i ≤ s.length → okEr (iR L (s.take i)) ∧ (iR L (s.take i)).keys.length ≤ 2
  | 0, _ => ⟨newR_ok, by show ([] : List UInt8).length ≤ 2; simp⟩
  | i + 1, h => by
    have ih := iR_ok L s i (by omega)
    rw [List.take_succ_eq_append_getElem (by omega : i < s.length), iR_snoc]
    exact ⟨keyR_ok ih.1 dfB _ L (fun _ => by have := ih.2; omega), keyR_keys (m := 2) dfB_k16⟩
abbrev erL (e : Er) : List AV := [az e.now.t, ai e.now.p, ai e.mark, .rd e.kills.length (e.kills.map az), .rd e.undo.length (snC e.undo), .rd e.redo.length (snC e.redo), az e.keys, ai e.last, ai e.line, az e.saved]
theorem editorRuns_ab (s : List UInt8) (f : Int) (L : List (List UInt8)) (hs : s.length ≤ 9000000000000000) (hL : L.length ≤ 9000000000000000) (hl : ∀ s ∈ L, s.length ≤ 9000000000000000) :
    Ab Try.prog 6 [az s, hsA f L] (ab true) := by
  have c0 := awake_ab
  have c2 := lines_ab f L hL hl
  generalize linesB L = b2 at *
  have c1 := new_ab
  have c3 := rdefault_ab
  simp only [hsA] at c2 ⊢
  by_cases h3 : 300 < s.length
  · cases b2 with
    | false =>
      refine Fn_of_aw (keep := []) Try.func6 rfl rfl (by simp [Try.ntmps6]) ?_
      simp only [num_cons, num_nil, Try.ntmps6, Try.results6]
      repeat' (first
 | ((with_reducible apply awO_ev); (· rfl); (· exact sv))
 | ((with_reducible apply aw_seq); intro _ _)
 | (with_reducible apply aw_region)
 | ((first | (with_reducible apply awO_nil) | (with_reducible apply aw_exit) | (with_reducible apply aw_skip) | (with_reducible apply aw_ret)); (try simp only [CT, ↓reduceIte, Nat.reduceEqDiff]))
 | ((with_reducible apply awO_n); (· rfl); (· rfl); (· decide); (· exact sv); (· rfl); (· rfl); (· decide))
 | ((with_reducible apply aw_cond_true); (· exact sv))
 | (refine Kont.go ‹Kont _ _ _ _› _ ?_)
 | ((with_reducible apply awO_c); (· rfl); (· rfl); (· exact sv); (· (first | exact c0 | exact c2)); (· rfl); (· rfl); (· rfl); (· decide))
 | ((first | ((with_reducible apply awO_guard); (· rfl); (· rfl); (· exact sv)) | ((with_reducible apply aw_cond); (· exact sv))); all_goals (intro hg; (try simp only [Bool.not_true, Bool.not_false]); (try simp only [decide_eq_true_eq, decide_eq_false_iff_not, Bool.not_true, Bool.not_false, Bool.not_eq_true', Bool.not_eq_false', Bool.not_not, beq_eq_false_iff_ne, ne_eq, beq_iff_eq, decide_eq_decide] at hg); try (exfalso; omega)))
 | ((with_reducible apply retQ_mk); (· (first | exact .inr rfl | exact .inl rfl)); (· exact sv); (· exact sv); rotate_left; (· rfl)))
      all_goals rfl
    | true =>
      refine Fn_of_aw (keep := []) Try.func6 rfl rfl (by simp [Try.ntmps6]) ?_
      simp only [num_cons, num_nil, Try.ntmps6, Try.results6]
      repeat' (first
 | ((with_reducible apply awO_ev); (· rfl); (· exact sv))
 | ((with_reducible apply aw_seq); intro _ _)
 | (with_reducible apply aw_region)
 | ((first | (with_reducible apply awO_nil) | (with_reducible apply aw_exit) | (with_reducible apply aw_skip) | (with_reducible apply aw_ret)); (try simp only [CT, ↓reduceIte, Nat.reduceEqDiff]))
 | ((with_reducible apply awO_n); (· rfl); (· rfl); (· decide); (· exact sv); (· rfl); (· rfl); (· decide))
 | ((with_reducible apply aw_cond_true); (· exact sv))
 | (refine Kont.go ‹Kont _ _ _ _› _ ?_)
 | ((with_reducible apply awO_c); (· rfl); (· rfl); (· exact sv); (· (first | exact c0 | exact c2)); (· rfl); (· rfl); (· rfl); (· decide))
 | ((first | ((with_reducible apply awO_guard); (· rfl); (· rfl); (· exact sv)) | ((with_reducible apply aw_cond); (· exact sv))); all_goals (intro hg; (try simp only [Bool.not_true, Bool.not_false]); (try simp only [decide_eq_true_eq, decide_eq_false_iff_not, Bool.not_true, Bool.not_false, Bool.not_eq_true', Bool.not_eq_false', Bool.not_not, beq_eq_false_iff_ne, ne_eq, beq_iff_eq, decide_eq_decide] at hg); try (exfalso; omega)))
 | ((with_reducible apply retQ_mk); (· (first | exact .inr rfl | exact .inl rfl)); (· exact sv); (· exact sv); rotate_left; (· rfl)))
      all_goals rfl
  cases b2 with
  | false =>
    refine Fn_of_aw (keep := []) Try.func6 rfl rfl (by simp [Try.ntmps6]) ?_
    simp only [num_cons, num_nil, Try.ntmps6, Try.results6]
    repeat' (first
 | ((with_reducible apply awO_ev); (· rfl); (· exact sv))
 | ((with_reducible apply aw_seq); intro _ _)
 | (with_reducible apply aw_region)
 | ((first | (with_reducible apply awO_nil) | (with_reducible apply aw_exit) | (with_reducible apply aw_skip) | (with_reducible apply aw_ret)); (try simp only [CT, ↓reduceIte, Nat.reduceEqDiff]))
 | ((with_reducible apply awO_y); (· rfl); (· rfl); (· decide); (· exact sv); (· exact sv))
 | ((with_reducible apply aw_cond_true); (· exact sv))
 | ((with_reducible apply awO_un); (· rfl); (· decide); (· exact sv))
 | (refine Kont.go ‹Kont _ _ _ _› _ ?_)
 | ((with_reducible apply awO_c); (· rfl); (· rfl); (· exact sv); (· (first | exact c0 | exact c2)); (· rfl); (· rfl); (· rfl); (· decide))
 | ((first | ((with_reducible apply awO_guard); (· rfl); (· rfl); (· exact sv)) | ((with_reducible apply aw_cond); (· exact sv))); all_goals (intro hg; (try simp only [Bool.not_true, Bool.not_false]); (try simp only [decide_eq_true_eq, decide_eq_false_iff_not, Bool.not_true, Bool.not_false, Bool.not_eq_true', Bool.not_eq_false', Bool.not_not, beq_eq_false_iff_ne, ne_eq, beq_iff_eq, decide_eq_decide] at hg); try (exfalso; omega)))
 | ((with_reducible apply retQ_mk); (· (first | exact .inr rfl | exact .inl rfl)); (· exact sv); (· exact sv); rotate_left; (· rfl)))
    all_goals rfl
  | true =>
    refine Fn_of_aw (keep := []) Try.func6 rfl rfl (by simp [Try.ntmps6]) ?_
    simp only [num_cons, num_nil, Try.ntmps6, Try.results6]
    simp only [erA, erC, newR, List.map_nil, List.length_nil, snC, List.flatMap_nil] at c1
    repeat' (first
 | ((with_reducible apply awO_ev); (· rfl); (· exact sv))
 | ((with_reducible apply aw_seq); intro _ _)
 | (with_reducible apply aw_region)
 | (with_reducible apply aw_block)
 | ((first | (with_reducible apply awO_nil) | (with_reducible apply aw_exit) | (with_reducible apply aw_skip) | (with_reducible apply aw_ret)); (try simp only [CT, ↓reduceIte, Nat.reduceEqDiff]))
 | ((with_reducible apply awO_y); (· rfl); (· rfl); (· decide); (· exact sv); (· exact sv))
 | ((with_reducible apply aw_cond_false); (· exact sv))
 | ((with_reducible apply awO_un); (· rfl); (· decide); (· exact sv))
 | (refine Kont.go ‹Kont _ _ _ _› _ ?_)
 | ((with_reducible apply awO_c); (· rfl); (· rfl); (· exact sv); (· (first | exact c0 | exact c1 | exact c2 | exact c3)); (· rfl); (· rfl); (· rfl); (· decide))
 | ((first | ((with_reducible apply awO_guard); (· rfl); (· rfl); (· exact sv)) | ((with_reducible apply aw_cond); (· exact sv))); all_goals (intro hg; (try simp only [Bool.not_true, Bool.not_false]); (try simp only [decide_eq_true_eq, decide_eq_false_iff_not, Bool.not_true, Bool.not_false, Bool.not_eq_true', Bool.not_eq_false', Bool.not_not, beq_eq_false_iff_ne, ne_eq, beq_iff_eq, decide_eq_decide] at hg); try (exfalso; omega))))
    refine aw_nzO 7 rfl ?_
    refine aw_loopF (fun i : Nat => [(8, ai i)]) (fun i => [(3, [ai f, .rd L.length (L.map az)]), (6, erL (iR L (s.take i))), (7, erL (iR L (s.take i)))]) (fun i => i ≤ s.length) (fun i => s.length - i) 0 (by omega) ?_ ?_ ?_
    · exact ⟨rfl, trivial⟩
    · exact ⟨rfl, rfl, rfl, trivial⟩
    intro i hi
    (simp only [LP, List.append_assoc, List.nil_append, List.cons_append, List.append_nil, List.contains_cons, List.contains_nil, Nat.reduceBEq, Bool.or_false, Bool.or_true, Bool.true_or, Bool.false_or, ↓reduceIte, Bool.false_eq_true])
    obtain ⟨hok, hkk⟩ := iR_ok L s i hi
    by_cases hil : i < s.length
    · have hsn : iR L (s.take (i + 1)) = (keyR (iR L (s.take i)) dfB s[i] L).1 := by rw [List.take_succ_eq_append_getElem hil, iR_snoc]
      have hok2 := (iR_ok L s (i + 1) (by omega)).1
      rw [hsn] at hok2
      have hn := hok2.nk
      have hu := hok2.nu
      have hr := hok2.nr
      have c4 := key_ab (iR L (s.take i)) dfB s[i] L f hok (by decide) dfB_k hL hl
      have c5 := rkey_ab (iR L (s.take i)) dfB s[i] L f hok (by decide) dfB_k hL hl
      have c6 := valid_ab (keyR (iR L (s.take i)) dfB s[i] L).1 (by omega) (by omega) (by omega)
      rw [(vdR_ok _).2 hok2] at c6
      generalize hg2 : iR L (s.take (i + 1)) = g2 at *
      generalize keyR (iR L (s.take i)) dfB s[i] L = q at *
      obtain ⟨q, n⟩ := q
      simp only at hsn c4 c5 c6
      subst hsn
      generalize iR L (s.take i) = e at *
      clear hok hok2 hn hu hr
      obtain ⟨⟨t, z⟩, m, K, U, R, ks, la, li, sd⟩ := e
      obtain ⟨⟨gt, gz⟩, gm, gK, gU, gR, gks, gla, gli, gsd⟩ := g2
      simp only [erA, erC, hsA] at c4 c5 c6
      repeat' (first
 | ((with_reducible apply awO_ev); (· rfl); (· exact sv))
 | ((with_reducible apply aw_seq); intro _ _)
 | (with_reducible apply aw_region)
 | (with_reducible apply aw_block)
 | ((first | (with_reducible apply awO_nil) | (with_reducible apply aw_exit) | (with_reducible apply aw_skip) | (with_reducible apply aw_ret)); (try simp only [CT, ↓reduceIte, Nat.reduceEqDiff]))
 | ((with_reducible apply awO_y); (· rfl); (· rfl); (· decide); (· exact sv); (· exact sv))
 | ((with_reducible apply aw_cond_false); (· exact sv))
 | ((with_reducible apply awO_un); (· rfl); (· decide); (· exact sv))
 | (refine Kont.go ‹Kont _ _ _ _› _ ?_)
 | ((with_reducible apply awO_c); (· rfl); (· rfl); (· exact sv); (· (first | exact c4 | exact c5 | exact c6)); (· rfl); (· rfl); (· rfl); (· decide))
 | ((with_reducible apply aw_draw); (· decide +kernel); (simp only [List.size_toArray, List.length_cons, List.length_nil, Nat.reduceAdd]))
 | ((with_reducible apply awY_done); (· decide +kernel); (try simp only [CT, ↓reduceIte, Nat.reduceEqDiff]))
 | ((with_reducible apply awY_q); (· exact sQ); (· exact np); (· exact svg); (· rfl); (· exact sv))
 | ((with_reducible apply awI_ev); (· exact svg); (· rfl); (· exact sv))
 | ((with_reducible apply awI_c); (· exact svg); (· rfl); (· rfl); (· exact sv); (· (first | exact c4 | exact c5 | exact c6)); (· rfl); (· rfl); (· rfl); (· exact nd); simp only [put_some])
 | ((first | ((with_reducible apply awO_guard); (· rfl); (· rfl); (· exact sv)) | ((with_reducible apply aw_cond); (· exact sv))); all_goals (intro hg; (try simp only [Bool.not_true, Bool.not_false]); (try simp only [decide_eq_true_eq, decide_eq_false_iff_not, Bool.not_true, Bool.not_false, Bool.not_eq_true', Bool.not_eq_false', Bool.not_not, beq_eq_false_iff_ne, ne_eq, beq_iff_eq, decide_eq_decide] at hg); try (exfalso; omega)))
 | ((with_reducible apply awY_p); (· exact sH); (first | ((with_reducible apply awP_1); (· decide +kernel)) | ((with_reducible apply awP_2); (· exact sP)))))
      refine LE_mk (i + 1) (by omega) (by omega) ⟨rfl, trivial⟩ sN ?_
      rw [hg2]
      exact ⟨rfl, rfl, rfl, trivial⟩
    · have c6 := same_ab (iR L (s.take i)) (by have := hok.nk; omega) (by have := hok.nu; omega) (by have := hok.nr; omega)
      generalize iR L (s.take i) = e at *
      obtain ⟨⟨t, z⟩, m, K, U, R, ks, la, li, sd⟩ := e
      simp only [erA, erC] at c6
      repeat' (first
 | ((with_reducible apply awO_ev); (· rfl); (· exact sv))
 | ((with_reducible apply aw_seq); intro _ _)
 | (with_reducible apply aw_region)
 | ((first | (with_reducible apply awO_nil) | (with_reducible apply aw_exit) | (with_reducible apply aw_skip) | (with_reducible apply aw_ret)); (try simp only [CT, ↓reduceIte, Nat.reduceEqDiff]))
 | ((with_reducible apply awO_un); (· rfl); (· decide); (· exact sv))
 | (refine Kont.go ‹Kont _ _ _ _› _ ?_)
 | ((with_reducible apply awO_c); (· rfl); (· rfl); (· exact sv); (· (first | exact c6 | exact c0)); (· rfl); (· rfl); (· rfl); (· decide))
 | ((first | ((with_reducible apply awO_guard); (· rfl); (· rfl); (· exact sv)) | ((with_reducible apply aw_cond); (· exact sv))); all_goals (intro hg; (try simp only [Bool.not_true, Bool.not_false]); (try simp only [decide_eq_true_eq, decide_eq_false_iff_not, Bool.not_true, Bool.not_false, Bool.not_eq_true', Bool.not_eq_false', Bool.not_not, beq_eq_false_iff_ne, ne_eq, beq_iff_eq, decide_eq_decide] at hg); try (exfalso; omega)))
 | ((with_reducible apply retQ_mk); (· (first | exact .inr rfl | exact .inl rfl)); (· exact sv); (· exact sv); rotate_left; (· rfl)))
      all_goals rfl
end Go.Proofs.Ytapmolfpkhfpgaa
