/- The editor: up, down, undo and redo of the program, on the abstract machine. -/
import Derived.Test.YtapmolfpkhfpgaaErI
namespace Go.Proofs.Ytapmolfpkhfpgaa
open Go.RowKit
set_option linter.unusedVariables false
set_option linter.unusedSimpArgs false
set_option maxRecDepth 100000
set_option maxHeartbeats 8000000
def upE (e : Er) (L : List (List UInt8)) : Er :=
  if (L.length : Int) ≤ e.line ∨ 128 ≤ e.line then e else
  { e with saved := if e.line = 0 then e.now.t else e.saved, line := e.line + 1, now := ⟨L[L.length - 1 - e.line.toNat]?.getD [], (L[L.length - 1 - e.line.toNat]?.getD []).length⟩, undo := [], redo := [] }
def dwE (e : Er) (L : List (List UInt8)) : Er :=
  if e.line = 0 ∨ (L.length : Int) < e.line then e else
  if e.line = 1 then { e with line := 0, now := ⟨e.saved, e.saved.length⟩, saved := [], undo := [], redo := [] } else
  { e with line := e.line - 1, now := ⟨L[L.length + 1 - e.line.toNat]?.getD [], (L[L.length + 1 - e.line.toNat]?.getD []).length⟩, undo := [], redo := [] }
theorem up_fn (e : Er) (L : List (List UInt8)) (a : Int) (h0 : 0 ≤ e.line ∧ e.line ≤ 128) (hL : L.length ≤ 9000000000000000) (hx : ∀ s ∈ L, s.length ≤ 9000000000000000) :
    Fn Try.prog 62 [.pt 9 0] (wkH e L a) (.tp []) (wkD (upE e L) L a) [9] := by
  obtain ⟨⟨t, z⟩, m, K, U, R, ks, la, li, sd⟩ := e
  simp only at h0
  obtain ⟨n, rfl⟩ : ∃ n : Nat, li = n := ⟨li.toNat, by omega⟩
  simp only [wkH, wkC]
  unfold upE
  simp only [Int.toNat_natCast]
  refine Fn_of_aw (keep := [9]) Try.func62 rfl rfl (by simp [Try.ntmps62]) ?_
  simp only [num_cons, num_nil, Try.ntmps62, Try.results62]
  by_cases k1 : (L.length : Int) ≤ n ∨ (128 : Int) ≤ n
  · rw [if_pos k1]
    repeat' (first
 | ((with_reducible apply aw_seq); intro _ _)
 | ((first | (with_reducible apply awO_nil) | (with_reducible apply aw_exit) | (with_reducible apply aw_skip) | (with_reducible apply aw_ret)); (try simp only [CT, ↓reduceIte, Nat.reduceEqDiff]))
 | ((with_reducible apply aw_cond_true); (· exact sv))
 | (refine Kont.go ‹Kont _ _ _ _› _ ?_)
 | ((with_reducible apply aw_draw); (· decide +kernel); (simp only [List.size_toArray, List.length_cons, List.length_nil, Nat.reduceAdd]))
 | ((with_reducible apply awY_done); (· decide +kernel); (try simp only [CT, ↓reduceIte, Nat.reduceEqDiff]))
 | ((with_reducible apply awY_q); (· exact sQ); (· exact np); (· exact svg); (· rfl); (· exact sv))
 | ((with_reducible apply awY_qy); (· exact sQ); (· exact np); (· exact svg); (· rfl); (· rfl); (· exact nd); (· exact sv); (· exact sv))
 | ((with_reducible apply awY_qn); (· exact sQ); (· exact np); (· exact svg); (· rfl); (· rfl); (· exact nd); (· exact sv); (· rfl); (· rfl); (· exact nd); simp only [put_some])
 | ((first | ((with_reducible apply awO_guard); (· rfl); (· rfl); (· exact sv)) | ((with_reducible apply aw_cond); (· exact sv))); all_goals (intro hg; (try simp only [Bool.not_true, Bool.not_false]); (try simp only [decide_eq_true_eq, decide_eq_false_iff_not, Bool.not_true, Bool.not_false, Bool.not_eq_true', Bool.not_eq_false', Bool.not_not, beq_eq_false_iff_ne, ne_eq, beq_iff_eq, decide_eq_decide] at hg); try (exfalso; omega)))
 | ((with_reducible apply awY_guard); (· exact sR); (· exact svg); (· rfl); (· rfl); (· exact svl); all_goals (intro hg; (try simp only [Bool.not_true, Bool.not_false]); (try simp only [decide_eq_true_eq, decide_eq_false_iff_not, Bool.not_true, Bool.not_false, Bool.not_eq_true', Bool.not_eq_false', Bool.not_not, beq_eq_false_iff_ne, ne_eq, beq_iff_eq, decide_eq_decide] at hg); try (exfalso; omega))))
    all_goals (refine retQ_wD (by first | exact .inr rfl | exact .inl rfl) rfl rfl rfl sv rfl rfl ?_; rfl)
  rw [if_neg k1]
  rw [show L.length - 1 - n = L.length - (n + 1) by omega]
  have hil : L.length - (n + 1) < L.length := by omega
  rw [List.getElem?_eq_getElem hil, Option.getD_some]
  have hxl := hx _ (List.getElem_mem hil)
  by_cases k2 : (n : Int) = 0
  · rw [if_pos k2]
    have c1 := display_fn ⟨⟨t, z⟩, m, K, U, R, ks, la, (n : Int) + 1, t⟩ L a (L[L.length - (n + 1)]'hil) hxl
    simp only [wkH, wkC, wkD] at c1
    repeat' (first
 | ((with_reducible apply awO_ev); (· rfl); (· exact sv))
 | ((with_reducible apply aw_seq); intro _ _)
 | (with_reducible apply aw_region)
 | ((first | (with_reducible apply awO_nil) | (with_reducible apply aw_exit) | (with_reducible apply aw_skip) | (with_reducible apply aw_ret)); (try simp only [CT, ↓reduceIte, Nat.reduceEqDiff]))
 | (refine Kont.go ‹Kont _ _ _ _› _ ?_)
 | ((with_reducible apply aw_draw); (· decide +kernel); (simp only [List.size_toArray, List.length_cons, List.length_nil, Nat.reduceAdd]))
 | ((with_reducible apply awY_done); (· decide +kernel); (try simp only [CT, ↓reduceIte, Nat.reduceEqDiff]))
 | ((with_reducible apply awY_q); (· exact sQ); (· exact np); (· exact svg); (· rfl); (· exact sv))
 | ((with_reducible apply awY_qy); (· exact sQ); (· exact np); (· exact svg); (· rfl); (· rfl); (· exact nd); (· exact sv); (· exact sv))
 | ((with_reducible apply awI_m); (· exact svg); (· decide +kernel); (· rfl); (· rfl); (· exact sv); (· (first | exact c1)); (· exact svq); (· exact svq); (· exact svq); (· exact svq); (· rfl); (· exact nd); (with_reducible apply awY_st); (· exact svs))
 | ((first | ((with_reducible apply awO_guard); (· rfl); (· rfl); (· exact sv)) | ((with_reducible apply aw_cond); (· exact sv))); all_goals (intro hg; (try simp only [Bool.not_true, Bool.not_false]); (try simp only [decide_eq_true_eq, decide_eq_false_iff_not, Bool.not_true, Bool.not_false, Bool.not_eq_true', Bool.not_eq_false', Bool.not_not, beq_eq_false_iff_ne, ne_eq, beq_iff_eq, decide_eq_decide] at hg); try (exfalso; omega)))
 | ((with_reducible apply awY_guard); (· exact sR); (· exact svg); (· rfl); (· rfl); (· exact svl); all_goals (intro hg; (try simp only [Bool.not_true, Bool.not_false]); (try simp only [decide_eq_true_eq, decide_eq_false_iff_not, Bool.not_true, Bool.not_false, Bool.not_eq_true', Bool.not_eq_false', Bool.not_not, beq_eq_false_iff_ne, ne_eq, beq_iff_eq, decide_eq_decide] at hg); try (exfalso; omega)))
 | ((with_reducible apply awY_p); (· exact sH); (first | ((with_reducible apply awP_1); (· decide +kernel)) | ((with_reducible apply awP_2); (· exact sP)))))
    all_goals (refine retQ_wD (by first | exact .inr rfl | exact .inl rfl) rfl rfl rfl sv rfl rfl ?_; rfl)
  · rw [if_neg k2]
    have c1 := display_fn ⟨⟨t, z⟩, m, K, U, R, ks, la, (n : Int) + 1, sd⟩ L a (L[L.length - (n + 1)]'hil) hxl
    simp only [wkH, wkC, wkD] at c1
    repeat' (first
 | ((with_reducible apply awO_ev); (· rfl); (· exact sv))
 | ((with_reducible apply aw_seq); intro _ _)
 | (with_reducible apply aw_region)
 | ((first | (with_reducible apply awO_nil) | (with_reducible apply aw_exit) | (with_reducible apply aw_skip) | (with_reducible apply aw_ret)); (try simp only [CT, ↓reduceIte, Nat.reduceEqDiff]))
 | (refine Kont.go ‹Kont _ _ _ _› _ ?_)
 | ((with_reducible apply aw_draw); (· decide +kernel); (simp only [List.size_toArray, List.length_cons, List.length_nil, Nat.reduceAdd]))
 | ((with_reducible apply awY_done); (· decide +kernel); (try simp only [CT, ↓reduceIte, Nat.reduceEqDiff]))
 | ((with_reducible apply awY_q); (· exact sQ); (· exact np); (· exact svg); (· rfl); (· exact sv))
 | ((with_reducible apply awY_qy); (· exact sQ); (· exact np); (· exact svg); (· rfl); (· rfl); (· exact nd); (· exact sv); (· exact sv))
 | ((with_reducible apply awI_m); (· exact svg); (· decide +kernel); (· rfl); (· rfl); (· exact sv); (· (first | exact c1)); (· exact svq); (· exact svq); (· exact svq); (· exact svq); (· rfl); (· exact nd); (with_reducible apply awY_st); (· exact svs))
 | ((first | ((with_reducible apply awO_guard); (· rfl); (· rfl); (· exact sv)) | ((with_reducible apply aw_cond); (· exact sv))); all_goals (intro hg; (try simp only [Bool.not_true, Bool.not_false]); (try simp only [decide_eq_true_eq, decide_eq_false_iff_not, Bool.not_true, Bool.not_false, Bool.not_eq_true', Bool.not_eq_false', Bool.not_not, beq_eq_false_iff_ne, ne_eq, beq_iff_eq, decide_eq_decide] at hg); try (exfalso; omega)))
 | ((with_reducible apply awY_guard); (· exact sR); (· exact svg); (· rfl); (· rfl); (· exact svl); all_goals (intro hg; (try simp only [Bool.not_true, Bool.not_false]); (try simp only [decide_eq_true_eq, decide_eq_false_iff_not, Bool.not_true, Bool.not_false, Bool.not_eq_true', Bool.not_eq_false', Bool.not_not, beq_eq_false_iff_ne, ne_eq, beq_iff_eq, decide_eq_decide] at hg); try (exfalso; omega)))
 | ((with_reducible apply awY_p); (· exact sH); (first | ((with_reducible apply awP_1); (· decide +kernel)) | ((with_reducible apply awP_2); (· exact sP)))))
    all_goals (refine retQ_wD (by first | exact .inr rfl | exact .inl rfl) rfl rfl rfl sv rfl rfl ?_; rfl)
end Go.Proofs.Ytapmolfpkhfpgaa
