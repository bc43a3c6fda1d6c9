/- The editor: undo and redo, in place of the program, on the abstract machine. -/
import Derived.Test.YtapmolfpkhfpgaaErS
namespace Go.Proofs.Ytapmolfpkhfpgaa
open Go.RowKit
set_option linter.unusedVariables false
set_option linter.unusedSimpArgs false
set_option maxRecDepth 100000
set_option maxHeartbeats 8000000
theorem more17_fn (e : Er) (L : List (List UInt8)) (hU : e.undo.length ≤ 64) (hR : e.redo.length ≤ 64) : Fn Try.prog 42 [.pt 9 0] (wkH e L 17) (.tp []) (wkD (bakE e) L 17) [9] := by
  by_cases h : 0 < e.undo.length
  · have c1 := restoreU_fn e L 17 hU hR h
    have hd := snC_dropLast e.undo
    have hl : e.undo.dropLast.length = e.undo.length - 1 := by simp
    have hr := lim_rdS e.redo e.now
    unfold bakE
    rw [last_getS h]
    obtain ⟨⟨t, z⟩, m, K, U, R, ks, la, li, sd⟩ := e
    simp only [snC_append, snC_one] at h c1 hd hl hr ⊢
    simp only [wkH, wkC] at c1
    simp only [wkH, wkC, wkD, hd, hl, ← hr]
    refine Fn_of_aw (keep := [9]) Try.func42 rfl rfl (by simp [Try.ntmps42]) ?_
    simp only [num_cons, num_nil, Try.ntmps42, Try.results42]
    repeat' (first
 | ((with_reducible apply awY_p); (· exact sH); (with_reducible apply awP_1); (· decide +kernel))
 | ((with_reducible apply awO_ev); (· rfl); (· exact sv))
 | ((with_reducible apply aw_seq); intro _ _)
 | (with_reducible apply aw_region)
 | (with_reducible apply aw_block)
 | ((first | (with_reducible apply awO_nil) | (with_reducible apply aw_exit) | (with_reducible apply aw_skip) | (with_reducible apply aw_ret)); (try simp only [CT, ↓reduceIte, Nat.reduceEqDiff]))
 | ((with_reducible apply aw_cond_true); (· exact sv))
 | (refine Kont.go ‹Kont _ _ _ _› _ ?_)
 | ((with_reducible apply aw_draw); (· decide +kernel); (simp only [List.size_toArray, List.length_cons, List.length_nil, Nat.reduceAdd]))
 | ((with_reducible apply awY_done); (· decide +kernel); (try simp only [CT, ↓reduceIte, Nat.reduceEqDiff]))
 | ((with_reducible apply awY_q); (· exact sQ); (· exact np); (· exact svg); (· rfl); (· exact sv))
 | ((with_reducible apply awI_ev); (· exact svg); (· rfl); (· exact sv))
 | ((with_reducible apply awI_m); (· exact svg); (· decide +kernel); (· rfl); (· rfl); (· exact sv); (· (first | exact c1)); (· exact svq); (· exact svq); (· exact svq); (· exact svq); (· rfl); (· exact nd); (with_reducible apply awY_st); (· exact svs)))
    all_goals (refine retQ_wD (by first | exact .inr rfl | exact .inl rfl) rfl rfl rfl sv rfl rfl ?_; rfl)
  · have c1 := restore0_fn e L 17 3000 4000 e.redo.length (.inl ⟨rfl, rfl⟩)
    obtain ⟨⟨t, z⟩, m, K, U, R, ks, la, li, sd⟩ := e
    simp only at h
    obtain rfl : U = [] := List.eq_nil_of_length_eq_zero (by omega)
    simp only [wkH, wkC] at c1
    simp only [bakE, List.getLast?_nil, wkH, wkC, wkD]
    refine Fn_of_aw (keep := [9]) Try.func42 rfl rfl (by simp [Try.ntmps42]) ?_
    simp only [num_cons, num_nil, Try.ntmps42, Try.results42]
    repeat' (first
 | ((with_reducible apply awY_p); (· exact sH); (with_reducible apply awP_1); (· decide +kernel))
 | ((with_reducible apply awO_ev); (· rfl); (· exact sv))
 | ((with_reducible apply aw_seq); intro _ _)
 | (with_reducible apply aw_region)
 | (with_reducible apply aw_block)
 | ((first | (with_reducible apply awO_nil) | (with_reducible apply aw_exit) | (with_reducible apply aw_skip) | (with_reducible apply aw_ret)); (try simp only [CT, ↓reduceIte, Nat.reduceEqDiff]))
 | ((with_reducible apply aw_cond_true); (· exact sv))
 | (refine Kont.go ‹Kont _ _ _ _› _ ?_)
 | ((with_reducible apply aw_draw); (· decide +kernel); (simp only [List.size_toArray, List.length_cons, List.length_nil, Nat.reduceAdd]))
 | ((with_reducible apply awY_done); (· decide +kernel); (try simp only [CT, ↓reduceIte, Nat.reduceEqDiff]))
 | ((with_reducible apply awY_q); (· exact sQ); (· exact np); (· exact svg); (· rfl); (· exact sv))
 | ((with_reducible apply awI_ev); (· exact svg); (· rfl); (· exact sv))
 | ((with_reducible apply awI_m); (· exact svg); (· decide +kernel); (· rfl); (· rfl); (· exact sv); (· (first | exact c1)); (· exact svq); (· exact svq); (· exact svq); (· exact svq); (· rfl); (· exact nd); (with_reducible apply awY_st); (· exact svs)))
    all_goals (refine retQ_wD (by first | exact .inr rfl | exact .inl rfl) rfl rfl rfl sv rfl rfl ?_; rfl)
theorem more18_fn (e : Er) (L : List (List UInt8)) (hU : e.undo.length ≤ 64) (hR : e.redo.length ≤ 64) : Fn Try.prog 42 [.pt 9 0] (wkH e L 18) (.tp []) (wkD (fwdE e) L 18) [9] := by
  by_cases h : 0 < e.redo.length
  · have c1 := restoreR_fn e L 18 hU hR h
    have hd := snC_dropLast e.redo
    have hl : e.redo.dropLast.length = e.redo.length - 1 := by simp
    have hr := lim_rdS e.undo e.now
    unfold fwdE
    rw [last_getS h]
    obtain ⟨⟨t, z⟩, m, K, U, R, ks, la, li, sd⟩ := e
    simp only [snC_append, snC_one] at h c1 hd hl hr ⊢
    simp only [wkH, wkC] at c1
    simp only [wkH, wkC, wkD, hd, hl, ← hr]
    refine Fn_of_aw (keep := [9]) Try.func42 rfl rfl (by simp [Try.ntmps42]) ?_
    simp only [num_cons, num_nil, Try.ntmps42, Try.results42]
    repeat' (first
 | ((with_reducible apply awY_p); (· exact sH); (with_reducible apply awP_1); (· decide +kernel))
 | ((with_reducible apply awO_ev); (· rfl); (· exact sv))
 | ((with_reducible apply aw_seq); intro _ _)
 | (with_reducible apply aw_region)
 | (with_reducible apply aw_block)
 | ((first | (with_reducible apply awO_nil) | (with_reducible apply aw_exit) | (with_reducible apply aw_skip) | (with_reducible apply aw_ret)); (try simp only [CT, ↓reduceIte, Nat.reduceEqDiff]))
 | ((with_reducible apply aw_cond_true); (· exact sv))
 | ((with_reducible apply aw_cond_false); (· exact sv))
 | (refine Kont.go ‹Kont _ _ _ _› _ ?_)
 | ((with_reducible apply aw_draw); (· decide +kernel); (simp only [List.size_toArray, List.length_cons, List.length_nil, Nat.reduceAdd]))
 | ((with_reducible apply awY_done); (· decide +kernel); (try simp only [CT, ↓reduceIte, Nat.reduceEqDiff]))
 | ((with_reducible apply awY_q); (· exact sQ); (· exact np); (· exact svg); (· rfl); (· exact sv))
 | ((with_reducible apply awI_ev); (· exact svg); (· rfl); (· exact sv))
 | ((with_reducible apply awI_m); (· exact svg); (· decide +kernel); (· rfl); (· rfl); (· exact sv); (· (first | exact c1)); (· exact svq); (· exact svq); (· exact svq); (· exact svq); (· rfl); (· exact nd); (with_reducible apply awY_st); (· exact svs)))
    all_goals (refine retQ_wD (by first | exact .inr rfl | exact .inl rfl) rfl rfl rfl sv rfl rfl ?_; rfl)
  · have c1 := restore0_fn e L 18 4000 3000 e.undo.length (.inr ⟨rfl, rfl⟩)
    obtain ⟨⟨t, z⟩, m, K, U, R, ks, la, li, sd⟩ := e
    simp only at h
    obtain rfl : R = [] := List.eq_nil_of_length_eq_zero (by omega)
    simp only [wkH, wkC] at c1
    simp only [fwdE, List.getLast?_nil, wkH, wkC, wkD]
    refine Fn_of_aw (keep := [9]) Try.func42 rfl rfl (by simp [Try.ntmps42]) ?_
    simp only [num_cons, num_nil, Try.ntmps42, Try.results42]
    repeat' (first
 | ((with_reducible apply awY_p); (· exact sH); (with_reducible apply awP_1); (· decide +kernel))
 | ((with_reducible apply awO_ev); (· rfl); (· exact sv))
 | ((with_reducible apply aw_seq); intro _ _)
 | (with_reducible apply aw_region)
 | (with_reducible apply aw_block)
 | ((first | (with_reducible apply awO_nil) | (with_reducible apply aw_exit) | (with_reducible apply aw_skip) | (with_reducible apply aw_ret)); (try simp only [CT, ↓reduceIte, Nat.reduceEqDiff]))
 | ((with_reducible apply aw_cond_true); (· exact sv))
 | ((with_reducible apply aw_cond_false); (· exact sv))
 | (refine Kont.go ‹Kont _ _ _ _› _ ?_)
 | ((with_reducible apply aw_draw); (· decide +kernel); (simp only [List.size_toArray, List.length_cons, List.length_nil, Nat.reduceAdd]))
 | ((with_reducible apply awY_done); (· decide +kernel); (try simp only [CT, ↓reduceIte, Nat.reduceEqDiff]))
 | ((with_reducible apply awY_q); (· exact sQ); (· exact np); (· exact svg); (· rfl); (· exact sv))
 | ((with_reducible apply awI_ev); (· exact svg); (· rfl); (· exact sv))
 | ((with_reducible apply awI_m); (· exact svg); (· decide +kernel); (· rfl); (· rfl); (· exact sv); (· (first | exact c1)); (· exact svq); (· exact svq); (· exact svq); (· exact svq); (· rfl); (· exact nd); (with_reducible apply awY_st); (· exact svs)))
    all_goals (refine retQ_wD (by first | exact .inr rfl | exact .inl rfl) rfl rfl rfl sv rfl rfl ?_; rfl)
end Go.Proofs.Ytapmolfpkhfpgaa
