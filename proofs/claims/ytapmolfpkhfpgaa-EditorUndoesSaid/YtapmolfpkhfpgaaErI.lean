/- The editor: restore, display, up, down of the program, on the abstract machine. -/
import Derived.Test.YtapmolfpkhfpgaaErG
namespace Go.Proofs.Ytapmolfpkhfpgaa
open Go.RowKit
set_option linter.unusedVariables false
set_option linter.unusedSimpArgs false
set_option maxRecDepth 100000
set_option maxHeartbeats 8000000
theorem snC_oneI (s : Sn) : snC [s] = [az s.t, ai s.p] := rfl
theorem display_fn (e : Er) (L : List (List UInt8)) (a : Int) (x : List UInt8) (hx : x.length ≤ 9000000000000000) :
    Fn Try.prog 74 [.pt 9 0, az x] (wkH e L a) (.tp []) (wkD { e with now := ⟨x, x.length⟩, undo := [], redo := [] } L a) [9] := by
  obtain ⟨⟨t, z⟩, m, K, U, R, ks, la, li, sd⟩ := e
  simp only [wkH, wkC, wkD]
  refine Fn_of_aw (keep := [9]) Try.func74 rfl rfl (by simp [Try.ntmps74]) (aw_wk ?_)
  simp only [num_cons, num_nil, Try.ntmps74, Try.results74]
  repeat' (first
 | ((with_reducible apply awO_ev); (· rfl); (· exact sv))
 | ((with_reducible apply aw_seq); intro _ _)
 | (with_reducible apply aw_region)
 | ((first | (with_reducible apply awO_nil) | (with_reducible apply aw_exit) | (with_reducible apply aw_skip) | (with_reducible apply aw_ret)); (try simp only [CT, ↓reduceIte, Nat.reduceEqDiff]))
 | (refine Kont.go ‹Kont _ _ _ _› _ ?_))
  all_goals (refine wk_to _ (fun E a w hS => S_nzO 9 rfl hS) (wk_id ?_); refine retQ_wD (by first | exact .inr rfl | exact .inl rfl) rfl rfl rfl sv rfl rfl ?_; rfl)
theorem restoreU_fn (e : Er) (L : List (List UInt8)) (a : Int) (hU : e.undo.length ≤ 64) (hR : e.redo.length ≤ 64) (h0 : 0 < e.undo.length) :
    Fn Try.prog 60 [.pt 9 0, .os 3000 0 2 e.undo.length, .os 4000 0 2 e.redo.length] (wkH e L a) (.tp [.os 3000 0 2 (e.undo.length - 1), .os 4000 ((e.redo.length + 1 - 64) * 2) 2 (e.redo.length + 1 - (e.redo.length + 1 - 64))])
      [(9, [az e.undo[e.undo.length - 1].t, ai e.undo[e.undo.length - 1].p, ai e.mark, .os 2000 0 1 e.kills.length, .os 3000 0 2 e.undo.length, .un, az e.keys, ai e.last, ai e.line, az e.saved, .rd L.length (L.map az), ai a]), (2000, e.kills.map az), (3000, snC e.undo), (4000, snC (e.redo ++ [e.now]))] [9] := by
  obtain ⟨⟨t, z⟩, m, K, U, R, ks, la, li, sd⟩ := e
  simp only at hU hR h0
  have c1 := limR_fn (R ++ [⟨t, z⟩]) (by simp; omega)
  simp only [snC_append, snC_oneI, List.length_append, List.length_cons, List.length_nil, Nat.zero_add] at c1
  simp only [wkH, wkC]
  refine Fn_of_aw (keep := [9, 2000, 3000, 4000]) Try.func60 rfl rfl (by simp [Try.ntmps60]) ?_
  simp only [num_cons, num_nil, Try.ntmps60, Try.results60]
  repeat' (first
 | ((with_reducible apply awO_ev); (· rfl); (· exact sv))
 | ((with_reducible apply aw_seq); intro _ _)
 | (with_reducible apply aw_region)
 | ((first | (with_reducible apply awO_nil) | (with_reducible apply aw_exit) | (with_reducible apply aw_skip) | (with_reducible apply aw_ret)); (try simp only [CT, ↓reduceIte, Nat.reduceEqDiff]))
 | (refine Kont.go ‹Kont _ _ _ _› _ ?_)
 | ((with_reducible apply awO_m); (· rfl); (· rfl); (· exact sv); (· (first | exact c1)); (· exact svq); (· exact svq); (· exact svq); (· exact svq); (· rfl); (· exact nd); (with_reducible apply awO_st); (· exact svs))
 | ((first | ((with_reducible apply awO_guard); (· rfl); (· rfl); (· exact sv)) | ((with_reducible apply aw_cond); (· exact sv))); all_goals (intro hg; (try simp only [Bool.not_true, Bool.not_false]); (try simp only [decide_eq_true_eq, decide_eq_false_iff_not, Bool.not_true, Bool.not_false, Bool.not_eq_true', Bool.not_eq_false', Bool.not_not, beq_eq_false_iff_ne, ne_eq, beq_iff_eq, decide_eq_decide] at hg); try (exfalso; omega))))
  all_goals refine retQ_mkL (by first | exact .inr rfl | exact .inl rfl) rfl rfl rfl ⟨⟨by simp, rfl⟩, ⟨by simp, roK _⟩, ⟨by simp, roS _⟩, ⟨by simp, by rw [snC_append, snC_oneI]; exact roCs_data (by rw [List.all_append, snC_data]; rfl)⟩, trivial⟩ rfl
end Go.Proofs.Ytapmolfpkhfpgaa
