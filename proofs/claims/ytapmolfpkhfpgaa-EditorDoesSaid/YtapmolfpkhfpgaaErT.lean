/- The editor: more of the program, on the abstract machine. -/
import Derived.Test.YtapmolfpkhfpgaaErJ
import Derived.Test.YtapmolfpkhfpgaaErO
import Derived.Test.YtapmolfpkhfpgaaErV
namespace Go.Proofs.Ytapmolfpkhfpgaa
open Go.RowKit
set_option linter.unusedVariables false
set_option linter.unusedSimpArgs false
set_option maxRecDepth 100000
set_option maxHeartbeats 8000000
theorem more19_fn (e : Er) (L : List (List UInt8)) (h0 : 0 ≤ e.now.p) (h1 : e.now.p ≤ e.now.t.length) (ht : e.now.t.length ≤ 4096) : Fn Try.prog 42 [.pt 9 0] (wkH e L 19) (.tp []) (wkE (trnE e) L 19) [9] := by
  have c1 := transpose_fn e L 19 h0 h1 ht
  simp only [wkH, wkC] at c1 ⊢
  refine Fn_of_aw (keep := [9, 3000, 4000]) Try.func42 rfl rfl (by simp [Try.ntmps42]) ?_
  simp only [num_cons, num_nil, Try.ntmps42, Try.results42]
  repeat' (first
 | ((with_reducible apply awO_ev); (· rfl); (· exact sv))
 | ((with_reducible apply aw_seq); intro _ _)
 | (with_reducible apply aw_region)
 | (with_reducible apply aw_block)
 | ((first | (with_reducible apply awO_nil) | (with_reducible apply aw_exit) | (with_reducible apply aw_skip) | (with_reducible apply aw_ret)); (try simp only [CT, ↓reduceIte, Nat.reduceEqDiff]))
 | ((with_reducible apply aw_cond_true); (· exact sv))
 | ((with_reducible apply aw_cond_false); (· exact sv))
 | (refine Kont.go ‹Kont _ _ _ _› _ ?_)
 | ((with_reducible apply awO_m); (· rfl); (· rfl); (· exact sv); (· (first | exact c1)); (· exact svq); (· exact svq); (· exact svq); (· exact svq); (· rfl); (· exact nd); (with_reducible apply awO_st); (· exact svs)))
  all_goals (refine retQ_wE (by first | exact .inr rfl | exact .inl rfl) rfl rfl rfl sv rfl (roS _) rfl (roS _) rfl rfl ?_ rfl rfl; rfl)
theorem more27_fn (e : Er) (L : List (List UInt8)) (h0 : 0 ≤ e.now.p) (h1 : e.now.p ≤ e.now.t.length) (ht : e.now.t.length ≤ 4096) : Fn Try.prog 42 [.pt 9 0] (wkH e L 27) (.tp []) (wkE (ltrE e upC) L 27) [9] := by
  have c1 := convU_fn e L 27 h0 h1 ht
  simp only [wkH, wkC] at c1 ⊢
  refine Fn_of_aw (keep := [9, 3000, 4000]) Try.func42 rfl rfl (by simp [Try.ntmps42]) ?_
  simp only [num_cons, num_nil, Try.ntmps42, Try.results42]
  repeat' (first
 | ((with_reducible apply awO_ev); (· rfl); (· exact sv))
 | ((with_reducible apply aw_seq); intro _ _)
 | (with_reducible apply aw_region)
 | (with_reducible apply aw_block)
 | ((first | (with_reducible apply awO_nil) | (with_reducible apply aw_exit) | (with_reducible apply aw_skip) | (with_reducible apply aw_ret)); (try simp only [CT, ↓reduceIte, Nat.reduceEqDiff]))
 | ((with_reducible apply aw_cond_true); (· exact sv))
 | ((with_reducible apply aw_cond_false); (· exact sv))
 | (refine Kont.go ‹Kont _ _ _ _› _ ?_)
 | ((with_reducible apply awO_m); (· rfl); (· rfl); (· exact sv); (· (first | exact c1)); (· exact svq); (· exact svq); (· exact svq); (· exact svq); (· rfl); (· exact nd); (with_reducible apply awO_st); (· exact svs)))
  all_goals (refine retQ_wE (by first | exact .inr rfl | exact .inl rfl) rfl rfl rfl sv rfl (roS _) rfl (roS _) rfl rfl ?_ rfl rfl; rfl)
theorem more28_fn (e : Er) (L : List (List UInt8)) (h0 : 0 ≤ e.now.p) (h1 : e.now.p ≤ e.now.t.length) (ht : e.now.t.length ≤ 4096) : Fn Try.prog 42 [.pt 9 0] (wkH e L 28) (.tp []) (wkE (ltrE e loC) L 28) [9] := by
  have c1 := convL_fn e L 28 h0 h1 ht
  simp only [wkH, wkC] at c1 ⊢
  refine Fn_of_aw (keep := [9, 3000, 4000]) Try.func42 rfl rfl (by simp [Try.ntmps42]) ?_
  simp only [num_cons, num_nil, Try.ntmps42, Try.results42]
  repeat' (first
 | ((with_reducible apply awO_ev); (· rfl); (· exact sv))
 | ((with_reducible apply aw_seq); intro _ _)
 | (with_reducible apply aw_region)
 | (with_reducible apply aw_block)
 | ((first | (with_reducible apply awO_nil) | (with_reducible apply aw_exit) | (with_reducible apply aw_skip) | (with_reducible apply aw_ret)); (try simp only [CT, ↓reduceIte, Nat.reduceEqDiff]))
 | ((with_reducible apply aw_cond_true); (· exact sv))
 | ((with_reducible apply aw_cond_false); (· exact sv))
 | (refine Kont.go ‹Kont _ _ _ _› _ ?_)
 | ((with_reducible apply awO_m); (· rfl); (· rfl); (· exact sv); (· (first | exact c1)); (· exact svq); (· exact svq); (· exact svq); (· exact svq); (· rfl); (· exact nd); (with_reducible apply awO_st); (· exact svs)))
  all_goals (refine retQ_wE (by first | exact .inr rfl | exact .inl rfl) rfl rfl rfl sv rfl (roS _) rfl (roS _) rfl rfl ?_ rfl rfl; rfl)
theorem more0_fn (e : Er) (L : List (List UInt8)) (a : Int) (ha : a < 17 ∨ a = 22 ∨ a = 24) : Fn Try.prog 42 [.pt 9 0] (wkH e L a) (.tp []) (wkE e L a) [9] := by
  simp only [wkH, wkC]
  refine Fn_of_aw (keep := [9, 3000, 4000]) Try.func42 rfl rfl (by simp [Try.ntmps42]) ?_
  simp only [num_cons, num_nil, Try.ntmps42, Try.results42]
  repeat' (first
 | ((with_reducible apply awO_ev); (· rfl); (· exact sv))
 | ((with_reducible apply aw_seq); intro _ _)
 | (with_reducible apply aw_region)
 | (with_reducible apply aw_block)
 | ((first | (with_reducible apply awO_nil) | (with_reducible apply aw_exit) | (with_reducible apply aw_skip) | (with_reducible apply aw_ret)); (try simp only [CT, ↓reduceIte, Nat.reduceEqDiff]))
 | (refine Kont.go ‹Kont _ _ _ _› _ ?_)
 | ((first | ((with_reducible apply awO_guard); (· rfl); (· rfl); (· exact sv)) | ((with_reducible apply aw_cond); (· exact sv))); all_goals (intro hg; (try simp only [Bool.not_true, Bool.not_false]); (try simp only [decide_eq_true_eq, decide_eq_false_iff_not, Bool.not_true, Bool.not_false, Bool.not_eq_true', Bool.not_eq_false', Bool.not_not, beq_eq_false_iff_ne, ne_eq, beq_iff_eq, decide_eq_decide] at hg); try (exfalso; omega))))
  all_goals (refine retQ_wE (by first | exact .inr rfl | exact .inl rfl) rfl rfl rfl sv rfl (roS _) rfl (roS _) rfl rfl ?_ rfl rfl; rfl)
theorem more20_fn (e : Er) (L : List (List UInt8)) (h0 : 0 ≤ e.line ∧ e.line ≤ 128) (hL : L.length ≤ 9000000000000000) (hx : ∀ s ∈ L, s.length ≤ 9000000000000000) (hs : e.saved.length ≤ 9000000000000000) : Fn Try.prog 42 [.pt 9 0] (wkH e L 20) (.tp []) (wkD (upE e L) L 20) [9] := by
  have c1 := up_fn e L 20 h0 hL hx
  simp only [wkH, wkC] at c1 ⊢
  refine Fn_of_aw (keep := [9]) Try.func42 rfl rfl (by simp [Try.ntmps42]) ?_
  simp only [num_cons, num_nil, Try.ntmps42, Try.results42]
  repeat' (first
 | ((with_reducible apply awO_ev); (· rfl); (· exact sv))
 | ((with_reducible apply aw_seq); intro _ _)
 | (with_reducible apply aw_region)
 | (with_reducible apply aw_block)
 | ((first | (with_reducible apply awO_nil) | (with_reducible apply aw_exit) | (with_reducible apply aw_skip) | (with_reducible apply aw_ret)); (try simp only [CT, ↓reduceIte, Nat.reduceEqDiff]))
 | ((with_reducible apply aw_cond_true); (· exact sv))
 | ((with_reducible apply aw_cond_false); (· exact sv))
 | (refine Kont.go ‹Kont _ _ _ _› _ ?_)
 | ((with_reducible apply awO_m); (· rfl); (· rfl); (· exact sv); (· (first | exact c1)); (· exact svq); (· exact svq); (· exact svq); (· exact svq); (· rfl); (· exact nd); (with_reducible apply awO_st); (· exact svs)))
  all_goals (refine retQ_wD (by first | exact .inr rfl | exact .inl rfl) rfl rfl rfl sv rfl rfl ?_; rfl)
theorem more21_fn (e : Er) (L : List (List UInt8)) (h0 : 0 ≤ e.line ∧ e.line ≤ 128) (hL : L.length ≤ 9000000000000000) (hx : ∀ s ∈ L, s.length ≤ 9000000000000000) (hs : e.saved.length ≤ 9000000000000000) : Fn Try.prog 42 [.pt 9 0] (wkH e L 21) (.tp []) (wkD (dwE e L) L 21) [9] := by
  have c1 := down_fn e L 21 h0 hL hx hs
  simp only [wkH, wkC] at c1 ⊢
  refine Fn_of_aw (keep := [9]) Try.func42 rfl rfl (by simp [Try.ntmps42]) ?_
  simp only [num_cons, num_nil, Try.ntmps42, Try.results42]
  repeat' (first
 | ((with_reducible apply awO_ev); (· rfl); (· exact sv))
 | ((with_reducible apply aw_seq); intro _ _)
 | (with_reducible apply aw_region)
 | (with_reducible apply aw_block)
 | ((first | (with_reducible apply awO_nil) | (with_reducible apply aw_exit) | (with_reducible apply aw_skip) | (with_reducible apply aw_ret)); (try simp only [CT, ↓reduceIte, Nat.reduceEqDiff]))
 | ((with_reducible apply aw_cond_true); (· exact sv))
 | ((with_reducible apply aw_cond_false); (· exact sv))
 | (refine Kont.go ‹Kont _ _ _ _› _ ?_)
 | ((with_reducible apply awO_m); (· rfl); (· rfl); (· exact sv); (· (first | exact c1)); (· exact svq); (· exact svq); (· exact svq); (· exact svq); (· rfl); (· exact nd); (with_reducible apply awO_st); (· exact svs)))
  all_goals (refine retQ_wD (by first | exact .inr rfl | exact .inl rfl) rfl rfl rfl sv rfl rfl ?_; rfl)
end Go.Proofs.Ytapmolfpkhfpgaa
