/- The editor: undo and redo of the program, on the abstract machine. -/
import Derived.Test.YtapmolfpkhfpgaaErI
import Derived.Test.YtapmolfpkhfpgaaErP
namespace Go.Proofs.Ytapmolfpkhfpgaa
open Go.RowKit
set_option linter.unusedVariables false
set_option linter.unusedSimpArgs false
set_option maxRecDepth 100000
set_option maxHeartbeats 8000000
theorem restoreR_fn (e : Er) (L : List (List UInt8)) (a : Int) (hU : e.undo.length ≤ 64) (hR : e.redo.length ≤ 64) (h0 : 0 < e.redo.length) :
    Fn Try.prog 60 [.pt 9 0, .os 4000 0 2 e.redo.length, .os 3000 0 2 e.undo.length] (wkH e L a) (.tp [.os 4000 0 2 (e.redo.length - 1), .os 3000 ((e.undo.length + 1 - 64) * 2) 2 (e.undo.length + 1 - (e.undo.length + 1 - 64))])
      [(9, [az e.redo[e.redo.length - 1].t, ai e.redo[e.redo.length - 1].p, ai e.mark, .os 2000 0 1 e.kills.length, .un, .os 4000 0 2 e.redo.length, az e.keys, ai e.last, ai e.line, az e.saved, .rd L.length (L.map az), ai a]), (2000, e.kills.map az), (3000, snC (e.undo ++ [e.now])), (4000, snC e.redo)] [9] := by
  obtain ⟨⟨t, z⟩, m, K, U, R, ks, la, li, sd⟩ := e
  simp only at hU hR h0
  have c1 := limU_fn (U ++ [⟨t, z⟩]) (by simp; omega)
  simp only [snC_append, snC_one, List.length_append, List.length_cons, List.length_nil, Nat.zero_add] at c1
  simp only [wkH, wkC]
  refine Fn_of_aw (keep := [9, 2000, 3000, 4000]) Try.func60 rfl rfl (by simp [Try.ntmps60]) ?_
  simp only [num_cons, num_nil, Try.ntmps60, Try.results60]
  repeat' (first
 | ((with_reducible apply awO_ev); (· rfl); (· exact sv))
 | ((with_reducible apply aw_seq); intro _ _)
 | (with_reducible apply aw_region)
 | ((first | (with_reducible apply awO_nil) | (with_reducible apply aw_exit) | (with_reducible apply aw_skip) | (with_reducible apply aw_ret)); (try simp only [CT, ↓reduceIte, Nat.reduceEqDiff]))
 | (refine Kont.go ‹Kont _ _ _ _› _ ?_)
 | ((with_reducible apply awO_m); (· rfl); (· rfl); (· exact sv); (· (first | exact c1)); (· exact svq); (· exact svq); (· exact svq); (· exact svq); (· rfl); (· exact nd); (with_reducible apply awO_st); (· exact svs))
 | ((first | ((with_reducible apply awO_guard); (· rfl); (· rfl); (· exact sv)) | ((with_reducible apply aw_cond); (· exact sv))); all_goals (intro hg; (try simp only [Bool.not_true, Bool.not_false]); (try simp only [decide_eq_true_eq, decide_eq_false_iff_not, Bool.not_true, Bool.not_false, Bool.not_eq_true', Bool.not_eq_false', Bool.not_not, beq_eq_false_iff_ne, ne_eq, beq_iff_eq, decide_eq_decide] at hg); try (exfalso; omega))))
  all_goals refine retQ_mkL (by first | exact .inr rfl | exact .inl rfl) rfl rfl rfl ⟨⟨by simp, rfl⟩, ⟨by simp, roK _⟩, ⟨by simp, by rw [snC_append, snC_one]; exact roCs_data (by rw [List.all_append, snC_data]; rfl)⟩, ⟨by simp, roS _⟩, trivial⟩ rfl
theorem restore0_fn (e : Er) (L : List (List UInt8)) (a : Int) (x : Nat) (y : Nat) (n : Nat) (hxy : x = 3000 ∧ y = 4000 ∨ x = 4000 ∧ y = 3000) :
    Fn Try.prog 60 [.pt 9 0, .os x 0 2 0, .os y 0 2 n] (wkH e L a) (.tp [.os x 0 2 0, .os y 0 2 n]) (wkH e L a) [9] := by
  simp only [wkH, wkC]
  rcases hxy with ⟨rfl, rfl⟩ | ⟨rfl, rfl⟩
  · skip
    refine Fn_of_aw (keep := [9, 2000, 3000, 4000]) Try.func60 rfl rfl (by simp [Try.ntmps60]) ?_
    simp only [num_cons, num_nil, Try.ntmps60, Try.results60]
    repeat' (first
 | ((with_reducible apply awO_ev); (· rfl); (· exact sv))
 | ((with_reducible apply aw_seq); intro _ _)
 | (with_reducible apply aw_region)
 | ((first | (with_reducible apply awO_nil) | (with_reducible apply aw_exit) | (with_reducible apply aw_skip) | (with_reducible apply aw_ret)); (try simp only [CT, ↓reduceIte, Nat.reduceEqDiff]))
 | ((with_reducible apply aw_cond_true); (· exact sv))
 | (refine Kont.go ‹Kont _ _ _ _› _ ?_))
    all_goals refine retQ_mkL (by first | exact .inr rfl | exact .inl rfl) rfl rfl rfl ⟨⟨by simp, rfl⟩, ⟨by simp, roK _⟩, ⟨by simp, roS _⟩, ⟨by simp, roS _⟩, trivial⟩ rfl
  · skip
    refine Fn_of_aw (keep := [9, 2000, 3000, 4000]) Try.func60 rfl rfl (by simp [Try.ntmps60]) ?_
    simp only [num_cons, num_nil, Try.ntmps60, Try.results60]
    repeat' (first
 | ((with_reducible apply awO_ev); (· rfl); (· exact sv))
 | ((with_reducible apply aw_seq); intro _ _)
 | (with_reducible apply aw_region)
 | ((first | (with_reducible apply awO_nil) | (with_reducible apply aw_exit) | (with_reducible apply aw_skip) | (with_reducible apply aw_ret)); (try simp only [CT, ↓reduceIte, Nat.reduceEqDiff]))
 | ((with_reducible apply aw_cond_true); (· exact sv))
 | (refine Kont.go ‹Kont _ _ _ _› _ ?_))
    all_goals refine retQ_mkL (by first | exact .inr rfl | exact .inl rfl) rfl rfl rfl ⟨⟨by simp, rfl⟩, ⟨by simp, roK _⟩, ⟨by simp, roS _⟩, ⟨by simp, roS _⟩, trivial⟩ rfl
def bakE (e : Er) : Er := match e.undo.getLast? with
  | none => e
  | some s => { e with now := s, undo := e.undo.dropLast, redo := lim 64 (e.redo ++ [e.now]) }
def fwdE (e : Er) : Er := match e.redo.getLast? with
  | none => e
  | some s => { e with now := s, redo := e.redo.dropLast, undo := lim 64 (e.undo ++ [e.now]) }
theorem snC_drop (V : List Sn) (k : Nat) : snC (V.drop k) = (snC V).drop (k * 2) := by
  induction V generalizing k with
  | nil => simp [snC]
  | cons x r ih =>
    cases k with
    | zero => simp
    | succ k =>
      have := ih k
      simp only [snC, List.drop_succ_cons, List.flatMap_cons] at this ⊢
      rw [show (k + 1) * 2 = k * 2 + 2 by omega, this]
      simp
theorem dat_take (k : Nat) (U : List Sn) : ((snC U).take k).all dataC = true := List.all_eq_true.2 fun x hx => List.all_eq_true.1 (snC_data U) x (List.mem_of_mem_take hx)
theorem dat_td (k n : Nat) (U : List Sn) (x : List UInt8) (z : Int) : (List.take k (List.drop n (snC U ++ [AV.v (Value.string (str x)), AV.v (Value.int .i64 z)]))).all dataC = true :=
  List.all_eq_true.2 fun y hy => List.all_eq_true.1 (dat_dropS n U x z) y (List.mem_of_mem_take hy)
attribute [go_sem] dat_take dat_td
theorem lim_rdS (V : List Sn) (s : Sn) : AV.rd (V.length + 1 - (V.length + 1 - 64)) (List.drop ((V.length + 1 - 64) * 2) (snC V ++ [az s.t, ai s.p])) = .rd (lim 64 (V ++ [s])).length (snC (lim 64 (V ++ [s]))) := by
  rw [lim, snC_drop, snC_append, snC_one, List.length_drop, List.length_append]; rfl
end Go.Proofs.Ytapmolfpkhfpgaa
