/- The editor: copies, limited lists of the program, on the abstract machine. -/
import Derived.Test.YtapmolfpkhfpgaaErE
namespace Go.Proofs.Ytapmolfpkhfpgaa
open Go.RowKit
set_option linter.unusedVariables false
set_option linter.unusedSimpArgs false
set_option maxRecDepth 100000
set_option maxHeartbeats 8000000
theorem kclone_fn (U : List (List UInt8)) (hU : U.length ≤ 100000) : Fn Try.prog 35 [.rd U.length (U.map az)] [] (.os 2000 0 1 U.length) [(2000, U.map az)] [] := by
  refine Fn_of_aw (keep := [2000]) Try.func35 rfl rfl (by simp [Try.ntmps35]) ?_
  simp only [num_cons, num_nil, Try.ntmps35, Try.results35]
  repeat' (first
 | ((with_reducible apply awO_eqnil); (· rfl); (· rfl); (· exact sv); (· exact sv); (· exact svp); (· rfl); (· exact nd); intro nb hnb; simp only [put_some])
 | ((with_reducible apply awO_ev); (· rfl); (· exact sv))
 | ((with_reducible apply aw_seq); intro _ _)
 | (with_reducible apply aw_region)
 | ((first | (with_reducible apply awO_nil) | (with_reducible apply aw_exit) | (with_reducible apply aw_skip)); (try simp only [CT, ↓reduceIte, Nat.reduceEqDiff]))
 | (refine Kont.go ‹Kont _ _ _ _› _ ?_)
 | ((first | ((with_reducible apply awO_guard); (· rfl); (· rfl); (· exact sv)) | ((with_reducible apply aw_cond); (· exact sv))); all_goals (intro hg; (try simp only [Bool.not_true, Bool.not_false]); (try simp only [decide_eq_true_eq, decide_eq_false_iff_not, Bool.not_true, Bool.not_false, Bool.not_eq_true', Bool.not_eq_false', Bool.not_not, beq_eq_false_iff_ne, ne_eq, beq_iff_eq, decide_eq_decide] at hg); try (exfalso; omega))))
  · refine aw_virt 2 2000 1 rfl (by omega) (by simp) ?_
    have e : U = [] := List.eq_nil_of_length_eq_zero (hnb hg)
    subst e
    refine aw_st svs ?_
    repeat' (first
 | ((first | (with_reducible apply awO_nil) | (with_reducible apply aw_exit) | (with_reducible apply aw_skip) | (with_reducible apply aw_ret)); (try simp only [CT, ↓reduceIte, Nat.reduceEqDiff]))
 | ((try with_reducible apply wk_id); (with_reducible apply retQ_mk1); (· (first | exact .inr rfl | exact .inl rfl)); (· exact sv); (· exact sv); (· exact sv); (· exact sv); rotate_left; rotate_left; (· simp); (· rfl)))
    all_goals rfl
  · refine aw_weak (fun E a w hS => S_ren 2 5 2000 0 1 _ _ rfl rfl (by simp [dataC]) hS) ?_
    repeat' (first
 | ((first | (with_reducible apply awO_nil) | (with_reducible apply aw_exit) | (with_reducible apply aw_skip) | (with_reducible apply aw_ret)); (try simp only [CT, ↓reduceIte, Nat.reduceEqDiff]))
 | ((try with_reducible apply wk_id); (with_reducible apply retQ_mk1); (· (first | exact .inr rfl | exact .inl rfl)); (· exact sv); (· exact sv); (· exact sv); (· exact sv); rotate_left; rotate_left; (· simp); (· rfl)))
    all_goals first | rfl | exact roCs_data (by simp [dataC])
theorem uclone_fn (U : List Sn) (hU : U.length ≤ 100000) : Fn Try.prog 36 [.rd U.length (snC U)] [] (.os 3000 0 2 U.length) [(3000, snC U)] [] := by
  refine Fn_of_aw (keep := [3000]) Try.func36 rfl rfl (by simp [Try.ntmps36]) ?_
  simp only [num_cons, num_nil, Try.ntmps36, Try.results36]
  repeat' (first
 | ((with_reducible apply awO_eqnil); (· rfl); (· rfl); (· exact sv); (· exact sv); (· exact svp); (· rfl); (· exact nd); intro nb hnb; simp only [put_some])
 | ((with_reducible apply awO_ev); (· rfl); (· exact sv))
 | ((with_reducible apply aw_seq); intro _ _)
 | (with_reducible apply aw_region)
 | ((first | (with_reducible apply awO_nil) | (with_reducible apply aw_exit) | (with_reducible apply aw_skip)); (try simp only [CT, ↓reduceIte, Nat.reduceEqDiff]))
 | (refine Kont.go ‹Kont _ _ _ _› _ ?_)
 | ((first | ((with_reducible apply awO_guard); (· rfl); (· rfl); (· exact sv)) | ((with_reducible apply aw_cond); (· exact sv))); all_goals (intro hg; (try simp only [Bool.not_true, Bool.not_false]); (try simp only [decide_eq_true_eq, decide_eq_false_iff_not, Bool.not_true, Bool.not_false, Bool.not_eq_true', Bool.not_eq_false', Bool.not_not, beq_eq_false_iff_ne, ne_eq, beq_iff_eq, decide_eq_decide] at hg); try (exfalso; omega))))
  · refine aw_virt 2 3000 2 rfl (by omega) (by simp) ?_
    have e : U = [] := List.eq_nil_of_length_eq_zero (hnb hg)
    subst e
    refine aw_st svs ?_
    repeat' (first
 | ((first | (with_reducible apply awO_nil) | (with_reducible apply aw_exit) | (with_reducible apply aw_skip) | (with_reducible apply aw_ret)); (try simp only [CT, ↓reduceIte, Nat.reduceEqDiff]))
 | ((try with_reducible apply wk_id); (with_reducible apply retQ_mk1); (· (first | exact .inr rfl | exact .inl rfl)); (· exact sv); (· exact sv); (· exact sv); (· exact sv); rotate_left; rotate_left; (· simp); (· rfl)))
    all_goals rfl
  · refine aw_weak (fun E a w hS => S_ren 2 5 3000 0 2 _ _ rfl rfl (snC_data U) hS) ?_
    repeat' (first
 | ((first | (with_reducible apply awO_nil) | (with_reducible apply aw_exit) | (with_reducible apply aw_skip) | (with_reducible apply aw_ret)); (try simp only [CT, ↓reduceIte, Nat.reduceEqDiff]))
 | ((try with_reducible apply wk_id); (with_reducible apply retQ_mk1); (· (first | exact .inr rfl | exact .inl rfl)); (· exact sv); (· exact sv); (· exact sv); (· exact sv); rotate_left; rotate_left; (· simp); (· rfl)))
    all_goals first | rfl | exact roCs_data (snC_data U)
theorem rclone_fn (U : List Sn) (hU : U.length ≤ 100000) : Fn Try.prog 36 [.rd U.length (snC U)] [] (.os 4000 0 2 U.length) [(4000, snC U)] [] := by
  refine Fn_of_aw (keep := [4000]) Try.func36 rfl rfl (by simp [Try.ntmps36]) ?_
  simp only [num_cons, num_nil, Try.ntmps36, Try.results36]
  repeat' (first
 | ((with_reducible apply awO_eqnil); (· rfl); (· rfl); (· exact sv); (· exact sv); (· exact svp); (· rfl); (· exact nd); intro nb hnb; simp only [put_some])
 | ((with_reducible apply awO_ev); (· rfl); (· exact sv))
 | ((with_reducible apply aw_seq); intro _ _)
 | (with_reducible apply aw_region)
 | ((first | (with_reducible apply awO_nil) | (with_reducible apply aw_exit) | (with_reducible apply aw_skip)); (try simp only [CT, ↓reduceIte, Nat.reduceEqDiff]))
 | (refine Kont.go ‹Kont _ _ _ _› _ ?_)
 | ((first | ((with_reducible apply awO_guard); (· rfl); (· rfl); (· exact sv)) | ((with_reducible apply aw_cond); (· exact sv))); all_goals (intro hg; (try simp only [Bool.not_true, Bool.not_false]); (try simp only [decide_eq_true_eq, decide_eq_false_iff_not, Bool.not_true, Bool.not_false, Bool.not_eq_true', Bool.not_eq_false', Bool.not_not, beq_eq_false_iff_ne, ne_eq, beq_iff_eq, decide_eq_decide] at hg); try (exfalso; omega))))
  · refine aw_virt 2 4000 2 rfl (by omega) (by simp) ?_
    have e : U = [] := List.eq_nil_of_length_eq_zero (hnb hg)
    subst e
    refine aw_st svs ?_
    repeat' (first
 | ((first | (with_reducible apply awO_nil) | (with_reducible apply aw_exit) | (with_reducible apply aw_skip) | (with_reducible apply aw_ret)); (try simp only [CT, ↓reduceIte, Nat.reduceEqDiff]))
 | ((try with_reducible apply wk_id); (with_reducible apply retQ_mk1); (· (first | exact .inr rfl | exact .inl rfl)); (· exact sv); (· exact sv); (· exact sv); (· exact sv); rotate_left; rotate_left; (· simp); (· rfl)))
    all_goals rfl
  · refine aw_weak (fun E a w hS => S_ren 2 5 4000 0 2 _ _ rfl rfl (snC_data U) hS) ?_
    repeat' (first
 | ((first | (with_reducible apply awO_nil) | (with_reducible apply aw_exit) | (with_reducible apply aw_skip) | (with_reducible apply aw_ret)); (try simp only [CT, ↓reduceIte, Nat.reduceEqDiff]))
 | ((try with_reducible apply wk_id); (with_reducible apply retQ_mk1); (· (first | exact .inr rfl | exact .inl rfl)); (· exact sv); (· exact sv); (· exact sv); (· exact sv); rotate_left; rotate_left; (· simp); (· rfl)))
    all_goals first | rfl | exact roCs_data (snC_data U)
abbrev erO (e : Er) : AV := .ag [az e.now.t, ai e.now.p, ai e.mark, .os 2000 0 1 e.kills.length, .os 3000 0 2 e.undo.length, .os 4000 0 2 e.redo.length, az e.keys, ai e.last, ai e.line, az e.saved]
theorem copied_fn (e : Er) (hK : e.kills.length ≤ 100000) (hU : e.undo.length ≤ 100000) (hR : e.redo.length ≤ 100000) :
    Fn Try.prog 27 [erA e] [] (erO e) [(2000, e.kills.map az), (3000, snC e.undo), (4000, snC e.redo)] [] := by
  obtain ⟨⟨t, p⟩, m, K, U, R, ks, la, li, sd⟩ := e
  simp only at hK hU hR
  have c1 := kclone_fn K hK
  have c2 := uclone_fn U hU
  have c3 := rclone_fn R hR
  refine Fn_of_aw (keep := [2000, 3000, 4000]) Try.func27 rfl rfl (by simp [Try.ntmps27]) ?_
  simp only [num_cons, num_nil, Try.ntmps27, Try.results27, erA, erC, erO]
  repeat' (first
 | ((with_reducible apply awO_ev); (· rfl); (· exact sv))
 | ((with_reducible apply aw_seq); intro _ _)
 | (with_reducible apply aw_region)
 | ((first | (with_reducible apply awO_nil) | (with_reducible apply aw_exit) | (with_reducible apply aw_skip) | (with_reducible apply aw_ret)); (try simp only [CT, ↓reduceIte, Nat.reduceEqDiff]))
 | (refine Kont.go ‹Kont _ _ _ _› _ ?_)
 | ((with_reducible apply awO_m); (· rfl); (· rfl); (· exact sv); (· (first | exact c1 | exact c2 | exact c3)); (· exact svq); (· exact svq); (· exact svq); (· exact svq); (· rfl); (· exact nd); (with_reducible apply awO_st); (· exact svs)))
  all_goals refine retQ_mkL (by first | exact .inr rfl | exact .inl rfl) rfl rfl rfl ⟨⟨by simp, roK _⟩, ⟨by simp, roS _⟩, ⟨by simp, roS _⟩, trivial⟩ rfl
theorem limK_fn (U : List (List UInt8)) (hU : U.length ≤ 100000) : Fn Try.prog 57 [.os 2000 0 1 U.length, ai 16] [(2000, U.map az)] (.os 2000 ((U.length - 16)) 1 (U.length - (U.length - 16))) [(2000, U.map az)] [2000] := by
  have e : (if (U.length : Int) - 16 > 0 then (U.length : Int) - 16 else 0).toNat = U.length - 16 := by split <;> omega
  refine Fn_of_aw (keep := [2000]) Try.func57 rfl rfl (by simp [Try.ntmps57]) ?_
  simp only [num_cons, num_nil, Try.ntmps57, Try.results57]
  repeat' (first
 | ((with_reducible apply awO_ev); (· rfl); (· exact sv))
 | ((with_reducible apply aw_seq); intro _ _)
 | (with_reducible apply aw_region)
 | ((first | (with_reducible apply awO_nil) | (with_reducible apply aw_exit) | (with_reducible apply aw_skip) | (with_reducible apply aw_ret)); (try simp only [CT, ↓reduceIte, Nat.reduceEqDiff]))
 | (refine Kont.go ‹Kont _ _ _ _› _ ?_)
 | ((try with_reducible apply wk_id); (with_reducible apply retQ_mk1); (· (first | exact .inr rfl | exact .inl rfl)); (· exact sv); (· exact sv); (· exact sv); (· exact sv); rotate_left; rotate_left; (· simp); (· rfl)))
  all_goals first | rfl | rw [e]
theorem limU_fn (U : List Sn) (hU : U.length ≤ 100000) : Fn Try.prog 30 [.os 3000 0 2 U.length, ai 64] [(3000, snC U)] (.os 3000 ((U.length - 64) * 2) 2 (U.length - (U.length - 64))) [(3000, snC U)] [3000] := by
  have e : (if (U.length : Int) - 64 > 0 then (U.length : Int) - 64 else 0).toNat = U.length - 64 := by split <;> omega
  refine Fn_of_aw (keep := [3000]) Try.func30 rfl rfl (by simp [Try.ntmps30]) ?_
  simp only [num_cons, num_nil, Try.ntmps30, Try.results30]
  repeat' (first
 | ((with_reducible apply awO_ev); (· rfl); (· exact sv))
 | ((with_reducible apply aw_seq); intro _ _)
 | (with_reducible apply aw_region)
 | ((first | (with_reducible apply awO_nil) | (with_reducible apply aw_exit) | (with_reducible apply aw_skip) | (with_reducible apply aw_ret)); (try simp only [CT, ↓reduceIte, Nat.reduceEqDiff]))
 | (refine Kont.go ‹Kont _ _ _ _› _ ?_)
 | ((try with_reducible apply wk_id); (with_reducible apply retQ_mk1); (· (first | exact .inr rfl | exact .inl rfl)); (· exact sv); (· exact sv); (· exact sv); (· exact sv); rotate_left; rotate_left; (· simp); (· rfl)))
  all_goals first | rfl | rw [e]
theorem limR_fn (U : List Sn) (hU : U.length ≤ 100000) : Fn Try.prog 30 [.os 4000 0 2 U.length, ai 64] [(4000, snC U)] (.os 4000 ((U.length - 64) * 2) 2 (U.length - (U.length - 64))) [(4000, snC U)] [4000] := by
  have e : (if (U.length : Int) - 64 > 0 then (U.length : Int) - 64 else 0).toNat = U.length - 64 := by split <;> omega
  refine Fn_of_aw (keep := [4000]) Try.func30 rfl rfl (by simp [Try.ntmps30]) ?_
  simp only [num_cons, num_nil, Try.ntmps30, Try.results30]
  repeat' (first
 | ((with_reducible apply awO_ev); (· rfl); (· exact sv))
 | ((with_reducible apply aw_seq); intro _ _)
 | (with_reducible apply aw_region)
 | ((first | (with_reducible apply awO_nil) | (with_reducible apply aw_exit) | (with_reducible apply aw_skip) | (with_reducible apply aw_ret)); (try simp only [CT, ↓reduceIte, Nat.reduceEqDiff]))
 | (refine Kont.go ‹Kont _ _ _ _› _ ?_)
 | ((try with_reducible apply wk_id); (with_reducible apply retQ_mk1); (· (first | exact .inr rfl | exact .inl rfl)); (· exact sv); (· exact sv); (· exact sv); (· exact sv); rotate_left; rotate_left; (· simp); (· rfl)))
  all_goals first | rfl | rw [e]
end Go.Proofs.Ytapmolfpkhfpgaa
