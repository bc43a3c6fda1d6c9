/- Write, Read, Same, on the abstract machine. -/
import Derived.Test.YtnnggogelnafnaaTtC
namespace Go.Proofs.Ytnnggogelnafnaa
open Go.RowKit
set_option linter.unusedVariables false
set_option linter.unusedSimpArgs false
set_option maxRecDepth 100000
set_option maxHeartbeats 4000000
def writeF (t : Tty) (s : List UInt8) : Tty := ⟨t.sid, t.fg, t.edit, t.lines, (t.out ++ s).take 65536, t.tostop⟩
theorem dT_out {t : Tty} {s x : List UInt8} (h : x = (t.out ++ s).take 65536) : AV.ag [ai t.sid, ai t.fg, az t.edit, .rd t.lines.length (t.lines.map az), az x, ab t.tostop] = dT (writeF t s) := by subst h; rfl
theorem write_ab (t : Tty) (s : List UInt8) (hs : s.length ≤ 140737488355328) (h2 : t.out.length ≤ 140737488355328) (hL : t.lines.length ≤ 1000000) : Ab Try.prog 15 [dT t, az s] (dT (writeF t s)) := by
  refine Fn_of_aw (keep := []) Try.func15 rfl rfl (by simp [Try.ntmps15]) ?_
  simp only [num_cons, num_nil, Try.ntmps15, Try.results15]
  repeat' (first
      | ((with_reducible apply awO_ev); (· rfl); (· exact sv))
      | ((with_reducible apply awO_eqnil); (· rfl); (· rfl); (· exact sv); (· exact sv); (· exact svp); (· rfl); (· (first | decide | (simp only []; omega) | omega)); intro nb hnb; simp only [put_some])
      | ((with_reducible apply awO_neqnil); (· rfl); (· rfl); (· exact sv); (· exact sv); (· exact svp); (· rfl); (· (first | decide | (simp only []; omega) | omega)); intro nb hnb; simp only [put_some])
      | ((with_reducible apply aw_seq); intro _ _)
      | ((with_reducible apply aw_region))
      | ((with_reducible apply aw_block))
      | ((with_reducible apply awO_nil); (try simp only [CT, ↓reduceIte, Nat.reduceEqDiff]))
      | ((with_reducible apply aw_exit); (try simp only [CT, ↓reduceIte, Nat.reduceEqDiff]))
      | ((with_reducible apply aw_skip); (try simp only [CT, ↓reduceIte, Nat.reduceEqDiff]))
      | ((with_reducible apply aw_ret); (try simp only [CT, ↓reduceIte, Nat.reduceEqDiff]))
      | ((with_reducible apply awO_y); (· rfl); (· rfl); (· decide); (· exact sv); (· exact sv))
      | ((with_reducible apply awO_n); (· rfl); (· rfl); (· decide); (· exact sv); (· rfl); (· rfl); (· decide))
      | ((with_reducible apply awO_u); (· rfl); (· rfl); (· exact svr); (· rfl); (· decide))
      | ((with_reducible apply aw_cond_true); (· exact sv))
      | ((with_reducible apply aw_cond_false); (· exact sv))
      | (refine Kont.go ‹Kont _ _ _ _› _ ?_)
      | ((with_reducible apply awO_un); (· rfl); (· decide); (· exact sv))
      | ((with_reducible apply awO_c); (· rfl); (· rfl); (· exact sv); (· (first | exact clone_fn _ hL)); (· rfl); (· rfl); (· rfl); (· decide))
      | ((with_reducible apply awO_f); (· rfl); (· rfl); (· exact sv); (· exact sv); (· (first | exact clone_fn _ hL)); (· rfl); (· rfl); (· decide))
      | ((with_reducible apply awO_m); (· rfl); (· rfl); (· exact sv); (· (first | exact clone_fn _ hL)); (· exact svq); (· exact svq); (· exact svq); (· exact svq); (· rfl); (· (first | decide | (simp only []; omega) | omega)); (with_reducible apply awO_st); (· exact svs))
      | ((with_reducible apply awO_guard); (· rfl); (· rfl); (· exact sv); all_goals (intro hg; (try simp only [Bool.not_true, Bool.not_false]); (try simp only [decide_eq_true_eq, decide_eq_false_iff_not, Bool.not_true, Bool.not_false, Bool.not_eq_true', Bool.not_eq_false', Bool.not_not] at hg); try (exfalso; omega)))
      | ((with_reducible apply aw_cond); (· exact sv); all_goals (intro hg; (try simp only [decide_eq_true_eq, decide_eq_false_iff_not, Bool.not_true, Bool.not_false, Bool.not_eq_true', Bool.not_eq_false', Bool.not_not] at hg); try (exfalso; omega)))
      | ((with_reducible apply retQ_mk); (· (first | exact .inr rfl | exact .inl rfl)); (· exact sv); (· exact sv); rotate_left; (· rfl))
      | ((with_reducible apply wk_id); (with_reducible apply retQ_mk); (· (first | exact .inr rfl | exact .inl rfl)); (· exact sv); (· exact sv); rotate_left; (· rfl))
      | ((try with_reducible apply wk_id); (with_reducible apply retQ_mk1); (· (first | exact .inr rfl | exact .inl rfl)); (· exact sv); (· exact sv); (· exact sv); (· exact sv); rotate_left; rotate_left; (· simp); (· rfl))
      | ((try with_reducible apply wk_id); (with_reducible apply retQ_mk2); (· (first | exact .inr rfl | exact .inl rfl)); (· exact sv); (· exact sv); (· exact sv); (· exact sv); (· exact sv); (· exact sv); rotate_left; rotate_left; rotate_left; (· simp); (· simp); (· rfl)))
  · rfl
  · exact dT_out (List.take_of_length_le (by omega)).symm
theorem rwrite_ab (t : Tty) (s : List UInt8) (hs : s.length ≤ 140737488355328) (h2 : t.out.length ≤ 65536) : Ab Try.prog 16 [dT t, az s] (dT (writeF t s)) := by
  refine Fn_of_aw (keep := []) Try.func16 rfl rfl (by simp [Try.ntmps16]) ?_
  simp only [num_cons, num_nil, Try.ntmps16, Try.results16]
  repeat' (first
      | ((with_reducible apply awO_ev); (· rfl); (· exact sv))
      | ((with_reducible apply awO_eqnil); (· rfl); (· rfl); (· exact sv); (· exact sv); (· exact svp); (· rfl); (· (first | decide | (simp only []; omega) | omega)); intro nb hnb; simp only [put_some])
      | ((with_reducible apply awO_neqnil); (· rfl); (· rfl); (· exact sv); (· exact sv); (· exact svp); (· rfl); (· (first | decide | (simp only []; omega) | omega)); intro nb hnb; simp only [put_some])
      | ((with_reducible apply aw_seq); intro _ _)
      | ((with_reducible apply aw_region))
      | ((with_reducible apply aw_block))
      | ((with_reducible apply awO_nil); (try simp only [CT, ↓reduceIte, Nat.reduceEqDiff]))
      | ((with_reducible apply aw_exit); (try simp only [CT, ↓reduceIte, Nat.reduceEqDiff]))
      | ((with_reducible apply aw_skip); (try simp only [CT, ↓reduceIte, Nat.reduceEqDiff]))
      | ((with_reducible apply aw_ret); (try simp only [CT, ↓reduceIte, Nat.reduceEqDiff]))
      | ((with_reducible apply awO_y); (· rfl); (· rfl); (· decide); (· exact sv); (· exact sv))
      | ((with_reducible apply awO_n); (· rfl); (· rfl); (· decide); (· exact sv); (· rfl); (· rfl); (· decide))
      | ((with_reducible apply awO_u); (· rfl); (· rfl); (· exact svr); (· rfl); (· decide))
      | ((with_reducible apply aw_cond_true); (· exact sv))
      | ((with_reducible apply aw_cond_false); (· exact sv))
      | (refine Kont.go ‹Kont _ _ _ _› _ ?_)
      | ((with_reducible apply aw_draw); (· decide +kernel); (simp only [List.size_toArray, List.length_cons, List.length_nil, Nat.reduceAdd]))
      | ((with_reducible apply awY_done); (· decide +kernel); (try simp only [CT, ↓reduceIte, Nat.reduceEqDiff]))
      | ((with_reducible apply awY_q); (· exact sQ); (· repeat (first | (with_reducible exact NP_ret) | (with_reducible apply NP_then) | (with_reducible apply NP_blk) | (with_reducible apply NP_wk) | (with_reducible apply NP_end))); (· exact svg); (· rfl); (· exact sv))
      | ((with_reducible apply awY_qy); (· exact sQ); (· repeat (first | (with_reducible exact NP_ret) | (with_reducible apply NP_then) | (with_reducible apply NP_blk) | (with_reducible apply NP_wk) | (with_reducible apply NP_end))); (· exact svg); (· rfl); (· rfl); (· (first | decide | (simp only []; omega) | omega)); (· exact sv); (· exact sv))
      | ((with_reducible apply awY_qn); (· exact sQ); (· repeat (first | (with_reducible exact NP_ret) | (with_reducible apply NP_then) | (with_reducible apply NP_blk) | (with_reducible apply NP_wk) | (with_reducible apply NP_end))); (· exact svg); (· rfl); (· rfl); (· (first | decide | (simp only []; omega) | omega)); (· exact sv); (· rfl); (· rfl); (· (first | decide | (simp only []; omega) | omega)); simp only [put_some])
      | ((with_reducible apply awY_qu); (· exact sQ); (· repeat (first | (with_reducible exact NP_ret) | (with_reducible apply NP_then) | (with_reducible apply NP_blk) | (with_reducible apply NP_wk) | (with_reducible apply NP_end))); (· exact svg); (· rfl); (· rfl); (· exact svr); (· rfl); (· (first | decide | (simp only []; omega) | omega)); simp only [put_some])
      | ((with_reducible apply awY_tn); (· exact sT); (· repeat (first | (with_reducible exact NP_ret) | (with_reducible apply NP_then) | (with_reducible apply NP_blk) | (with_reducible apply NP_wk) | (with_reducible apply NP_end))); (· exact svg); (· rfl); (· rfl); (· (first | decide | (simp only []; omega) | omega)); (· exact sv); (· rfl); (· rfl); (· (first | decide | (simp only []; omega) | omega)); simp only [put_some])
      | ((with_reducible apply awY_tu); (· exact sT); (· repeat (first | (with_reducible exact NP_ret) | (with_reducible apply NP_then) | (with_reducible apply NP_blk) | (with_reducible apply NP_wk) | (with_reducible apply NP_end))); (· exact svg); (· rfl); (· rfl); (· exact svr); (· rfl); (· (first | decide | (simp only []; omega) | omega)); simp only [put_some])
      | ((with_reducible apply endQ_rfl))
      | ((with_reducible apply endQ_sub); (· exact sE); (· exact sN))
      | ((with_reducible apply awI_ev); (· exact svg); (· rfl); (· exact sv))
      | ((with_reducible apply awO_guard); (· rfl); (· rfl); (· exact sv); all_goals (intro hg; (try simp only [Bool.not_true, Bool.not_false]); (try simp only [decide_eq_true_eq, decide_eq_false_iff_not, Bool.not_true, Bool.not_false, Bool.not_eq_true', Bool.not_eq_false', Bool.not_not] at hg); try (exfalso; omega)))
      | ((with_reducible apply aw_cond); (· exact sv); all_goals (intro hg; (try simp only [decide_eq_true_eq, decide_eq_false_iff_not, Bool.not_true, Bool.not_false, Bool.not_eq_true', Bool.not_eq_false', Bool.not_not] at hg); try (exfalso; omega)))
      | ((with_reducible apply awY_guard); (· exact sR); (· exact svg); (· rfl); (· rfl); (· exact svl); all_goals (intro hg; (try simp only [Bool.not_true, Bool.not_false]); (try simp only [decide_eq_true_eq, decide_eq_false_iff_not, Bool.not_true, Bool.not_false, Bool.not_eq_true', Bool.not_eq_false', Bool.not_not] at hg); try (exfalso; omega)))
      | ((with_reducible apply retQ_mk); (· (first | exact .inr rfl | exact .inl rfl)); (· exact sv); (· exact sv); rotate_left; (· rfl))
      | ((with_reducible apply wk_id); (with_reducible apply retQ_mk); (· (first | exact .inr rfl | exact .inl rfl)); (· exact sv); (· exact sv); rotate_left; (· rfl))
      | ((try with_reducible apply wk_id); (with_reducible apply retQ_mk1); (· (first | exact .inr rfl | exact .inl rfl)); (· exact sv); (· exact sv); (· exact sv); (· exact sv); rotate_left; rotate_left; (· simp); (· rfl))
      | ((try with_reducible apply wk_id); (with_reducible apply retQ_mk2); (· (first | exact .inr rfl | exact .inl rfl)); (· exact sv); (· exact sv); (· exact sv); (· exact sv); (· exact sv); (· exact sv); rotate_left; rotate_left; rotate_left; (· simp); (· simp); (· rfl))
      | ((with_reducible apply awY_p); (· exact sH); (first | ((with_reducible apply awP_1); (· decide +kernel)) | ((with_reducible apply awP_2); (· exact sP)))))
  · exact dT_out (by rw [List.take_length, List.take_of_length_le (by rw [List.length_append]; omega)])
  · exact dT_out (by rw [List.take_append, List.take_of_length_le (by omega : t.out.length ≤ 65536)]; congr 2; omega)
def keyF (t : Tty) (b : UInt8) : Tty × Int :=
  if b.toNat = 3 ∨ b.toNat = 26 ∨ b.toNat = 28 then (⟨t.sid, t.fg, [], t.lines, t.out, t.tostop⟩, keySig b)
  else if b.toNat = 21 then (⟨t.sid, t.fg, [], t.lines, t.out, t.tostop⟩, 0)
  else if b.toNat = 127 then (⟨t.sid, t.fg, t.edit.dropLast, t.lines, t.out, t.tostop⟩, 0)
  else if b.toNat = 10 ∨ b.toNat = 4 then
    if t.lines.length < 512 then (⟨t.sid, t.fg, [], t.lines ++ [t.edit ++ (if b.toNat = 10 then [10] else [])], t.out, t.tostop⟩, 0) else (t, 0)
  else if textB b = true ∧ t.edit.length < 4096 then (⟨t.sid, t.fg, t.edit ++ [b], t.lines, t.out, t.tostop⟩, 0) else (t, 0)
theorem keyF_sig {t : Tty} {b : UInt8} (h : b.toNat = 3 ∨ b.toNat = 26 ∨ b.toNat = 28) : keyF t b = (⟨t.sid, t.fg, [], t.lines, t.out, t.tostop⟩, keySig b) := by unfold keyF; rw [if_pos h]
theorem keyF_21 {t : Tty} {b : UInt8} (h : b.toNat = 21) : keyF t b = (⟨t.sid, t.fg, [], t.lines, t.out, t.tostop⟩, 0) := by unfold keyF; rw [if_neg (by omega), if_pos h]
theorem keyF_127 {t : Tty} {b : UInt8} (h : b.toNat = 127) (h0 : 0 < t.edit.length) : keyF t b = (⟨t.sid, t.fg, t.edit.take (t.edit.length - 1), t.lines, t.out, t.tostop⟩, 0) := by unfold keyF; rw [if_neg (by omega), if_neg (by omega), if_pos h, List.dropLast_eq_take]
theorem keyF_127e {t : Tty} {b : UInt8} (h : b.toNat = 127) (h0 : ¬ 0 < t.edit.length) : keyF t b = (t, 0) := by
  unfold keyF; rw [if_neg (by omega), if_neg (by omega), if_pos h]
  have : t.edit = [] := List.eq_nil_of_length_eq_zero (by omega)
  obtain ⟨a1, a2, a3, a4, a5, a6⟩ := t
  simp at this; subst this; rfl
theorem keyF_10 {t : Tty} {b : UInt8} (h : b.toNat = 10) (h0 : t.lines.length < 512) : keyF t b = (⟨t.sid, t.fg, [], t.lines ++ [t.edit ++ [10]], t.out, t.tostop⟩, 0) := by unfold keyF; rw [if_neg (by omega), if_neg (by omega), if_neg (by omega), if_pos (by omega), if_pos h0, if_pos h]
theorem keyF_4 {t : Tty} {b : UInt8} (h : b.toNat = 4) (h0 : t.lines.length < 512) : keyF t b = (⟨t.sid, t.fg, [], t.lines ++ [t.edit], t.out, t.tostop⟩, 0) := by unfold keyF; rw [if_neg (by omega), if_neg (by omega), if_neg (by omega), if_pos (by omega), if_pos h0, if_neg (by omega), List.append_nil]
theorem keyF_full {t : Tty} {b : UInt8} (h : b.toNat = 10 ∨ b.toNat = 4) (h0 : ¬ t.lines.length < 512) : keyF t b = (t, 0) := by unfold keyF; rw [if_neg (by omega), if_neg (by omega), if_neg (by omega), if_pos (by omega), if_neg h0]
theorem keyF_text {t : Tty} {b : UInt8} (h : ¬ (b.toNat = 3 ∨ b.toNat = 26 ∨ b.toNat = 28 ∨ b.toNat = 21 ∨ b.toNat = 127 ∨ b.toNat = 10 ∨ b.toNat = 4)) (h0 : textB b = true) (h1 : t.edit.length < 4096) : keyF t b = (⟨t.sid, t.fg, t.edit ++ [b], t.lines, t.out, t.tostop⟩, 0) := by unfold keyF; rw [if_neg (by omega), if_neg (by omega), if_neg (by omega), if_neg (by omega), if_pos ⟨h0, h1⟩]
theorem keyF_long {t : Tty} {b : UInt8} (h : ¬ (b.toNat = 3 ∨ b.toNat = 26 ∨ b.toNat = 28 ∨ b.toNat = 21 ∨ b.toNat = 127 ∨ b.toNat = 10 ∨ b.toNat = 4)) (h1 : ¬ t.edit.length < 4096) : keyF t b = (t, 0) := by unfold keyF; rw [if_neg (by omega), if_neg (by omega), if_neg (by omega), if_neg (by omega), if_neg (fun h => h1 h.2)]
theorem keyF_none {t : Tty} {b : UInt8} (h : ¬ (b.toNat = 3 ∨ b.toNat = 26 ∨ b.toNat = 28 ∨ b.toNat = 21 ∨ b.toNat = 127 ∨ b.toNat = 10 ∨ b.toNat = 4)) (h0 : textB b = false) : keyF t b = (t, 0) := by unfold keyF; rw [if_neg (by omega), if_neg (by omega), if_neg (by omega), if_neg (by omega), if_neg (fun h => by rw [h0] at h; cases h.1)]
theorem press_fn (t : Tty) (b : UInt8) (h1 : t.edit.length ≤ 140737488355328) (hL : t.lines.length ≤ 1000000) :
    Fn Try.prog 27 [.pt 2 0, au b] [(2, [ai t.sid, ai t.fg, az t.edit, .os 3000 0 1 t.lines.length, az t.out, ab t.tostop]), (3000, t.lines.map az)] (ai (keyF t b).2)
      [(2, [ai (keyF t b).1.sid, ai (keyF t b).1.fg, az (keyF t b).1.edit, .os 3000 0 1 (keyF t b).1.lines.length, az (keyF t b).1.out, ab (keyF t b).1.tostop]), (3000, (keyF t b).1.lines.map az)] [2] := by
  refine Fn_of_aw (keep := [2, 3000]) Try.func27 rfl rfl (by simp [Try.ntmps27]) (aw_wk ?_)
  simp only [num_cons, num_nil, Try.ntmps27, Try.results27]
  repeat' (first
      | ((with_reducible apply awO_ev); (· rfl); (· exact sv))
      | ((with_reducible apply awO_eqnil); (· rfl); (· rfl); (· exact sv); (· exact sv); (· exact svp); (· rfl); (· (first | decide | (simp only []; omega) | omega)); intro nb hnb; simp only [put_some])
      | ((with_reducible apply awO_neqnil); (· rfl); (· rfl); (· exact sv); (· exact sv); (· exact svp); (· rfl); (· (first | decide | (simp only []; omega) | omega)); intro nb hnb; simp only [put_some])
      | ((with_reducible apply aw_seq); intro _ _)
      | ((with_reducible apply aw_region))
      | ((with_reducible apply aw_block))
      | ((with_reducible apply awO_nil); (try simp only [CT, ↓reduceIte, Nat.reduceEqDiff]))
      | ((with_reducible apply aw_exit); (try simp only [CT, ↓reduceIte, Nat.reduceEqDiff]))
      | ((with_reducible apply aw_skip); (try simp only [CT, ↓reduceIte, Nat.reduceEqDiff]))
      | ((with_reducible apply aw_ret); (try simp only [CT, ↓reduceIte, Nat.reduceEqDiff]))
      | ((with_reducible apply awO_y); (· rfl); (· rfl); (· decide); (· exact sv); (· exact sv))
      | ((with_reducible apply awO_n); (· rfl); (· rfl); (· decide); (· exact sv); (· rfl); (· rfl); (· decide))
      | ((with_reducible apply awO_u); (· rfl); (· rfl); (· exact svr); (· rfl); (· decide))
      | ((with_reducible apply aw_cond_true); (· exact sv))
      | ((with_reducible apply aw_cond_false); (· exact sv))
      | (refine Kont.go ‹Kont _ _ _ _› _ ?_)
      | ((with_reducible apply awO_un); (· rfl); (· decide); (· exact sv))
      | ((with_reducible apply awO_c); (· rfl); (· rfl); (· exact sv); (· (first | exact keySignal_ab _ | exact printable_ab _)); (· rfl); (· rfl); (· rfl); (· decide))
      | ((with_reducible apply awO_f); (· rfl); (· rfl); (· exact sv); (· exact sv); (· (first | exact keySignal_ab _ | exact printable_ab _)); (· rfl); (· rfl); (· decide))
      | ((with_reducible apply awO_m); (· rfl); (· rfl); (· exact sv); (· (first | exact keySignal_ab _ | exact printable_ab _)); (· exact svq); (· exact svq); (· exact svq); (· exact svq); (· rfl); (· (first | decide | (simp only []; omega) | omega)); (with_reducible apply awO_st); (· exact svs))
      | ((with_reducible apply aw_draw); (· decide +kernel); (simp only [List.size_toArray, List.length_cons, List.length_nil, Nat.reduceAdd]))
      | ((with_reducible apply awY_done); (· decide +kernel); (try simp only [CT, ↓reduceIte, Nat.reduceEqDiff]))
      | ((with_reducible apply awY_q); (· exact sQ); (· repeat (first | (with_reducible exact NP_ret) | (with_reducible apply NP_then) | (with_reducible apply NP_blk) | (with_reducible apply NP_wk) | (with_reducible apply NP_end))); (· exact svg); (· rfl); (· exact sv))
      | ((with_reducible apply awY_qy); (· exact sQ); (· repeat (first | (with_reducible exact NP_ret) | (with_reducible apply NP_then) | (with_reducible apply NP_blk) | (with_reducible apply NP_wk) | (with_reducible apply NP_end))); (· exact svg); (· rfl); (· rfl); (· (first | decide | (simp only []; omega) | omega)); (· exact sv); (· exact sv))
      | ((with_reducible apply awY_qn); (· exact sQ); (· repeat (first | (with_reducible exact NP_ret) | (with_reducible apply NP_then) | (with_reducible apply NP_blk) | (with_reducible apply NP_wk) | (with_reducible apply NP_end))); (· exact svg); (· rfl); (· rfl); (· (first | decide | (simp only []; omega) | omega)); (· exact sv); (· rfl); (· rfl); (· (first | decide | (simp only []; omega) | omega)); simp only [put_some])
      | ((with_reducible apply awY_qu); (· exact sQ); (· repeat (first | (with_reducible exact NP_ret) | (with_reducible apply NP_then) | (with_reducible apply NP_blk) | (with_reducible apply NP_wk) | (with_reducible apply NP_end))); (· exact svg); (· rfl); (· rfl); (· exact svr); (· rfl); (· (first | decide | (simp only []; omega) | omega)); simp only [put_some])
      | ((with_reducible apply awY_tn); (· exact sT); (· repeat (first | (with_reducible exact NP_ret) | (with_reducible apply NP_then) | (with_reducible apply NP_blk) | (with_reducible apply NP_wk) | (with_reducible apply NP_end))); (· exact svg); (· rfl); (· rfl); (· (first | decide | (simp only []; omega) | omega)); (· exact sv); (· rfl); (· rfl); (· (first | decide | (simp only []; omega) | omega)); simp only [put_some])
      | ((with_reducible apply awY_tu); (· exact sT); (· repeat (first | (with_reducible exact NP_ret) | (with_reducible apply NP_then) | (with_reducible apply NP_blk) | (with_reducible apply NP_wk) | (with_reducible apply NP_end))); (· exact svg); (· rfl); (· rfl); (· exact svr); (· rfl); (· (first | decide | (simp only []; omega) | omega)); simp only [put_some])
      | ((with_reducible apply endQ_rfl))
      | ((with_reducible apply endQ_sub); (· exact sE); (· exact sN))
      | ((with_reducible apply awI_ev); (· exact svg); (· rfl); (· exact sv))
      | ((with_reducible apply awI_c); (· exact svg); (· rfl); (· rfl); (· exact sv); (· (first | exact keySignal_ab _ | exact printable_ab _)); (· rfl); (· rfl); (· rfl); (· (first | decide | (simp only []; omega) | omega)); simp only [put_some])
      | ((with_reducible apply awI_f); (· exact svg); (· rfl); (· rfl); (· exact sv); (· exact sv); (· (first | exact keySignal_ab _ | exact printable_ab _)); (· rfl); (· rfl); (· (first | decide | (simp only []; omega) | omega)); simp only [put_some])
      | ((with_reducible apply awI_cy); (· exact svg); (· rfl); (· rfl); (· (first | decide | (simp only []; omega) | omega)); (· exact sv); (· rfl); (· exact sv); (· (first | exact keySignal_ab _ | exact printable_ab _)); (· rfl); (· rfl); (· rfl); (· (first | decide | (simp only []; omega) | omega)); simp only [put_some])
      | ((with_reducible apply awI_fy); (· exact svg); (· rfl); (· rfl); (· (first | decide | (simp only []; omega) | omega)); (· exact sv); (· rfl); (· exact sv); (· exact sv); (· (first | exact keySignal_ab _ | exact printable_ab _)); (· rfl); (· rfl); (· (first | decide | (simp only []; omega) | omega)); simp only [put_some])
      | ((with_reducible apply awO_guard); (· rfl); (· rfl); (· exact sv); all_goals (intro hg; (try simp only [Bool.not_true, Bool.not_false]); (try simp only [decide_eq_true_eq, decide_eq_false_iff_not, Bool.not_true, Bool.not_false, Bool.not_eq_true', Bool.not_eq_false', Bool.not_not] at hg); try (exfalso; omega)))
      | ((with_reducible apply aw_cond); (· exact sv); all_goals (intro hg; (try simp only [decide_eq_true_eq, decide_eq_false_iff_not, Bool.not_true, Bool.not_false, Bool.not_eq_true', Bool.not_eq_false', Bool.not_not] at hg); try (exfalso; omega)))
      | ((with_reducible apply awY_guard); (· exact sR); (· exact svg); (· rfl); (· rfl); (· exact svl); all_goals (intro hg; (try simp only [Bool.not_true, Bool.not_false]); (try simp only [decide_eq_true_eq, decide_eq_false_iff_not, Bool.not_true, Bool.not_false, Bool.not_eq_true', Bool.not_eq_false', Bool.not_not] at hg); try (exfalso; omega)))
      | ((with_reducible apply retQ_mk); (· (first | exact .inr rfl | exact .inl rfl)); (· exact sv); (· exact sv); rotate_left; (· rfl))
      | ((with_reducible apply wk_id); (with_reducible apply retQ_mk); (· (first | exact .inr rfl | exact .inl rfl)); (· exact sv); (· exact sv); rotate_left; (· rfl))
      | ((try with_reducible apply wk_id); (with_reducible apply retQ_mk1); (· (first | exact .inr rfl | exact .inl rfl)); (· exact sv); (· exact sv); (· exact sv); (· exact sv); rotate_left; rotate_left; (· simp); (· rfl))
      | ((try with_reducible apply wk_id); (with_reducible apply retQ_mk2); (· (first | exact .inr rfl | exact .inl rfl)); (· exact sv); (· exact sv); (· exact sv); (· exact sv); (· exact sv); (· exact sv); rotate_left; rotate_left; rotate_left; (· simp); (· simp); (· rfl))
      | ((with_reducible apply awY_p); (· exact sH); (first | ((with_reducible apply awP_1); (· decide +kernel)) | ((with_reducible apply awP_2); (· exact sP)))))
  all_goals (first
    | simp only [keyF_sig (t := t) (b := b) (by omega)]
    | simp only [keyF_21 (t := t) (b := b) (by omega)]
    | simp only [keyF_127 (t := t) (b := b) (by omega) (by omega)]
    | simp only [keyF_127e (t := t) (b := b) (by omega) (by omega)]
    | simp only [keyF_10 (t := t) (b := b) (by omega) (by omega)]
    | simp only [keyF_4 (t := t) (b := b) (by omega) (by omega)]
    | simp only [keyF_full (t := t) (b := b) (by omega) (by omega)]
    | simp only [keyF_text (t := t) (b := b) (by omega) ‹_› (by omega)]
    | simp only [keyF_long (t := t) (b := b) (by omega) (by omega)]
    | simp only [keyF_none (t := t) (b := b) (by omega) ‹_›])
  all_goals simp
end Go.Proofs.Ytnnggogelnafnaa
