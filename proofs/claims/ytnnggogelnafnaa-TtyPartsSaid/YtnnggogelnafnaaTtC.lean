/- Valid of the layer and of its reference, on the abstract machine. -/
import Derived.Test.YtnnggogelnafnaaTtB
namespace Go.Proofs.Ytnnggogelnafnaa
open Go.RowKit
set_option linter.unusedVariables false
set_option linter.unusedSimpArgs false
set_option maxRecDepth 100000
set_option maxHeartbeats 4000000
def linesErr : List (List UInt8) → Int
  | [] => 0
  | l :: L => if lineErr l = 0 then linesErr L else lineErr l
theorem linesErr_drop {L : List (List UInt8)} {k : Nat} (hk : k < L.length) : linesErr (L.drop k) = if lineErr L[k] = 0 then linesErr (L.drop (k + 1)) else lineErr L[k] := by
  rw [List.drop_eq_getElem_cons hk]; rfl
def tErr (t : Tty) : Int :=
  if t.sid < 0 ∨ t.fg < 0 then 1 else if 4096 < t.edit.length then 3 else if textsB t.edit = false then 1 else if 512 < t.lines.length then 4
  else if linesErr t.lines = 0 then (if 65536 < t.out.length then 3 else 0) else linesErr t.lines
theorem tErr_loop {t : Tty} {k : Nat} (h1 : ¬ (t.sid < 0 ∨ t.fg < 0)) (h2 : ¬ 4096 < t.edit.length) (h3 : textsB t.edit = true) (h4 : ¬ 512 < t.lines.length) (hI : linesErr t.lines = linesErr (t.lines.drop k)) :
    tErr t = if linesErr (t.lines.drop k) = 0 then (if 65536 < t.out.length then 3 else 0) else linesErr (t.lines.drop k) := by
  rw [← hI]; unfold tErr; rw [if_neg h1, if_neg h2, if_neg (by simp [h3]), if_neg h4]
theorem line_long {l : List UInt8} (h : (4097 : Int) < l.length) : lineErr l = 3 := by unfold lineErr; rw [if_pos (by omega)]
theorem line_cut {l : List UInt8} {b : Bool} (h : ¬ (4097 : Int) < l.length) (h0 : (0 : Int) < l.length) (h1 : ((l[l.length - 1]'(by omega)).toNat : Int) = 10) (h2 : textsB (l.take (l.length - 1)) = b) : lineErr l = if b = false then 1 else 0 := by
  unfold lineErr; rw [if_neg (by omega), strip_pos (by omega) (by omega), h2]
theorem line_raw {l : List UInt8} {b : Bool} (h : ¬ (4097 : Int) < l.length) (h0 : (0 : Int) < l.length) (h1 : ¬ ((l[l.length - 1]'(by omega)).toNat : Int) = 10) (h2 : textsB l = b) : lineErr l = if b = false then 1 else 0 := by
  unfold lineErr; rw [if_neg (by omega), strip_neg (by omega) (by omega), h2]
theorem line_nil {l : List UInt8} {b : Bool} (h : ¬ (0 : Int) < l.length) (h2 : textsB l = b) : lineErr l = if b = false then 1 else 0 := by
  obtain rfl : l = [] := List.eq_nil_of_length_eq_zero (by omega)
  subst h2; rfl
theorem tErr_bad {t : Tty} {k : Nat} {e : Int} (hk : k < t.lines.length) (hT : tErr t = if linesErr (t.lines.drop k) = 0 then (if 65536 < t.out.length then 3 else 0) else linesErr (t.lines.drop k)) (he : lineErr t.lines[k] = e) (hz : e ≠ 0) : tErr t = e := by
  rw [hT, linesErr_drop hk, he, if_neg hz, if_neg hz]
theorem lines_step {t : Tty} {k : Nat} (hk : k < t.lines.length) (hI : linesErr t.lines = linesErr (t.lines.drop k)) (he : lineErr t.lines[k] = 0) : k + 1 ≤ t.lines.length ∧ linesErr t.lines = linesErr (t.lines.drop (k + 1)) := by
  rw [hI, linesErr_drop hk, if_pos he]; exact ⟨hk, rfl⟩
theorem rvalid_ab (t : Tty) (h1 : t.edit.length ≤ 140737488355328) (h2 : t.out.length ≤ 140737488355328) (h3 : ∀ x ∈ t.lines, x.length ≤ 140737488355328) (h4 : t.lines.length ≤ 9223372036854775807) : Ab Try.prog 10 [dT t] (ai (tErr t)) := by
  refine Fn_of_aw (keep := []) Try.func10 rfl rfl (by simp [Try.ntmps10]) ?_
  simp only [num_cons, num_nil, Try.ntmps10, Try.results10]
  repeat' (first
      | ((with_reducible apply awO_ev); (· rfl); (· exact sv))
      | ((with_reducible apply awO_eqnil); (· rfl); (· rfl); (· exact sv); (· exact sv); (· exact svp); (· rfl); (· (first | decide | (simp only []; omega) | omega)); intro nb hnb; simp only [put_some])
      | ((with_reducible apply awO_neqnil); (· rfl); (· rfl); (· exact sv); (· exact sv); (· exact svp); (· rfl); (· (first | decide | (simp only []; omega) | omega)); intro nb hnb; simp only [put_some])
      | ((with_reducible apply aw_seq); intro _ _)
      | ((with_reducible apply aw_region))
      | ((with_reducible apply aw_block))
      | ((with_reducible apply awO_nil); (try simp only [CT, ↓reduceIte, Nat.reduceEqDiff]))
      | ((with_reducible apply aw_exit); (try simp only [CT, ↓reduceIte, Nat.reduceEqDiff]))
      | ((with_reducible apply aw_skip); (try simp only [CT, ↓reduceIte, Nat.reduceEqDiff]))
      | ((with_reducible apply aw_ret); (try simp only [CT, ↓reduceIte, Nat.reduceEqDiff]))
      | ((with_reducible apply awO_y); (· rfl); (· rfl); (· decide); (· exact sv); (· exact sv))
      | ((with_reducible apply awO_n); (· rfl); (· rfl); (· decide); (· exact sv); (· rfl); (· rfl); (· decide))
      | ((with_reducible apply awO_u); (· rfl); (· rfl); (· exact svr); (· rfl); (· decide))
      | ((with_reducible apply aw_cond_true); (· exact sv))
      | ((with_reducible apply aw_cond_false); (· exact sv))
      | (refine Kont.go ‹Kont _ _ _ _› _ ?_)
      | ((with_reducible apply awO_un); (· rfl); (· decide); (· exact sv))
      | ((with_reducible apply awO_c); (· rfl); (· rfl); (· exact sv); (· (first | exact texts_ab _ (by omega))); (· rfl); (· rfl); (· rfl); (· decide))
      | ((with_reducible apply awO_f); (· rfl); (· rfl); (· exact sv); (· exact sv); (· (first | exact texts_ab _ (by omega))); (· rfl); (· rfl); (· decide))
      | ((with_reducible apply awO_m); (· rfl); (· rfl); (· exact sv); (· (first | exact texts_ab _ (by omega))); (· exact svq); (· exact svq); (· exact svq); (· exact svq); (· rfl); (· (first | decide | (simp only []; omega) | omega)); (with_reducible apply awO_st); (· exact svs))
      | ((with_reducible apply awO_guard); (· rfl); (· rfl); (· exact sv); all_goals (intro hg; (try simp only [Bool.not_true, Bool.not_false]); (try simp only [decide_eq_true_eq, decide_eq_false_iff_not, Bool.not_true, Bool.not_false, Bool.not_eq_true', Bool.not_eq_false', Bool.not_not] at hg); try (exfalso; omega)))
      | ((with_reducible apply aw_cond); (· exact sv); all_goals (intro hg; (try simp only [decide_eq_true_eq, decide_eq_false_iff_not, Bool.not_true, Bool.not_false, Bool.not_eq_true', Bool.not_eq_false', Bool.not_not] at hg); try (exfalso; omega)))
      | ((with_reducible apply retQ_mk); (· (first | exact .inr rfl | exact .inl rfl)); (· exact sv); (· exact sv); rotate_left; (· rfl))
      | ((with_reducible apply wk_id); (with_reducible apply retQ_mk); (· (first | exact .inr rfl | exact .inl rfl)); (· exact sv); (· exact sv); rotate_left; (· rfl))
      | ((try with_reducible apply wk_id); (with_reducible apply retQ_mk1); (· (first | exact .inr rfl | exact .inl rfl)); (· exact sv); (· exact sv); (· exact sv); (· exact sv); rotate_left; rotate_left; (· simp); (· rfl))
      | ((try with_reducible apply wk_id); (with_reducible apply retQ_mk2); (· (first | exact .inr rfl | exact .inl rfl)); (· exact sv); (· exact sv); (· exact sv); (· exact sv); (· exact sv); (· exact sv); rotate_left; rotate_left; rotate_left; (· simp); (· simp); (· rfl)))
  all_goals (try ((refine ai_eq ?_; unfold tErr; (repeat' split) <;> first | rfl | (exfalso; omega) | (exfalso; simp_all; done)); done))
  refine aw_loopF (fun k : Nat => [(3, ai k)]) (fun _ => [(1, [ai t.sid, ai t.fg, az t.edit, .rd t.lines.length (t.lines.map az), az t.out, ab t.tostop])]) (fun k => k ≤ t.lines.length ∧ linesErr t.lines = linesErr (t.lines.drop k)) (fun k => t.lines.length - k) 0 ⟨by omega, rfl⟩ ?_ ?_ ?_
  · (simp only [LP, look_cons, look_nil, and_true, true_and, ↓reduceIte, Nat.reduceEqDiff, Option.some.injEq, AV.v.injEq, Value.int.injEq, Int.natCast_add, Int.cast_ofNat_Int])
  · (simp only [LP, look_cons, look_nil, and_true, true_and, ↓reduceIte, Nat.reduceEqDiff, Option.some.injEq, AV.v.injEq, Value.int.injEq, Int.natCast_add, Int.cast_ofNat_Int])
  intro k ⟨hk, hI⟩
  have hT := tErr_loop (t := t) (k := k) (by omega) (by omega) ‹_› (by omega) hI
  (simp only [LP, List.append_assoc, List.nil_append, List.cons_append, List.append_nil, List.contains_cons, List.contains_nil, Nat.reduceBEq, Bool.or_false, Bool.or_true, Bool.true_or, Bool.false_or, ↓reduceIte, Bool.false_eq_true])
  by_cases hkl : k < t.lines.length
  · have hx := h3 _ (List.getElem_mem hkl)
    have hd := linesErr_drop hkl
    repeat' (first
        | ((with_reducible apply awO_ev); (· rfl); (· exact sv))
        | ((with_reducible apply awO_eqnil); (· rfl); (· rfl); (· exact sv); (· exact sv); (· exact svp); (· rfl); (· (first | decide | (simp only []; omega) | omega)); intro nb hnb; simp only [put_some])
        | ((with_reducible apply awO_neqnil); (· rfl); (· rfl); (· exact sv); (· exact sv); (· exact svp); (· rfl); (· (first | decide | (simp only []; omega) | omega)); intro nb hnb; simp only [put_some])
        | ((with_reducible apply aw_seq); intro _ _)
        | ((with_reducible apply aw_region))
        | ((with_reducible apply aw_block))
        | ((with_reducible apply awO_nil); (try simp only [CT, ↓reduceIte, Nat.reduceEqDiff]))
        | ((with_reducible apply aw_exit); (try simp only [CT, ↓reduceIte, Nat.reduceEqDiff]))
        | ((with_reducible apply aw_skip); (try simp only [CT, ↓reduceIte, Nat.reduceEqDiff]))
        | ((with_reducible apply aw_ret); (try simp only [CT, ↓reduceIte, Nat.reduceEqDiff]))
        | ((with_reducible apply awO_y); (· rfl); (· rfl); (· decide); (· exact sv); (· exact sv))
        | ((with_reducible apply awO_n); (· rfl); (· rfl); (· decide); (· exact sv); (· rfl); (· rfl); (· decide))
        | ((with_reducible apply awO_u); (· rfl); (· rfl); (· exact svr); (· rfl); (· decide))
        | ((with_reducible apply aw_cond_true); (· exact sv))
        | ((with_reducible apply aw_cond_false); (· exact sv))
        | (refine Kont.go ‹Kont _ _ _ _› _ ?_)
        | ((with_reducible apply awO_un); (· rfl); (· decide); (· exact sv))
        | ((with_reducible apply awO_c); (· rfl); (· rfl); (· exact sv); (· (first | exact line_ab _ (by omega))); (· rfl); (· rfl); (· rfl); (· decide))
        | ((with_reducible apply awO_f); (· rfl); (· rfl); (· exact sv); (· exact sv); (· (first | exact line_ab _ (by omega))); (· rfl); (· rfl); (· decide))
        | ((with_reducible apply awO_m); (· rfl); (· rfl); (· exact sv); (· (first | exact line_ab _ (by omega))); (· exact svq); (· exact svq); (· exact svq); (· exact svq); (· rfl); (· (first | decide | (simp only []; omega) | omega)); (with_reducible apply awO_st); (· exact svs))
        | ((with_reducible apply awO_guard); (· rfl); (· rfl); (· exact sv); all_goals (intro hg; (try simp only [Bool.not_true, Bool.not_false]); (try simp only [decide_eq_true_eq, decide_eq_false_iff_not, Bool.not_true, Bool.not_false, Bool.not_eq_true', Bool.not_eq_false', Bool.not_not] at hg); try (exfalso; omega)))
        | ((with_reducible apply aw_cond); (· exact sv); all_goals (intro hg; (try simp only [decide_eq_true_eq, decide_eq_false_iff_not, Bool.not_true, Bool.not_false, Bool.not_eq_true', Bool.not_eq_false', Bool.not_not] at hg); try (exfalso; omega)))
        | ((with_reducible apply retQ_mk); (· (first | exact .inr rfl | exact .inl rfl)); (· exact sv); (· exact sv); rotate_left; (· rfl))
        | ((with_reducible apply wk_id); (with_reducible apply retQ_mk); (· (first | exact .inr rfl | exact .inl rfl)); (· exact sv); (· exact sv); rotate_left; (· rfl))
        | ((try with_reducible apply wk_id); (with_reducible apply retQ_mk1); (· (first | exact .inr rfl | exact .inl rfl)); (· exact sv); (· exact sv); (· exact sv); (· exact sv); rotate_left; rotate_left; (· simp); (· rfl))
        | ((try with_reducible apply wk_id); (with_reducible apply retQ_mk2); (· (first | exact .inr rfl | exact .inl rfl)); (· exact sv); (· exact sv); (· exact sv); (· exact sv); (· exact sv); (· exact sv); rotate_left; rotate_left; rotate_left; (· simp); (· simp); (· rfl)))
    · exact ai_eq (tErr_bad hkl hT rfl hg).symm
    · refine LE_mk (k + 1) ?_ ?_ sN sN sN
      · exact lines_step hkl hI hg
      · omega
  · rw [List.drop_eq_nil_of_le (by omega)] at hT
    repeat' (first
        | ((with_reducible apply awO_ev); (· rfl); (· exact sv))
        | ((with_reducible apply awO_eqnil); (· rfl); (· rfl); (· exact sv); (· exact sv); (· exact svp); (· rfl); (· (first | decide | (simp only []; omega) | omega)); intro nb hnb; simp only [put_some])
        | ((with_reducible apply awO_neqnil); (· rfl); (· rfl); (· exact sv); (· exact sv); (· exact svp); (· rfl); (· (first | decide | (simp only []; omega) | omega)); intro nb hnb; simp only [put_some])
        | ((with_reducible apply aw_seq); intro _ _)
        | ((with_reducible apply aw_region))
        | ((with_reducible apply aw_block))
        | ((with_reducible apply awO_nil); (try simp only [CT, ↓reduceIte, Nat.reduceEqDiff]))
        | ((with_reducible apply aw_exit); (try simp only [CT, ↓reduceIte, Nat.reduceEqDiff]))
        | ((with_reducible apply aw_skip); (try simp only [CT, ↓reduceIte, Nat.reduceEqDiff]))
        | ((with_reducible apply aw_ret); (try simp only [CT, ↓reduceIte, Nat.reduceEqDiff]))
        | ((with_reducible apply awO_y); (· rfl); (· rfl); (· decide); (· exact sv); (· exact sv))
        | ((with_reducible apply awO_n); (· rfl); (· rfl); (· decide); (· exact sv); (· rfl); (· rfl); (· decide))
        | ((with_reducible apply awO_u); (· rfl); (· rfl); (· exact svr); (· rfl); (· decide))
        | ((with_reducible apply aw_cond_true); (· exact sv))
        | ((with_reducible apply aw_cond_false); (· exact sv))
        | (refine Kont.go ‹Kont _ _ _ _› _ ?_)
        | ((with_reducible apply awO_un); (· rfl); (· decide); (· exact sv))
        | ((with_reducible apply awO_c); (· rfl); (· rfl); (· exact sv); (· (first | exact line_ab _ (by omega))); (· rfl); (· rfl); (· rfl); (· decide))
        | ((with_reducible apply awO_f); (· rfl); (· rfl); (· exact sv); (· exact sv); (· (first | exact line_ab _ (by omega))); (· rfl); (· rfl); (· decide))
        | ((with_reducible apply awO_m); (· rfl); (· rfl); (· exact sv); (· (first | exact line_ab _ (by omega))); (· exact svq); (· exact svq); (· exact svq); (· exact svq); (· rfl); (· (first | decide | (simp only []; omega) | omega)); (with_reducible apply awO_st); (· exact svs))
        | ((with_reducible apply awO_guard); (· rfl); (· rfl); (· exact sv); all_goals (intro hg; (try simp only [Bool.not_true, Bool.not_false]); (try simp only [decide_eq_true_eq, decide_eq_false_iff_not, Bool.not_true, Bool.not_false, Bool.not_eq_true', Bool.not_eq_false', Bool.not_not] at hg); try (exfalso; omega)))
        | ((with_reducible apply aw_cond); (· exact sv); all_goals (intro hg; (try simp only [decide_eq_true_eq, decide_eq_false_iff_not, Bool.not_true, Bool.not_false, Bool.not_eq_true', Bool.not_eq_false', Bool.not_not] at hg); try (exfalso; omega)))
        | ((with_reducible apply retQ_mk); (· (first | exact .inr rfl | exact .inl rfl)); (· exact sv); (· exact sv); rotate_left; (· rfl))
        | ((with_reducible apply wk_id); (with_reducible apply retQ_mk); (· (first | exact .inr rfl | exact .inl rfl)); (· exact sv); (· exact sv); rotate_left; (· rfl))
        | ((try with_reducible apply wk_id); (with_reducible apply retQ_mk1); (· (first | exact .inr rfl | exact .inl rfl)); (· exact sv); (· exact sv); (· exact sv); (· exact sv); rotate_left; rotate_left; (· simp); (· rfl))
        | ((try with_reducible apply wk_id); (with_reducible apply retQ_mk2); (· (first | exact .inr rfl | exact .inl rfl)); (· exact sv); (· exact sv); (· exact sv); (· exact sv); (· exact sv); (· exact sv); rotate_left; rotate_left; rotate_left; (· simp); (· simp); (· rfl)))
    · refine ai_eq ?_; rw [hT, if_pos (by rfl), if_pos (by omega)]
    · refine ai_eq ?_; rw [hT, if_pos (by rfl), if_neg (by omega)]
theorem valid_ab (t : Tty) (h1 : t.edit.length ≤ 140737488355328) (h2 : t.out.length ≤ 140737488355328) (h3 : ∀ x ∈ t.lines, x.length ≤ 140737488355328) (h4 : t.lines.length ≤ 9223372036854775807) : Ab Try.prog 23 [dT t] (ai (tErr t)) := by
  refine Fn_of_aw (keep := []) Try.func23 rfl rfl (by simp [Try.ntmps23]) ?_
  simp only [num_cons, num_nil, Try.ntmps23, Try.results23]
  repeat' (first
      | ((with_reducible apply awO_ev); (· rfl); (· exact sv))
      | ((with_reducible apply awO_eqnil); (· rfl); (· rfl); (· exact sv); (· exact sv); (· exact svp); (· rfl); (· (first | decide | (simp only []; omega) | omega)); intro nb hnb; simp only [put_some])
      | ((with_reducible apply awO_neqnil); (· rfl); (· rfl); (· exact sv); (· exact sv); (· exact svp); (· rfl); (· (first | decide | (simp only []; omega) | omega)); intro nb hnb; simp only [put_some])
      | ((with_reducible apply aw_seq); intro _ _)
      | ((with_reducible apply aw_region))
      | ((with_reducible apply aw_block))
      | ((with_reducible apply awO_nil); (try simp only [CT, ↓reduceIte, Nat.reduceEqDiff]))
      | ((with_reducible apply aw_exit); (try simp only [CT, ↓reduceIte, Nat.reduceEqDiff]))
      | ((with_reducible apply aw_skip); (try simp only [CT, ↓reduceIte, Nat.reduceEqDiff]))
      | ((with_reducible apply aw_ret); (try simp only [CT, ↓reduceIte, Nat.reduceEqDiff]))
      | ((with_reducible apply awO_y); (· rfl); (· rfl); (· decide); (· exact sv); (· exact sv))
      | ((with_reducible apply awO_n); (· rfl); (· rfl); (· decide); (· exact sv); (· rfl); (· rfl); (· decide))
      | ((with_reducible apply awO_u); (· rfl); (· rfl); (· exact svr); (· rfl); (· decide))
      | ((with_reducible apply aw_cond_true); (· exact sv))
      | ((with_reducible apply aw_cond_false); (· exact sv))
      | (refine Kont.go ‹Kont _ _ _ _› _ ?_)
      | ((with_reducible apply awO_un); (· rfl); (· decide); (· exact sv))
      | ((with_reducible apply awO_c); (· rfl); (· rfl); (· exact sv); (· (first | exact plain_ab _ (by omega))); (· rfl); (· rfl); (· rfl); (· decide))
      | ((with_reducible apply awO_f); (· rfl); (· rfl); (· exact sv); (· exact sv); (· (first | exact plain_ab _ (by omega))); (· rfl); (· rfl); (· decide))
      | ((with_reducible apply awO_m); (· rfl); (· rfl); (· exact sv); (· (first | exact plain_ab _ (by omega))); (· exact svq); (· exact svq); (· exact svq); (· exact svq); (· rfl); (· (first | decide | (simp only []; omega) | omega)); (with_reducible apply awO_st); (· exact svs))
      | ((with_reducible apply awO_guard); (· rfl); (· rfl); (· exact sv); all_goals (intro hg; (try simp only [Bool.not_true, Bool.not_false]); (try simp only [decide_eq_true_eq, decide_eq_false_iff_not, Bool.not_true, Bool.not_false, Bool.not_eq_true', Bool.not_eq_false', Bool.not_not] at hg); try (exfalso; omega)))
      | ((with_reducible apply aw_cond); (· exact sv); all_goals (intro hg; (try simp only [decide_eq_true_eq, decide_eq_false_iff_not, Bool.not_true, Bool.not_false, Bool.not_eq_true', Bool.not_eq_false', Bool.not_not] at hg); try (exfalso; omega)))
      | ((with_reducible apply retQ_mk); (· (first | exact .inr rfl | exact .inl rfl)); (· exact sv); (· exact sv); rotate_left; (· rfl))
      | ((with_reducible apply wk_id); (with_reducible apply retQ_mk); (· (first | exact .inr rfl | exact .inl rfl)); (· exact sv); (· exact sv); rotate_left; (· rfl))
      | ((try with_reducible apply wk_id); (with_reducible apply retQ_mk1); (· (first | exact .inr rfl | exact .inl rfl)); (· exact sv); (· exact sv); (· exact sv); (· exact sv); rotate_left; rotate_left; (· simp); (· rfl))
      | ((try with_reducible apply wk_id); (with_reducible apply retQ_mk2); (· (first | exact .inr rfl | exact .inl rfl)); (· exact sv); (· exact sv); (· exact sv); (· exact sv); (· exact sv); (· exact sv); rotate_left; rotate_left; rotate_left; (· simp); (· simp); (· rfl)))
  all_goals (try ((refine ai_eq ?_; unfold tErr; (repeat' split) <;> first | rfl | (exfalso; omega) | (exfalso; simp_all; done)); done))
  refine aw_loopF (fun k : Nat => [(33, ai k)]) (fun _ => [(1, [ai t.sid, ai t.fg, az t.edit, .rd t.lines.length (t.lines.map az), az t.out, ab t.tostop])]) (fun k => k ≤ t.lines.length ∧ linesErr t.lines = linesErr (t.lines.drop k)) (fun k => t.lines.length - k) 0 ⟨by omega, rfl⟩ ?_ ?_ ?_
  · (simp only [LP, look_cons, look_nil, and_true, true_and, ↓reduceIte, Nat.reduceEqDiff, Option.some.injEq, AV.v.injEq, Value.int.injEq, Int.natCast_add, Int.cast_ofNat_Int])
  · (simp only [LP, look_cons, look_nil, and_true, true_and, ↓reduceIte, Nat.reduceEqDiff, Option.some.injEq, AV.v.injEq, Value.int.injEq, Int.natCast_add, Int.cast_ofNat_Int])
  intro k ⟨hk, hI⟩
  have hT := tErr_loop (t := t) (k := k) (by omega) (by omega) ‹_› (by omega) hI
  (simp only [LP, List.append_assoc, List.nil_append, List.cons_append, List.append_nil, List.contains_cons, List.contains_nil, Nat.reduceBEq, Bool.or_false, Bool.or_true, Bool.true_or, Bool.false_or, ↓reduceIte, Bool.false_eq_true])
  by_cases hkl : k < t.lines.length
  · have hx := h3 _ (List.getElem_mem hkl)
    have hd := linesErr_drop hkl
    repeat' (first
        | ((with_reducible apply awO_ev); (· rfl); (· exact sv))
        | ((with_reducible apply awO_eqnil); (· rfl); (· rfl); (· exact sv); (· exact sv); (· exact svp); (· rfl); (· (first | decide | (simp only []; omega) | omega)); intro nb hnb; simp only [put_some])
        | ((with_reducible apply awO_neqnil); (· rfl); (· rfl); (· exact sv); (· exact sv); (· exact svp); (· rfl); (· (first | decide | (simp only []; omega) | omega)); intro nb hnb; simp only [put_some])
        | ((with_reducible apply aw_seq); intro _ _)
        | ((with_reducible apply aw_region))
        | ((with_reducible apply aw_block))
        | ((with_reducible apply awO_nil); (try simp only [CT, ↓reduceIte, Nat.reduceEqDiff]))
        | ((with_reducible apply aw_exit); (try simp only [CT, ↓reduceIte, Nat.reduceEqDiff]))
        | ((with_reducible apply aw_skip); (try simp only [CT, ↓reduceIte, Nat.reduceEqDiff]))
        | ((with_reducible apply aw_ret); (try simp only [CT, ↓reduceIte, Nat.reduceEqDiff]))
        | ((with_reducible apply awO_y); (· rfl); (· rfl); (· decide); (· exact sv); (· exact sv))
        | ((with_reducible apply awO_n); (· rfl); (· rfl); (· decide); (· exact sv); (· rfl); (· rfl); (· decide))
        | ((with_reducible apply awO_u); (· rfl); (· rfl); (· exact svr); (· rfl); (· decide))
        | ((with_reducible apply aw_cond_true); (· exact sv))
        | ((with_reducible apply aw_cond_false); (· exact sv))
        | (refine Kont.go ‹Kont _ _ _ _› _ ?_)
        | ((with_reducible apply awO_un); (· rfl); (· decide); (· exact sv))
        | ((with_reducible apply awO_c); (· rfl); (· rfl); (· exact sv); (· (first | exact plain_ab _ (by (try simp only [List.length_take]); omega))); (· rfl); (· rfl); (· rfl); (· decide))
        | ((with_reducible apply awO_f); (· rfl); (· rfl); (· exact sv); (· exact sv); (· (first | exact plain_ab _ (by (try simp only [List.length_take]); omega))); (· rfl); (· rfl); (· decide))
        | ((with_reducible apply awO_m); (· rfl); (· rfl); (· exact sv); (· (first | exact plain_ab _ (by (try simp only [List.length_take]); omega))); (· exact svq); (· exact svq); (· exact svq); (· exact svq); (· rfl); (· (first | decide | (simp only []; omega) | omega)); (with_reducible apply awO_st); (· exact svs))
        | ((with_reducible apply awO_guard); (· rfl); (· rfl); (· exact sv); all_goals (intro hg; (try simp only [Bool.not_true, Bool.not_false]); (try simp only [decide_eq_true_eq, decide_eq_false_iff_not, Bool.not_true, Bool.not_false, Bool.not_eq_true', Bool.not_eq_false', Bool.not_not] at hg); try (exfalso; omega)))
        | ((with_reducible apply aw_cond); (· exact sv); all_goals (intro hg; (try simp only [decide_eq_true_eq, decide_eq_false_iff_not, Bool.not_true, Bool.not_false, Bool.not_eq_true', Bool.not_eq_false', Bool.not_not] at hg); try (exfalso; omega)))
        | ((with_reducible apply retQ_mk); (· (first | exact .inr rfl | exact .inl rfl)); (· exact sv); (· exact sv); rotate_left; (· rfl))
        | ((with_reducible apply wk_id); (with_reducible apply retQ_mk); (· (first | exact .inr rfl | exact .inl rfl)); (· exact sv); (· exact sv); rotate_left; (· rfl))
        | ((try with_reducible apply wk_id); (with_reducible apply retQ_mk1); (· (first | exact .inr rfl | exact .inl rfl)); (· exact sv); (· exact sv); (· exact sv); (· exact sv); rotate_left; rotate_left; (· simp); (· rfl))
        | ((try with_reducible apply wk_id); (with_reducible apply retQ_mk2); (· (first | exact .inr rfl | exact .inl rfl)); (· exact sv); (· exact sv); (· exact sv); (· exact sv); (· exact sv); (· exact sv); rotate_left; rotate_left; rotate_left; (· simp); (· simp); (· rfl)))
    · exact ai_eq (tErr_bad hkl hT (line_long ‹_›) (by decide)).symm
    · exact ai_eq (tErr_bad hkl hT (line_cut ‹_› ‹_› ‹_› hg) (by decide)).symm
    · refine LE_mk (k + 1) ?_ ?_ sN sN sN
      · exact lines_step hkl hI (line_cut ‹_› ‹_› ‹_› hg)
      · omega
    · exact ai_eq (tErr_bad hkl hT (line_raw ‹_› ‹_› ‹_› hg) (by decide)).symm
    · refine LE_mk (k + 1) ?_ ?_ sN sN sN
      · exact lines_step hkl hI (line_raw ‹_› ‹_› ‹_› hg)
      · omega
    · exact ai_eq (tErr_bad hkl hT (line_nil ‹_› hg) (by decide)).symm
    · refine LE_mk (k + 1) ?_ ?_ sN sN sN
      · exact lines_step hkl hI (line_nil ‹_› hg)
      · omega
  · rw [List.drop_eq_nil_of_le (by omega)] at hT
    repeat' (first
        | ((with_reducible apply awO_ev); (· rfl); (· exact sv))
        | ((with_reducible apply awO_eqnil); (· rfl); (· rfl); (· exact sv); (· exact sv); (· exact svp); (· rfl); (· (first | decide | (simp only []; omega) | omega)); intro nb hnb; simp only [put_some])
        | ((with_reducible apply awO_neqnil); (· rfl); (· rfl); (· exact sv); (· exact sv); (· exact svp); (· rfl); (· (first | decide | (simp only []; omega) | omega)); intro nb hnb; simp only [put_some])
        | ((with_reducible apply aw_seq); intro _ _)
        | ((with_reducible apply aw_region))
        | ((with_reducible apply aw_block))
        | ((with_reducible apply awO_nil); (try simp only [CT, ↓reduceIte, Nat.reduceEqDiff]))
        | ((with_reducible apply aw_exit); (try simp only [CT, ↓reduceIte, Nat.reduceEqDiff]))
        | ((with_reducible apply aw_skip); (try simp only [CT, ↓reduceIte, Nat.reduceEqDiff]))
        | ((with_reducible apply aw_ret); (try simp only [CT, ↓reduceIte, Nat.reduceEqDiff]))
        | ((with_reducible apply awO_y); (· rfl); (· rfl); (· decide); (· exact sv); (· exact sv))
        | ((with_reducible apply awO_n); (· rfl); (· rfl); (· decide); (· exact sv); (· rfl); (· rfl); (· decide))
        | ((with_reducible apply awO_u); (· rfl); (· rfl); (· exact svr); (· rfl); (· decide))
        | ((with_reducible apply aw_cond_true); (· exact sv))
        | ((with_reducible apply aw_cond_false); (· exact sv))
        | (refine Kont.go ‹Kont _ _ _ _› _ ?_)
        | ((with_reducible apply awO_un); (· rfl); (· decide); (· exact sv))
        | ((with_reducible apply awO_c); (· rfl); (· rfl); (· exact sv); (· (first | exact plain_ab _ (by (try simp only [List.length_take]); omega))); (· rfl); (· rfl); (· rfl); (· decide))
        | ((with_reducible apply awO_f); (· rfl); (· rfl); (· exact sv); (· exact sv); (· (first | exact plain_ab _ (by (try simp only [List.length_take]); omega))); (· rfl); (· rfl); (· decide))
        | ((with_reducible apply awO_m); (· rfl); (· rfl); (· exact sv); (· (first | exact plain_ab _ (by (try simp only [List.length_take]); omega))); (· exact svq); (· exact svq); (· exact svq); (· exact svq); (· rfl); (· (first | decide | (simp only []; omega) | omega)); (with_reducible apply awO_st); (· exact svs))
        | ((with_reducible apply awO_guard); (· rfl); (· rfl); (· exact sv); all_goals (intro hg; (try simp only [Bool.not_true, Bool.not_false]); (try simp only [decide_eq_true_eq, decide_eq_false_iff_not, Bool.not_true, Bool.not_false, Bool.not_eq_true', Bool.not_eq_false', Bool.not_not] at hg); try (exfalso; omega)))
        | ((with_reducible apply aw_cond); (· exact sv); all_goals (intro hg; (try simp only [decide_eq_true_eq, decide_eq_false_iff_not, Bool.not_true, Bool.not_false, Bool.not_eq_true', Bool.not_eq_false', Bool.not_not] at hg); try (exfalso; omega)))
        | ((with_reducible apply retQ_mk); (· (first | exact .inr rfl | exact .inl rfl)); (· exact sv); (· exact sv); rotate_left; (· rfl))
        | ((with_reducible apply wk_id); (with_reducible apply retQ_mk); (· (first | exact .inr rfl | exact .inl rfl)); (· exact sv); (· exact sv); rotate_left; (· rfl))
        | ((try with_reducible apply wk_id); (with_reducible apply retQ_mk1); (· (first | exact .inr rfl | exact .inl rfl)); (· exact sv); (· exact sv); (· exact sv); (· exact sv); rotate_left; rotate_left; (· simp); (· rfl))
        | ((try with_reducible apply wk_id); (with_reducible apply retQ_mk2); (· (first | exact .inr rfl | exact .inl rfl)); (· exact sv); (· exact sv); (· exact sv); (· exact sv); (· exact sv); (· exact sv); rotate_left; rotate_left; rotate_left; (· simp); (· simp); (· rfl)))
    · refine ai_eq ?_; rw [hT, if_pos (by rfl), if_pos (by omega)]
    · refine ai_eq ?_; rw [hT, if_pos (by rfl), if_neg (by omega)]
end Go.Proofs.Ytnnggogelnafnaa
