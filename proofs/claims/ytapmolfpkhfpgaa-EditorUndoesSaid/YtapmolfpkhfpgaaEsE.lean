/- The editor: Do of the program is what the document says, on the abstract machine. -/
import Derived.Test.YtapmolfpkhfpgaaEsD
namespace Go.Proofs.Ytapmolfpkhfpgaa
open Go.RowKit
set_option linter.unusedVariables false
set_option linter.unusedSimpArgs false
set_option maxRecDepth 100000
set_option maxHeartbeats 8000000
theorem do_res (e g : Er) (L : List (List UInt8)) (a : Int) (x : List UInt8) (f : Int) (ha2 : a = 17 ∨ a = 18 ∨ a = 20 ∨ a = 21) (h : okEr e)
    (hact : Fn Try.prog 28 [.pt 9 0, az x] (wkH e L a) (.tp []) (wkD g L a) [9]) : Ab Try.prog 16 [erA e, ai a, az x, hsA f L] (erA (tailD e g a)) := by
  have hu := h.nu
  have hr := h.nr
  have hk := h.nk
  have c1 := valid_ab e (by omega) (by omega) (by omega)
  rw [(vdR_ok e).2 h] at c1
  have c2 := copied_fn e (by omega) (by omega) (by omega)
  have c3 := restores_ab a
  rw [show decide (a = 17 ∨ a = 18 ∨ a = 20 ∨ a = 21) = true by simpa using ha2] at c3
  clear h
  obtain ⟨⟨t, z⟩, m, K, U, R, ks, la, li, sd⟩ := e
  obtain ⟨⟨t', z'⟩, m', K', U', R', ks', la', li', sd'⟩ := g
  simp only at hu hr hk
  have hm := min_if m t.length
  have hm' := min_if m' t'.length
  simp only [wkH, wkC, wkD] at hact
  unfold tailD
  simp only [erA, erC, erO, hsA] at c1 c2 ⊢
  have ha : 0 ≤ a ∧ a ≤ 28 := by omega
  by_cases k1 : 4096 < t'.length
  · simp only [if_pos k1]
    refine Fn_of_aw (keep := []) Try.func16 rfl rfl (by simp [Try.ntmps16]) ?_
    simp only [num_cons, num_nil, Try.ntmps16, Try.results16]
    repeat' (first
 | ((with_reducible apply awY_p); (· exact sH); (with_reducible apply awP_1); (· decide +kernel))
 | ((with_reducible apply awO_ev); (· rfl); (· exact sv))
 | ((with_reducible apply aw_seq); intro _ _)
 | (with_reducible apply aw_region)
 | ((first | (with_reducible apply awO_nil) | (with_reducible apply aw_exit) | (with_reducible apply aw_skip) | (with_reducible apply aw_ret)); (try simp only [CT, ↓reduceIte, Nat.reduceEqDiff]))
 | ((with_reducible apply awO_y); (· rfl); (· rfl); (· decide); (· exact sv); (· exact sv))
 | ((with_reducible apply aw_cond_false); (· exact sv))
 | ((with_reducible apply awO_un); (· rfl); (· decide); (· exact sv))
 | (refine Kont.go ‹Kont _ _ _ _› _ ?_)
 | ((with_reducible apply awO_c); (· rfl); (· rfl); (· exact sv); (· (first | exact c1 | exact c2 | exact c3 | exact hact)); (· rfl); (· rfl); (· rfl); (· decide))
 | ((with_reducible apply awO_m); (· rfl); (· rfl); (· exact sv); (· (first | exact c1 | exact c2 | exact c3 | exact hact)); (· exact svq); (· exact svq); (· exact svq); (· exact svq); (· rfl); (· exact nd); (with_reducible apply awO_st); (· exact svs))
 | ((with_reducible apply aw_draw); (· decide +kernel); (simp only [List.size_toArray, List.length_cons, List.length_nil, Nat.reduceAdd]))
 | ((with_reducible apply awY_done); (· decide +kernel); (try simp only [CT, ↓reduceIte, Nat.reduceEqDiff]))
 | ((with_reducible apply awY_q); (· exact sQ); (· exact np); (· exact svg); (· rfl); (· exact sv))
 | ((with_reducible apply endQ_rfl))
 | ((with_reducible apply endQ_sub); (· exact sE); (· exact sN))
 | ((with_reducible apply awI_ev); (· exact svg); (· rfl); (· exact sv))
 | ((with_reducible apply awI_b); (· exact svg); (· rfl); (· rfl); (· exact sv); (· (first | exact c1 | exact c2 | exact c3 | exact hact)); (· exact svq); (· exact svq); (· exact svq); (· rfl); (· exact nd); (with_reducible apply awY_st); (· exact svs))
 | ((first | ((with_reducible apply awO_guard); (· rfl); (· rfl); (· exact sv)) | ((with_reducible apply aw_cond); (· exact sv))); all_goals (intro hg; (try simp only [Bool.not_true, Bool.not_false]); (try simp only [decide_eq_true_eq, decide_eq_false_iff_not, Bool.not_true, Bool.not_false, Bool.not_eq_true', Bool.not_eq_false', Bool.not_not, beq_eq_false_iff_ne, ne_eq, beq_iff_eq, decide_eq_decide] at hg); try (exfalso; omega)))
 | ((with_reducible apply retQ_mk); (· (first | exact .inr rfl | exact .inl rfl)); (· exact sv); (· exact sv); rotate_left; (· rfl))
 | ((with_reducible apply awY_p); (· exact sH); (first | ((with_reducible apply awP_1); (· decide +kernel)) | ((with_reducible apply awP_2); (· exact sP)))))
    all_goals (first | (exfalso; omega) | rw [hm])
  simp only [if_neg k1]
  by_cases k2 : t' = t
  · subst k2
    refine Fn_of_aw (keep := []) Try.func16 rfl rfl (by simp [Try.ntmps16]) ?_
    simp only [num_cons, num_nil, Try.ntmps16, Try.results16]
    repeat' (first
 | ((with_reducible apply awY_p); (· exact sH); (with_reducible apply awP_1); (· decide +kernel))
 | ((with_reducible apply awO_ev); (· rfl); (· exact sv))
 | ((with_reducible apply aw_seq); intro _ _)
 | (with_reducible apply aw_region)
 | ((first | (with_reducible apply awO_nil) | (with_reducible apply aw_exit) | (with_reducible apply aw_skip) | (with_reducible apply aw_ret)); (try simp only [CT, ↓reduceIte, Nat.reduceEqDiff]))
 | ((with_reducible apply awO_y); (· rfl); (· rfl); (· decide); (· exact sv); (· exact sv))
 | ((with_reducible apply awO_n); (· rfl); (· rfl); (· decide); (· exact sv); (· rfl); (· rfl); (· decide))
 | ((with_reducible apply aw_cond_false); (· exact sv))
 | ((with_reducible apply awO_un); (· rfl); (· decide); (· exact sv))
 | (refine Kont.go ‹Kont _ _ _ _› _ ?_)
 | ((with_reducible apply awO_c); (· rfl); (· rfl); (· exact sv); (· (first | exact c1 | exact c2 | exact c3 | exact hact)); (· rfl); (· rfl); (· rfl); (· decide))
 | ((with_reducible apply awO_m); (· rfl); (· rfl); (· exact sv); (· (first | exact c1 | exact c2 | exact c3 | exact hact)); (· exact svq); (· exact svq); (· exact svq); (· exact svq); (· rfl); (· exact nd); (with_reducible apply awO_st); (· exact svs))
 | ((with_reducible apply aw_draw); (· decide +kernel); (simp only [List.size_toArray, List.length_cons, List.length_nil, Nat.reduceAdd]))
 | ((with_reducible apply awY_done); (· decide +kernel); (try simp only [CT, ↓reduceIte, Nat.reduceEqDiff]))
 | ((with_reducible apply awY_q); (· exact sQ); (· exact np); (· exact svg); (· rfl); (· exact sv))
 | ((with_reducible apply endQ_rfl))
 | ((with_reducible apply endQ_sub); (· exact sE); (· exact sN))
 | ((with_reducible apply awI_ev); (· exact svg); (· rfl); (· exact sv))
 | ((with_reducible apply awI_b); (· exact svg); (· rfl); (· rfl); (· exact sv); (· (first | exact c1 | exact c2 | exact c3 | exact hact)); (· exact svq); (· exact svq); (· exact svq); (· rfl); (· exact nd); (with_reducible apply awY_st); (· exact svs))
 | ((first | ((with_reducible apply awO_guard); (· rfl); (· rfl); (· exact sv)) | ((with_reducible apply aw_cond); (· exact sv))); all_goals (intro hg; (try simp only [Bool.not_true, Bool.not_false]); (try simp only [decide_eq_true_eq, decide_eq_false_iff_not, Bool.not_true, Bool.not_false, Bool.not_eq_true', Bool.not_eq_false', Bool.not_not, beq_eq_false_iff_ne, ne_eq, beq_iff_eq, decide_eq_decide] at hg); try (exfalso; omega)))
 | ((with_reducible apply retQ_mk); (· (first | exact .inr rfl | exact .inl rfl)); (· exact sv); (· exact sv); rotate_left; (· rfl))
 | ((with_reducible apply awY_p); (· exact sH); (first | ((with_reducible apply awP_1); (· decide +kernel)) | ((with_reducible apply awP_2); (· exact sP)))))
    all_goals (first | (exfalso; omega) | exact absurd rfl (by assumption) | rw [hm'])
  · skip
    refine Fn_of_aw (keep := []) Try.func16 rfl rfl (by simp [Try.ntmps16]) ?_
    simp only [num_cons, num_nil, Try.ntmps16, Try.results16]
    repeat' (first
 | ((with_reducible apply awY_p); (· exact sH); (with_reducible apply awP_1); (· decide +kernel))
 | ((with_reducible apply awO_ev); (· rfl); (· exact sv))
 | ((with_reducible apply aw_seq); intro _ _)
 | (with_reducible apply aw_region)
 | ((first | (with_reducible apply awO_nil) | (with_reducible apply aw_exit) | (with_reducible apply aw_skip) | (with_reducible apply aw_ret)); (try simp only [CT, ↓reduceIte, Nat.reduceEqDiff]))
 | ((with_reducible apply awO_y); (· rfl); (· rfl); (· decide); (· exact sv); (· exact sv))
 | ((with_reducible apply awO_n); (· rfl); (· rfl); (· decide); (· exact sv); (· rfl); (· rfl); (· decide))
 | ((with_reducible apply aw_cond_false); (· exact sv))
 | ((with_reducible apply awO_un); (· rfl); (· decide); (· exact sv))
 | (refine Kont.go ‹Kont _ _ _ _› _ ?_)
 | ((with_reducible apply awO_c); (· rfl); (· rfl); (· exact sv); (· (first | exact c1 | exact c2 | exact c3 | exact hact)); (· rfl); (· rfl); (· rfl); (· decide))
 | ((with_reducible apply awO_m); (· rfl); (· rfl); (· exact sv); (· (first | exact c1 | exact c2 | exact c3 | exact hact)); (· exact svq); (· exact svq); (· exact svq); (· exact svq); (· rfl); (· exact nd); (with_reducible apply awO_st); (· exact svs))
 | ((with_reducible apply aw_draw); (· decide +kernel); (simp only [List.size_toArray, List.length_cons, List.length_nil, Nat.reduceAdd]))
 | ((with_reducible apply awY_done); (· decide +kernel); (try simp only [CT, ↓reduceIte, Nat.reduceEqDiff]))
 | ((with_reducible apply awY_q); (· exact sQ); (· exact np); (· exact svg); (· rfl); (· exact sv))
 | ((with_reducible apply endQ_rfl))
 | ((with_reducible apply endQ_sub); (· exact sE); (· exact sN))
 | ((with_reducible apply awI_ev); (· exact svg); (· rfl); (· exact sv))
 | ((with_reducible apply awI_b); (· exact svg); (· rfl); (· rfl); (· exact sv); (· (first | exact c1 | exact c2 | exact c3 | exact hact)); (· exact svq); (· exact svq); (· exact svq); (· rfl); (· exact nd); (with_reducible apply awY_st); (· exact svs))
 | ((first | ((with_reducible apply awO_guard); (· rfl); (· rfl); (· exact sv)) | ((with_reducible apply aw_cond); (· exact sv))); all_goals (intro hg; (try simp only [Bool.not_true, Bool.not_false]); (try simp only [decide_eq_true_eq, decide_eq_false_iff_not, Bool.not_true, Bool.not_false, Bool.not_eq_true', Bool.not_eq_false', Bool.not_not, beq_eq_false_iff_ne, ne_eq, beq_iff_eq, decide_eq_decide] at hg); try (exfalso; omega)))
 | ((with_reducible apply retQ_mk); (· (first | exact .inr rfl | exact .inl rfl)); (· exact sv); (· exact sv); rotate_left; (· rfl))
 | ((with_reducible apply awY_p); (· exact sH); (first | ((with_reducible apply awP_1); (· decide +kernel)) | ((with_reducible apply awP_2); (· exact sP)))))
    all_goals (first | (exfalso; omega) | exact absurd (by assumption) k2 | rw [hm'])
theorem do_none (e : Er) (L : List (List UInt8)) (a : Int) (x : List UInt8) (f : Int) (ha : a < 0 ∨ 28 < a) : Ab Try.prog 16 [erA e, ai a, az x, hsA f L] (erA e) := by
  obtain ⟨⟨t, z⟩, m, K, U, R, ks, la, li, sd⟩ := e
  simp only [erA, erC, hsA]
  refine Fn_of_aw (keep := []) Try.func16 rfl rfl (by simp [Try.ntmps16]) ?_
  simp only [num_cons, num_nil, Try.ntmps16, Try.results16]
  repeat' (first
 | ((with_reducible apply awO_ev); (· rfl); (· exact sv))
 | ((with_reducible apply aw_seq); intro _ _)
 | (with_reducible apply aw_region)
 | ((first | (with_reducible apply awO_nil) | (with_reducible apply aw_exit) | (with_reducible apply aw_skip) | (with_reducible apply aw_ret)); (try simp only [CT, ↓reduceIte, Nat.reduceEqDiff]))
 | ((with_reducible apply awO_y); (· rfl); (· rfl); (· decide); (· exact sv); (· exact sv))
 | ((with_reducible apply awO_n); (· rfl); (· rfl); (· decide); (· exact sv); (· rfl); (· rfl); (· decide))
 | ((with_reducible apply aw_cond_true); (· exact sv))
 | (refine Kont.go ‹Kont _ _ _ _› _ ?_)
 | ((first | ((with_reducible apply awO_guard); (· rfl); (· rfl); (· exact sv)) | ((with_reducible apply aw_cond); (· exact sv))); all_goals (intro hg; (try simp only [Bool.not_true, Bool.not_false]); (try simp only [decide_eq_true_eq, decide_eq_false_iff_not, Bool.not_true, Bool.not_false, Bool.not_eq_true', Bool.not_eq_false', Bool.not_not, beq_eq_false_iff_ne, ne_eq, beq_iff_eq, decide_eq_decide] at hg); try (exfalso; omega)))
 | ((with_reducible apply retQ_mk); (· (first | exact .inr rfl | exact .inl rfl)); (· exact sv); (· exact sv); rotate_left; (· rfl)))
  all_goals (first | rfl | (exfalso; omega))
theorem kilE_ur (e : Er) (i j : Nat) (a : Int) : (kilE e i j a).undo = e.undo ∧ (kilE e i j a).redo = e.redo := by unfold kilE; split <;> exact ⟨rfl, rfl⟩
theorem rotE_ur (e : Er) : (rotE e).undo = e.undo ∧ (rotE e).redo = e.redo := by
  unfold rotE
  split
  · exact ⟨rfl, rfl⟩
  split <;> exact ⟨rfl, rfl⟩
theorem trnE_ur (e : Er) : (trnE e).undo = e.undo ∧ (trnE e).redo = e.redo := by unfold trnE; split <;> exact ⟨rfl, rfl⟩
theorem yankE_ur (e : Er) : (yankE e).undo = e.undo ∧ (yankE e).redo = e.redo := by unfold yankE; split <;> exact ⟨rfl, rfl⟩
theorem tail_yank {e : Er} (h : okEr e) (x : List UInt8) (L : List (List UInt8)) : tailE e (yankE e) 15 = { actR e 15 x L with last := 15 } := by
  have e1 : actR e 15 x L = (match e.kills.getLast? with | none => e | some s => edt e (rplS e.now e.now.p.toNat e.now.p.toNat s) 15) := rfl
  rw [e1]
  unfold yankE
  cases e.kills.getLast? with
  | none => exact tail_same rfl h.now.1 h.mark.2 rfl rfl
  | some s => exact tail_edt h _ 15
theorem do_ab (e : Er) (L : List (List UInt8)) (a : Int) (x : List UInt8) (f : Int) (h : okEr e) (hx : x.length ≤ 100000) (hL : L.length ≤ 9000000000000000) (hl : ∀ s ∈ L, s.length ≤ 9000000000000000) : Ab Try.prog 16 [erA e, ai a, az x, hsA f L] (erA (doR e a x L)) := by
  have hn := h.now.1
  have hn2 := h.now.2.1
  have hn3 := h.now.2.2
  have hmk := h.mark
  unfold doR
  by_cases ha : a < 0 ∨ 28 < a
  · rw [if_pos ha]
    exact do_none e L a x f ha
  rw [if_neg ha]
  by_cases k0 : a = 0
  · subst k0
    have c := do_edit e (e) L 0 x f (by omega) (by omega) h rfl rfl (act0_fn e h L x hx)
    have q : tailE e (e) 0 = { actR e 0 x L with last := 0 } := tail_same (e := e) (g := e) rfl hn hmk.2 rfl rfl
    rw [q] at c
    exact c
  by_cases k1 : a = 1
  · subst k1
    have c := do_edit e ({ e with now := rplS e.now e.now.p.toNat e.now.p.toNat x }) L 1 x f (by omega) (by omega) h rfl rfl (act1_fn e h L x hx)
    have q : tailE e ({ e with now := rplS e.now e.now.p.toNat e.now.p.toNat x }) 1 = { actR e 1 x L with last := 1 } := tail_edt h _ 1
    rw [q] at c
    exact c
  by_cases k2 : a = 2
  · subst k2
    have c := do_edit e (e) L 2 x f (by omega) (by omega) h rfl rfl (act2_fn e h L x hx)
    have q : tailE e (e) 2 = { actR e 2 x L with last := 2 } := tail_same (e := e) (g := e) rfl hn hmk.2 rfl rfl
    rw [q] at c
    exact c
  by_cases k3 : a = 3
  · subst k3
    have c := do_edit e ({ e with now := ⟨e.now.t, (e.now.p.toNat - 1 : Nat)⟩ }) L 3 x f (by omega) (by omega) h rfl rfl (act3_fn e h L x hx)
    have q : tailE e ({ e with now := ⟨e.now.t, (e.now.p.toNat - 1 : Nat)⟩ }) 3 = { actR e 3 x L with last := 3 } := tail_same (e := e) (g := { e with now := ⟨e.now.t, (e.now.p.toNat - 1 : Nat)⟩ }) rfl hn hmk.2 rfl rfl
    rw [q] at c
    exact c
  by_cases k4 : a = 4
  · subst k4
    have c := do_edit e ({ e with now := ⟨e.now.t, (min e.now.t.length (e.now.p.toNat + 1) : Nat)⟩ }) L 4 x f (by omega) (by omega) h rfl rfl (act4_fn e h L x hx)
    have q : tailE e ({ e with now := ⟨e.now.t, (min e.now.t.length (e.now.p.toNat + 1) : Nat)⟩ }) 4 = { actR e 4 x L with last := 4 } := tail_same (e := e) (g := { e with now := ⟨e.now.t, (min e.now.t.length (e.now.p.toNat + 1) : Nat)⟩ }) rfl hn hmk.2 rfl rfl
    rw [q] at c
    exact c
  by_cases k5 : a = 5
  · subst k5
    have c := do_edit e ({ e with now := ⟨e.now.t, 0⟩ }) L 5 x f (by omega) (by omega) h rfl rfl (act5_fn e h L x hx)
    have q : tailE e ({ e with now := ⟨e.now.t, 0⟩ }) 5 = { actR e 5 x L with last := 5 } := tail_same (e := e) (g := { e with now := ⟨e.now.t, 0⟩ }) rfl hn hmk.2 rfl rfl
    rw [q] at c
    exact c
  by_cases k6 : a = 6
  · subst k6
    have c := do_edit e ({ e with now := ⟨e.now.t, e.now.t.length⟩ }) L 6 x f (by omega) (by omega) h rfl rfl (act6_fn e h L x hx)
    have q : tailE e ({ e with now := ⟨e.now.t, e.now.t.length⟩ }) 6 = { actR e 6 x L with last := 6 } := tail_same (e := e) (g := { e with now := ⟨e.now.t, e.now.t.length⟩ }) rfl hn hmk.2 rfl rfl
    rw [q] at c
    exact c
  by_cases k7 : a = 7
  · subst k7
    have c := do_edit e ({ e with now := ⟨e.now.t, lsW e.now.t e.now.p.toNat⟩ }) L 7 x f (by omega) (by omega) h rfl rfl (act7_fn e h L x hx)
    have q : tailE e ({ e with now := ⟨e.now.t, lsW e.now.t e.now.p.toNat⟩ }) 7 = { actR e 7 x L with last := 7 } := tail_same (e := e) (g := { e with now := ⟨e.now.t, lsW e.now.t e.now.p.toNat⟩ }) rfl hn hmk.2 rfl rfl
    rw [q] at c
    exact c
  by_cases k8 : a = 8
  · subst k8
    have c := do_edit e ({ e with now := ⟨e.now.t, nxW e.now.t e.now.p.toNat⟩ }) L 8 x f (by omega) (by omega) h rfl rfl (act8_fn e h L x hx)
    have q : tailE e ({ e with now := ⟨e.now.t, nxW e.now.t e.now.p.toNat⟩ }) 8 = { actR e 8 x L with last := 8 } := tail_same (e := e) (g := { e with now := ⟨e.now.t, nxW e.now.t e.now.p.toNat⟩ }) rfl hn hmk.2 rfl rfl
    rw [q] at c
    exact c
  by_cases k9 : a = 9
  · subst k9
    have c := do_edit e ({ e with now := rplS e.now (e.now.p.toNat - 1) e.now.p.toNat [] }) L 9 x f (by omega) (by omega) h rfl rfl (act9_fn e h L x hx)
    have q : tailE e ({ e with now := rplS e.now (e.now.p.toNat - 1) e.now.p.toNat [] }) 9 = { actR e 9 x L with last := 9 } := tail_edt h _ 9
    rw [q] at c
    exact c
  by_cases k10 : a = 10
  · subst k10
    have c := do_edit e ({ e with now := rplS e.now e.now.p.toNat (min e.now.t.length (e.now.p.toNat + 1)) [] }) L 10 x f (by omega) (by omega) h rfl rfl (act10_fn e h L x hx)
    have q : tailE e ({ e with now := rplS e.now e.now.p.toNat (min e.now.t.length (e.now.p.toNat + 1)) [] }) 10 = { actR e 10 x L with last := 10 } := tail_edt h _ 10
    rw [q] at c
    exact c
  by_cases k11 : a = 11
  · subst k11
    have c := do_edit e (kilE e e.now.p.toNat e.now.t.length 11) L 11 x f (by omega) (by omega) h (kilE_ur _ _ _ _).1 (kilE_ur _ _ _ _).2 (act11_fn e h L x hx)
    have q : tailE e (kilE e e.now.p.toNat e.now.t.length 11) 11 = { actR e 11 x L with last := 11 } := tail_kil h (by omega) (by omega) 11
    rw [q] at c
    exact c
  by_cases k12 : a = 12
  · subst k12
    have c := do_edit e (kilE e 0 e.now.p.toNat 12) L 12 x f (by omega) (by omega) h (kilE_ur _ _ _ _).1 (kilE_ur _ _ _ _).2 (act12_fn e h L x hx)
    have q : tailE e (kilE e 0 e.now.p.toNat 12) 12 = { actR e 12 x L with last := 12 } := tail_kil h (by omega) (by omega) 12
    rw [q] at c
    exact c
  by_cases k13 : a = 13
  · subst k13
    have c := do_edit e (kilE e e.now.p.toNat (nxW e.now.t e.now.p.toNat) 13) L 13 x f (by omega) (by omega) h (kilE_ur _ _ _ _).1 (kilE_ur _ _ _ _).2 (act13_fn e h L x hx)
    have q : tailE e (kilE e e.now.p.toNat (nxW e.now.t e.now.p.toNat) 13) 13 = { actR e 13 x L with last := 13 } := tail_kil h (nxW_le _ _ (by omega)).1 (nxW_le _ _ (by omega)).2 13
    rw [q] at c
    exact c
  by_cases k14 : a = 14
  · subst k14
    have c := do_edit e (kilE e (lsW e.now.t e.now.p.toNat) e.now.p.toNat 14) L 14 x f (by omega) (by omega) h (kilE_ur _ _ _ _).1 (kilE_ur _ _ _ _).2 (act14_fn e h L x hx)
    have q : tailE e (kilE e (lsW e.now.t e.now.p.toNat) e.now.p.toNat 14) 14 = { actR e 14 x L with last := 14 } := tail_kil h (lsW_le _ _) (by omega) 14
    rw [q] at c
    exact c
  by_cases k15 : a = 15
  · subst k15
    have c := do_edit e (yankE e) L 15 x f (by omega) (by omega) h (yankE_ur _).1 (yankE_ur _).2 (act15_fn e h L x hx)
    have q : tailE e (yankE e) 15 = { actR e 15 x L with last := 15 } := tail_yank h x L
    rw [q] at c
    exact c
  by_cases k16 : a = 16
  · subst k16
    have c := do_edit e (rotE e) L 16 x f (by omega) (by omega) h (rotE_ur _).1 (rotE_ur _).2 (act16_fn e h L x hx)
    have q : tailE e (rotE e) 16 = { actR e 16 x L with last := 16 } := tail_rot h
    rw [q] at c
    exact c
  by_cases k17 : a = 17
  · subst k17
    have c := do_res e (bakE e) L 17 x f (by omega) h (act17_fn e h L x hL hl)
    have q : tailD e (bakE e) 17 = { actR e 17 x L with last := 17 } := tail_bak h
    rw [q] at c
    exact c
  by_cases k18 : a = 18
  · subst k18
    have c := do_res e (fwdE e) L 18 x f (by omega) h (act18_fn e h L x hL hl)
    have q : tailD e (fwdE e) 18 = { actR e 18 x L with last := 18 } := tail_fwd h
    rw [q] at c
    exact c
  by_cases k19 : a = 19
  · subst k19
    have c := do_edit e (trnE e) L 19 x f (by omega) (by omega) h (trnE_ur _).1 (trnE_ur _).2 (act19_fn e h L x hx)
    have q : tailE e (trnE e) 19 = { actR e 19 x L with last := 19 } := tail_trn h
    rw [q] at c
    exact c
  by_cases k20 : a = 20
  · subst k20
    have c := do_res e (upE e L) L 20 x f (by omega) h (act20_fn e h L x hL hl)
    have q : tailD e (upE e L) 20 = { actR e 20 x L with last := 20 } := tail_up h L
    rw [q] at c
    exact c
  by_cases k21 : a = 21
  · subst k21
    have c := do_res e (dwE e L) L 21 x f (by omega) h (act21_fn e h L x hL hl)
    have q : tailD e (dwE e L) 21 = { actR e 21 x L with last := 21 } := tail_dw h L
    rw [q] at c
    exact c
  by_cases k22 : a = 22
  · subst k22
    have c := do_edit e (e) L 22 x f (by omega) (by omega) h rfl rfl (act22_fn e h L x hx)
    have q : tailE e (e) 22 = { actR e 22 x L with last := 22 } := tail_same (e := e) (g := e) rfl hn hmk.2 rfl rfl
    rw [q] at c
    exact c
  by_cases k23 : a = 23
  · subst k23
    have c := do_edit e ({ e with now := rplS e.now e.now.p.toNat (min e.now.t.length (e.now.p.toNat + 1)) [] }) L 23 x f (by omega) (by omega) h rfl rfl (act23_fn e h L x hx)
    have q : tailE e ({ e with now := rplS e.now e.now.p.toNat (min e.now.t.length (e.now.p.toNat + 1)) [] }) 23 = { actR e 23 x L with last := 23 } := tail_edt h _ 23
    rw [q] at c
    exact c
  by_cases k24 : a = 24
  · subst k24
    have c := do_edit e (e) L 24 x f (by omega) (by omega) h rfl rfl (act24_fn e h L x hx)
    have q : tailE e (e) 24 = { actR e 24 x L with last := 24 } := tail_same (e := e) (g := e) rfl hn hmk.2 rfl rfl
    rw [q] at c
    exact c
  by_cases k25 : a = 25
  · subst k25
    have c := do_edit e ({ e with mark := e.now.p }) L 25 x f (by omega) (by omega) h rfl rfl (act25_fn e h L x hx)
    have q : tailE e ({ e with mark := e.now.p }) 25 = { actR e 25 x L with last := 25 } := tail_same (e := e) (g := { e with mark := e.now.p }) rfl hn hn3 rfl rfl
    rw [q] at c
    exact c
  by_cases k26 : a = 26
  · subst k26
    have c := do_edit e ({ e with now := ⟨e.now.t, e.mark⟩, mark := e.now.p }) L 26 x f (by omega) (by omega) h rfl rfl (act26_fn e h L x hx)
    have q : tailE e ({ e with now := ⟨e.now.t, e.mark⟩, mark := e.now.p }) 26 = { actR e 26 x L with last := 26 } := tail_same (e := e) (g := { e with now := ⟨e.now.t, e.mark⟩, mark := e.now.p }) rfl hn hn3 rfl rfl
    rw [q] at c
    exact c
  by_cases k27 : a = 27
  · subst k27
    have c := do_edit e (ltrE e upC) L 27 x f (by omega) (by omega) h rfl rfl (act27_fn e h L x hx)
    have q : tailE e (ltrE e upC) 27 = { actR e 27 x L with last := 27 } := tail_edt h _ 27
    rw [q] at c
    exact c
  by_cases k28 : a = 28
  · subst k28
    have c := do_edit e (ltrE e loC) L 28 x f (by omega) (by omega) h rfl rfl (act28_fn e h L x hx)
    have q : tailE e (ltrE e loC) 28 = { actR e 28 x L with last := 28 } := tail_edt h _ 28
    rw [q] at c
    exact c
  omega
end Go.Proofs.Ytapmolfpkhfpgaa
