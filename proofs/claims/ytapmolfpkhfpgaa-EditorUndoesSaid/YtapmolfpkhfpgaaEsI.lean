/- The editor: Key of both, on the abstract machine. -/
import Derived.Test.YtapmolfpkhfpgaaEsH
namespace Go.Proofs.Ytapmolfpkhfpgaa
open Go.RowKit
set_option linter.unusedVariables false
set_option linter.unusedSimpArgs false
set_option maxRecDepth 100000
set_option maxHeartbeats 8000000
theorem copied_ab (e : Er) (hK : e.kills.length ≤ 100000) (hU : e.undo.length ≤ 100000) (hR : e.redo.length ≤ 100000) : Ab Try.prog 27 [erA e] (erA e) := by
  have c1 := kclone_fn e.kills hK
  have c2 := uclone_fn e.undo hU
  have c3 := rclone_fn e.redo hR
  obtain ⟨⟨t, z⟩, m, K, U, R, ks, la, li, sd⟩ := e
  simp only at hK hU hR c1 c2 c3
  simp only [erA, erC]
  refine Fn_of_aw (keep := []) Try.func27 rfl rfl (by simp [Try.ntmps27]) ?_
  simp only [num_cons, num_nil, Try.ntmps27, Try.results27]
  repeat' (first
 | ((with_reducible apply awO_ev); (· rfl); (· exact sv))
 | ((with_reducible apply aw_seq); intro _ _)
 | (with_reducible apply aw_region)
 | ((first | (with_reducible apply awO_nil) | (with_reducible apply aw_exit) | (with_reducible apply aw_skip) | (with_reducible apply aw_ret)); (try simp only [CT, ↓reduceIte, Nat.reduceEqDiff]))
 | (refine Kont.go ‹Kont _ _ _ _› _ ?_)
 | ((with_reducible apply awO_m); (· rfl); (· rfl); (· exact sv); (· (first | exact c1 | exact c2 | exact c3)); (· exact svq); (· exact svq); (· exact svq); (· exact svq); (· rfl); (· exact nd); (with_reducible apply awO_st); (· exact svs))
 | ((with_reducible apply retQ_mk); (· (first | exact .inr rfl | exact .inl rfl)); (· exact sv); (· exact sv); rotate_left; (· rfl)))
  all_goals rfl
theorem key_ab (e : Er) (B : List Bi) (k : UInt8) (L : List (List UInt8)) (f : Int) (h : okEr e) (hB : B.length ≤ 9000000000000000) (hk : ∀ i (h : i < B.length), B[i].k.length ≤ 9000000000000000) (hL : L.length ≤ 9000000000000000) (hl : ∀ s ∈ L, s.length ≤ 9000000000000000) :
    Ab Try.prog 18 [erA e, biA B, au k, hsA f L] (.tp [erA (keyR e B k L).1, ai (keyR e B k L).2]) := by
  have hu := h.nu
  have hr := h.nr
  have hkk := h.nk
  have hks := h.keys
  have hkb := UInt8.toNat_lt k
  have h1 : okEr { e with keys := [] } := { h with keys := by simp }
  have c1 := valid_ab e (by omega) (by omega) (by omega)
  rw [(vdR_ok e).2 h] at c1
  have c2 := copied_ab e (by omega) (by omega) (by omega)
  have c3 := find_ab B (e.keys ++ [k]) hB hk (by simp; omega)
  have c4 := do_ab { e with keys := [] } L (fnA B (e.keys ++ [k])) (e.keys ++ [k]) f h1 (by simp; omega) hL hl
  have c5 := do_ab { e with keys := [] } L 1 (e.keys ++ [k]) f h1 (by simp; omega) hL hl
  have hM : fnM B (e.keys ++ [k]) = 0 ∨ fnM B (e.keys ++ [k]) = 1 := by unfold fnM; split <;> simp
  unfold keyR
  simp only
  generalize doR { e with keys := [] } (fnA B (e.keys ++ [k])) (e.keys ++ [k]) L = r at *
  generalize doR { e with keys := [] } 1 (e.keys ++ [k]) L = r1 at *
  generalize fnA B (e.keys ++ [k]) = n at *
  generalize fnM B (e.keys ++ [k]) = q at *
  clear h h1
  obtain ⟨⟨t, z⟩, m, K, U, R, ks, la, li, sd⟩ := e
  simp only at hu hr hkk hks
  simp only [erA, erC, hsA, List.length_append, List.length_cons, List.length_nil] at c1 c2 c3 c4 c5 ⊢
  have hne : ¬ (t ≠ [] ∧ t = []) := fun h => h.1 h.2
  have hlen : (ks ++ [k]).length = ks.length + 1 := by simp
  rcases hM with rfl | rfl
  case inr =>
    rw [if_pos rfl]
    refine Fn_of_aw (keep := []) Try.func18 rfl rfl (by simp [Try.ntmps18]) ?_
    simp only [num_cons, num_nil, Try.ntmps18, Try.results18]
    repeat' (first
 | ((with_reducible apply awO_ev); (· rfl); (· exact sv))
 | ((with_reducible apply aw_seq); intro _ _)
 | (with_reducible apply aw_region)
 | ((first | (with_reducible apply awO_nil) | (with_reducible apply aw_exit) | (with_reducible apply aw_skip) | (with_reducible apply aw_ret)); (try simp only [CT, ↓reduceIte, Nat.reduceEqDiff]))
 | ((with_reducible apply aw_cond_true); (· exact sv))
 | ((with_reducible apply aw_cond_false); (· exact sv))
 | (refine Kont.go ‹Kont _ _ _ _› _ ?_)
 | ((with_reducible apply awO_c); (· rfl); (· rfl); (· exact sv); (· (first | exact c1 | exact c2 | exact c3 | exact c4 | exact c5)); (· rfl); (· rfl); (· rfl); (· decide))
 | ((with_reducible apply retQ_mk); (· (first | exact .inr rfl | exact .inl rfl)); (· exact sv); (· exact sv); rotate_left; (· rfl)))
    all_goals (first | rfl | (exfalso; omega) | exact absurd (by assumption) hne | exact absurd rfl (by assumption))
  rw [if_neg (by omega)]
  by_cases k2 : n = 2 ∨ n = 24 ∨ n = 22
  · rw [if_pos (by rcases k2 with h | h | h <;> simp [h])]
    rcases k2 with rfl | rfl | rfl
    · skip
      refine Fn_of_aw (keep := []) Try.func18 rfl rfl (by simp [Try.ntmps18]) ?_
      simp only [num_cons, num_nil, Try.ntmps18, Try.results18]
      repeat' (first
 | ((with_reducible apply awO_ev); (· rfl); (· exact sv))
 | ((with_reducible apply aw_seq); intro _ _)
 | (with_reducible apply aw_region)
 | (with_reducible apply aw_block)
 | ((first | (with_reducible apply awO_nil) | (with_reducible apply aw_exit) | (with_reducible apply aw_skip) | (with_reducible apply aw_ret)); (try simp only [CT, ↓reduceIte, Nat.reduceEqDiff]))
 | ((with_reducible apply aw_cond_true); (· exact sv))
 | ((with_reducible apply aw_cond_false); (· exact sv))
 | (refine Kont.go ‹Kont _ _ _ _› _ ?_)
 | ((with_reducible apply awO_c); (· rfl); (· rfl); (· exact sv); (· (first | exact c1 | exact c2 | exact c3 | exact c4 | exact c5)); (· rfl); (· rfl); (· rfl); (· decide))
 | ((with_reducible apply retQ_mk); (· (first | exact .inr rfl | exact .inl rfl)); (· exact sv); (· exact sv); rotate_left; (· rfl)))
      all_goals (first | rfl | (exfalso; omega) | exact absurd (by assumption) hne | exact absurd rfl (by assumption))
    · skip
      refine Fn_of_aw (keep := []) Try.func18 rfl rfl (by simp [Try.ntmps18]) ?_
      simp only [num_cons, num_nil, Try.ntmps18, Try.results18]
      repeat' (first
 | ((with_reducible apply awO_ev); (· rfl); (· exact sv))
 | ((with_reducible apply aw_seq); intro _ _)
 | (with_reducible apply aw_region)
 | (with_reducible apply aw_block)
 | ((first | (with_reducible apply awO_nil) | (with_reducible apply aw_exit) | (with_reducible apply aw_skip) | (with_reducible apply aw_ret)); (try simp only [CT, ↓reduceIte, Nat.reduceEqDiff]))
 | ((with_reducible apply aw_cond_true); (· exact sv))
 | ((with_reducible apply aw_cond_false); (· exact sv))
 | (refine Kont.go ‹Kont _ _ _ _› _ ?_)
 | ((with_reducible apply awO_c); (· rfl); (· rfl); (· exact sv); (· (first | exact c1 | exact c2 | exact c3 | exact c4 | exact c5)); (· rfl); (· rfl); (· rfl); (· decide))
 | ((with_reducible apply retQ_mk); (· (first | exact .inr rfl | exact .inl rfl)); (· exact sv); (· exact sv); rotate_left; (· rfl)))
      all_goals (first | rfl | (exfalso; omega) | exact absurd (by assumption) hne | exact absurd rfl (by assumption))
    · skip
      refine Fn_of_aw (keep := []) Try.func18 rfl rfl (by simp [Try.ntmps18]) ?_
      simp only [num_cons, num_nil, Try.ntmps18, Try.results18]
      repeat' (first
 | ((with_reducible apply awO_ev); (· rfl); (· exact sv))
 | ((with_reducible apply aw_seq); intro _ _)
 | (with_reducible apply aw_region)
 | (with_reducible apply aw_block)
 | ((first | (with_reducible apply awO_nil) | (with_reducible apply aw_exit) | (with_reducible apply aw_skip) | (with_reducible apply aw_ret)); (try simp only [CT, ↓reduceIte, Nat.reduceEqDiff]))
 | ((with_reducible apply aw_cond_true); (· exact sv))
 | ((with_reducible apply aw_cond_false); (· exact sv))
 | (refine Kont.go ‹Kont _ _ _ _› _ ?_)
 | ((with_reducible apply awO_c); (· rfl); (· rfl); (· exact sv); (· (first | exact c1 | exact c2 | exact c3 | exact c4 | exact c5)); (· rfl); (· rfl); (· rfl); (· decide))
 | ((with_reducible apply retQ_mk); (· (first | exact .inr rfl | exact .inl rfl)); (· exact sv); (· exact sv); rotate_left; (· rfl)))
      all_goals (first | rfl | (exfalso; omega) | exact absurd (by assumption) hne | exact absurd rfl (by assumption))
  by_cases k3 : n = 23
  · subst k3
    by_cases k4 : t = []
    · subst k4
      rw [if_pos (by simp)]
      refine Fn_of_aw (keep := []) Try.func18 rfl rfl (by simp [Try.ntmps18]) ?_
      simp only [num_cons, num_nil, Try.ntmps18, Try.results18]
      repeat' (first
 | ((with_reducible apply awO_ev); (· rfl); (· exact sv))
 | ((with_reducible apply aw_seq); intro _ _)
 | (with_reducible apply aw_region)
 | (with_reducible apply aw_block)
 | ((first | (with_reducible apply awO_nil) | (with_reducible apply aw_exit) | (with_reducible apply aw_skip) | (with_reducible apply aw_ret)); (try simp only [CT, ↓reduceIte, Nat.reduceEqDiff]))
 | ((with_reducible apply awO_y); (· rfl); (· rfl); (· decide); (· exact sv); (· exact sv))
 | ((with_reducible apply aw_cond_true); (· exact sv))
 | ((with_reducible apply aw_cond_false); (· exact sv))
 | (refine Kont.go ‹Kont _ _ _ _› _ ?_)
 | ((with_reducible apply awO_c); (· rfl); (· rfl); (· exact sv); (· (first | exact c1 | exact c2 | exact c3 | exact c4 | exact c5)); (· rfl); (· rfl); (· rfl); (· decide))
 | ((with_reducible apply retQ_mk); (· (first | exact .inr rfl | exact .inl rfl)); (· exact sv); (· exact sv); rotate_left; (· rfl)))
      all_goals (first | rfl | (exfalso; omega) | exact absurd (by assumption) hne | exact absurd rfl (by assumption))
    · have hne := k4
      have hne2 : t.length ≠ 0 := fun e => k4 (List.eq_nil_of_length_eq_zero e)
      rw [if_neg (by simp [k4]), if_pos (by omega)]
      refine Fn_of_aw (keep := []) Try.func18 rfl rfl (by simp [Try.ntmps18]) ?_
      simp only [num_cons, num_nil, Try.ntmps18, Try.results18]
      repeat' (first
 | ((with_reducible apply awO_ev); (· rfl); (· exact sv))
 | ((with_reducible apply aw_seq); intro _ _)
 | (with_reducible apply aw_region)
 | (with_reducible apply aw_block)
 | ((first | (with_reducible apply awO_nil) | (with_reducible apply aw_exit) | (with_reducible apply aw_skip) | (with_reducible apply aw_ret)); (try simp only [CT, ↓reduceIte, Nat.reduceEqDiff]))
 | ((with_reducible apply awO_y); (· rfl); (· rfl); (· decide); (· exact sv); (· exact sv))
 | ((with_reducible apply aw_cond_true); (· exact sv))
 | ((with_reducible apply aw_cond_false); (· exact sv))
 | (refine Kont.go ‹Kont _ _ _ _› _ ?_)
 | ((with_reducible apply awO_c); (· rfl); (· rfl); (· exact sv); (· (first | exact c1 | exact c2 | exact c3 | exact c4 | exact c5)); (· rfl); (· rfl); (· rfl); (· decide))
 | ((first | ((with_reducible apply awO_guard); (· rfl); (· rfl); (· exact sv)) | ((with_reducible apply aw_cond); (· exact sv))); all_goals (intro hg; (try simp only [Bool.not_true, Bool.not_false]); (try simp only [decide_eq_true_eq, decide_eq_false_iff_not, Bool.not_true, Bool.not_false, Bool.not_eq_true', Bool.not_eq_false', Bool.not_not, beq_eq_false_iff_ne, ne_eq, beq_iff_eq, decide_eq_decide] at hg); try (exfalso; omega)))
 | ((with_reducible apply retQ_mk); (· (first | exact .inr rfl | exact .inl rfl)); (· exact sv); (· exact sv); rotate_left; (· rfl)))
      all_goals (first | rfl | (exfalso; omega) | exact absurd (by assumption) hne | exact absurd rfl (by assumption) | exact absurd (List.eq_nil_of_length_eq_zero (by assumption)) hne)
  rw [if_neg (by omega)]
  by_cases k5 : n = 0
  · subst k5
    rw [if_neg (by simp)]
    by_cases k6 : ks.length + (0 + 1) = 1 ∧ 32 ≤ k.toNat ∧ k.toNat ≠ 127
    · rw [if_pos k6]
      obtain ⟨k7, k8, k9⟩ := k6
      refine Fn_of_aw (keep := []) Try.func18 rfl rfl (by simp [Try.ntmps18]) ?_
      simp only [num_cons, num_nil, Try.ntmps18, Try.results18]
      repeat' (first
 | ((with_reducible apply awO_ev); (· rfl); (· exact sv))
 | ((with_reducible apply aw_seq); intro _ _)
 | (with_reducible apply aw_region)
 | (with_reducible apply aw_block)
 | ((first | (with_reducible apply awO_nil) | (with_reducible apply aw_exit) | (with_reducible apply aw_skip) | (with_reducible apply aw_ret)); (try simp only [CT, ↓reduceIte, Nat.reduceEqDiff]))
 | ((with_reducible apply awO_y); (· rfl); (· rfl); (· decide); (· exact sv); (· exact sv))
 | ((with_reducible apply awO_n); (· rfl); (· rfl); (· decide); (· exact sv); (· rfl); (· rfl); (· decide))
 | ((with_reducible apply aw_cond_false); (· exact sv))
 | (refine Kont.go ‹Kont _ _ _ _› _ ?_)
 | ((with_reducible apply awO_c); (· rfl); (· rfl); (· exact sv); (· (first | exact c1 | exact c2 | exact c3 | exact c4 | exact c5)); (· rfl); (· rfl); (· rfl); (· decide))
 | ((first | ((with_reducible apply awO_guard); (· rfl); (· rfl); (· exact sv)) | ((with_reducible apply aw_cond); (· exact sv))); all_goals (intro hg; (try simp only [Bool.not_true, Bool.not_false]); (try simp only [decide_eq_true_eq, decide_eq_false_iff_not, Bool.not_true, Bool.not_false, Bool.not_eq_true', Bool.not_eq_false', Bool.not_not, beq_eq_false_iff_ne, ne_eq, beq_iff_eq, decide_eq_decide] at hg); try (exfalso; omega)))
 | ((with_reducible apply retQ_mk); (· (first | exact .inr rfl | exact .inl rfl)); (· exact sv); (· exact sv); rotate_left; (· rfl)))
      all_goals (first | rfl | (exfalso; omega) | exact absurd (by assumption) hne | exact absurd rfl (by assumption))
    · rw [if_neg k6]
      refine Fn_of_aw (keep := []) Try.func18 rfl rfl (by simp [Try.ntmps18]) ?_
      simp only [num_cons, num_nil, Try.ntmps18, Try.results18]
      repeat' (first
 | ((with_reducible apply awO_ev); (· rfl); (· exact sv))
 | ((with_reducible apply aw_seq); intro _ _)
 | (with_reducible apply aw_region)
 | (with_reducible apply aw_block)
 | ((first | (with_reducible apply awO_nil) | (with_reducible apply aw_exit) | (with_reducible apply aw_skip) | (with_reducible apply aw_ret)); (try simp only [CT, ↓reduceIte, Nat.reduceEqDiff]))
 | ((with_reducible apply awO_y); (· rfl); (· rfl); (· decide); (· exact sv); (· exact sv))
 | ((with_reducible apply awO_n); (· rfl); (· rfl); (· decide); (· exact sv); (· rfl); (· rfl); (· decide))
 | ((with_reducible apply aw_cond_false); (· exact sv))
 | (refine Kont.go ‹Kont _ _ _ _› _ ?_)
 | ((with_reducible apply awO_c); (· rfl); (· rfl); (· exact sv); (· (first | exact c1 | exact c2 | exact c3 | exact c4 | exact c5)); (· rfl); (· rfl); (· rfl); (· decide))
 | ((first | ((with_reducible apply awO_guard); (· rfl); (· rfl); (· exact sv)) | ((with_reducible apply aw_cond); (· exact sv))); all_goals (intro hg; (try simp only [Bool.not_true, Bool.not_false]); (try simp only [decide_eq_true_eq, decide_eq_false_iff_not, Bool.not_true, Bool.not_false, Bool.not_eq_true', Bool.not_eq_false', Bool.not_not, beq_eq_false_iff_ne, ne_eq, beq_iff_eq, decide_eq_decide] at hg); try (exfalso; omega)))
 | ((with_reducible apply retQ_mk); (· (first | exact .inr rfl | exact .inl rfl)); (· exact sv); (· exact sv); rotate_left; (· rfl)))
      all_goals (first | rfl | (exfalso; omega) | exact absurd (by assumption) hne | exact absurd rfl (by assumption))
  · rw [if_pos k5]
    refine Fn_of_aw (keep := []) Try.func18 rfl rfl (by simp [Try.ntmps18]) ?_
    simp only [num_cons, num_nil, Try.ntmps18, Try.results18]
    repeat' (first
 | ((with_reducible apply awO_ev); (· rfl); (· exact sv))
 | ((with_reducible apply aw_seq); intro _ _)
 | (with_reducible apply aw_region)
 | (with_reducible apply aw_block)
 | ((first | (with_reducible apply awO_nil) | (with_reducible apply aw_exit) | (with_reducible apply aw_skip) | (with_reducible apply aw_ret)); (try simp only [CT, ↓reduceIte, Nat.reduceEqDiff]))
 | ((with_reducible apply awO_n); (· rfl); (· rfl); (· decide); (· exact sv); (· rfl); (· rfl); (· decide))
 | ((with_reducible apply aw_cond_false); (· exact sv))
 | (refine Kont.go ‹Kont _ _ _ _› _ ?_)
 | ((with_reducible apply awO_c); (· rfl); (· rfl); (· exact sv); (· (first | exact c1 | exact c2 | exact c3 | exact c4 | exact c5)); (· rfl); (· rfl); (· rfl); (· decide))
 | ((first | ((with_reducible apply awO_guard); (· rfl); (· rfl); (· exact sv)) | ((with_reducible apply aw_cond); (· exact sv))); all_goals (intro hg; (try simp only [Bool.not_true, Bool.not_false]); (try simp only [decide_eq_true_eq, decide_eq_false_iff_not, Bool.not_true, Bool.not_false, Bool.not_eq_true', Bool.not_eq_false', Bool.not_not, beq_eq_false_iff_ne, ne_eq, beq_iff_eq, decide_eq_decide] at hg); try (exfalso; omega)))
 | ((with_reducible apply retQ_mk); (· (first | exact .inr rfl | exact .inl rfl)); (· exact sv); (· exact sv); rotate_left; (· rfl)))
    all_goals (first | rfl | (exfalso; omega) | exact absurd (by assumption) hne | exact absurd rfl (by assumption))
theorem rkey_ab (e : Er) (B : List Bi) (k : UInt8) (L : List (List UInt8)) (f : Int) (h : okEr e) (hB : B.length ≤ 9000000000000000) (hk : ∀ i (h : i < B.length), B[i].k.length ≤ 9000000000000000) (hL : L.length ≤ 9000000000000000) (hl : ∀ s ∈ L, s.length ≤ 9000000000000000) :
    Ab Try.prog 19 [erA e, biA B, au k, hsA f L] (.tp [erA (keyR e B k L).1, ai (keyR e B k L).2]) := by
  have hu := h.nu
  have hr := h.nr
  have hkk := h.nk
  have hks := h.keys
  have hkb := UInt8.toNat_lt k
  have h1 : okEr { e with keys := [] } := { h with keys := by simp }
  have c3 := rfind_ab B (e.keys ++ [k]) hB hk (by simp; omega)
  have c4 := rdo_ab { e with keys := [] } L (fnA B (e.keys ++ [k])) (e.keys ++ [k]) f h1 (by simp; omega) hL
  have c5 := rdo_ab { e with keys := [] } L 1 (e.keys ++ [k]) f h1 (by simp; omega) hL
  have hM : fnM B (e.keys ++ [k]) = 0 ∨ fnM B (e.keys ++ [k]) = 1 := by unfold fnM; split <;> simp
  unfold keyR
  simp only
  generalize doR { e with keys := [] } (fnA B (e.keys ++ [k])) (e.keys ++ [k]) L = r at *
  generalize doR { e with keys := [] } 1 (e.keys ++ [k]) L = r1 at *
  generalize fnA B (e.keys ++ [k]) = n at *
  generalize fnM B (e.keys ++ [k]) = q at *
  clear h h1
  obtain ⟨⟨t, z⟩, m, K, U, R, ks, la, li, sd⟩ := e
  simp only at hu hr hkk hks
  simp only [erA, erC, hsA, List.length_append, List.length_cons, List.length_nil] at c3 c4 c5 ⊢
  have hne : ¬ (t ≠ [] ∧ t = []) := fun h => h.1 h.2
  have hlen : (ks ++ [k]).length = ks.length + 1 := by simp
  rcases hM with rfl | rfl
  case inr =>
    rw [if_pos rfl]
    refine Fn_of_aw (keep := []) Try.func19 rfl rfl (by simp [Try.ntmps19]) ?_
    simp only [num_cons, num_nil, Try.ntmps19, Try.results19]
    repeat' (first
 | ((with_reducible apply awO_ev); (· rfl); (· exact sv))
 | ((with_reducible apply aw_seq); intro _ _)
 | (with_reducible apply aw_region)
 | ((first | (with_reducible apply awO_nil) | (with_reducible apply aw_exit) | (with_reducible apply aw_skip) | (with_reducible apply aw_ret)); (try simp only [CT, ↓reduceIte, Nat.reduceEqDiff]))
 | ((with_reducible apply aw_cond_true); (· exact sv))
 | (refine Kont.go ‹Kont _ _ _ _› _ ?_)
 | ((with_reducible apply awO_c); (· rfl); (· rfl); (· exact sv); (· (first | exact c3 | exact c4 | exact c5)); (· rfl); (· rfl); (· rfl); (· decide))
 | ((with_reducible apply retQ_mk); (· (first | exact .inr rfl | exact .inl rfl)); (· exact sv); (· exact sv); rotate_left; (· rfl)))
    all_goals (first | rfl | (exfalso; omega) | exact absurd (by assumption) hne | exact absurd rfl (by assumption))
  rw [if_neg (by omega)]
  by_cases k2 : n = 2 ∨ n = 24 ∨ n = 22
  · rw [if_pos (by rcases k2 with h | h | h <;> simp [h])]
    rcases k2 with rfl | rfl | rfl
    · skip
      refine Fn_of_aw (keep := []) Try.func19 rfl rfl (by simp [Try.ntmps19]) ?_
      simp only [num_cons, num_nil, Try.ntmps19, Try.results19]
      repeat' (first
 | ((with_reducible apply awO_ev); (· rfl); (· exact sv))
 | ((with_reducible apply aw_seq); intro _ _)
 | (with_reducible apply aw_region)
 | ((first | (with_reducible apply awO_nil) | (with_reducible apply aw_exit) | (with_reducible apply aw_skip) | (with_reducible apply aw_ret)); (try simp only [CT, ↓reduceIte, Nat.reduceEqDiff]))
 | ((with_reducible apply awO_n); (· rfl); (· rfl); (· decide); (· exact sv); (· rfl); (· rfl); (· decide))
 | ((with_reducible apply awO_u); (· rfl); (· rfl); (· exact svr); (· rfl); (· decide))
 | ((with_reducible apply aw_cond_true); (· exact sv))
 | ((with_reducible apply aw_cond_false); (· exact sv))
 | (refine Kont.go ‹Kont _ _ _ _› _ ?_)
 | ((with_reducible apply awO_c); (· rfl); (· rfl); (· exact sv); (· (first | exact c3 | exact c4 | exact c5)); (· rfl); (· rfl); (· rfl); (· decide))
 | ((with_reducible apply retQ_mk); (· (first | exact .inr rfl | exact .inl rfl)); (· exact sv); (· exact sv); rotate_left; (· rfl)))
      all_goals (first | rfl | (exfalso; omega) | exact absurd (by assumption) hne | exact absurd rfl (by assumption))
    · skip
      refine Fn_of_aw (keep := []) Try.func19 rfl rfl (by simp [Try.ntmps19]) ?_
      simp only [num_cons, num_nil, Try.ntmps19, Try.results19]
      repeat' (first
 | ((with_reducible apply awO_ev); (· rfl); (· exact sv))
 | ((with_reducible apply aw_seq); intro _ _)
 | (with_reducible apply aw_region)
 | ((first | (with_reducible apply awO_nil) | (with_reducible apply aw_exit) | (with_reducible apply aw_skip) | (with_reducible apply aw_ret)); (try simp only [CT, ↓reduceIte, Nat.reduceEqDiff]))
 | ((with_reducible apply awO_y); (· rfl); (· rfl); (· decide); (· exact sv); (· exact sv))
 | ((with_reducible apply awO_n); (· rfl); (· rfl); (· decide); (· exact sv); (· rfl); (· rfl); (· decide))
 | ((with_reducible apply awO_u); (· rfl); (· rfl); (· exact svr); (· rfl); (· decide))
 | ((with_reducible apply aw_cond_true); (· exact sv))
 | ((with_reducible apply aw_cond_false); (· exact sv))
 | (refine Kont.go ‹Kont _ _ _ _› _ ?_)
 | ((with_reducible apply awO_c); (· rfl); (· rfl); (· exact sv); (· (first | exact c3 | exact c4 | exact c5)); (· rfl); (· rfl); (· rfl); (· decide))
 | ((with_reducible apply retQ_mk); (· (first | exact .inr rfl | exact .inl rfl)); (· exact sv); (· exact sv); rotate_left; (· rfl)))
      all_goals (first | rfl | (exfalso; omega) | exact absurd (by assumption) hne | exact absurd rfl (by assumption))
    · skip
      refine Fn_of_aw (keep := []) Try.func19 rfl rfl (by simp [Try.ntmps19]) ?_
      simp only [num_cons, num_nil, Try.ntmps19, Try.results19]
      repeat' (first
 | ((with_reducible apply awO_ev); (· rfl); (· exact sv))
 | ((with_reducible apply aw_seq); intro _ _)
 | (with_reducible apply aw_region)
 | ((first | (with_reducible apply awO_nil) | (with_reducible apply aw_exit) | (with_reducible apply aw_skip) | (with_reducible apply aw_ret)); (try simp only [CT, ↓reduceIte, Nat.reduceEqDiff]))
 | ((with_reducible apply awO_y); (· rfl); (· rfl); (· decide); (· exact sv); (· exact sv))
 | ((with_reducible apply awO_n); (· rfl); (· rfl); (· decide); (· exact sv); (· rfl); (· rfl); (· decide))
 | ((with_reducible apply awO_u); (· rfl); (· rfl); (· exact svr); (· rfl); (· decide))
 | ((with_reducible apply aw_cond_true); (· exact sv))
 | ((with_reducible apply aw_cond_false); (· exact sv))
 | (refine Kont.go ‹Kont _ _ _ _› _ ?_)
 | ((with_reducible apply awO_c); (· rfl); (· rfl); (· exact sv); (· (first | exact c3 | exact c4 | exact c5)); (· rfl); (· rfl); (· rfl); (· decide))
 | ((with_reducible apply retQ_mk); (· (first | exact .inr rfl | exact .inl rfl)); (· exact sv); (· exact sv); rotate_left; (· rfl)))
      all_goals (first | rfl | (exfalso; omega) | exact absurd (by assumption) hne | exact absurd rfl (by assumption))
  by_cases k3 : n = 23
  · subst k3
    by_cases k4 : t = []
    · subst k4
      rw [if_pos (by simp)]
      refine Fn_of_aw (keep := []) Try.func19 rfl rfl (by simp [Try.ntmps19]) ?_
      simp only [num_cons, num_nil, Try.ntmps19, Try.results19]
      repeat' (first
 | ((with_reducible apply awO_ev); (· rfl); (· exact sv))
 | ((with_reducible apply aw_seq); intro _ _)
 | (with_reducible apply aw_region)
 | ((first | (with_reducible apply awO_nil) | (with_reducible apply aw_exit) | (with_reducible apply aw_skip) | (with_reducible apply aw_ret)); (try simp only [CT, ↓reduceIte, Nat.reduceEqDiff]))
 | ((with_reducible apply awO_y); (· rfl); (· rfl); (· decide); (· exact sv); (· exact sv))
 | ((with_reducible apply aw_cond_true); (· exact sv))
 | ((with_reducible apply aw_cond_false); (· exact sv))
 | (refine Kont.go ‹Kont _ _ _ _› _ ?_)
 | ((with_reducible apply awO_c); (· rfl); (· rfl); (· exact sv); (· (first | exact c3 | exact c4 | exact c5)); (· rfl); (· rfl); (· rfl); (· decide))
 | ((with_reducible apply retQ_mk); (· (first | exact .inr rfl | exact .inl rfl)); (· exact sv); (· exact sv); rotate_left; (· rfl)))
      all_goals (first | rfl | (exfalso; omega) | exact absurd (by assumption) hne | exact absurd rfl (by assumption))
    · have hne := k4
      have hne2 : t.length ≠ 0 := fun e => k4 (List.eq_nil_of_length_eq_zero e)
      rw [if_neg (by simp [k4]), if_pos (by omega)]
      refine Fn_of_aw (keep := []) Try.func19 rfl rfl (by simp [Try.ntmps19]) ?_
      simp only [num_cons, num_nil, Try.ntmps19, Try.results19]
      repeat' (first
 | ((with_reducible apply awO_ev); (· rfl); (· exact sv))
 | ((with_reducible apply aw_seq); intro _ _)
 | (with_reducible apply aw_region)
 | ((first | (with_reducible apply awO_nil) | (with_reducible apply aw_exit) | (with_reducible apply aw_skip) | (with_reducible apply aw_ret)); (try simp only [CT, ↓reduceIte, Nat.reduceEqDiff]))
 | ((with_reducible apply awO_y); (· rfl); (· rfl); (· decide); (· exact sv); (· exact sv))
 | ((with_reducible apply aw_cond_true); (· exact sv))
 | ((with_reducible apply aw_cond_false); (· exact sv))
 | (refine Kont.go ‹Kont _ _ _ _› _ ?_)
 | ((with_reducible apply awO_c); (· rfl); (· rfl); (· exact sv); (· (first | exact c3 | exact c4 | exact c5)); (· rfl); (· rfl); (· rfl); (· decide))
 | ((first | ((with_reducible apply awO_guard); (· rfl); (· rfl); (· exact sv)) | ((with_reducible apply aw_cond); (· exact sv))); all_goals (intro hg; (try simp only [Bool.not_true, Bool.not_false]); (try simp only [decide_eq_true_eq, decide_eq_false_iff_not, Bool.not_true, Bool.not_false, Bool.not_eq_true', Bool.not_eq_false', Bool.not_not, beq_eq_false_iff_ne, ne_eq, beq_iff_eq, decide_eq_decide] at hg); try (exfalso; omega)))
 | ((with_reducible apply retQ_mk); (· (first | exact .inr rfl | exact .inl rfl)); (· exact sv); (· exact sv); rotate_left; (· rfl)))
      all_goals (first | rfl | (exfalso; omega) | exact absurd (by assumption) hne | exact absurd rfl (by assumption) | exact absurd (List.eq_nil_of_length_eq_zero (by assumption)) hne)
  rw [if_neg (by omega)]
  by_cases k5 : n = 0
  · subst k5
    rw [if_neg (by simp)]
    by_cases k6 : ks.length + (0 + 1) = 1 ∧ 32 ≤ k.toNat ∧ k.toNat ≠ 127
    · rw [if_pos k6]
      obtain ⟨k7, k8, k9⟩ := k6
      refine Fn_of_aw (keep := []) Try.func19 rfl rfl (by simp [Try.ntmps19]) ?_
      simp only [num_cons, num_nil, Try.ntmps19, Try.results19]
      repeat' (first
 | ((with_reducible apply awO_ev); (· rfl); (· exact sv))
 | ((with_reducible apply aw_seq); intro _ _)
 | (with_reducible apply aw_region)
 | ((first | (with_reducible apply awO_nil) | (with_reducible apply aw_exit) | (with_reducible apply aw_skip) | (with_reducible apply aw_ret)); (try simp only [CT, ↓reduceIte, Nat.reduceEqDiff]))
 | ((with_reducible apply awO_y); (· rfl); (· rfl); (· decide); (· exact sv); (· exact sv))
 | ((with_reducible apply awO_n); (· rfl); (· rfl); (· decide); (· exact sv); (· rfl); (· rfl); (· decide))
 | ((with_reducible apply aw_cond_false); (· exact sv))
 | (refine Kont.go ‹Kont _ _ _ _› _ ?_)
 | ((with_reducible apply awO_c); (· rfl); (· rfl); (· exact sv); (· (first | exact c3 | exact c4 | exact c5)); (· rfl); (· rfl); (· rfl); (· decide))
 | ((first | ((with_reducible apply awO_guard); (· rfl); (· rfl); (· exact sv)) | ((with_reducible apply aw_cond); (· exact sv))); all_goals (intro hg; (try simp only [Bool.not_true, Bool.not_false]); (try simp only [decide_eq_true_eq, decide_eq_false_iff_not, Bool.not_true, Bool.not_false, Bool.not_eq_true', Bool.not_eq_false', Bool.not_not, beq_eq_false_iff_ne, ne_eq, beq_iff_eq, decide_eq_decide] at hg); try (exfalso; omega)))
 | ((with_reducible apply retQ_mk); (· (first | exact .inr rfl | exact .inl rfl)); (· exact sv); (· exact sv); rotate_left; (· rfl)))
      all_goals (first | rfl | (exfalso; omega) | exact absurd (by assumption) hne | exact absurd rfl (by assumption))
    · rw [if_neg k6]
      refine Fn_of_aw (keep := []) Try.func19 rfl rfl (by simp [Try.ntmps19]) ?_
      simp only [num_cons, num_nil, Try.ntmps19, Try.results19]
      repeat' (first
 | ((with_reducible apply awO_ev); (· rfl); (· exact sv))
 | ((with_reducible apply aw_seq); intro _ _)
 | (with_reducible apply aw_region)
 | ((first | (with_reducible apply awO_nil) | (with_reducible apply aw_exit) | (with_reducible apply aw_skip) | (with_reducible apply aw_ret)); (try simp only [CT, ↓reduceIte, Nat.reduceEqDiff]))
 | ((with_reducible apply awO_y); (· rfl); (· rfl); (· decide); (· exact sv); (· exact sv))
 | ((with_reducible apply awO_n); (· rfl); (· rfl); (· decide); (· exact sv); (· rfl); (· rfl); (· decide))
 | ((with_reducible apply aw_cond_false); (· exact sv))
 | (refine Kont.go ‹Kont _ _ _ _› _ ?_)
 | ((with_reducible apply awO_c); (· rfl); (· rfl); (· exact sv); (· (first | exact c3 | exact c4 | exact c5)); (· rfl); (· rfl); (· rfl); (· decide))
 | ((first | ((with_reducible apply awO_guard); (· rfl); (· rfl); (· exact sv)) | ((with_reducible apply aw_cond); (· exact sv))); all_goals (intro hg; (try simp only [Bool.not_true, Bool.not_false]); (try simp only [decide_eq_true_eq, decide_eq_false_iff_not, Bool.not_true, Bool.not_false, Bool.not_eq_true', Bool.not_eq_false', Bool.not_not, beq_eq_false_iff_ne, ne_eq, beq_iff_eq, decide_eq_decide] at hg); try (exfalso; omega)))
 | ((with_reducible apply retQ_mk); (· (first | exact .inr rfl | exact .inl rfl)); (· exact sv); (· exact sv); rotate_left; (· rfl)))
      all_goals (first | rfl | (exfalso; omega) | exact absurd (by assumption) hne | exact absurd rfl (by assumption))
  · rw [if_pos k5]
    refine Fn_of_aw (keep := []) Try.func19 rfl rfl (by simp [Try.ntmps19]) ?_
    simp only [num_cons, num_nil, Try.ntmps19, Try.results19]
    repeat' (first
 | ((with_reducible apply awO_ev); (· rfl); (· exact sv))
 | ((with_reducible apply aw_seq); intro _ _)
 | (with_reducible apply aw_region)
 | ((first | (with_reducible apply awO_nil) | (with_reducible apply aw_exit) | (with_reducible apply aw_skip) | (with_reducible apply aw_ret)); (try simp only [CT, ↓reduceIte, Nat.reduceEqDiff]))
 | ((with_reducible apply awO_y); (· rfl); (· rfl); (· decide); (· exact sv); (· exact sv))
 | ((with_reducible apply awO_n); (· rfl); (· rfl); (· decide); (· exact sv); (· rfl); (· rfl); (· decide))
 | ((with_reducible apply aw_cond_false); (· exact sv))
 | (refine Kont.go ‹Kont _ _ _ _› _ ?_)
 | ((with_reducible apply awO_c); (· rfl); (· rfl); (· exact sv); (· (first | exact c3 | exact c4 | exact c5)); (· rfl); (· rfl); (· rfl); (· decide))
 | ((first | ((with_reducible apply awO_guard); (· rfl); (· rfl); (· exact sv)) | ((with_reducible apply aw_cond); (· exact sv))); all_goals (intro hg; (try simp only [Bool.not_true, Bool.not_false]); (try simp only [decide_eq_true_eq, decide_eq_false_iff_not, Bool.not_true, Bool.not_false, Bool.not_eq_true', Bool.not_eq_false', Bool.not_not, beq_eq_false_iff_ne, ne_eq, beq_iff_eq, decide_eq_decide] at hg); try (exfalso; omega)))
 | ((with_reducible apply retQ_mk); (· (first | exact .inr rfl | exact .inl rfl)); (· exact sv); (· exact sv); rotate_left; (· rfl)))
    all_goals (first | rfl | (exfalso; omega) | exact absurd (by assumption) hne | exact absurd rfl (by assumption))
end Go.Proofs.Ytapmolfpkhfpgaa
