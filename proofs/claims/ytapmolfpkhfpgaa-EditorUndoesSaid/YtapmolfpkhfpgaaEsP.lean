/- The law of the editor on undo, on the abstract machine. -/
import Derived.Test.YtapmolfpkhfpgaaEsM
namespace Go.Proofs.Ytapmolfpkhfpgaa
open Go.RowKit
set_option linter.unusedVariables false
set_option linter.unusedSimpArgs false
set_option maxRecDepth 100000
set_option maxHeartbeats 8000000
theorem editorUndoes_ab (e : Er) (a : Int) (x : List UInt8) (f : Int) (L : List (List UInt8)) (h : BigR e) (hx : x.length ≤ 9000000000000000) (hL : L.length ≤ 9000000000000000) (hl : ∀ s ∈ L, s.length ≤ 9000000000000000) :
    Ab Try.prog 7 [erA e, .ag [ai a, az x], hsA f L] (ab true) := by
  have c0 := awake_ab
  have c1 := few_ab e h
  have c2 := lines_ab f L hL hl
  have c3 := rvalid_ab e h.nk h.nu h.nr
  generalize fewR e = b1 at *
  generalize linesB L = b2 at *
  have D : ∃ v, v = vdR e := ⟨_, rfl⟩
  obtain ⟨v, hv⟩ := D
  rw [← hv] at c3
  by_cases hno : b1 = false ∨ b2 = false ∨ 5000 < x.length ∨ v ≠ 0 ∨ a = 17 ∨ a = 18 ∨ a = 20 ∨ a = 21
  · clear hv h
    obtain ⟨⟨t, z⟩, m, K, U, R, ks, la, li, sd⟩ := e
    simp only [erA, erC, hsA] at c1 c2 c3 ⊢
    cases b1 with
    | false =>
      refine Fn_of_aw (keep := []) Try.func7 rfl rfl (by simp [Try.ntmps7]) ?_
      simp only [num_cons, num_nil, Try.ntmps7, Try.results7]
      repeat' (first
 | ((with_reducible apply awO_ev); (· rfl); (· exact sv))
 | ((with_reducible apply aw_seq); intro _ _)
 | (with_reducible apply aw_region)
 | ((first | (with_reducible apply awO_nil) | (with_reducible apply aw_exit) | (with_reducible apply aw_skip) | (with_reducible apply aw_ret)); (try simp only [CT, ↓reduceIte, Nat.reduceEqDiff]))
 | ((with_reducible apply awO_n); (· rfl); (· rfl); (· decide); (· exact sv); (· rfl); (· rfl); (· decide))
 | ((with_reducible apply aw_cond_true); (· exact sv))
 | (refine Kont.go ‹Kont _ _ _ _› _ ?_)
 | ((with_reducible apply awO_c); (· rfl); (· rfl); (· exact sv); (· (first | exact c0 | exact c1)); (· rfl); (· rfl); (· rfl); (· decide))
 | ((with_reducible apply retQ_mk); (· (first | exact .inr rfl | exact .inl rfl)); (· exact sv); (· exact sv); rotate_left; (· rfl)))
      all_goals rfl
    | true =>
      cases b2 with
      | false =>
        refine Fn_of_aw (keep := []) Try.func7 rfl rfl (by simp [Try.ntmps7]) ?_
        simp only [num_cons, num_nil, Try.ntmps7, Try.results7]
        repeat' (first
 | ((with_reducible apply awO_ev); (· rfl); (· exact sv))
 | ((with_reducible apply aw_seq); intro _ _)
 | (with_reducible apply aw_region)
 | ((first | (with_reducible apply awO_nil) | (with_reducible apply aw_exit) | (with_reducible apply aw_skip) | (with_reducible apply aw_ret)); (try simp only [CT, ↓reduceIte, Nat.reduceEqDiff]))
 | ((with_reducible apply awO_y); (· rfl); (· rfl); (· decide); (· exact sv); (· exact sv))
 | ((with_reducible apply awO_n); (· rfl); (· rfl); (· decide); (· exact sv); (· rfl); (· rfl); (· decide))
 | ((with_reducible apply aw_cond_true); (· exact sv))
 | ((with_reducible apply awO_un); (· rfl); (· decide); (· exact sv))
 | (refine Kont.go ‹Kont _ _ _ _› _ ?_)
 | ((with_reducible apply awO_c); (· rfl); (· rfl); (· exact sv); (· (first | exact c0 | exact c1 | exact c2)); (· rfl); (· rfl); (· rfl); (· decide))
 | ((with_reducible apply retQ_mk); (· (first | exact .inr rfl | exact .inl rfl)); (· exact sv); (· exact sv); rotate_left; (· rfl)))
        all_goals rfl
      | true =>
        have hno' : 5000 < x.length ∨ v ≠ 0 ∨ a = 17 ∨ a = 18 ∨ a = 20 ∨ a = 21 := by
          rcases hno with h | h | h
          · cases h
          · cases h
          · exact h
        clear hno
        refine Fn_of_aw (keep := []) Try.func7 rfl rfl (by simp [Try.ntmps7]) ?_
        simp only [num_cons, num_nil, Try.ntmps7, Try.results7]
        repeat' (first
 | ((with_reducible apply awO_ev); (· rfl); (· exact sv))
 | ((with_reducible apply aw_seq); intro _ _)
 | (with_reducible apply aw_region)
 | ((first | (with_reducible apply awO_nil) | (with_reducible apply aw_exit) | (with_reducible apply aw_skip) | (with_reducible apply aw_ret)); (try simp only [CT, ↓reduceIte, Nat.reduceEqDiff]))
 | ((with_reducible apply awO_y); (· rfl); (· rfl); (· decide); (· exact sv); (· exact sv))
 | ((with_reducible apply awO_n); (· rfl); (· rfl); (· decide); (· exact sv); (· rfl); (· rfl); (· decide))
 | ((with_reducible apply aw_cond_true); (· exact sv))
 | ((with_reducible apply awO_un); (· rfl); (· decide); (· exact sv))
 | (refine Kont.go ‹Kont _ _ _ _› _ ?_)
 | ((with_reducible apply awO_c); (· rfl); (· rfl); (· exact sv); (· (first | exact c0 | exact c1 | exact c2 | exact c3)); (· rfl); (· rfl); (· rfl); (· decide))
 | ((first | ((with_reducible apply awO_guard); (· rfl); (· rfl); (· exact sv)) | ((with_reducible apply aw_cond); (· exact sv))); all_goals (intro hg; (try simp only [Bool.not_true, Bool.not_false]); (try simp only [decide_eq_true_eq, decide_eq_false_iff_not, Bool.not_true, Bool.not_false, Bool.not_eq_true', Bool.not_eq_false', Bool.not_not, beq_eq_false_iff_ne, ne_eq, beq_iff_eq, decide_eq_decide] at hg); try (exfalso; omega)))
 | ((with_reducible apply retQ_mk); (· (first | exact .inr rfl | exact .inl rfl)); (· exact sv); (· exact sv); rotate_left; (· rfl)))
        all_goals (first | rfl | (exfalso; omega))
  obtain ⟨rfl, rfl, hx5, hv0, a1, a2, a3, a4⟩ : b1 = true ∧ b2 = true ∧ x.length ≤ 5000 ∧ v = 0 ∧ a ≠ 17 ∧ a ≠ 18 ∧ a ≠ 20 ∧ a ≠ 21 := by
    have k1 : b1 = true := by cases b1; exact absurd (.inl rfl) hno; rfl
    have k2 : b2 = true := by cases b2; exact absurd (.inr (.inl rfl)) hno; rfl
    have k3 : ¬ (5000 < x.length ∨ v ≠ 0 ∨ a = 17 ∨ a = 18 ∨ a = 20 ∨ a = 21) := fun h => hno (.inr (.inr h))
    exact ⟨k1, k2, by omega, by omega, by omega, by omega, by omega, by omega⟩
  clear hno
  have hok := (vdR_ok e).1 (hv.symm.trans hv0)
  subst hv0
  have hok2 := doR_ok hok a x L
  have c4 := do_ab e L a x f hok (by omega) hL hl
  by_cases hs : (doR e a x L).now.t = e.now.t
  · generalize doR e a x L = g at *
    obtain ⟨⟨t, z⟩, m, K, U, R, ks, la, li, sd⟩ := e
    obtain ⟨⟨gt, gz⟩, gm, gK, gU, gR, gks, gla, gli, gsd⟩ := g
    simp only at hs
    subst hs
    simp only [erA, erC, hsA] at c1 c2 c3 c4 ⊢
    refine Fn_of_aw (keep := []) Try.func7 rfl rfl (by simp [Try.ntmps7]) ?_
    simp only [num_cons, num_nil, Try.ntmps7, Try.results7]
    repeat' (first
 | ((with_reducible apply awO_ev); (· rfl); (· exact sv))
 | ((with_reducible apply aw_seq); intro _ _)
 | (with_reducible apply aw_region)
 | ((first | (with_reducible apply awO_nil) | (with_reducible apply aw_exit) | (with_reducible apply aw_skip) | (with_reducible apply aw_ret)); (try simp only [CT, ↓reduceIte, Nat.reduceEqDiff]))
 | ((with_reducible apply awO_y); (· rfl); (· rfl); (· decide); (· exact sv); (· exact sv))
 | ((with_reducible apply awO_n); (· rfl); (· rfl); (· decide); (· exact sv); (· rfl); (· rfl); (· decide))
 | ((with_reducible apply awO_u); (· rfl); (· rfl); (· exact svr); (· rfl); (· decide))
 | ((with_reducible apply aw_cond_true); (· exact sv))
 | ((with_reducible apply awO_un); (· rfl); (· decide); (· exact sv))
 | (refine Kont.go ‹Kont _ _ _ _› _ ?_)
 | ((with_reducible apply awO_c); (· rfl); (· rfl); (· exact sv); (· (first | exact c0 | exact c1 | exact c2 | exact c3 | exact c4)); (· rfl); (· rfl); (· rfl); (· decide))
 | ((first | ((with_reducible apply awO_guard); (· rfl); (· rfl); (· exact sv)) | ((with_reducible apply aw_cond); (· exact sv))); all_goals (intro hg; (try simp only [Bool.not_true, Bool.not_false]); (try simp only [decide_eq_true_eq, decide_eq_false_iff_not, Bool.not_true, Bool.not_false, Bool.not_eq_true', Bool.not_eq_false', Bool.not_not, beq_eq_false_iff_ne, ne_eq, beq_iff_eq, decide_eq_decide] at hg); try (exfalso; omega)))
 | ((with_reducible apply retQ_mk); (· (first | exact .inr rfl | exact .inl rfl)); (· exact sv); (· exact sv); rotate_left; (· rfl)))
    all_goals (first | rfl | exact absurd rfl (by assumption) | (exfalso; omega) | exact absurd (by assumption) hs)
  by_cases ho : a = 1 ∧ e.last = 1
  · obtain ⟨rfl, hla⟩ := ho
    generalize doR e 1 x L = g at *
    obtain ⟨⟨t, z⟩, m, K, U, R, ks, la, li, sd⟩ := e
    obtain ⟨⟨gt, gz⟩, gm, gK, gU, gR, gks, gla, gli, gsd⟩ := g
    simp only at hs hla
    subst hla
    simp only [erA, erC, hsA] at c1 c2 c3 c4 ⊢
    refine Fn_of_aw (keep := []) Try.func7 rfl rfl (by simp [Try.ntmps7]) ?_
    simp only [num_cons, num_nil, Try.ntmps7, Try.results7]
    repeat' (first
 | ((with_reducible apply awO_ev); (· rfl); (· exact sv))
 | ((with_reducible apply aw_seq); intro _ _)
 | (with_reducible apply aw_region)
 | ((first | (with_reducible apply awO_nil) | (with_reducible apply aw_exit) | (with_reducible apply aw_skip) | (with_reducible apply aw_ret)); (try simp only [CT, ↓reduceIte, Nat.reduceEqDiff]))
 | ((with_reducible apply awO_y); (· rfl); (· rfl); (· decide); (· exact sv); (· exact sv))
 | ((with_reducible apply awO_n); (· rfl); (· rfl); (· decide); (· exact sv); (· rfl); (· rfl); (· decide))
 | ((with_reducible apply awO_u); (· rfl); (· rfl); (· exact svr); (· rfl); (· decide))
 | ((with_reducible apply aw_cond_true); (· exact sv))
 | ((with_reducible apply aw_cond_false); (· exact sv))
 | ((with_reducible apply awO_un); (· rfl); (· decide); (· exact sv))
 | (refine Kont.go ‹Kont _ _ _ _› _ ?_)
 | ((with_reducible apply awO_c); (· rfl); (· rfl); (· exact sv); (· (first | exact c0 | exact c1 | exact c2 | exact c3 | exact c4)); (· rfl); (· rfl); (· rfl); (· decide))
 | ((first | ((with_reducible apply awO_guard); (· rfl); (· rfl); (· exact sv)) | ((with_reducible apply aw_cond); (· exact sv))); all_goals (intro hg; (try simp only [Bool.not_true, Bool.not_false]); (try simp only [decide_eq_true_eq, decide_eq_false_iff_not, Bool.not_true, Bool.not_false, Bool.not_eq_true', Bool.not_eq_false', Bool.not_not, beq_eq_false_iff_ne, ne_eq, beq_iff_eq, decide_eq_decide] at hg); try (exfalso; omega)))
 | ((with_reducible apply retQ_mk); (· (first | exact .inr rfl | exact .inl rfl)); (· exact sv); (· exact sv); rotate_left; (· rfl)))
    all_goals (first | rfl | (exfalso; omega) | exact absurd (by assumption) hs)
  have hok3 := doR_ok hok2 17 [] L
  have c5 := do_ab _ L 17 [] f hok2 (by simp) hL hl
  have c6 := do_ab _ L 18 [] f hok3 (by simp) hL hl
  obtain ⟨u1, u2⟩ := undo_redo e a x L ⟨a1, a2, a3, a4⟩ hs ho
  generalize doR (doR (doR e a x L) 17 [] L) 18 [] L = g3 at *
  generalize doR (doR e a x L) 17 [] L = g2 at *
  generalize doR e a x L = g1 at *
  clear hok hok2 hok3 hv h
  obtain ⟨⟨t, z⟩, m, K, U, R, ks, la, li, sd⟩ := e
  obtain ⟨⟨t1, z1⟩, m1, K1, U1, R1, ks1, la1, li1, sd1⟩ := g1
  obtain ⟨n2, m2, K2, U2, R2, ks2, la2, li2, sd2⟩ := g2
  obtain ⟨n3, m3, K3, U3, R3, ks3, la3, li3, sd3⟩ := g3
  simp only at u1 u2 hs ho
  subst u1
  subst u2
  simp only [erA, erC, hsA] at c1 c2 c3 c4 c5 c6 ⊢
  refine Fn_of_aw (keep := []) Try.func7 rfl rfl (by simp [Try.ntmps7]) ?_
  simp only [num_cons, num_nil, Try.ntmps7, Try.results7]
  repeat' (first
 | ((with_reducible apply awO_ev); (· rfl); (· exact sv))
 | ((with_reducible apply aw_seq); intro _ _)
 | (with_reducible apply aw_region)
 | ((first | (with_reducible apply awO_nil) | (with_reducible apply aw_exit) | (with_reducible apply aw_skip) | (with_reducible apply aw_ret)); (try simp only [CT, ↓reduceIte, Nat.reduceEqDiff]))
 | ((with_reducible apply awO_y); (· rfl); (· rfl); (· decide); (· exact sv); (· exact sv))
 | ((with_reducible apply awO_n); (· rfl); (· rfl); (· decide); (· exact sv); (· rfl); (· rfl); (· decide))
 | ((with_reducible apply awO_u); (· rfl); (· rfl); (· exact svr); (· rfl); (· decide))
 | ((with_reducible apply aw_cond_true); (· exact sv))
 | ((with_reducible apply aw_cond_false); (· exact sv))
 | ((with_reducible apply awO_un); (· rfl); (· decide); (· exact sv))
 | (refine Kont.go ‹Kont _ _ _ _› _ ?_)
 | ((with_reducible apply awO_c); (· rfl); (· rfl); (· exact sv); (· (first | exact c0 | exact c1 | exact c2 | exact c3 | exact c4 | exact c5 | exact c6)); (· rfl); (· rfl); (· rfl); (· decide))
 | ((first | ((with_reducible apply awO_guard); (· rfl); (· rfl); (· exact sv)) | ((with_reducible apply aw_cond); (· exact sv))); all_goals (intro hg; (try simp only [Bool.not_true, Bool.not_false]); (try simp only [decide_eq_true_eq, decide_eq_false_iff_not, Bool.not_true, Bool.not_false, Bool.not_eq_true', Bool.not_eq_false', Bool.not_not, beq_eq_false_iff_ne, ne_eq, beq_iff_eq, decide_eq_decide] at hg); try (exfalso; omega)))
 | ((with_reducible apply retQ_mk); (· (first | exact .inr rfl | exact .inl rfl)); (· exact sv); (· exact sv); rotate_left; (· rfl)))
  all_goals (first | rfl | (exfalso; omega) | exact absurd rfl (by assumption) | exact absurd (by assumption) hs)
end Go.Proofs.Ytapmolfpkhfpgaa
