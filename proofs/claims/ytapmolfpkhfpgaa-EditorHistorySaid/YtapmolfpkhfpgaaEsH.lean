/- The editor: Do of the document, on the abstract machine. -/
import Derived.Test.YtapmolfpkhfpgaaEsG
import Derived.Test.YtapmolfpkhfpgaaEsE
namespace Go.Proofs.Ytapmolfpkhfpgaa
open Go.RowKit
set_option linter.unusedVariables false
set_option linter.unusedSimpArgs false
set_option maxRecDepth 100000
set_option maxHeartbeats 8000000
theorem rdo_of (e g r : Er) (L : List (List UInt8)) (a : Int) (x : List UInt8) (f : Int) (ha : 0 ≤ a ∧ a ≤ 28) (c1 : Ab Try.prog 32 [erA e, ai a] (erA g)) (c2 : Ab Try.prog 31 [erA g, ai a, az x, .rd L.length (L.map az)] (erA r)) :
    Ab Try.prog 17 [erA e, ai a, az x, hsA f L] (erA { r with last := a }) := by
  obtain ⟨⟨t, z⟩, m, K, U, R, ks, la, li, sd⟩ := e
  simp only [erA, erC, hsA] at c1 c2 ⊢
  refine Fn_of_aw (keep := []) Try.func17 rfl rfl (by simp [Try.ntmps17]) ?_
  simp only [num_cons, num_nil, Try.ntmps17, Try.results17]
  repeat' (first
 | ((with_reducible apply awO_ev); (· rfl); (· exact sv))
 | ((with_reducible apply aw_seq); intro _ _)
 | (with_reducible apply aw_region)
 | ((first | (with_reducible apply awO_nil) | (with_reducible apply aw_exit) | (with_reducible apply aw_skip) | (with_reducible apply aw_ret)); (try simp only [CT, ↓reduceIte, Nat.reduceEqDiff]))
 | ((with_reducible apply awO_y); (· rfl); (· rfl); (· decide); (· exact sv); (· exact sv))
 | (refine Kont.go ‹Kont _ _ _ _› _ ?_)
 | ((with_reducible apply aw_draw); (· decide +kernel); (simp only [List.size_toArray, List.length_cons, List.length_nil, Nat.reduceAdd]))
 | ((with_reducible apply awY_done); (· decide +kernel); (try simp only [CT, ↓reduceIte, Nat.reduceEqDiff]))
 | ((with_reducible apply awY_q); (· exact sQ); (· exact np); (· exact svg); (· rfl); (· exact sv))
 | ((with_reducible apply endQ_rfl))
 | ((with_reducible apply endQ_sub); (· exact sE); (· exact sN))
 | ((with_reducible apply awI_ev); (· exact svg); (· rfl); (· exact sv))
 | ((with_reducible apply awI_c); (· exact svg); (· rfl); (· rfl); (· exact sv); (· (first | exact c1 | exact c2)); (· rfl); (· rfl); (· rfl); (· exact nd); simp only [put_some])
 | ((first | ((with_reducible apply awO_guard); (· rfl); (· rfl); (· exact sv)) | ((with_reducible apply aw_cond); (· exact sv))); all_goals (intro hg; (try simp only [Bool.not_true, Bool.not_false]); (try simp only [decide_eq_true_eq, decide_eq_false_iff_not, Bool.not_true, Bool.not_false, Bool.not_eq_true', Bool.not_eq_false', Bool.not_not, beq_eq_false_iff_ne, ne_eq, beq_iff_eq, decide_eq_decide] at hg); try (exfalso; omega)))
 | ((with_reducible apply retQ_mk); (· (first | exact .inr rfl | exact .inl rfl)); (· exact sv); (· exact sv); rotate_left; (· rfl))
 | ((with_reducible apply awY_p); (· exact sH); (first | ((with_reducible apply awP_1); (· decide +kernel)) | ((with_reducible apply awP_2); (· exact sP)))))
  all_goals (first | rfl | (exfalso; omega))
theorem rdo_none (e : Er) (L : List (List UInt8)) (a : Int) (x : List UInt8) (f : Int) (ha : a < 0 ∨ 28 < a) : Ab Try.prog 17 [erA e, ai a, az x, hsA f L] (erA e) := by
  obtain ⟨⟨t, z⟩, m, K, U, R, ks, la, li, sd⟩ := e
  simp only [erA, erC, hsA]
  refine Fn_of_aw (keep := []) Try.func17 rfl rfl (by simp [Try.ntmps17]) ?_
  simp only [num_cons, num_nil, Try.ntmps17, Try.results17]
  repeat' (first
 | ((with_reducible apply awO_ev); (· rfl); (· exact sv))
 | ((with_reducible apply aw_seq); intro _ _)
 | (with_reducible apply aw_region)
 | ((first | (with_reducible apply awO_nil) | (with_reducible apply aw_exit) | (with_reducible apply aw_skip) | (with_reducible apply aw_ret)); (try simp only [CT, ↓reduceIte, Nat.reduceEqDiff]))
 | ((with_reducible apply awO_y); (· rfl); (· rfl); (· decide); (· exact sv); (· exact sv))
 | ((with_reducible apply awO_n); (· rfl); (· rfl); (· decide); (· exact sv); (· rfl); (· rfl); (· decide))
 | ((with_reducible apply aw_cond_true); (· exact sv))
 | (refine Kont.go ‹Kont _ _ _ _› _ ?_)
 | ((first | ((with_reducible apply awO_guard); (· rfl); (· rfl); (· exact sv)) | ((with_reducible apply aw_cond); (· exact sv))); all_goals (intro hg; (try simp only [Bool.not_true, Bool.not_false]); (try simp only [decide_eq_true_eq, decide_eq_false_iff_not, Bool.not_true, Bool.not_false, Bool.not_eq_true', Bool.not_eq_false', Bool.not_not, beq_eq_false_iff_ne, ne_eq, beq_iff_eq, decide_eq_decide] at hg); try (exfalso; omega)))
 | ((with_reducible apply retQ_mk); (· (first | exact .inr rfl | exact .inl rfl)); (· exact sv); (· exact sv); rotate_left; (· rfl)))
  all_goals (first | rfl | (exfalso; omega))
theorem rdo_ab (e : Er) (L : List (List UInt8)) (a : Int) (x : List UInt8) (f : Int) (h : okEr e) (hx : x.length ≤ 100000) (hL : L.length ≤ 9000000000000000) : Ab Try.prog 17 [erA e, ai a, az x, hsA f L] (erA (doR e a x L)) := by
  have h0 := h.now.2.1
  have h1 := h.now.2.2
  have ht := h.now.1
  unfold doR
  by_cases ha : a < 0 ∨ 28 < a
  · rw [if_pos ha]
    exact rdo_none e L a x f ha
  rw [if_neg ha]
  by_cases k0 : a = 0
  · subst k0
    exact rdo_of e _ _ L 0 x f (by omega) (rmoveN_ab e 0 (by omega)) (rchangeN_ab e 0 x L (by omega))
  by_cases k1 : a = 1
  · subst k1
    exact rdo_of e _ _ L 1 x f (by omega) (rmoveN_ab e 1 (by omega)) (rchange1_ab e h L x hx hL)
  by_cases k2 : a = 2
  · subst k2
    exact rdo_of e _ _ L 2 x f (by omega) (rmoveN_ab e 2 (by omega)) (rchangeN_ab e 2 x L (by omega))
  by_cases k3 : a = 3
  · subst k3
    exact rdo_of e _ _ L 3 x f (by omega) (rmove3_ab e h0 h1 ht) (rchangeN_ab _ 3 x L (by omega))
  by_cases k4 : a = 4
  · subst k4
    exact rdo_of e _ _ L 4 x f (by omega) (rmove4_ab e h0 h1 ht) (rchangeN_ab _ 4 x L (by omega))
  by_cases k5 : a = 5
  · subst k5
    exact rdo_of e _ _ L 5 x f (by omega) (rmove5_ab e h0 h1 ht) (rchangeN_ab _ 5 x L (by omega))
  by_cases k6 : a = 6
  · subst k6
    exact rdo_of e _ _ L 6 x f (by omega) (rmove6_ab e h0 h1 ht) (rchangeN_ab _ 6 x L (by omega))
  by_cases k7 : a = 7
  · subst k7
    exact rdo_of e _ _ L 7 x f (by omega) (rmove7_ab e h0 h1 ht) (rchangeN_ab _ 7 x L (by omega))
  by_cases k8 : a = 8
  · subst k8
    exact rdo_of e _ _ L 8 x f (by omega) (rmove8_ab e h0 h1 ht) (rchangeN_ab _ 8 x L (by omega))
  by_cases k9 : a = 9
  · subst k9
    exact rdo_of e _ _ L 9 x f (by omega) (rmoveN_ab e 9 (by omega)) (rchange9_ab e h L x hx hL)
  by_cases k10 : a = 10
  · subst k10
    exact rdo_of e _ _ L 10 x f (by omega) (rmoveN_ab e 10 (by omega)) (rchange10_ab e h L x hx hL)
  by_cases k11 : a = 11
  · subst k11
    exact rdo_of e _ _ L 11 x f (by omega) (rmoveN_ab e 11 (by omega)) (rchange11_ab e h L x hx hL)
  by_cases k12 : a = 12
  · subst k12
    exact rdo_of e _ _ L 12 x f (by omega) (rmoveN_ab e 12 (by omega)) (rchange12_ab e h L x hx hL)
  by_cases k13 : a = 13
  · subst k13
    exact rdo_of e _ _ L 13 x f (by omega) (rmoveN_ab e 13 (by omega)) (rchange13_ab e h L x hx hL)
  by_cases k14 : a = 14
  · subst k14
    exact rdo_of e _ _ L 14 x f (by omega) (rmoveN_ab e 14 (by omega)) (rchange14_ab e h L x hx hL)
  by_cases k15 : a = 15
  · subst k15
    exact rdo_of e _ _ L 15 x f (by omega) (rmoveN_ab e 15 (by omega)) (rchange15_ab e h L x hx hL)
  by_cases k16 : a = 16
  · subst k16
    exact rdo_of e _ _ L 16 x f (by omega) (rmoveN_ab e 16 (by omega)) (rchange16_ab e h L x hx hL)
  by_cases k17 : a = 17
  · subst k17
    exact rdo_of e _ _ L 17 x f (by omega) (rmoveN_ab e 17 (by omega)) (rchange17_ab e h L x hx hL)
  by_cases k18 : a = 18
  · subst k18
    exact rdo_of e _ _ L 18 x f (by omega) (rmoveN_ab e 18 (by omega)) (rchange18_ab e h L x hx hL)
  by_cases k19 : a = 19
  · subst k19
    exact rdo_of e _ _ L 19 x f (by omega) (rmoveN_ab e 19 (by omega)) (rchange19_ab e h L x hx hL)
  by_cases k20 : a = 20
  · subst k20
    exact rdo_of e _ _ L 20 x f (by omega) (rmoveN_ab e 20 (by omega)) (rchange20_ab e h L x hx hL)
  by_cases k21 : a = 21
  · subst k21
    exact rdo_of e _ _ L 21 x f (by omega) (rmoveN_ab e 21 (by omega)) (rchange21_ab e h L x hx hL)
  by_cases k22 : a = 22
  · subst k22
    exact rdo_of e _ _ L 22 x f (by omega) (rmoveN_ab e 22 (by omega)) (rchangeN_ab e 22 x L (by omega))
  by_cases k23 : a = 23
  · subst k23
    exact rdo_of e _ _ L 23 x f (by omega) (rmoveN_ab e 23 (by omega)) (rchange23_ab e h L x hx hL)
  by_cases k24 : a = 24
  · subst k24
    exact rdo_of e _ _ L 24 x f (by omega) (rmoveN_ab e 24 (by omega)) (rchangeN_ab e 24 x L (by omega))
  by_cases k25 : a = 25
  · subst k25
    exact rdo_of e _ _ L 25 x f (by omega) (rmove25_ab e h0 h1 ht) (rchangeN_ab _ 25 x L (by omega))
  by_cases k26 : a = 26
  · subst k26
    exact rdo_of e _ _ L 26 x f (by omega) (rmove26_ab e h0 h1 ht) (rchangeN_ab _ 26 x L (by omega))
  by_cases k27 : a = 27
  · subst k27
    exact rdo_of e _ _ L 27 x f (by omega) (rmoveN_ab e 27 (by omega)) (rchange27_ab e h L x hx hL)
  by_cases k28 : a = 28
  · subst k28
    exact rdo_of e _ _ L 28 x f (by omega) (rmoveN_ab e 28 (by omega)) (rchange28_ab e h L x hx hL)
  omega
end Go.Proofs.Ytapmolfpkhfpgaa
