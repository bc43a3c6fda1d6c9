/- the document's member, on the abstract machine. -/
import Derived.Test.YtllhcgfdjfmmeaaPtP
namespace Go.Proofs.Ytllhcgfdjfmmeaa
open Go.RowKit
set_option linter.unusedVariables false
set_option linter.unusedSimpArgs false
set_option maxRecDepth 100000
set_option maxHeartbeats 8000000
theorem sayB_append (l : List Cx) : ∀ (a b : List UInt8) (i : Nat), sayB l i (a ++ b) = (sayB l i a && sayB l (i + a.length) b)
  | [], b, i => by simp [sayB]
  | c :: a, b, i => by
    rw [List.cons_append, sayB, sayB_append l a b (i + 1), sayB, Bool.and_assoc, List.length_cons, show i + 1 + a.length = i + (a.length + 1) by omega]
theorem isC_spec {l : List Cx} {i : Nat} {b : UInt8} (h : isC l i b = true) : ∃ hi : i < l.length, l[i].a = true ∧ l[i].b = b := by
  have hi := isC_lt h
  refine ⟨hi, ?_⟩
  unfold isC at h
  rw [List.getElem?_eq_getElem hi] at h
  simpa using h
theorem isC_mk {l : List Cx} {i : Nat} (hi : i < l.length) (h : l[i].a = true) : isC l i l[i].b = true := by
  unfold isC
  rw [List.getElem?_eq_getElem hi]
  simp [h]
theorem nmAt_of (l : List Cx) : ∀ (nm : List UInt8) (j : Nat), (∀ c ∈ nm, 97 ≤ c.toNat ∧ c.toNat ≤ 122) → sayB l j nm = true → isC l (j + nm.length) 58 = true → nmAt l j = nm
  | [], j, _, _, h => by
    obtain ⟨hj, h1, h2⟩ := isC_spec h
    exact nmAt_stop hj (by simp only [List.length_nil, Nat.add_zero] at h2; simp [lowA, h2])
  | c :: nm, j, hl, hs, h => by
    rw [sayB, Bool.and_eq_true] at hs
    obtain ⟨hj, h1, h2⟩ := isC_spec hs.1
    have hc := hl c (List.mem_cons_self ..)
    rw [nmAt_step hj (by simp [lowA, h1, h2, hc.1, hc.2]), h2, nmAt_of l nm (j + 1) (fun d hd => hl d (List.mem_cons_of_mem _ hd)) hs.2 (by rw [← h, List.length_cons]; congr 1; omega)]
theorem say_nmAt (l : List Cx) : ∀ (n j : Nat), (nmAt l j).length = n → sayB l j (nmAt l j) = true
  | 0, j, h => by rw [List.eq_nil_of_length_eq_zero h]; rfl
  | n + 1, j, h => by
    by_cases hj : j < l.length
    · cases ha : lowA l[j] with
      | false => rw [nmAt_stop hj ha] at h; simp at h
      | true =>
        have e := nmAt_step hj ha
        rw [e] at h ⊢
        simp only [lowA, Bool.and_eq_true] at ha
        rw [sayB, isC_mk hj ha.1, say_nmAt l n (j + 1) (by simpa using h)]
        rfl
    · rw [nmAt_end (by omega)] at h; simp at h
theorem say_cls (l : List Cx) (i : Nat) {nm : List UInt8} (hl : ∀ c ∈ nm, 97 ≤ c.toNat ∧ c.toNat ≤ 122) (hn : isN nm = true) : sayB l i ([91, 58] ++ nm ++ [58, 93]) = (clB l i && decide (nmAt l (i + 2) = nm)) := by
  rw [sayB_append, sayB_append]
  simp only [sayB, List.length_append, List.length_cons, List.length_nil, Bool.and_true]
  rw [Bool.eq_iff_iff]
  constructor
  · intro h
    simp only [Bool.and_eq_true] at h
    obtain ⟨⟨⟨h1, h2⟩, h3⟩, h4, h5⟩ := h
    have e := nmAt_of l nm (i + 2) hl h3 (by rw [← h4]; congr 1; omega)
    simp only [clB, e, h1, h2, hn, Bool.and_eq_true, decide_true, and_true, true_and, Bool.and_true]
    refine ⟨by rw [← h4]; congr 1; omega, by rw [← h5]; congr 1; omega⟩
  · intro h
    simp only [Bool.and_eq_true, decide_eq_true_eq] at h
    obtain ⟨h, e⟩ := h
    simp only [clB, Bool.and_eq_true] at h
    have hs := say_nmAt l _ (i + 2) rfl
    rw [e] at h hs
    obtain ⟨⟨⟨⟨h1, h2⟩, h3⟩, h4⟩, _⟩ := h
    simp only [Bool.and_eq_true]
    refine ⟨⟨⟨h1, h2⟩, hs⟩, by rw [← h3]; congr 1; omega, by rw [← h4]; congr 1; omega⟩
def clsP : List (List UInt8 × List Sn) := [([97, 108, 112, 104, 97], clsS 0), ([100, 105, 103, 105, 116], clsS 1), ([97, 108, 110, 117, 109], clsS 2), ([117, 112, 112, 101, 114], clsS 3), ([108, 111, 119, 101, 114], clsS 4), ([115, 112, 97, 99, 101], clsS 5), ([98, 108, 97, 110, 107], clsS 6), ([112, 117, 110, 99, 116], clsS 7)]
theorem clsP_len : clsP.length = 8 := rfl
theorem clsP_at (k : Nat) (h : k < clsP.length) : clsP[k].1.length = 5 ∧ clsP[k].2 = clsS k ∧ nms.idxOf clsP[k].1 = k ∧ isN clsP[k].1 = true ∧ (∀ c ∈ clsP[k].1, 97 ≤ c.toNat ∧ c.toNat ≤ 122) := by
  rw [clsP_len] at h
  match k, h with
  | 0, _ => exact ⟨rfl, rfl, rfl, rfl, by decide +revert⟩
  | 1, _ => exact ⟨rfl, rfl, rfl, rfl, by decide +revert⟩
  | 2, _ => exact ⟨rfl, rfl, rfl, rfl, by decide +revert⟩
  | 3, _ => exact ⟨rfl, rfl, rfl, rfl, by decide +revert⟩
  | 4, _ => exact ⟨rfl, rfl, rfl, rfl, by decide +revert⟩
  | 5, _ => exact ⟨rfl, rfl, rfl, rfl, by decide +revert⟩
  | 6, _ => exact ⟨rfl, rfl, rfl, rfl, by decide +revert⟩
  | 7, _ => exact ⟨rfl, rfl, rfl, rfl, by decide +revert⟩
theorem isN_at {nm : List UInt8} (h : isN nm = true) : ∃ k, ∃ hk : k < clsP.length, clsP[k].1 = nm := by
  simp only [isN, Bool.or_eq_true, decide_eq_true_eq] at h
  rcases h with ((((((h | h) | h) | h) | h) | h) | h) | h <;> subst h
  · exact ⟨0, by decide, rfl⟩
  · exact ⟨1, by decide, rfl⟩
  · exact ⟨2, by decide, rfl⟩
  · exact ⟨3, by decide, rfl⟩
  · exact ⟨4, by decide, rfl⟩
  · exact ⟨5, by decide, rfl⟩
  · exact ⟨6, by decide, rfl⟩
  · exact ⟨7, by decide, rfl⟩
theorem classes_ab2 : Ab Try.prog 57 [] (.rd clsP.length (clsP.flatMap fun x => [az x.1, snsA x.2])) := classes_ab
/-- What the document's member returns; nil where there is no span. -/
def mbR (l : List Cx) (i : Nat) : AV := .tp [if mbL (l.drop i) = [] then .v (.slice none 0 0) else snsA (mbL (l.drop i)), ai ((i + mbN (l.drop i) : Nat) : Int)]
theorem rmember_ab0 (l : List Cx) (i : Nat) (hi : i < l.length) (hl : l.length ≤ 100000) (A : AV) (hA : A = mbR l i) : Ab Try.prog 48 [chsA l, ai i] A := by
  have c1 := classes_ab2
  have c2 := fun (k : Nat) (h : k < clsP.length) => says_ab l i i rfl ([91, 58] ++ clsP[k].1 ++ [58, 93]) (by omega) (by have := (clsP_at k h).1; simp; omega)
  have c3 := ris_ab l (i + 1) (i + 1) (by omega) 45
  have c4 := ris_ab l (i + 2) (i + 2) (by omega) 93
  have e0 : lowB (l.drop i) 0 = l[i].b := lowB_drop hi
  have er : rgB (l.drop i) = (isC l (i + 1) 45 && decide (i + 2 < l.length) && !isC l (i + 2) 93) := by
    rw [rgB, isC_drop, isC_drop, List.length_drop, show decide (2 < l.length - i) = decide (i + 2 < l.length) by simp only [decide_eq_decide]; omega]
  have hcl8 := clsP_len
  refine Fn_of_aw (keep := []) Try.func48 rfl rfl (by simp [Try.ntmps48]) ?_
  simp only [num_cons, num_nil, Try.ntmps48, Try.results48]
  repeat' (first
 | ((with_reducible apply awO_ev); (· rfl); (· exact sv))
 | ((with_reducible apply aw_seq); intro _ _)
 | (with_reducible apply aw_region)
 | (with_reducible apply aw_block)
 | ((first | (with_reducible apply awO_nil) | (with_reducible apply aw_exit) | (with_reducible apply aw_skip) | (with_reducible apply aw_ret)); (try simp only [CT, ↓reduceIte, Nat.reduceEqDiff]))
 | ((with_reducible apply awO_y); (· rfl); (· rfl); (· decide); (· exact sv); (· exact sv))
 | ((with_reducible apply awO_n); (· rfl); (· rfl); (· decide); (· exact sv); (· rfl); (· rfl); (· decide))
 | ((with_reducible apply awO_u); (· rfl); (· rfl); (· exact svr); (· rfl); (· decide))
 | ((with_reducible apply aw_cond_true); (· exact sv))
 | ((with_reducible apply aw_cond_false); (· exact sv))
 | ((with_reducible apply awO_un); (· rfl); (· decide); (· exact sv))
 | (refine Kont.go ‹Kont _ _ _ _› _ ?_)
 | ((with_reducible apply awO_c); (· rfl); (· rfl); (· exact sv); (· (first | exact c1)); (· rfl); (· rfl); (· rfl); (· decide))
 | ((with_reducible apply awO_f); (· rfl); (· rfl); (· exact sv); (· exact sv); (· (first | exact c1)); (· rfl); (· rfl); (· decide))
 | ((with_reducible apply awO_m); (· rfl); (· rfl); (· exact sv); (· (first | exact c1)); (· exact svq); (· exact svq); (· exact svq); (· exact svq); (· rfl); (· exact nd); (with_reducible apply awO_st); (· exact svs))
 | ((first | ((with_reducible apply awO_guard); (· rfl); (· rfl); (· exact sv)) | ((with_reducible apply aw_cond); (· exact sv))); all_goals (intro hg; (try simp only [Bool.not_true, Bool.not_false]); (try simp only [decide_eq_true_eq, decide_eq_false_iff_not, Bool.not_true, Bool.not_false, Bool.not_eq_true', Bool.not_eq_false', Bool.not_not, beq_eq_false_iff_ne, ne_eq, beq_iff_eq, decide_eq_decide] at hg); try (exfalso; omega)))
 | ((with_reducible apply retQ_mk); (· (first | exact .inr rfl | exact .inl rfl)); (· exact sv); (· exact sv); rotate_left; (· rfl)))
  refine aw_loopF (fun k : Nat => [(7, ai k)]) (fun _ => []) (fun k => k ≤ clsP.length ∧ ∀ m (hm : m < clsP.length), m < k → (clB l i && decide (nmAt l (i + 2) = clsP[m].1)) = false) (fun k => clsP.length - k) 0 ⟨by omega, fun m _ h => by omega⟩ ?_ ?_ ?_
  · exact ⟨rfl, trivial⟩
  · exact trivial
  intro k ⟨hk, hI⟩
  (simp only [LP, List.append_assoc, List.nil_append, List.cons_append, List.append_nil, List.contains_cons, List.contains_nil, Nat.reduceBEq, Bool.or_false, Bool.or_true, Bool.true_or, Bool.false_or, ↓reduceIte, Bool.false_eq_true])
  by_cases hkl : k < clsP.length
  · have c5 := c2 k hkl
    obtain ⟨k1, k2, k3, k4, k5⟩ := clsP_at k hkl
    rw [say_cls l i k5 k4] at c5
    cases hb : (clB l i && decide (nmAt l (i + 2) = clsP[k].1)) with
    | true =>
      rw [hb] at c5
      rw [Bool.and_eq_true, decide_eq_true_eq] at hb
      have hne : clsS k ≠ [] := by
        have hk8 : k < 8 := by omega
        match k, hk8 with
        | 0, _ => simp [clsS]
        | 1, _ => simp [clsS]
        | 2, _ => simp [clsS]
        | 3, _ => simp [clsS]
        | 4, _ => simp [clsS]
        | 5, _ => simp [clsS]
        | 6, _ => simp [clsS]
        | 7, _ => simp [clsS]
      have hA' : A = .tp [snsA clsP[k].2, ai ((i + (5 + 4) : Nat) : Int)] := by
        rw [hA, mbR, mbL, mbN, clB_drop, clI, nmAt_drop, if_pos hb.1, if_pos hb.1, hb.2, k1, k2, k3, if_neg hne]
      repeat' (first
 | ((with_reducible apply awO_ev); (· rfl); (· exact sv))
 | ((with_reducible apply aw_seq); intro _ _)
 | (with_reducible apply aw_region)
 | (with_reducible apply aw_block)
 | ((first | (with_reducible apply awO_nil) | (with_reducible apply aw_exit) | (with_reducible apply aw_skip) | (with_reducible apply aw_ret)); (try simp only [CT, ↓reduceIte, Nat.reduceEqDiff]))
 | ((with_reducible apply awO_y); (· rfl); (· rfl); (· decide); (· exact sv); (· exact sv))
 | ((with_reducible apply awO_n); (· rfl); (· rfl); (· decide); (· exact sv); (· rfl); (· rfl); (· decide))
 | ((with_reducible apply awO_u); (· rfl); (· rfl); (· exact svr); (· rfl); (· decide))
 | ((with_reducible apply aw_cond_true); (· exact sv))
 | ((with_reducible apply aw_cond_false); (· exact sv))
 | ((with_reducible apply awO_un); (· rfl); (· decide); (· exact sv))
 | (refine Kont.go ‹Kont _ _ _ _› _ ?_)
 | ((with_reducible apply awO_c); (· rfl); (· rfl); (· exact sv); (· (first | exact c5)); (· rfl); (· rfl); (· rfl); (· decide))
 | ((with_reducible apply awO_f); (· rfl); (· rfl); (· exact sv); (· exact sv); (· (first | exact c5)); (· rfl); (· rfl); (· decide))
 | ((with_reducible apply awO_m); (· rfl); (· rfl); (· exact sv); (· (first | exact c5)); (· exact svq); (· exact svq); (· exact svq); (· exact svq); (· rfl); (· exact nd); (with_reducible apply awO_st); (· exact svs))
 | ((first | ((with_reducible apply awO_guard); (· rfl); (· rfl); (· exact sv)) | ((with_reducible apply aw_cond); (· exact sv))); all_goals (intro hg; (try simp only [Bool.not_true, Bool.not_false]); (try simp only [decide_eq_true_eq, decide_eq_false_iff_not, Bool.not_true, Bool.not_false, Bool.not_eq_true', Bool.not_eq_false', Bool.not_not, beq_eq_false_iff_ne, ne_eq, beq_iff_eq, decide_eq_decide] at hg); try (exfalso; omega)))
 | ((with_reducible apply retQ_mk); (· (first | exact .inr rfl | exact .inl rfl)); (· exact sv); (· exact sv); rotate_left; (· rfl)))
      have e9 : (clsP[k].1 ++ [(58 : UInt8), 93]).length + 1 + 1 = 9 := by simp [k1]
      rw [hA', e9]
      rfl
    | false =>
      rw [hb] at c5
      repeat' (first
 | ((with_reducible apply awO_ev); (· rfl); (· exact sv))
 | ((with_reducible apply aw_seq); intro _ _)
 | (with_reducible apply aw_region)
 | (with_reducible apply aw_block)
 | ((first | (with_reducible apply awO_nil) | (with_reducible apply aw_exit) | (with_reducible apply aw_skip) | (with_reducible apply aw_ret)); (try simp only [CT, ↓reduceIte, Nat.reduceEqDiff]))
 | ((with_reducible apply awO_y); (· rfl); (· rfl); (· decide); (· exact sv); (· exact sv))
 | ((with_reducible apply awO_n); (· rfl); (· rfl); (· decide); (· exact sv); (· rfl); (· rfl); (· decide))
 | ((with_reducible apply awO_u); (· rfl); (· rfl); (· exact svr); (· rfl); (· decide))
 | ((with_reducible apply aw_cond_true); (· exact sv))
 | ((with_reducible apply aw_cond_false); (· exact sv))
 | ((with_reducible apply awO_un); (· rfl); (· decide); (· exact sv))
 | (refine Kont.go ‹Kont _ _ _ _› _ ?_)
 | ((with_reducible apply awO_c); (· rfl); (· rfl); (· exact sv); (· (first | exact c5)); (· rfl); (· rfl); (· rfl); (· decide))
 | ((with_reducible apply awO_f); (· rfl); (· rfl); (· exact sv); (· exact sv); (· (first | exact c5)); (· rfl); (· rfl); (· decide))
 | ((with_reducible apply awO_m); (· rfl); (· rfl); (· exact sv); (· (first | exact c5)); (· exact svq); (· exact svq); (· exact svq); (· exact svq); (· rfl); (· exact nd); (with_reducible apply awO_st); (· exact svs))
 | ((first | ((with_reducible apply awO_guard); (· rfl); (· rfl); (· exact sv)) | ((with_reducible apply aw_cond); (· exact sv))); all_goals (intro hg; (try simp only [Bool.not_true, Bool.not_false]); (try simp only [decide_eq_true_eq, decide_eq_false_iff_not, Bool.not_true, Bool.not_false, Bool.not_eq_true', Bool.not_eq_false', Bool.not_not, beq_eq_false_iff_ne, ne_eq, beq_iff_eq, decide_eq_decide] at hg); try (exfalso; omega)))
 | ((with_reducible apply retQ_mk); (· (first | exact .inr rfl | exact .inl rfl)); (· exact sv); (· exact sv); rotate_left; (· rfl)))
      refine LE_mk (k + 1) ?_ ?_ ?_ sN ?_
      · refine ⟨by omega, fun m hm hmk => ?_⟩
        by_cases e : m = k
        · subst e; exact hb
        · exact hI m hm (by omega)
      · omega
      · exact ⟨rfl, trivial⟩
      · exact trivial
  · have hc : clB l i = false := by
      cases hc : clB l i with
      | false => rfl
      | true =>
        have hn := hc
        simp only [clB, Bool.and_eq_true] at hn
        obtain ⟨m, hm, e⟩ := isN_at hn.2
        have := hI m hm (by omega)
        rw [hc, e] at this
        simp at this
    have hA' : A = .tp [if (if rgB (l.drop i) = true then (if l[i].b.toNat ≤ (lowB (l.drop i) 2).toNat then [⟨l[i].b, lowB (l.drop i) 2⟩] else []) else [(⟨l[i].b, l[i].b⟩ : Sn)]) = [] then .v (.slice none 0 0) else snsA (if rgB (l.drop i) = true then (if l[i].b.toNat ≤ (lowB (l.drop i) 2).toNat then [⟨l[i].b, lowB (l.drop i) 2⟩] else []) else [⟨l[i].b, l[i].b⟩]), ai ((i + (if rgB (l.drop i) = true then 3 else 1) : Nat) : Int)] := by
      rw [hA, mbR, mbL, mbN, clB_drop, hc, e0]
      simp only [Bool.false_eq_true, if_false]
    clear hA
    rw [er] at hA'
    cases h1 : isC l (i + 1) 45 with
    | false =>
      rw [h1] at c3 hA'
      simp only [Bool.false_and, Bool.false_eq_true, if_false, List.cons_ne_nil] at hA'
      repeat' (first
 | ((with_reducible apply awO_ev); (· rfl); (· exact sv))
 | ((with_reducible apply aw_seq); intro _ _)
 | (with_reducible apply aw_region)
 | (with_reducible apply aw_block)
 | ((first | (with_reducible apply awO_nil) | (with_reducible apply aw_exit) | (with_reducible apply aw_skip) | (with_reducible apply aw_ret)); (try simp only [CT, ↓reduceIte, Nat.reduceEqDiff]))
 | ((with_reducible apply awO_y); (· rfl); (· rfl); (· decide); (· exact sv); (· exact sv))
 | ((with_reducible apply awO_n); (· rfl); (· rfl); (· decide); (· exact sv); (· rfl); (· rfl); (· decide))
 | ((with_reducible apply awO_u); (· rfl); (· rfl); (· exact svr); (· rfl); (· decide))
 | ((with_reducible apply aw_cond_true); (· exact sv))
 | ((with_reducible apply aw_cond_false); (· exact sv))
 | ((with_reducible apply awO_un); (· rfl); (· decide); (· exact sv))
 | (refine Kont.go ‹Kont _ _ _ _› _ ?_)
 | ((with_reducible apply awO_c); (· rfl); (· rfl); (· exact sv); (· (first | exact c3)); (· rfl); (· rfl); (· rfl); (· decide))
 | ((with_reducible apply awO_f); (· rfl); (· rfl); (· exact sv); (· exact sv); (· (first | exact c3)); (· rfl); (· rfl); (· decide))
 | ((with_reducible apply awO_m); (· rfl); (· rfl); (· exact sv); (· (first | exact c3)); (· exact svq); (· exact svq); (· exact svq); (· exact svq); (· rfl); (· exact nd); (with_reducible apply awO_st); (· exact svs))
 | ((first | ((with_reducible apply awO_guard); (· rfl); (· rfl); (· exact sv)) | ((with_reducible apply aw_cond); (· exact sv))); all_goals (intro hg; (try simp only [Bool.not_true, Bool.not_false]); (try simp only [decide_eq_true_eq, decide_eq_false_iff_not, Bool.not_true, Bool.not_false, Bool.not_eq_true', Bool.not_eq_false', Bool.not_not, beq_eq_false_iff_ne, ne_eq, beq_iff_eq, decide_eq_decide] at hg); try (exfalso; omega)))
 | ((with_reducible apply retQ_mk); (· (first | exact .inr rfl | exact .inl rfl)); (· exact sv); (· exact sv); rotate_left; (· rfl)))
      all_goals (rw [hA']; rfl)
    | true =>
      rw [h1] at c3 hA'
      have hi2 := isC_lt h1
      by_cases h2 : i + 2 < l.length
      · rw [show decide (i + 2 < l.length) = true by simpa using h2] at hA'
        have e2 : lowB (l.drop i) 2 = l[i + 2].b := lowB_drop h2
        cases h3 : isC l (i + 2) 93 with
        | true =>
          rw [h3] at c4 hA'
          simp only [Bool.and_self, Bool.not_true, Bool.and_false, Bool.false_eq_true, if_false, List.cons_ne_nil] at hA'
          repeat' (first
 | ((with_reducible apply awO_ev); (· rfl); (· exact sv))
 | ((with_reducible apply aw_seq); intro _ _)
 | (with_reducible apply aw_region)
 | (with_reducible apply aw_block)
 | ((first | (with_reducible apply awO_nil) | (with_reducible apply aw_exit) | (with_reducible apply aw_skip) | (with_reducible apply aw_ret)); (try simp only [CT, ↓reduceIte, Nat.reduceEqDiff]))
 | ((with_reducible apply awO_y); (· rfl); (· rfl); (· decide); (· exact sv); (· exact sv))
 | ((with_reducible apply awO_n); (· rfl); (· rfl); (· decide); (· exact sv); (· rfl); (· rfl); (· decide))
 | ((with_reducible apply awO_u); (· rfl); (· rfl); (· exact svr); (· rfl); (· decide))
 | ((with_reducible apply aw_cond_true); (· exact sv))
 | ((with_reducible apply aw_cond_false); (· exact sv))
 | ((with_reducible apply awO_un); (· rfl); (· decide); (· exact sv))
 | (refine Kont.go ‹Kont _ _ _ _› _ ?_)
 | ((with_reducible apply awO_c); (· rfl); (· rfl); (· exact sv); (· (first | exact c3 | exact c4)); (· rfl); (· rfl); (· rfl); (· decide))
 | ((with_reducible apply awO_f); (· rfl); (· rfl); (· exact sv); (· exact sv); (· (first | exact c3 | exact c4)); (· rfl); (· rfl); (· decide))
 | ((with_reducible apply awO_m); (· rfl); (· rfl); (· exact sv); (· (first | exact c3 | exact c4)); (· exact svq); (· exact svq); (· exact svq); (· exact svq); (· rfl); (· exact nd); (with_reducible apply awO_st); (· exact svs))
 | ((first | ((with_reducible apply awO_guard); (· rfl); (· rfl); (· exact sv)) | ((with_reducible apply aw_cond); (· exact sv))); all_goals (intro hg; (try simp only [Bool.not_true, Bool.not_false]); (try simp only [decide_eq_true_eq, decide_eq_false_iff_not, Bool.not_true, Bool.not_false, Bool.not_eq_true', Bool.not_eq_false', Bool.not_not, beq_eq_false_iff_ne, ne_eq, beq_iff_eq, decide_eq_decide] at hg); try (exfalso; omega)))
 | ((with_reducible apply retQ_mk); (· (first | exact .inr rfl | exact .inl rfl)); (· exact sv); (· exact sv); rotate_left; (· rfl)))
          all_goals (rw [hA']; rfl)
        | false =>
          rw [h3, e2] at hA'
          rw [h3] at c4
          simp only [Bool.and_self, Bool.not_false, if_true] at hA'
          by_cases h4 : l[i].b.toNat ≤ l[i + 2].b.toNat
          · rw [if_pos h4, if_neg (by simp)] at hA'
            repeat' (first
 | ((with_reducible apply awO_ev); (· rfl); (· exact sv))
 | ((with_reducible apply aw_seq); intro _ _)
 | (with_reducible apply aw_region)
 | (with_reducible apply aw_block)
 | ((first | (with_reducible apply awO_nil) | (with_reducible apply aw_exit) | (with_reducible apply aw_skip) | (with_reducible apply aw_ret)); (try simp only [CT, ↓reduceIte, Nat.reduceEqDiff]))
 | ((with_reducible apply awO_y); (· rfl); (· rfl); (· decide); (· exact sv); (· exact sv))
 | ((with_reducible apply awO_n); (· rfl); (· rfl); (· decide); (· exact sv); (· rfl); (· rfl); (· decide))
 | ((with_reducible apply awO_u); (· rfl); (· rfl); (· exact svr); (· rfl); (· decide))
 | ((with_reducible apply aw_cond_true); (· exact sv))
 | ((with_reducible apply aw_cond_false); (· exact sv))
 | ((with_reducible apply awO_un); (· rfl); (· decide); (· exact sv))
 | (refine Kont.go ‹Kont _ _ _ _› _ ?_)
 | ((with_reducible apply awO_c); (· rfl); (· rfl); (· exact sv); (· (first | exact c3 | exact c4)); (· rfl); (· rfl); (· rfl); (· decide))
 | ((with_reducible apply awO_f); (· rfl); (· rfl); (· exact sv); (· exact sv); (· (first | exact c3 | exact c4)); (· rfl); (· rfl); (· decide))
 | ((with_reducible apply awO_m); (· rfl); (· rfl); (· exact sv); (· (first | exact c3 | exact c4)); (· exact svq); (· exact svq); (· exact svq); (· exact svq); (· rfl); (· exact nd); (with_reducible apply awO_st); (· exact svs))
 | ((first | ((with_reducible apply awO_guard); (· rfl); (· rfl); (· exact sv)) | ((with_reducible apply aw_cond); (· exact sv))); all_goals (intro hg; (try simp only [Bool.not_true, Bool.not_false]); (try simp only [decide_eq_true_eq, decide_eq_false_iff_not, Bool.not_true, Bool.not_false, Bool.not_eq_true', Bool.not_eq_false', Bool.not_not, beq_eq_false_iff_ne, ne_eq, beq_iff_eq, decide_eq_decide] at hg); try (exfalso; omega)))
 | ((with_reducible apply retQ_mk); (· (first | exact .inr rfl | exact .inl rfl)); (· exact sv); (· exact sv); rotate_left; (· rfl)))
            all_goals (rw [hA']; rfl)
          · rw [if_neg h4, if_pos rfl] at hA'
            repeat' (first
 | ((with_reducible apply awO_ev); (· rfl); (· exact sv))
 | ((with_reducible apply aw_seq); intro _ _)
 | (with_reducible apply aw_region)
 | (with_reducible apply aw_block)
 | ((first | (with_reducible apply awO_nil) | (with_reducible apply aw_exit) | (with_reducible apply aw_skip) | (with_reducible apply aw_ret)); (try simp only [CT, ↓reduceIte, Nat.reduceEqDiff]))
 | ((with_reducible apply awO_y); (· rfl); (· rfl); (· decide); (· exact sv); (· exact sv))
 | ((with_reducible apply awO_n); (· rfl); (· rfl); (· decide); (· exact sv); (· rfl); (· rfl); (· decide))
 | ((with_reducible apply awO_u); (· rfl); (· rfl); (· exact svr); (· rfl); (· decide))
 | ((with_reducible apply aw_cond_true); (· exact sv))
 | ((with_reducible apply aw_cond_false); (· exact sv))
 | ((with_reducible apply awO_un); (· rfl); (· decide); (· exact sv))
 | (refine Kont.go ‹Kont _ _ _ _› _ ?_)
 | ((with_reducible apply awO_c); (· rfl); (· rfl); (· exact sv); (· (first | exact c3 | exact c4)); (· rfl); (· rfl); (· rfl); (· decide))
 | ((with_reducible apply awO_f); (· rfl); (· rfl); (· exact sv); (· exact sv); (· (first | exact c3 | exact c4)); (· rfl); (· rfl); (· decide))
 | ((with_reducible apply awO_m); (· rfl); (· rfl); (· exact sv); (· (first | exact c3 | exact c4)); (· exact svq); (· exact svq); (· exact svq); (· exact svq); (· rfl); (· exact nd); (with_reducible apply awO_st); (· exact svs))
 | ((first | ((with_reducible apply awO_guard); (· rfl); (· rfl); (· exact sv)) | ((with_reducible apply aw_cond); (· exact sv))); all_goals (intro hg; (try simp only [Bool.not_true, Bool.not_false]); (try simp only [decide_eq_true_eq, decide_eq_false_iff_not, Bool.not_true, Bool.not_false, Bool.not_eq_true', Bool.not_eq_false', Bool.not_not, beq_eq_false_iff_ne, ne_eq, beq_iff_eq, decide_eq_decide] at hg); try (exfalso; omega)))
 | ((with_reducible apply retQ_mk); (· (first | exact .inr rfl | exact .inl rfl)); (· exact sv); (· exact sv); rotate_left; (· rfl)))
            all_goals (rw [hA']; rfl)
      · rw [show decide (i + 2 < l.length) = false by simpa using h2] at hA'
        simp only [Bool.and_false, Bool.false_and, Bool.false_eq_true, if_false, List.cons_ne_nil] at hA'
        repeat' (first
 | ((with_reducible apply awO_ev); (· rfl); (· exact sv))
 | ((with_reducible apply aw_seq); intro _ _)
 | (with_reducible apply aw_region)
 | (with_reducible apply aw_block)
 | ((first | (with_reducible apply awO_nil) | (with_reducible apply aw_exit) | (with_reducible apply aw_skip) | (with_reducible apply aw_ret)); (try simp only [CT, ↓reduceIte, Nat.reduceEqDiff]))
 | ((with_reducible apply awO_y); (· rfl); (· rfl); (· decide); (· exact sv); (· exact sv))
 | ((with_reducible apply awO_n); (· rfl); (· rfl); (· decide); (· exact sv); (· rfl); (· rfl); (· decide))
 | ((with_reducible apply awO_u); (· rfl); (· rfl); (· exact svr); (· rfl); (· decide))
 | ((with_reducible apply aw_cond_true); (· exact sv))
 | ((with_reducible apply aw_cond_false); (· exact sv))
 | ((with_reducible apply awO_un); (· rfl); (· decide); (· exact sv))
 | (refine Kont.go ‹Kont _ _ _ _› _ ?_)
 | ((with_reducible apply awO_c); (· rfl); (· rfl); (· exact sv); (· (first | exact c3)); (· rfl); (· rfl); (· rfl); (· decide))
 | ((with_reducible apply awO_f); (· rfl); (· rfl); (· exact sv); (· exact sv); (· (first | exact c3)); (· rfl); (· rfl); (· decide))
 | ((with_reducible apply awO_m); (· rfl); (· rfl); (· exact sv); (· (first | exact c3)); (· exact svq); (· exact svq); (· exact svq); (· exact svq); (· rfl); (· exact nd); (with_reducible apply awO_st); (· exact svs))
 | ((first | ((with_reducible apply awO_guard); (· rfl); (· rfl); (· exact sv)) | ((with_reducible apply aw_cond); (· exact sv))); all_goals (intro hg; (try simp only [Bool.not_true, Bool.not_false]); (try simp only [decide_eq_true_eq, decide_eq_false_iff_not, Bool.not_true, Bool.not_false, Bool.not_eq_true', Bool.not_eq_false', Bool.not_not, beq_eq_false_iff_ne, ne_eq, beq_iff_eq, decide_eq_decide] at hg); try (exfalso; omega)))
 | ((with_reducible apply retQ_mk); (· (first | exact .inr rfl | exact .inl rfl)); (· exact sv); (· exact sv); rotate_left; (· rfl)))
        all_goals (rw [hA']; rfl)
theorem rmember_ab (l : List Cx) (i : Nat) (z : Int) (hz : z = i) (hi : i < l.length) (hl : l.length ≤ 100000) : Ab Try.prog 48 [chsA l, ai z] (.tp [snsA (mbL (l.drop i)), ai ((i + mbN (l.drop i) : Nat) : Int)]) := by
  subst hz
  have h := Fn_nzr (rmember_ab0 l i hi hl _ rfl)
  unfold mbR at h
  by_cases e : mbL (l.drop i) = []
  · rw [if_pos e] at h
    rw [e]
    exact h
  · rw [if_neg e] at h
    exact h
end Go.Proofs.Ytllhcgfdjfmmeaa
