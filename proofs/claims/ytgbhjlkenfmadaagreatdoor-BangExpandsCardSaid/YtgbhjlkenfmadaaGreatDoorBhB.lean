/- The document's history: Get, Begins, Contains; the document's rest and part, on the abstract machine. -/
import Derived.Test.YtgbhjlkenfmadaaGreatDoorBhA
namespace Go.Proofs.YtgbhjlkenfmadaaGreatDoor
open Go.RowKit
set_option linter.unusedVariables false
set_option linter.unusedSimpArgs false
set_option maxRecDepth 100000
set_option maxHeartbeats 8000000
theorem rget_ab (F : Int) (L : List (List UInt8)) (n : Int) (hF : 1 ≤ F ∧ F ≤ 4294967296) (hL : L.length ≤ 100000) : Ab Tryz.prog 43 [hsA F L, ai n] (.tp [az (getR F L n).1, ai (getR F L n).2]) := by
  generalize hR : getR F L n = Rr
  have hg1 : ∀ k, k < L.length → F + (k : Int) = n → getR F L n = (L[k]?.getD [], 0) := fun k hk h => by subst h; unfold getR; rw [getL_idx hk, List.getElem?_eq_getElem hk]; rfl
  have hg2 : (∀ k : Nat, k < L.length → F + (k : Int) ≠ n) → getR F L n = ([], 8) := fun h => by
    unfold getR getL
    rw [if_neg]
    intro ⟨h1, h2⟩
    exact h (n - F).toNat (by omega) (by omega)
  refine Fn_of_aw (keep := []) Tryz.func43 rfl rfl (by simp [Tryz.ntmps43]) ?_
  simp only [num_cons, num_nil, Tryz.ntmps43, Tryz.results43]
  repeat' (first
 | ((with_reducible apply awO_ev); (· rfl); (· exact sv))
 | ((with_reducible apply aw_seq); intro _ _)
 | (with_reducible apply aw_region)
 | (with_reducible apply aw_block)
 | ((with_reducible first | apply awO_nil | apply aw_exit | apply aw_skip | apply aw_ret); (try simp only [CT, ↓reduceIte, Nat.reduceEqDiff]))
 | (refine Kont.go ‹Kont _ _ _ _› _ ?_))
  refine aw_loopF (fun i : Nat => [(6, ai i)]) (fun _ => [(2, [ai F, .rd L.length (L.map az)])]) (fun i => i ≤ L.length ∧ ∀ k : Nat, k < i → F + (k : Int) ≠ n) (fun i => L.length - i) 0 ⟨by omega, fun k h => by omega⟩ ?_ ?_ ?_
  · exact ⟨rfl, trivial⟩
  · exact ⟨rfl, trivial⟩
  intro i ⟨hi, hI⟩
  (simp only [LP, List.append_assoc, List.nil_append, List.cons_append, List.append_nil, List.contains_cons, List.contains_nil, Nat.reduceBEq, Bool.or_false, Bool.or_true, Bool.true_or, Bool.false_or, ↓reduceIte, Bool.false_eq_true])
  by_cases hil : i < L.length
  · by_cases hc : F + (i : Int) = n
    · have e := hg1 i hil hc
      rw [hR, List.getElem?_eq_getElem hil, Option.getD_some] at e
      repeat' (first
 | ((with_reducible apply awO_ev); (· rfl); (· exact sv))
 | ((with_reducible apply aw_seq); intro _ _)
 | (with_reducible apply aw_region)
 | (with_reducible apply aw_block)
 | ((with_reducible first | apply awO_nil | apply aw_exit | apply aw_skip | apply aw_ret); (try simp only [CT, ↓reduceIte, Nat.reduceEqDiff]))
 | (refine Kont.go ‹Kont _ _ _ _› _ ?_)
 | ((first | ((with_reducible apply awO_guardN); (· rfl); (· rfl); (· exact sv); (· exact nB)) | ((with_reducible apply aw_condN); (· exact sv))); (· exact pN); (· exact pN); all_goals (intro hg; try (exfalso; omega)))
 | ((with_reducible apply retQ_mk); (· exact rI); (· exact sv); (· exact sv); rotate_left; (· rfl)))
      all_goals first | rfl | (rw [e]; done) | (rw [e]; rfl)
    · skip
      repeat' (first
 | ((with_reducible apply awO_ev); (· rfl); (· exact sv))
 | ((with_reducible apply aw_seq); intro _ _)
 | (with_reducible apply aw_region)
 | (with_reducible apply aw_block)
 | ((with_reducible first | apply awO_nil | apply aw_exit | apply aw_skip | apply aw_ret); (try simp only [CT, ↓reduceIte, Nat.reduceEqDiff]))
 | (refine Kont.go ‹Kont _ _ _ _› _ ?_)
 | ((first | ((with_reducible apply awO_guardN); (· rfl); (· rfl); (· exact sv); (· exact nB)) | ((with_reducible apply aw_condN); (· exact sv))); (· exact pN); (· exact pN); all_goals (intro hg; try (exfalso; omega))))
      refine LE_mk (i + 1) ⟨by omega, fun k hk => ?_⟩ (by omega) sN sN ⟨rfl, trivial⟩
      by_cases h : k = i
      · rw [h]; exact hc
      · exact hI k (by omega)
  · have e := hg2 (fun k hk => hI k (by omega))
    rw [hR] at e
    repeat' (first
 | ((with_reducible apply awO_ev); (· rfl); (· exact sv))
 | ((with_reducible apply aw_seq); intro _ _)
 | (with_reducible apply aw_region)
 | ((with_reducible first | apply awO_nil | apply aw_exit | apply aw_skip | apply aw_ret); (try simp only [CT, ↓reduceIte, Nat.reduceEqDiff]))
 | (refine Kont.go ‹Kont _ _ _ _› _ ?_)
 | ((first | ((with_reducible apply awO_guardN); (· rfl); (· rfl); (· exact sv); (· exact nB)) | ((with_reducible apply aw_condN); (· exact sv))); (· exact pN); (· exact pN); all_goals (intro hg; try (exfalso; omega)))
 | ((with_reducible apply retQ_mk); (· exact rI); (· exact sv); (· exact sv); rotate_left; (· rfl)))
    all_goals first | rfl | (rw [e]; done) | (rw [e]; rfl)
theorem rbegins_ab (l p : List UInt8) (hl : l.length ≤ 100000) (hp : p.length ≤ 100000) : Ab Tryz.prog 116 [az l, az p] (ab (p.isPrefixOf l)) := by
  rw [isPrefixOf_take]
  by_cases h : p.length ≤ l.length
  · by_cases h2 : l.take p.length = p
    · have e : decide (p.length ≤ l.length ∧ l.take p.length = p) = true := decide_eq_true ⟨h, h2⟩
      refine Fn_of_aw (keep := []) Tryz.func116 rfl rfl (by simp [Tryz.ntmps116]) ?_
      simp only [num_cons, num_nil, Tryz.ntmps116, Tryz.results116]
      repeat' (first
 | ((with_reducible apply awO_ev); (· rfl); (· exact sv))
 | ((with_reducible apply aw_seq); intro _ _)
 | (with_reducible apply aw_region)
 | ((with_reducible first | apply awO_nil | apply aw_exit | apply aw_skip | apply aw_ret); (try simp only [CT, ↓reduceIte, Nat.reduceEqDiff]))
 | ((with_reducible apply awO_y); (· rfl); (· rfl); (· decide); (· exact sv); (· exact sv))
 | (refine Kont.go ‹Kont _ _ _ _› _ ?_)
 | ((first | ((with_reducible apply awO_guardN); (· rfl); (· rfl); (· exact sv); (· exact nB)) | ((with_reducible apply aw_condN); (· exact sv))); (· exact pN); (· exact pN); all_goals (intro hg; try (exfalso; omega)))
 | ((with_reducible apply retQ_mk); (· exact rI); (· exact sv); (· exact sv); rotate_left; (· rfl)))
      all_goals first | rfl | (rw [e]; done) | (rw [e]; exact ab_eq (by simp [h2]))
    · have e : decide (p.length ≤ l.length ∧ l.take p.length = p) = false := decide_eq_false (fun h' => h2 h'.2)
      refine Fn_of_aw (keep := []) Tryz.func116 rfl rfl (by simp [Tryz.ntmps116]) ?_
      simp only [num_cons, num_nil, Tryz.ntmps116, Tryz.results116]
      repeat' (first
 | ((with_reducible apply awO_ev); (· rfl); (· exact sv))
 | ((with_reducible apply aw_seq); intro _ _)
 | (with_reducible apply aw_region)
 | ((with_reducible first | apply awO_nil | apply aw_exit | apply aw_skip | apply aw_ret); (try simp only [CT, ↓reduceIte, Nat.reduceEqDiff]))
 | ((with_reducible apply awO_y); (· rfl); (· rfl); (· decide); (· exact sv); (· exact sv))
 | (refine Kont.go ‹Kont _ _ _ _› _ ?_)
 | ((first | ((with_reducible apply awO_guardN); (· rfl); (· rfl); (· exact sv); (· exact nB)) | ((with_reducible apply aw_condN); (· exact sv))); (· exact pN); (· exact pN); all_goals (intro hg; try (exfalso; omega)))
 | ((with_reducible apply retQ_mk); (· exact rI); (· exact sv); (· exact sv); rotate_left; (· rfl)))
      all_goals first | rfl | (rw [e]; done) | (rw [e]; exact ab_eq (by simp [h2]))
  · have e : decide (p.length ≤ l.length ∧ l.take p.length = p) = false := decide_eq_false (fun h' => h h'.1)
    refine Fn_of_aw (keep := []) Tryz.func116 rfl rfl (by simp [Tryz.ntmps116]) ?_
    simp only [num_cons, num_nil, Tryz.ntmps116, Tryz.results116]
    repeat' (first
 | ((with_reducible apply awO_ev); (· rfl); (· exact sv))
 | ((with_reducible apply aw_seq); intro _ _)
 | (with_reducible apply aw_region)
 | ((with_reducible first | apply awO_nil | apply aw_exit | apply aw_skip | apply aw_ret); (try simp only [CT, ↓reduceIte, Nat.reduceEqDiff]))
 | ((with_reducible apply awO_n); (· rfl); (· rfl); (· decide); (· exact sv); (· rfl); (· rfl); (· decide))
 | (refine Kont.go ‹Kont _ _ _ _› _ ?_)
 | ((first | ((with_reducible apply awO_guardN); (· rfl); (· rfl); (· exact sv); (· exact nB)) | ((with_reducible apply aw_condN); (· exact sv))); (· exact pN); (· exact pN); all_goals (intro hg; try (exfalso; omega)))
 | ((with_reducible apply retQ_mk); (· exact rI); (· exact sv); (· exact sv); rotate_left; (· rfl)))
    all_goals first | rfl | (rw [e]; done)
theorem rcontains3_ab (l p : List UInt8) (hl : l.length ≤ 100000) (hp : p.length ≤ 100000) (hp0 : p ≠ []) : Ab Tryz.prog 136 [az l, az p] (ab (ixN p l).isSome) := by
  have hpos : 0 < p.length := List.length_pos_iff.2 hp0
  have h0 : (ixN p l).isSome = decide (ixS p l 0 ≠ -1) := by
    rw [ixS_zero]; unfold ixI
    cases ixN p l with
    | none => rfl
    | some k => simp
  rw [h0]
  generalize hR : ixS p l 0 = Rr
  refine Fn_of_aw (keep := []) Tryz.func136 rfl rfl (by simp [Tryz.ntmps136]) ?_
  simp only [num_cons, num_nil, Tryz.ntmps136, Tryz.results136]
  repeat' (first
 | ((with_reducible apply awO_ev); (· rfl); (· exact sv))
 | ((with_reducible apply aw_seq); intro _ _)
 | (with_reducible apply aw_region)
 | (with_reducible apply aw_block)
 | ((with_reducible first | apply awO_nil | apply aw_exit | apply aw_skip | apply aw_ret); (try simp only [CT, ↓reduceIte, Nat.reduceEqDiff]))
 | (refine Kont.go ‹Kont _ _ _ _› _ ?_))
  refine aw_loopF (fun i : Nat => [(5, ai i)]) (fun _ => []) (fun i => i ≤ 200000 ∧ Rr = ixS p l i) (fun i => 200001 - i) 0 ⟨by omega, hR.symm⟩ ?_ ?_ ?_
  · exact ⟨rfl, trivial⟩
  · exact trivial
  intro i ⟨hi, hI⟩
  clear hR h0
  (simp only [LP, List.append_assoc, List.nil_append, List.cons_append, List.append_nil, List.contains_cons, List.contains_nil, Nat.reduceBEq, Bool.or_false, Bool.or_true, Bool.true_or, Bool.false_or, ↓reduceIte, Bool.false_eq_true])
  by_cases hl2 : i + p.length ≤ l.length
  · have e1 : i + p.length - i = p.length := by omega
    by_cases he : (l.drop i).take p.length = p
    · rw [ixS_hit hp0 hl2 he] at hI
      have e : decide (Rr ≠ -1) = true := decide_eq_true (by omega)
      repeat' (first
 | ((with_reducible apply awO_ev); (· rfl); (· exact sv))
 | ((with_reducible apply aw_seq); intro _ _)
 | (with_reducible apply aw_region)
 | (with_reducible apply aw_block)
 | ((with_reducible first | apply awO_nil | apply aw_exit | apply aw_skip | apply aw_ret); (try simp only [CT, ↓reduceIte, Nat.reduceEqDiff]))
 | (refine Kont.go ‹Kont _ _ _ _› _ ?_)
 | ((first | ((with_reducible apply awO_guardN); (· rfl); (· rfl); (· exact sv); (· exact nB)) | ((with_reducible apply aw_condN); (· exact sv))); (· exact pN); (· exact pN); all_goals (intro hg; try (exfalso; omega)))
 | ((with_reducible apply retQ_mk); (· exact rI); (· exact sv); (· exact sv); rotate_left; (· rfl)))
      all_goals first | (exfalso; rw [e1] at hg; exact hg he) | rfl | (rw [e]; done)
    · rw [ixS_miss hp0 hl2 he] at hI
      repeat' (first
 | ((with_reducible apply awO_ev); (· rfl); (· exact sv))
 | ((with_reducible apply aw_seq); intro _ _)
 | (with_reducible apply aw_region)
 | (with_reducible apply aw_block)
 | ((with_reducible first | apply awO_nil | apply aw_exit | apply aw_skip | apply aw_ret); (try simp only [CT, ↓reduceIte, Nat.reduceEqDiff]))
 | (refine Kont.go ‹Kont _ _ _ _› _ ?_)
 | ((first | ((with_reducible apply awO_guardN); (· rfl); (· rfl); (· exact sv); (· exact nB)) | ((with_reducible apply aw_condN); (· exact sv))); (· exact pN); (· exact pN); all_goals (intro hg; try (exfalso; omega)))
 | ((with_reducible apply retQ_mk); (· exact rI); (· exact sv); (· exact sv); rotate_left; (· rfl)))
      all_goals first | (exfalso; rw [e1] at hg; exact he hg) | (refine LE_mk (i + 1) ⟨by omega, hI⟩ (by omega) sN sN sN)
  · rw [ixS_short (by omega) hp0] at hI
    have e : decide (Rr ≠ -1) = false := decide_eq_false (by simp [hI])
    repeat' (first
 | ((with_reducible apply awO_ev); (· rfl); (· exact sv))
 | ((with_reducible apply aw_seq); intro _ _)
 | (with_reducible apply aw_region)
 | ((with_reducible first | apply awO_nil | apply aw_exit | apply aw_skip | apply aw_ret); (try simp only [CT, ↓reduceIte, Nat.reduceEqDiff]))
 | (refine Kont.go ‹Kont _ _ _ _› _ ?_)
 | ((first | ((with_reducible apply awO_guardN); (· rfl); (· rfl); (· exact sv); (· exact nB)) | ((with_reducible apply aw_condN); (· exact sv))); (· exact pN); (· exact pN); all_goals (intro hg; try (exfalso; omega)))
 | ((with_reducible apply retQ_mk); (· exact rI); (· exact sv); (· exact sv); rotate_left; (· rfl)))
    all_goals first | rfl | (rw [e]; done)
theorem rBegins_ab (F : Int) (p : List UInt8) (L : List (List UInt8)) (hF : 1 ≤ F ∧ F ≤ 4294967296) (hL : L.length ≤ 100000) (hl : ∀ l ∈ L, l.length ≤ 100000) (hp : p.length ≤ 100000) :
    Ab Tryz.prog 75 [hsA F L, az p] (.tp [ai (numR F (fun l => p.isPrefixOf l) L).1, ab (numR F (fun l => p.isPrefixOf l) L).2]) := by
  generalize hR : numR F (fun l => p.isPrefixOf l) L = Rr
  refine Fn_of_aw (keep := []) Tryz.func75 rfl rfl (by simp [Tryz.ntmps75]) ?_
  simp only [num_cons, num_nil, Tryz.ntmps75, Tryz.results75]
  repeat' (first
 | ((with_reducible apply awO_ev); (· rfl); (· exact sv))
 | ((with_reducible apply aw_seq); intro _ _)
 | (with_reducible apply aw_region)
 | (with_reducible apply aw_block)
 | ((with_reducible first | apply awO_nil | apply aw_exit | apply aw_skip | apply aw_ret); (try simp only [CT, ↓reduceIte, Nat.reduceEqDiff]))
 | (refine Kont.go ‹Kont _ _ _ _› _ ?_))
  refine aw_loopF (fun k : Nat => [(6, ai ((k : Int) - 1))]) (fun _ => [(2, [ai F, .rd L.length (L.map az)])]) (fun k => k ≤ L.length ∧ Rr = numR F (fun l => p.isPrefixOf l) (L.take k)) (fun k => k) L.length ⟨Nat.le_refl _, by rw [List.take_length]; exact hR.symm⟩ ?_ ?_ ?_
  · exact ⟨rfl, trivial⟩
  · exact ⟨rfl, trivial⟩
  intro k ⟨hk, hI⟩
  clear hR
  (simp only [LP, List.append_assoc, List.nil_append, List.cons_append, List.append_nil, List.contains_cons, List.contains_nil, Nat.reduceBEq, Bool.or_false, Bool.or_true, Bool.true_or, Bool.false_or, ↓reduceIte, Bool.false_eq_true])
  cases k with
  | zero =>
    have e : Rr = (0, false) := by rw [hI]; rfl
    repeat' (first
 | ((with_reducible apply awO_ev); (· rfl); (· exact sv))
 | ((with_reducible apply aw_seq); intro _ _)
 | (with_reducible apply aw_region)
 | ((with_reducible first | apply awO_nil | apply aw_exit | apply aw_skip | apply aw_ret); (try simp only [CT, ↓reduceIte, Nat.reduceEqDiff]))
 | ((with_reducible apply aw_cond_false); (· exact sv))
 | (refine Kont.go ‹Kont _ _ _ _› _ ?_)
 | ((with_reducible apply retQ_mk); (· exact rI); (· exact sv); (· exact sv); rotate_left; (· rfl)))
    all_goals first | rfl | (rw [e]; done) | (rw [e]; rfl)
  | succ k =>
    have hkl : k < L.length := by omega
    have e1 : ((k + 1 : Nat) : Int) - 1 = k := by omega
    rw [e1]
    have hli := hl _ (List.getElem_mem hkl)
    have c1 := rbegins_ab L[k] p hli hp
    have hst : numR F (fun l => p.isPrefixOf l) (L.take (k + 1)) = if (fun l => p.isPrefixOf l) L[k] = true then (F + k, true) else numR F (fun l => p.isPrefixOf l) (L.take k) := by
      unfold numR
      rw [lstI_take hkl]
      by_cases h : p.isPrefixOf L[k] = true
      · simp only [if_pos h]
      · simp only [if_neg h]
    rw [hst] at hI
    simp only at hI
    by_cases hb : p.isPrefixOf L[k] = true
    · rw [hb] at c1
      rw [if_pos hb] at hI
      have e := hI
      repeat' (first
 | ((with_reducible apply awO_ev); (· rfl); (· exact sv))
 | ((with_reducible apply aw_seq); intro _ _)
 | (with_reducible apply aw_region)
 | (with_reducible apply aw_block)
 | ((with_reducible first | apply awO_nil | apply aw_exit | apply aw_skip | apply aw_ret); (try simp only [CT, ↓reduceIte, Nat.reduceEqDiff]))
 | ((with_reducible apply aw_cond_true); (· exact sv))
 | (refine Kont.go ‹Kont _ _ _ _› _ ?_)
 | ((with_reducible apply awO_c); (· rfl); (· rfl); (· exact sv); (· (first | exact c1)); (· rfl); (· rfl); (· rfl); (· decide))
 | ((first | ((with_reducible apply awO_guardN); (· rfl); (· rfl); (· exact sv); (· exact nB)) | ((with_reducible apply aw_condN); (· exact sv))); (· exact pN); (· exact pN); all_goals (intro hg; try (exfalso; omega)))
 | ((with_reducible apply retQ_mk); (· exact rI); (· exact sv); (· exact sv); rotate_left; (· rfl)))
      all_goals first | rfl | (rw [e]; done) | (rw [e]; rfl)
    · rw [if_neg hb] at hI
      rw [show p.isPrefixOf L[k] = false from (Bool.not_eq_true _).mp hb] at c1
      repeat' (first
 | ((with_reducible apply awO_ev); (· rfl); (· exact sv))
 | ((with_reducible apply aw_seq); intro _ _)
 | (with_reducible apply aw_region)
 | (with_reducible apply aw_block)
 | ((with_reducible first | apply awO_nil | apply aw_exit | apply aw_skip | apply aw_ret); (try simp only [CT, ↓reduceIte, Nat.reduceEqDiff]))
 | ((with_reducible apply aw_cond_false); (· exact sv))
 | (refine Kont.go ‹Kont _ _ _ _› _ ?_)
 | ((with_reducible apply awO_c); (· rfl); (· rfl); (· exact sv); (· (first | exact c1)); (· rfl); (· rfl); (· rfl); (· decide))
 | ((first | ((with_reducible apply awO_guardN); (· rfl); (· rfl); (· exact sv); (· exact nB)) | ((with_reducible apply aw_condN); (· exact sv))); (· exact pN); (· exact pN); all_goals (intro hg; try (exfalso; omega))))
      refine LE_mk k ⟨by omega, hI⟩ (by omega) sN sN ⟨rfl, trivial⟩
theorem rContains_ab (F : Int) (p : List UInt8) (L : List (List UInt8)) (hF : 1 ≤ F ∧ F ≤ 4294967296) (hL : L.length ≤ 100000) (hl : ∀ l ∈ L, l.length ≤ 100000) (hp : p.length ≤ 100000) (hp0 : p ≠ []) :
    Ab Tryz.prog 115 [hsA F L, az p] (.tp [ai (numR F (fun l => (ixN p l).isSome) L).1, ab (numR F (fun l => (ixN p l).isSome) L).2]) := by
  generalize hR : numR F (fun l => (ixN p l).isSome) L = Rr
  refine Fn_of_aw (keep := []) Tryz.func115 rfl rfl (by simp [Tryz.ntmps115]) ?_
  simp only [num_cons, num_nil, Tryz.ntmps115, Tryz.results115]
  repeat' (first
 | ((with_reducible apply awO_ev); (· rfl); (· exact sv))
 | ((with_reducible apply aw_seq); intro _ _)
 | (with_reducible apply aw_region)
 | (with_reducible apply aw_block)
 | ((with_reducible first | apply awO_nil | apply aw_exit | apply aw_skip | apply aw_ret); (try simp only [CT, ↓reduceIte, Nat.reduceEqDiff]))
 | (refine Kont.go ‹Kont _ _ _ _› _ ?_))
  refine aw_loopF (fun k : Nat => [(6, ai ((k : Int) - 1))]) (fun _ => [(2, [ai F, .rd L.length (L.map az)])]) (fun k => k ≤ L.length ∧ Rr = numR F (fun l => (ixN p l).isSome) (L.take k)) (fun k => k) L.length ⟨Nat.le_refl _, by rw [List.take_length]; exact hR.symm⟩ ?_ ?_ ?_
  · exact ⟨rfl, trivial⟩
  · exact ⟨rfl, trivial⟩
  intro k ⟨hk, hI⟩
  clear hR
  (simp only [LP, List.append_assoc, List.nil_append, List.cons_append, List.append_nil, List.contains_cons, List.contains_nil, Nat.reduceBEq, Bool.or_false, Bool.or_true, Bool.true_or, Bool.false_or, ↓reduceIte, Bool.false_eq_true])
  cases k with
  | zero =>
    have e : Rr = (0, false) := by rw [hI]; rfl
    repeat' (first
 | ((with_reducible apply awO_ev); (· rfl); (· exact sv))
 | ((with_reducible apply aw_seq); intro _ _)
 | (with_reducible apply aw_region)
 | ((with_reducible first | apply awO_nil | apply aw_exit | apply aw_skip | apply aw_ret); (try simp only [CT, ↓reduceIte, Nat.reduceEqDiff]))
 | ((with_reducible apply aw_cond_false); (· exact sv))
 | (refine Kont.go ‹Kont _ _ _ _› _ ?_)
 | ((with_reducible apply retQ_mk); (· exact rI); (· exact sv); (· exact sv); rotate_left; (· rfl)))
    all_goals first | rfl | (rw [e]; done) | (rw [e]; rfl)
  | succ k =>
    have hkl : k < L.length := by omega
    have e1 : ((k + 1 : Nat) : Int) - 1 = k := by omega
    rw [e1]
    have hli := hl _ (List.getElem_mem hkl)
    have c1 := rcontains3_ab L[k] p hli hp hp0
    have hst : numR F (fun l => (ixN p l).isSome) (L.take (k + 1)) = if (fun l => (ixN p l).isSome) L[k] = true then (F + k, true) else numR F (fun l => (ixN p l).isSome) (L.take k) := by
      unfold numR
      rw [lstI_take hkl]
      by_cases h : (ixN p L[k]).isSome = true
      · simp only [if_pos h]
      · simp only [if_neg h]
    rw [hst] at hI
    simp only at hI
    by_cases hb : (ixN p L[k]).isSome = true
    · rw [hb] at c1
      rw [if_pos hb] at hI
      have e := hI
      repeat' (first
 | ((with_reducible apply awO_ev); (· rfl); (· exact sv))
 | ((with_reducible apply aw_seq); intro _ _)
 | (with_reducible apply aw_region)
 | (with_reducible apply aw_block)
 | ((with_reducible first | apply awO_nil | apply aw_exit | apply aw_skip | apply aw_ret); (try simp only [CT, ↓reduceIte, Nat.reduceEqDiff]))
 | ((with_reducible apply aw_cond_true); (· exact sv))
 | (refine Kont.go ‹Kont _ _ _ _› _ ?_)
 | ((with_reducible apply awO_c); (· rfl); (· rfl); (· exact sv); (· (first | exact c1)); (· rfl); (· rfl); (· rfl); (· decide))
 | ((first | ((with_reducible apply awO_guardN); (· rfl); (· rfl); (· exact sv); (· exact nB)) | ((with_reducible apply aw_condN); (· exact sv))); (· exact pN); (· exact pN); all_goals (intro hg; try (exfalso; omega)))
 | ((with_reducible apply retQ_mk); (· exact rI); (· exact sv); (· exact sv); rotate_left; (· rfl)))
      all_goals first | rfl | (rw [e]; done) | (rw [e]; rfl)
    · rw [if_neg hb] at hI
      rw [show (ixN p L[k]).isSome = false from (Bool.not_eq_true _).mp hb] at c1
      repeat' (first
 | ((with_reducible apply awO_ev); (· rfl); (· exact sv))
 | ((with_reducible apply aw_seq); intro _ _)
 | (with_reducible apply aw_region)
 | (with_reducible apply aw_block)
 | ((with_reducible first | apply awO_nil | apply aw_exit | apply aw_skip | apply aw_ret); (try simp only [CT, ↓reduceIte, Nat.reduceEqDiff]))
 | ((with_reducible apply aw_cond_false); (· exact sv))
 | (refine Kont.go ‹Kont _ _ _ _› _ ?_)
 | ((with_reducible apply awO_c); (· rfl); (· rfl); (· exact sv); (· (first | exact c1)); (· rfl); (· rfl); (· rfl); (· decide))
 | ((first | ((with_reducible apply awO_guardN); (· rfl); (· rfl); (· exact sv); (· exact nB)) | ((with_reducible apply aw_condN); (· exact sv))); (· exact pN); (· exact pN); all_goals (intro hg; try (exfalso; omega))))
      refine LE_mk k ⟨by omega, hI⟩ (by omega) sN sN ⟨rfl, trivial⟩

/-- The last place of c from i to k. -/
def rsZ (c : UInt8) (s : List UInt8) (i k : Nat) : Int := if lsN c ((s.take k).drop i) = -1 then -1 else i + lsN c ((s.take k).drop i)
theorem rsZ_step {c : UInt8} {s : List UInt8} {i k : Nat} (hk : k < s.length) (hi : i ≤ k) : rsZ c s i (k + 1) = if s[k] = c then (k : Int) else rsZ c s i k := by
  have e : (s.take (k + 1)).drop i = (s.take k).drop i ++ [s[k]] := by
    rw [List.take_succ_eq_append_getElem hk, List.drop_append_of_le_length (by simp only [List.length_take]; omega)]
  have hl : ((s.take k).drop i).length = k - i := by simp only [List.length_drop, List.length_take]; omega
  unfold rsZ
  rw [e, lsN_snoc, hl]
  by_cases h : s[k] = c
  · rw [if_pos h, if_pos h, if_neg (by omega)]; omega
  · rw [if_neg h, if_neg h]
theorem rrest_ab (s : List UInt8) (c : UInt8) (i : Nat) (z : Int) (hz : z = i) (hi : i ≤ s.length) (hs : s.length ≤ 100000000) : Ab Tryz.prog 118 [az s, au c, ai z] (ai (rsZ c s i s.length)) := by
  subst hz
  generalize hR : rsZ c s i s.length = Rr
  refine Fn_of_aw (keep := []) Tryz.func118 rfl rfl (by simp [Tryz.ntmps118]) ?_
  simp only [num_cons, num_nil, Tryz.ntmps118, Tryz.results118]
  repeat' (first
 | ((with_reducible apply awO_ev); (· rfl); (· exact sv))
 | ((with_reducible apply aw_seq); intro _ _)
 | (with_reducible apply aw_region)
 | (with_reducible apply aw_block)
 | ((with_reducible first | apply awO_nil | apply aw_exit | apply aw_skip | apply aw_ret); (try simp only [CT, ↓reduceIte, Nat.reduceEqDiff]))
 | (refine Kont.go ‹Kont _ _ _ _› _ ?_))
  refine aw_loopF (fun x : Nat × Int => [(7, ai x.2), (8, ai x.1)]) (fun _ => []) (fun x => i ≤ x.1 ∧ x.1 ≤ s.length ∧ x.2 = rsZ c s i x.1) (fun x => s.length - x.1) (i, -1) ⟨Nat.le_refl _, hi, by unfold rsZ; rw [List.drop_eq_nil_of_le (by simp only [List.length_take]; omega)]; rfl⟩ ?_ ?_ ?_
  · exact ⟨rfl, rfl, trivial⟩
  · exact trivial
  rintro ⟨k, f⟩ ⟨h1, h2, hI⟩
  simp only at h1 h2 hI
  (simp only [LP, List.append_assoc, List.nil_append, List.cons_append, List.append_nil, List.contains_cons, List.contains_nil, Nat.reduceBEq, Bool.or_false, Bool.or_true, Bool.true_or, Bool.false_or, ↓reduceIte, Bool.false_eq_true])
  by_cases hkl : k < s.length
  · have hst := rsZ_step (c := c) hkl h1
    by_cases hc : s[k] = c
    · rw [if_pos hc] at hst
      have hc2 : (s[k].toNat : Int) = c.toNat := by rw [hc]
      repeat' (first
 | ((with_reducible apply awO_ev); (· rfl); (· exact sv))
 | ((with_reducible apply aw_seq); intro _ _)
 | (with_reducible apply aw_region)
 | (with_reducible apply aw_block)
 | ((with_reducible first | apply awO_nil | apply aw_exit | apply aw_skip | apply aw_ret); (try simp only [CT, ↓reduceIte, Nat.reduceEqDiff]))
 | (refine Kont.go ‹Kont _ _ _ _› _ ?_)
 | ((first | ((with_reducible apply awO_guardN); (· rfl); (· rfl); (· exact sv); (· exact nB)) | ((with_reducible apply aw_condN); (· exact sv))); (· exact pN); (· exact pN); all_goals (intro hg; try (exfalso; omega))))
      refine LE_mk (k + 1, (k : Int)) ⟨by simp only; omega, hkl, hst.symm⟩ (by simp only; omega) sN sN sN
    · rw [if_neg hc] at hst
      have hc2 : ¬ (s[k].toNat : Int) = c.toNat := fun h => hc (UInt8.toNat_inj.1 (by omega))
      repeat' (first
 | ((with_reducible apply awO_ev); (· rfl); (· exact sv))
 | ((with_reducible apply aw_seq); intro _ _)
 | (with_reducible apply aw_region)
 | (with_reducible apply aw_block)
 | ((with_reducible first | apply awO_nil | apply aw_exit | apply aw_skip | apply aw_ret); (try simp only [CT, ↓reduceIte, Nat.reduceEqDiff]))
 | (refine Kont.go ‹Kont _ _ _ _› _ ?_)
 | ((first | ((with_reducible apply awO_guardN); (· rfl); (· rfl); (· exact sv); (· exact nB)) | ((with_reducible apply aw_condN); (· exact sv))); (· exact pN); (· exact pN); all_goals (intro hg; try (exfalso; omega))))
      refine LE_mk (k + 1, f) ⟨by simp only; omega, hkl, by simp only; rw [hI, hst]⟩ (by simp only; omega) sN sN sN
  · have e : Rr = f := by rw [hI, ← hR]; congr 1; omega
    repeat' (first
 | ((with_reducible apply awO_ev); (· rfl); (· exact sv))
 | ((with_reducible apply aw_seq); intro _ _)
 | (with_reducible apply aw_region)
 | ((with_reducible first | apply awO_nil | apply aw_exit | apply aw_skip | apply aw_ret); (try simp only [CT, ↓reduceIte, Nat.reduceEqDiff]))
 | (refine Kont.go ‹Kont _ _ _ _› _ ?_)
 | ((first | ((with_reducible apply awO_guardN); (· rfl); (· rfl); (· exact sv); (· exact nB)) | ((with_reducible apply aw_condN); (· exact sv))); (· exact pN); (· exact pN); all_goals (intro hg; try (exfalso; omega)))
 | ((with_reducible apply retQ_mk); (· exact rI); (· exact sv); (· exact sv); rotate_left; (· rfl)))
    all_goals (rw [e]; done)
theorem rpart_ab (t : List UInt8) (b : UInt8) (ht : t.length ≤ 100000000) : Ab Tryz.prog 78 [az t, au b] (az (parF t b)) := by
  have hd := dirN_le t
  have c1 := rrest_ab t 47 0 0 rfl (by omega) ht
  have hz0 : rsZ 47 t 0 t.length = lsN 47 t := by
    unfold rsZ
    rw [List.take_length, List.drop_zero]
    split
    · next h => exact h.symm
    · omega
  rw [hz0] at c1
  have h1 := lsN_ge 47 t
  have hdn : lsN 47 t = (dirN t : Int) - 1 := by unfold dirN; omega
  have c2 := fun z hz => rrest_ab t 46 (dirN t) z hz hd ht
  have hz1 : rsZ 46 t (dirN t) t.length = if lsN 46 (t.drop (dirN t)) = -1 then -1 else dirN t + lsN 46 (t.drop (dirN t)) := by unfold rsZ; rw [List.take_length]
  rw [hz1] at c2
  have h2 := lsN_ge 46 (t.drop (dirN t))
  have h3 := lsN_lt 46 (t.drop (dirN t))
  rw [List.length_drop] at h3
  have e0 : parF t b = if b = 104 then (if dirN t = 0 then t else t.take (dirN t - 1))
      else if b = 116 then t.drop (dirN t)
      else if b = 114 then (if 0 ≤ lsN 46 (t.drop (dirN t)) then t.take (dirN t + (lsN 46 (t.drop (dirN t))).toNat) else t)
      else if b = 101 then (if 0 ≤ lsN 46 (t.drop (dirN t)) then t.drop (dirN t + (lsN 46 (t.drop (dirN t))).toNat) else [])
      else t := rfl
  rw [hdn] at c1
  generalize lsN 46 (t.drop (dirN t)) = q at *
  generalize dirN t = d at *
  have key : ∀ c : UInt8, ∀ n : Nat, c.toNat = n → (b = c ↔ b.toNat = n) := fun c n hc => ⟨fun h => by rw [h, hc], fun h => UInt8.toNat_inj.1 (by omega)⟩
  by_cases hq : q = -1
  · rw [if_pos hq] at c2
    subst hq
    simp only [show ¬ (0 : Int) ≤ -1 from by decide, if_false] at e0
    generalize parF t b = R at *
    by_cases k1 : b.toNat = 104
    · rw [if_pos ((key 104 104 rfl).2 k1)] at e0
      by_cases k0 : d = 0
      · rw [if_pos k0] at e0
        have e := e0
        refine Fn_of_aw (keep := []) Tryz.func78 rfl rfl (by simp [Tryz.ntmps78]) ?_
        simp only [num_cons, num_nil, Tryz.ntmps78, Tryz.results78]
        repeat' (first
 | ((with_reducible apply awO_ev); (· rfl); (· exact sv))
 | ((with_reducible apply aw_seq); intro _ _)
 | (with_reducible apply aw_region)
 | (with_reducible apply aw_block)
 | ((with_reducible first | apply awO_nil | apply aw_exit | apply aw_skip | apply aw_ret); (try simp only [CT, ↓reduceIte, Nat.reduceEqDiff]))
 | ((with_reducible apply awO_y); (· rfl); (· rfl); (· decide); (· exact sv); (· exact sv))
 | ((with_reducible apply awO_n); (· rfl); (· rfl); (· decide); (· exact sv); (· rfl); (· rfl); (· decide))
 | ((with_reducible apply aw_cond_false); (· exact sv))
 | (refine Kont.go ‹Kont _ _ _ _› _ ?_)
 | ((with_reducible apply awO_c); (· rfl); (· rfl); (· exact sv); (· (first | exact c1 | exact c2 _ (by omega))); (· rfl); (· rfl); (· rfl); (· decide))
 | ((first | ((with_reducible apply awO_guardN); (· rfl); (· rfl); (· exact sv); (· exact nB)) | ((with_reducible apply aw_condN); (· exact sv))); (· exact pN); (· exact pN); all_goals (intro hg; try (exfalso; omega)))
 | ((with_reducible apply retQ_mk); (· exact rI); (· exact sv); (· exact sv); rotate_left; (· rfl)))
        all_goals first | rfl | (rw [e]; done) | (rw [e]; rfl)
      · rw [if_neg k0] at e0
        obtain ⟨d, rfl⟩ : ∃ k, d = k + 1 := ⟨d - 1, by omega⟩
        rw [show ((d + 1 : Nat) : Int) - 1 = d from by omega] at c1
        have e := e0
        refine Fn_of_aw (keep := []) Tryz.func78 rfl rfl (by simp [Tryz.ntmps78]) ?_
        simp only [num_cons, num_nil, Tryz.ntmps78, Tryz.results78]
        repeat' (first
 | ((with_reducible apply awO_ev); (· rfl); (· exact sv))
 | ((with_reducible apply aw_seq); intro _ _)
 | (with_reducible apply aw_region)
 | (with_reducible apply aw_block)
 | ((with_reducible first | apply awO_nil | apply aw_exit | apply aw_skip | apply aw_ret); (try simp only [CT, ↓reduceIte, Nat.reduceEqDiff]))
 | ((with_reducible apply awO_y); (· rfl); (· rfl); (· decide); (· exact sv); (· exact sv))
 | (refine Kont.go ‹Kont _ _ _ _› _ ?_)
 | ((with_reducible apply awO_c); (· rfl); (· rfl); (· exact sv); (· (first | exact c1 | exact c2 _ (by omega))); (· rfl); (· rfl); (· rfl); (· decide))
 | ((first | ((with_reducible apply awO_guardN); (· rfl); (· rfl); (· exact sv); (· exact nB)) | ((with_reducible apply aw_condN); (· exact sv))); (· exact pN); (· exact pN); all_goals (intro hg; try (exfalso; omega)))
 | ((with_reducible apply retQ_mk); (· exact rI); (· exact sv); (· exact sv); rotate_left; (· rfl)))
        all_goals first | rfl | (rw [e]; done) | (rw [e]; rfl)
    rw [if_neg (fun h => k1 ((key 104 104 rfl).1 h))] at e0
    by_cases k2 : b.toNat = 116
    · rw [if_pos ((key 116 116 rfl).2 k2)] at e0
      have e := e0
      refine Fn_of_aw (keep := []) Tryz.func78 rfl rfl (by simp [Tryz.ntmps78]) ?_
      simp only [num_cons, num_nil, Tryz.ntmps78, Tryz.results78]
      repeat' (first
 | ((with_reducible apply awO_ev); (· rfl); (· exact sv))
 | ((with_reducible apply aw_seq); intro _ _)
 | (with_reducible apply aw_region)
 | (with_reducible apply aw_block)
 | ((with_reducible first | apply awO_nil | apply aw_exit | apply aw_skip | apply aw_ret); (try simp only [CT, ↓reduceIte, Nat.reduceEqDiff]))
 | ((with_reducible apply awO_n); (· rfl); (· rfl); (· decide); (· exact sv); (· rfl); (· rfl); (· decide))
 | ((with_reducible apply aw_cond_false); (· exact sv))
 | (refine Kont.go ‹Kont _ _ _ _› _ ?_)
 | ((with_reducible apply awO_c); (· rfl); (· rfl); (· exact sv); (· (first | exact c1 | exact c2 _ (by omega))); (· rfl); (· rfl); (· rfl); (· decide))
 | ((first | ((with_reducible apply awO_guardN); (· rfl); (· rfl); (· exact sv); (· exact nB)) | ((with_reducible apply aw_condN); (· exact sv))); (· exact pN); (· exact pN); all_goals (intro hg; try (exfalso; omega)))
 | ((with_reducible apply retQ_mk); (· exact rI); (· exact sv); (· exact sv); rotate_left; (· rfl)))
      all_goals first | rfl | (rw [e]; done) | (rw [e]; exact az_eq (by congr 1; omega))
    rw [if_neg (fun h => k2 ((key 116 116 rfl).1 h))] at e0
    by_cases k3 : b.toNat = 114
    · rw [if_pos ((key 114 114 rfl).2 k3)] at e0
      have e := e0
      refine Fn_of_aw (keep := []) Tryz.func78 rfl rfl (by simp [Tryz.ntmps78]) ?_
      simp only [num_cons, num_nil, Tryz.ntmps78, Tryz.results78]
      repeat' (first
 | ((with_reducible apply awO_ev); (· rfl); (· exact sv))
 | ((with_reducible apply aw_seq); intro _ _)
 | (with_reducible apply aw_region)
 | (with_reducible apply aw_block)
 | ((with_reducible first | apply awO_nil | apply aw_exit | apply aw_skip | apply aw_ret); (try simp only [CT, ↓reduceIte, Nat.reduceEqDiff]))
 | ((with_reducible apply awO_y); (· rfl); (· rfl); (· decide); (· exact sv); (· exact sv))
 | ((with_reducible apply awO_n); (· rfl); (· rfl); (· decide); (· exact sv); (· rfl); (· rfl); (· decide))
 | ((with_reducible apply aw_cond_false); (· exact sv))
 | (refine Kont.go ‹Kont _ _ _ _› _ ?_)
 | ((with_reducible apply awO_c); (· rfl); (· rfl); (· exact sv); (· (first | exact c1 | exact c2 _ (by omega))); (· rfl); (· rfl); (· rfl); (· decide))
 | ((first | ((with_reducible apply awO_guardN); (· rfl); (· rfl); (· exact sv); (· exact nB)) | ((with_reducible apply aw_condN); (· exact sv))); (· exact pN); (· exact pN); all_goals (intro hg; try (exfalso; omega)))
 | ((with_reducible apply retQ_mk); (· exact rI); (· exact sv); (· exact sv); rotate_left; (· rfl)))
      all_goals first | rfl | (rw [e]; done) | (rw [e]; rfl)
    rw [if_neg (fun h => k3 ((key 114 114 rfl).1 h))] at e0
    by_cases k4 : b.toNat = 101
    · rw [if_pos ((key 101 101 rfl).2 k4)] at e0
      have e := e0
      refine Fn_of_aw (keep := []) Tryz.func78 rfl rfl (by simp [Tryz.ntmps78]) ?_
      simp only [num_cons, num_nil, Tryz.ntmps78, Tryz.results78]
      repeat' (first
 | ((with_reducible apply awO_ev); (· rfl); (· exact sv))
 | ((with_reducible apply aw_seq); intro _ _)
 | (with_reducible apply aw_region)
 | (with_reducible apply aw_block)
 | ((with_reducible first | apply awO_nil | apply aw_exit | apply aw_skip | apply aw_ret); (try simp only [CT, ↓reduceIte, Nat.reduceEqDiff]))
 | ((with_reducible apply awO_y); (· rfl); (· rfl); (· decide); (· exact sv); (· exact sv))
 | ((with_reducible apply awO_n); (· rfl); (· rfl); (· decide); (· exact sv); (· rfl); (· rfl); (· decide))
 | ((with_reducible apply aw_cond_false); (· exact sv))
 | (refine Kont.go ‹Kont _ _ _ _› _ ?_)
 | ((with_reducible apply awO_c); (· rfl); (· rfl); (· exact sv); (· (first | exact c1 | exact c2 _ (by omega))); (· rfl); (· rfl); (· rfl); (· decide))
 | ((first | ((with_reducible apply awO_guardN); (· rfl); (· rfl); (· exact sv); (· exact nB)) | ((with_reducible apply aw_condN); (· exact sv))); (· exact pN); (· exact pN); all_goals (intro hg; try (exfalso; omega)))
 | ((with_reducible apply retQ_mk); (· exact rI); (· exact sv); (· exact sv); rotate_left; (· rfl)))
      all_goals first | rfl | (rw [e]; done) | (rw [e]; rfl)
    rw [if_neg (fun h => k4 ((key 101 101 rfl).1 h))] at e0
    have e := e0
    refine Fn_of_aw (keep := []) Tryz.func78 rfl rfl (by simp [Tryz.ntmps78]) ?_
    simp only [num_cons, num_nil, Tryz.ntmps78, Tryz.results78]
    repeat' (first
 | ((with_reducible apply awO_ev); (· rfl); (· exact sv))
 | ((with_reducible apply aw_seq); intro _ _)
 | (with_reducible apply aw_region)
 | (with_reducible apply aw_block)
 | ((with_reducible first | apply awO_nil | apply aw_exit | apply aw_skip | apply aw_ret); (try simp only [CT, ↓reduceIte, Nat.reduceEqDiff]))
 | ((with_reducible apply awO_n); (· rfl); (· rfl); (· decide); (· exact sv); (· rfl); (· rfl); (· decide))
 | ((with_reducible apply aw_cond_false); (· exact sv))
 | (refine Kont.go ‹Kont _ _ _ _› _ ?_)
 | ((with_reducible apply awO_c); (· rfl); (· rfl); (· exact sv); (· (first | exact c1 | exact c2 _ (by omega))); (· rfl); (· rfl); (· rfl); (· decide))
 | ((first | ((with_reducible apply awO_guardN); (· rfl); (· rfl); (· exact sv); (· exact nB)) | ((with_reducible apply aw_condN); (· exact sv))); (· exact pN); (· exact pN); all_goals (intro hg; try (exfalso; omega)))
 | ((with_reducible apply retQ_mk); (· exact rI); (· exact sv); (· exact sv); rotate_left; (· rfl)))
    all_goals first | rfl | (rw [e]; done) | (rw [e]; rfl)
  · rw [if_neg hq] at c2
    obtain ⟨q, rfl⟩ : ∃ k : Nat, q = k := ⟨q.toNat, by omega⟩
    rw [if_pos (by omega : (0 : Int) ≤ (q : Int)), if_pos (by omega : (0 : Int) ≤ (q : Int)), Int.toNat_natCast] at e0
    have hdq : ((d : Int) + (q : Int)) = ((d + q : Nat) : Int) := by omega
    rw [hdq] at c2
    generalize parF t b = R at *
    by_cases k1 : b.toNat = 104
    · rw [if_pos ((key 104 104 rfl).2 k1)] at e0
      by_cases k0 : d = 0
      · rw [if_pos k0] at e0
        have e := e0
        refine Fn_of_aw (keep := []) Tryz.func78 rfl rfl (by simp [Tryz.ntmps78]) ?_
        simp only [num_cons, num_nil, Tryz.ntmps78, Tryz.results78]
        repeat' (first
 | ((with_reducible apply awO_ev); (· rfl); (· exact sv))
 | ((with_reducible apply aw_seq); intro _ _)
 | (with_reducible apply aw_region)
 | (with_reducible apply aw_block)
 | ((with_reducible first | apply awO_nil | apply aw_exit | apply aw_skip | apply aw_ret); (try simp only [CT, ↓reduceIte, Nat.reduceEqDiff]))
 | ((with_reducible apply awO_y); (· rfl); (· rfl); (· decide); (· exact sv); (· exact sv))
 | ((with_reducible apply awO_n); (· rfl); (· rfl); (· decide); (· exact sv); (· rfl); (· rfl); (· decide))
 | ((with_reducible apply aw_cond_false); (· exact sv))
 | (refine Kont.go ‹Kont _ _ _ _› _ ?_)
 | ((with_reducible apply awO_c); (· rfl); (· rfl); (· exact sv); (· (first | exact c1 | exact c2 _ (by omega))); (· rfl); (· rfl); (· rfl); (· decide))
 | ((first | ((with_reducible apply awO_guardN); (· rfl); (· rfl); (· exact sv); (· exact nB)) | ((with_reducible apply aw_condN); (· exact sv))); (· exact pN); (· exact pN); all_goals (intro hg; try (exfalso; omega)))
 | ((with_reducible apply retQ_mk); (· exact rI); (· exact sv); (· exact sv); rotate_left; (· rfl)))
        all_goals first | rfl | (rw [e]; done) | (rw [e]; rfl)
      · rw [if_neg k0] at e0
        obtain ⟨d, rfl⟩ : ∃ k, d = k + 1 := ⟨d - 1, by omega⟩
        rw [show ((d + 1 : Nat) : Int) - 1 = d from by omega] at c1
        have e := e0
        refine Fn_of_aw (keep := []) Tryz.func78 rfl rfl (by simp [Tryz.ntmps78]) ?_
        simp only [num_cons, num_nil, Tryz.ntmps78, Tryz.results78]
        repeat' (first
 | ((with_reducible apply awO_ev); (· rfl); (· exact sv))
 | ((with_reducible apply aw_seq); intro _ _)
 | (with_reducible apply aw_region)
 | (with_reducible apply aw_block)
 | ((with_reducible first | apply awO_nil | apply aw_exit | apply aw_skip | apply aw_ret); (try simp only [CT, ↓reduceIte, Nat.reduceEqDiff]))
 | ((with_reducible apply awO_y); (· rfl); (· rfl); (· decide); (· exact sv); (· exact sv))
 | (refine Kont.go ‹Kont _ _ _ _› _ ?_)
 | ((with_reducible apply awO_c); (· rfl); (· rfl); (· exact sv); (· (first | exact c1 | exact c2 _ (by omega))); (· rfl); (· rfl); (· rfl); (· decide))
 | ((first | ((with_reducible apply awO_guardN); (· rfl); (· rfl); (· exact sv); (· exact nB)) | ((with_reducible apply aw_condN); (· exact sv))); (· exact pN); (· exact pN); all_goals (intro hg; try (exfalso; omega)))
 | ((with_reducible apply retQ_mk); (· exact rI); (· exact sv); (· exact sv); rotate_left; (· rfl)))
        all_goals first | rfl | (rw [e]; done) | (rw [e]; rfl)
    rw [if_neg (fun h => k1 ((key 104 104 rfl).1 h))] at e0
    by_cases k2 : b.toNat = 116
    · rw [if_pos ((key 116 116 rfl).2 k2)] at e0
      have e := e0
      refine Fn_of_aw (keep := []) Tryz.func78 rfl rfl (by simp [Tryz.ntmps78]) ?_
      simp only [num_cons, num_nil, Tryz.ntmps78, Tryz.results78]
      repeat' (first
 | ((with_reducible apply awO_ev); (· rfl); (· exact sv))
 | ((with_reducible apply aw_seq); intro _ _)
 | (with_reducible apply aw_region)
 | (with_reducible apply aw_block)
 | ((with_reducible first | apply awO_nil | apply aw_exit | apply aw_skip | apply aw_ret); (try simp only [CT, ↓reduceIte, Nat.reduceEqDiff]))
 | ((with_reducible apply awO_n); (· rfl); (· rfl); (· decide); (· exact sv); (· rfl); (· rfl); (· decide))
 | ((with_reducible apply aw_cond_false); (· exact sv))
 | (refine Kont.go ‹Kont _ _ _ _› _ ?_)
 | ((with_reducible apply awO_c); (· rfl); (· rfl); (· exact sv); (· (first | exact c1 | exact c2 _ (by omega))); (· rfl); (· rfl); (· rfl); (· decide))
 | ((first | ((with_reducible apply awO_guardN); (· rfl); (· rfl); (· exact sv); (· exact nB)) | ((with_reducible apply aw_condN); (· exact sv))); (· exact pN); (· exact pN); all_goals (intro hg; try (exfalso; omega)))
 | ((with_reducible apply retQ_mk); (· exact rI); (· exact sv); (· exact sv); rotate_left; (· rfl)))
      all_goals first | rfl | (rw [e]; done) | (rw [e]; exact az_eq (by congr 1; omega))
    rw [if_neg (fun h => k2 ((key 116 116 rfl).1 h))] at e0
    by_cases k3 : b.toNat = 114
    · rw [if_pos ((key 114 114 rfl).2 k3)] at e0
      have e := e0
      refine Fn_of_aw (keep := []) Tryz.func78 rfl rfl (by simp [Tryz.ntmps78]) ?_
      simp only [num_cons, num_nil, Tryz.ntmps78, Tryz.results78]
      repeat' (first
 | ((with_reducible apply awO_ev); (· rfl); (· exact sv))
 | ((with_reducible apply aw_seq); intro _ _)
 | (with_reducible apply aw_region)
 | (with_reducible apply aw_block)
 | ((with_reducible first | apply awO_nil | apply aw_exit | apply aw_skip | apply aw_ret); (try simp only [CT, ↓reduceIte, Nat.reduceEqDiff]))
 | ((with_reducible apply awO_y); (· rfl); (· rfl); (· decide); (· exact sv); (· exact sv))
 | ((with_reducible apply awO_n); (· rfl); (· rfl); (· decide); (· exact sv); (· rfl); (· rfl); (· decide))
 | ((with_reducible apply aw_cond_false); (· exact sv))
 | (refine Kont.go ‹Kont _ _ _ _› _ ?_)
 | ((with_reducible apply awO_c); (· rfl); (· rfl); (· exact sv); (· (first | exact c1 | exact c2 _ (by omega))); (· rfl); (· rfl); (· rfl); (· decide))
 | ((first | ((with_reducible apply awO_guardN); (· rfl); (· rfl); (· exact sv); (· exact nB)) | ((with_reducible apply aw_condN); (· exact sv))); (· exact pN); (· exact pN); all_goals (intro hg; try (exfalso; omega)))
 | ((with_reducible apply retQ_mk); (· exact rI); (· exact sv); (· exact sv); rotate_left; (· rfl)))
      all_goals first | rfl | (rw [e]; done) | (rw [e]; rfl)
    rw [if_neg (fun h => k3 ((key 114 114 rfl).1 h))] at e0
    by_cases k4 : b.toNat = 101
    · rw [if_pos ((key 101 101 rfl).2 k4)] at e0
      have e := e0
      refine Fn_of_aw (keep := []) Tryz.func78 rfl rfl (by simp [Tryz.ntmps78]) ?_
      simp only [num_cons, num_nil, Tryz.ntmps78, Tryz.results78]
      repeat' (first
 | ((with_reducible apply awO_ev); (· rfl); (· exact sv))
 | ((with_reducible apply aw_seq); intro _ _)
 | (with_reducible apply aw_region)
 | (with_reducible apply aw_block)
 | ((with_reducible first | apply awO_nil | apply aw_exit | apply aw_skip | apply aw_ret); (try simp only [CT, ↓reduceIte, Nat.reduceEqDiff]))
 | ((with_reducible apply awO_y); (· rfl); (· rfl); (· decide); (· exact sv); (· exact sv))
 | ((with_reducible apply awO_n); (· rfl); (· rfl); (· decide); (· exact sv); (· rfl); (· rfl); (· decide))
 | ((with_reducible apply aw_cond_false); (· exact sv))
 | (refine Kont.go ‹Kont _ _ _ _› _ ?_)
 | ((with_reducible apply awO_c); (· rfl); (· rfl); (· exact sv); (· (first | exact c1 | exact c2 _ (by omega))); (· rfl); (· rfl); (· rfl); (· decide))
 | ((first | ((with_reducible apply awO_guardN); (· rfl); (· rfl); (· exact sv); (· exact nB)) | ((with_reducible apply aw_condN); (· exact sv))); (· exact pN); (· exact pN); all_goals (intro hg; try (exfalso; omega)))
 | ((with_reducible apply retQ_mk); (· exact rI); (· exact sv); (· exact sv); rotate_left; (· rfl)))
      all_goals first | rfl | (rw [e]; done) | (rw [e]; rfl)
    rw [if_neg (fun h => k4 ((key 101 101 rfl).1 h))] at e0
    have e := e0
    refine Fn_of_aw (keep := []) Tryz.func78 rfl rfl (by simp [Tryz.ntmps78]) ?_
    simp only [num_cons, num_nil, Tryz.ntmps78, Tryz.results78]
    repeat' (first
 | ((with_reducible apply awO_ev); (· rfl); (· exact sv))
 | ((with_reducible apply aw_seq); intro _ _)
 | (with_reducible apply aw_region)
 | (with_reducible apply aw_block)
 | ((with_reducible first | apply awO_nil | apply aw_exit | apply aw_skip | apply aw_ret); (try simp only [CT, ↓reduceIte, Nat.reduceEqDiff]))
 | ((with_reducible apply awO_n); (· rfl); (· rfl); (· decide); (· exact sv); (· rfl); (· rfl); (· decide))
 | ((with_reducible apply aw_cond_false); (· exact sv))
 | (refine Kont.go ‹Kont _ _ _ _› _ ?_)
 | ((with_reducible apply awO_c); (· rfl); (· rfl); (· exact sv); (· (first | exact c1 | exact c2 _ (by omega))); (· rfl); (· rfl); (· rfl); (· decide))
 | ((first | ((with_reducible apply awO_guardN); (· rfl); (· rfl); (· exact sv); (· exact nB)) | ((with_reducible apply aw_condN); (· exact sv))); (· exact pN); (· exact pN); all_goals (intro hg; try (exfalso; omega)))
 | ((with_reducible apply retQ_mk); (· exact rI); (· exact sv); (· exact sv); rotate_left; (· rfl)))
    all_goals first | rfl | (rw [e]; done) | (rw [e]; rfl)
end Go.Proofs.YtgbhjlkenfmadaaGreatDoor
