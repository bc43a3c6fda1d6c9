/- Edits: Diff, and the document's, on the abstract machine. -/
import Derived.Test.YtbjhecllejdfaaaDoorEdG
namespace Go.Proofs.YtbjhecllejdfaaaDoor
open Go.RowKit
set_option linter.unusedVariables false
set_option linter.unusedSimpArgs false
set_option maxRecDepth 100000
set_option maxHeartbeats 8000000
theorem cpf_at : ∀ (a b : List UInt8) (i : Nat), i ≤ cpf a b → (i < cpf a b ↔ ∃ (h1 : i < a.length) (h2 : i < b.length), a[i].toNat = b[i].toNat)
  | [], b, i, h => by simp [cpf]
  | a :: l, [], i, h => by simp [cpf]
  | a :: l, b :: r, i, h => by
    rw [cpf] at h ⊢
    by_cases hc : a = b
    · rw [if_pos hc] at h ⊢
      cases i with
      | zero => simp [hc]
      | succ i =>
        have := cpf_at l r i (by omega)
        simp only [List.length_cons, List.getElem_cons_succ, Nat.add_lt_add_iff_right]
        exact this
    · rw [if_neg hc] at h ⊢
      obtain rfl : i = 0 := by omega
      simp only [Nat.lt_irrefl, false_iff, List.length_cons, List.getElem_cons_zero]
      rintro ⟨_, _, e⟩
      exact hc (UInt8.toNat_inj.1 e)
theorem csf_at (a b : List UInt8) (k : Nat) (hk : k ≤ csf a b) : k < csf a b ↔ ∃ (h1 : k < a.length - cpf a b) (h2 : k < b.length - cpf a b), (a[a.length - 1 - k]'(by omega)).toNat = (b[b.length - 1 - k]'(by omega)).toNat := by
  unfold csf at *
  rw [cpf_at _ _ k hk]
  simp only [List.length_reverse, List.length_drop, List.getElem_reverse, List.getElem_drop]
  have hp := cpf_le a b
  constructor
  · rintro ⟨h1, h2, e⟩
    refine ⟨h1, h2, ?_⟩
    have e1 : cpf a b + (a.length - cpf a b - 1 - k) = a.length - 1 - k := by omega
    have e2 : cpf a b + (b.length - cpf a b - 1 - k) = b.length - 1 - k := by omega
    simpa only [e1, e2] using e
  · rintro ⟨h1, h2, e⟩
    refine ⟨h1, h2, ?_⟩
    have e1 : cpf a b + (a.length - cpf a b - 1 - k) = a.length - 1 - k := by omega
    have e2 : cpf a b + (b.length - cpf a b - 1 - k) = b.length - 1 - k := by omega
    simpa only [e1, e2] using e
theorem csf_at2 (a b : List UInt8) (k : Nat) (hk : k ≤ csf a b) : k < csf a b ↔ ∃ (h1 : k < a.length - cpf a b) (h2 : k < b.length - cpf a b), (a[a.length - k - 1]'(by omega)).toNat = (b[b.length - k - 1]'(by omega)).toNat := by
  rw [csf_at a b k hk]
  have e1 : a.length - 1 - k = a.length - k - 1 := by omega
  have e2 : b.length - 1 - k = b.length - k - 1 := by omega
  simp only [e1, e2]
theorem csf_at3 (a b : List UInt8) (k : Nat) (hk : k ≤ csf a b) : k < csf a b ↔ ∃ (h1 : k < a.length - cpf a b) (h2 : k < b.length - cpf a b), (a[((a.length : Int) - 1 - k).toNat]'(by omega)).toNat = (b[((b.length : Int) - 1 - k).toNat]'(by omega)).toNat := by
  rw [csf_at a b k hk]
  have e1 : ((a.length : Int) - 1 - k).toNat = a.length - 1 - k := by omega
  have e2 : ((b.length : Int) - 1 - k).toNat = b.length - 1 - k := by omega
  simp only [e1, e2]
theorem dif_get2 (a b : List UInt8) : ∃ p q, cpf a b = p ∧ csf a b = q ∧ p + q ≤ a.length ∧ p + q ≤ b.length ∧ (∀ i, i ≤ p → (i < p ↔ ∃ (h1 : i < a.length) (h2 : i < b.length), a[i].toNat = b[i].toNat)) ∧ ∀ k, k ≤ q → (k < q ↔ ∃ (h1 : k < a.length - p) (h2 : k < b.length - p), (a[a.length - k - 1]'(by omega)).toNat = (b[b.length - k - 1]'(by omega)).toNat) :=
  ⟨_, _, rfl, rfl, (csf_le a b).1, (csf_le a b).2, cpf_at a b, csf_at2 a b⟩
theorem dif_get3 (a b : List UInt8) : ∃ p q, cpf a b = p ∧ csf a b = q ∧ p + q ≤ a.length ∧ p + q ≤ b.length ∧ (∀ i, i ≤ p → (i < p ↔ ∃ (h1 : i < a.length) (h2 : i < b.length), a[i].toNat = b[i].toNat)) ∧ ∀ k, k ≤ q → (k < q ↔ ∃ (h1 : k < a.length - p) (h2 : k < b.length - p), (a[((a.length : Int) - 1 - k).toNat]'(by omega)).toNat = (b[((b.length : Int) - 1 - k).toNat]'(by omega)).toNat) :=
  ⟨_, _, rfl, rfl, (csf_le a b).1, (csf_le a b).2, cpf_at a b, csf_at3 a b⟩
theorem diff_eq (a : List UInt8) (h : a.length ≤ 100000) : Ab Tryd.prog 22 [az a, az a] (.v (.slice none 0 0)) := by
  refine Fn_of_aw (keep := []) Tryd.func22 rfl rfl (by simp [Tryd.ntmps22]) ?_
  simp only [num_cons, num_nil, Tryd.ntmps22, Tryd.results22]
  repeat' (first
 | ((with_reducible apply awO_ev); (· rfl); (· exact sv))
 | ((with_reducible apply aw_seq); intro _ _)
 | (with_reducible apply aw_region)
 | (with_reducible apply aw_block)
 | ((first | (with_reducible apply awO_nil) | (with_reducible apply aw_exit) | (with_reducible apply aw_skip) | (with_reducible apply aw_ret)); (try simp only [CT, ↓reduceIte, Nat.reduceEqDiff]))
 | ((with_reducible apply awO_y); (· rfl); (· rfl); (· decide); (· exact sv); (· exact sv))
 | ((with_reducible apply awO_n); (· rfl); (· rfl); (· decide); (· exact sv); (· rfl); (· rfl); (· decide))
 | ((with_reducible apply awO_u); (· rfl); (· rfl); (· exact svr); (· rfl); (· decide))
 | ((with_reducible apply aw_cond_true); (· exact sv))
 | ((with_reducible apply aw_cond_false); (· exact sv))
 | ((with_reducible apply awO_un); (· rfl); (· decide); (· exact sv))
 | (refine Kont.go ‹Kont _ _ _ _› _ ?_)
 | ((first | ((with_reducible apply awO_guard); (· rfl); (· rfl); (· exact sv)) | ((with_reducible apply aw_cond); (· exact sv))); all_goals (intro hg; (try simp only [Bool.not_true, Bool.not_false]); (try simp only [decide_eq_true_eq, decide_eq_false_iff_not, Bool.not_true, Bool.not_false, Bool.not_eq_true', Bool.not_eq_false', Bool.not_not, beq_eq_false_iff_ne, ne_eq, beq_iff_eq, decide_eq_decide] at hg); try (exfalso; omega)))
 | ((with_reducible apply retQ_mk); (· (first | exact .inr rfl | exact .inl rfl)); (· exact sv); (· exact sv); rotate_left; (· rfl)))
  all_goals (first | rfl | exact absurd rfl hg | exact absurd trivial hg)
theorem rdiff_eq (a : List UInt8) (h : a.length ≤ 100000) : Ab Tryd.prog 24 [az a, az a] (.v (.slice none 0 0)) := by
  refine Fn_of_aw (keep := []) Tryd.func24 rfl rfl (by simp [Tryd.ntmps24]) ?_
  simp only [num_cons, num_nil, Tryd.ntmps24, Tryd.results24]
  repeat' (first
 | ((with_reducible apply awO_ev); (· rfl); (· exact sv))
 | ((with_reducible apply aw_seq); intro _ _)
 | (with_reducible apply aw_region)
 | (with_reducible apply aw_block)
 | ((first | (with_reducible apply awO_nil) | (with_reducible apply aw_exit) | (with_reducible apply aw_skip) | (with_reducible apply aw_ret)); (try simp only [CT, ↓reduceIte, Nat.reduceEqDiff]))
 | ((with_reducible apply awO_y); (· rfl); (· rfl); (· decide); (· exact sv); (· exact sv))
 | ((with_reducible apply awO_n); (· rfl); (· rfl); (· decide); (· exact sv); (· rfl); (· rfl); (· decide))
 | ((with_reducible apply awO_u); (· rfl); (· rfl); (· exact svr); (· rfl); (· decide))
 | ((with_reducible apply aw_cond_true); (· exact sv))
 | ((with_reducible apply aw_cond_false); (· exact sv))
 | ((with_reducible apply awO_un); (· rfl); (· decide); (· exact sv))
 | (refine Kont.go ‹Kont _ _ _ _› _ ?_)
 | ((first | ((with_reducible apply awO_guard); (· rfl); (· rfl); (· exact sv)) | ((with_reducible apply aw_cond); (· exact sv))); all_goals (intro hg; (try simp only [Bool.not_true, Bool.not_false]); (try simp only [decide_eq_true_eq, decide_eq_false_iff_not, Bool.not_true, Bool.not_false, Bool.not_eq_true', Bool.not_eq_false', Bool.not_not, beq_eq_false_iff_ne, ne_eq, beq_iff_eq, decide_eq_decide] at hg); try (exfalso; omega)))
 | ((with_reducible apply retQ_mk); (· (first | exact .inr rfl | exact .inl rfl)); (· exact sv); (· exact sv); rotate_left; (· rfl)))
  all_goals (first | rfl | exact absurd rfl hg | exact absurd trivial hg)
theorem diff_ab (a b : List UInt8) (ha : a.length ≤ 100000) (hb : b.length ≤ 100000) (hne : ¬ a = b) : Ab Tryd.prog 22 [az a, az b] (edA (dfE a b)) := by
  rw [dfE, if_neg hne]
  obtain ⟨p, q, hp, hq, hs1, hs2, hpa, hcs⟩ := dif_get2 a b
  rw [hp, hq]
  refine Fn_of_aw (keep := []) Tryd.func22 rfl rfl (by simp [Tryd.ntmps22]) ?_
  simp only [num_cons, num_nil, Tryd.ntmps22, Tryd.results22]
  repeat' (first
 | ((with_reducible apply awO_ev); (· rfl); (· exact sv))
 | ((with_reducible apply aw_seq); intro _ _)
 | (with_reducible apply aw_region)
 | (with_reducible apply aw_block)
 | ((first | (with_reducible apply awO_nil) | (with_reducible apply aw_exit) | (with_reducible apply aw_skip) | (with_reducible apply aw_ret)); (try simp only [CT, ↓reduceIte, Nat.reduceEqDiff]))
 | ((with_reducible apply awO_y); (· rfl); (· rfl); (· decide); (· exact sv); (· exact sv))
 | ((with_reducible apply awO_n); (· rfl); (· rfl); (· decide); (· exact sv); (· rfl); (· rfl); (· decide))
 | ((with_reducible apply awO_u); (· rfl); (· rfl); (· exact svr); (· rfl); (· decide))
 | ((with_reducible apply aw_cond_true); (· exact sv))
 | ((with_reducible apply aw_cond_false); (· exact sv))
 | ((with_reducible apply awO_un); (· rfl); (· decide); (· exact sv))
 | (refine Kont.go ‹Kont _ _ _ _› _ ?_)
 | ((first | ((with_reducible apply awO_guard); (· rfl); (· rfl); (· exact sv)) | ((with_reducible apply aw_cond); (· exact sv))); all_goals (intro hg; (try simp only [Bool.not_true, Bool.not_false]); (try simp only [decide_eq_true_eq, decide_eq_false_iff_not, Bool.not_true, Bool.not_false, Bool.not_eq_true', Bool.not_eq_false', Bool.not_not, beq_eq_false_iff_ne, ne_eq, beq_iff_eq, decide_eq_decide] at hg); try (exfalso; omega)))
 | ((with_reducible apply retQ_mk); (· (first | exact .inr rfl | exact .inl rfl)); (· exact sv); (· exact sv); rotate_left; (· rfl)))
  · exact absurd hg hne
  refine aw_loopF (fun i : Nat => [(5, ai i)]) (fun _ => []) (fun i => i ≤ p) (fun i => p - i) 0 (by omega) ?_ ?_ ?_
  · exact ⟨rfl, trivial⟩
  · exact trivial
  intro i hi
  (simp only [LP, List.append_assoc, List.nil_append, List.cons_append, List.append_nil, List.contains_cons, List.contains_nil, Nat.reduceBEq, Bool.or_false, Bool.or_true, Bool.true_or, Bool.false_or, ↓reduceIte, Bool.false_eq_true])
  have hat := hpa i hi
  by_cases hil : i < p
  · obtain ⟨g1, g2, g3⟩ := hat.1 hil
    repeat' (first
 | ((with_reducible apply awO_ev); (· rfl); (· exact sv))
 | ((with_reducible apply aw_seq); intro _ _)
 | (with_reducible apply aw_region)
 | (with_reducible apply aw_block)
 | ((first | (with_reducible apply awO_nil) | (with_reducible apply aw_exit) | (with_reducible apply aw_skip) | (with_reducible apply aw_ret)); (try simp only [CT, ↓reduceIte, Nat.reduceEqDiff]))
 | ((with_reducible apply awO_y); (· rfl); (· rfl); (· decide); (· exact sv); (· exact sv))
 | ((with_reducible apply awO_n); (· rfl); (· rfl); (· decide); (· exact sv); (· rfl); (· rfl); (· decide))
 | ((with_reducible apply awO_u); (· rfl); (· rfl); (· exact svr); (· rfl); (· decide))
 | ((with_reducible apply aw_cond_true); (· exact sv))
 | ((with_reducible apply aw_cond_false); (· exact sv))
 | ((with_reducible apply awO_un); (· rfl); (· decide); (· exact sv))
 | (refine Kont.go ‹Kont _ _ _ _› _ ?_)
 | ((with_reducible apply aw_drawZ); (· decide +kernel); (· decide +kernel))
 | ((with_reducible apply awZ_done); (try simp only [CT, ↓reduceIte, Nat.reduceEqDiff]))
 | ((with_reducible apply awZ_q); (· rfl); (· exact np); (· rfl); (· exact sv))
 | ((with_reducible apply awZ_qy); (· rfl); (· exact np); (· rfl); (· rfl); (· exact nd); (· exact sv); (· exact sv))
 | ((with_reducible apply awZ_qn); (· rfl); (· exact np); (· rfl); (· rfl); (· exact nd); (· exact sv); (· rfl); (· rfl); (· exact nd); simp only [put_some])
 | ((with_reducible apply awZ_qu); (· rfl); (· exact np); (· rfl); (· rfl); (· exact svr); (· rfl); (· exact nd); simp only [put_some])
 | ((with_reducible apply awZ_tn); (· decide +kernel); (· exact np); (· rfl); (· rfl); (· exact nd); (· exact sv); (· rfl); (· rfl); (· exact nd); simp only [put_some])
 | ((with_reducible apply awZ_tu); (· decide +kernel); (· exact np); (· rfl); (· rfl); (· exact svr); (· rfl); (· exact nd); simp only [put_some])
 | ((with_reducible apply awZ_ev); (· decide +kernel); (· rfl); (· exact sv))
 | ((with_reducible apply awZ_guard); (· decide +kernel); (· rfl); (· rfl); (· exact svl); all_goals (intro hg; (try simp only [Bool.not_true, Bool.not_false]); (try simp only [decide_eq_true_eq, decide_eq_false_iff_not, Bool.not_true, Bool.not_false, Bool.not_eq_true', Bool.not_eq_false', Bool.not_not, beq_eq_false_iff_ne, ne_eq, beq_iff_eq, decide_eq_decide] at hg); try (exfalso; omega)))
 | ((first | ((with_reducible apply awO_guard); (· rfl); (· rfl); (· exact sv)) | ((with_reducible apply aw_cond); (· exact sv))); all_goals (intro hg; (try simp only [Bool.not_true, Bool.not_false]); (try simp only [decide_eq_true_eq, decide_eq_false_iff_not, Bool.not_true, Bool.not_false, Bool.not_eq_true', Bool.not_eq_false', Bool.not_not, beq_eq_false_iff_ne, ne_eq, beq_iff_eq, decide_eq_decide] at hg); try (exfalso; omega)))
 | ((with_reducible apply retQ_mk); (· (first | exact .inr rfl | exact .inl rfl)); (· exact sv); (· exact sv); rotate_left; (· rfl)))
    refine LE_mk (i + 1) ?_ ?_ sN sN sN
    · omega
    · omega
  · have hno : ∀ (h1 : i < a.length) (h2 : i < b.length), ¬ a[i].toNat = b[i].toNat := fun h1 h2 h3 => hil (hat.2 ⟨h1, h2, h3⟩)
    obtain rfl : i = p := by omega
    by_cases g1 : i < a.length
    · by_cases g2 : i < b.length
      · have g3 := hno g1 g2
        repeat' (first
 | ((with_reducible apply awO_ev); (· rfl); (· exact sv))
 | ((with_reducible apply aw_seq); intro _ _)
 | (with_reducible apply aw_region)
 | (with_reducible apply aw_block)
 | ((first | (with_reducible apply awO_nil) | (with_reducible apply aw_exit) | (with_reducible apply aw_skip) | (with_reducible apply aw_ret)); (try simp only [CT, ↓reduceIte, Nat.reduceEqDiff]))
 | ((with_reducible apply awO_y); (· rfl); (· rfl); (· decide); (· exact sv); (· exact sv))
 | ((with_reducible apply awO_n); (· rfl); (· rfl); (· decide); (· exact sv); (· rfl); (· rfl); (· decide))
 | ((with_reducible apply awO_u); (· rfl); (· rfl); (· exact svr); (· rfl); (· decide))
 | ((with_reducible apply aw_cond_true); (· exact sv))
 | ((with_reducible apply aw_cond_false); (· exact sv))
 | ((with_reducible apply awO_un); (· rfl); (· decide); (· exact sv))
 | (refine Kont.go ‹Kont _ _ _ _› _ ?_)
 | ((with_reducible apply aw_drawZ); (· decide +kernel); (· decide +kernel))
 | ((with_reducible apply awZ_done); (try simp only [CT, ↓reduceIte, Nat.reduceEqDiff]))
 | ((with_reducible apply awZ_q); (· rfl); (· exact np); (· rfl); (· exact sv))
 | ((with_reducible apply awZ_qy); (· rfl); (· exact np); (· rfl); (· rfl); (· exact nd); (· exact sv); (· exact sv))
 | ((with_reducible apply awZ_qn); (· rfl); (· exact np); (· rfl); (· rfl); (· exact nd); (· exact sv); (· rfl); (· rfl); (· exact nd); simp only [put_some])
 | ((with_reducible apply awZ_qu); (· rfl); (· exact np); (· rfl); (· rfl); (· exact svr); (· rfl); (· exact nd); simp only [put_some])
 | ((with_reducible apply awZ_tn); (· decide +kernel); (· exact np); (· rfl); (· rfl); (· exact nd); (· exact sv); (· rfl); (· rfl); (· exact nd); simp only [put_some])
 | ((with_reducible apply awZ_tu); (· decide +kernel); (· exact np); (· rfl); (· rfl); (· exact svr); (· rfl); (· exact nd); simp only [put_some])
 | ((with_reducible apply awZ_ev); (· decide +kernel); (· rfl); (· exact sv))
 | ((with_reducible apply awZ_guard); (· decide +kernel); (· rfl); (· rfl); (· exact svl); all_goals (intro hg; (try simp only [Bool.not_true, Bool.not_false]); (try simp only [decide_eq_true_eq, decide_eq_false_iff_not, Bool.not_true, Bool.not_false, Bool.not_eq_true', Bool.not_eq_false', Bool.not_not, beq_eq_false_iff_ne, ne_eq, beq_iff_eq, decide_eq_decide] at hg); try (exfalso; omega)))
 | ((first | ((with_reducible apply awO_guard); (· rfl); (· rfl); (· exact sv)) | ((with_reducible apply aw_cond); (· exact sv))); all_goals (intro hg; (try simp only [Bool.not_true, Bool.not_false]); (try simp only [decide_eq_true_eq, decide_eq_false_iff_not, Bool.not_true, Bool.not_false, Bool.not_eq_true', Bool.not_eq_false', Bool.not_not, beq_eq_false_iff_ne, ne_eq, beq_iff_eq, decide_eq_decide] at hg); try (exfalso; omega)))
 | ((with_reducible apply retQ_mk); (· (first | exact .inr rfl | exact .inl rfl)); (· exact sv); (· exact sv); rotate_left; (· rfl)))
        refine aw_loopF (fun k : Nat => [(6, ai ((a.length - k : Nat) : Int)), (7, ai ((b.length - k : Nat) : Int))]) (fun _ => []) (fun k => k ≤ q) (fun k => q - k) 0 (by omega) ?_ ?_ ?_
        · exact ⟨rfl, rfl, trivial⟩
        · exact trivial
        intro k hk
        (simp only [LP, List.append_assoc, List.nil_append, List.cons_append, List.append_nil, List.contains_cons, List.contains_nil, Nat.reduceBEq, Bool.or_false, Bool.or_true, Bool.true_or, Bool.false_or, ↓reduceIte, Bool.false_eq_true])
        have hct := hcs k hk
        by_cases hkl : k < q
        · obtain ⟨u1, u2, u3⟩ := hct.1 hkl
          repeat' (first
 | ((with_reducible apply awO_ev); (· rfl); (· exact sv))
 | ((with_reducible apply aw_seq); intro _ _)
 | (with_reducible apply aw_region)
 | (with_reducible apply aw_block)
 | ((first | (with_reducible apply awO_nil) | (with_reducible apply aw_exit) | (with_reducible apply aw_skip) | (with_reducible apply aw_ret)); (try simp only [CT, ↓reduceIte, Nat.reduceEqDiff]))
 | ((with_reducible apply awO_y); (· rfl); (· rfl); (· decide); (· exact sv); (· exact sv))
 | ((with_reducible apply awO_n); (· rfl); (· rfl); (· decide); (· exact sv); (· rfl); (· rfl); (· decide))
 | ((with_reducible apply awO_u); (· rfl); (· rfl); (· exact svr); (· rfl); (· decide))
 | ((with_reducible apply aw_cond_true); (· exact sv))
 | ((with_reducible apply aw_cond_false); (· exact sv))
 | ((with_reducible apply awO_un); (· rfl); (· decide); (· exact sv))
 | (refine Kont.go ‹Kont _ _ _ _› _ ?_)
 | ((with_reducible apply aw_drawZ); (· decide +kernel); (· decide +kernel))
 | ((with_reducible apply awZ_done); (try simp only [CT, ↓reduceIte, Nat.reduceEqDiff]))
 | ((with_reducible apply awZ_q); (· rfl); (· exact np); (· rfl); (· exact sv))
 | ((with_reducible apply awZ_qy); (· rfl); (· exact np); (· rfl); (· rfl); (· exact nd); (· exact sv); (· exact sv))
 | ((with_reducible apply awZ_qn); (· rfl); (· exact np); (· rfl); (· rfl); (· exact nd); (· exact sv); (· rfl); (· rfl); (· exact nd); simp only [put_some])
 | ((with_reducible apply awZ_qu); (· rfl); (· exact np); (· rfl); (· rfl); (· exact svr); (· rfl); (· exact nd); simp only [put_some])
 | ((with_reducible apply awZ_tn); (· decide +kernel); (· exact np); (· rfl); (· rfl); (· exact nd); (· exact sv); (· rfl); (· rfl); (· exact nd); simp only [put_some])
 | ((with_reducible apply awZ_tu); (· decide +kernel); (· exact np); (· rfl); (· rfl); (· exact svr); (· rfl); (· exact nd); simp only [put_some])
 | ((with_reducible apply awZ_ev); (· decide +kernel); (· rfl); (· exact sv))
 | ((with_reducible apply awZ_guard); (· decide +kernel); (· rfl); (· rfl); (· exact svl); all_goals (intro hg; (try simp only [Bool.not_true, Bool.not_false]); (try simp only [decide_eq_true_eq, decide_eq_false_iff_not, Bool.not_true, Bool.not_false, Bool.not_eq_true', Bool.not_eq_false', Bool.not_not, beq_eq_false_iff_ne, ne_eq, beq_iff_eq, decide_eq_decide] at hg); try (exfalso; omega)))
 | ((first | ((with_reducible apply awO_guard); (· rfl); (· rfl); (· exact sv)) | ((with_reducible apply aw_cond); (· exact sv))); all_goals (intro hg; (try simp only [Bool.not_true, Bool.not_false]); (try simp only [decide_eq_true_eq, decide_eq_false_iff_not, Bool.not_true, Bool.not_false, Bool.not_eq_true', Bool.not_eq_false', Bool.not_not, beq_eq_false_iff_ne, ne_eq, beq_iff_eq, decide_eq_decide] at hg); try (exfalso; omega)))
 | ((with_reducible apply retQ_mk); (· (first | exact .inr rfl | exact .inl rfl)); (· exact sv); (· exact sv); rotate_left; (· rfl)))
          refine LE_mk (k + 1) ?_ ?_ ?_ sN sN
          · omega
          · omega
          · exact ⟨congrArg some (ai_eq (by omega)), congrArg some (ai_eq (by omega)), trivial⟩
        · have hnk : ∀ (h1 : k < a.length - i) (h2 : k < b.length - i), ¬ (a[a.length - k - 1]'(by omega)).toNat = (b[b.length - k - 1]'(by omega)).toNat := fun h1 h2 h3 => hkl (hct.2 ⟨h1, h2, h3⟩)
          obtain rfl : k = q := by omega
          by_cases u1 : k < a.length - i
          · by_cases u2 : k < b.length - i
            · have u3 := hnk u1 u2
              repeat' (first
 | ((with_reducible apply awO_ev); (· rfl); (· exact sv))
 | ((with_reducible apply aw_seq); intro _ _)
 | (with_reducible apply aw_region)
 | (with_reducible apply aw_block)
 | ((first | (with_reducible apply awO_nil) | (with_reducible apply aw_exit) | (with_reducible apply aw_skip) | (with_reducible apply aw_ret)); (try simp only [CT, ↓reduceIte, Nat.reduceEqDiff]))
 | ((with_reducible apply awO_y); (· rfl); (· rfl); (· decide); (· exact sv); (· exact sv))
 | ((with_reducible apply awO_n); (· rfl); (· rfl); (· decide); (· exact sv); (· rfl); (· rfl); (· decide))
 | ((with_reducible apply awO_u); (· rfl); (· rfl); (· exact svr); (· rfl); (· decide))
 | ((with_reducible apply aw_cond_true); (· exact sv))
 | ((with_reducible apply aw_cond_false); (· exact sv))
 | ((with_reducible apply awO_un); (· rfl); (· decide); (· exact sv))
 | (refine Kont.go ‹Kont _ _ _ _› _ ?_)
 | ((with_reducible apply aw_drawZ); (· decide +kernel); (· decide +kernel))
 | ((with_reducible apply awZ_done); (try simp only [CT, ↓reduceIte, Nat.reduceEqDiff]))
 | ((with_reducible apply awZ_q); (· rfl); (· exact np); (· rfl); (· exact sv))
 | ((with_reducible apply awZ_qy); (· rfl); (· exact np); (· rfl); (· rfl); (· exact nd); (· exact sv); (· exact sv))
 | ((with_reducible apply awZ_qn); (· rfl); (· exact np); (· rfl); (· rfl); (· exact nd); (· exact sv); (· rfl); (· rfl); (· exact nd); simp only [put_some])
 | ((with_reducible apply awZ_qu); (· rfl); (· exact np); (· rfl); (· rfl); (· exact svr); (· rfl); (· exact nd); simp only [put_some])
 | ((with_reducible apply awZ_tn); (· decide +kernel); (· exact np); (· rfl); (· rfl); (· exact nd); (· exact sv); (· rfl); (· rfl); (· exact nd); simp only [put_some])
 | ((with_reducible apply awZ_tu); (· decide +kernel); (· exact np); (· rfl); (· rfl); (· exact svr); (· rfl); (· exact nd); simp only [put_some])
 | ((with_reducible apply awZ_ev); (· decide +kernel); (· rfl); (· exact sv))
 | ((with_reducible apply awZ_guard); (· decide +kernel); (· rfl); (· rfl); (· exact svl); all_goals (intro hg; (try simp only [Bool.not_true, Bool.not_false]); (try simp only [decide_eq_true_eq, decide_eq_false_iff_not, Bool.not_true, Bool.not_false, Bool.not_eq_true', Bool.not_eq_false', Bool.not_not, beq_eq_false_iff_ne, ne_eq, beq_iff_eq, decide_eq_decide] at hg); try (exfalso; omega)))
 | ((first | ((with_reducible apply awO_guard); (· rfl); (· rfl); (· exact sv)) | ((with_reducible apply aw_cond); (· exact sv))); all_goals (intro hg; (try simp only [Bool.not_true, Bool.not_false]); (try simp only [decide_eq_true_eq, decide_eq_false_iff_not, Bool.not_true, Bool.not_false, Bool.not_eq_true', Bool.not_eq_false', Bool.not_not, beq_eq_false_iff_ne, ne_eq, beq_iff_eq, decide_eq_decide] at hg); try (exfalso; omega)))
 | ((with_reducible apply retQ_mk); (· (first | exact .inr rfl | exact .inl rfl)); (· exact sv); (· exact sv); rotate_left; (· rfl)))
              all_goals rfl
            · skip
              repeat' (first
 | ((with_reducible apply awO_ev); (· rfl); (· exact sv))
 | ((with_reducible apply aw_seq); intro _ _)
 | (with_reducible apply aw_region)
 | (with_reducible apply aw_block)
 | ((first | (with_reducible apply awO_nil) | (with_reducible apply aw_exit) | (with_reducible apply aw_skip) | (with_reducible apply aw_ret)); (try simp only [CT, ↓reduceIte, Nat.reduceEqDiff]))
 | ((with_reducible apply awO_y); (· rfl); (· rfl); (· decide); (· exact sv); (· exact sv))
 | ((with_reducible apply awO_n); (· rfl); (· rfl); (· decide); (· exact sv); (· rfl); (· rfl); (· decide))
 | ((with_reducible apply awO_u); (· rfl); (· rfl); (· exact svr); (· rfl); (· decide))
 | ((with_reducible apply aw_cond_true); (· exact sv))
 | ((with_reducible apply aw_cond_false); (· exact sv))
 | ((with_reducible apply awO_un); (· rfl); (· decide); (· exact sv))
 | (refine Kont.go ‹Kont _ _ _ _› _ ?_)
 | ((with_reducible apply aw_drawZ); (· decide +kernel); (· decide +kernel))
 | ((with_reducible apply awZ_done); (try simp only [CT, ↓reduceIte, Nat.reduceEqDiff]))
 | ((with_reducible apply awZ_q); (· rfl); (· exact np); (· rfl); (· exact sv))
 | ((with_reducible apply awZ_qy); (· rfl); (· exact np); (· rfl); (· rfl); (· exact nd); (· exact sv); (· exact sv))
 | ((with_reducible apply awZ_qn); (· rfl); (· exact np); (· rfl); (· rfl); (· exact nd); (· exact sv); (· rfl); (· rfl); (· exact nd); simp only [put_some])
 | ((with_reducible apply awZ_qu); (· rfl); (· exact np); (· rfl); (· rfl); (· exact svr); (· rfl); (· exact nd); simp only [put_some])
 | ((with_reducible apply awZ_tn); (· decide +kernel); (· exact np); (· rfl); (· rfl); (· exact nd); (· exact sv); (· rfl); (· rfl); (· exact nd); simp only [put_some])
 | ((with_reducible apply awZ_tu); (· decide +kernel); (· exact np); (· rfl); (· rfl); (· exact svr); (· rfl); (· exact nd); simp only [put_some])
 | ((with_reducible apply awZ_ev); (· decide +kernel); (· rfl); (· exact sv))
 | ((with_reducible apply awZ_guard); (· decide +kernel); (· rfl); (· rfl); (· exact svl); all_goals (intro hg; (try simp only [Bool.not_true, Bool.not_false]); (try simp only [decide_eq_true_eq, decide_eq_false_iff_not, Bool.not_true, Bool.not_false, Bool.not_eq_true', Bool.not_eq_false', Bool.not_not, beq_eq_false_iff_ne, ne_eq, beq_iff_eq, decide_eq_decide] at hg); try (exfalso; omega)))
 | ((first | ((with_reducible apply awO_guard); (· rfl); (· rfl); (· exact sv)) | ((with_reducible apply aw_cond); (· exact sv))); all_goals (intro hg; (try simp only [Bool.not_true, Bool.not_false]); (try simp only [decide_eq_true_eq, decide_eq_false_iff_not, Bool.not_true, Bool.not_false, Bool.not_eq_true', Bool.not_eq_false', Bool.not_not, beq_eq_false_iff_ne, ne_eq, beq_iff_eq, decide_eq_decide] at hg); try (exfalso; omega)))
 | ((with_reducible apply retQ_mk); (· (first | exact .inr rfl | exact .inl rfl)); (· exact sv); (· exact sv); rotate_left; (· rfl)))
              all_goals rfl
          · skip
            repeat' (first
 | ((with_reducible apply awO_ev); (· rfl); (· exact sv))
 | ((with_reducible apply aw_seq); intro _ _)
 | (with_reducible apply aw_region)
 | (with_reducible apply aw_block)
 | ((first | (with_reducible apply awO_nil) | (with_reducible apply aw_exit) | (with_reducible apply aw_skip) | (with_reducible apply aw_ret)); (try simp only [CT, ↓reduceIte, Nat.reduceEqDiff]))
 | ((with_reducible apply awO_y); (· rfl); (· rfl); (· decide); (· exact sv); (· exact sv))
 | ((with_reducible apply awO_n); (· rfl); (· rfl); (· decide); (· exact sv); (· rfl); (· rfl); (· decide))
 | ((with_reducible apply awO_u); (· rfl); (· rfl); (· exact svr); (· rfl); (· decide))
 | ((with_reducible apply aw_cond_true); (· exact sv))
 | ((with_reducible apply aw_cond_false); (· exact sv))
 | ((with_reducible apply awO_un); (· rfl); (· decide); (· exact sv))
 | (refine Kont.go ‹Kont _ _ _ _› _ ?_)
 | ((with_reducible apply aw_drawZ); (· decide +kernel); (· decide +kernel))
 | ((with_reducible apply awZ_done); (try simp only [CT, ↓reduceIte, Nat.reduceEqDiff]))
 | ((with_reducible apply awZ_q); (· rfl); (· exact np); (· rfl); (· exact sv))
 | ((with_reducible apply awZ_qy); (· rfl); (· exact np); (· rfl); (· rfl); (· exact nd); (· exact sv); (· exact sv))
 | ((with_reducible apply awZ_qn); (· rfl); (· exact np); (· rfl); (· rfl); (· exact nd); (· exact sv); (· rfl); (· rfl); (· exact nd); simp only [put_some])
 | ((with_reducible apply awZ_qu); (· rfl); (· exact np); (· rfl); (· rfl); (· exact svr); (· rfl); (· exact nd); simp only [put_some])
 | ((with_reducible apply awZ_tn); (· decide +kernel); (· exact np); (· rfl); (· rfl); (· exact nd); (· exact sv); (· rfl); (· rfl); (· exact nd); simp only [put_some])
 | ((with_reducible apply awZ_tu); (· decide +kernel); (· exact np); (· rfl); (· rfl); (· exact svr); (· rfl); (· exact nd); simp only [put_some])
 | ((with_reducible apply awZ_ev); (· decide +kernel); (· rfl); (· exact sv))
 | ((with_reducible apply awZ_guard); (· decide +kernel); (· rfl); (· rfl); (· exact svl); all_goals (intro hg; (try simp only [Bool.not_true, Bool.not_false]); (try simp only [decide_eq_true_eq, decide_eq_false_iff_not, Bool.not_true, Bool.not_false, Bool.not_eq_true', Bool.not_eq_false', Bool.not_not, beq_eq_false_iff_ne, ne_eq, beq_iff_eq, decide_eq_decide] at hg); try (exfalso; omega)))
 | ((first | ((with_reducible apply awO_guard); (· rfl); (· rfl); (· exact sv)) | ((with_reducible apply aw_cond); (· exact sv))); all_goals (intro hg; (try simp only [Bool.not_true, Bool.not_false]); (try simp only [decide_eq_true_eq, decide_eq_false_iff_not, Bool.not_true, Bool.not_false, Bool.not_eq_true', Bool.not_eq_false', Bool.not_not, beq_eq_false_iff_ne, ne_eq, beq_iff_eq, decide_eq_decide] at hg); try (exfalso; omega)))
 | ((with_reducible apply retQ_mk); (· (first | exact .inr rfl | exact .inl rfl)); (· exact sv); (· exact sv); rotate_left; (· rfl)))
            all_goals rfl
      · skip
        repeat' (first
 | ((with_reducible apply awO_ev); (· rfl); (· exact sv))
 | ((with_reducible apply aw_seq); intro _ _)
 | (with_reducible apply aw_region)
 | (with_reducible apply aw_block)
 | ((first | (with_reducible apply awO_nil) | (with_reducible apply aw_exit) | (with_reducible apply aw_skip) | (with_reducible apply aw_ret)); (try simp only [CT, ↓reduceIte, Nat.reduceEqDiff]))
 | ((with_reducible apply awO_y); (· rfl); (· rfl); (· decide); (· exact sv); (· exact sv))
 | ((with_reducible apply awO_n); (· rfl); (· rfl); (· decide); (· exact sv); (· rfl); (· rfl); (· decide))
 | ((with_reducible apply awO_u); (· rfl); (· rfl); (· exact svr); (· rfl); (· decide))
 | ((with_reducible apply aw_cond_true); (· exact sv))
 | ((with_reducible apply aw_cond_false); (· exact sv))
 | ((with_reducible apply awO_un); (· rfl); (· decide); (· exact sv))
 | (refine Kont.go ‹Kont _ _ _ _› _ ?_)
 | ((with_reducible apply aw_drawZ); (· decide +kernel); (· decide +kernel))
 | ((with_reducible apply awZ_done); (try simp only [CT, ↓reduceIte, Nat.reduceEqDiff]))
 | ((with_reducible apply awZ_q); (· rfl); (· exact np); (· rfl); (· exact sv))
 | ((with_reducible apply awZ_qy); (· rfl); (· exact np); (· rfl); (· rfl); (· exact nd); (· exact sv); (· exact sv))
 | ((with_reducible apply awZ_qn); (· rfl); (· exact np); (· rfl); (· rfl); (· exact nd); (· exact sv); (· rfl); (· rfl); (· exact nd); simp only [put_some])
 | ((with_reducible apply awZ_qu); (· rfl); (· exact np); (· rfl); (· rfl); (· exact svr); (· rfl); (· exact nd); simp only [put_some])
 | ((with_reducible apply awZ_tn); (· decide +kernel); (· exact np); (· rfl); (· rfl); (· exact nd); (· exact sv); (· rfl); (· rfl); (· exact nd); simp only [put_some])
 | ((with_reducible apply awZ_tu); (· decide +kernel); (· exact np); (· rfl); (· rfl); (· exact svr); (· rfl); (· exact nd); simp only [put_some])
 | ((with_reducible apply awZ_ev); (· decide +kernel); (· rfl); (· exact sv))
 | ((with_reducible apply awZ_guard); (· decide +kernel); (· rfl); (· rfl); (· exact svl); all_goals (intro hg; (try simp only [Bool.not_true, Bool.not_false]); (try simp only [decide_eq_true_eq, decide_eq_false_iff_not, Bool.not_true, Bool.not_false, Bool.not_eq_true', Bool.not_eq_false', Bool.not_not, beq_eq_false_iff_ne, ne_eq, beq_iff_eq, decide_eq_decide] at hg); try (exfalso; omega)))
 | ((first | ((with_reducible apply awO_guard); (· rfl); (· rfl); (· exact sv)) | ((with_reducible apply aw_cond); (· exact sv))); all_goals (intro hg; (try simp only [Bool.not_true, Bool.not_false]); (try simp only [decide_eq_true_eq, decide_eq_false_iff_not, Bool.not_true, Bool.not_false, Bool.not_eq_true', Bool.not_eq_false', Bool.not_not, beq_eq_false_iff_ne, ne_eq, beq_iff_eq, decide_eq_decide] at hg); try (exfalso; omega)))
 | ((with_reducible apply retQ_mk); (· (first | exact .inr rfl | exact .inl rfl)); (· exact sv); (· exact sv); rotate_left; (· rfl)))
        refine aw_loopF (fun k : Nat => [(6, ai ((a.length - k : Nat) : Int)), (7, ai ((b.length - k : Nat) : Int))]) (fun _ => []) (fun k => k ≤ q) (fun k => q - k) 0 (by omega) ?_ ?_ ?_
        · exact ⟨rfl, rfl, trivial⟩
        · exact trivial
        intro k hk
        (simp only [LP, List.append_assoc, List.nil_append, List.cons_append, List.append_nil, List.contains_cons, List.contains_nil, Nat.reduceBEq, Bool.or_false, Bool.or_true, Bool.true_or, Bool.false_or, ↓reduceIte, Bool.false_eq_true])
        have hct := hcs k hk
        by_cases hkl : k < q
        · exfalso; omega
        · have hnk : ∀ (h1 : k < a.length - i) (h2 : k < b.length - i), ¬ (a[a.length - k - 1]'(by omega)).toNat = (b[b.length - k - 1]'(by omega)).toNat := fun h1 h2 h3 => hkl (hct.2 ⟨h1, h2, h3⟩)
          obtain rfl : k = q := by omega
          by_cases u1 : k < a.length - i
          · by_cases u2 : k < b.length - i
            · have u3 := hnk u1 u2
              repeat' (first
 | ((with_reducible apply awO_ev); (· rfl); (· exact sv))
 | ((with_reducible apply aw_seq); intro _ _)
 | (with_reducible apply aw_region)
 | (with_reducible apply aw_block)
 | ((first | (with_reducible apply awO_nil) | (with_reducible apply aw_exit) | (with_reducible apply aw_skip) | (with_reducible apply aw_ret)); (try simp only [CT, ↓reduceIte, Nat.reduceEqDiff]))
 | ((with_reducible apply awO_y); (· rfl); (· rfl); (· decide); (· exact sv); (· exact sv))
 | ((with_reducible apply awO_n); (· rfl); (· rfl); (· decide); (· exact sv); (· rfl); (· rfl); (· decide))
 | ((with_reducible apply awO_u); (· rfl); (· rfl); (· exact svr); (· rfl); (· decide))
 | ((with_reducible apply aw_cond_true); (· exact sv))
 | ((with_reducible apply aw_cond_false); (· exact sv))
 | ((with_reducible apply awO_un); (· rfl); (· decide); (· exact sv))
 | (refine Kont.go ‹Kont _ _ _ _› _ ?_)
 | ((with_reducible apply aw_drawZ); (· decide +kernel); (· decide +kernel))
 | ((with_reducible apply awZ_done); (try simp only [CT, ↓reduceIte, Nat.reduceEqDiff]))
 | ((with_reducible apply awZ_q); (· rfl); (· exact np); (· rfl); (· exact sv))
 | ((with_reducible apply awZ_qy); (· rfl); (· exact np); (· rfl); (· rfl); (· exact nd); (· exact sv); (· exact sv))
 | ((with_reducible apply awZ_qn); (· rfl); (· exact np); (· rfl); (· rfl); (· exact nd); (· exact sv); (· rfl); (· rfl); (· exact nd); simp only [put_some])
 | ((with_reducible apply awZ_qu); (· rfl); (· exact np); (· rfl); (· rfl); (· exact svr); (· rfl); (· exact nd); simp only [put_some])
 | ((with_reducible apply awZ_tn); (· decide +kernel); (· exact np); (· rfl); (· rfl); (· exact nd); (· exact sv); (· rfl); (· rfl); (· exact nd); simp only [put_some])
 | ((with_reducible apply awZ_tu); (· decide +kernel); (· exact np); (· rfl); (· rfl); (· exact svr); (· rfl); (· exact nd); simp only [put_some])
 | ((with_reducible apply awZ_ev); (· decide +kernel); (· rfl); (· exact sv))
 | ((with_reducible apply awZ_guard); (· decide +kernel); (· rfl); (· rfl); (· exact svl); all_goals (intro hg; (try simp only [Bool.not_true, Bool.not_false]); (try simp only [decide_eq_true_eq, decide_eq_false_iff_not, Bool.not_true, Bool.not_false, Bool.not_eq_true', Bool.not_eq_false', Bool.not_not, beq_eq_false_iff_ne, ne_eq, beq_iff_eq, decide_eq_decide] at hg); try (exfalso; omega)))
 | ((first | ((with_reducible apply awO_guard); (· rfl); (· rfl); (· exact sv)) | ((with_reducible apply aw_cond); (· exact sv))); all_goals (intro hg; (try simp only [Bool.not_true, Bool.not_false]); (try simp only [decide_eq_true_eq, decide_eq_false_iff_not, Bool.not_true, Bool.not_false, Bool.not_eq_true', Bool.not_eq_false', Bool.not_not, beq_eq_false_iff_ne, ne_eq, beq_iff_eq, decide_eq_decide] at hg); try (exfalso; omega)))
 | ((with_reducible apply retQ_mk); (· (first | exact .inr rfl | exact .inl rfl)); (· exact sv); (· exact sv); rotate_left; (· rfl)))
              all_goals rfl
            · skip
              repeat' (first
 | ((with_reducible apply awO_ev); (· rfl); (· exact sv))
 | ((with_reducible apply aw_seq); intro _ _)
 | (with_reducible apply aw_region)
 | (with_reducible apply aw_block)
 | ((first | (with_reducible apply awO_nil) | (with_reducible apply aw_exit) | (with_reducible apply aw_skip) | (with_reducible apply aw_ret)); (try simp only [CT, ↓reduceIte, Nat.reduceEqDiff]))
 | ((with_reducible apply awO_y); (· rfl); (· rfl); (· decide); (· exact sv); (· exact sv))
 | ((with_reducible apply awO_n); (· rfl); (· rfl); (· decide); (· exact sv); (· rfl); (· rfl); (· decide))
 | ((with_reducible apply awO_u); (· rfl); (· rfl); (· exact svr); (· rfl); (· decide))
 | ((with_reducible apply aw_cond_true); (· exact sv))
 | ((with_reducible apply aw_cond_false); (· exact sv))
 | ((with_reducible apply awO_un); (· rfl); (· decide); (· exact sv))
 | (refine Kont.go ‹Kont _ _ _ _› _ ?_)
 | ((with_reducible apply aw_drawZ); (· decide +kernel); (· decide +kernel))
 | ((with_reducible apply awZ_done); (try simp only [CT, ↓reduceIte, Nat.reduceEqDiff]))
 | ((with_reducible apply awZ_q); (· rfl); (· exact np); (· rfl); (· exact sv))
 | ((with_reducible apply awZ_qy); (· rfl); (· exact np); (· rfl); (· rfl); (· exact nd); (· exact sv); (· exact sv))
 | ((with_reducible apply awZ_qn); (· rfl); (· exact np); (· rfl); (· rfl); (· exact nd); (· exact sv); (· rfl); (· rfl); (· exact nd); simp only [put_some])
 | ((with_reducible apply awZ_qu); (· rfl); (· exact np); (· rfl); (· rfl); (· exact svr); (· rfl); (· exact nd); simp only [put_some])
 | ((with_reducible apply awZ_tn); (· decide +kernel); (· exact np); (· rfl); (· rfl); (· exact nd); (· exact sv); (· rfl); (· rfl); (· exact nd); simp only [put_some])
 | ((with_reducible apply awZ_tu); (· decide +kernel); (· exact np); (· rfl); (· rfl); (· exact svr); (· rfl); (· exact nd); simp only [put_some])
 | ((with_reducible apply awZ_ev); (· decide +kernel); (· rfl); (· exact sv))
 | ((with_reducible apply awZ_guard); (· decide +kernel); (· rfl); (· rfl); (· exact svl); all_goals (intro hg; (try simp only [Bool.not_true, Bool.not_false]); (try simp only [decide_eq_true_eq, decide_eq_false_iff_not, Bool.not_true, Bool.not_false, Bool.not_eq_true', Bool.not_eq_false', Bool.not_not, beq_eq_false_iff_ne, ne_eq, beq_iff_eq, decide_eq_decide] at hg); try (exfalso; omega)))
 | ((first | ((with_reducible apply awO_guard); (· rfl); (· rfl); (· exact sv)) | ((with_reducible apply aw_cond); (· exact sv))); all_goals (intro hg; (try simp only [Bool.not_true, Bool.not_false]); (try simp only [decide_eq_true_eq, decide_eq_false_iff_not, Bool.not_true, Bool.not_false, Bool.not_eq_true', Bool.not_eq_false', Bool.not_not, beq_eq_false_iff_ne, ne_eq, beq_iff_eq, decide_eq_decide] at hg); try (exfalso; omega)))
 | ((with_reducible apply retQ_mk); (· (first | exact .inr rfl | exact .inl rfl)); (· exact sv); (· exact sv); rotate_left; (· rfl)))
              all_goals rfl
          · skip
            repeat' (first
 | ((with_reducible apply awO_ev); (· rfl); (· exact sv))
 | ((with_reducible apply aw_seq); intro _ _)
 | (with_reducible apply aw_region)
 | (with_reducible apply aw_block)
 | ((first | (with_reducible apply awO_nil) | (with_reducible apply aw_exit) | (with_reducible apply aw_skip) | (with_reducible apply aw_ret)); (try simp only [CT, ↓reduceIte, Nat.reduceEqDiff]))
 | ((with_reducible apply awO_y); (· rfl); (· rfl); (· decide); (· exact sv); (· exact sv))
 | ((with_reducible apply awO_n); (· rfl); (· rfl); (· decide); (· exact sv); (· rfl); (· rfl); (· decide))
 | ((with_reducible apply awO_u); (· rfl); (· rfl); (· exact svr); (· rfl); (· decide))
 | ((with_reducible apply aw_cond_true); (· exact sv))
 | ((with_reducible apply aw_cond_false); (· exact sv))
 | ((with_reducible apply awO_un); (· rfl); (· decide); (· exact sv))
 | (refine Kont.go ‹Kont _ _ _ _› _ ?_)
 | ((with_reducible apply aw_drawZ); (· decide +kernel); (· decide +kernel))
 | ((with_reducible apply awZ_done); (try simp only [CT, ↓reduceIte, Nat.reduceEqDiff]))
 | ((with_reducible apply awZ_q); (· rfl); (· exact np); (· rfl); (· exact sv))
 | ((with_reducible apply awZ_qy); (· rfl); (· exact np); (· rfl); (· rfl); (· exact nd); (· exact sv); (· exact sv))
 | ((with_reducible apply awZ_qn); (· rfl); (· exact np); (· rfl); (· rfl); (· exact nd); (· exact sv); (· rfl); (· rfl); (· exact nd); simp only [put_some])
 | ((with_reducible apply awZ_qu); (· rfl); (· exact np); (· rfl); (· rfl); (· exact svr); (· rfl); (· exact nd); simp only [put_some])
 | ((with_reducible apply awZ_tn); (· decide +kernel); (· exact np); (· rfl); (· rfl); (· exact nd); (· exact sv); (· rfl); (· rfl); (· exact nd); simp only [put_some])
 | ((with_reducible apply awZ_tu); (· decide +kernel); (· exact np); (· rfl); (· rfl); (· exact svr); (· rfl); (· exact nd); simp only [put_some])
 | ((with_reducible apply awZ_ev); (· decide +kernel); (· rfl); (· exact sv))
 | ((with_reducible apply awZ_guard); (· decide +kernel); (· rfl); (· rfl); (· exact svl); all_goals (intro hg; (try simp only [Bool.not_true, Bool.not_false]); (try simp only [decide_eq_true_eq, decide_eq_false_iff_not, Bool.not_true, Bool.not_false, Bool.not_eq_true', Bool.not_eq_false', Bool.not_not, beq_eq_false_iff_ne, ne_eq, beq_iff_eq, decide_eq_decide] at hg); try (exfalso; omega)))
 | ((first | ((with_reducible apply awO_guard); (· rfl); (· rfl); (· exact sv)) | ((with_reducible apply aw_cond); (· exact sv))); all_goals (intro hg; (try simp only [Bool.not_true, Bool.not_false]); (try simp only [decide_eq_true_eq, decide_eq_false_iff_not, Bool.not_true, Bool.not_false, Bool.not_eq_true', Bool.not_eq_false', Bool.not_not, beq_eq_false_iff_ne, ne_eq, beq_iff_eq, decide_eq_decide] at hg); try (exfalso; omega)))
 | ((with_reducible apply retQ_mk); (· (first | exact .inr rfl | exact .inl rfl)); (· exact sv); (· exact sv); rotate_left; (· rfl)))
            all_goals rfl
    · skip
      repeat' (first
 | ((with_reducible apply awO_ev); (· rfl); (· exact sv))
 | ((with_reducible apply aw_seq); intro _ _)
 | (with_reducible apply aw_region)
 | (with_reducible apply aw_block)
 | ((first | (with_reducible apply awO_nil) | (with_reducible apply aw_exit) | (with_reducible apply aw_skip) | (with_reducible apply aw_ret)); (try simp only [CT, ↓reduceIte, Nat.reduceEqDiff]))
 | ((with_reducible apply awO_y); (· rfl); (· rfl); (· decide); (· exact sv); (· exact sv))
 | ((with_reducible apply awO_n); (· rfl); (· rfl); (· decide); (· exact sv); (· rfl); (· rfl); (· decide))
 | ((with_reducible apply awO_u); (· rfl); (· rfl); (· exact svr); (· rfl); (· decide))
 | ((with_reducible apply aw_cond_true); (· exact sv))
 | ((with_reducible apply aw_cond_false); (· exact sv))
 | ((with_reducible apply awO_un); (· rfl); (· decide); (· exact sv))
 | (refine Kont.go ‹Kont _ _ _ _› _ ?_)
 | ((with_reducible apply aw_drawZ); (· decide +kernel); (· decide +kernel))
 | ((with_reducible apply awZ_done); (try simp only [CT, ↓reduceIte, Nat.reduceEqDiff]))
 | ((with_reducible apply awZ_q); (· rfl); (· exact np); (· rfl); (· exact sv))
 | ((with_reducible apply awZ_qy); (· rfl); (· exact np); (· rfl); (· rfl); (· exact nd); (· exact sv); (· exact sv))
 | ((with_reducible apply awZ_qn); (· rfl); (· exact np); (· rfl); (· rfl); (· exact nd); (· exact sv); (· rfl); (· rfl); (· exact nd); simp only [put_some])
 | ((with_reducible apply awZ_qu); (· rfl); (· exact np); (· rfl); (· rfl); (· exact svr); (· rfl); (· exact nd); simp only [put_some])
 | ((with_reducible apply awZ_tn); (· decide +kernel); (· exact np); (· rfl); (· rfl); (· exact nd); (· exact sv); (· rfl); (· rfl); (· exact nd); simp only [put_some])
 | ((with_reducible apply awZ_tu); (· decide +kernel); (· exact np); (· rfl); (· rfl); (· exact svr); (· rfl); (· exact nd); simp only [put_some])
 | ((with_reducible apply awZ_ev); (· decide +kernel); (· rfl); (· exact sv))
 | ((with_reducible apply awZ_guard); (· decide +kernel); (· rfl); (· rfl); (· exact svl); all_goals (intro hg; (try simp only [Bool.not_true, Bool.not_false]); (try simp only [decide_eq_true_eq, decide_eq_false_iff_not, Bool.not_true, Bool.not_false, Bool.not_eq_true', Bool.not_eq_false', Bool.not_not, beq_eq_false_iff_ne, ne_eq, beq_iff_eq, decide_eq_decide] at hg); try (exfalso; omega)))
 | ((first | ((with_reducible apply awO_guard); (· rfl); (· rfl); (· exact sv)) | ((with_reducible apply aw_cond); (· exact sv))); all_goals (intro hg; (try simp only [Bool.not_true, Bool.not_false]); (try simp only [decide_eq_true_eq, decide_eq_false_iff_not, Bool.not_true, Bool.not_false, Bool.not_eq_true', Bool.not_eq_false', Bool.not_not, beq_eq_false_iff_ne, ne_eq, beq_iff_eq, decide_eq_decide] at hg); try (exfalso; omega)))
 | ((with_reducible apply retQ_mk); (· (first | exact .inr rfl | exact .inl rfl)); (· exact sv); (· exact sv); rotate_left; (· rfl)))
      refine aw_loopF (fun k : Nat => [(6, ai ((a.length - k : Nat) : Int)), (7, ai ((b.length - k : Nat) : Int))]) (fun _ => []) (fun k => k ≤ q) (fun k => q - k) 0 (by omega) ?_ ?_ ?_
      · exact ⟨rfl, rfl, trivial⟩
      · exact trivial
      intro k hk
      (simp only [LP, List.append_assoc, List.nil_append, List.cons_append, List.append_nil, List.contains_cons, List.contains_nil, Nat.reduceBEq, Bool.or_false, Bool.or_true, Bool.true_or, Bool.false_or, ↓reduceIte, Bool.false_eq_true])
      have hct := hcs k hk
      by_cases hkl : k < q
      · exfalso; omega
      · have hnk : ∀ (h1 : k < a.length - i) (h2 : k < b.length - i), ¬ (a[a.length - k - 1]'(by omega)).toNat = (b[b.length - k - 1]'(by omega)).toNat := fun h1 h2 h3 => hkl (hct.2 ⟨h1, h2, h3⟩)
        obtain rfl : k = q := by omega
        by_cases u1 : k < a.length - i
        · by_cases u2 : k < b.length - i
          · have u3 := hnk u1 u2
            repeat' (first
 | ((with_reducible apply awO_ev); (· rfl); (· exact sv))
 | ((with_reducible apply aw_seq); intro _ _)
 | (with_reducible apply aw_region)
 | (with_reducible apply aw_block)
 | ((first | (with_reducible apply awO_nil) | (with_reducible apply aw_exit) | (with_reducible apply aw_skip) | (with_reducible apply aw_ret)); (try simp only [CT, ↓reduceIte, Nat.reduceEqDiff]))
 | ((with_reducible apply awO_y); (· rfl); (· rfl); (· decide); (· exact sv); (· exact sv))
 | ((with_reducible apply awO_n); (· rfl); (· rfl); (· decide); (· exact sv); (· rfl); (· rfl); (· decide))
 | ((with_reducible apply awO_u); (· rfl); (· rfl); (· exact svr); (· rfl); (· decide))
 | ((with_reducible apply aw_cond_true); (· exact sv))
 | ((with_reducible apply aw_cond_false); (· exact sv))
 | ((with_reducible apply awO_un); (· rfl); (· decide); (· exact sv))
 | (refine Kont.go ‹Kont _ _ _ _› _ ?_)
 | ((with_reducible apply aw_drawZ); (· decide +kernel); (· decide +kernel))
 | ((with_reducible apply awZ_done); (try simp only [CT, ↓reduceIte, Nat.reduceEqDiff]))
 | ((with_reducible apply awZ_q); (· rfl); (· exact np); (· rfl); (· exact sv))
 | ((with_reducible apply awZ_qy); (· rfl); (· exact np); (· rfl); (· rfl); (· exact nd); (· exact sv); (· exact sv))
 | ((with_reducible apply awZ_qn); (· rfl); (· exact np); (· rfl); (· rfl); (· exact nd); (· exact sv); (· rfl); (· rfl); (· exact nd); simp only [put_some])
 | ((with_reducible apply awZ_qu); (· rfl); (· exact np); (· rfl); (· rfl); (· exact svr); (· rfl); (· exact nd); simp only [put_some])
 | ((with_reducible apply awZ_tn); (· decide +kernel); (· exact np); (· rfl); (· rfl); (· exact nd); (· exact sv); (· rfl); (· rfl); (· exact nd); simp only [put_some])
 | ((with_reducible apply awZ_tu); (· decide +kernel); (· exact np); (· rfl); (· rfl); (· exact svr); (· rfl); (· exact nd); simp only [put_some])
 | ((with_reducible apply awZ_ev); (· decide +kernel); (· rfl); (· exact sv))
 | ((with_reducible apply awZ_guard); (· decide +kernel); (· rfl); (· rfl); (· exact svl); all_goals (intro hg; (try simp only [Bool.not_true, Bool.not_false]); (try simp only [decide_eq_true_eq, decide_eq_false_iff_not, Bool.not_true, Bool.not_false, Bool.not_eq_true', Bool.not_eq_false', Bool.not_not, beq_eq_false_iff_ne, ne_eq, beq_iff_eq, decide_eq_decide] at hg); try (exfalso; omega)))
 | ((first | ((with_reducible apply awO_guard); (· rfl); (· rfl); (· exact sv)) | ((with_reducible apply aw_cond); (· exact sv))); all_goals (intro hg; (try simp only [Bool.not_true, Bool.not_false]); (try simp only [decide_eq_true_eq, decide_eq_false_iff_not, Bool.not_true, Bool.not_false, Bool.not_eq_true', Bool.not_eq_false', Bool.not_not, beq_eq_false_iff_ne, ne_eq, beq_iff_eq, decide_eq_decide] at hg); try (exfalso; omega)))
 | ((with_reducible apply retQ_mk); (· (first | exact .inr rfl | exact .inl rfl)); (· exact sv); (· exact sv); rotate_left; (· rfl)))
            all_goals rfl
          · skip
            repeat' (first
 | ((with_reducible apply awO_ev); (· rfl); (· exact sv))
 | ((with_reducible apply aw_seq); intro _ _)
 | (with_reducible apply aw_region)
 | (with_reducible apply aw_block)
 | ((first | (with_reducible apply awO_nil) | (with_reducible apply aw_exit) | (with_reducible apply aw_skip) | (with_reducible apply aw_ret)); (try simp only [CT, ↓reduceIte, Nat.reduceEqDiff]))
 | ((with_reducible apply awO_y); (· rfl); (· rfl); (· decide); (· exact sv); (· exact sv))
 | ((with_reducible apply awO_n); (· rfl); (· rfl); (· decide); (· exact sv); (· rfl); (· rfl); (· decide))
 | ((with_reducible apply awO_u); (· rfl); (· rfl); (· exact svr); (· rfl); (· decide))
 | ((with_reducible apply aw_cond_true); (· exact sv))
 | ((with_reducible apply aw_cond_false); (· exact sv))
 | ((with_reducible apply awO_un); (· rfl); (· decide); (· exact sv))
 | (refine Kont.go ‹Kont _ _ _ _› _ ?_)
 | ((with_reducible apply aw_drawZ); (· decide +kernel); (· decide +kernel))
 | ((with_reducible apply awZ_done); (try simp only [CT, ↓reduceIte, Nat.reduceEqDiff]))
 | ((with_reducible apply awZ_q); (· rfl); (· exact np); (· rfl); (· exact sv))
 | ((with_reducible apply awZ_qy); (· rfl); (· exact np); (· rfl); (· rfl); (· exact nd); (· exact sv); (· exact sv))
 | ((with_reducible apply awZ_qn); (· rfl); (· exact np); (· rfl); (· rfl); (· exact nd); (· exact sv); (· rfl); (· rfl); (· exact nd); simp only [put_some])
 | ((with_reducible apply awZ_qu); (· rfl); (· exact np); (· rfl); (· rfl); (· exact svr); (· rfl); (· exact nd); simp only [put_some])
 | ((with_reducible apply awZ_tn); (· decide +kernel); (· exact np); (· rfl); (· rfl); (· exact nd); (· exact sv); (· rfl); (· rfl); (· exact nd); simp only [put_some])
 | ((with_reducible apply awZ_tu); (· decide +kernel); (· exact np); (· rfl); (· rfl); (· exact svr); (· rfl); (· exact nd); simp only [put_some])
 | ((with_reducible apply awZ_ev); (· decide +kernel); (· rfl); (· exact sv))
 | ((with_reducible apply awZ_guard); (· decide +kernel); (· rfl); (· rfl); (· exact svl); all_goals (intro hg; (try simp only [Bool.not_true, Bool.not_false]); (try simp only [decide_eq_true_eq, decide_eq_false_iff_not, Bool.not_true, Bool.not_false, Bool.not_eq_true', Bool.not_eq_false', Bool.not_not, beq_eq_false_iff_ne, ne_eq, beq_iff_eq, decide_eq_decide] at hg); try (exfalso; omega)))
 | ((first | ((with_reducible apply awO_guard); (· rfl); (· rfl); (· exact sv)) | ((with_reducible apply aw_cond); (· exact sv))); all_goals (intro hg; (try simp only [Bool.not_true, Bool.not_false]); (try simp only [decide_eq_true_eq, decide_eq_false_iff_not, Bool.not_true, Bool.not_false, Bool.not_eq_true', Bool.not_eq_false', Bool.not_not, beq_eq_false_iff_ne, ne_eq, beq_iff_eq, decide_eq_decide] at hg); try (exfalso; omega)))
 | ((with_reducible apply retQ_mk); (· (first | exact .inr rfl | exact .inl rfl)); (· exact sv); (· exact sv); rotate_left; (· rfl)))
            all_goals rfl
        · skip
          repeat' (first
 | ((with_reducible apply awO_ev); (· rfl); (· exact sv))
 | ((with_reducible apply aw_seq); intro _ _)
 | (with_reducible apply aw_region)
 | (with_reducible apply aw_block)
 | ((first | (with_reducible apply awO_nil) | (with_reducible apply aw_exit) | (with_reducible apply aw_skip) | (with_reducible apply aw_ret)); (try simp only [CT, ↓reduceIte, Nat.reduceEqDiff]))
 | ((with_reducible apply awO_y); (· rfl); (· rfl); (· decide); (· exact sv); (· exact sv))
 | ((with_reducible apply awO_n); (· rfl); (· rfl); (· decide); (· exact sv); (· rfl); (· rfl); (· decide))
 | ((with_reducible apply awO_u); (· rfl); (· rfl); (· exact svr); (· rfl); (· decide))
 | ((with_reducible apply aw_cond_true); (· exact sv))
 | ((with_reducible apply aw_cond_false); (· exact sv))
 | ((with_reducible apply awO_un); (· rfl); (· decide); (· exact sv))
 | (refine Kont.go ‹Kont _ _ _ _› _ ?_)
 | ((with_reducible apply aw_drawZ); (· decide +kernel); (· decide +kernel))
 | ((with_reducible apply awZ_done); (try simp only [CT, ↓reduceIte, Nat.reduceEqDiff]))
 | ((with_reducible apply awZ_q); (· rfl); (· exact np); (· rfl); (· exact sv))
 | ((with_reducible apply awZ_qy); (· rfl); (· exact np); (· rfl); (· rfl); (· exact nd); (· exact sv); (· exact sv))
 | ((with_reducible apply awZ_qn); (· rfl); (· exact np); (· rfl); (· rfl); (· exact nd); (· exact sv); (· rfl); (· rfl); (· exact nd); simp only [put_some])
 | ((with_reducible apply awZ_qu); (· rfl); (· exact np); (· rfl); (· rfl); (· exact svr); (· rfl); (· exact nd); simp only [put_some])
 | ((with_reducible apply awZ_tn); (· decide +kernel); (· exact np); (· rfl); (· rfl); (· exact nd); (· exact sv); (· rfl); (· rfl); (· exact nd); simp only [put_some])
 | ((with_reducible apply awZ_tu); (· decide +kernel); (· exact np); (· rfl); (· rfl); (· exact svr); (· rfl); (· exact nd); simp only [put_some])
 | ((with_reducible apply awZ_ev); (· decide +kernel); (· rfl); (· exact sv))
 | ((with_reducible apply awZ_guard); (· decide +kernel); (· rfl); (· rfl); (· exact svl); all_goals (intro hg; (try simp only [Bool.not_true, Bool.not_false]); (try simp only [decide_eq_true_eq, decide_eq_false_iff_not, Bool.not_true, Bool.not_false, Bool.not_eq_true', Bool.not_eq_false', Bool.not_not, beq_eq_false_iff_ne, ne_eq, beq_iff_eq, decide_eq_decide] at hg); try (exfalso; omega)))
 | ((first | ((with_reducible apply awO_guard); (· rfl); (· rfl); (· exact sv)) | ((with_reducible apply aw_cond); (· exact sv))); all_goals (intro hg; (try simp only [Bool.not_true, Bool.not_false]); (try simp only [decide_eq_true_eq, decide_eq_false_iff_not, Bool.not_true, Bool.not_false, Bool.not_eq_true', Bool.not_eq_false', Bool.not_not, beq_eq_false_iff_ne, ne_eq, beq_iff_eq, decide_eq_decide] at hg); try (exfalso; omega)))
 | ((with_reducible apply retQ_mk); (· (first | exact .inr rfl | exact .inl rfl)); (· exact sv); (· exact sv); rotate_left; (· rfl)))
          all_goals rfl
theorem rdiff_ab (a b : List UInt8) (ha : a.length ≤ 100000) (hb : b.length ≤ 100000) (hne : ¬ a = b) : Ab Tryd.prog 24 [az a, az b] (edA (dfE a b)) := by
  rw [dfE, if_neg hne]
  obtain ⟨p, q, hp, hq, hs1, hs2, hpa, hcs⟩ := dif_get3 a b
  rw [hp, hq]
  refine Fn_of_aw (keep := []) Tryd.func24 rfl rfl (by simp [Tryd.ntmps24]) ?_
  simp only [num_cons, num_nil, Tryd.ntmps24, Tryd.results24]
  repeat' (first
 | ((with_reducible apply awO_ev); (· rfl); (· exact sv))
 | ((with_reducible apply aw_seq); intro _ _)
 | (with_reducible apply aw_region)
 | (with_reducible apply aw_block)
 | ((first | (with_reducible apply awO_nil) | (with_reducible apply aw_exit) | (with_reducible apply aw_skip) | (with_reducible apply aw_ret)); (try simp only [CT, ↓reduceIte, Nat.reduceEqDiff]))
 | ((with_reducible apply awO_y); (· rfl); (· rfl); (· decide); (· exact sv); (· exact sv))
 | ((with_reducible apply awO_n); (· rfl); (· rfl); (· decide); (· exact sv); (· rfl); (· rfl); (· decide))
 | ((with_reducible apply awO_u); (· rfl); (· rfl); (· exact svr); (· rfl); (· decide))
 | ((with_reducible apply aw_cond_true); (· exact sv))
 | ((with_reducible apply aw_cond_false); (· exact sv))
 | ((with_reducible apply awO_un); (· rfl); (· decide); (· exact sv))
 | (refine Kont.go ‹Kont _ _ _ _› _ ?_)
 | ((first | ((with_reducible apply awO_guard); (· rfl); (· rfl); (· exact sv)) | ((with_reducible apply aw_cond); (· exact sv))); all_goals (intro hg; (try simp only [Bool.not_true, Bool.not_false]); (try simp only [decide_eq_true_eq, decide_eq_false_iff_not, Bool.not_true, Bool.not_false, Bool.not_eq_true', Bool.not_eq_false', Bool.not_not, beq_eq_false_iff_ne, ne_eq, beq_iff_eq, decide_eq_decide] at hg); try (exfalso; omega)))
 | ((with_reducible apply retQ_mk); (· (first | exact .inr rfl | exact .inl rfl)); (· exact sv); (· exact sv); rotate_left; (· rfl)))
  · exact absurd hg hne
  refine aw_loopF (fun i : Nat => [(5, ai i)]) (fun _ => []) (fun i => i ≤ p) (fun i => p - i) 0 (by omega) ?_ ?_ ?_
  · exact ⟨rfl, trivial⟩
  · exact trivial
  intro i hi
  (simp only [LP, List.append_assoc, List.nil_append, List.cons_append, List.append_nil, List.contains_cons, List.contains_nil, Nat.reduceBEq, Bool.or_false, Bool.or_true, Bool.true_or, Bool.false_or, ↓reduceIte, Bool.false_eq_true])
  have hat := hpa i hi
  by_cases hil : i < p
  · obtain ⟨g1, g2, g3⟩ := hat.1 hil
    repeat' (first
 | ((with_reducible apply awO_ev); (· rfl); (· exact sv))
 | ((with_reducible apply aw_seq); intro _ _)
 | (with_reducible apply aw_region)
 | (with_reducible apply aw_block)
 | ((first | (with_reducible apply awO_nil) | (with_reducible apply aw_exit) | (with_reducible apply aw_skip) | (with_reducible apply aw_ret)); (try simp only [CT, ↓reduceIte, Nat.reduceEqDiff]))
 | ((with_reducible apply awO_y); (· rfl); (· rfl); (· decide); (· exact sv); (· exact sv))
 | ((with_reducible apply awO_n); (· rfl); (· rfl); (· decide); (· exact sv); (· rfl); (· rfl); (· decide))
 | ((with_reducible apply awO_u); (· rfl); (· rfl); (· exact svr); (· rfl); (· decide))
 | ((with_reducible apply aw_cond_true); (· exact sv))
 | ((with_reducible apply aw_cond_false); (· exact sv))
 | ((with_reducible apply awO_un); (· rfl); (· decide); (· exact sv))
 | (refine Kont.go ‹Kont _ _ _ _› _ ?_)
 | ((with_reducible apply aw_drawZ); (· decide +kernel); (· decide +kernel))
 | ((with_reducible apply awZ_done); (try simp only [CT, ↓reduceIte, Nat.reduceEqDiff]))
 | ((with_reducible apply awZ_q); (· rfl); (· exact np); (· rfl); (· exact sv))
 | ((with_reducible apply awZ_qy); (· rfl); (· exact np); (· rfl); (· rfl); (· exact nd); (· exact sv); (· exact sv))
 | ((with_reducible apply awZ_qn); (· rfl); (· exact np); (· rfl); (· rfl); (· exact nd); (· exact sv); (· rfl); (· rfl); (· exact nd); simp only [put_some])
 | ((with_reducible apply awZ_qu); (· rfl); (· exact np); (· rfl); (· rfl); (· exact svr); (· rfl); (· exact nd); simp only [put_some])
 | ((with_reducible apply awZ_tn); (· decide +kernel); (· exact np); (· rfl); (· rfl); (· exact nd); (· exact sv); (· rfl); (· rfl); (· exact nd); simp only [put_some])
 | ((with_reducible apply awZ_tu); (· decide +kernel); (· exact np); (· rfl); (· rfl); (· exact svr); (· rfl); (· exact nd); simp only [put_some])
 | ((with_reducible apply awZ_ev); (· decide +kernel); (· rfl); (· exact sv))
 | ((with_reducible apply awZ_guard); (· decide +kernel); (· rfl); (· rfl); (· exact svl); all_goals (intro hg; (try simp only [Bool.not_true, Bool.not_false]); (try simp only [decide_eq_true_eq, decide_eq_false_iff_not, Bool.not_true, Bool.not_false, Bool.not_eq_true', Bool.not_eq_false', Bool.not_not, beq_eq_false_iff_ne, ne_eq, beq_iff_eq, decide_eq_decide] at hg); try (exfalso; omega)))
 | ((first | ((with_reducible apply awO_guard); (· rfl); (· rfl); (· exact sv)) | ((with_reducible apply aw_cond); (· exact sv))); all_goals (intro hg; (try simp only [Bool.not_true, Bool.not_false]); (try simp only [decide_eq_true_eq, decide_eq_false_iff_not, Bool.not_true, Bool.not_false, Bool.not_eq_true', Bool.not_eq_false', Bool.not_not, beq_eq_false_iff_ne, ne_eq, beq_iff_eq, decide_eq_decide] at hg); try (exfalso; omega)))
 | ((with_reducible apply retQ_mk); (· (first | exact .inr rfl | exact .inl rfl)); (· exact sv); (· exact sv); rotate_left; (· rfl)))
    refine LE_mk (i + 1) ?_ ?_ sN sN sN
    · omega
    · omega
  · have hno : ∀ (h1 : i < a.length) (h2 : i < b.length), ¬ a[i].toNat = b[i].toNat := fun h1 h2 h3 => hil (hat.2 ⟨h1, h2, h3⟩)
    obtain rfl : i = p := by omega
    by_cases g1 : i < a.length
    · by_cases g2 : i < b.length
      · have g3 := hno g1 g2
        repeat' (first
 | ((with_reducible apply awO_ev); (· rfl); (· exact sv))
 | ((with_reducible apply aw_seq); intro _ _)
 | (with_reducible apply aw_region)
 | (with_reducible apply aw_block)
 | ((first | (with_reducible apply awO_nil) | (with_reducible apply aw_exit) | (with_reducible apply aw_skip) | (with_reducible apply aw_ret)); (try simp only [CT, ↓reduceIte, Nat.reduceEqDiff]))
 | ((with_reducible apply awO_y); (· rfl); (· rfl); (· decide); (· exact sv); (· exact sv))
 | ((with_reducible apply awO_n); (· rfl); (· rfl); (· decide); (· exact sv); (· rfl); (· rfl); (· decide))
 | ((with_reducible apply awO_u); (· rfl); (· rfl); (· exact svr); (· rfl); (· decide))
 | ((with_reducible apply aw_cond_true); (· exact sv))
 | ((with_reducible apply aw_cond_false); (· exact sv))
 | ((with_reducible apply awO_un); (· rfl); (· decide); (· exact sv))
 | (refine Kont.go ‹Kont _ _ _ _› _ ?_)
 | ((with_reducible apply aw_drawZ); (· decide +kernel); (· decide +kernel))
 | ((with_reducible apply awZ_done); (try simp only [CT, ↓reduceIte, Nat.reduceEqDiff]))
 | ((with_reducible apply awZ_q); (· rfl); (· exact np); (· rfl); (· exact sv))
 | ((with_reducible apply awZ_qy); (· rfl); (· exact np); (· rfl); (· rfl); (· exact nd); (· exact sv); (· exact sv))
 | ((with_reducible apply awZ_qn); (· rfl); (· exact np); (· rfl); (· rfl); (· exact nd); (· exact sv); (· rfl); (· rfl); (· exact nd); simp only [put_some])
 | ((with_reducible apply awZ_qu); (· rfl); (· exact np); (· rfl); (· rfl); (· exact svr); (· rfl); (· exact nd); simp only [put_some])
 | ((with_reducible apply awZ_tn); (· decide +kernel); (· exact np); (· rfl); (· rfl); (· exact nd); (· exact sv); (· rfl); (· rfl); (· exact nd); simp only [put_some])
 | ((with_reducible apply awZ_tu); (· decide +kernel); (· exact np); (· rfl); (· rfl); (· exact svr); (· rfl); (· exact nd); simp only [put_some])
 | ((with_reducible apply awZ_ev); (· decide +kernel); (· rfl); (· exact sv))
 | ((with_reducible apply awZ_guard); (· decide +kernel); (· rfl); (· rfl); (· exact svl); all_goals (intro hg; (try simp only [Bool.not_true, Bool.not_false]); (try simp only [decide_eq_true_eq, decide_eq_false_iff_not, Bool.not_true, Bool.not_false, Bool.not_eq_true', Bool.not_eq_false', Bool.not_not, beq_eq_false_iff_ne, ne_eq, beq_iff_eq, decide_eq_decide] at hg); try (exfalso; omega)))
 | ((first | ((with_reducible apply awO_guard); (· rfl); (· rfl); (· exact sv)) | ((with_reducible apply aw_cond); (· exact sv))); all_goals (intro hg; (try simp only [Bool.not_true, Bool.not_false]); (try simp only [decide_eq_true_eq, decide_eq_false_iff_not, Bool.not_true, Bool.not_false, Bool.not_eq_true', Bool.not_eq_false', Bool.not_not, beq_eq_false_iff_ne, ne_eq, beq_iff_eq, decide_eq_decide] at hg); try (exfalso; omega)))
 | ((with_reducible apply retQ_mk); (· (first | exact .inr rfl | exact .inl rfl)); (· exact sv); (· exact sv); rotate_left; (· rfl)))
        refine aw_loopF (fun k : Nat => [(6, ai k)]) (fun _ => []) (fun k => k ≤ q) (fun k => q - k) 0 (by omega) ?_ ?_ ?_
        · exact ⟨rfl, trivial⟩
        · exact trivial
        intro k hk
        (simp only [LP, List.append_assoc, List.nil_append, List.cons_append, List.append_nil, List.contains_cons, List.contains_nil, Nat.reduceBEq, Bool.or_false, Bool.or_true, Bool.true_or, Bool.false_or, ↓reduceIte, Bool.false_eq_true])
        have hct := hcs k hk
        by_cases hkl : k < q
        · obtain ⟨u1, u2, u3⟩ := hct.1 hkl
          repeat' (first
 | ((with_reducible apply awO_ev); (· rfl); (· exact sv))
 | ((with_reducible apply aw_seq); intro _ _)
 | (with_reducible apply aw_region)
 | (with_reducible apply aw_block)
 | ((first | (with_reducible apply awO_nil) | (with_reducible apply aw_exit) | (with_reducible apply aw_skip) | (with_reducible apply aw_ret)); (try simp only [CT, ↓reduceIte, Nat.reduceEqDiff]))
 | ((with_reducible apply awO_y); (· rfl); (· rfl); (· decide); (· exact sv); (· exact sv))
 | ((with_reducible apply awO_n); (· rfl); (· rfl); (· decide); (· exact sv); (· rfl); (· rfl); (· decide))
 | ((with_reducible apply awO_u); (· rfl); (· rfl); (· exact svr); (· rfl); (· decide))
 | ((with_reducible apply aw_cond_true); (· exact sv))
 | ((with_reducible apply aw_cond_false); (· exact sv))
 | ((with_reducible apply awO_un); (· rfl); (· decide); (· exact sv))
 | (refine Kont.go ‹Kont _ _ _ _› _ ?_)
 | ((with_reducible apply aw_drawZ); (· decide +kernel); (· decide +kernel))
 | ((with_reducible apply awZ_done); (try simp only [CT, ↓reduceIte, Nat.reduceEqDiff]))
 | ((with_reducible apply awZ_q); (· rfl); (· exact np); (· rfl); (· exact sv))
 | ((with_reducible apply awZ_qy); (· rfl); (· exact np); (· rfl); (· rfl); (· exact nd); (· exact sv); (· exact sv))
 | ((with_reducible apply awZ_qn); (· rfl); (· exact np); (· rfl); (· rfl); (· exact nd); (· exact sv); (· rfl); (· rfl); (· exact nd); simp only [put_some])
 | ((with_reducible apply awZ_qu); (· rfl); (· exact np); (· rfl); (· rfl); (· exact svr); (· rfl); (· exact nd); simp only [put_some])
 | ((with_reducible apply awZ_tn); (· decide +kernel); (· exact np); (· rfl); (· rfl); (· exact nd); (· exact sv); (· rfl); (· rfl); (· exact nd); simp only [put_some])
 | ((with_reducible apply awZ_tu); (· decide +kernel); (· exact np); (· rfl); (· rfl); (· exact svr); (· rfl); (· exact nd); simp only [put_some])
 | ((with_reducible apply awZ_ev); (· decide +kernel); (· rfl); (· exact sv))
 | ((with_reducible apply awZ_guard); (· decide +kernel); (· rfl); (· rfl); (· exact svl); all_goals (intro hg; (try simp only [Bool.not_true, Bool.not_false]); (try simp only [decide_eq_true_eq, decide_eq_false_iff_not, Bool.not_true, Bool.not_false, Bool.not_eq_true', Bool.not_eq_false', Bool.not_not, beq_eq_false_iff_ne, ne_eq, beq_iff_eq, decide_eq_decide] at hg); try (exfalso; omega)))
 | ((first | ((with_reducible apply awO_guard); (· rfl); (· rfl); (· exact sv)) | ((with_reducible apply aw_cond); (· exact sv))); all_goals (intro hg; (try simp only [Bool.not_true, Bool.not_false]); (try simp only [decide_eq_true_eq, decide_eq_false_iff_not, Bool.not_true, Bool.not_false, Bool.not_eq_true', Bool.not_eq_false', Bool.not_not, beq_eq_false_iff_ne, ne_eq, beq_iff_eq, decide_eq_decide] at hg); try (exfalso; omega)))
 | ((with_reducible apply retQ_mk); (· (first | exact .inr rfl | exact .inl rfl)); (· exact sv); (· exact sv); rotate_left; (· rfl)))
          refine LE_mk (k + 1) ?_ ?_ ?_ sN sN
          · omega
          · omega
          · exact ⟨rfl, trivial⟩
        · have hnk : ∀ (h1 : k < a.length - i) (h2 : k < b.length - i), ¬ (a[((a.length : Int) - 1 - k).toNat]'(by omega)).toNat = (b[((b.length : Int) - 1 - k).toNat]'(by omega)).toNat := fun h1 h2 h3 => hkl (hct.2 ⟨h1, h2, h3⟩)
          obtain rfl : k = q := by omega
          by_cases u1 : k < a.length - i
          · by_cases u2 : k < b.length - i
            · have u3 := hnk u1 u2
              repeat' (first
 | ((with_reducible apply awO_ev); (· rfl); (· exact sv))
 | ((with_reducible apply aw_seq); intro _ _)
 | (with_reducible apply aw_region)
 | (with_reducible apply aw_block)
 | ((first | (with_reducible apply awO_nil) | (with_reducible apply aw_exit) | (with_reducible apply aw_skip) | (with_reducible apply aw_ret)); (try simp only [CT, ↓reduceIte, Nat.reduceEqDiff]))
 | ((with_reducible apply awO_y); (· rfl); (· rfl); (· decide); (· exact sv); (· exact sv))
 | ((with_reducible apply awO_n); (· rfl); (· rfl); (· decide); (· exact sv); (· rfl); (· rfl); (· decide))
 | ((with_reducible apply awO_u); (· rfl); (· rfl); (· exact svr); (· rfl); (· decide))
 | ((with_reducible apply aw_cond_true); (· exact sv))
 | ((with_reducible apply aw_cond_false); (· exact sv))
 | ((with_reducible apply awO_un); (· rfl); (· decide); (· exact sv))
 | (refine Kont.go ‹Kont _ _ _ _› _ ?_)
 | ((with_reducible apply aw_drawZ); (· decide +kernel); (· decide +kernel))
 | ((with_reducible apply awZ_done); (try simp only [CT, ↓reduceIte, Nat.reduceEqDiff]))
 | ((with_reducible apply awZ_q); (· rfl); (· exact np); (· rfl); (· exact sv))
 | ((with_reducible apply awZ_qy); (· rfl); (· exact np); (· rfl); (· rfl); (· exact nd); (· exact sv); (· exact sv))
 | ((with_reducible apply awZ_qn); (· rfl); (· exact np); (· rfl); (· rfl); (· exact nd); (· exact sv); (· rfl); (· rfl); (· exact nd); simp only [put_some])
 | ((with_reducible apply awZ_qu); (· rfl); (· exact np); (· rfl); (· rfl); (· exact svr); (· rfl); (· exact nd); simp only [put_some])
 | ((with_reducible apply awZ_tn); (· decide +kernel); (· exact np); (· rfl); (· rfl); (· exact nd); (· exact sv); (· rfl); (· rfl); (· exact nd); simp only [put_some])
 | ((with_reducible apply awZ_tu); (· decide +kernel); (· exact np); (· rfl); (· rfl); (· exact svr); (· rfl); (· exact nd); simp only [put_some])
 | ((with_reducible apply awZ_ev); (· decide +kernel); (· rfl); (· exact sv))
 | ((with_reducible apply awZ_guard); (· decide +kernel); (· rfl); (· rfl); (· exact svl); all_goals (intro hg; (try simp only [Bool.not_true, Bool.not_false]); (try simp only [decide_eq_true_eq, decide_eq_false_iff_not, Bool.not_true, Bool.not_false, Bool.not_eq_true', Bool.not_eq_false', Bool.not_not, beq_eq_false_iff_ne, ne_eq, beq_iff_eq, decide_eq_decide] at hg); try (exfalso; omega)))
 | ((first | ((with_reducible apply awO_guard); (· rfl); (· rfl); (· exact sv)) | ((with_reducible apply aw_cond); (· exact sv))); all_goals (intro hg; (try simp only [Bool.not_true, Bool.not_false]); (try simp only [decide_eq_true_eq, decide_eq_false_iff_not, Bool.not_true, Bool.not_false, Bool.not_eq_true', Bool.not_eq_false', Bool.not_not, beq_eq_false_iff_ne, ne_eq, beq_iff_eq, decide_eq_decide] at hg); try (exfalso; omega)))
 | ((with_reducible apply retQ_mk); (· (first | exact .inr rfl | exact .inl rfl)); (· exact sv); (· exact sv); rotate_left; (· rfl)))
              all_goals (rw [show ((a.length - k : Nat) : Int) = (a.length : Int) - k by omega]; rfl)
            · skip
              repeat' (first
 | ((with_reducible apply awO_ev); (· rfl); (· exact sv))
 | ((with_reducible apply aw_seq); intro _ _)
 | (with_reducible apply aw_region)
 | (with_reducible apply aw_block)
 | ((first | (with_reducible apply awO_nil) | (with_reducible apply aw_exit) | (with_reducible apply aw_skip) | (with_reducible apply aw_ret)); (try simp only [CT, ↓reduceIte, Nat.reduceEqDiff]))
 | ((with_reducible apply awO_y); (· rfl); (· rfl); (· decide); (· exact sv); (· exact sv))
 | ((with_reducible apply awO_n); (· rfl); (· rfl); (· decide); (· exact sv); (· rfl); (· rfl); (· decide))
 | ((with_reducible apply awO_u); (· rfl); (· rfl); (· exact svr); (· rfl); (· decide))
 | ((with_reducible apply aw_cond_true); (· exact sv))
 | ((with_reducible apply aw_cond_false); (· exact sv))
 | ((with_reducible apply awO_un); (· rfl); (· decide); (· exact sv))
 | (refine Kont.go ‹Kont _ _ _ _› _ ?_)
 | ((with_reducible apply aw_drawZ); (· decide +kernel); (· decide +kernel))
 | ((with_reducible apply awZ_done); (try simp only [CT, ↓reduceIte, Nat.reduceEqDiff]))
 | ((with_reducible apply awZ_q); (· rfl); (· exact np); (· rfl); (· exact sv))
 | ((with_reducible apply awZ_qy); (· rfl); (· exact np); (· rfl); (· rfl); (· exact nd); (· exact sv); (· exact sv))
 | ((with_reducible apply awZ_qn); (· rfl); (· exact np); (· rfl); (· rfl); (· exact nd); (· exact sv); (· rfl); (· rfl); (· exact nd); simp only [put_some])
 | ((with_reducible apply awZ_qu); (· rfl); (· exact np); (· rfl); (· rfl); (· exact svr); (· rfl); (· exact nd); simp only [put_some])
 | ((with_reducible apply awZ_tn); (· decide +kernel); (· exact np); (· rfl); (· rfl); (· exact nd); (· exact sv); (· rfl); (· rfl); (· exact nd); simp only [put_some])
 | ((with_reducible apply awZ_tu); (· decide +kernel); (· exact np); (· rfl); (· rfl); (· exact svr); (· rfl); (· exact nd); simp only [put_some])
 | ((with_reducible apply awZ_ev); (· decide +kernel); (· rfl); (· exact sv))
 | ((with_reducible apply awZ_guard); (· decide +kernel); (· rfl); (· rfl); (· exact svl); all_goals (intro hg; (try simp only [Bool.not_true, Bool.not_false]); (try simp only [decide_eq_true_eq, decide_eq_false_iff_not, Bool.not_true, Bool.not_false, Bool.not_eq_true', Bool.not_eq_false', Bool.not_not, beq_eq_false_iff_ne, ne_eq, beq_iff_eq, decide_eq_decide] at hg); try (exfalso; omega)))
 | ((first | ((with_reducible apply awO_guard); (· rfl); (· rfl); (· exact sv)) | ((with_reducible apply aw_cond); (· exact sv))); all_goals (intro hg; (try simp only [Bool.not_true, Bool.not_false]); (try simp only [decide_eq_true_eq, decide_eq_false_iff_not, Bool.not_true, Bool.not_false, Bool.not_eq_true', Bool.not_eq_false', Bool.not_not, beq_eq_false_iff_ne, ne_eq, beq_iff_eq, decide_eq_decide] at hg); try (exfalso; omega)))
 | ((with_reducible apply retQ_mk); (· (first | exact .inr rfl | exact .inl rfl)); (· exact sv); (· exact sv); rotate_left; (· rfl)))
              all_goals (rw [show ((a.length - k : Nat) : Int) = (a.length : Int) - k by omega]; rfl)
          · skip
            repeat' (first
 | ((with_reducible apply awO_ev); (· rfl); (· exact sv))
 | ((with_reducible apply aw_seq); intro _ _)
 | (with_reducible apply aw_region)
 | (with_reducible apply aw_block)
 | ((first | (with_reducible apply awO_nil) | (with_reducible apply aw_exit) | (with_reducible apply aw_skip) | (with_reducible apply aw_ret)); (try simp only [CT, ↓reduceIte, Nat.reduceEqDiff]))
 | ((with_reducible apply awO_y); (· rfl); (· rfl); (· decide); (· exact sv); (· exact sv))
 | ((with_reducible apply awO_n); (· rfl); (· rfl); (· decide); (· exact sv); (· rfl); (· rfl); (· decide))
 | ((with_reducible apply awO_u); (· rfl); (· rfl); (· exact svr); (· rfl); (· decide))
 | ((with_reducible apply aw_cond_true); (· exact sv))
 | ((with_reducible apply aw_cond_false); (· exact sv))
 | ((with_reducible apply awO_un); (· rfl); (· decide); (· exact sv))
 | (refine Kont.go ‹Kont _ _ _ _› _ ?_)
 | ((with_reducible apply aw_drawZ); (· decide +kernel); (· decide +kernel))
 | ((with_reducible apply awZ_done); (try simp only [CT, ↓reduceIte, Nat.reduceEqDiff]))
 | ((with_reducible apply awZ_q); (· rfl); (· exact np); (· rfl); (· exact sv))
 | ((with_reducible apply awZ_qy); (· rfl); (· exact np); (· rfl); (· rfl); (· exact nd); (· exact sv); (· exact sv))
 | ((with_reducible apply awZ_qn); (· rfl); (· exact np); (· rfl); (· rfl); (· exact nd); (· exact sv); (· rfl); (· rfl); (· exact nd); simp only [put_some])
 | ((with_reducible apply awZ_qu); (· rfl); (· exact np); (· rfl); (· rfl); (· exact svr); (· rfl); (· exact nd); simp only [put_some])
 | ((with_reducible apply awZ_tn); (· decide +kernel); (· exact np); (· rfl); (· rfl); (· exact nd); (· exact sv); (· rfl); (· rfl); (· exact nd); simp only [put_some])
 | ((with_reducible apply awZ_tu); (· decide +kernel); (· exact np); (· rfl); (· rfl); (· exact svr); (· rfl); (· exact nd); simp only [put_some])
 | ((with_reducible apply awZ_ev); (· decide +kernel); (· rfl); (· exact sv))
 | ((with_reducible apply awZ_guard); (· decide +kernel); (· rfl); (· rfl); (· exact svl); all_goals (intro hg; (try simp only [Bool.not_true, Bool.not_false]); (try simp only [decide_eq_true_eq, decide_eq_false_iff_not, Bool.not_true, Bool.not_false, Bool.not_eq_true', Bool.not_eq_false', Bool.not_not, beq_eq_false_iff_ne, ne_eq, beq_iff_eq, decide_eq_decide] at hg); try (exfalso; omega)))
 | ((first | ((with_reducible apply awO_guard); (· rfl); (· rfl); (· exact sv)) | ((with_reducible apply aw_cond); (· exact sv))); all_goals (intro hg; (try simp only [Bool.not_true, Bool.not_false]); (try simp only [decide_eq_true_eq, decide_eq_false_iff_not, Bool.not_true, Bool.not_false, Bool.not_eq_true', Bool.not_eq_false', Bool.not_not, beq_eq_false_iff_ne, ne_eq, beq_iff_eq, decide_eq_decide] at hg); try (exfalso; omega)))
 | ((with_reducible apply retQ_mk); (· (first | exact .inr rfl | exact .inl rfl)); (· exact sv); (· exact sv); rotate_left; (· rfl)))
            all_goals (rw [show ((a.length - k : Nat) : Int) = (a.length : Int) - k by omega]; rfl)
      · skip
        repeat' (first
 | ((with_reducible apply awO_ev); (· rfl); (· exact sv))
 | ((with_reducible apply aw_seq); intro _ _)
 | (with_reducible apply aw_region)
 | (with_reducible apply aw_block)
 | ((first | (with_reducible apply awO_nil) | (with_reducible apply aw_exit) | (with_reducible apply aw_skip) | (with_reducible apply aw_ret)); (try simp only [CT, ↓reduceIte, Nat.reduceEqDiff]))
 | ((with_reducible apply awO_y); (· rfl); (· rfl); (· decide); (· exact sv); (· exact sv))
 | ((with_reducible apply awO_n); (· rfl); (· rfl); (· decide); (· exact sv); (· rfl); (· rfl); (· decide))
 | ((with_reducible apply awO_u); (· rfl); (· rfl); (· exact svr); (· rfl); (· decide))
 | ((with_reducible apply aw_cond_true); (· exact sv))
 | ((with_reducible apply aw_cond_false); (· exact sv))
 | ((with_reducible apply awO_un); (· rfl); (· decide); (· exact sv))
 | (refine Kont.go ‹Kont _ _ _ _› _ ?_)
 | ((with_reducible apply aw_drawZ); (· decide +kernel); (· decide +kernel))
 | ((with_reducible apply awZ_done); (try simp only [CT, ↓reduceIte, Nat.reduceEqDiff]))
 | ((with_reducible apply awZ_q); (· rfl); (· exact np); (· rfl); (· exact sv))
 | ((with_reducible apply awZ_qy); (· rfl); (· exact np); (· rfl); (· rfl); (· exact nd); (· exact sv); (· exact sv))
 | ((with_reducible apply awZ_qn); (· rfl); (· exact np); (· rfl); (· rfl); (· exact nd); (· exact sv); (· rfl); (· rfl); (· exact nd); simp only [put_some])
 | ((with_reducible apply awZ_qu); (· rfl); (· exact np); (· rfl); (· rfl); (· exact svr); (· rfl); (· exact nd); simp only [put_some])
 | ((with_reducible apply awZ_tn); (· decide +kernel); (· exact np); (· rfl); (· rfl); (· exact nd); (· exact sv); (· rfl); (· rfl); (· exact nd); simp only [put_some])
 | ((with_reducible apply awZ_tu); (· decide +kernel); (· exact np); (· rfl); (· rfl); (· exact svr); (· rfl); (· exact nd); simp only [put_some])
 | ((with_reducible apply awZ_ev); (· decide +kernel); (· rfl); (· exact sv))
 | ((with_reducible apply awZ_guard); (· decide +kernel); (· rfl); (· rfl); (· exact svl); all_goals (intro hg; (try simp only [Bool.not_true, Bool.not_false]); (try simp only [decide_eq_true_eq, decide_eq_false_iff_not, Bool.not_true, Bool.not_false, Bool.not_eq_true', Bool.not_eq_false', Bool.not_not, beq_eq_false_iff_ne, ne_eq, beq_iff_eq, decide_eq_decide] at hg); try (exfalso; omega)))
 | ((first | ((with_reducible apply awO_guard); (· rfl); (· rfl); (· exact sv)) | ((with_reducible apply aw_cond); (· exact sv))); all_goals (intro hg; (try simp only [Bool.not_true, Bool.not_false]); (try simp only [decide_eq_true_eq, decide_eq_false_iff_not, Bool.not_true, Bool.not_false, Bool.not_eq_true', Bool.not_eq_false', Bool.not_not, beq_eq_false_iff_ne, ne_eq, beq_iff_eq, decide_eq_decide] at hg); try (exfalso; omega)))
 | ((with_reducible apply retQ_mk); (· (first | exact .inr rfl | exact .inl rfl)); (· exact sv); (· exact sv); rotate_left; (· rfl)))
        refine aw_loopF (fun k : Nat => [(6, ai k)]) (fun _ => []) (fun k => k ≤ q) (fun k => q - k) 0 (by omega) ?_ ?_ ?_
        · exact ⟨rfl, trivial⟩
        · exact trivial
        intro k hk
        (simp only [LP, List.append_assoc, List.nil_append, List.cons_append, List.append_nil, List.contains_cons, List.contains_nil, Nat.reduceBEq, Bool.or_false, Bool.or_true, Bool.true_or, Bool.false_or, ↓reduceIte, Bool.false_eq_true])
        have hct := hcs k hk
        by_cases hkl : k < q
        · exfalso; omega
        · have hnk : ∀ (h1 : k < a.length - i) (h2 : k < b.length - i), ¬ (a[((a.length : Int) - 1 - k).toNat]'(by omega)).toNat = (b[((b.length : Int) - 1 - k).toNat]'(by omega)).toNat := fun h1 h2 h3 => hkl (hct.2 ⟨h1, h2, h3⟩)
          obtain rfl : k = q := by omega
          by_cases u1 : k < a.length - i
          · by_cases u2 : k < b.length - i
            · have u3 := hnk u1 u2
              repeat' (first
 | ((with_reducible apply awO_ev); (· rfl); (· exact sv))
 | ((with_reducible apply aw_seq); intro _ _)
 | (with_reducible apply aw_region)
 | (with_reducible apply aw_block)
 | ((first | (with_reducible apply awO_nil) | (with_reducible apply aw_exit) | (with_reducible apply aw_skip) | (with_reducible apply aw_ret)); (try simp only [CT, ↓reduceIte, Nat.reduceEqDiff]))
 | ((with_reducible apply awO_y); (· rfl); (· rfl); (· decide); (· exact sv); (· exact sv))
 | ((with_reducible apply awO_n); (· rfl); (· rfl); (· decide); (· exact sv); (· rfl); (· rfl); (· decide))
 | ((with_reducible apply awO_u); (· rfl); (· rfl); (· exact svr); (· rfl); (· decide))
 | ((with_reducible apply aw_cond_true); (· exact sv))
 | ((with_reducible apply aw_cond_false); (· exact sv))
 | ((with_reducible apply awO_un); (· rfl); (· decide); (· exact sv))
 | (refine Kont.go ‹Kont _ _ _ _› _ ?_)
 | ((with_reducible apply aw_drawZ); (· decide +kernel); (· decide +kernel))
 | ((with_reducible apply awZ_done); (try simp only [CT, ↓reduceIte, Nat.reduceEqDiff]))
 | ((with_reducible apply awZ_q); (· rfl); (· exact np); (· rfl); (· exact sv))
 | ((with_reducible apply awZ_qy); (· rfl); (· exact np); (· rfl); (· rfl); (· exact nd); (· exact sv); (· exact sv))
 | ((with_reducible apply awZ_qn); (· rfl); (· exact np); (· rfl); (· rfl); (· exact nd); (· exact sv); (· rfl); (· rfl); (· exact nd); simp only [put_some])
 | ((with_reducible apply awZ_qu); (· rfl); (· exact np); (· rfl); (· rfl); (· exact svr); (· rfl); (· exact nd); simp only [put_some])
 | ((with_reducible apply awZ_tn); (· decide +kernel); (· exact np); (· rfl); (· rfl); (· exact nd); (· exact sv); (· rfl); (· rfl); (· exact nd); simp only [put_some])
 | ((with_reducible apply awZ_tu); (· decide +kernel); (· exact np); (· rfl); (· rfl); (· exact svr); (· rfl); (· exact nd); simp only [put_some])
 | ((with_reducible apply awZ_ev); (· decide +kernel); (· rfl); (· exact sv))
 | ((with_reducible apply awZ_guard); (· decide +kernel); (· rfl); (· rfl); (· exact svl); all_goals (intro hg; (try simp only [Bool.not_true, Bool.not_false]); (try simp only [decide_eq_true_eq, decide_eq_false_iff_not, Bool.not_true, Bool.not_false, Bool.not_eq_true', Bool.not_eq_false', Bool.not_not, beq_eq_false_iff_ne, ne_eq, beq_iff_eq, decide_eq_decide] at hg); try (exfalso; omega)))
 | ((first | ((with_reducible apply awO_guard); (· rfl); (· rfl); (· exact sv)) | ((with_reducible apply aw_cond); (· exact sv))); all_goals (intro hg; (try simp only [Bool.not_true, Bool.not_false]); (try simp only [decide_eq_true_eq, decide_eq_false_iff_not, Bool.not_true, Bool.not_false, Bool.not_eq_true', Bool.not_eq_false', Bool.not_not, beq_eq_false_iff_ne, ne_eq, beq_iff_eq, decide_eq_decide] at hg); try (exfalso; omega)))
 | ((with_reducible apply retQ_mk); (· (first | exact .inr rfl | exact .inl rfl)); (· exact sv); (· exact sv); rotate_left; (· rfl)))
              all_goals (rw [show ((a.length - k : Nat) : Int) = (a.length : Int) - k by omega]; rfl)
            · skip
              repeat' (first
 | ((with_reducible apply awO_ev); (· rfl); (· exact sv))
 | ((with_reducible apply aw_seq); intro _ _)
 | (with_reducible apply aw_region)
 | (with_reducible apply aw_block)
 | ((first | (with_reducible apply awO_nil) | (with_reducible apply aw_exit) | (with_reducible apply aw_skip) | (with_reducible apply aw_ret)); (try simp only [CT, ↓reduceIte, Nat.reduceEqDiff]))
 | ((with_reducible apply awO_y); (· rfl); (· rfl); (· decide); (· exact sv); (· exact sv))
 | ((with_reducible apply awO_n); (· rfl); (· rfl); (· decide); (· exact sv); (· rfl); (· rfl); (· decide))
 | ((with_reducible apply awO_u); (· rfl); (· rfl); (· exact svr); (· rfl); (· decide))
 | ((with_reducible apply aw_cond_true); (· exact sv))
 | ((with_reducible apply aw_cond_false); (· exact sv))
 | ((with_reducible apply awO_un); (· rfl); (· decide); (· exact sv))
 | (refine Kont.go ‹Kont _ _ _ _› _ ?_)
 | ((with_reducible apply aw_drawZ); (· decide +kernel); (· decide +kernel))
 | ((with_reducible apply awZ_done); (try simp only [CT, ↓reduceIte, Nat.reduceEqDiff]))
 | ((with_reducible apply awZ_q); (· rfl); (· exact np); (· rfl); (· exact sv))
 | ((with_reducible apply awZ_qy); (· rfl); (· exact np); (· rfl); (· rfl); (· exact nd); (· exact sv); (· exact sv))
 | ((with_reducible apply awZ_qn); (· rfl); (· exact np); (· rfl); (· rfl); (· exact nd); (· exact sv); (· rfl); (· rfl); (· exact nd); simp only [put_some])
 | ((with_reducible apply awZ_qu); (· rfl); (· exact np); (· rfl); (· rfl); (· exact svr); (· rfl); (· exact nd); simp only [put_some])
 | ((with_reducible apply awZ_tn); (· decide +kernel); (· exact np); (· rfl); (· rfl); (· exact nd); (· exact sv); (· rfl); (· rfl); (· exact nd); simp only [put_some])
 | ((with_reducible apply awZ_tu); (· decide +kernel); (· exact np); (· rfl); (· rfl); (· exact svr); (· rfl); (· exact nd); simp only [put_some])
 | ((with_reducible apply awZ_ev); (· decide +kernel); (· rfl); (· exact sv))
 | ((with_reducible apply awZ_guard); (· decide +kernel); (· rfl); (· rfl); (· exact svl); all_goals (intro hg; (try simp only [Bool.not_true, Bool.not_false]); (try simp only [decide_eq_true_eq, decide_eq_false_iff_not, Bool.not_true, Bool.not_false, Bool.not_eq_true', Bool.not_eq_false', Bool.not_not, beq_eq_false_iff_ne, ne_eq, beq_iff_eq, decide_eq_decide] at hg); try (exfalso; omega)))
 | ((first | ((with_reducible apply awO_guard); (· rfl); (· rfl); (· exact sv)) | ((with_reducible apply aw_cond); (· exact sv))); all_goals (intro hg; (try simp only [Bool.not_true, Bool.not_false]); (try simp only [decide_eq_true_eq, decide_eq_false_iff_not, Bool.not_true, Bool.not_false, Bool.not_eq_true', Bool.not_eq_false', Bool.not_not, beq_eq_false_iff_ne, ne_eq, beq_iff_eq, decide_eq_decide] at hg); try (exfalso; omega)))
 | ((with_reducible apply retQ_mk); (· (first | exact .inr rfl | exact .inl rfl)); (· exact sv); (· exact sv); rotate_left; (· rfl)))
              all_goals (rw [show ((a.length - k : Nat) : Int) = (a.length : Int) - k by omega]; rfl)
          · skip
            repeat' (first
 | ((with_reducible apply awO_ev); (· rfl); (· exact sv))
 | ((with_reducible apply aw_seq); intro _ _)
 | (with_reducible apply aw_region)
 | (with_reducible apply aw_block)
 | ((first | (with_reducible apply awO_nil) | (with_reducible apply aw_exit) | (with_reducible apply aw_skip) | (with_reducible apply aw_ret)); (try simp only [CT, ↓reduceIte, Nat.reduceEqDiff]))
 | ((with_reducible apply awO_y); (· rfl); (· rfl); (· decide); (· exact sv); (· exact sv))
 | ((with_reducible apply awO_n); (· rfl); (· rfl); (· decide); (· exact sv); (· rfl); (· rfl); (· decide))
 | ((with_reducible apply awO_u); (· rfl); (· rfl); (· exact svr); (· rfl); (· decide))
 | ((with_reducible apply aw_cond_true); (· exact sv))
 | ((with_reducible apply aw_cond_false); (· exact sv))
 | ((with_reducible apply awO_un); (· rfl); (· decide); (· exact sv))
 | (refine Kont.go ‹Kont _ _ _ _› _ ?_)
 | ((with_reducible apply aw_drawZ); (· decide +kernel); (· decide +kernel))
 | ((with_reducible apply awZ_done); (try simp only [CT, ↓reduceIte, Nat.reduceEqDiff]))
 | ((with_reducible apply awZ_q); (· rfl); (· exact np); (· rfl); (· exact sv))
 | ((with_reducible apply awZ_qy); (· rfl); (· exact np); (· rfl); (· rfl); (· exact nd); (· exact sv); (· exact sv))
 | ((with_reducible apply awZ_qn); (· rfl); (· exact np); (· rfl); (· rfl); (· exact nd); (· exact sv); (· rfl); (· rfl); (· exact nd); simp only [put_some])
 | ((with_reducible apply awZ_qu); (· rfl); (· exact np); (· rfl); (· rfl); (· exact svr); (· rfl); (· exact nd); simp only [put_some])
 | ((with_reducible apply awZ_tn); (· decide +kernel); (· exact np); (· rfl); (· rfl); (· exact nd); (· exact sv); (· rfl); (· rfl); (· exact nd); simp only [put_some])
 | ((with_reducible apply awZ_tu); (· decide +kernel); (· exact np); (· rfl); (· rfl); (· exact svr); (· rfl); (· exact nd); simp only [put_some])
 | ((with_reducible apply awZ_ev); (· decide +kernel); (· rfl); (· exact sv))
 | ((with_reducible apply awZ_guard); (· decide +kernel); (· rfl); (· rfl); (· exact svl); all_goals (intro hg; (try simp only [Bool.not_true, Bool.not_false]); (try simp only [decide_eq_true_eq, decide_eq_false_iff_not, Bool.not_true, Bool.not_false, Bool.not_eq_true', Bool.not_eq_false', Bool.not_not, beq_eq_false_iff_ne, ne_eq, beq_iff_eq, decide_eq_decide] at hg); try (exfalso; omega)))
 | ((first | ((with_reducible apply awO_guard); (· rfl); (· rfl); (· exact sv)) | ((with_reducible apply aw_cond); (· exact sv))); all_goals (intro hg; (try simp only [Bool.not_true, Bool.not_false]); (try simp only [decide_eq_true_eq, decide_eq_false_iff_not, Bool.not_true, Bool.not_false, Bool.not_eq_true', Bool.not_eq_false', Bool.not_not, beq_eq_false_iff_ne, ne_eq, beq_iff_eq, decide_eq_decide] at hg); try (exfalso; omega)))
 | ((with_reducible apply retQ_mk); (· (first | exact .inr rfl | exact .inl rfl)); (· exact sv); (· exact sv); rotate_left; (· rfl)))
            all_goals (rw [show ((a.length - k : Nat) : Int) = (a.length : Int) - k by omega]; rfl)
    · skip
      repeat' (first
 | ((with_reducible apply awO_ev); (· rfl); (· exact sv))
 | ((with_reducible apply aw_seq); intro _ _)
 | (with_reducible apply aw_region)
 | (with_reducible apply aw_block)
 | ((first | (with_reducible apply awO_nil) | (with_reducible apply aw_exit) | (with_reducible apply aw_skip) | (with_reducible apply aw_ret)); (try simp only [CT, ↓reduceIte, Nat.reduceEqDiff]))
 | ((with_reducible apply awO_y); (· rfl); (· rfl); (· decide); (· exact sv); (· exact sv))
 | ((with_reducible apply awO_n); (· rfl); (· rfl); (· decide); (· exact sv); (· rfl); (· rfl); (· decide))
 | ((with_reducible apply awO_u); (· rfl); (· rfl); (· exact svr); (· rfl); (· decide))
 | ((with_reducible apply aw_cond_true); (· exact sv))
 | ((with_reducible apply aw_cond_false); (· exact sv))
 | ((with_reducible apply awO_un); (· rfl); (· decide); (· exact sv))
 | (refine Kont.go ‹Kont _ _ _ _› _ ?_)
 | ((with_reducible apply aw_drawZ); (· decide +kernel); (· decide +kernel))
 | ((with_reducible apply awZ_done); (try simp only [CT, ↓reduceIte, Nat.reduceEqDiff]))
 | ((with_reducible apply awZ_q); (· rfl); (· exact np); (· rfl); (· exact sv))
 | ((with_reducible apply awZ_qy); (· rfl); (· exact np); (· rfl); (· rfl); (· exact nd); (· exact sv); (· exact sv))
 | ((with_reducible apply awZ_qn); (· rfl); (· exact np); (· rfl); (· rfl); (· exact nd); (· exact sv); (· rfl); (· rfl); (· exact nd); simp only [put_some])
 | ((with_reducible apply awZ_qu); (· rfl); (· exact np); (· rfl); (· rfl); (· exact svr); (· rfl); (· exact nd); simp only [put_some])
 | ((with_reducible apply awZ_tn); (· decide +kernel); (· exact np); (· rfl); (· rfl); (· exact nd); (· exact sv); (· rfl); (· rfl); (· exact nd); simp only [put_some])
 | ((with_reducible apply awZ_tu); (· decide +kernel); (· exact np); (· rfl); (· rfl); (· exact svr); (· rfl); (· exact nd); simp only [put_some])
 | ((with_reducible apply awZ_ev); (· decide +kernel); (· rfl); (· exact sv))
 | ((with_reducible apply awZ_guard); (· decide +kernel); (· rfl); (· rfl); (· exact svl); all_goals (intro hg; (try simp only [Bool.not_true, Bool.not_false]); (try simp only [decide_eq_true_eq, decide_eq_false_iff_not, Bool.not_true, Bool.not_false, Bool.not_eq_true', Bool.not_eq_false', Bool.not_not, beq_eq_false_iff_ne, ne_eq, beq_iff_eq, decide_eq_decide] at hg); try (exfalso; omega)))
 | ((first | ((with_reducible apply awO_guard); (· rfl); (· rfl); (· exact sv)) | ((with_reducible apply aw_cond); (· exact sv))); all_goals (intro hg; (try simp only [Bool.not_true, Bool.not_false]); (try simp only [decide_eq_true_eq, decide_eq_false_iff_not, Bool.not_true, Bool.not_false, Bool.not_eq_true', Bool.not_eq_false', Bool.not_not, beq_eq_false_iff_ne, ne_eq, beq_iff_eq, decide_eq_decide] at hg); try (exfalso; omega)))
 | ((with_reducible apply retQ_mk); (· (first | exact .inr rfl | exact .inl rfl)); (· exact sv); (· exact sv); rotate_left; (· rfl)))
      refine aw_loopF (fun k : Nat => [(6, ai k)]) (fun _ => []) (fun k => k ≤ q) (fun k => q - k) 0 (by omega) ?_ ?_ ?_
      · exact ⟨rfl, trivial⟩
      · exact trivial
      intro k hk
      (simp only [LP, List.append_assoc, List.nil_append, List.cons_append, List.append_nil, List.contains_cons, List.contains_nil, Nat.reduceBEq, Bool.or_false, Bool.or_true, Bool.true_or, Bool.false_or, ↓reduceIte, Bool.false_eq_true])
      have hct := hcs k hk
      by_cases hkl : k < q
      · exfalso; omega
      · have hnk : ∀ (h1 : k < a.length - i) (h2 : k < b.length - i), ¬ (a[((a.length : Int) - 1 - k).toNat]'(by omega)).toNat = (b[((b.length : Int) - 1 - k).toNat]'(by omega)).toNat := fun h1 h2 h3 => hkl (hct.2 ⟨h1, h2, h3⟩)
        obtain rfl : k = q := by omega
        by_cases u1 : k < a.length - i
        · by_cases u2 : k < b.length - i
          · have u3 := hnk u1 u2
            repeat' (first
 | ((with_reducible apply awO_ev); (· rfl); (· exact sv))
 | ((with_reducible apply aw_seq); intro _ _)
 | (with_reducible apply aw_region)
 | (with_reducible apply aw_block)
 | ((first | (with_reducible apply awO_nil) | (with_reducible apply aw_exit) | (with_reducible apply aw_skip) | (with_reducible apply aw_ret)); (try simp only [CT, ↓reduceIte, Nat.reduceEqDiff]))
 | ((with_reducible apply awO_y); (· rfl); (· rfl); (· decide); (· exact sv); (· exact sv))
 | ((with_reducible apply awO_n); (· rfl); (· rfl); (· decide); (· exact sv); (· rfl); (· rfl); (· decide))
 | ((with_reducible apply awO_u); (· rfl); (· rfl); (· exact svr); (· rfl); (· decide))
 | ((with_reducible apply aw_cond_true); (· exact sv))
 | ((with_reducible apply aw_cond_false); (· exact sv))
 | ((with_reducible apply awO_un); (· rfl); (· decide); (· exact sv))
 | (refine Kont.go ‹Kont _ _ _ _› _ ?_)
 | ((with_reducible apply aw_drawZ); (· decide +kernel); (· decide +kernel))
 | ((with_reducible apply awZ_done); (try simp only [CT, ↓reduceIte, Nat.reduceEqDiff]))
 | ((with_reducible apply awZ_q); (· rfl); (· exact np); (· rfl); (· exact sv))
 | ((with_reducible apply awZ_qy); (· rfl); (· exact np); (· rfl); (· rfl); (· exact nd); (· exact sv); (· exact sv))
 | ((with_reducible apply awZ_qn); (· rfl); (· exact np); (· rfl); (· rfl); (· exact nd); (· exact sv); (· rfl); (· rfl); (· exact nd); simp only [put_some])
 | ((with_reducible apply awZ_qu); (· rfl); (· exact np); (· rfl); (· rfl); (· exact svr); (· rfl); (· exact nd); simp only [put_some])
 | ((with_reducible apply awZ_tn); (· decide +kernel); (· exact np); (· rfl); (· rfl); (· exact nd); (· exact sv); (· rfl); (· rfl); (· exact nd); simp only [put_some])
 | ((with_reducible apply awZ_tu); (· decide +kernel); (· exact np); (· rfl); (· rfl); (· exact svr); (· rfl); (· exact nd); simp only [put_some])
 | ((with_reducible apply awZ_ev); (· decide +kernel); (· rfl); (· exact sv))
 | ((with_reducible apply awZ_guard); (· decide +kernel); (· rfl); (· rfl); (· exact svl); all_goals (intro hg; (try simp only [Bool.not_true, Bool.not_false]); (try simp only [decide_eq_true_eq, decide_eq_false_iff_not, Bool.not_true, Bool.not_false, Bool.not_eq_true', Bool.not_eq_false', Bool.not_not, beq_eq_false_iff_ne, ne_eq, beq_iff_eq, decide_eq_decide] at hg); try (exfalso; omega)))
 | ((first | ((with_reducible apply awO_guard); (· rfl); (· rfl); (· exact sv)) | ((with_reducible apply aw_cond); (· exact sv))); all_goals (intro hg; (try simp only [Bool.not_true, Bool.not_false]); (try simp only [decide_eq_true_eq, decide_eq_false_iff_not, Bool.not_true, Bool.not_false, Bool.not_eq_true', Bool.not_eq_false', Bool.not_not, beq_eq_false_iff_ne, ne_eq, beq_iff_eq, decide_eq_decide] at hg); try (exfalso; omega)))
 | ((with_reducible apply retQ_mk); (· (first | exact .inr rfl | exact .inl rfl)); (· exact sv); (· exact sv); rotate_left; (· rfl)))
            all_goals (rw [show ((a.length - k : Nat) : Int) = (a.length : Int) - k by omega]; rfl)
          · skip
            repeat' (first
 | ((with_reducible apply awO_ev); (· rfl); (· exact sv))
 | ((with_reducible apply aw_seq); intro _ _)
 | (with_reducible apply aw_region)
 | (with_reducible apply aw_block)
 | ((first | (with_reducible apply awO_nil) | (with_reducible apply aw_exit) | (with_reducible apply aw_skip) | (with_reducible apply aw_ret)); (try simp only [CT, ↓reduceIte, Nat.reduceEqDiff]))
 | ((with_reducible apply awO_y); (· rfl); (· rfl); (· decide); (· exact sv); (· exact sv))
 | ((with_reducible apply awO_n); (· rfl); (· rfl); (· decide); (· exact sv); (· rfl); (· rfl); (· decide))
 | ((with_reducible apply awO_u); (· rfl); (· rfl); (· exact svr); (· rfl); (· decide))
 | ((with_reducible apply aw_cond_true); (· exact sv))
 | ((with_reducible apply aw_cond_false); (· exact sv))
 | ((with_reducible apply awO_un); (· rfl); (· decide); (· exact sv))
 | (refine Kont.go ‹Kont _ _ _ _› _ ?_)
 | ((with_reducible apply aw_drawZ); (· decide +kernel); (· decide +kernel))
 | ((with_reducible apply awZ_done); (try simp only [CT, ↓reduceIte, Nat.reduceEqDiff]))
 | ((with_reducible apply awZ_q); (· rfl); (· exact np); (· rfl); (· exact sv))
 | ((with_reducible apply awZ_qy); (· rfl); (· exact np); (· rfl); (· rfl); (· exact nd); (· exact sv); (· exact sv))
 | ((with_reducible apply awZ_qn); (· rfl); (· exact np); (· rfl); (· rfl); (· exact nd); (· exact sv); (· rfl); (· rfl); (· exact nd); simp only [put_some])
 | ((with_reducible apply awZ_qu); (· rfl); (· exact np); (· rfl); (· rfl); (· exact svr); (· rfl); (· exact nd); simp only [put_some])
 | ((with_reducible apply awZ_tn); (· decide +kernel); (· exact np); (· rfl); (· rfl); (· exact nd); (· exact sv); (· rfl); (· rfl); (· exact nd); simp only [put_some])
 | ((with_reducible apply awZ_tu); (· decide +kernel); (· exact np); (· rfl); (· rfl); (· exact svr); (· rfl); (· exact nd); simp only [put_some])
 | ((with_reducible apply awZ_ev); (· decide +kernel); (· rfl); (· exact sv))
 | ((with_reducible apply awZ_guard); (· decide +kernel); (· rfl); (· rfl); (· exact svl); all_goals (intro hg; (try simp only [Bool.not_true, Bool.not_false]); (try simp only [decide_eq_true_eq, decide_eq_false_iff_not, Bool.not_true, Bool.not_false, Bool.not_eq_true', Bool.not_eq_false', Bool.not_not, beq_eq_false_iff_ne, ne_eq, beq_iff_eq, decide_eq_decide] at hg); try (exfalso; omega)))
 | ((first | ((with_reducible apply awO_guard); (· rfl); (· rfl); (· exact sv)) | ((with_reducible apply aw_cond); (· exact sv))); all_goals (intro hg; (try simp only [Bool.not_true, Bool.not_false]); (try simp only [decide_eq_true_eq, decide_eq_false_iff_not, Bool.not_true, Bool.not_false, Bool.not_eq_true', Bool.not_eq_false', Bool.not_not, beq_eq_false_iff_ne, ne_eq, beq_iff_eq, decide_eq_decide] at hg); try (exfalso; omega)))
 | ((with_reducible apply retQ_mk); (· (first | exact .inr rfl | exact .inl rfl)); (· exact sv); (· exact sv); rotate_left; (· rfl)))
            all_goals (rw [show ((a.length - k : Nat) : Int) = (a.length : Int) - k by omega]; rfl)
        · skip
          repeat' (first
 | ((with_reducible apply awO_ev); (· rfl); (· exact sv))
 | ((with_reducible apply aw_seq); intro _ _)
 | (with_reducible apply aw_region)
 | (with_reducible apply aw_block)
 | ((first | (with_reducible apply awO_nil) | (with_reducible apply aw_exit) | (with_reducible apply aw_skip) | (with_reducible apply aw_ret)); (try simp only [CT, ↓reduceIte, Nat.reduceEqDiff]))
 | ((with_reducible apply awO_y); (· rfl); (· rfl); (· decide); (· exact sv); (· exact sv))
 | ((with_reducible apply awO_n); (· rfl); (· rfl); (· decide); (· exact sv); (· rfl); (· rfl); (· decide))
 | ((with_reducible apply awO_u); (· rfl); (· rfl); (· exact svr); (· rfl); (· decide))
 | ((with_reducible apply aw_cond_true); (· exact sv))
 | ((with_reducible apply aw_cond_false); (· exact sv))
 | ((with_reducible apply awO_un); (· rfl); (· decide); (· exact sv))
 | (refine Kont.go ‹Kont _ _ _ _› _ ?_)
 | ((with_reducible apply aw_drawZ); (· decide +kernel); (· decide +kernel))
 | ((with_reducible apply awZ_done); (try simp only [CT, ↓reduceIte, Nat.reduceEqDiff]))
 | ((with_reducible apply awZ_q); (· rfl); (· exact np); (· rfl); (· exact sv))
 | ((with_reducible apply awZ_qy); (· rfl); (· exact np); (· rfl); (· rfl); (· exact nd); (· exact sv); (· exact sv))
 | ((with_reducible apply awZ_qn); (· rfl); (· exact np); (· rfl); (· rfl); (· exact nd); (· exact sv); (· rfl); (· rfl); (· exact nd); simp only [put_some])
 | ((with_reducible apply awZ_qu); (· rfl); (· exact np); (· rfl); (· rfl); (· exact svr); (· rfl); (· exact nd); simp only [put_some])
 | ((with_reducible apply awZ_tn); (· decide +kernel); (· exact np); (· rfl); (· rfl); (· exact nd); (· exact sv); (· rfl); (· rfl); (· exact nd); simp only [put_some])
 | ((with_reducible apply awZ_tu); (· decide +kernel); (· exact np); (· rfl); (· rfl); (· exact svr); (· rfl); (· exact nd); simp only [put_some])
 | ((with_reducible apply awZ_ev); (· decide +kernel); (· rfl); (· exact sv))
 | ((with_reducible apply awZ_guard); (· decide +kernel); (· rfl); (· rfl); (· exact svl); all_goals (intro hg; (try simp only [Bool.not_true, Bool.not_false]); (try simp only [decide_eq_true_eq, decide_eq_false_iff_not, Bool.not_true, Bool.not_false, Bool.not_eq_true', Bool.not_eq_false', Bool.not_not, beq_eq_false_iff_ne, ne_eq, beq_iff_eq, decide_eq_decide] at hg); try (exfalso; omega)))
 | ((first | ((with_reducible apply awO_guard); (· rfl); (· rfl); (· exact sv)) | ((with_reducible apply aw_cond); (· exact sv))); all_goals (intro hg; (try simp only [Bool.not_true, Bool.not_false]); (try simp only [decide_eq_true_eq, decide_eq_false_iff_not, Bool.not_true, Bool.not_false, Bool.not_eq_true', Bool.not_eq_false', Bool.not_not, beq_eq_false_iff_ne, ne_eq, beq_iff_eq, decide_eq_decide] at hg); try (exfalso; omega)))
 | ((with_reducible apply retQ_mk); (· (first | exact .inr rfl | exact .inl rfl)); (· exact sv); (· exact sv); rotate_left; (· rfl)))
          all_goals (rw [show ((a.length - k : Nat) : Int) = (a.length : Int) - k by omega]; rfl)
end Go.Proofs.YtbjhecllejdfaaaDoor
