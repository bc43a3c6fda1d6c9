/- chars.Name, on the abstract machine. -/
import Derived.Test.YtogmppcfopgkdaaGreatDoorCaD
import Derived.Test.YtogmppcfopgkdaaGreatDoorSid
import Derived.Test.YtogmppcfopgkdaaGreatDoorBldN
namespace Go.Proofs.YtogmppcfopgkdaaGreatDoor
open Go.RowKit
set_option linter.unusedVariables false
set_option linter.unusedSimpArgs false
set_option maxRecDepth 100000
set_option maxHeartbeats 8000000
abbrev ar (x : Int) : AV := .v (.int .i32 x)
theorem letterR_ab (x : Int) : Ab Tryz.prog 49 [ar x] (ab (decide (65 ≤ x ∧ x ≤ 90 ∨ 97 ≤ x ∧ x ≤ 122))) := by
  refine Fn_of_aw (keep := []) Tryz.func49 rfl rfl (by simp [Tryz.ntmps49]) ?_
  simp only [num_cons, num_nil, Tryz.ntmps49, Tryz.results49]
  repeat' (first
 | ((with_reducible apply awO_ev); (· rfl); (· exact sv))
 | ((with_reducible apply aw_seq); intro _ _)
 | (with_reducible apply aw_region)
 | ((with_reducible first | apply awO_nil | apply aw_exit | apply aw_skip | apply aw_ret); (try simp only [CT, ↓reduceIte, Nat.reduceEqDiff]))
 | ((with_reducible apply awO_y); (· rfl); (· rfl); (· decide); (· exact sv); (· exact sv))
 | ((with_reducible apply awO_n); (· rfl); (· rfl); (· decide); (· exact sv); (· rfl); (· rfl); (· decide))
 | ((with_reducible apply awO_u); (· rfl); (· rfl); (· exact svr); (· rfl); (· decide))
 | (refine Kont.go ‹Kont _ _ _ _› _ ?_)
 | ((first | ((with_reducible apply awO_guardN); (· rfl); (· rfl); (· exact sv); (· exact nB)) | ((with_reducible apply aw_condN); (· exact sv))); (· exact pN); (· exact pN); all_goals (intro hg; try (exfalso; omega)))
 | ((with_reducible apply retQ_mk); (· exact rI); (· exact sv); (· exact sv); rotate_left; (· rfl)))
  all_goals (refine ab_eq ?_; simp only [Bool.false_eq_true, decide_eq_true_eq, true_iff, false_iff, iff_true, iff_false, not_true, not_false_eq_true]; omega)
theorem digitR_ab (x : Int) : Ab Tryz.prog 50 [ar x] (ab (decide (48 ≤ x ∧ x ≤ 57))) := by
  refine Fn_of_aw (keep := []) Tryz.func50 rfl rfl (by simp [Tryz.ntmps50]) ?_
  simp only [num_cons, num_nil, Tryz.ntmps50, Tryz.results50]
  repeat' (first
 | ((with_reducible apply awO_ev); (· rfl); (· exact sv))
 | ((with_reducible apply aw_seq); intro _ _)
 | (with_reducible apply aw_region)
 | ((with_reducible first | apply awO_nil | apply aw_exit | apply aw_skip | apply aw_ret); (try simp only [CT, ↓reduceIte, Nat.reduceEqDiff]))
 | ((with_reducible apply awO_y); (· rfl); (· rfl); (· decide); (· exact sv); (· exact sv))
 | ((with_reducible apply awO_n); (· rfl); (· rfl); (· decide); (· exact sv); (· rfl); (· rfl); (· decide))
 | (refine Kont.go ‹Kont _ _ _ _› _ ?_)
 | ((first | ((with_reducible apply awO_guardN); (· rfl); (· rfl); (· exact sv); (· exact nB)) | ((with_reducible apply aw_condN); (· exact sv))); (· exact pN); (· exact pN); all_goals (intro hg; try (exfalso; omega)))
 | ((with_reducible apply retQ_mk); (· exact rI); (· exact sv); (· exact sv); rotate_left; (· rfl)))
  all_goals (refine ab_eq ?_; simp only [Bool.false_eq_true, decide_eq_true_eq, true_iff, false_iff, iff_true, iff_false, not_true, not_false_eq_true]; omega)
/-- What is left to look at from p on. -/
def nmP (s : List UInt8) (p : Nat) : Bool := (s.drop p).all nmC && !(decide (p = 0) && match s with | [] => false | c :: _ => decide (48 ≤ c.toNat ∧ c.toNat ≤ 57))
theorem nmP_end {s : List UInt8} {p : Nat} (h : s.length ≤ p) (hp : 0 < p) : nmP s p = true := by
  unfold nmP; rw [List.drop_eq_nil_of_le h, decide_eq_false (by omega)]; rfl
theorem nmP_ok {s : List UInt8} {p : Nat} (h : p < s.length) (hc : nmC s[p] = true) (hd : p = 0 → ¬ (48 ≤ s[p].toNat ∧ s[p].toNat ≤ 57)) : nmP s p = nmP s (p + 1) := by
  unfold nmP
  rw [dropc h, List.all_cons, hc, Bool.true_and, decide_eq_false (by omega : ¬ p + 1 = 0), Bool.false_and]
  by_cases h0 : p = 0
  · subst h0
    have hd := hd rfl
    cases s with
    | nil => simp at h
    | cons c r =>
      simp only [List.getElem_cons_zero] at hd
      simp only [decide_eq_false hd, Bool.and_false]
  · rw [decide_eq_false h0, Bool.false_and]
theorem nmP_no {s : List UInt8} {p : Nat} (h : p < s.length) (hc : nmC s[p] = false ∨ (p = 0 ∧ 48 ≤ s[p].toNat ∧ s[p].toNat ≤ 57)) : nmP s p = false := by
  unfold nmP
  rcases hc with hc | ⟨rfl, hd⟩
  · rw [dropc h, List.all_cons, hc]; rfl
  · cases s with
    | nil => simp at h
    | cons c r =>
      simp only [List.getElem_cons_zero] at hd
      simp only [decide_eq_true hd, decide_true, Bool.and_self, Bool.not_true, Bool.and_false]
theorem name_ab (s : List UInt8) (hs : s.length ≤ 9000000000000000) : Ab Tryz.prog 27 [az s] (ab (nmB s)) := by
  by_cases hr : 1 ≤ s.length ∧ s.length ≤ 32
  rotate_left
  · have e : nmB s = false := by unfold nmB; rw [decide_eq_false hr]; rfl
    rw [e]
    refine Fn_of_aw (keep := []) Tryz.func27 rfl rfl (by simp [Tryz.ntmps27]) ?_
    simp only [num_cons, num_nil, Tryz.ntmps27, Tryz.results27]
    exact wkA
  have e : nmB s = nmP s 0 := by unfold nmB nmP; rw [decide_eq_true hr, Bool.true_and, List.drop_zero]; rfl
  rw [e]
  generalize hR : nmP s 0 = R
  obtain ⟨hr1, hr2⟩ := hr
  refine Fn_of_aw (keep := []) Tryz.func27 rfl rfl (by simp [Tryz.ntmps27]) ?_
  simp only [num_cons, num_nil, Tryz.ntmps27, Tryz.results27]
  refine aw_of_awS tBld 5 ?_
  repeat' (first
 | ((with_reducible apply awSO_range); (· rfl); (· rfl); (· kernel_rfl); (· exact sv); (· rfl); (· exact nd); intro nc)
 | ((with_reducible apply awSO_ev); (· rfl); (· exact sv))
 | ((with_reducible apply awS_seq); intro _ _)
 | ((with_reducible apply awS_region))
 | ((with_reducible apply awS_block))
 | ((with_reducible apply awSO_nil); (try simp only [CTS, ↓reduceIte, Nat.reduceEqDiff]))
 | ((with_reducible apply awS_skip); (try simp only [CTS, ↓reduceIte, Nat.reduceEqDiff]))
 | ((with_reducible apply awSO_y); (· rfl); (· rfl); (· decide); (· exact sv); (· exact sv))
 | (refine KontS.go ‹KontS _ _ _ _ _ _› _ _ ?_)
 | ((with_reducible apply awSO_guard); (· rfl); (· rfl); (· exact sv); all_goals (intro hg; (try simp only [Bool.not_true, Bool.not_false]); (try simp only [decide_eq_true_eq, decide_eq_false_iff_not, Bool.not_true, Bool.not_false, Bool.not_eq_true', Bool.not_eq_false', Bool.not_not, beq_eq_false_iff_ne, ne_eq, beq_iff_eq, decide_eq_decide] at hg); try (exfalso; omega)))
 | ((with_reducible apply awS_cond); (· exact sv); all_goals (intro hg; (try simp only [decide_eq_true_eq, decide_eq_false_iff_not, Bool.not_true, Bool.not_false, Bool.not_eq_true', Bool.not_eq_false', Bool.not_not, beq_eq_false_iff_ne, ne_eq, beq_iff_eq, decide_eq_decide] at hg); try (exfalso; omega))))
  refine awS_loopF (fun _ : Nat => []) (fun _ => []) (fun p => ⟨none, some (nc, s, p)⟩) (fun p => p ≤ s.length ∧ R = nmP s p) (fun p => s.length - p) 0 ⟨Nat.zero_le _, hR.symm⟩ rfl ?_ ?_ ?_
  · exact trivial
  · exact trivial
  rintro p ⟨hp, hI⟩
  clear hR
  (simp only [LP, List.append_assoc, List.nil_append, List.cons_append, List.append_nil, List.contains_cons, List.contains_nil, Nat.reduceBEq, Bool.or_false, Bool.or_true, Bool.true_or, Bool.false_or, ↓reduceIte, Bool.false_eq_true])
  by_cases hpl : p < s.length
  rotate_left
  · have hR : R = true := by rw [hI, nmP_end (by omega) (by omega)]
    subst hR
    repeat' (first
 | ((with_reducible apply awSO_next); (· rfl); (· rfl); (· exact sv); (· rfl); (· exact nd); all_goals (intro hg; try (exfalso; omega)))
 | ((with_reducible apply awSO_ev); (· rfl); (· exact sv))
 | ((with_reducible apply awS_seq); intro _ _)
 | ((with_reducible apply awS_region))
 | ((with_reducible apply awSO_nil); (try simp only [CTS, ↓reduceIte, Nat.reduceEqDiff]))
 | ((with_reducible apply awS_exit); (try simp only [CTS, ↓reduceIte, Nat.reduceEqDiff]))
 | ((with_reducible apply awS_ret); (try simp only [CTS, ↓reduceIte, Nat.reduceEqDiff]))
 | ((with_reducible apply awS_cond_false); (· exact sv))
 | (refine KontS.go ‹KontS _ _ _ _ _ _› _ _ ?_)
 | ((with_reducible apply retQ_mk); (· exact rI); (· exact sv); (· exact sv); rotate_left; (· rfl)))
    all_goals rfl
  have hdec := rune_cases s p hpl
  have c1 := letterR_ab (Utf8.decode (str s) p).1
  have c2 := digitR_ab (Utf8.decode (str s) p).1
  have hb : (s[p].toNat < 128 ∧ ((Utf8.decode (str s) p).1 : Int) = s[p].toNat ∧ (Utf8.decode (str s) p).2 = 1) ∨ (128 ≤ s[p].toNat ∧ 128 ≤ ((Utf8.decode (str s) p).1 : Int)) := by
    rcases hdec with ⟨h1, h2⟩ | ⟨h1, h2, _⟩
    · refine .inl ⟨h1, ?_, ?_⟩
      · rw [h2]
      · rw [h2]
    · exact .inr ⟨h1, by omega⟩
  clear hdec
  have nxt : nmC s[p] = true → (p = 0 → ¬ (48 ≤ s[p].toNat ∧ s[p].toNat ≤ 57)) → R = nmP s (p + 1) := fun h1 h2 => by rw [hI]; exact nmP_ok hpl h1 h2
  have bad : nmC s[p] = false ∨ (p = 0 ∧ 48 ≤ s[p].toNat ∧ s[p].toNat ≤ 57) → R = false := fun h => by rw [hI]; exact nmP_no hpl h
  have hc : nmC s[p] = decide (s[p].toNat = 95 ∨ 48 ≤ s[p].toNat ∧ s[p].toNat ≤ 57 ∨ 65 ≤ s[p].toNat ∧ s[p].toNat ≤ 90 ∨ 97 ≤ s[p].toNat ∧ s[p].toNat ≤ 122) := rfl
  by_cases k1 : 65 ≤ ((Utf8.decode (str s) p).1 : Int) ∧ ((Utf8.decode (str s) p).1 : Int) ≤ 90 ∨ 97 ≤ ((Utf8.decode (str s) p).1 : Int) ∧ ((Utf8.decode (str s) p).1 : Int) ≤ 122
  · have h1 := nxt (by rw [hc]; exact decide_eq_true (by omega)) (fun _ => by omega)
    have e2 : (Utf8.decode (str s) p).2 = 1 := by omega
    rw [decide_eq_true k1] at c1
    clear nxt bad hI hc hb
    exact wq1
  rw [decide_eq_false k1] at c1
  by_cases k2 : ((Utf8.decode (str s) p).1 : Int) = 95
  · have h1 := nxt (by rw [hc]; exact decide_eq_true (by omega)) (fun _ => by omega)
    have e2 : (Utf8.decode (str s) p).2 = 1 := by omega
    clear nxt bad hI hc hb
    exact wq1
  by_cases k3 : 48 ≤ ((Utf8.decode (str s) p).1 : Int) ∧ ((Utf8.decode (str s) p).1 : Int) ≤ 57
  · rw [decide_eq_true k3] at c2
    by_cases hp0 : p = 0
    · have hR := bad (.inr ⟨hp0, by omega⟩)
      clear nxt bad hI hc hb
      subst hR
      exact wq2
    · have h1 := nxt (by rw [hc]; exact decide_eq_true (by omega)) (fun _ => by omega)
      have e2 : (Utf8.decode (str s) p).2 = 1 := by omega
      clear nxt bad hI hc hb
      exact wq1
  · rw [decide_eq_false k3] at c2
    have hR := bad (.inl (by rw [hc]; exact decide_eq_false (by omega)))
    clear nxt bad hI hc hb
    subst hR
    exact wq2
end Go.Proofs.YtogmppcfopgkdaaGreatDoor
