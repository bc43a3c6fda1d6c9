/- The document's bang: bytes, places, numbers, designators, parts, on the abstract machine. -/
import Derived.Test.YtgbhjlkenfmadaaGreatDoorBgG
namespace Go.Proofs.YtgbhjlkenfmadaaGreatDoor
open Go.RowKit
set_option linter.unusedVariables false
set_option linter.unusedSimpArgs false
set_option maxRecDepth 100000
set_option maxHeartbeats 8000000
theorem u8q {a : UInt8} {n : Nat} (c : UInt8) (hc : c.toNat = n) : a = c ↔ a.toNat = n := ⟨fun h => by rw [h, hc], fun h => UInt8.toNat_inj.1 (by omega)⟩
theorem rat_ab (s : List UInt8) (i : Nat) (z : Int) (hz : z = i) (hs : s.length ≤ 1000000) : Ab Tryz.prog 25 [az s, ai z] (au (atB s i)) := by
  subst hz
  by_cases hi : i < s.length
  · rw [atB_lt hi]
    refine Fn_of_aw (keep := []) Tryz.func25 rfl rfl (by simp [Tryz.ntmps25]) ?_
    simp only [num_cons, num_nil, Tryz.ntmps25, Tryz.results25]
    repeat' (first
 | ((with_reducible apply awO_ev); (· rfl); (· exact sv))
 | ((with_reducible apply aw_seq); intro _ _)
 | (with_reducible apply aw_region)
 | ((with_reducible first | apply awO_nil | apply aw_exit | apply aw_skip | apply aw_ret); (try simp only [CT, ↓reduceIte, Nat.reduceEqDiff]))
 | (refine Kont.go ‹Kont _ _ _ _› _ ?_)
 | ((first | ((with_reducible apply awO_guardN); (· rfl); (· rfl); (· exact sv); (· exact nB)) | ((with_reducible apply aw_condN); (· exact sv))); (· exact pN); (· exact pN); all_goals (intro hg; try (exfalso; omega)))
 | ((with_reducible apply retQ_mk); (· exact rI); (· exact sv); (· exact sv); rotate_left; (· rfl)))
    all_goals rfl
  · rw [atB_ge (by omega)]
    refine Fn_of_aw (keep := []) Tryz.func25 rfl rfl (by simp [Tryz.ntmps25]) ?_
    simp only [num_cons, num_nil, Tryz.ntmps25, Tryz.results25]
    repeat' (first
 | ((with_reducible apply awO_ev); (· rfl); (· exact sv))
 | ((with_reducible apply aw_seq); intro _ _)
 | (with_reducible apply aw_region)
 | ((with_reducible first | apply awO_nil | apply aw_exit | apply aw_skip | apply aw_ret); (try simp only [CT, ↓reduceIte, Nat.reduceEqDiff]))
 | (refine Kont.go ‹Kont _ _ _ _› _ ?_)
 | ((first | ((with_reducible apply awO_guardN); (· rfl); (· rfl); (· exact sv); (· exact nB)) | ((with_reducible apply aw_condN); (· exact sv))); (· exact pN); (· exact pN); all_goals (intro hg; try (exfalso; omega)))
 | ((with_reducible apply retQ_mk); (· exact rI); (· exact sv); (· exact sv); rotate_left; (· rfl)))
    all_goals rfl
theorem rin_ab (s : List UInt8) (c : UInt8) (hs : s.length ≤ 9000000000000000) : Ab Tryz.prog 70 [az s, au c] (ab (s.contains c)) := by
  refine Fn_of_aw (keep := []) Tryz.func70 rfl rfl (by simp [Tryz.ntmps70]) ?_
  simp only [num_cons, num_nil, Tryz.ntmps70, Tryz.results70]
  repeat' (first
 | ((with_reducible apply awO_ev); (· rfl); (· exact sv))
 | ((with_reducible apply aw_seq); intro _ _)
 | (with_reducible apply aw_region)
 | (with_reducible apply aw_block)
 | ((with_reducible first | apply awO_nil | apply aw_exit | apply aw_skip | apply aw_ret); (try simp only [CT, ↓reduceIte, Nat.reduceEqDiff]))
 | (refine Kont.go ‹Kont _ _ _ _› _ ?_))
  refine aw_loopF (fun i : Nat => [(5, ai i)]) (fun _ => []) (fun i => i ≤ s.length ∧ s.contains c = (s.drop i).contains c) (fun i => s.length - i) 0 ⟨by omega, by rw [List.drop_zero]⟩ ?_ ?_ ?_
  · exact ⟨rfl, trivial⟩
  · exact trivial
  intro i ⟨hi, hI⟩
  (simp only [LP, List.append_assoc, List.nil_append, List.cons_append, List.append_nil, List.contains_cons, List.contains_nil, Nat.reduceBEq, Bool.or_false, Bool.or_true, Bool.true_or, Bool.false_or, ↓reduceIte, Bool.false_eq_true])
  by_cases hil : i < s.length
  · rw [List.drop_eq_getElem_cons hil] at hI
    by_cases hc : s[i] = c
    · have e : s.contains c = true := by rw [hI, hc]; simp
      have hc2 : (s[i].toNat : Int) = (c.toNat : Int) := by rw [hc]
      repeat' (first
 | ((with_reducible apply awO_ev); (· rfl); (· exact sv))
 | ((with_reducible apply aw_seq); intro _ _)
 | (with_reducible apply aw_region)
 | (with_reducible apply aw_block)
 | ((with_reducible first | apply awO_nil | apply aw_exit | apply aw_skip | apply aw_ret); (try simp only [CT, ↓reduceIte, Nat.reduceEqDiff]))
 | (refine Kont.go ‹Kont _ _ _ _› _ ?_)
 | ((first | ((with_reducible apply awO_guardN); (· rfl); (· rfl); (· exact sv); (· exact nB)) | ((with_reducible apply aw_condN); (· exact sv))); (· exact pN); (· exact pN); all_goals (intro hg; try (exfalso; omega)))
 | ((with_reducible apply retQ_mk); (· exact rI); (· exact sv); (· exact sv); rotate_left; (· rfl)))
      all_goals first | rfl | (rw [e]; done)
    · have hc2 : ¬ (s[i].toNat : Int) = (c.toNat : Int) := fun h => hc (UInt8.toNat_inj.1 (by omega))
      have hc3 : ¬ c = s[i] := fun h => hc h.symm
      repeat' (first
 | ((with_reducible apply awO_ev); (· rfl); (· exact sv))
 | ((with_reducible apply aw_seq); intro _ _)
 | (with_reducible apply aw_region)
 | (with_reducible apply aw_block)
 | ((with_reducible first | apply awO_nil | apply aw_exit | apply aw_skip | apply aw_ret); (try simp only [CT, ↓reduceIte, Nat.reduceEqDiff]))
 | (refine Kont.go ‹Kont _ _ _ _› _ ?_)
 | ((first | ((with_reducible apply awO_guardN); (· rfl); (· rfl); (· exact sv); (· exact nB)) | ((with_reducible apply aw_condN); (· exact sv))); (· exact pN); (· exact pN); all_goals (intro hg; try (exfalso; omega))))
      all_goals (refine LE_mk (i + 1) ⟨by omega, ?_⟩ (by omega) sN sN sN; rw [hI, List.contains_cons, beq_eq_false_iff_ne.2 hc3, Bool.false_or])
  · have e : s.contains c = false := by rw [hI, List.drop_eq_nil_of_le (by omega)]; rfl
    repeat' (first
 | ((with_reducible apply awO_ev); (· rfl); (· exact sv))
 | ((with_reducible apply aw_seq); intro _ _)
 | (with_reducible apply aw_region)
 | ((with_reducible first | apply awO_nil | apply aw_exit | apply aw_skip | apply aw_ret); (try simp only [CT, ↓reduceIte, Nat.reduceEqDiff]))
 | (refine Kont.go ‹Kont _ _ _ _› _ ?_)
 | ((first | ((with_reducible apply awO_guardN); (· rfl); (· rfl); (· exact sv); (· exact nB)) | ((with_reducible apply aw_condN); (· exact sv))); (· exact pN); (· exact pN); all_goals (intro hg; try (exfalso; omega)))
 | ((with_reducible apply retQ_mk); (· exact rI); (· exact sv); (· exact sv); rotate_left; (· rfl)))
    all_goals first | rfl | (rw [e]; done)
theorem rindex_ab (s t : List UInt8) (i0 : Nat) (z : Int) (hz : z = i0) (ht : t ≠ []) (hi0 : i0 ≤ 1000000000) (hs : s.length ≤ 1000000000) (htl : t.length ≤ 1000000000) : Ab Tryz.prog 41 [az s, az t, ai z] (ai (ixS t s i0)) := by
  subst hz
  have hpos : 0 < t.length := List.length_pos_iff.2 ht
  generalize hR : ixS t s i0 = R
  refine Fn_of_aw (keep := []) Tryz.func41 rfl rfl (by simp [Tryz.ntmps41]) ?_
  simp only [num_cons, num_nil, Tryz.ntmps41, Tryz.results41]
  repeat' (first
 | ((with_reducible apply awO_ev); (· rfl); (· exact sv))
 | ((with_reducible apply aw_seq); intro _ _)
 | (with_reducible apply aw_region)
 | (with_reducible apply aw_block)
 | ((with_reducible first | apply awO_nil | apply aw_exit | apply aw_skip | apply aw_ret); (try simp only [CT, ↓reduceIte, Nat.reduceEqDiff]))
 | (refine Kont.go ‹Kont _ _ _ _› _ ?_))
  refine aw_loopF (fun i : Nat => [(2, ai i)]) (fun _ => []) (fun i => i ≤ 2000000000 ∧ R = ixS t s i) (fun i => 2000000001 - i) i0 ⟨by omega, hR.symm⟩ ?_ ?_ ?_
  · exact ⟨rfl, trivial⟩
  · exact trivial
  intro i ⟨hi, hI⟩
  clear hR
  (simp only [LP, List.append_assoc, List.nil_append, List.cons_append, List.append_nil, List.contains_cons, List.contains_nil, Nat.reduceBEq, Bool.or_false, Bool.or_true, Bool.true_or, Bool.false_or, ↓reduceIte, Bool.false_eq_true])
  by_cases hl : i + t.length ≤ s.length
  · have e1 : i + t.length - i = t.length := by omega
    by_cases he : (s.drop i).take t.length = t
    · rw [ixS_hit ht hl he] at hI
      repeat' (first
 | ((with_reducible apply awO_ev); (· rfl); (· exact sv))
 | ((with_reducible apply aw_seq); intro _ _)
 | (with_reducible apply aw_region)
 | (with_reducible apply aw_block)
 | ((with_reducible first | apply awO_nil | apply aw_exit | apply aw_skip | apply aw_ret); (try simp only [CT, ↓reduceIte, Nat.reduceEqDiff]))
 | (refine Kont.go ‹Kont _ _ _ _› _ ?_)
 | ((first | ((with_reducible apply awO_guardN); (· rfl); (· rfl); (· exact sv); (· exact nB)) | ((with_reducible apply aw_condN); (· exact sv))); (· exact pN); (· exact pN); all_goals (intro hg; try (exfalso; omega)))
 | ((with_reducible apply retQ_mk); (· exact rI); (· exact sv); (· exact sv); rotate_left; (· rfl)))
      all_goals first | (exfalso; rw [e1] at hg; exact hg he) | (rw [hI]; done)
    · rw [ixS_miss ht hl he] at hI
      repeat' (first
 | ((with_reducible apply awO_ev); (· rfl); (· exact sv))
 | ((with_reducible apply aw_seq); intro _ _)
 | (with_reducible apply aw_region)
 | (with_reducible apply aw_block)
 | ((with_reducible first | apply awO_nil | apply aw_exit | apply aw_skip | apply aw_ret); (try simp only [CT, ↓reduceIte, Nat.reduceEqDiff]))
 | (refine Kont.go ‹Kont _ _ _ _› _ ?_)
 | ((first | ((with_reducible apply awO_guardN); (· rfl); (· rfl); (· exact sv); (· exact nB)) | ((with_reducible apply aw_condN); (· exact sv))); (· exact pN); (· exact pN); all_goals (intro hg; try (exfalso; omega)))
 | ((with_reducible apply retQ_mk); (· exact rI); (· exact sv); (· exact sv); rotate_left; (· rfl)))
      all_goals first | (exfalso; rw [e1] at hg; exact he hg) | (refine LE_mk (i + 1) ⟨by omega, hI⟩ (by omega) sN sN sN)
  · rw [ixS_short (by omega) ht] at hI
    repeat' (first
 | ((with_reducible apply awO_ev); (· rfl); (· exact sv))
 | ((with_reducible apply aw_seq); intro _ _)
 | (with_reducible apply aw_region)
 | ((with_reducible first | apply awO_nil | apply aw_exit | apply aw_skip | apply aw_ret); (try simp only [CT, ↓reduceIte, Nat.reduceEqDiff]))
 | (refine Kont.go ‹Kont _ _ _ _› _ ?_)
 | ((first | ((with_reducible apply awO_guardN); (· rfl); (· rfl); (· exact sv); (· exact nB)) | ((with_reducible apply aw_condN); (· exact sv))); (· exact pN); (· exact pN); all_goals (intro hg; try (exfalso; omega)))
 | ((with_reducible apply retQ_mk); (· exact rI); (· exact sv); (· exact sv); rotate_left; (· rfl)))
    all_goals first | rfl | (rw [hI]; done)
theorem rdigit4_ab (c : UInt8) : Ab Tryz.prog 71 [au c] (ab (dgB c)) := by
  by_cases h : 48 ≤ c.toNat ∧ c.toNat ≤ 57
  · have e : dgB c = true := decide_eq_true h
    refine Fn_of_aw (keep := []) Tryz.func71 rfl rfl (by simp [Tryz.ntmps71]) ?_
    simp only [num_cons, num_nil, Tryz.ntmps71, Tryz.results71]
    repeat' (first
 | ((with_reducible apply awO_ev); (· rfl); (· exact sv))
 | ((with_reducible apply aw_seq); intro _ _)
 | (with_reducible apply aw_region)
 | ((with_reducible first | apply awO_nil | apply aw_exit | apply aw_skip | apply aw_ret); (try simp only [CT, ↓reduceIte, Nat.reduceEqDiff]))
 | ((with_reducible apply awO_y); (· rfl); (· rfl); (· decide); (· exact sv); (· exact sv))
 | (refine Kont.go ‹Kont _ _ _ _› _ ?_)
 | ((first | ((with_reducible apply awO_guardN); (· rfl); (· rfl); (· exact sv); (· exact nB)) | ((with_reducible apply aw_condN); (· exact sv))); (· exact pN); (· exact pN); all_goals (intro hg; try (exfalso; omega)))
 | ((with_reducible apply retQ_mk); (· exact rI); (· exact sv); (· exact sv); rotate_left; (· rfl)))
    all_goals first | rfl | (rw [e]; done) | (rw [e]; exact ab_eq (by simp; omega))
  · have e : dgB c = false := decide_eq_false h
    refine Fn_of_aw (keep := []) Tryz.func71 rfl rfl (by simp [Tryz.ntmps71]) ?_
    simp only [num_cons, num_nil, Tryz.ntmps71, Tryz.results71]
    repeat' (first
 | ((with_reducible apply awO_ev); (· rfl); (· exact sv))
 | ((with_reducible apply aw_seq); intro _ _)
 | (with_reducible apply aw_region)
 | ((with_reducible first | apply awO_nil | apply aw_exit | apply aw_skip | apply aw_ret); (try simp only [CT, ↓reduceIte, Nat.reduceEqDiff]))
 | ((with_reducible apply awO_y); (· rfl); (· rfl); (· decide); (· exact sv); (· exact sv))
 | ((with_reducible apply awO_n); (· rfl); (· rfl); (· decide); (· exact sv); (· rfl); (· rfl); (· decide))
 | (refine Kont.go ‹Kont _ _ _ _› _ ?_)
 | ((first | ((with_reducible apply awO_guardN); (· rfl); (· rfl); (· exact sv); (· exact nB)) | ((with_reducible apply aw_condN); (· exact sv))); (· exact pN); (· exact pN); all_goals (intro hg; try (exfalso; omega)))
 | ((with_reducible apply retQ_mk); (· exact rI); (· exact sv); (· exact sv); rotate_left; (· rfl)))
    all_goals first | rfl | (rw [e]; done) | (rw [e]; exact ab_eq (by simp; omega))
theorem cnvU8 {n : Int} (h0 : 0 ≤ n) (h1 : n ≤ 255) : cnv Tryz.prog 5 3 (.int .u8 n) = some (.int .i64 n) := by
  rw [cnv_int (k := .i64) .u8 n (by kernel_rfl) (by kernel_rfl), wrap64 (by omega) (by omega)]
attribute [go_sem] cnvU8
theorem rnumber4_ab (s : List UInt8) (i : Nat) (z : Int) (hz : z = i) (hi : i ≤ s.length) (hs : s.length ≤ 100000) : Ab Tryz.prog 72 [az s, ai z] (.tp [ai (numF s i).1, ai ((numF s i).2 : Nat)]) := by
  subst hz
  refine Fn_of_aw (keep := []) Tryz.func72 rfl rfl (by simp [Tryz.ntmps72]) ?_
  simp only [num_cons, num_nil, Tryz.ntmps72, Tryz.results72]
  repeat' (first
 | ((with_reducible apply awO_ev); (· rfl); (· exact sv))
 | ((with_reducible apply aw_seq); intro _ _)
 | (with_reducible apply aw_region)
 | (with_reducible apply aw_block)
 | ((with_reducible first | apply awO_nil | apply aw_exit | apply aw_skip | apply aw_ret); (try simp only [CT, ↓reduceIte, Nat.reduceEqDiff]))
 | (refine Kont.go ‹Kont _ _ _ _› _ ?_))
  refine aw_loopF (fun x : Nat × Int => [(6, ai x.2), (7, ai x.1)]) (fun _ => []) (fun x => i ≤ x.1 ∧ x.1 ≤ s.length ∧ dgN (s.drop i) = (x.1 - i) + dgN (s.drop x.1) ∧ x.2 = if 9 < x.1 - i then 999999999 else dgV ((s.drop i).take (x.1 - i))) (fun x => s.length - x.1) (i, 0) ⟨Nat.le_refl _, hi, by simp only; omega, by simp [dgV]⟩ ?_ ?_ ?_
  · (simp only [LP, look_cons, look_nil, and_true, true_and, ↓reduceIte, Nat.reduceEqDiff, Option.some.injEq, AV.v.injEq, Value.int.injEq, Int.natCast_add, Int.cast_ofNat_Int])
    first | done | rfl
  · exact trivial
  rintro ⟨e, n⟩ ⟨h1, h2, hI, hn⟩
  simp only at h1 h2 hI hn
  (simp only [LP, List.append_assoc, List.nil_append, List.cons_append, List.append_nil, List.contains_cons, List.contains_nil, Nat.reduceBEq, Bool.or_false, Bool.or_true, Bool.true_or, Bool.false_or, ↓reduceIte, Bool.false_eq_true])
  have hnb : 0 ≤ n ∧ n ≤ 999999999 := by
    rw [hn]
    split
    · omega
    · exact dgV_take_lt (by omega) (by omega)
  have hend : dgN (s.drop e) = 0 → numF s i = (n, e) := fun h => by
    rw [h, Nat.add_zero] at hI
    unfold numF
    rw [hI, hn]
    congr 1
    omega
  have c1 := rat_ab s e e rfl (by omega)
  by_cases hel : e < s.length
  · rw [atB_lt hel] at c1
    have c2 := rdigit4_ab s[e]
    have hst := dgN_drop hel
    cases hd : dgB s[e] with
    | true =>
      rw [if_pos hd] at hst
      rw [hd] at c2
      simp only [dgB, decide_eq_true_eq] at hd
      by_cases h9 : e - i < 9
      · rw [if_neg (by omega)] at hn
        have hv := dgV_take (s := s.drop i) (k := e - i) (by simp; omega)
        simp only [List.getElem_drop, show i + (e - i) = e from by omega] at hv
        rw [← hn] at hv
        repeat' (first
 | ((with_reducible apply awO_ev); (· rfl); (· exact sv))
 | ((with_reducible apply aw_seq); intro _ _)
 | (with_reducible apply aw_region)
 | (with_reducible apply aw_block)
 | ((with_reducible first | apply awO_nil | apply aw_exit | apply aw_skip | apply aw_ret); (try simp only [CT, ↓reduceIte, Nat.reduceEqDiff]))
 | ((with_reducible apply aw_cond_true); (· exact sv))
 | (refine Kont.go ‹Kont _ _ _ _› _ ?_)
 | ((with_reducible apply awO_c); (· rfl); (· rfl); (· exact sv); (· (first | exact c1 | exact c2)); (· rfl); (· rfl); (· rfl); (· decide))
 | ((first | ((with_reducible apply awO_guardN); (· rfl); (· rfl); (· exact sv); (· exact nB)) | ((with_reducible apply aw_condN); (· exact sv))); (· exact pN); (· exact pN); all_goals (intro hg; try (exfalso; omega))))
        refine LE_mk (e + 1, n * 10 + ((s[e].toNat : Int) - 48)) ⟨by simp only; omega, hel, by simp only; omega, ?_⟩ (by simp only; omega) sN sN sN
        simp only
        rw [if_neg (by omega), show e + 1 - i = e - i + 1 by omega, hv]
      · skip
        repeat' (first
 | ((with_reducible apply awO_ev); (· rfl); (· exact sv))
 | ((with_reducible apply aw_seq); intro _ _)
 | (with_reducible apply aw_region)
 | (with_reducible apply aw_block)
 | ((with_reducible first | apply awO_nil | apply aw_exit | apply aw_skip | apply aw_ret); (try simp only [CT, ↓reduceIte, Nat.reduceEqDiff]))
 | ((with_reducible apply aw_cond_true); (· exact sv))
 | (refine Kont.go ‹Kont _ _ _ _› _ ?_)
 | ((with_reducible apply awO_c); (· rfl); (· rfl); (· exact sv); (· (first | exact c1 | exact c2)); (· rfl); (· rfl); (· rfl); (· decide))
 | ((first | ((with_reducible apply awO_guardN); (· rfl); (· rfl); (· exact sv); (· exact nB)) | ((with_reducible apply aw_condN); (· exact sv))); (· exact pN); (· exact pN); all_goals (intro hg; try (exfalso; omega))))
        refine LE_mk (e + 1, 999999999) ⟨by simp only; omega, hel, by simp only; omega, ?_⟩ (by simp only; omega) sN sN sN
        simp only
        rw [if_pos (by omega)]
    | false =>
      rw [if_neg (by rw [hd]; simp)] at hst
      rw [hd] at c2
      have hN := hend hst
      repeat' (first
 | ((with_reducible apply awO_ev); (· rfl); (· exact sv))
 | ((with_reducible apply aw_seq); intro _ _)
 | (with_reducible apply aw_region)
 | ((with_reducible first | apply awO_nil | apply aw_exit | apply aw_skip | apply aw_ret); (try simp only [CT, ↓reduceIte, Nat.reduceEqDiff]))
 | ((with_reducible apply aw_cond_false); (· exact sv))
 | (refine Kont.go ‹Kont _ _ _ _› _ ?_)
 | ((with_reducible apply awO_c); (· rfl); (· rfl); (· exact sv); (· (first | exact c1 | exact c2)); (· rfl); (· rfl); (· rfl); (· decide))
 | ((with_reducible apply retQ_mk); (· exact rI); (· exact sv); (· exact sv); rotate_left; (· rfl)))
      all_goals first | rfl | (rw [hN]; done)
  · rw [atB_ge (by omega)] at c1
    have c2 := rdigit4_ab 0
    rw [show dgB 0 = false from by decide] at c2
    have hN := hend (dgN_end (by omega))
    repeat' (first
 | ((with_reducible apply awO_ev); (· rfl); (· exact sv))
 | ((with_reducible apply aw_seq); intro _ _)
 | (with_reducible apply aw_region)
 | ((with_reducible first | apply awO_nil | apply aw_exit | apply aw_skip | apply aw_ret); (try simp only [CT, ↓reduceIte, Nat.reduceEqDiff]))
 | ((with_reducible apply aw_cond_false); (· exact sv))
 | (refine Kont.go ‹Kont _ _ _ _› _ ?_)
 | ((with_reducible apply awO_c); (· rfl); (· rfl); (· exact sv); (· (first | exact c1 | exact c2)); (· rfl); (· rfl); (· rfl); (· decide))
 | ((with_reducible apply retQ_mk); (· exact rI); (· exact sv); (· exact sv); rotate_left; (· rfl)))
    all_goals first | rfl | (rw [hN]; done)
theorem rword4_ab (s : List UInt8) (i : Nat) (z last : Int) (hz : z = i) (hi : i ≤ s.length) (hs : s.length ≤ 100000) : Ab Tryz.prog 117 [az s, ai z, ai last] (.tp [ai (posF s i last).1, ai ((posF s i last).2.1 : Nat), ab (posF s i last).2.2]) := by
  subst hz
  have c1 := rat_ab s i i rfl (by omega)
  have c2 := rdigit4_ab (atB s i)
  have c3 := rnumber4_ab s i i rfl hi hs
  have hnb := numF_bd s i hi
  cases hd : dgB (atB s i) with
  | true =>
    rw [hd] at c2
    have hn : ¬ atB s i = 94 ∧ ¬ atB s i = 36 := ⟨fun h => by rw [h] at hd; revert hd; decide, fun h => by rw [h] at hd; revert hd; decide⟩
    have hin := at_in (c := atB s i) rfl (by intro h; rw [h] at hd; revert hd; decide)
    have hpos : decide (0 < dgN (s.drop i)) = true := by rw [dgN_drop hin, ← atB_lt hin, if_pos hd]; simp
    have e : posF s i last = ((numF s i).1, (numF s i).2, true) := by unfold posF; rw [if_neg hn.1, if_neg hn.2, hpos]
    refine Fn_of_aw (keep := []) Tryz.func117 rfl rfl (by simp [Tryz.ntmps117]) ?_
    simp only [num_cons, num_nil, Tryz.ntmps117, Tryz.results117]
    repeat' (first
 | ((with_reducible apply awO_ev); (· rfl); (· exact sv))
 | ((with_reducible apply aw_seq); intro _ _)
 | (with_reducible apply aw_region)
 | (with_reducible apply aw_block)
 | ((with_reducible first | apply awO_nil | apply aw_exit | apply aw_skip | apply aw_ret); (try simp only [CT, ↓reduceIte, Nat.reduceEqDiff]))
 | ((with_reducible apply aw_cond_true); (· exact sv))
 | (refine Kont.go ‹Kont _ _ _ _› _ ?_)
 | ((with_reducible apply awO_c); (· rfl); (· rfl); (· exact sv); (· (first | exact c1 | exact c2 | exact c3)); (· rfl); (· rfl); (· rfl); (· decide))
 | ((with_reducible apply retQ_mk); (· exact rI); (· exact sv); (· exact sv); rotate_left; (· rfl)))
    all_goals first | rfl | (rw [e]; done) | (rw [e]; rfl)
  | false =>
    rw [hd] at c2
    have hn0 := numF_none hd
    by_cases h1 : atB s i = 94
    · have k1 : (atB s i).toNat = 94 := (u8q 94 rfl).1 h1
      have e : posF s i last = (1, i + 1, true) := by unfold posF; rw [if_pos h1]
      refine Fn_of_aw (keep := []) Tryz.func117 rfl rfl (by simp [Tryz.ntmps117]) ?_
      simp only [num_cons, num_nil, Tryz.ntmps117, Tryz.results117]
      repeat' (first
 | ((with_reducible apply awO_ev); (· rfl); (· exact sv))
 | ((with_reducible apply aw_seq); intro _ _)
 | (with_reducible apply aw_region)
 | (with_reducible apply aw_block)
 | ((with_reducible first | apply awO_nil | apply aw_exit | apply aw_skip | apply aw_ret); (try simp only [CT, ↓reduceIte, Nat.reduceEqDiff]))
 | ((with_reducible apply aw_cond_false); (· exact sv))
 | (refine Kont.go ‹Kont _ _ _ _› _ ?_)
 | ((with_reducible apply awO_c); (· rfl); (· rfl); (· exact sv); (· (first | exact c1 | exact c2)); (· rfl); (· rfl); (· rfl); (· decide))
 | ((first | ((with_reducible apply awO_guardN); (· rfl); (· rfl); (· exact sv); (· exact nB)) | ((with_reducible apply aw_condN); (· exact sv))); (· exact pN); (· exact pN); all_goals (intro hg; try (exfalso; omega)))
 | ((with_reducible apply retQ_mk); (· exact rI); (· exact sv); (· exact sv); rotate_left; (· rfl)))
      all_goals first | rfl | (rw [e]; done) | (rw [e]; rfl)
    have k1 : ¬ (atB s i).toNat = 94 := fun h => h1 ((u8q 94 rfl).2 h)
    by_cases h2 : atB s i = 36
    · have k2 : (atB s i).toNat = 36 := (u8q 36 rfl).1 h2
      have e : posF s i last = (last, i + 1, true) := by unfold posF; rw [if_neg h1, if_pos h2]
      refine Fn_of_aw (keep := []) Tryz.func117 rfl rfl (by simp [Tryz.ntmps117]) ?_
      simp only [num_cons, num_nil, Tryz.ntmps117, Tryz.results117]
      repeat' (first
 | ((with_reducible apply awO_ev); (· rfl); (· exact sv))
 | ((with_reducible apply aw_seq); intro _ _)
 | (with_reducible apply aw_region)
 | (with_reducible apply aw_block)
 | ((with_reducible first | apply awO_nil | apply aw_exit | apply aw_skip | apply aw_ret); (try simp only [CT, ↓reduceIte, Nat.reduceEqDiff]))
 | ((with_reducible apply aw_cond_false); (· exact sv))
 | (refine Kont.go ‹Kont _ _ _ _› _ ?_)
 | ((with_reducible apply awO_c); (· rfl); (· rfl); (· exact sv); (· (first | exact c1 | exact c2)); (· rfl); (· rfl); (· rfl); (· decide))
 | ((first | ((with_reducible apply awO_guardN); (· rfl); (· rfl); (· exact sv); (· exact nB)) | ((with_reducible apply aw_condN); (· exact sv))); (· exact pN); (· exact pN); all_goals (intro hg; try (exfalso; omega)))
 | ((with_reducible apply retQ_mk); (· exact rI); (· exact sv); (· exact sv); rotate_left; (· rfl)))
      all_goals first | rfl | (rw [e]; done) | (rw [e]; rfl)
    have k2 : ¬ (atB s i).toNat = 36 := fun h => h2 ((u8q 36 rfl).2 h)
    have e : posF s i last = (0, i, false) := by unfold posF; rw [if_neg h1, if_neg h2, hn0.1, hn0.2]; rfl
    refine Fn_of_aw (keep := []) Tryz.func117 rfl rfl (by simp [Tryz.ntmps117]) ?_
    simp only [num_cons, num_nil, Tryz.ntmps117, Tryz.results117]
    repeat' (first
 | ((with_reducible apply awO_ev); (· rfl); (· exact sv))
 | ((with_reducible apply aw_seq); intro _ _)
 | (with_reducible apply aw_region)
 | (with_reducible apply aw_block)
 | ((with_reducible first | apply awO_nil | apply aw_exit | apply aw_skip | apply aw_ret); (try simp only [CT, ↓reduceIte, Nat.reduceEqDiff]))
 | ((with_reducible apply aw_cond_false); (· exact sv))
 | (refine Kont.go ‹Kont _ _ _ _› _ ?_)
 | ((with_reducible apply awO_c); (· rfl); (· rfl); (· exact sv); (· (first | exact c1 | exact c2)); (· rfl); (· rfl); (· rfl); (· decide))
 | ((first | ((with_reducible apply awO_guardN); (· rfl); (· rfl); (· exact sv); (· exact nB)) | ((with_reducible apply aw_condN); (· exact sv))); (· exact pN); (· exact pN); all_goals (intro hg; try (exfalso; omega)))
 | ((with_reducible apply retQ_mk); (· exact rI); (· exact sv); (· exact sv); rotate_left; (· rfl)))
    all_goals first | rfl | (rw [e]; done) | (rw [e]; rfl)
theorem rdes_ab (s : List UInt8) (i : Nat) (z last : Int) (hz : z = i) (hi : i ≤ s.length) (hs : s.length ≤ 100000) (hl : -1 ≤ last ∧ last ≤ 999999999) :
    ∃ d : Int × Int × Nat × Bool, Ab Tryz.prog 76 [az s, ai z, ai last] (.tp [ai d.1, ai d.2.1, ai (d.2.2.1 : Nat), ab d.2.2.2]) ∧ d.2.2.2 = (desF s i last).2.2.2 ∧ ((desF s i last).2.2.2 = true → d = desF s i last) := by
  subst hz
  have c1 := rat_ab s i i rfl (by omega)
  by_cases h1 : atB s i = 94
  · have k1 : (atB s i).toNat = 94 := (u8q 94 rfl).1 h1
    have e : desF s i last = (1, 1, i + 1, true) := by unfold desF; rw [if_pos h1]
    refine ⟨_, ?_, rfl, fun _ => rfl⟩
    rw [e]
    refine Fn_of_aw (keep := []) Tryz.func76 rfl rfl (by simp [Tryz.ntmps76]) ?_
    simp only [num_cons, num_nil, Tryz.ntmps76, Tryz.results76]
    repeat' (first
 | ((with_reducible apply awO_ev); (· rfl); (· exact sv))
 | ((with_reducible apply aw_seq); intro _ _)
 | (with_reducible apply aw_region)
 | (with_reducible apply aw_block)
 | ((with_reducible first | apply awO_nil | apply aw_exit | apply aw_skip | apply aw_ret); (try simp only [CT, ↓reduceIte, Nat.reduceEqDiff]))
 | (refine Kont.go ‹Kont _ _ _ _› _ ?_)
 | ((with_reducible apply awO_c); (· rfl); (· rfl); (· exact sv); (· (first | exact c1)); (· rfl); (· rfl); (· rfl); (· decide))
 | ((first | ((with_reducible apply awO_guardN); (· rfl); (· rfl); (· exact sv); (· exact nB)) | ((with_reducible apply aw_condN); (· exact sv))); (· exact pN); (· exact pN); all_goals (intro hg; try (exfalso; omega)))
 | ((with_reducible apply retQ_mk); (· exact rI); (· exact sv); (· exact sv); rotate_left; (· rfl)))
    all_goals rfl
  have k1 : ¬ (atB s i).toNat = 94 := fun h => h1 ((u8q 94 rfl).2 h)
  by_cases h2 : atB s i = 36
  · have k2 : (atB s i).toNat = 36 := (u8q 36 rfl).1 h2
    have e : desF s i last = (last, last, i + 1, true) := by unfold desF; rw [if_neg h1, if_pos h2]
    refine ⟨_, ?_, rfl, fun _ => rfl⟩
    rw [e]
    refine Fn_of_aw (keep := []) Tryz.func76 rfl rfl (by simp [Tryz.ntmps76]) ?_
    simp only [num_cons, num_nil, Tryz.ntmps76, Tryz.results76]
    repeat' (first
 | ((with_reducible apply awO_ev); (· rfl); (· exact sv))
 | ((with_reducible apply aw_seq); intro _ _)
 | (with_reducible apply aw_region)
 | (with_reducible apply aw_block)
 | ((with_reducible first | apply awO_nil | apply aw_exit | apply aw_skip | apply aw_ret); (try simp only [CT, ↓reduceIte, Nat.reduceEqDiff]))
 | (refine Kont.go ‹Kont _ _ _ _› _ ?_)
 | ((with_reducible apply awO_c); (· rfl); (· rfl); (· exact sv); (· (first | exact c1)); (· rfl); (· rfl); (· rfl); (· decide))
 | ((first | ((with_reducible apply awO_guardN); (· rfl); (· rfl); (· exact sv); (· exact nB)) | ((with_reducible apply aw_condN); (· exact sv))); (· exact pN); (· exact pN); all_goals (intro hg; try (exfalso; omega)))
 | ((with_reducible apply retQ_mk); (· exact rI); (· exact sv); (· exact sv); rotate_left; (· rfl)))
    all_goals rfl
  have k2 : ¬ (atB s i).toNat = 36 := fun h => h2 ((u8q 36 rfl).2 h)
  by_cases h3 : atB s i = 42
  · have k3 : (atB s i).toNat = 42 := (u8q 42 rfl).1 h3
    have e : desF s i last = (1, last, i + 1, true) := by unfold desF; rw [if_neg h1, if_neg h2, if_pos h3]
    refine ⟨_, ?_, rfl, fun _ => rfl⟩
    rw [e]
    refine Fn_of_aw (keep := []) Tryz.func76 rfl rfl (by simp [Tryz.ntmps76]) ?_
    simp only [num_cons, num_nil, Tryz.ntmps76, Tryz.results76]
    repeat' (first
 | ((with_reducible apply awO_ev); (· rfl); (· exact sv))
 | ((with_reducible apply aw_seq); intro _ _)
 | (with_reducible apply aw_region)
 | (with_reducible apply aw_block)
 | ((with_reducible first | apply awO_nil | apply aw_exit | apply aw_skip | apply aw_ret); (try simp only [CT, ↓reduceIte, Nat.reduceEqDiff]))
 | (refine Kont.go ‹Kont _ _ _ _› _ ?_)
 | ((with_reducible apply awO_c); (· rfl); (· rfl); (· exact sv); (· (first | exact c1)); (· rfl); (· rfl); (· rfl); (· decide))
 | ((first | ((with_reducible apply awO_guardN); (· rfl); (· rfl); (· exact sv); (· exact nB)) | ((with_reducible apply aw_condN); (· exact sv))); (· exact pN); (· exact pN); all_goals (intro hg; try (exfalso; omega)))
 | ((with_reducible apply retQ_mk); (· exact rI); (· exact sv); (· exact sv); rotate_left; (· rfl)))
    all_goals rfl
  have k3 : ¬ (atB s i).toNat = 42 := fun h => h3 ((u8q 42 rfl).2 h)
  by_cases h4 : atB s i = 58
  rotate_left
  · have k4 : ¬ (atB s i).toNat = 58 := fun h => h4 ((u8q 58 rfl).2 h)
    have e : desF s i last = (0, 0, 0, false) := by unfold desF; rw [if_neg h1, if_neg h2, if_neg h3, if_neg h4]
    refine ⟨(0, 0, i, false), ?_, by rw [e], fun h => by rw [e] at h; cases h⟩
    refine Fn_of_aw (keep := []) Tryz.func76 rfl rfl (by simp [Tryz.ntmps76]) ?_
    simp only [num_cons, num_nil, Tryz.ntmps76, Tryz.results76]
    repeat' (first
 | ((with_reducible apply awO_ev); (· rfl); (· exact sv))
 | ((with_reducible apply aw_seq); intro _ _)
 | (with_reducible apply aw_region)
 | (with_reducible apply aw_block)
 | ((with_reducible first | apply awO_nil | apply aw_exit | apply aw_skip | apply aw_ret); (try simp only [CT, ↓reduceIte, Nat.reduceEqDiff]))
 | (refine Kont.go ‹Kont _ _ _ _› _ ?_)
 | ((with_reducible apply awO_c); (· rfl); (· rfl); (· exact sv); (· (first | exact c1)); (· rfl); (· rfl); (· rfl); (· decide))
 | ((first | ((with_reducible apply awO_guardN); (· rfl); (· rfl); (· exact sv); (· exact nB)) | ((with_reducible apply aw_condN); (· exact sv))); (· exact pN); (· exact pN); all_goals (intro hg; try (exfalso; omega)))
 | ((with_reducible apply retQ_mk); (· exact rI); (· exact sv); (· exact sv); rotate_left; (· rfl)))
    all_goals rfl
  have k4 : (atB s i).toNat = 58 := (u8q 58 rfl).1 h4
  have hin := at_in h4 (by decide)
  have e0 : desF s i last = selF s (i + 1) last := by unfold desF; rw [if_neg h1, if_neg h2, if_neg h3, if_pos h4]
  have c2 := fun z hz => rat_ab s (i + 1) z hz (by omega)
  rw [e0]
  by_cases h5 : atB s (i + 1) = 42
  · have k5 : (atB s (i + 1)).toNat = 42 := (u8q 42 rfl).1 h5
    have e : selF s (i + 1) last = (1, last, i + 1 + 1, true) := by unfold selF; rw [if_pos h5]
    refine ⟨_, ?_, rfl, fun _ => rfl⟩
    rw [e]
    refine Fn_of_aw (keep := []) Tryz.func76 rfl rfl (by simp [Tryz.ntmps76]) ?_
    simp only [num_cons, num_nil, Tryz.ntmps76, Tryz.results76]
    repeat' (first
 | ((with_reducible apply awO_ev); (· rfl); (· exact sv))
 | ((with_reducible apply aw_seq); intro _ _)
 | (with_reducible apply aw_region)
 | (with_reducible apply aw_block)
 | ((with_reducible first | apply awO_nil | apply aw_exit | apply aw_skip | apply aw_ret); (try simp only [CT, ↓reduceIte, Nat.reduceEqDiff]))
 | (refine Kont.go ‹Kont _ _ _ _› _ ?_)
 | ((with_reducible apply awO_c); (· rfl); (· rfl); (· exact sv); (· (first | exact c1 | exact c2 _ (by omega))); (· rfl); (· rfl); (· rfl); (· decide))
 | ((first | ((with_reducible apply awO_guardN); (· rfl); (· rfl); (· exact sv); (· exact nB)) | ((with_reducible apply aw_condN); (· exact sv))); (· exact pN); (· exact pN); all_goals (intro hg; try (exfalso; omega)))
 | ((with_reducible apply retQ_mk); (· exact rI); (· exact sv); (· exact sv); rotate_left; (· rfl)))
    all_goals rfl
  have k5 : ¬ (atB s (i + 1)).toNat = 42 := fun h => h5 ((u8q 42 rfl).2 h)
  have c3 := fun z hz => rword4_ab s (i + 1) z last hz hin hs
  have hp := posF_ok (last := last) (show i + 1 ≤ s.length from hin)
  by_cases h6 : atB s (i + 1) = 45
  · have k6 : (atB s (i + 1)).toNat = 45 := (u8q 45 rfl).1 h6
    have hin2 := at_in h6 (by decide)
    have e : selF s (i + 1) last = (0, posF s (i + 1 + 1) last) := by unfold selF; rw [if_neg h5, if_pos h6]
    have hd : dgB (atB s (i + 1)) = false := by rw [h6]; decide
    have hn0 := numF_none hd
    have ep : posF s (i + 1) last = (0, i + 1, false) := by unfold posF; rw [if_neg (by rw [h6]; decide), if_neg (by rw [h6]; decide), hn0.1, hn0.2]; rfl
    rw [ep] at c3
    have c4 := fun z hz => rword4_ab s (i + 1 + 1) z last hz hin2 hs
    refine ⟨_, ?_, rfl, fun _ => rfl⟩
    rw [e]
    refine Fn_of_aw (keep := []) Tryz.func76 rfl rfl (by simp [Tryz.ntmps76]) ?_
    simp only [num_cons, num_nil, Tryz.ntmps76, Tryz.results76]
    repeat' (first
 | ((with_reducible apply awO_ev); (· rfl); (· exact sv))
 | ((with_reducible apply aw_seq); intro _ _)
 | (with_reducible apply aw_region)
 | (with_reducible apply aw_block)
 | ((with_reducible first | apply awO_nil | apply aw_exit | apply aw_skip | apply aw_ret); (try simp only [CT, ↓reduceIte, Nat.reduceEqDiff]))
 | ((with_reducible apply aw_cond_true); (· exact sv))
 | (refine Kont.go ‹Kont _ _ _ _› _ ?_)
 | ((with_reducible apply awO_c); (· rfl); (· rfl); (· exact sv); (· (first | exact c1 | exact c2 _ (by omega) | exact c3 _ (by omega) | exact c4 _ (by omega))); (· rfl); (· rfl); (· rfl); (· decide))
 | ((first | ((with_reducible apply awO_guardN); (· rfl); (· rfl); (· exact sv); (· exact nB)) | ((with_reducible apply aw_condN); (· exact sv))); (· exact pN); (· exact pN); all_goals (intro hg; try (exfalso; omega)))
 | ((with_reducible apply retQ_mk); (· exact rI); (· exact sv); (· exact sv); rotate_left; (· rfl)))
    all_goals rfl
  have k6 : ¬ (atB s (i + 1)).toNat = 45 := fun h => h6 ((u8q 45 rfl).2 h)
  have e1 : selF s (i + 1) last = if (posF s (i + 1) last).2.2 = false then (0, 0, 0, false)
      else if atB s (posF s (i + 1) last).2.1 = 42 then ((posF s (i + 1) last).1, last, (posF s (i + 1) last).2.1 + 1, true)
      else if atB s (posF s (i + 1) last).2.1 = 45 then
        if (posF s ((posF s (i + 1) last).2.1 + 1) last).2.2 = true then ((posF s (i + 1) last).1, posF s ((posF s (i + 1) last).2.1 + 1) last) else ((posF s (i + 1) last).1, last - 1, (posF s (i + 1) last).2.1 + 1, true)
      else ((posF s (i + 1) last).1, (posF s (i + 1) last).1, (posF s (i + 1) last).2.1, true) := by
    unfold selF; rw [if_neg h5, if_neg h6]
  generalize posF s (i + 1) last = p at *
  obtain ⟨pn, pe, pb⟩ := p
  simp only at hp e1 c3
  cases pb with
  | false =>
    rw [if_pos rfl] at e1
    refine ⟨(0, 0, i + 1, false), ?_, by rw [e1], fun h => by rw [e1] at h; cases h⟩
    refine Fn_of_aw (keep := []) Tryz.func76 rfl rfl (by simp [Tryz.ntmps76]) ?_
    simp only [num_cons, num_nil, Tryz.ntmps76, Tryz.results76]
    repeat' (first
 | ((with_reducible apply awO_ev); (· rfl); (· exact sv))
 | ((with_reducible apply aw_seq); intro _ _)
 | (with_reducible apply aw_region)
 | (with_reducible apply aw_block)
 | ((with_reducible first | apply awO_nil | apply aw_exit | apply aw_skip | apply aw_ret); (try simp only [CT, ↓reduceIte, Nat.reduceEqDiff]))
 | ((with_reducible apply aw_cond_true); (· exact sv))
 | (refine Kont.go ‹Kont _ _ _ _› _ ?_)
 | ((with_reducible apply awO_c); (· rfl); (· rfl); (· exact sv); (· (first | exact c1 | exact c2 _ (by omega) | exact c3 _ (by omega))); (· rfl); (· rfl); (· rfl); (· decide))
 | ((first | ((with_reducible apply awO_guardN); (· rfl); (· rfl); (· exact sv); (· exact nB)) | ((with_reducible apply aw_condN); (· exact sv))); (· exact pN); (· exact pN); all_goals (intro hg; try (exfalso; omega)))
 | ((with_reducible apply retQ_mk); (· exact rI); (· exact sv); (· exact sv); rotate_left; (· rfl)))
    all_goals rfl
  | true =>
    rw [if_neg (by decide)] at e1
    have c4 := rat_ab s pe pe rfl (by omega)
    by_cases h7 : atB s pe = 42
    · rw [if_pos h7] at e1
      have k7 : (atB s pe).toNat = 42 := (u8q 42 rfl).1 h7
      refine ⟨_, ?_, rfl, fun _ => rfl⟩
      rw [e1]
      refine Fn_of_aw (keep := []) Tryz.func76 rfl rfl (by simp [Tryz.ntmps76]) ?_
      simp only [num_cons, num_nil, Tryz.ntmps76, Tryz.results76]
      repeat' (first
 | ((with_reducible apply awO_ev); (· rfl); (· exact sv))
 | ((with_reducible apply aw_seq); intro _ _)
 | (with_reducible apply aw_region)
 | (with_reducible apply aw_block)
 | ((with_reducible first | apply awO_nil | apply aw_exit | apply aw_skip | apply aw_ret); (try simp only [CT, ↓reduceIte, Nat.reduceEqDiff]))
 | ((with_reducible apply aw_cond_false); (· exact sv))
 | (refine Kont.go ‹Kont _ _ _ _› _ ?_)
 | ((with_reducible apply awO_c); (· rfl); (· rfl); (· exact sv); (· (first | exact c1 | exact c2 _ (by omega) | exact c3 _ (by omega) | exact c4)); (· rfl); (· rfl); (· rfl); (· decide))
 | ((first | ((with_reducible apply awO_guardN); (· rfl); (· rfl); (· exact sv); (· exact nB)) | ((with_reducible apply aw_condN); (· exact sv))); (· exact pN); (· exact pN); all_goals (intro hg; try (exfalso; omega)))
 | ((with_reducible apply retQ_mk); (· exact rI); (· exact sv); (· exact sv); rotate_left; (· rfl)))
      all_goals rfl
    rw [if_neg h7] at e1
    have k7 : ¬ (atB s pe).toNat = 42 := fun h => h7 ((u8q 42 rfl).2 h)
    by_cases h8 : atB s pe = 45
    · rw [if_pos h8] at e1
      have k8 : (atB s pe).toNat = 45 := (u8q 45 rfl).1 h8
      have hin3 := at_in h8 (by decide)
      have c5 := fun z hz => rword4_ab s (pe + 1) z last hz hin3 hs
      generalize posF s (pe + 1) last = q at *
      obtain ⟨qn, qe, qb⟩ := q
      simp only at e1 c5
      cases qb with
      | true =>
        rw [if_pos rfl] at e1
        refine ⟨_, ?_, rfl, fun _ => rfl⟩
        rw [e1]
        refine Fn_of_aw (keep := []) Tryz.func76 rfl rfl (by simp [Tryz.ntmps76]) ?_
        simp only [num_cons, num_nil, Tryz.ntmps76, Tryz.results76]
        repeat' (first
 | ((with_reducible apply awO_ev); (· rfl); (· exact sv))
 | ((with_reducible apply aw_seq); intro _ _)
 | (with_reducible apply aw_region)
 | (with_reducible apply aw_block)
 | ((with_reducible first | apply awO_nil | apply aw_exit | apply aw_skip | apply aw_ret); (try simp only [CT, ↓reduceIte, Nat.reduceEqDiff]))
 | ((with_reducible apply aw_cond_true); (· exact sv))
 | ((with_reducible apply aw_cond_false); (· exact sv))
 | (refine Kont.go ‹Kont _ _ _ _› _ ?_)
 | ((with_reducible apply awO_c); (· rfl); (· rfl); (· exact sv); (· (first | exact c1 | exact c2 _ (by omega) | exact c3 _ (by omega) | exact c4 | exact c5 _ (by omega))); (· rfl); (· rfl); (· rfl); (· decide))
 | ((first | ((with_reducible apply awO_guardN); (· rfl); (· rfl); (· exact sv); (· exact nB)) | ((with_reducible apply aw_condN); (· exact sv))); (· exact pN); (· exact pN); all_goals (intro hg; try (exfalso; omega)))
 | ((with_reducible apply retQ_mk); (· exact rI); (· exact sv); (· exact sv); rotate_left; (· rfl)))
        all_goals rfl
      | false =>
        rw [if_neg (by decide)] at e1
        refine ⟨_, ?_, rfl, fun _ => rfl⟩
        rw [e1]
        refine Fn_of_aw (keep := []) Tryz.func76 rfl rfl (by simp [Tryz.ntmps76]) ?_
        simp only [num_cons, num_nil, Tryz.ntmps76, Tryz.results76]
        repeat' (first
 | ((with_reducible apply awO_ev); (· rfl); (· exact sv))
 | ((with_reducible apply aw_seq); intro _ _)
 | (with_reducible apply aw_region)
 | (with_reducible apply aw_block)
 | ((with_reducible first | apply awO_nil | apply aw_exit | apply aw_skip | apply aw_ret); (try simp only [CT, ↓reduceIte, Nat.reduceEqDiff]))
 | ((with_reducible apply aw_cond_false); (· exact sv))
 | (refine Kont.go ‹Kont _ _ _ _› _ ?_)
 | ((with_reducible apply awO_c); (· rfl); (· rfl); (· exact sv); (· (first | exact c1 | exact c2 _ (by omega) | exact c3 _ (by omega) | exact c4 | exact c5 _ (by omega))); (· rfl); (· rfl); (· rfl); (· decide))
 | ((first | ((with_reducible apply awO_guardN); (· rfl); (· rfl); (· exact sv); (· exact nB)) | ((with_reducible apply aw_condN); (· exact sv))); (· exact pN); (· exact pN); all_goals (intro hg; try (exfalso; omega)))
 | ((with_reducible apply retQ_mk); (· exact rI); (· exact sv); (· exact sv); rotate_left; (· rfl)))
        all_goals rfl
    rw [if_neg h8] at e1
    have k8 : ¬ (atB s pe).toNat = 45 := fun h => h8 ((u8q 45 rfl).2 h)
    refine ⟨_, ?_, rfl, fun _ => rfl⟩
    rw [e1]
    refine Fn_of_aw (keep := []) Tryz.func76 rfl rfl (by simp [Tryz.ntmps76]) ?_
    simp only [num_cons, num_nil, Tryz.ntmps76, Tryz.results76]
    repeat' (first
 | ((with_reducible apply awO_ev); (· rfl); (· exact sv))
 | ((with_reducible apply aw_seq); intro _ _)
 | (with_reducible apply aw_region)
 | (with_reducible apply aw_block)
 | ((with_reducible first | apply awO_nil | apply aw_exit | apply aw_skip | apply aw_ret); (try simp only [CT, ↓reduceIte, Nat.reduceEqDiff]))
 | ((with_reducible apply aw_cond_false); (· exact sv))
 | (refine Kont.go ‹Kont _ _ _ _› _ ?_)
 | ((with_reducible apply awO_c); (· rfl); (· rfl); (· exact sv); (· (first | exact c1 | exact c2 _ (by omega) | exact c3 _ (by omega) | exact c4)); (· rfl); (· rfl); (· rfl); (· decide))
 | ((first | ((with_reducible apply awO_guardN); (· rfl); (· rfl); (· exact sv); (· exact nB)) | ((with_reducible apply aw_condN); (· exact sv))); (· exact pN); (· exact pN); all_goals (intro hg; try (exfalso; omega)))
 | ((with_reducible apply retQ_mk); (· exact rI); (· exact sv); (· exact sv); rotate_left; (· rfl)))
    all_goals rfl
end Go.Proofs.YtgbhjlkenfmadaaGreatDoor
