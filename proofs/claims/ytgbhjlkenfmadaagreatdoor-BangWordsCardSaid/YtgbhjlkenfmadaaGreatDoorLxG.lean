/- The lexer's arithmetic and command, on the abstract machine. -/
import Derived.Test.YtgbhjlkenfmadaaGreatDoorLxD
namespace Go.Proofs.YtgbhjlkenfmadaaGreatDoor
open Go.RowKit
set_option linter.unusedVariables false
set_option linter.unusedSimpArgs false
set_option maxRecDepth 100000
set_option maxHeartbeats 8000000
theorem ari_step {c : UInt8} {r : List UInt8} {o dep : Nat} (h : ¬ (c.toNat = 41 ∧ dep = 0)) : ari (c :: r) o dep = if (pas (c :: r) 2).2 ≠ 0 then (o + (pas (c :: r) 2).1, (pas (c :: r) 2).2) else
    if (pas (c :: r) 2).1 = 0 then (0, 0) else ari (r.drop ((pas (c :: r) 2).1 - 1)) (o + (pas (c :: r) 2).1) (if c.toNat = 40 then dep + 1 else if c.toNat = 41 then dep - 1 else dep) := by
  rw [ari.eq_def]; simp only; rw [if_neg h]
theorem ari_close {c : UInt8} {r : List UInt8} {o : Nat} (h : c.toNat = 41) : ari (c :: r) o 0 = (match r with | [] => (0, 7) | d :: _ => if d.toNat = 41 then (o + 2, 0) else (o, 6)) := by
  rw [ari.eq_def]; simp only; rw [if_pos ⟨h, trivial⟩]; cases r <;> rfl
section
variable {n : Nat} (H : CONH n)
include H in
theorem arithmetic_ab (s : List UInt8) (a : Nat) (z : Int) (hs : s.length ≤ 1000000) (hz : z = a) (ha : a + 3 ≤ s.length) (hn : s.length - a ≤ n + 1) : Ab Tryz.prog 93 [az s, ai z] (tpr a (ari (s.drop (a + 3)) 3 0)) := by
  subst hz
  refine Fn_of_aw (keep := []) Tryz.func93 rfl rfl (by simp [Tryz.ntmps93]) ?_
  simp only [num_cons, num_nil, Tryz.ntmps93, Tryz.results93]
  repeat' (first
 | ((with_reducible apply awO_ev); (· rfl); (· exact sv))
 | ((with_reducible apply aw_seq); intro _ _)
 | (with_reducible apply aw_region)
 | (with_reducible apply aw_block)
 | ((with_reducible first | apply awO_nil | apply aw_exit | apply aw_skip | apply aw_ret); (try simp only [CT, ↓reduceIte, Nat.reduceEqDiff]))
 | (refine Kont.go ‹Kont _ _ _ _› _ ?_))
  refine aw_loopF (fun x : Nat × Nat => [(7, ai x.1), (6, ai x.2)]) (fun _ => []) (fun x => a + 3 ≤ x.1 ∧ x.1 ≤ s.length ∧ x.2 ≤ x.1 ∧ ari (s.drop (a + 3)) 3 0 = ari (s.drop x.1) (x.1 - a) x.2) (fun x => s.length - x.1) (a + 3, 0) ⟨by simp, by simp only; omega, by simp, by simp only; congr 1; omega⟩ ?_ ?_ ?_
  · (simp only [LP, look_cons, look_nil, and_true, true_and, ↓reduceIte, Nat.reduceEqDiff, Option.some.injEq, AV.v.injEq, Value.int.injEq, Int.natCast_add, Int.cast_ofNat_Int])
  · (simp only [LP, look_cons, look_nil, and_true, true_and, ↓reduceIte, Nat.reduceEqDiff, Option.some.injEq, AV.v.injEq, Value.int.injEq, Int.natCast_add, Int.cast_ofNat_Int])
  rintro ⟨i, dep⟩ ⟨hi0, hi, hdep, hI⟩
  simp only at hi0 hi hdep hI
  (simp only [LP, List.append_assoc, List.nil_append, List.cons_append, List.append_nil, List.contains_cons, List.contains_nil, Nat.reduceBEq, Bool.or_false, Bool.or_true, Bool.true_or, Bool.false_or, ↓reduceIte, Bool.false_eq_true])
  by_cases hil : i < s.length
  · rw [dropc hil] at hI
    by_cases hend : s[i].toNat = 41 ∧ dep = 0
    · obtain ⟨h41, hd0⟩ := hend
      subst hd0
      rw [ari_close h41] at hI
      by_cases hil2 : i + 1 < s.length
      · rw [dropc hil2] at hI
        simp only at hI
        by_cases h2 : s[i + 1].toNat = 41
        · rw [if_pos h2] at hI
          repeat' (first
 | ((with_reducible apply awO_ev); (· rfl); (· exact sv))
 | ((with_reducible apply aw_seq); intro _ _)
 | (with_reducible apply aw_region)
 | (with_reducible apply aw_block)
 | ((with_reducible first | apply awO_nil | apply aw_exit | apply aw_skip | apply aw_ret); (try simp only [CT, ↓reduceIte, Nat.reduceEqDiff]))
 | ((with_reducible apply awO_y); (· rfl); (· rfl); (· decide); (· exact sv); (· exact sv))
 | ((with_reducible apply aw_cond_false); (· exact sv))
 | (refine Kont.go ‹Kont _ _ _ _› _ ?_)
 | ((first | ((with_reducible apply awO_guardN); (· rfl); (· rfl); (· exact sv); (· exact nB)) | ((with_reducible apply aw_condN); (· exact sv))); (· exact pN); (· exact pN); all_goals (intro hg; try (exfalso; omega)))
 | ((with_reducible apply retQ_mk); (· exact rI); (· exact sv); (· exact sv); rotate_left; (· rfl)))
          exact tp_mk (b := i - a + 2) hI (by omega)
        · rw [if_neg h2] at hI
          repeat' (first
 | ((with_reducible apply awO_ev); (· rfl); (· exact sv))
 | ((with_reducible apply aw_seq); intro _ _)
 | (with_reducible apply aw_region)
 | (with_reducible apply aw_block)
 | ((with_reducible first | apply awO_nil | apply aw_exit | apply aw_skip | apply aw_ret); (try simp only [CT, ↓reduceIte, Nat.reduceEqDiff]))
 | ((with_reducible apply awO_y); (· rfl); (· rfl); (· decide); (· exact sv); (· exact sv))
 | ((with_reducible apply aw_cond_false); (· exact sv))
 | (refine Kont.go ‹Kont _ _ _ _› _ ?_)
 | ((first | ((with_reducible apply awO_guardN); (· rfl); (· rfl); (· exact sv); (· exact nB)) | ((with_reducible apply aw_condN); (· exact sv))); (· exact pN); (· exact pN); all_goals (intro hg; try (exfalso; omega)))
 | ((with_reducible apply retQ_mk); (· exact rI); (· exact sv); (· exact sv); rotate_left; (· rfl)))
          exact tp_mk (b := i - a) hI (by omega)
      · rw [List.drop_eq_nil_of_le (by omega : s.length ≤ i + 1)] at hI
        simp only at hI
        repeat' (first
 | ((with_reducible apply awO_ev); (· rfl); (· exact sv))
 | ((with_reducible apply aw_seq); intro _ _)
 | (with_reducible apply aw_region)
 | (with_reducible apply aw_block)
 | ((with_reducible first | apply awO_nil | apply aw_exit | apply aw_skip | apply aw_ret); (try simp only [CT, ↓reduceIte, Nat.reduceEqDiff]))
 | ((with_reducible apply awO_y); (· rfl); (· rfl); (· decide); (· exact sv); (· exact sv))
 | ((with_reducible apply aw_cond_false); (· exact sv))
 | (refine Kont.go ‹Kont _ _ _ _› _ ?_)
 | ((first | ((with_reducible apply awO_guardN); (· rfl); (· rfl); (· exact sv); (· exact nB)) | ((with_reducible apply aw_condN); (· exact sv))); (· exact pN); (· exact pN); all_goals (intro hg; try (exfalso; omega)))
 | ((with_reducible apply retQ_mk); (· exact rI); (· exact sv); (· exact sv); rotate_left; (· rfl)))
        exact tp_mk (b := 0) hI (by omega)
    · rw [ari_step hend] at hI
      have c1 := inside_ab H s i i false hs rfl hil (by omega)
      have hok := pas_ok (l := s.drop i) (plN true false) (by rw [List.length_drop]; omega)
      have e1 : plN true false = 2 := rfl
      rw [e1] at c1 hok
      rw [dropc hil] at c1 hok
      obtain ⟨k1, k2, k3, k4⟩ := hok
      simp only [List.length_cons, List.length_drop] at k1
      generalize hp : pas (s[i] :: s.drop (i + 1)) 2 = p at *
      obtain ⟨pe, pr⟩ := p
      simp only at k1 k2 k3 k4 hI
      repeat' (first
 | ((with_reducible apply awO_ev); (· rfl); (· exact sv))
 | ((with_reducible apply aw_seq); intro _ _)
 | (with_reducible apply aw_region)
 | (with_reducible apply aw_block)
 | ((with_reducible first | apply awO_nil | apply aw_exit | apply aw_skip | apply aw_ret); (try simp only [CT, ↓reduceIte, Nat.reduceEqDiff]))
 | ((with_reducible apply awO_y); (· rfl); (· rfl); (· decide); (· exact sv); (· exact sv))
 | ((with_reducible apply awO_n); (· rfl); (· rfl); (· decide); (· exact sv); (· rfl); (· rfl); (· decide))
 | ((with_reducible apply aw_cond_false); (· exact sv))
 | (refine Kont.go ‹Kont _ _ _ _› _ ?_)
 | ((with_reducible apply awO_c); (· rfl); (· rfl); (· exact sv); (· (first | with_reducible exact c1)); (· rfl); (· rfl); (· rfl); (· decide))
 | ((first | ((with_reducible apply awO_guardN); (· rfl); (· rfl); (· exact sv); (· exact nB)) | ((with_reducible apply aw_condN); (· exact sv))); (· exact pN); (· exact pN); all_goals (intro hg; try (exfalso; omega)))
 | ((with_reducible apply retQ_mk); (· exact rI); (· exact sv); (· exact sv); rotate_left; (· rfl)))
      all_goals (first
        | (exfalso; omega)
        | (refine tp_mk (b := i - a + pe) ?_ (by omega); rw [hI, if_pos hg])
        | (refine LE_mk ((i + pe, dep + 1)) ?_ ?_ sN sN sN
           · have := k2 hg
             refine ⟨by simp only; omega, by simp only; omega, by simp only; omega, ?_⟩
             rw [hI, if_neg (by simpa using hg), if_neg (by omega), drop_pas hil (by omega), if_pos (by omega)]; congr 1; simp only; omega
           · have := k2 hg; simp only; omega)
        | (refine LE_mk ((i + pe, dep - 1)) ?_ ?_ sN sN sN
           · have := k2 hg
             refine ⟨by simp only; omega, by simp only; omega, by simp only; omega, ?_⟩
             rw [hI, if_neg (by simpa using hg), if_neg (by omega), drop_pas hil (by omega), if_neg (by omega), if_pos (by omega)]; congr 1; simp only; omega
           · have := k2 hg; simp only; omega)
        | (refine LE_mk ((i + pe, dep)) ?_ ?_ sN sN sN
           · have := k2 hg
             refine ⟨by simp only; omega, by simp only; omega, by simp only; omega, ?_⟩
             rw [hI, if_neg (by simpa using hg), if_neg (by omega), drop_pas hil (by omega), if_neg (by omega), if_neg (by omega)]; congr 1; simp only; omega
           · have := k2 hg; simp only; omega)
        | skip)
  · rw [List.drop_eq_nil_of_le (by omega : s.length ≤ i)] at hI
    repeat' (first
 | ((with_reducible apply awO_ev); (· rfl); (· exact sv))
 | ((with_reducible apply aw_seq); intro _ _)
 | (with_reducible apply aw_region)
 | ((with_reducible first | apply awO_nil | apply aw_exit | apply aw_skip | apply aw_ret); (try simp only [CT, ↓reduceIte, Nat.reduceEqDiff]))
 | (refine Kont.go ‹Kont _ _ _ _› _ ?_)
 | ((first | ((with_reducible apply awO_guardN); (· rfl); (· rfl); (· exact sv); (· exact nB)) | ((with_reducible apply aw_condN); (· exact sv))); (· exact pN); (· exact pN); all_goals (intro hg; try (exfalso; omega)))
 | ((with_reducible apply retQ_mk); (· exact rI); (· exact sv); (· exact sv); rotate_left; (· rfl)))
    refine tp_mk (b := 0) ?_ (by omega); rw [hI]; simp [ari]
include H in
theorem command_ab (s : List UInt8) (a : Nat) (z : Int) (hs : s.length ≤ 1000000) (hz : z = a) (ha : a + 2 ≤ s.length) (hn : s.length - a ≤ n + 1) : Ab Tryz.prog 94 [az s, ai z] (tpr a (cmd (s.drop (a + 2)) 2 0 true)) := by
  subst hz
  refine Fn_of_aw (keep := []) Tryz.func94 rfl rfl (by simp [Tryz.ntmps94]) ?_
  simp only [num_cons, num_nil, Tryz.ntmps94, Tryz.results94]
  repeat' (first
 | ((with_reducible apply awO_ev); (· rfl); (· exact sv))
 | ((with_reducible apply aw_seq); intro _ _)
 | (with_reducible apply aw_region)
 | (with_reducible apply aw_block)
 | ((with_reducible first | apply awO_nil | apply aw_exit | apply aw_skip | apply aw_ret); (try simp only [CT, ↓reduceIte, Nat.reduceEqDiff]))
 | (refine Kont.go ‹Kont _ _ _ _› _ ?_))
  refine aw_loopF (fun x : Nat × Nat × Bool => [(8, ai x.1), (6, ai x.2.1), (7, ab x.2.2)]) (fun _ => []) (fun x => a + 2 ≤ x.1 ∧ x.1 ≤ s.length ∧ x.2.1 ≤ x.1 ∧ cmd (s.drop (a + 2)) 2 0 true = cmd (s.drop x.1) (x.1 - a) x.2.1 x.2.2) (fun x => s.length - x.1) (a + 2, 0, true) ⟨by simp, by simp only; omega, by simp, by simp only; congr 1; omega⟩ ?_ ?_ ?_
  · (simp only [LP, look_cons, look_nil, and_true, true_and, ↓reduceIte, Nat.reduceEqDiff, Option.some.injEq, AV.v.injEq, Value.int.injEq, Int.natCast_add, Int.cast_ofNat_Int])
  · (simp only [LP, look_cons, look_nil, and_true, true_and, ↓reduceIte, Nat.reduceEqDiff, Option.some.injEq, AV.v.injEq, Value.int.injEq, Int.natCast_add, Int.cast_ofNat_Int])
  rintro ⟨i, dep, st⟩ ⟨hi0, hi, hdep, hI⟩
  simp only at hi0 hi hdep hI
  (simp only [LP, List.append_assoc, List.nil_append, List.cons_append, List.append_nil, List.contains_cons, List.contains_nil, Nat.reduceBEq, Bool.or_false, Bool.or_true, Bool.true_or, Bool.false_or, ↓reduceIte, Bool.false_eq_true])
  by_cases hil : i < s.length
  · have c1 := joins_ab s i i rfl (by omega) hs
    rw [dropc hil] at hI c1
    by_cases hj : joinB (s[i] :: s.drop (i + 1)) = true
    · rw [hj] at c1
      rw [cmd, if_pos hj, List.drop_drop] at hI
      have hil2 : i + 1 < s.length := by
        rcases Nat.lt_or_ge (i + 1) s.length with h | h
        · exact h
        · rw [List.drop_eq_nil_of_le h] at hj; simp [joinB] at hj
      repeat' (first
 | ((with_reducible apply awO_ev); (· rfl); (· exact sv))
 | ((with_reducible apply aw_seq); intro _ _)
 | (with_reducible apply aw_region)
 | (with_reducible apply aw_block)
 | ((with_reducible first | apply awO_nil | apply aw_exit | apply aw_skip | apply aw_ret); (try simp only [CT, ↓reduceIte, Nat.reduceEqDiff]))
 | ((with_reducible apply aw_cond_true); (· exact sv))
 | (refine Kont.go ‹Kont _ _ _ _› _ ?_)
 | ((with_reducible apply awO_c); (· rfl); (· rfl); (· exact sv); (· (first | with_reducible exact c1)); (· rfl); (· rfl); (· rfl); (· decide))
 | ((first | ((with_reducible apply awO_guardN); (· rfl); (· rfl); (· exact sv); (· exact nB)) | ((with_reducible apply aw_condN); (· exact sv))); (· exact pN); (· exact pN); all_goals (intro hg; try (exfalso; omega))))
      refine LE_mk ((i + 2, dep, st)) ?_ ?_ sN sN sN
      · refine ⟨by simp only; omega, by simp only; omega, by simp only; omega, ?_⟩
        rw [hI]; congr 1; simp only; omega
      · simp only; omega
    have hj' : joinB (s[i] :: s.drop (i + 1)) = false := by simpa using hj
    rw [hj'] at c1
    rw [cmd, if_neg hj] at hI
    by_cases hcm : s[i].toNat = 35 ∧ st = true
    · rw [if_pos hcm] at hI
      obtain ⟨h35, rfl⟩ := hcm
      have c2 := comment_ab s i i rfl (by omega) hs
      have hcl := comN_le (s.drop i)
      rw [List.length_drop] at hcl
      rw [dropc hil] at c2 hcl
      have hc1 : 1 ≤ comN (s[i] :: s.drop (i + 1)) := by simp only [comN]; rw [if_neg (by omega)]; omega
      rw [drop_pas hil hc1] at hI
      generalize comN (s[i] :: s.drop (i + 1)) = cn at *
      repeat' (first
 | ((with_reducible apply awO_ev); (· rfl); (· exact sv))
 | ((with_reducible apply aw_seq); intro _ _)
 | (with_reducible apply aw_region)
 | (with_reducible apply aw_block)
 | ((with_reducible first | apply awO_nil | apply aw_exit | apply aw_skip | apply aw_ret); (try simp only [CT, ↓reduceIte, Nat.reduceEqDiff]))
 | ((with_reducible apply awO_y); (· rfl); (· rfl); (· decide); (· exact sv); (· exact sv))
 | ((with_reducible apply aw_cond_true); (· exact sv))
 | ((with_reducible apply aw_cond_false); (· exact sv))
 | (refine Kont.go ‹Kont _ _ _ _› _ ?_)
 | ((with_reducible apply awO_c); (· rfl); (· rfl); (· exact sv); (· (first | with_reducible exact c1 | with_reducible exact c2)); (· rfl); (· rfl); (· rfl); (· decide))
 | ((first | ((with_reducible apply awO_guardN); (· rfl); (· rfl); (· exact sv); (· exact nB)) | ((with_reducible apply aw_condN); (· exact sv))); (· exact pN); (· exact pN); all_goals (intro hg; try (exfalso; omega))))
      refine LE_mk ((i + cn, dep, true)) ?_ ?_ sN sN sN
      · refine ⟨by simp only; omega, by simp only; omega, by simp only; omega, ?_⟩
        rw [hI]; congr 1; simp only; omega
      · simp only; omega
    rw [if_neg hcm] at hI
    have c3 := begins_ab s i i rfl hil hs
    rw [dropc hil] at c3
    have hcm' : ¬ (s[i].toNat = 35 ∧ st = true) := hcm
    by_cases hb : begB (s[i] :: s.drop (i + 1)) = true
    · rw [hb] at c3
      rw [if_pos hb] at hI
      have c2 := H s i i false false hs rfl hil (by omega) (by rw [dropc hil]; exact hb) (fun h => h)
      have hok := con_ok (l := s.drop i) 0 (by rw [dropc hil]; exact hb)
      have e1 : plN false false = 0 := rfl
      rw [dropc hil] at c2 hok
      rw [e1] at c2
      obtain ⟨k1, k2, k3, k4⟩ := hok
      simp only [List.length_cons, List.length_drop] at k1
      generalize hp : con (s[i] :: s.drop (i + 1)) 0 = p at *
      obtain ⟨pe, pr⟩ := p
      simp only at k1 k2 k3 k4 hI
      repeat' (first
 | ((with_reducible apply awO_ev); (· rfl); (· exact sv))
 | ((with_reducible apply aw_seq); intro _ _)
 | (with_reducible apply aw_region)
 | (with_reducible apply aw_block)
 | ((with_reducible first | apply awO_nil | apply aw_exit | apply aw_skip | apply aw_ret); (try simp only [CT, ↓reduceIte, Nat.reduceEqDiff]))
 | ((with_reducible apply awO_y); (· rfl); (· rfl); (· decide); (· exact sv); (· exact sv))
 | ((with_reducible apply awO_n); (· rfl); (· rfl); (· decide); (· exact sv); (· rfl); (· rfl); (· decide))
 | ((with_reducible apply aw_cond_true); (· exact sv))
 | ((with_reducible apply aw_cond_false); (· exact sv))
 | (refine Kont.go ‹Kont _ _ _ _› _ ?_)
 | ((with_reducible apply awO_c); (· rfl); (· rfl); (· exact sv); (· (first | with_reducible exact c1 | with_reducible exact c2 | with_reducible exact c3)); (· rfl); (· rfl); (· rfl); (· decide))
 | ((first | ((with_reducible apply awO_guardN); (· rfl); (· rfl); (· exact sv); (· exact nB)) | ((with_reducible apply aw_condN); (· exact sv))); (· exact pN); (· exact pN); all_goals (intro hg; try (exfalso; omega)))
 | ((with_reducible apply retQ_mk); (· exact rI); (· exact sv); (· exact sv); rotate_left; (· rfl)))
      all_goals (first
        | (exfalso; omega)
        | (exfalso; apply hcm'; exact ⟨by omega, ‹_›⟩)
        | (refine tp_mk (b := i - a + pe) ?_ (by omega); rw [hI, if_pos hg])
        | (refine LE_mk ((i + pe, dep, false)) ?_ ?_ sN sN sN
           · have := k2 hg
             refine ⟨by simp only; omega, by simp only; omega, by simp only; omega, ?_⟩
             rw [hI, if_neg (by simpa using hg), if_neg (by omega), drop_pas hil (by omega)]; congr 1; simp only; omega
           · have := k2 hg; simp only; omega)
        | skip)
    · have hb' : begB (s[i] :: s.drop (i + 1)) = false := by simpa using hb
      rw [hb'] at c3
      rw [if_neg hb] at hI
      by_cases he : s[i].toNat = 41 ∧ dep = 0
      · rw [if_pos he] at hI
        obtain ⟨h41, rfl⟩ := he
        repeat' (first
 | ((with_reducible apply awO_ev); (· rfl); (· exact sv))
 | ((with_reducible apply aw_seq); intro _ _)
 | (with_reducible apply aw_region)
 | (with_reducible apply aw_block)
 | ((with_reducible first | apply awO_nil | apply aw_exit | apply aw_skip | apply aw_ret); (try simp only [CT, ↓reduceIte, Nat.reduceEqDiff]))
 | ((with_reducible apply awO_y); (· rfl); (· rfl); (· decide); (· exact sv); (· exact sv))
 | ((with_reducible apply awO_n); (· rfl); (· rfl); (· decide); (· exact sv); (· rfl); (· rfl); (· decide))
 | ((with_reducible apply aw_cond_true); (· exact sv))
 | ((with_reducible apply aw_cond_false); (· exact sv))
 | (refine Kont.go ‹Kont _ _ _ _› _ ?_)
 | ((with_reducible apply awO_c); (· rfl); (· rfl); (· exact sv); (· (first | with_reducible exact c1 | with_reducible exact c3)); (· rfl); (· rfl); (· rfl); (· decide))
 | ((first | ((with_reducible apply awO_guardN); (· rfl); (· rfl); (· exact sv); (· exact nB)) | ((with_reducible apply aw_condN); (· exact sv))); (· exact pN); (· exact pN); all_goals (intro hg; try (exfalso; omega)))
 | ((with_reducible apply retQ_mk); (· exact rI); (· exact sv); (· exact sv); rotate_left; (· rfl)))
        all_goals (first | (exfalso; omega) | exact tp_mk (b := i - a + 1) hI (by omega) | (exfalso; apply hcm'; exact ⟨by omega, ‹_›⟩))
      · rw [if_neg he] at hI
        repeat' (first
 | ((with_reducible apply awO_ev); (· rfl); (· exact sv))
 | ((with_reducible apply aw_seq); intro _ _)
 | (with_reducible apply aw_region)
 | (with_reducible apply aw_block)
 | ((with_reducible first | apply awO_nil | apply aw_exit | apply aw_skip | apply aw_ret); (try simp only [CT, ↓reduceIte, Nat.reduceEqDiff]))
 | ((with_reducible apply awO_y); (· rfl); (· rfl); (· decide); (· exact sv); (· exact sv))
 | ((with_reducible apply awO_n); (· rfl); (· rfl); (· decide); (· exact sv); (· rfl); (· rfl); (· decide))
 | ((with_reducible apply aw_cond_false); (· exact sv))
 | (refine Kont.go ‹Kont _ _ _ _› _ ?_)
 | ((with_reducible apply awO_c); (· rfl); (· rfl); (· exact sv); (· (first | with_reducible exact c1 | with_reducible exact c3 | exact divides_ab _)); (· rfl); (· rfl); (· rfl); (· decide))
 | ((first | ((with_reducible apply awO_guardN); (· rfl); (· rfl); (· exact sv); (· exact nB)) | ((with_reducible apply aw_condN); (· exact sv))); (· exact pN); (· exact pN); all_goals (intro hg; try (exfalso; omega))))
        all_goals (first
          | (exfalso; omega)
          | (exfalso; apply hcm'; exact ⟨by omega, ‹_›⟩)
          | (refine LE_mk ((i + 1, dep + 1, divB s[i])) ?_ ?_ sN sN sN
             · refine ⟨by simp only; omega, by simp only; omega, by simp only; omega, ?_⟩
               rw [hI, if_pos (by omega)]; congr 1; simp only; omega
             · simp only; omega)
          | (refine LE_mk ((i + 1, dep - 1, divB s[i])) ?_ ?_ sN sN sN
             · refine ⟨by simp only; omega, by simp only; omega, by simp only; omega, ?_⟩
               rw [hI, if_neg (by omega), if_pos (by omega)]; congr 1; simp only; omega
             · simp only; omega)
          | (refine LE_mk ((i + 1, dep, divB s[i])) ?_ ?_ sN sN sN
             · refine ⟨by simp only; omega, by simp only; omega, by simp only; omega, ?_⟩
               rw [hI, if_neg (by omega), if_neg (by omega)]; congr 1; simp only; omega
             · simp only; omega)
          | skip)
  · rw [List.drop_eq_nil_of_le (by omega : s.length ≤ i)] at hI
    repeat' (first
 | ((with_reducible apply awO_ev); (· rfl); (· exact sv))
 | ((with_reducible apply aw_seq); intro _ _)
 | (with_reducible apply aw_region)
 | ((with_reducible first | apply awO_nil | apply aw_exit | apply aw_skip | apply aw_ret); (try simp only [CT, ↓reduceIte, Nat.reduceEqDiff]))
 | (refine Kont.go ‹Kont _ _ _ _› _ ?_)
 | ((first | ((with_reducible apply awO_guardN); (· rfl); (· rfl); (· exact sv); (· exact nB)) | ((with_reducible apply aw_condN); (· exact sv))); (· exact pN); (· exact pN); all_goals (intro hg; try (exfalso; omega)))
 | ((with_reducible apply retQ_mk); (· exact rI); (· exact sv); (· exact sv); rotate_left; (· rfl)))
    refine tp_mk (b := 0) ?_ (by omega); rw [hI]; simp [cmd]
end
end Go.Proofs.YtgbhjlkenfmadaaGreatDoor
/- The lexer's construct, on the abstract machine. -/
namespace Go.Proofs.YtgbhjlkenfmadaaGreatDoor
open Go.RowKit
set_option linter.unusedVariables false
set_option linter.unusedSimpArgs false
set_option maxRecDepth 100000
set_option maxHeartbeats 8000000
theorem sng_idx (l : List UInt8) : ∀ o, (idxB l 39 = -1 → sngN l o = (0, 7)) ∧ (0 ≤ idxB l 39 → sngN l o = (o + (idxB l 39).toNat + 1, 0)) := by
  induction l with
  | nil => intro o; exact ⟨fun _ => rfl, fun h => absurd h (by decide)⟩
  | cons c r ih =>
    intro o
    have e : c = 39 ↔ c.toNat = 39 := by rw [← UInt8.toNat_inj]; rfl
    have := idxB_ge r 39
    obtain ⟨h1, h2⟩ := ih (o + 1)
    simp only [idxB, sngN]
    by_cases hc : c = 39
    · rw [if_pos hc, if_pos (e.1 hc)]; exact ⟨fun h => absurd h (by decide), fun _ => rfl⟩
    · rw [if_neg hc, if_neg (fun h => hc (e.2 h))]
      split
      · next h => exact ⟨fun _ => h1 h, fun h => absurd h (by decide)⟩
      · next h =>
        refine ⟨fun h' => by omega, fun h' => ?_⟩
        rw [h2 (by omega)]
        congr 1
        omega
theorem con_92 {c : UInt8} {r : List UInt8} {pl : Nat} (h : c.toNat = 92) : con (c :: r) pl = if r.length = 0 then (0, 7) else (2, 0) := by rw [con.eq_def]; simp only; rw [if_pos h]
theorem con_39 {c : UInt8} {r : List UInt8} {pl : Nat} (h : c.toNat = 39) : con (c :: r) pl = sngN r 1 := by rw [con.eq_def]; simp only; rw [if_neg (by omega), if_pos h]
theorem con_34 {c : UInt8} {r : List UInt8} {pl : Nat} (h : c.toNat = 34) : con (c :: r) pl = dbl r 1 := by rw [con.eq_def]; simp only; rw [if_neg (by omega), if_neg (by omega), if_pos h]
theorem con_96 {c : UInt8} {r : List UInt8} {pl : Nat} (h : c.toNat = 96) : con (c :: r) pl = bqtN r 1 := by rw [con.eq_def]; simp only; rw [if_neg (by omega), if_neg (by omega), if_neg (by omega), if_pos h]
theorem con_36 {c d : UInt8} {t : List UInt8} {pl : Nat} (h : c.toNat = 36) : con (c :: d :: t) pl = if d.toNat = 40 then (match t with | [] => cmd [] 2 0 true | e :: u => if e.toNat = 40 then ari u 3 0 else cmd (e :: u) 2 0 true) else if d.toNat = 123 then brc t 2 pl
    else if startsB d = true then (1 + wordN (d :: t), 0) else (2, 0) := by
  rw [con.eq_def]; simp only; rw [if_neg (by omega), if_neg (by omega), if_neg (by omega), if_neg (by omega)]
  cases t <;> rfl
theorem pre3 {c d : UInt8} {t : List UInt8} (h : c.toNat = 36) : ([36, 40, 40] : List UInt8).isPrefixOf (c :: d :: t) = (decide (d.toNat = 40) && (match t with | [] => false | e :: _ => decide (e.toNat = 40))) := by
  cases t with
  | nil => simp [List.isPrefixOf]
  | cons e u =>
    rw [Bool.eq_iff_iff]
    simp only [List.isPrefixOf, Bool.and_true, Bool.and_eq_true, beq_iff_eq, decide_eq_true_eq, ← UInt8.toNat_inj, UInt8.reduceToNat]
    omega
theorem startsB_word {c : UInt8} : wordB c = (startsB c || digitB c) := by
  rw [Bool.eq_iff_iff]; simp only [wordB, startsB, digitB, Bool.or_eq_true, decide_eq_true_eq]; omega
theorem CONH_zero : CONH 0 := fun s i z q d hs hz hi hn => by omega
theorem CONH_succ {n : Nat} (H : CONH n) : CONH (n + 1) := by
  intro s a z q d hs hz ha hn hb hqd
  subst hz
  rw [dropc ha] at hb ⊢
  by_cases h92 : s[a].toNat = 92
  · rw [con_92 h92, List.length_drop]
    by_cases h1 : a + 1 = s.length
    · rw [if_pos (by omega)]
      refine Fn_of_aw (keep := []) Tryz.func58 rfl rfl (by simp [Tryz.ntmps58]) ?_
      simp only [num_cons, num_nil, Tryz.ntmps58, Tryz.results58]
      repeat' (first
 | ((with_reducible apply awO_ev); (· rfl); (· exact sv))
 | ((with_reducible apply aw_seq); intro _ _)
 | (with_reducible apply aw_region)
 | (with_reducible apply aw_block)
 | ((with_reducible first | apply awO_nil | apply aw_exit | apply aw_skip | apply aw_ret); (try simp only [CT, ↓reduceIte, Nat.reduceEqDiff]))
 | (refine Kont.go ‹Kont _ _ _ _› _ ?_)
 | ((first | ((with_reducible apply awO_guardN); (· rfl); (· rfl); (· exact sv); (· exact nB)) | ((with_reducible apply aw_condN); (· exact sv))); (· exact pN); (· exact pN); all_goals (intro hg; try (exfalso; omega)))
 | ((with_reducible apply retQ_mk); (· exact rI); (· exact sv); (· exact sv); rotate_left; (· rfl)))
      all_goals exact tp_mk (b := 0) rfl (by omega)
    · rw [if_neg (by omega)]
      refine Fn_of_aw (keep := []) Tryz.func58 rfl rfl (by simp [Tryz.ntmps58]) ?_
      simp only [num_cons, num_nil, Tryz.ntmps58, Tryz.results58]
      repeat' (first
 | ((with_reducible apply awO_ev); (· rfl); (· exact sv))
 | ((with_reducible apply aw_seq); intro _ _)
 | (with_reducible apply aw_region)
 | (with_reducible apply aw_block)
 | ((with_reducible first | apply awO_nil | apply aw_exit | apply aw_skip | apply aw_ret); (try simp only [CT, ↓reduceIte, Nat.reduceEqDiff]))
 | (refine Kont.go ‹Kont _ _ _ _› _ ?_)
 | ((first | ((with_reducible apply awO_guardN); (· rfl); (· rfl); (· exact sv); (· exact nB)) | ((with_reducible apply aw_condN); (· exact sv))); (· exact pN); (· exact pN); all_goals (intro hg; try (exfalso; omega)))
 | ((with_reducible apply retQ_mk); (· exact rI); (· exact sv); (· exact sv); rotate_left; (· rfl)))
      all_goals exact tp_mk (b := 2) rfl (by omega)
  by_cases h39 : s[a].toNat = 39
  · rw [con_39 h39]
    have e1 := sng_idx (s.drop (a + 1)) 1
    have e2 := idxB_ge (s.drop (a + 1)) 39
    have e3 := idxB_lt (s.drop (a + 1)) 39
    rw [List.length_drop] at e3
    refine Fn_of_aw (keep := []) Tryz.func58 rfl rfl (by simp [Tryz.ntmps58]) ?_
    simp only [num_cons, num_nil, Tryz.ntmps58, Tryz.results58]
    repeat' (first
 | ((with_reducible apply awO_ev); (· rfl); (· exact sv))
 | ((with_reducible apply aw_seq); intro _ _)
 | (with_reducible apply aw_region)
 | (with_reducible apply aw_block)
 | ((with_reducible first | apply awO_nil | apply aw_exit | apply aw_skip | apply aw_ret); (try simp only [CT, ↓reduceIte, Nat.reduceEqDiff]))
 | (refine Kont.go ‹Kont _ _ _ _› _ ?_)
 | ((with_reducible apply awO_c); (· rfl); (· rfl); (· exact sv); (· (first | exact indexByte_ab _ 39)); (· rfl); (· rfl); (· rfl); (· decide))
 | ((first | ((with_reducible apply awO_guardN); (· rfl); (· rfl); (· exact sv); (· exact nB)) | ((with_reducible apply aw_condN); (· exact sv))); (· exact pN); (· exact pN); all_goals (intro hg; try (exfalso; omega)))
 | ((with_reducible apply retQ_mk); (· exact rI); (· exact sv); (· exact sv); rotate_left; (· rfl)))
    · exact tp_mk (b := 0) (e1.1 (by omega)) (by omega)
    · exact tp_mk (e1.2 (by omega)) (by omega)
  by_cases h34 : s[a].toNat = 34
  · rw [con_34 h34]
    have c1 := double_ab H s a a hs rfl ha (by omega)
    refine Fn_of_aw (keep := []) Tryz.func58 rfl rfl (by simp [Tryz.ntmps58]) ?_
    simp only [num_cons, num_nil, Tryz.ntmps58, Tryz.results58]
    repeat' (first
 | ((with_reducible apply awO_ev); (· rfl); (· exact sv))
 | ((with_reducible apply aw_seq); intro _ _)
 | (with_reducible apply aw_region)
 | (with_reducible apply aw_block)
 | ((with_reducible first | apply awO_nil | apply aw_exit | apply aw_skip | apply aw_ret); (try simp only [CT, ↓reduceIte, Nat.reduceEqDiff]))
 | (refine Kont.go ‹Kont _ _ _ _› _ ?_)
 | ((with_reducible apply awO_c); (· rfl); (· rfl); (· exact sv); (· (first | with_reducible exact c1)); (· rfl); (· rfl); (· rfl); (· decide))
 | ((first | ((with_reducible apply awO_guardN); (· rfl); (· rfl); (· exact sv); (· exact nB)) | ((with_reducible apply aw_condN); (· exact sv))); (· exact pN); (· exact pN); all_goals (intro hg; try (exfalso; omega)))
 | ((with_reducible apply retQ_mk); (· exact rI); (· exact sv); (· exact sv); rotate_left; (· rfl)))
    all_goals rfl
  by_cases h96 : s[a].toNat = 96
  · rw [con_96 h96]
    have c1 := backquoted_ab s a a rfl ha hs
    refine Fn_of_aw (keep := []) Tryz.func58 rfl rfl (by simp [Tryz.ntmps58]) ?_
    simp only [num_cons, num_nil, Tryz.ntmps58, Tryz.results58]
    repeat' (first
 | ((with_reducible apply awO_ev); (· rfl); (· exact sv))
 | ((with_reducible apply aw_seq); intro _ _)
 | (with_reducible apply aw_region)
 | (with_reducible apply aw_block)
 | ((with_reducible first | apply awO_nil | apply aw_exit | apply aw_skip | apply aw_ret); (try simp only [CT, ↓reduceIte, Nat.reduceEqDiff]))
 | (refine Kont.go ‹Kont _ _ _ _› _ ?_)
 | ((with_reducible apply awO_c); (· rfl); (· rfl); (· exact sv); (· (first | with_reducible exact c1)); (· rfl); (· rfl); (· rfl); (· decide))
 | ((first | ((with_reducible apply awO_guardN); (· rfl); (· rfl); (· exact sv); (· exact nB)) | ((with_reducible apply aw_condN); (· exact sv))); (· exact pN); (· exact pN); all_goals (intro hg; try (exfalso; omega)))
 | ((with_reducible apply retQ_mk); (· exact rI); (· exact sv); (· exact sv); rotate_left; (· rfl)))
    all_goals rfl
  have h36 : s[a].toNat = 36 ∧ dolB (s.drop (a + 1)) = true := by
    simp only [begB, Bool.or_eq_true, Bool.and_eq_true, decide_eq_true_eq] at hb
    rcases hb with hb | hb
    · exfalso; omega
    · exact hb
  obtain ⟨h36, hdol⟩ := h36
  have ha1 : a + 1 < s.length := by
    rcases Nat.lt_or_ge (a + 1) s.length with h | h
    · exact h
    · rw [List.drop_eq_nil_of_le h] at hdol; cases hdol
  have hd0 : s.drop a = s[a] :: s[a + 1] :: s.drop (a + 2) := by rw [dropc ha, dropc ha1]
  rw [dropc ha1, con_36 h36]
  have hpre : ([36, 40, 40] : List UInt8).isPrefixOf (s.drop a) = (decide (s[a + 1].toNat = 40) && (match s.drop (a + 2) with | [] => false | e :: _ => decide (e.toNat = 40))) := by rw [hd0, pre3 h36]
  have c0 := hasPrefix_ab (s.drop a) [36, 40, 40]
  rw [hpre] at c0
  clear hpre
  by_cases h40 : s[a + 1].toNat = 40
  · rw [if_pos h40]
    rw [decide_eq_true h40, Bool.true_and] at c0
    by_cases ha2 : a + 2 < s.length
    · rw [dropc ha2] at c0 ⊢
      simp only at c0 ⊢
      by_cases h402 : s[a + 2].toNat = 40
      · rw [if_pos h402]
        rw [decide_eq_true h402] at c0
        have c1 := arithmetic_ab H s a a hs rfl (by omega) (by omega)
        refine Fn_of_aw (keep := []) Tryz.func58 rfl rfl (by simp [Tryz.ntmps58]) ?_
        simp only [num_cons, num_nil, Tryz.ntmps58, Tryz.results58]
        repeat' (first
 | ((with_reducible apply awO_ev); (· rfl); (· exact sv))
 | ((with_reducible apply aw_seq); intro _ _)
 | (with_reducible apply aw_region)
 | (with_reducible apply aw_block)
 | ((with_reducible first | apply awO_nil | apply aw_exit | apply aw_skip | apply aw_ret); (try simp only [CT, ↓reduceIte, Nat.reduceEqDiff]))
 | ((with_reducible apply aw_cond_true); (· exact sv))
 | (refine Kont.go ‹Kont _ _ _ _› _ ?_)
 | ((with_reducible apply awO_c); (· rfl); (· rfl); (· exact sv); (· (first | with_reducible exact c0 | with_reducible exact c1)); (· rfl); (· rfl); (· rfl); (· decide))
 | ((first | ((with_reducible apply awO_guardN); (· rfl); (· rfl); (· exact sv); (· exact nB)) | ((with_reducible apply aw_condN); (· exact sv))); (· exact pN); (· exact pN); all_goals (intro hg; try (exfalso; omega)))
 | ((with_reducible apply retQ_mk); (· exact rI); (· exact sv); (· exact sv); rotate_left; (· rfl)))
        all_goals rfl
      · rw [if_neg h402]
        rw [decide_eq_false h402] at c0
        have c1 := command_ab H s a a hs rfl (by omega) (by omega)
        rw [dropc ha2] at c1
        refine Fn_of_aw (keep := []) Tryz.func58 rfl rfl (by simp [Tryz.ntmps58]) ?_
        simp only [num_cons, num_nil, Tryz.ntmps58, Tryz.results58]
        repeat' (first
 | ((with_reducible apply awO_ev); (· rfl); (· exact sv))
 | ((with_reducible apply aw_seq); intro _ _)
 | (with_reducible apply aw_region)
 | (with_reducible apply aw_block)
 | ((with_reducible first | apply awO_nil | apply aw_exit | apply aw_skip | apply aw_ret); (try simp only [CT, ↓reduceIte, Nat.reduceEqDiff]))
 | ((with_reducible apply aw_cond_false); (· exact sv))
 | (refine Kont.go ‹Kont _ _ _ _› _ ?_)
 | ((with_reducible apply awO_c); (· rfl); (· rfl); (· exact sv); (· (first | with_reducible exact c0 | with_reducible exact c1)); (· rfl); (· rfl); (· rfl); (· decide))
 | ((first | ((with_reducible apply awO_guardN); (· rfl); (· rfl); (· exact sv); (· exact nB)) | ((with_reducible apply aw_condN); (· exact sv))); (· exact pN); (· exact pN); all_goals (intro hg; try (exfalso; omega)))
 | ((with_reducible apply retQ_mk); (· exact rI); (· exact sv); (· exact sv); rotate_left; (· rfl)))
        all_goals rfl
    · have hnil : s.drop (a + 2) = [] := List.drop_eq_nil_of_le (by omega)
      rw [hnil] at c0 ⊢
      simp only at c0 ⊢
      have c1 := command_ab H s a a hs rfl (by omega) (by omega)
      rw [hnil] at c1
      refine Fn_of_aw (keep := []) Tryz.func58 rfl rfl (by simp [Tryz.ntmps58]) ?_
      simp only [num_cons, num_nil, Tryz.ntmps58, Tryz.results58]
      repeat' (first
 | ((with_reducible apply awO_ev); (· rfl); (· exact sv))
 | ((with_reducible apply aw_seq); intro _ _)
 | (with_reducible apply aw_region)
 | (with_reducible apply aw_block)
 | ((with_reducible first | apply awO_nil | apply aw_exit | apply aw_skip | apply aw_ret); (try simp only [CT, ↓reduceIte, Nat.reduceEqDiff]))
 | ((with_reducible apply aw_cond_false); (· exact sv))
 | (refine Kont.go ‹Kont _ _ _ _› _ ?_)
 | ((with_reducible apply awO_c); (· rfl); (· rfl); (· exact sv); (· (first | with_reducible exact c0 | with_reducible exact c1)); (· rfl); (· rfl); (· rfl); (· decide))
 | ((first | ((with_reducible apply awO_guardN); (· rfl); (· rfl); (· exact sv); (· exact nB)) | ((with_reducible apply aw_condN); (· exact sv))); (· exact pN); (· exact pN); all_goals (intro hg; try (exfalso; omega)))
 | ((with_reducible apply retQ_mk); (· exact rI); (· exact sv); (· exact sv); rotate_left; (· rfl)))
      all_goals rfl
  rw [if_neg h40]
  rw [decide_eq_false h40, Bool.false_and] at c0
  by_cases h123 : s[a + 1].toNat = 123
  · rw [if_pos h123]
    have c1 := braced_ab H s a a q d hs rfl (by omega) (by omega) hqd
    refine Fn_of_aw (keep := []) Tryz.func58 rfl rfl (by simp [Tryz.ntmps58]) ?_
    simp only [num_cons, num_nil, Tryz.ntmps58, Tryz.results58]
    repeat' (first
 | ((with_reducible apply awO_ev); (· rfl); (· exact sv))
 | ((with_reducible apply aw_seq); intro _ _)
 | (with_reducible apply aw_region)
 | (with_reducible apply aw_block)
 | ((with_reducible first | apply awO_nil | apply aw_exit | apply aw_skip | apply aw_ret); (try simp only [CT, ↓reduceIte, Nat.reduceEqDiff]))
 | ((with_reducible apply aw_cond_false); (· exact sv))
 | (refine Kont.go ‹Kont _ _ _ _› _ ?_)
 | ((with_reducible apply awO_c); (· rfl); (· rfl); (· exact sv); (· (first | with_reducible exact c0 | with_reducible exact c1)); (· rfl); (· rfl); (· rfl); (· decide))
 | ((first | ((with_reducible apply awO_guardN); (· rfl); (· rfl); (· exact sv); (· exact nB)) | ((with_reducible apply aw_condN); (· exact sv))); (· exact pN); (· exact pN); all_goals (intro hg; try (exfalso; omega)))
 | ((with_reducible apply retQ_mk); (· exact rI); (· exact sv); (· exact sv); rotate_left; (· rfl)))
    all_goals rfl
  rw [if_neg h123]
  have c2 := starts_ab s[a + 1]
  by_cases hst : startsB s[a + 1] = true
  · rw [if_pos hst]
    rw [hst] at c2
    have hw : wordN (s[a + 1] :: s.drop (a + 2)) = wordN (s.drop (a + 2)) + 1 := by
      simp only [wordN]; rw [if_pos (by rw [startsB_word, hst]; rfl)]
    have hlw := wordN_le (s.drop (a + 2))
    rw [List.length_drop] at hlw
    rw [hw]
    refine Fn_of_aw (keep := []) Tryz.func58 rfl rfl (by simp [Tryz.ntmps58]) ?_
    simp only [num_cons, num_nil, Tryz.ntmps58, Tryz.results58]
    repeat' (first
 | ((with_reducible apply awO_ev); (· rfl); (· exact sv))
 | ((with_reducible apply aw_seq); intro _ _)
 | (with_reducible apply aw_region)
 | (with_reducible apply aw_block)
 | ((with_reducible first | apply awO_nil | apply aw_exit | apply aw_skip | apply aw_ret); (try simp only [CT, ↓reduceIte, Nat.reduceEqDiff]))
 | ((with_reducible apply aw_cond_false); (· exact sv))
 | (refine Kont.go ‹Kont _ _ _ _› _ ?_)
 | ((with_reducible apply awO_c); (· rfl); (· rfl); (· exact sv); (· (first | with_reducible exact c0 | with_reducible exact c2)); (· rfl); (· rfl); (· rfl); (· decide))
 | ((first | ((with_reducible apply awO_guardN); (· rfl); (· rfl); (· exact sv); (· exact nB)) | ((with_reducible apply aw_condN); (· exact sv))); (· exact pN); (· exact pN); all_goals (intro hg; try (exfalso; omega))))
    refine aw_loopF (fun i : Nat => [(9, ai i)]) (fun _ => [(5, [ab q, ab d])]) (fun i => a + 2 ≤ i ∧ i ≤ s.length ∧ a + 2 + wordN (s.drop (a + 2)) = i + wordN (s.drop i)) (fun i => s.length - i) (a + 2) ⟨by omega, by omega, rfl⟩ ?_ ?_ ?_
    · (simp only [LP, look_cons, look_nil, and_true, true_and, ↓reduceIte, Nat.reduceEqDiff, Option.some.injEq, AV.v.injEq, Value.int.injEq, Int.natCast_add, Int.cast_ofNat_Int])
    · (simp only [LP, look_cons, look_nil, and_true, true_and, ↓reduceIte, Nat.reduceEqDiff, Option.some.injEq, AV.v.injEq, Value.int.injEq, Int.natCast_add, Int.cast_ofNat_Int])
    intro i ⟨hi0, hi, hI⟩
    (simp only [LP, List.append_assoc, List.nil_append, List.cons_append, List.append_nil, List.contains_cons, List.contains_nil, Nat.reduceBEq, Bool.or_false, Bool.or_true, Bool.true_or, Bool.false_or, ↓reduceIte, Bool.false_eq_true])
    by_cases hil : i < s.length
    · rw [dropc hil] at hI
      simp only [wordN] at hI
      by_cases hwb : wordB s[i] = true
      · rw [if_pos hwb] at hI
        rw [startsB_word, Bool.or_eq_true] at hwb
        repeat' (first
 | ((with_reducible apply awO_ev); (· rfl); (· exact sv))
 | ((with_reducible apply aw_seq); intro _ _)
 | (with_reducible apply aw_region)
 | (with_reducible apply aw_block)
 | ((with_reducible first | apply awO_nil | apply aw_exit | apply aw_skip | apply aw_ret); (try simp only [CT, ↓reduceIte, Nat.reduceEqDiff]))
 | ((with_reducible apply awO_y); (· rfl); (· rfl); (· decide); (· exact sv); (· exact sv))
 | ((with_reducible apply awO_n); (· rfl); (· rfl); (· decide); (· exact sv); (· rfl); (· rfl); (· decide))
 | ((with_reducible apply aw_cond_true); (· exact sv))
 | ((with_reducible apply awO_un); (· rfl); (· decide); (· exact sv))
 | (refine Kont.go ‹Kont _ _ _ _› _ ?_)
 | ((with_reducible apply awO_c); (· rfl); (· rfl); (· exact sv); (· (first | exact starts_ab _ | exact digit_ab _)); (· rfl); (· rfl); (· rfl); (· decide))
 | ((first | ((with_reducible apply awO_guardN); (· rfl); (· rfl); (· exact sv); (· exact nB)) | ((with_reducible apply aw_condN); (· exact sv))); (· exact pN); (· exact pN); all_goals (intro hg; try (exfalso; omega)))
 | ((with_reducible apply retQ_mk); (· exact rI); (· exact sv); (· exact sv); rotate_left; (· rfl)))
        all_goals (first
          | (refine LE_mk (i + 1) ?_ ?_ sN sN sN
             · exact ⟨by omega, by omega, by omega⟩
             · omega)
          | (rcases hwb with h | h; (· exact absurd (h.symm.trans ‹startsB s[i] = false›) (by decide)); (· exact absurd (h.symm.trans ‹digitB s[i] = false›) (by decide))))
      · rw [if_neg hwb] at hI
        have hwb' : startsB s[i] = false ∧ digitB s[i] = false := by
          rw [startsB_word] at hwb
          simpa using hwb
        have c3 := starts_ab s[i]
        have c4 := digit_ab s[i]
        rw [hwb'.1] at c3
        rw [hwb'.2] at c4
        repeat' (first
 | ((with_reducible apply awO_ev); (· rfl); (· exact sv))
 | ((with_reducible apply aw_seq); intro _ _)
 | (with_reducible apply aw_region)
 | ((with_reducible first | apply awO_nil | apply aw_exit | apply aw_skip | apply aw_ret); (try simp only [CT, ↓reduceIte, Nat.reduceEqDiff]))
 | ((with_reducible apply awO_y); (· rfl); (· rfl); (· decide); (· exact sv); (· exact sv))
 | ((with_reducible apply aw_cond_false); (· exact sv))
 | ((with_reducible apply awO_un); (· rfl); (· decide); (· exact sv))
 | (refine Kont.go ‹Kont _ _ _ _› _ ?_)
 | ((with_reducible apply awO_c); (· rfl); (· rfl); (· exact sv); (· (first | with_reducible exact c3 | with_reducible exact c4)); (· rfl); (· rfl); (· rfl); (· decide))
 | ((first | ((with_reducible apply awO_guardN); (· rfl); (· rfl); (· exact sv); (· exact nB)) | ((with_reducible apply aw_condN); (· exact sv))); (· exact pN); (· exact pN); all_goals (intro hg; try (exfalso; omega)))
 | ((with_reducible apply retQ_mk); (· exact rI); (· exact sv); (· exact sv); rotate_left; (· rfl)))
        exact tp_mk rfl (by omega)
    · rw [List.drop_eq_nil_of_le (by omega : s.length ≤ i)] at hI
      simp only [wordN] at hI
      repeat' (first
 | ((with_reducible apply awO_ev); (· rfl); (· exact sv))
 | ((with_reducible apply aw_seq); intro _ _)
 | (with_reducible apply aw_region)
 | ((with_reducible first | apply awO_nil | apply aw_exit | apply aw_skip | apply aw_ret); (try simp only [CT, ↓reduceIte, Nat.reduceEqDiff]))
 | ((with_reducible apply awO_n); (· rfl); (· rfl); (· decide); (· exact sv); (· rfl); (· rfl); (· decide))
 | ((with_reducible apply awO_u); (· rfl); (· rfl); (· exact svr); (· rfl); (· decide))
 | ((with_reducible apply aw_cond_false); (· exact sv))
 | (refine Kont.go ‹Kont _ _ _ _› _ ?_)
 | ((first | ((with_reducible apply awO_guardN); (· rfl); (· rfl); (· exact sv); (· exact nB)) | ((with_reducible apply aw_condN); (· exact sv))); (· exact pN); (· exact pN); all_goals (intro hg; try (exfalso; omega)))
 | ((with_reducible apply retQ_mk); (· exact rI); (· exact sv); (· exact sv); rotate_left; (· rfl)))
      exact tp_mk rfl (by omega)
  · have hst' : startsB s[a + 1] = false := by simpa using hst
    rw [if_neg hst]
    rw [hst'] at c2
    refine Fn_of_aw (keep := []) Tryz.func58 rfl rfl (by simp [Tryz.ntmps58]) ?_
    simp only [num_cons, num_nil, Tryz.ntmps58, Tryz.results58]
    repeat' (first
 | ((with_reducible apply awO_ev); (· rfl); (· exact sv))
 | ((with_reducible apply aw_seq); intro _ _)
 | (with_reducible apply aw_region)
 | (with_reducible apply aw_block)
 | ((with_reducible first | apply awO_nil | apply aw_exit | apply aw_skip | apply aw_ret); (try simp only [CT, ↓reduceIte, Nat.reduceEqDiff]))
 | ((with_reducible apply aw_cond_true); (· exact sv))
 | ((with_reducible apply aw_cond_false); (· exact sv))
 | (refine Kont.go ‹Kont _ _ _ _› _ ?_)
 | ((with_reducible apply awO_c); (· rfl); (· rfl); (· exact sv); (· (first | with_reducible exact c0 | with_reducible exact c2)); (· rfl); (· rfl); (· rfl); (· decide))
 | ((first | ((with_reducible apply awO_guardN); (· rfl); (· rfl); (· exact sv); (· exact nB)) | ((with_reducible apply aw_condN); (· exact sv))); (· exact pN); (· exact pN); all_goals (intro hg; try (exfalso; omega)))
 | ((with_reducible apply retQ_mk); (· exact rI); (· exact sv); (· exact sv); rotate_left; (· rfl)))
    exact tp_mk (b := 2) rfl (by omega)
theorem CONH_all : ∀ n, CONH n
  | 0 => CONH_zero
  | n + 1 => CONH_succ (CONH_all n)
theorem construct_ab (s : List UInt8) (i : Nat) (z : Int) (hz : z = i) (hi : i < s.length) (hs : s.length ≤ 1000000) (hb : begB (s.drop i) = true) : Ab Tryz.prog 58 [az s, ai z, plc false false] (tpr i (con (s.drop i) 0)) :=
  CONH_all _ s i z false false hs hz hi (Nat.le_refl _) hb (fun h => h)
end Go.Proofs.YtgbhjlkenfmadaaGreatDoor
/- The lexer's Operator, Reserved, Skip, Close, number, token, on the abstract machine. -/
namespace Go.Proofs.YtgbhjlkenfmadaaGreatDoor
open Go.RowKit
set_option linter.unusedVariables false
set_option linter.unusedSimpArgs false
set_option maxRecDepth 100000
set_option maxHeartbeats 8000000
def operB (s : List UInt8) : Bool := decide (s = [38, 38] ∨ s = [124, 124] ∨ s = [59] ∨ s = [59, 59] ∨ s = [38] ∨ s = [124] ∨ s = [40] ∨ s = [41] ∨ s = [60] ∨ s = [62] ∨ s = [60, 60] ∨ s = [60, 60, 45] ∨ s = [62, 62] ∨ s = [60, 38] ∨ s = [62, 38] ∨ s = [60, 62] ∨ s = [62, 124] ∨ s = [10])
theorem oper_ab (s : List UInt8) : Ab Tryz.prog 55 [az s] (ab (operB s)) := by
  unfold operB
  refine Fn_of_aw (keep := []) Tryz.func55 rfl rfl (by simp [Tryz.ntmps55]) ?_
  simp only [num_cons, num_nil, Tryz.ntmps55, Tryz.results55]
  repeat' (first
 | ((with_reducible apply awO_ev); (· rfl); (· exact sv))
 | ((with_reducible apply aw_seq); intro _ _)
 | (with_reducible apply aw_region)
 | (with_reducible apply aw_block)
 | ((with_reducible first | apply awO_nil | apply aw_exit | apply aw_skip | apply aw_ret); (try simp only [CT, ↓reduceIte, Nat.reduceEqDiff]))
 | (refine Kont.go ‹Kont _ _ _ _› _ ?_)
 | ((first | ((with_reducible apply awO_guardN); (· rfl); (· rfl); (· exact sv); (· exact nB)) | ((with_reducible apply aw_condN); (· exact sv))); (· exact pN); (· exact pN); all_goals (intro hg; try (exfalso; omega)))
 | ((with_reducible apply retQ_mk); (· exact rI); (· exact sv); (· exact sv); rotate_left; (· rfl)))
  all_goals (refine ab_eq ?_; simp only [decide_eq_true_eq, Bool.false_eq_true, true_iff, false_iff]; first | (simp only [hg, true_or, or_true]; done) | (simp only [*, or_self, not_false_eq_true]; done) | (simp_all; done))
theorem roper_ab (s : List UInt8) : Ab Tryz.prog 83 [az s] (ab (operB s)) := by
  unfold operB
  refine Fn_of_aw (keep := []) Tryz.func83 rfl rfl (by simp [Tryz.ntmps83]) ?_
  simp only [num_cons, num_nil, Tryz.ntmps83, Tryz.results83]
  repeat' (first
 | ((with_reducible apply awO_ev); (· rfl); (· exact sv))
 | ((with_reducible apply aw_seq); intro _ _)
 | (with_reducible apply aw_region)
 | (with_reducible apply aw_block)
 | ((with_reducible first | apply awO_nil | apply aw_exit | apply aw_skip | apply aw_ret); (try simp only [CT, ↓reduceIte, Nat.reduceEqDiff]))
 | ((with_reducible apply awO_y); (· rfl); (· rfl); (· decide); (· exact sv); (· exact sv))
 | ((with_reducible apply awO_n); (· rfl); (· rfl); (· decide); (· exact sv); (· rfl); (· rfl); (· decide))
 | ((with_reducible apply awO_u); (· rfl); (· rfl); (· exact svr); (· rfl); (· decide))
 | ((with_reducible apply aw_cond_true); (· exact sv))
 | ((with_reducible apply aw_cond_false); (· exact sv))
 | ((with_reducible apply awO_un); (· rfl); (· decide); (· exact sv))
 | (refine Kont.go ‹Kont _ _ _ _› _ ?_)
 | ((first | ((with_reducible apply awO_guardN); (· rfl); (· rfl); (· exact sv); (· exact nB)) | ((with_reducible apply aw_condN); (· exact sv))); (· exact pN); (· exact pN); all_goals (intro hg; try (exfalso; omega)))
 | ((with_reducible apply retQ_mk); (· exact rI); (· exact sv); (· exact sv); rotate_left; (· rfl)))
  all_goals (refine ab_eq ?_; simp only [decide_eq_true_eq, Bool.false_eq_true, true_iff, false_iff]; first | (simp only [hg, true_or, or_true]; done) | (simp only [*, or_self, not_false_eq_true]; done) | (simp_all; done))
def skpN : List UInt8 → Nat
  | [] => 0
  | [c] => if blankB c = true then 1 else if c.toNat = 35 then comN [c] else 0
  | c :: d :: r => if blankB c = true then skpN (d :: r) + 1 else if joinB (c :: d :: r) = true then skpN r + 2 else if c.toNat = 35 then comN (c :: d :: r) else 0
theorem skpN_cons (c : UInt8) (r : List UInt8) : skpN (c :: r) = if blankB c = true then skpN r + 1 else if joinB (c :: r) = true then skpN (r.drop 1) + 2 else if c.toNat = 35 then comN (c :: r) else 0 := by
  cases r with
  | nil =>
    simp only [skpN, joinB, Bool.false_eq_true, if_false]
  | cons d r => rfl
theorem skpN_le : ∀ (n : Nat) (l : List UInt8), l.length ≤ n → skpN l ≤ l.length := by
  intro n
  induction n with
  | zero =>
    intro l hl
    obtain rfl : l = [] := List.eq_nil_of_length_eq_zero (by omega)
    exact Nat.le_refl _
  | succ n ih =>
    intro l hl
    cases l with
    | nil => exact Nat.le_refl _
    | cons c r =>
      have hc := comN_le (c :: r)
      simp only [List.length_cons] at hl hc ⊢
      rw [skpN_cons]
      split
      · have := ih r (by omega); omega
      split
      · next hj =>
        have h1 : 1 ≤ r.length := by
          cases r with
          | nil => simp [joinB] at hj
          | cons d r => simp
        have := ih (r.drop 1) (by simp; omega)
        simp only [List.length_drop] at this
        omega
      split <;> omega
theorem skpN_stop {l : List UInt8} (h : l = [] ∨ ∃ c r, l = c :: r ∧ c.toNat = 10) : skpN l = 0 := by
  rcases h with rfl | ⟨c, r, rfl, h⟩
  · rfl
  · rw [skpN_cons, if_neg (by simp [blankB]; omega), if_neg (by cases r <;> simp [joinB]; omega), if_neg (by omega)]
theorem comN_stop (l : List UInt8) : l.drop (comN l) = [] ∨ ∃ c r, l.drop (comN l) = c :: r ∧ c.toNat = 10 := by
  induction l with
  | nil => exact .inl rfl
  | cons c r ih =>
    simp only [comN]
    split
    · next h => exact .inr ⟨c, r, rfl, h⟩
    · simpa using ih
def clp (z : Int) (n : Nat) : Nat := (max 0 (min z n)).toNat
theorem clp_le (z : Int) (n : Nat) : clp z n ≤ n := by unfold clp; omega
def skp (s : List UInt8) (z : Int) : Nat := clp z s.length + skpN (s.drop (clp z s.length))
theorem skp_le (s : List UInt8) (z : Int) : skp s z ≤ s.length := by
  have h1 := clp_le z s.length
  have h2 := skpN_le _ (s.drop (clp z s.length)) (Nat.le_refl _)
  rw [List.length_drop] at h2
  unfold skp
  omega
theorem skip_ab (s : List UInt8) (z : Int) (hs : s.length ≤ 1000000) : Ab Tryz.prog 53 [az s, ai z] (ai (skp s z : Nat)) := by
  have hcl := clp_le z s.length
  refine Fn_of_aw (keep := []) Tryz.func53 rfl rfl (by simp [Tryz.ntmps53]) ?_
  simp only [num_cons, num_nil, Tryz.ntmps53, Tryz.results53]
  repeat' (first
 | ((with_reducible apply awO_ev); (· rfl); (· exact sv))
 | ((with_reducible apply aw_seq); intro _ _)
 | (with_reducible apply aw_region)
 | (with_reducible apply aw_block)
 | ((with_reducible first | apply awO_nil | apply aw_exit | apply aw_skip | apply aw_ret); (try simp only [CT, ↓reduceIte, Nat.reduceEqDiff]))
 | (refine Kont.go ‹Kont _ _ _ _› _ ?_))
  refine aw_loopF (fun i : Nat => [(1, ai i)]) (fun _ => []) (fun i => i ≤ s.length ∧ skp s z = i + skpN (s.drop i)) (fun i => s.length - i) (clp z s.length) ⟨hcl, rfl⟩ ?_ ?_ ?_
  · (simp only [LP, look_cons, look_nil, and_true, true_and, ↓reduceIte, Nat.reduceEqDiff, Option.some.injEq, AV.v.injEq, Value.int.injEq, Int.natCast_add, Int.cast_ofNat_Int])
    unfold clp
    (repeat' split) <;> omega
  · (simp only [LP, look_cons, look_nil, and_true, true_and, ↓reduceIte, Nat.reduceEqDiff, Option.some.injEq, AV.v.injEq, Value.int.injEq, Int.natCast_add, Int.cast_ofNat_Int])
  intro i ⟨hi, hI⟩
  (simp only [LP, List.append_assoc, List.nil_append, List.cons_append, List.append_nil, List.contains_cons, List.contains_nil, Nat.reduceBEq, Bool.or_false, Bool.or_true, Bool.true_or, Bool.false_or, ↓reduceIte, Bool.false_eq_true])
  by_cases hil : i < s.length
  · have c1 := blank_ab s[i]
    have c2 := joins_ab s i i rfl (by omega) hs
    have c3 := comment_ab s i i rfl (by omega) hs
    have hcl3 := comN_le (s.drop i)
    have hst := comN_stop (s.drop i)
    rw [List.length_drop] at hcl3
    rw [dropc hil] at c2 c3 hI hcl3
    rw [List.drop_drop] at hst
    rw [dropc hil] at hst
    rw [skpN_cons] at hI
    by_cases hb : blankB s[i] = true
    · rw [if_pos hb] at hI
      rw [hb] at c1
      repeat' (first
 | ((with_reducible apply awO_ev); (· rfl); (· exact sv))
 | ((with_reducible apply aw_seq); intro _ _)
 | (with_reducible apply aw_region)
 | (with_reducible apply aw_block)
 | ((with_reducible first | apply awO_nil | apply aw_exit | apply aw_skip | apply aw_ret); (try simp only [CT, ↓reduceIte, Nat.reduceEqDiff]))
 | ((with_reducible apply aw_cond_true); (· exact sv))
 | (refine Kont.go ‹Kont _ _ _ _› _ ?_)
 | ((with_reducible apply awO_c); (· rfl); (· rfl); (· exact sv); (· (first | with_reducible exact c1)); (· rfl); (· rfl); (· rfl); (· decide))
 | ((first | ((with_reducible apply awO_guardN); (· rfl); (· rfl); (· exact sv); (· exact nB)) | ((with_reducible apply aw_condN); (· exact sv))); (· exact pN); (· exact pN); all_goals (intro hg; try (exfalso; omega))))
      refine LE_mk (i + 1) ?_ ?_ sN sN sN
      · exact ⟨by omega, by omega⟩
      · omega
    rw [if_neg hb] at hI
    have hb' : blankB s[i] = false := by simpa using hb
    rw [hb'] at c1
    by_cases hj : joinB (s[i] :: s.drop (i + 1)) = true
    · rw [if_pos hj, List.drop_drop] at hI
      rw [hj] at c2
      have hil2 : i + 1 < s.length := by
        rcases Nat.lt_or_ge (i + 1) s.length with h | h
        · exact h
        · rw [List.drop_eq_nil_of_le h] at hj; simp [joinB] at hj
      repeat' (first
 | ((with_reducible apply awO_ev); (· rfl); (· exact sv))
 | ((with_reducible apply aw_seq); intro _ _)
 | (with_reducible apply aw_region)
 | (with_reducible apply aw_block)
 | ((with_reducible first | apply awO_nil | apply aw_exit | apply aw_skip | apply aw_ret); (try simp only [CT, ↓reduceIte, Nat.reduceEqDiff]))
 | ((with_reducible apply aw_cond_true); (· exact sv))
 | ((with_reducible apply aw_cond_false); (· exact sv))
 | (refine Kont.go ‹Kont _ _ _ _› _ ?_)
 | ((with_reducible apply awO_c); (· rfl); (· rfl); (· exact sv); (· (first | with_reducible exact c1 | with_reducible exact c2)); (· rfl); (· rfl); (· rfl); (· decide))
 | ((first | ((with_reducible apply awO_guardN); (· rfl); (· rfl); (· exact sv); (· exact nB)) | ((with_reducible apply aw_condN); (· exact sv))); (· exact pN); (· exact pN); all_goals (intro hg; try (exfalso; omega))))
      refine LE_mk (i + 2) ?_ ?_ sN sN sN
      · exact ⟨by omega, by rw [hI]; show _ = i + 2 + skpN (s.drop (i + 1 + 1)); omega⟩
      · omega
    rw [if_neg hj] at hI
    have hj' : joinB (s[i] :: s.drop (i + 1)) = false := by simpa using hj
    rw [hj'] at c2
    by_cases h35 : s[i].toNat = 35
    · rw [if_pos h35] at hI
      have hc1 : 1 ≤ comN (s[i] :: s.drop (i + 1)) := by simp only [comN]; rw [if_neg (by omega)]; omega
      have hz := skpN_stop hst
      generalize comN (s[i] :: s.drop (i + 1)) = cn at *
      repeat' (first
 | ((with_reducible apply awO_ev); (· rfl); (· exact sv))
 | ((with_reducible apply aw_seq); intro _ _)
 | (with_reducible apply aw_region)
 | (with_reducible apply aw_block)
 | ((with_reducible first | apply awO_nil | apply aw_exit | apply aw_skip | apply aw_ret); (try simp only [CT, ↓reduceIte, Nat.reduceEqDiff]))
 | ((with_reducible apply aw_cond_false); (· exact sv))
 | (refine Kont.go ‹Kont _ _ _ _› _ ?_)
 | ((with_reducible apply awO_c); (· rfl); (· rfl); (· exact sv); (· (first | with_reducible exact c1 | with_reducible exact c2 | with_reducible exact c3)); (· rfl); (· rfl); (· rfl); (· decide))
 | ((first | ((with_reducible apply awO_guardN); (· rfl); (· rfl); (· exact sv); (· exact nB)) | ((with_reducible apply aw_condN); (· exact sv))); (· exact pN); (· exact pN); all_goals (intro hg; try (exfalso; omega))))
      refine LE_mk (i + cn) ?_ ?_ sN sN sN
      · exact ⟨by omega, by rw [hz]; omega⟩
      · omega
    · rw [if_neg h35] at hI
      repeat' (first
 | ((with_reducible apply awO_ev); (· rfl); (· exact sv))
 | ((with_reducible apply aw_seq); intro _ _)
 | (with_reducible apply aw_region)
 | (with_reducible apply aw_block)
 | ((with_reducible first | apply awO_nil | apply aw_exit | apply aw_skip | apply aw_ret); (try simp only [CT, ↓reduceIte, Nat.reduceEqDiff]))
 | ((with_reducible apply aw_cond_false); (· exact sv))
 | (refine Kont.go ‹Kont _ _ _ _› _ ?_)
 | ((with_reducible apply awO_c); (· rfl); (· rfl); (· exact sv); (· (first | with_reducible exact c1 | with_reducible exact c2)); (· rfl); (· rfl); (· rfl); (· decide))
 | ((first | ((with_reducible apply awO_guardN); (· rfl); (· rfl); (· exact sv); (· exact nB)) | ((with_reducible apply aw_condN); (· exact sv))); (· exact pN); (· exact pN); all_goals (intro hg; try (exfalso; omega)))
 | ((with_reducible apply retQ_mk); (· exact rI); (· exact sv); (· exact sv); rotate_left; (· rfl)))
      refine ai_eq ?_; omega
  · rw [List.drop_eq_nil_of_le (by omega : s.length ≤ i)] at hI
    repeat' (first
 | ((with_reducible apply awO_ev); (· rfl); (· exact sv))
 | ((with_reducible apply aw_seq); intro _ _)
 | (with_reducible apply aw_region)
 | ((with_reducible first | apply awO_nil | apply aw_exit | apply aw_skip | apply aw_ret); (try simp only [CT, ↓reduceIte, Nat.reduceEqDiff]))
 | (refine Kont.go ‹Kont _ _ _ _› _ ?_)
 | ((first | ((with_reducible apply awO_guardN); (· rfl); (· rfl); (· exact sv); (· exact nB)) | ((with_reducible apply aw_condN); (· exact sv))); (· exact pN); (· exact pN); all_goals (intro hg; try (exfalso; omega)))
 | ((with_reducible apply retQ_mk); (· exact rI); (· exact sv); (· exact sv); rotate_left; (· rfl)))
    refine ai_eq ?_; rw [hI]; simp [skpN]
theorem number_ab (s : List UInt8) (hs : s.length ≤ 1000000) : Ab Tryz.prog 59 [az s] (ab (s.all digitB)) := by
  refine Fn_of_aw (keep := []) Tryz.func59 rfl rfl (by simp [Tryz.ntmps59]) ?_
  simp only [num_cons, num_nil, Tryz.ntmps59, Tryz.results59]
  repeat' (first
 | ((with_reducible apply awO_ev); (· rfl); (· exact sv))
 | ((with_reducible apply aw_seq); intro _ _)
 | (with_reducible apply aw_region)
 | (with_reducible apply aw_block)
 | ((with_reducible first | apply awO_nil | apply aw_exit | apply aw_skip | apply aw_ret); (try simp only [CT, ↓reduceIte, Nat.reduceEqDiff]))
 | (refine Kont.go ‹Kont _ _ _ _› _ ?_))
  refine aw_loopF (fun k : Nat => [(3, ai k)]) (fun _ => []) (fun k => k ≤ s.length ∧ s.all digitB = (s.drop k).all digitB) (fun k => s.length - k) 0 ⟨by omega, rfl⟩ ?_ ?_ ?_
  · (simp only [LP, look_cons, look_nil, and_true, true_and, ↓reduceIte, Nat.reduceEqDiff, Option.some.injEq, AV.v.injEq, Value.int.injEq, Int.natCast_add, Int.cast_ofNat_Int])
  · (simp only [LP, look_cons, look_nil, and_true, true_and, ↓reduceIte, Nat.reduceEqDiff, Option.some.injEq, AV.v.injEq, Value.int.injEq, Int.natCast_add, Int.cast_ofNat_Int])
  intro k ⟨hk, hI⟩
  (simp only [LP, List.append_assoc, List.nil_append, List.cons_append, List.append_nil, List.contains_cons, List.contains_nil, Nat.reduceBEq, Bool.or_false, Bool.or_true, Bool.true_or, Bool.false_or, ↓reduceIte, Bool.false_eq_true])
  by_cases hkl : k < s.length
  · rw [dropc hkl, List.all_cons] at hI
    repeat' (first
 | ((with_reducible apply awO_ev); (· rfl); (· exact sv))
 | ((with_reducible apply aw_seq); intro _ _)
 | (with_reducible apply aw_region)
 | (with_reducible apply aw_block)
 | ((with_reducible first | apply awO_nil | apply aw_exit | apply aw_skip | apply aw_ret); (try simp only [CT, ↓reduceIte, Nat.reduceEqDiff]))
 | (refine Kont.go ‹Kont _ _ _ _› _ ?_)
 | ((with_reducible apply awO_c); (· rfl); (· rfl); (· exact sv); (· (first | exact digit_ab _)); (· rfl); (· rfl); (· rfl); (· decide))
 | ((first | ((with_reducible apply awO_guardN); (· rfl); (· rfl); (· exact sv); (· exact nB)) | ((with_reducible apply aw_condN); (· exact sv))); (· exact pN); (· exact pN); all_goals (intro hg; try (exfalso; omega)))
 | ((with_reducible apply retQ_mk); (· exact rI); (· exact sv); (· exact sv); rotate_left; (· rfl)))
    all_goals (first
      | (refine LE_mk (k + 1) ?_ ?_ sN sN sN
         · exact ⟨hkl, by rw [hI, hg]; rfl⟩
         · omega)
      | (rw [hI, hg]; rfl))
  · skip
    repeat' (first
 | ((with_reducible apply awO_ev); (· rfl); (· exact sv))
 | ((with_reducible apply aw_seq); intro _ _)
 | (with_reducible apply aw_region)
 | ((with_reducible first | apply awO_nil | apply aw_exit | apply aw_skip | apply aw_ret); (try simp only [CT, ↓reduceIte, Nat.reduceEqDiff]))
 | (refine Kont.go ‹Kont _ _ _ _› _ ?_)
 | ((first | ((with_reducible apply awO_guardN); (· rfl); (· rfl); (· exact sv); (· exact nB)) | ((with_reducible apply aw_condN); (· exact sv))); (· exact pN); (· exact pN); all_goals (intro hg; try (exfalso; omega)))
 | ((with_reducible apply retQ_mk); (· exact rI); (· exact sv); (· exact sv); rotate_left; (· rfl)))
    rw [hI, List.drop_eq_nil_of_le (by omega)]; rfl
structure Tok where
  kind : Int
  pos : Nat
  fin : Nat
  text : List UInt8
abbrev tokA (t : Tok) : AV := .ag [ai t.kind, ai (t.pos : Nat), ai (t.fin : Nat), az t.text]
theorem token_ab (s : List UInt8) (k : Int) (p e : Nat) (y z : Int) (hy : y = p) (hz : z = e) (h1 : p ≤ e) (h2 : e ≤ s.length) (hs : s.length ≤ 1000000) : Ab Tryz.prog 54 [az s, ai k, ai y, ai z] (tokA ⟨k, p, e, (s.drop p).take (e - p)⟩) := by
  subst hy; subst hz
  refine Fn_of_aw (keep := []) Tryz.func54 rfl rfl (by simp [Tryz.ntmps54]) ?_
  simp only [num_cons, num_nil, Tryz.ntmps54, Tryz.results54]
  repeat' (first
 | ((with_reducible apply awO_ev); (· rfl); (· exact sv))
 | ((with_reducible apply aw_seq); intro _ _)
 | (with_reducible apply aw_region)
 | ((with_reducible first | apply awO_nil | apply aw_exit | apply aw_skip | apply aw_ret); (try simp only [CT, ↓reduceIte, Nat.reduceEqDiff]))
 | (refine Kont.go ‹Kont _ _ _ _› _ ?_)
 | ((with_reducible apply retQ_mk); (· exact rI); (· exact sv); (· exact sv); rotate_left; (· rfl)))
  rfl
end Go.Proofs.YtgbhjlkenfmadaaGreatDoor
