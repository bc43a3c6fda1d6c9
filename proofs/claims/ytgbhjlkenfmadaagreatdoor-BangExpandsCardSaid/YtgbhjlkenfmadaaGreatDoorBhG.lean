/- The document's bang: replaced, on the abstract machine. -/
import Derived.Test.YtgbhjlkenfmadaaGreatDoorBhB
import Derived.Test.YtgbhjlkenfmadaaGreatDoorBgH
namespace Go.Proofs.YtgbhjlkenfmadaaGreatDoor
open Go.RowKit
set_option linter.unusedVariables false
set_option linter.unusedSimpArgs false
set_option maxRecDepth 100000
set_option maxHeartbeats 16000000
/-- What a round of the replacing has left to do. -/
def rpR (A B t : List UInt8) (all : Bool) (f : Nat) : List UInt8 := if all = true then repA A B (t.length + 1 - f) (t.drop f) else t.drop f
theorem repA_fuel {a b : List UInt8} (ha : a ≠ []) : ∀ (n m : Nat) (t : List UInt8), t.length < n → t.length < m → repA a b n t = repA a b m t := by
  intro n
  induction n with
  | zero => intro m t h; omega
  | succ n ih =>
    intro m t hn hm
    obtain ⟨m, rfl⟩ : ∃ k, m = k + 1 := ⟨m - 1, by omega⟩
    rw [repA, repA]
    have hpos : 0 < a.length := List.length_pos_iff.2 ha
    rcases h : ixN a t with _ | k
    · rfl
    · have := (ixN_some h).1
      simp only
      rw [ih m (t.drop (k + a.length)) (by rw [List.length_drop]; omega) (by rw [List.length_drop]; omega)]
theorem rpR_some {A B t : List UInt8} (hA : A ≠ []) {f q : Nat} (hf : f ≤ t.length) (h : ixN A (t.drop f) = some q) : rpR A B t true f = (t.drop f).take q ++ B ++ rpR A B t true (f + q + A.length) := by
  have hpos : 0 < A.length := List.length_pos_iff.2 hA
  have b1 := (ixN_some h).1
  rw [List.length_drop] at b1
  unfold rpR
  simp only [if_true]
  rw [show t.length + 1 - f = (t.length - f) + 1 from by omega, repA, h]
  simp only [List.drop_drop]
  rw [repA_fuel hA (t.length - f) (t.length + 1 - (f + q + A.length)) _ (by rw [List.length_drop]; omega) (by rw [List.length_drop]; omega), show f + (q + A.length) = f + q + A.length from by omega]
theorem rpR_none {A B t : List UInt8} {f : Nat} (hf : f ≤ t.length) (h : ixN A (t.drop f) = none) : rpR A B t true f = t.drop f := by
  unfold rpR
  simp only [if_true]
  rw [show t.length + 1 - f = (t.length - f) + 1 from by omega, repA, h]
theorem rreplaced_ab (t s : List UInt8) (i : Nat) (z : Int) (all : Bool) (hz : z = i) (hi : i ≤ s.length) (hs : s.length ≤ 4096) (ht : t.length ≤ 17000000) :
    ∃ j : Int, Ab Tryz.prog 77 [az t, az s, ai z, ab all] (.tp [az (rplF s t i all).1, ai j, ai (rplF s t i all).2.2]) ∧ ((rplF s t i all).2.2 = 0 → j = (rplF s t i all).2.1) := by
  subst hz
  by_cases hil : i < s.length
  rotate_left
  · have e : rplF s t i all = ([], 0, 6) := by
      have : sbtF s i = ([], [], 0, 6) := by unfold sbtF; rw [if_pos (by omega)]
      unfold rplF
      rw [this]
      rfl
    rw [e]
    refine ⟨i, ?_, fun h => by cases h⟩
    refine Fn_of_aw (keep := []) Tryz.func77 rfl rfl (by simp [Tryz.ntmps77]) ?_
    simp only [num_cons, num_nil, Tryz.ntmps77, Tryz.results77]
    repeat' (first
 | ((with_reducible apply awO_ev); (· rfl); (· exact sv))
 | ((with_reducible apply aw_seq); intro _ _)
 | (with_reducible apply aw_region)
 | ((with_reducible first | apply awO_nil | apply aw_exit | apply aw_skip | apply aw_ret); (try simp only [CT, ↓reduceIte, Nat.reduceEqDiff]))
 | (refine Kont.go ‹Kont _ _ _ _› _ ?_)
 | ((first | ((with_reducible apply awO_guardN); (· rfl); (· rfl); (· exact sv); (· exact nB)) | ((with_reducible apply aw_condN); (· exact sv))); (· exact pN); (· exact pN); all_goals (intro hg; try (exfalso; omega)))
 | ((with_reducible apply retQ_mk); (· exact rI); (· exact sv); (· exact sv); rotate_left; (· rfl)))
    all_goals rfl
  have hD : (s.drop i).take (i + 1 - i) = [atB s i] := by
    rw [List.drop_eq_getElem_cons hil, show i + 1 - i = 1 from by omega, atB_lt hil]
    rfl
  have c1 := fun (k : Nat) (z : Int) (hz : z = k) (hk : k ≤ 1000000) => rindex_ab s ((s.drop i).take (i + 1 - i)) k z hz (by rw [hD]; simp) (by omega) (by omega) (by rw [hD]; exact Nat.le_of_lt_succ (by simp))
  have c1a := fun (z : Int) (hz : z = ((i + 1 : Nat) : Int)) => c1 (i + 1) z hz (by omega)
  by_cases hbad : ∃ k, ixS [atB s i] s (i + 1) = k ∧ k ≤ (i : Int) + 1
  · obtain ⟨k, hk, hk2⟩ := hbad
    have e : rplF s t i all = ([], 0, 6) := by
      have : sbtF s i = ([], [], 0, 6) := by
        unfold sbtF
        rw [if_neg (by omega)]
        rcases h : ixN [atB s i] (s.drop (i + 1)) with _ | _ | n
        · rfl
        · rfl
        · unfold ixS at hk
          rw [h] at hk
          simp only at hk
          omega
      unfold rplF
      rw [this]
      rfl
    rw [e]
    rw [hD, hk, ← hD] at c1a
    refine ⟨i, ?_, fun h => by cases h⟩
    refine Fn_of_aw (keep := []) Tryz.func77 rfl rfl (by simp [Tryz.ntmps77]) ?_
    simp only [num_cons, num_nil, Tryz.ntmps77, Tryz.results77]
    repeat' (first
 | ((with_reducible apply awO_ev); (· rfl); (· exact sv))
 | ((with_reducible apply aw_seq); intro _ _)
 | (with_reducible apply aw_region)
 | ((with_reducible first | apply awO_nil | apply aw_exit | apply aw_skip | apply aw_ret); (try simp only [CT, ↓reduceIte, Nat.reduceEqDiff]))
 | (refine Kont.go ‹Kont _ _ _ _› _ ?_)
 | ((with_reducible apply awO_c); (· rfl); (· rfl); (· exact sv); (· (first | exact c1a _ (by omega))); (· rfl); (· rfl); (· rfl); (· decide))
 | ((first | ((with_reducible apply awO_guardN); (· rfl); (· rfl); (· exact sv); (· exact nB)) | ((with_reducible apply aw_condN); (· exact sv))); (· exact pN); (· exact pN); all_goals (intro hg; try (exfalso; omega)))
 | ((with_reducible apply retQ_mk); (· exact rI); (· exact sv); (· exact sv); rotate_left; (· rfl)))
    all_goals rfl
  obtain ⟨n, hn⟩ : ∃ n, ixN [atB s i] (s.drop (i + 1)) = some (n + 1) := by
    rcases h : ixN [atB s i] (s.drop (i + 1)) with _ | _ | n
    · exact absurd ⟨-1, by unfold ixS; rw [h], by omega⟩ hbad
    · exact absurd ⟨((i + 1 : Nat) : Int), by unfold ixS; rw [h]; first | done | rfl, by omega⟩ hbad
    · exact ⟨n, rfl⟩
  clear hbad
  have b1 := (ixN_some hn).1
  simp only [List.length_drop, List.length_cons, List.length_nil] at b1
  obtain ⟨k, hk⟩ : ∃ k, k = i + 1 + (n + 1) := ⟨_, rfl⟩
  have ek : ixS [atB s i] s (i + 1) = (k : Int) := by unfold ixS; rw [hn, hk]
  rw [hD, ek, ← hD] at c1a
  have c1b := fun (z : Int) (hz : z = ((k + 1 : Nat) : Int)) => c1 (k + 1) z hz (by omega)
  have hAe : (s.drop (i + 1)).take (k - (i + 1)) = (s.drop (i + 1)).take (n + 1) := by rw [show k - (i + 1) = n + 1 from by omega]
  have hAn : (s.drop (i + 1)).take (k - (i + 1)) ≠ [] := by
    intro h
    have := congrArg List.length h
    simp only [List.length_take, List.length_drop, List.length_nil] at this
    omega
  have hAl : ((s.drop (i + 1)).take (k - (i + 1))).length = k - (i + 1) := by simp only [List.length_take, List.length_drop]; omega
  have hto : ∃ (y : Int) (tt nx : Nat), ixS [atB s i] s (k + 1) = y ∧ tt ≤ s.length ∧ k + 1 ≤ tt ∧ ((y < 0 ∧ tt = s.length ∧ nx = s.length) ∨ (y = tt ∧ nx = tt + 1)) ∧ sbtF s i = ((s.drop (i + 1)).take (k - (i + 1)), (s.drop (k + 1)).take (tt - (k + 1)), nx, 0) := by
    have e0 : sbtF s i = match ixN [atB s i] (s.drop (i + 1 + (n + 1) + 1)) with
      | none => ((s.drop (i + 1)).take (n + 1), s.drop (i + 1 + (n + 1) + 1), s.length, 0)
      | some m => ((s.drop (i + 1)).take (n + 1), (s.drop (i + 1 + (n + 1) + 1)).take m, i + 1 + (n + 1) + 1 + m + 1, 0) := by
      unfold sbtF
      rw [if_neg (by omega), hn]
      rfl
    rw [← hk, ← hAe] at e0
    rcases hm : ixN [atB s i] (s.drop (k + 1)) with _ | m
    · rw [hm] at e0
      refine ⟨-1, s.length, s.length, by unfold ixS; rw [hm], Nat.le_refl _, by omega, .inl ⟨by omega, rfl, rfl⟩, ?_⟩
      rw [e0, List.take_of_length_le (l := s.drop (k + 1)) (by rw [List.length_drop]; omega)]
    · rw [hm] at e0
      have b2 := (ixN_some hm).1
      simp only [List.length_drop, List.length_cons, List.length_nil] at b2
      refine ⟨((k + 1 + m : Nat) : Int), k + 1 + m, k + 1 + m + 1, by unfold ixS; rw [hm], by omega, by omega, .inr ⟨rfl, rfl⟩, ?_⟩
      rw [e0, show k + 1 + m - (k + 1) = m from by omega]
  obtain ⟨y, tt, nx, hy, ht1, ht2, hyt, hsb⟩ := hto
  rw [hD, hy, ← hD] at c1b
  have er : rplF s t i all = if (sbdF t ((s.drop (i + 1)).take (k - (i + 1))) ((s.drop (k + 1)).take (tt - (k + 1))) all).2 ≠ 0 then ([], 0, (sbdF t ((s.drop (i + 1)).take (k - (i + 1))) ((s.drop (k + 1)).take (tt - (k + 1))) all).2)
      else ((sbdF t ((s.drop (i + 1)).take (k - (i + 1))) ((s.drop (k + 1)).take (tt - (k + 1))) all).1, nx, 0) := by
    unfold rplF
    rw [hsb, if_neg (by simp)]
  have hBl : ((s.drop (k + 1)).take (tt - (k + 1))).length ≤ 4096 := by simp only [List.length_take, List.length_drop]; omega
  have c2 := fun (f : Nat) (z : Int) (hz : z = f) (hf : f ≤ t.length) => rindex_ab t ((s.drop (i + 1)).take (k - (i + 1))) f z hz hAn (by omega) (by omega) (by rw [hAl]; omega)
  have hA0 : 0 < k - (i + 1) := by omega
  have hA1 : k - (i + 1) ≤ 4096 := by omega
  generalize hA : (s.drop (i + 1)).take (k - (i + 1)) = A at *
  generalize hB : (s.drop (k + 1)).take (tt - (k + 1)) = B at *
  have ed : sbdF t A B all = if ixN A t = none then ([], 8) else if 4096 < (if all = true then repA A B (t.length + 1) t else rep1 A B t).length then ([], 3) else (if all = true then repA A B (t.length + 1) t else rep1 A B t, 0) := rfl
  have c20 := fun (z : Int) (hz : z = ((0 : Nat) : Int)) => c2 0 z hz (Nat.zero_le _)
  rw [ixS_zero] at c20
  by_cases hx : ixN A t = none
  · have e : rplF s t i all = ([], 0, 8) := by rw [er, ed, if_pos hx, if_pos (by decide)]
    have ex : ixI A t = -1 := by unfold ixI; rw [hx]
    rw [ex] at c20
    rw [e]
    refine ⟨i, ?_, fun h => by cases h⟩
    clear er ed e hsb
    rcases hyt with ⟨y1, y2, y3⟩ | ⟨y1, y2⟩
    · subst y2
      subst y3
      refine Fn_of_aw (keep := []) Tryz.func77 rfl rfl (by simp [Tryz.ntmps77]) ?_
      simp only [num_cons, num_nil, Tryz.ntmps77, Tryz.results77]
      repeat' (first
 | ((with_reducible apply awO_ev); (· rfl); (· exact sv))
 | ((with_reducible apply aw_seq); intro _ _)
 | (with_reducible apply aw_region)
 | ((with_reducible first | apply awO_nil | apply aw_exit | apply aw_skip | apply aw_ret); (try simp only [CT, ↓reduceIte, Nat.reduceEqDiff]))
 | ((with_reducible apply aw_cond_true); (· exact sv))
 | (refine Kont.go ‹Kont _ _ _ _› _ ?_)
 | ((with_reducible apply awO_c); (· rfl); (· rfl); (· exact sv); (· (first | exact c1a _ (by omega) | exact c1b _ (by omega) | (rw [hA]; exact c20 _ (by omega)) | exact c20 _ (by omega))); (· rfl); (· rfl); (· rfl); (· decide))
 | ((first | ((with_reducible apply awO_guardN); (· rfl); (· rfl); (· exact sv); (· exact nB)) | ((with_reducible apply aw_condN); (· exact sv))); (· exact pN); (· exact pN); all_goals (intro hg; try (exfalso; omega)))
 | ((with_reducible apply retQ_mk); (· exact rI); (· exact sv); (· exact sv); rotate_left; (· rfl)))
      all_goals rfl
    · subst y1
      subst y2
      refine Fn_of_aw (keep := []) Tryz.func77 rfl rfl (by simp [Tryz.ntmps77]) ?_
      simp only [num_cons, num_nil, Tryz.ntmps77, Tryz.results77]
      repeat' (first
 | ((with_reducible apply awO_ev); (· rfl); (· exact sv))
 | ((with_reducible apply aw_seq); intro _ _)
 | (with_reducible apply aw_region)
 | ((with_reducible first | apply awO_nil | apply aw_exit | apply aw_skip | apply aw_ret); (try simp only [CT, ↓reduceIte, Nat.reduceEqDiff]))
 | ((with_reducible apply aw_cond_true); (· exact sv))
 | (refine Kont.go ‹Kont _ _ _ _› _ ?_)
 | ((with_reducible apply awO_c); (· rfl); (· rfl); (· exact sv); (· (first | exact c1a _ (by omega) | exact c1b _ (by omega) | (rw [hA]; exact c20 _ (by omega)) | exact c20 _ (by omega))); (· rfl); (· rfl); (· rfl); (· decide))
 | ((first | ((with_reducible apply awO_guardN); (· rfl); (· rfl); (· exact sv); (· exact nB)) | ((with_reducible apply aw_condN); (· exact sv))); (· exact pN); (· exact pN); all_goals (intro hg; try (exfalso; omega)))
 | ((with_reducible apply retQ_mk); (· exact rI); (· exact sv); (· exact sv); rotate_left; (· rfl)))
      all_goals rfl
  rw [if_neg hx] at ed
  obtain ⟨q0, hq0⟩ : ∃ q, ixN A t = some q := Option.ne_none_iff_exists'.1 hx
  have ex : ixI A t = (q0 : Int) := by unfold ixI; rw [hq0]
  have hd0 : t.drop 0 = t := rfl
  have hR0 : (if all = true then repA A B (t.length + 1) t else rep1 A B t) = t.take q0 ++ B ++ rpR A B t all (q0 + A.length) := by
    cases all with
    | true =>
      have := rpR_some (B := B) hAn (f := 0) (Nat.zero_le _) (by rw [List.drop_zero]; exact hq0)
      rw [List.drop_zero, Nat.zero_add] at this
      rw [← this, if_pos rfl]
      unfold rpR
      rw [if_pos rfl, List.drop_zero, Nat.sub_zero]
    | false =>
      rw [if_neg (by decide)]
      unfold rep1 rpR
      rw [hq0, if_neg (by decide)]
  rw [hR0] at ed
  have bq0 := (ixN_some hq0).1
  rw [ex] at c20
  have hfin : ∃ (R : List UInt8) (j : Int), R = t.take q0 ++ B ++ rpR A B t all (q0 + A.length) ∧ ((4096 < R.length ∧ rplF s t i all = ([], 0, 3)) ∨ (R.length ≤ 4096 ∧ rplF s t i all = (R, nx, 0))) := by
    refine ⟨_, 0, rfl, ?_⟩
    by_cases h : 4096 < (t.take q0 ++ B ++ rpR A B t all (q0 + A.length)).length
    · refine .inl ⟨h, ?_⟩
      rw [er, ed, if_pos h, if_pos (by decide)]
    · refine .inr ⟨by omega, ?_⟩
      rw [er, ed, if_neg h, if_neg (by simp)]
  clear er ed hR0 hsb
  obtain ⟨R, _, hR, hfin⟩ := hfin
  have hj : ∃ j : Int, ((4096 < R.length ∧ j = i) ∨ (R.length ≤ 4096 ∧ j = nx)) := by
    by_cases h : 4096 < R.length
    · exact ⟨i, .inl ⟨h, rfl⟩⟩
    · exact ⟨nx, .inr ⟨by omega, rfl⟩⟩
  obtain ⟨j, hj⟩ := hj
  refine ⟨j, ?_, fun h => ?_⟩
  rotate_left
  · rcases hfin with ⟨f1, f2⟩ | ⟨f1, f2⟩
    · rw [f2] at h; cases h
    · rw [f2]
      show j = nx
      omega
  rcases hyt with ⟨y1, y2, y3⟩ | ⟨y1, y2⟩
  · subst y2
    subst y3
    have hB2 : s.drop (k + 1) = B := by rw [← hB, List.take_of_length_le (by rw [List.length_drop]; omega)]
    refine Fn_of_aw (keep := []) Tryz.func77 rfl rfl (by simp [Tryz.ntmps77]) ?_
    simp only [num_cons, num_nil, Tryz.ntmps77, Tryz.results77]
    repeat' (first
 | ((with_reducible apply awO_ev); (· rfl); (· exact sv))
 | ((with_reducible apply aw_seq); intro _ _)
 | (with_reducible apply aw_region)
 | (with_reducible apply aw_block)
 | ((with_reducible first | apply awO_nil | apply aw_exit | apply aw_skip | apply aw_ret); (try simp only [CT, ↓reduceIte, Nat.reduceEqDiff]))
 | (refine Kont.go ‹Kont _ _ _ _› _ ?_)
 | ((with_reducible apply awO_c); (· rfl); (· rfl); (· exact sv); (· (first | exact c1a _ (by omega) | exact c1b _ (by omega) | (rw [hA]; exact c20 _ (by omega)) | exact c20 _ (by omega))); (· rfl); (· rfl); (· rfl); (· decide))
 | ((first | ((with_reducible apply awO_guardN); (· rfl); (· rfl); (· exact sv); (· exact nB)) | ((with_reducible apply aw_condN); (· exact sv))); (· exact pN); (· exact pN); all_goals (intro hg; try (exfalso; omega))))
    all_goals
      simp only [hA, hB2]
      refine aw_loopF (fun x : List UInt8 × Nat × Int => [(17, ai x.2.2), (18, az x.1), (19, ai (x.2.1 : Nat))]) (fun _ => []) (fun x => x.2.1 ≤ t.length ∧ x.1.length ≤ x.2.1 * 4097 ∧ ((x.2.2 < 0 ∧ R = x.1 ++ t.drop x.2.1) ∨ (∃ q : Nat, x.2.2 = ((x.2.1 + q : Nat) : Int) ∧ ixN A (t.drop x.2.1) = some q ∧ R = x.1 ++ ((t.drop x.2.1).take q ++ B ++ rpR A B t all (x.2.1 + q + A.length))))) (fun x => t.length - x.2.1) ([], 0, (q0 : Int)) ⟨Nat.zero_le _, Nat.zero_le _, .inr ⟨q0, by simp only; omega, by simp only [List.drop_zero]; exact hq0, by simp only [List.drop_zero, Nat.zero_add, List.nil_append]; exact hR⟩⟩ ?_ ?_ ?_
      · exact ⟨rfl, rfl, rfl, trivial⟩
      · exact trivial
      rintro ⟨o, f, x⟩ ⟨hf, hol, hI⟩
      simp only at hf hol hI
      (simp only [LP, List.append_assoc, List.nil_append, List.cons_append, List.append_nil, List.contains_cons, List.contains_nil, Nat.reduceBEq, Bool.or_false, Bool.or_true, Bool.true_or, Bool.false_or, ↓reduceIte, Bool.false_eq_true])
      rcases hI with ⟨hx0, hI⟩ | ⟨q, hxq, hq, hI⟩
      · have hnx : ¬ 0 ≤ x := by omega
        rcases hfin with ⟨f1, f2⟩ | ⟨f1, f2⟩
        · have f3 := f1
          rw [hI] at f3
          repeat' (first
 | ((with_reducible apply awO_ev); (· rfl); (· exact sv))
 | ((with_reducible apply aw_seq); intro _ _)
 | (with_reducible apply aw_region)
 | ((with_reducible first | apply awO_nil | apply aw_exit | apply aw_skip | apply aw_ret); (try simp only [CT, ↓reduceIte, Nat.reduceEqDiff]))
 | (refine Kont.go ‹Kont _ _ _ _› _ ?_)
 | ((first | ((with_reducible apply awO_guardN); (· rfl); (· rfl); (· exact sv); (· exact nB)) | ((with_reducible apply aw_condN); (· exact sv))); (· exact pN); (· exact pN); all_goals (intro hg; try (exfalso; omega)))
 | ((with_reducible apply retQ_mk); (· exact rI); (· exact sv); (· exact sv); rotate_left; (· rfl)))
          all_goals (rw [f2]; exact tp3 rfl (by omega) rfl)
        · have f3 := f1
          rw [hI] at f3
          repeat' (first
 | ((with_reducible apply awO_ev); (· rfl); (· exact sv))
 | ((with_reducible apply aw_seq); intro _ _)
 | (with_reducible apply aw_region)
 | ((with_reducible first | apply awO_nil | apply aw_exit | apply aw_skip | apply aw_ret); (try simp only [CT, ↓reduceIte, Nat.reduceEqDiff]))
 | (refine Kont.go ‹Kont _ _ _ _› _ ?_)
 | ((first | ((with_reducible apply awO_guardN); (· rfl); (· rfl); (· exact sv); (· exact nB)) | ((with_reducible apply aw_condN); (· exact sv))); (· exact pN); (· exact pN); all_goals (intro hg; try (exfalso; omega)))
 | ((with_reducible apply retQ_mk); (· exact rI); (· exact sv); (· exact sv); rotate_left; (· rfl)))
          all_goals (rw [f2, hI]; exact tp3 rfl (by omega) rfl)
      · subst hxq
        have b3 := (ixN_some hq).1
        rw [List.length_drop] at b3
        have eq : f + q - f = q := by omega
        have c2f := fun (z : Int) (hz : z = ((f + q + A.length : Nat) : Int)) => c2 (f + q + A.length) z hz (by omega)
        cases all with
        | true =>
          repeat' (first
 | ((with_reducible apply awO_ev); (· rfl); (· exact sv))
 | ((with_reducible apply aw_seq); intro _ _)
 | (with_reducible apply aw_region)
 | (with_reducible apply aw_block)
 | ((with_reducible first | apply awO_nil | apply aw_exit | apply aw_skip | apply aw_ret); (try simp only [CT, ↓reduceIte, Nat.reduceEqDiff]))
 | ((with_reducible apply aw_cond_false); (· exact sv))
 | (refine Kont.go ‹Kont _ _ _ _› _ ?_)
 | ((with_reducible apply awO_c); (· rfl); (· rfl); (· exact sv); (· (first | (rw [hA]; exact c2f _ (by omega)) | exact c2f _ (by omega))); (· rfl); (· rfl); (· rfl); (· decide))
 | ((first | ((with_reducible apply awO_guardN); (· rfl); (· rfl); (· exact sv); (· exact nB)) | ((with_reducible apply aw_condN); (· exact sv))); (· exact pN); (· exact pN); all_goals (intro hg; try (exfalso; omega))))
          all_goals
            refine LE_mk (o ++ (t.drop f).take (f + q - f) ++ B, f + q + A.length, ixS A t (f + q + A.length)) ⟨by simp only; omega, by simp only [List.length_append, List.length_take, List.length_drop]; omega, ?_⟩ (by simp only; omega) sN sN sN
            simp only
            rcases hq2 : ixN A (t.drop (f + q + A.length)) with _ | q2
            · refine .inl ⟨by unfold ixS; rw [hq2]; exact (by decide : (-1 : Int) < 0), ?_⟩
              rw [eq, hI, rpR_none (by omega) hq2]
              simp only [List.append_assoc]
            · refine .inr ⟨q2, by unfold ixS; rw [hq2], rfl, ?_⟩
              rw [eq, hI, rpR_some hAn (by omega) hq2]
              simp only [List.append_assoc]
        | false =>
          repeat' (first
 | ((with_reducible apply awO_ev); (· rfl); (· exact sv))
 | ((with_reducible apply aw_seq); intro _ _)
 | (with_reducible apply aw_region)
 | (with_reducible apply aw_block)
 | ((with_reducible first | apply awO_nil | apply aw_exit | apply aw_skip | apply aw_ret); (try simp only [CT, ↓reduceIte, Nat.reduceEqDiff]))
 | ((with_reducible apply aw_cond_true); (· exact sv))
 | (refine Kont.go ‹Kont _ _ _ _› _ ?_)
 | ((with_reducible apply awO_c); (· rfl); (· rfl); (· exact sv); (· (first | (rw [hA]; exact c2f _ (by omega)) | exact c2f _ (by omega))); (· rfl); (· rfl); (· rfl); (· decide))
 | ((first | ((with_reducible apply awO_guardN); (· rfl); (· rfl); (· exact sv); (· exact nB)) | ((with_reducible apply aw_condN); (· exact sv))); (· exact pN); (· exact pN); all_goals (intro hg; try (exfalso; omega))))
          all_goals
            refine LE_mk (o ++ (t.drop f).take (f + q - f) ++ B, f + q + A.length, -1) ⟨by simp only; omega, by simp only [List.length_append, List.length_take, List.length_drop]; omega, .inl ⟨(by decide : (-1 : Int) < 0), ?_⟩⟩ (by simp only; omega) sN sN sN
            simp only
            rw [eq, hI]
            unfold rpR
            rw [if_neg (by decide)]
            simp only [List.append_assoc]
  · subst y1
    subst y2
    refine Fn_of_aw (keep := []) Tryz.func77 rfl rfl (by simp [Tryz.ntmps77]) ?_
    simp only [num_cons, num_nil, Tryz.ntmps77, Tryz.results77]
    repeat' (first
 | ((with_reducible apply awO_ev); (· rfl); (· exact sv))
 | ((with_reducible apply aw_seq); intro _ _)
 | (with_reducible apply aw_region)
 | (with_reducible apply aw_block)
 | ((with_reducible first | apply awO_nil | apply aw_exit | apply aw_skip | apply aw_ret); (try simp only [CT, ↓reduceIte, Nat.reduceEqDiff]))
 | (refine Kont.go ‹Kont _ _ _ _› _ ?_)
 | ((with_reducible apply awO_c); (· rfl); (· rfl); (· exact sv); (· (first | exact c1a _ (by omega) | exact c1b _ (by omega) | (rw [hA]; exact c20 _ (by omega)) | exact c20 _ (by omega))); (· rfl); (· rfl); (· rfl); (· decide))
 | ((first | ((with_reducible apply awO_guardN); (· rfl); (· rfl); (· exact sv); (· exact nB)) | ((with_reducible apply aw_condN); (· exact sv))); (· exact pN); (· exact pN); all_goals (intro hg; try (exfalso; omega))))
    all_goals
      simp only [hA, hB]
      refine aw_loopF (fun x : List UInt8 × Nat × Int => [(17, ai x.2.2), (18, az x.1), (19, ai (x.2.1 : Nat))]) (fun _ => []) (fun x => x.2.1 ≤ t.length ∧ x.1.length ≤ x.2.1 * 4097 ∧ ((x.2.2 < 0 ∧ R = x.1 ++ t.drop x.2.1) ∨ (∃ q : Nat, x.2.2 = ((x.2.1 + q : Nat) : Int) ∧ ixN A (t.drop x.2.1) = some q ∧ R = x.1 ++ ((t.drop x.2.1).take q ++ B ++ rpR A B t all (x.2.1 + q + A.length))))) (fun x => t.length - x.2.1) ([], 0, (q0 : Int)) ⟨Nat.zero_le _, Nat.zero_le _, .inr ⟨q0, by simp only; omega, by simp only [List.drop_zero]; exact hq0, by simp only [List.drop_zero, Nat.zero_add, List.nil_append]; exact hR⟩⟩ ?_ ?_ ?_
      · exact ⟨rfl, rfl, rfl, trivial⟩
      · exact trivial
      rintro ⟨o, f, x⟩ ⟨hf, hol, hI⟩
      simp only at hf hol hI
      (simp only [LP, List.append_assoc, List.nil_append, List.cons_append, List.append_nil, List.contains_cons, List.contains_nil, Nat.reduceBEq, Bool.or_false, Bool.or_true, Bool.true_or, Bool.false_or, ↓reduceIte, Bool.false_eq_true])
      rcases hI with ⟨hx0, hI⟩ | ⟨q, hxq, hq, hI⟩
      · have hnx : ¬ 0 ≤ x := by omega
        rcases hfin with ⟨f1, f2⟩ | ⟨f1, f2⟩
        · have f3 := f1
          rw [hI] at f3
          repeat' (first
 | ((with_reducible apply awO_ev); (· rfl); (· exact sv))
 | ((with_reducible apply aw_seq); intro _ _)
 | (with_reducible apply aw_region)
 | ((with_reducible first | apply awO_nil | apply aw_exit | apply aw_skip | apply aw_ret); (try simp only [CT, ↓reduceIte, Nat.reduceEqDiff]))
 | (refine Kont.go ‹Kont _ _ _ _› _ ?_)
 | ((first | ((with_reducible apply awO_guardN); (· rfl); (· rfl); (· exact sv); (· exact nB)) | ((with_reducible apply aw_condN); (· exact sv))); (· exact pN); (· exact pN); all_goals (intro hg; try (exfalso; omega)))
 | ((with_reducible apply retQ_mk); (· exact rI); (· exact sv); (· exact sv); rotate_left; (· rfl)))
          all_goals (rw [f2]; exact tp3 rfl (by omega) rfl)
        · have f3 := f1
          rw [hI] at f3
          repeat' (first
 | ((with_reducible apply awO_ev); (· rfl); (· exact sv))
 | ((with_reducible apply aw_seq); intro _ _)
 | (with_reducible apply aw_region)
 | ((with_reducible first | apply awO_nil | apply aw_exit | apply aw_skip | apply aw_ret); (try simp only [CT, ↓reduceIte, Nat.reduceEqDiff]))
 | (refine Kont.go ‹Kont _ _ _ _› _ ?_)
 | ((first | ((with_reducible apply awO_guardN); (· rfl); (· rfl); (· exact sv); (· exact nB)) | ((with_reducible apply aw_condN); (· exact sv))); (· exact pN); (· exact pN); all_goals (intro hg; try (exfalso; omega)))
 | ((with_reducible apply retQ_mk); (· exact rI); (· exact sv); (· exact sv); rotate_left; (· rfl)))
          all_goals (rw [f2, hI]; exact tp3 rfl (by omega) rfl)
      · subst hxq
        have b3 := (ixN_some hq).1
        rw [List.length_drop] at b3
        have eq : f + q - f = q := by omega
        have c2f := fun (z : Int) (hz : z = ((f + q + A.length : Nat) : Int)) => c2 (f + q + A.length) z hz (by omega)
        cases all with
        | true =>
          repeat' (first
 | ((with_reducible apply awO_ev); (· rfl); (· exact sv))
 | ((with_reducible apply aw_seq); intro _ _)
 | (with_reducible apply aw_region)
 | (with_reducible apply aw_block)
 | ((with_reducible first | apply awO_nil | apply aw_exit | apply aw_skip | apply aw_ret); (try simp only [CT, ↓reduceIte, Nat.reduceEqDiff]))
 | ((with_reducible apply aw_cond_false); (· exact sv))
 | (refine Kont.go ‹Kont _ _ _ _› _ ?_)
 | ((with_reducible apply awO_c); (· rfl); (· rfl); (· exact sv); (· (first | (rw [hA]; exact c2f _ (by omega)) | exact c2f _ (by omega))); (· rfl); (· rfl); (· rfl); (· decide))
 | ((first | ((with_reducible apply awO_guardN); (· rfl); (· rfl); (· exact sv); (· exact nB)) | ((with_reducible apply aw_condN); (· exact sv))); (· exact pN); (· exact pN); all_goals (intro hg; try (exfalso; omega))))
          all_goals
            refine LE_mk (o ++ (t.drop f).take (f + q - f) ++ B, f + q + A.length, ixS A t (f + q + A.length)) ⟨by simp only; omega, by simp only [List.length_append, List.length_take, List.length_drop]; omega, ?_⟩ (by simp only; omega) sN sN sN
            simp only
            rcases hq2 : ixN A (t.drop (f + q + A.length)) with _ | q2
            · refine .inl ⟨by unfold ixS; rw [hq2]; exact (by decide : (-1 : Int) < 0), ?_⟩
              rw [eq, hI, rpR_none (by omega) hq2]
              simp only [List.append_assoc]
            · refine .inr ⟨q2, by unfold ixS; rw [hq2], rfl, ?_⟩
              rw [eq, hI, rpR_some hAn (by omega) hq2]
              simp only [List.append_assoc]
        | false =>
          repeat' (first
 | ((with_reducible apply awO_ev); (· rfl); (· exact sv))
 | ((with_reducible apply aw_seq); intro _ _)
 | (with_reducible apply aw_region)
 | (with_reducible apply aw_block)
 | ((with_reducible first | apply awO_nil | apply aw_exit | apply aw_skip | apply aw_ret); (try simp only [CT, ↓reduceIte, Nat.reduceEqDiff]))
 | ((with_reducible apply aw_cond_true); (· exact sv))
 | (refine Kont.go ‹Kont _ _ _ _› _ ?_)
 | ((with_reducible apply awO_c); (· rfl); (· rfl); (· exact sv); (· (first | (rw [hA]; exact c2f _ (by omega)) | exact c2f _ (by omega))); (· rfl); (· rfl); (· rfl); (· decide))
 | ((first | ((with_reducible apply awO_guardN); (· rfl); (· rfl); (· exact sv); (· exact nB)) | ((with_reducible apply aw_condN); (· exact sv))); (· exact pN); (· exact pN); all_goals (intro hg; try (exfalso; omega))))
          all_goals
            refine LE_mk (o ++ (t.drop f).take (f + q - f) ++ B, f + q + A.length, -1) ⟨by simp only; omega, by simp only [List.length_append, List.length_take, List.length_drop]; omega, .inl ⟨(by decide : (-1 : Int) < 0), ?_⟩⟩ (by simp only; omega) sN sN sN
            simp only
            rw [eq, hI]
            unfold rpR
            rw [if_neg (by decide)]
            simp only [List.append_assoc]
end Go.Proofs.YtgbhjlkenfmadaaGreatDoor
