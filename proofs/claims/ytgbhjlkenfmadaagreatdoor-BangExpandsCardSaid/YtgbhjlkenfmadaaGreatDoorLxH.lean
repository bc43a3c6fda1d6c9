/- The lexer's Next and All, on the abstract machine. -/
import Derived.Test.YtgbhjlkenfmadaaGreatDoorLxG
namespace Go.Proofs.YtgbhjlkenfmadaaGreatDoor
open Go.RowKit
set_option linter.unusedVariables false
set_option linter.unusedSimpArgs false
set_option maxRecDepth 100000
set_option maxHeartbeats 8000000
def opK (l : List UInt8) : Nat → Nat
  | 0 => 0
  | k + 1 => if operB (l.take (k + 1)) = true then k + 1 else opK l k
def opN (l : List UInt8) : Nat := opK l (min 3 l.length)
theorem opK_le (l : List UInt8) : ∀ k, opK l k ≤ k
  | 0 => Nat.le_refl _
  | k + 1 => by simp only [opK]; have := opK_le l k; split <;> omega
def wrd (l : List UInt8) (o : Nat) : Nat × Int :=
  match l with
  | [] => (o, 0)
  | c :: r => if divB c = true then (o, 0) else
    if (pas (c :: r) 0).2 ≠ 0 then (o + (pas (c :: r) 0).1, (pas (c :: r) 0).2) else
    if (pas (c :: r) 0).1 = 0 then (0, 0) else wrd (r.drop ((pas (c :: r) 0).1 - 1)) (o + (pas (c :: r) 0).1)
termination_by l.length
decreasing_by simp only [List.length_drop, List.length_cons]; omega
theorem wrd_ok : ∀ (n : Nat) (l : List UInt8) (o : Nat), l.length ≤ n → o ≤ (wrd l o).1 ∧ (wrd l o).1 ≤ o + l.length ∧ 0 ≤ (wrd l o).2 ∧ (wrd l o).2 ≤ 7 := by
  intro n
  induction n with
  | zero =>
    intro l o hl
    obtain rfl : l = [] := List.eq_nil_of_length_eq_zero (by omega)
    simp [wrd]
  | succ n ih =>
    intro l o hl
    cases l with
    | nil => simp [wrd]
    | cons c r =>
      have hp := pas_ok (l := c :: r) 0 (by simp)
      obtain ⟨k1, k2, k3, k4⟩ := hp
      simp only [List.length_cons] at hl k1 ⊢
      rw [wrd]
      split
      · exact ⟨by simp, by simp, by simp, by simp⟩
      split
      · exact ⟨by simp, by simp only; omega, k3, k4⟩
      · next h =>
        have h0 := k2 (by simpa using h)
        rw [if_neg (by omega)]
        have := ih (r.drop ((pas (c :: r) 0).1 - 1)) (o + (pas (c :: r) 0).1) (by simp only [List.length_drop]; omega)
        simp only [List.length_drop] at this
        exact ⟨by omega, by omega, this.2.2.1, this.2.2.2⟩
/-- Whether a redirection begins here. -/
def redB : List UInt8 → Bool
  | [] => false
  | c :: _ => decide (c.toNat = 60 ∨ c.toNat = 62)
def nxt (s : List UInt8) (a : Nat) : Tok × Int :=
  match s.drop a with
  | [] => (⟨5, a, a, []⟩, 0)
  | c :: r =>
    if c.toNat = 10 then (⟨3, a, a + 1, [c]⟩, 0)
    else if 0 < opN (c :: r) then (⟨2, a, a + opN (c :: r), (c :: r).take (opN (c :: r))⟩, 0)
    else if (wrd (c :: r) 0).2 ≠ 0 then (⟨0, a + (wrd (c :: r) 0).1, 0, []⟩, (wrd (c :: r) 0).2)
    else (⟨if redB ((c :: r).drop (wrd (c :: r) 0).1) = true ∧ ((c :: r).take (wrd (c :: r) 0).1).all digitB = true then 4 else 1, a, a + (wrd (c :: r) 0).1, (c :: r).take (wrd (c :: r) 0).1⟩, 0)
def nextF (s : List UInt8) (z : Int) : Tok × Int := if 16384 < s.length then (⟨0, 0, 0, []⟩, 3) else nxt s (skp s z)
abbrev nxA (p : Tok × Int) : AV := .tp [tokA p.1, ai p.2]
theorem nxt_end {s : List UInt8} {a : Nat} (h : s.length ≤ a) : nxt s a = (⟨5, a, a, []⟩, 0) := by unfold nxt; rw [List.drop_eq_nil_of_le h]
theorem nxt_nl {s : List UInt8} {a : Nat} (h : a < s.length) (h10 : s[a].toNat = 10) : nxt s a = (⟨3, a, a + 1, [s[a]]⟩, 0) := by unfold nxt; rw [dropc h]; simp only; rw [if_pos h10]
theorem nxt_op {s : List UInt8} {a k : Nat} (h : a < s.length) (h10 : ¬ s[a].toNat = 10) (ho : opN (s.drop a) = k + 1) : nxt s a = (⟨2, a, a + (k + 1), (s.drop a).take (k + 1)⟩, 0) := by
  unfold nxt; rw [dropc h] at ho ⊢; simp only; rw [if_neg h10, ho, if_pos (by omega)]
theorem nxt_err {s : List UInt8} {a w : Nat} {e : Int} (h : a < s.length) (h10 : ¬ s[a].toNat = 10) (ho : opN (s.drop a) = 0) (hw : wrd (s.drop a) 0 = (w, e)) (he : ¬ e = 0) : nxt s a = (⟨0, a + w, 0, []⟩, e) := by
  unfold nxt; rw [dropc h] at ho hw ⊢; simp only; rw [if_neg h10, ho, if_neg (by omega), hw, if_pos he]
theorem nxt_word {s : List UInt8} {a w : Nat} (h : a < s.length) (h10 : ¬ s[a].toNat = 10) (ho : opN (s.drop a) = 0) (hw : wrd (s.drop a) 0 = (w, 0)) :
    nxt s a = (⟨if redB (s.drop (a + w)) = true ∧ ((s.drop a).take w).all digitB = true then 4 else 1, a, a + w, (s.drop a).take w⟩, 0) := by
  rw [← List.drop_drop]; unfold nxt; rw [dropc h] at ho hw ⊢; simp only; rw [if_neg h10, ho, if_neg (by omega), hw, if_neg (by simp)]
theorem next_ab (s : List UInt8) (z : Int) (hs : s.length ≤ 1000000) : Ab Tryz.prog 29 [az s, ai z] (nxA (nextF s z)) := by
  unfold nextF
  by_cases h1 : 16384 < s.length
  · rw [if_pos h1]
    refine Fn_of_aw (keep := []) Tryz.func29 rfl rfl (by simp [Tryz.ntmps29]) ?_
    simp only [num_cons, num_nil, Tryz.ntmps29, Tryz.results29]
    repeat' (first
 | ((with_reducible apply awO_ev); (· rfl); (· exact sv))
 | ((with_reducible apply aw_seq); intro _ _)
 | (with_reducible apply aw_region)
 | ((with_reducible first | apply awO_nil | apply aw_exit | apply aw_skip | apply aw_ret); (try simp only [CT, ↓reduceIte, Nat.reduceEqDiff]))
 | (refine Kont.go ‹Kont _ _ _ _› _ ?_)
 | ((first | ((with_reducible apply awO_guardN); (· rfl); (· rfl); (· exact sv); (· exact nB)) | ((with_reducible apply aw_condN); (· exact sv))); (· exact pN); (· exact pN); all_goals (intro hg; try (exfalso; omega)))
 | ((with_reducible apply retQ_mk); (· exact rI); (· exact sv); (· exact sv); rotate_left; (· rfl)))
    all_goals rfl
  rw [if_neg h1]
  have c0 := skip_ab s z hs
  have hle := skp_le s z
  generalize skp s z = a at *
  by_cases hal : a < s.length
  · by_cases h10 : s[a].toNat = 10
    · rw [nxt_nl hal h10]
      have c1 := token_ab s 3 a (a + 1) a (a + 1) rfl (by omega) (by omega) (by omega) hs
      rw [dropc hal, show a + 1 - a = 1 from by omega] at c1
      refine Fn_of_aw (keep := []) Tryz.func29 rfl rfl (by simp [Tryz.ntmps29]) ?_
      simp only [num_cons, num_nil, Tryz.ntmps29, Tryz.results29]
      repeat' (first
 | ((with_reducible apply awO_ev); (· rfl); (· exact sv))
 | ((with_reducible apply aw_seq); intro _ _)
 | (with_reducible apply aw_region)
 | ((with_reducible first | apply awO_nil | apply aw_exit | apply aw_skip | apply aw_ret); (try simp only [CT, ↓reduceIte, Nat.reduceEqDiff]))
 | (refine Kont.go ‹Kont _ _ _ _› _ ?_)
 | ((with_reducible apply awO_c); (· rfl); (· rfl); (· exact sv); (· (first | with_reducible exact c0 | with_reducible exact c1)); (· rfl); (· rfl); (· rfl); (· decide))
 | ((first | ((with_reducible apply awO_guardN); (· rfl); (· rfl); (· exact sv); (· exact nB)) | ((with_reducible apply aw_condN); (· exact sv))); (· exact pN); (· exact pN); all_goals (intro hg; try (exfalso; omega)))
 | ((with_reducible apply retQ_mk); (· exact rI); (· exact sv); (· exact sv); rotate_left; (· rfl)))
      all_goals rfl
    have hop : opN (s.drop a) = opK (s.drop a) (min 3 (s.length - a)) := by unfold opN; rw [List.length_drop]
    generalize hr : nxt s a = R
    refine Fn_of_aw (keep := []) Tryz.func29 rfl rfl (by simp [Tryz.ntmps29]) ?_
    simp only [num_cons, num_nil, Tryz.ntmps29, Tryz.results29]
    repeat' (first
 | ((with_reducible apply awO_ev); (· rfl); (· exact sv))
 | ((with_reducible apply aw_seq); intro _ _)
 | (with_reducible apply aw_region)
 | (with_reducible apply aw_block)
 | ((with_reducible first | apply awO_nil | apply aw_exit | apply aw_skip | apply aw_ret); (try simp only [CT, ↓reduceIte, Nat.reduceEqDiff]))
 | (refine Kont.go ‹Kont _ _ _ _› _ ?_)
 | ((with_reducible apply awO_c); (· rfl); (· rfl); (· exact sv); (· (first | with_reducible exact c0)); (· rfl); (· rfl); (· rfl); (· decide))
 | ((first | ((with_reducible apply awO_guardN); (· rfl); (· rfl); (· exact sv); (· exact nB)) | ((with_reducible apply aw_condN); (· exact sv))); (· exact pN); (· exact pN); all_goals (intro hg; try (exfalso; omega))))
    refine aw_forget [36, 37] ?_
    refine aw_st svs ?_
    refine aw_loopF (fun k : Nat => [(6, ai k)]) (fun _ => [(4, [ai 0, ai 0, ai 0, az []])]) (fun k => k ≤ 3 ∧ k ≤ s.length - a ∧ opN (s.drop a) = opK (s.drop a) k) (fun k => k) (min 3 (s.length - a)) ⟨by omega, by omega, hop⟩ ?_ ?_ ?_
    · (simp only [LP, look_cons, look_nil, and_true, true_and, ↓reduceIte, Nat.reduceEqDiff, Option.some.injEq, AV.v.injEq, Value.int.injEq, Int.natCast_add, Int.cast_ofNat_Int])
      split <;> omega
    · (simp only [LP, look_cons, look_nil, and_true, true_and, ↓reduceIte, Nat.reduceEqDiff, Option.some.injEq, AV.v.injEq, Value.int.injEq, Int.natCast_add, Int.cast_ofNat_Int])
    intro k ⟨hk3, hkl, hK⟩
    (simp only [LP, List.append_assoc, List.nil_append, List.cons_append, List.append_nil, List.contains_cons, List.contains_nil, Nat.reduceBEq, Bool.or_false, Bool.or_true, Bool.true_or, Bool.false_or, ↓reduceIte, Bool.false_eq_true])
    cases k with
    | succ k =>
      simp only [opK] at hK
      have e1 : a + (k + 1) - a = k + 1 := by omega
      have c1 := oper_ab (List.take (a + (k + 1) - a) (List.drop a s))
      rw [congrArg (fun x => operB (List.take x (List.drop a s))) e1] at c1
      by_cases ho : operB ((s.drop a).take (k + 1)) = true
      · rw [if_pos ho] at hK
        rw [ho] at c1
        have c2 := token_ab s 2 a (a + (k + 1)) a (a + ((k + 1 : Nat) : Int)) rfl (by omega) (by omega) (by omega) hs
        rw [show a + (k + 1) - a = k + 1 from by omega] at c2
        repeat' (first
 | ((with_reducible apply awO_ev); (· rfl); (· exact sv))
 | ((with_reducible apply aw_seq); intro _ _)
 | (with_reducible apply aw_region)
 | (with_reducible apply aw_block)
 | ((with_reducible first | apply awO_nil | apply aw_exit | apply aw_skip | apply aw_ret); (try simp only [CT, ↓reduceIte, Nat.reduceEqDiff]))
 | ((with_reducible apply aw_cond_true); (· exact sv))
 | (refine Kont.go ‹Kont _ _ _ _› _ ?_)
 | ((with_reducible apply awO_c); (· rfl); (· rfl); (· exact sv); (· (first | with_reducible exact c1 | with_reducible exact c2)); (· rfl); (· rfl); (· rfl); (· decide))
 | ((first | ((with_reducible apply awO_guardN); (· rfl); (· rfl); (· exact sv); (· exact nB)) | ((with_reducible apply aw_condN); (· exact sv))); (· exact pN); (· exact pN); all_goals (intro hg; try (exfalso; omega)))
 | ((with_reducible apply retQ_mk); (· exact rI); (· exact sv); (· exact sv); rotate_left; (· rfl)))
        all_goals (rw [← hr, nxt_op hal h10 hK]; done)
      · rw [if_neg ho] at hK
        have ho' : operB ((s.drop a).take (k + 1)) = false := by simpa using ho
        rw [ho'] at c1
        repeat' (first
 | ((with_reducible apply awO_ev); (· rfl); (· exact sv))
 | ((with_reducible apply aw_seq); intro _ _)
 | (with_reducible apply aw_region)
 | (with_reducible apply aw_block)
 | ((with_reducible first | apply awO_nil | apply aw_exit | apply aw_skip | apply aw_ret); (try simp only [CT, ↓reduceIte, Nat.reduceEqDiff]))
 | ((with_reducible apply aw_cond_false); (· exact sv))
 | (refine Kont.go ‹Kont _ _ _ _› _ ?_)
 | ((with_reducible apply awO_c); (· rfl); (· rfl); (· exact sv); (· (first | with_reducible exact c1)); (· rfl); (· rfl); (· rfl); (· decide))
 | ((first | ((with_reducible apply awO_guardN); (· rfl); (· rfl); (· exact sv); (· exact nB)) | ((with_reducible apply aw_condN); (· exact sv))); (· exact pN); (· exact pN); all_goals (intro hg; try (exfalso; omega))))
        refine LE_mk (k) ?_ ?_ sN sN sN
        · exact ⟨by omega, by omega, hK⟩
        · omega
    | zero =>
      simp only [opK] at hK
      have hwo := wrd_ok _ (s.drop a) 0 (Nat.le_refl _)
      rw [List.length_drop] at hwo
      repeat' (first
 | ((with_reducible apply awO_ev); (· rfl); (· exact sv))
 | ((with_reducible apply aw_seq); intro _ _)
 | (with_reducible apply aw_region)
 | (with_reducible apply aw_block)
 | ((with_reducible first | apply awO_nil | apply aw_exit | apply aw_skip | apply aw_ret); (try simp only [CT, ↓reduceIte, Nat.reduceEqDiff]))
 | ((with_reducible apply aw_cond_false); (· exact sv))
 | (refine Kont.go ‹Kont _ _ _ _› _ ?_))
      refine aw_loopF (fun i : Nat => [(7, ai i)]) (fun _ => [(4, [ai 0, ai 0, ai 0, az []])]) (fun i => a ≤ i ∧ i ≤ s.length ∧ wrd (s.drop a) 0 = wrd (s.drop i) (i - a)) (fun i => s.length - i) a ⟨by omega, by omega, by rw [Nat.sub_self]⟩ ?_ ?_ ?_
      · (simp only [LP, look_cons, look_nil, and_true, true_and, ↓reduceIte, Nat.reduceEqDiff, Option.some.injEq, AV.v.injEq, Value.int.injEq, Int.natCast_add, Int.cast_ofNat_Int])
      · (simp only [LP, look_cons, look_nil, and_true, true_and, ↓reduceIte, Nat.reduceEqDiff, Option.some.injEq, AV.v.injEq, Value.int.injEq, Int.natCast_add, Int.cast_ofNat_Int])
      intro i ⟨hi0, hi, hI⟩
      (simp only [LP, List.append_assoc, List.nil_append, List.cons_append, List.append_nil, List.contains_cons, List.contains_nil, Nat.reduceBEq, Bool.or_false, Bool.or_true, Bool.true_or, Bool.false_or, ↓reduceIte, Bool.false_eq_true])
      by_cases hil : i < s.length
      · have c1 := divides_ab s[i]
        have c2 := begins_ab s i i rfl hil hs
        by_cases hdv : divB s[i] = true
        · rw [dropc hil, wrd, if_pos hdv] at hI
          have hw := nxt_word hal h10 hK hI
          rw [show a + (i - a) = i from by omega] at hw
          rw [hdv] at c1
          have c3 := number_ab (List.take (i - a) (List.drop a s)) (by simp; omega)
          have c4 := fun k => token_ab s k a i a i rfl rfl (by omega) (by omega) hs
          have hred : redB (s.drop i) = decide (s[i].toNat = 60 ∨ s[i].toNat = 62) := by rw [dropc hil]; rfl
          rw [hred] at hw
          by_cases hre : s[i].toNat = 60 ∨ s[i].toNat = 62
          · rw [decide_eq_true hre] at hw
            cases hnum : ((s.drop a).take (i - a)).all digitB with
            | true =>
              rw [hnum] at c3
              rw [hnum, if_pos ⟨rfl, rfl⟩] at hw
              repeat' (first
 | ((with_reducible apply awO_ev); (· rfl); (· exact sv))
 | ((with_reducible apply aw_seq); intro _ _)
 | (with_reducible apply aw_region)
 | ((with_reducible first | apply awO_nil | apply aw_exit | apply aw_skip | apply aw_ret); (try simp only [CT, ↓reduceIte, Nat.reduceEqDiff]))
 | ((with_reducible apply awO_y); (· rfl); (· rfl); (· decide); (· exact sv); (· exact sv))
 | ((with_reducible apply awO_n); (· rfl); (· rfl); (· decide); (· exact sv); (· rfl); (· rfl); (· decide))
 | ((with_reducible apply aw_cond_true); (· exact sv))
 | ((with_reducible apply aw_cond_false); (· exact sv))
 | ((with_reducible apply awO_un); (· rfl); (· decide); (· exact sv))
 | (refine Kont.go ‹Kont _ _ _ _› _ ?_)
 | ((with_reducible apply awO_c); (· rfl); (· rfl); (· exact sv); (· (first | with_reducible exact c1 | with_reducible exact c3 | exact c4 _)); (· rfl); (· rfl); (· rfl); (· decide))
 | ((first | ((with_reducible apply awO_guardN); (· rfl); (· rfl); (· exact sv); (· exact nB)) | ((with_reducible apply aw_condN); (· exact sv))); (· exact pN); (· exact pN); all_goals (intro hg; try (exfalso; omega)))
 | ((with_reducible apply retQ_mk); (· exact rI); (· exact sv); (· exact sv); rotate_left; (· rfl)))
              all_goals (rw [← hr, hw]; done)
            | false =>
              rw [hnum] at c3
              rw [hnum, if_neg (by simp)] at hw
              repeat' (first
 | ((with_reducible apply awO_ev); (· rfl); (· exact sv))
 | ((with_reducible apply aw_seq); intro _ _)
 | (with_reducible apply aw_region)
 | ((with_reducible first | apply awO_nil | apply aw_exit | apply aw_skip | apply aw_ret); (try simp only [CT, ↓reduceIte, Nat.reduceEqDiff]))
 | ((with_reducible apply awO_y); (· rfl); (· rfl); (· decide); (· exact sv); (· exact sv))
 | ((with_reducible apply awO_n); (· rfl); (· rfl); (· decide); (· exact sv); (· rfl); (· rfl); (· decide))
 | ((with_reducible apply aw_cond_false); (· exact sv))
 | ((with_reducible apply awO_un); (· rfl); (· decide); (· exact sv))
 | (refine Kont.go ‹Kont _ _ _ _› _ ?_)
 | ((with_reducible apply awO_c); (· rfl); (· rfl); (· exact sv); (· (first | with_reducible exact c1 | with_reducible exact c3 | exact c4 _)); (· rfl); (· rfl); (· rfl); (· decide))
 | ((first | ((with_reducible apply awO_guardN); (· rfl); (· rfl); (· exact sv); (· exact nB)) | ((with_reducible apply aw_condN); (· exact sv))); (· exact pN); (· exact pN); all_goals (intro hg; try (exfalso; omega)))
 | ((with_reducible apply retQ_mk); (· exact rI); (· exact sv); (· exact sv); rotate_left; (· rfl)))
              all_goals (rw [← hr, hw]; done)
          · rw [decide_eq_false hre, if_neg (by simp)] at hw
            repeat' (first
 | ((with_reducible apply awO_ev); (· rfl); (· exact sv))
 | ((with_reducible apply aw_seq); intro _ _)
 | (with_reducible apply aw_region)
 | ((with_reducible first | apply awO_nil | apply aw_exit | apply aw_skip | apply aw_ret); (try simp only [CT, ↓reduceIte, Nat.reduceEqDiff]))
 | ((with_reducible apply awO_y); (· rfl); (· rfl); (· decide); (· exact sv); (· exact sv))
 | ((with_reducible apply awO_n); (· rfl); (· rfl); (· decide); (· exact sv); (· rfl); (· rfl); (· decide))
 | ((with_reducible apply aw_cond_false); (· exact sv))
 | ((with_reducible apply awO_un); (· rfl); (· decide); (· exact sv))
 | (refine Kont.go ‹Kont _ _ _ _› _ ?_)
 | ((with_reducible apply awO_c); (· rfl); (· rfl); (· exact sv); (· (first | with_reducible exact c1 | exact c4 _)); (· rfl); (· rfl); (· rfl); (· decide))
 | ((first | ((with_reducible apply awO_guardN); (· rfl); (· rfl); (· exact sv); (· exact nB)) | ((with_reducible apply aw_condN); (· exact sv))); (· exact pN); (· exact pN); all_goals (intro hg; try (exfalso; omega)))
 | ((with_reducible apply retQ_mk); (· exact rI); (· exact sv); (· exact sv); rotate_left; (· rfl)))
            all_goals (rw [← hr, hw]; done)
        have hdv' : divB s[i] = false := by simpa using hdv
        rw [hdv'] at c1
        rw [dropc hil] at hI c2
        rw [wrd, if_neg hdv] at hI
        by_cases hb : begB (s[i] :: s.drop (i + 1)) = true
        · rw [hb] at c2
          have c3 := construct_ab s i i rfl hil hs (by rw [dropc hil]; exact hb)
          rw [pas_con (.inl rfl) hb] at hI
          have hok := con_ok (l := s.drop i) 0 (by rw [dropc hil]; exact hb)
          rw [dropc hil] at c3 hok
          obtain ⟨k1, k2, k3, k4⟩ := hok
          simp only [List.length_cons, List.length_drop] at k1
          generalize hp : con (s[i] :: s.drop (i + 1)) 0 = p at *
          obtain ⟨pe, pr⟩ := p
          simp only at k1 k2 k3 k4 hI
          repeat' (first
 | ((with_reducible apply awO_ev); (· rfl); (· exact sv))
 | ((with_reducible apply aw_seq); intro _ _)
 | (with_reducible apply aw_region)
 | (with_reducible apply aw_block)
 | ((with_reducible first | apply awO_nil | apply aw_exit | apply aw_skip | apply aw_ret); (try simp only [CT, ↓reduceIte, Nat.reduceEqDiff]))
 | ((with_reducible apply awO_y); (· rfl); (· rfl); (· decide); (· exact sv); (· exact sv))
 | ((with_reducible apply aw_cond_true); (· exact sv))
 | ((with_reducible apply aw_cond_false); (· exact sv))
 | ((with_reducible apply awO_un); (· rfl); (· decide); (· exact sv))
 | (refine Kont.go ‹Kont _ _ _ _› _ ?_)
 | ((with_reducible apply awO_c); (· rfl); (· rfl); (· exact sv); (· (first | with_reducible exact c1 | with_reducible exact c2 | with_reducible exact c3)); (· rfl); (· rfl); (· rfl); (· decide))
 | ((first | ((with_reducible apply awO_guardN); (· rfl); (· rfl); (· exact sv); (· exact nB)) | ((with_reducible apply aw_condN); (· exact sv))); (· exact pN); (· exact pN); all_goals (intro hg; try (exfalso; omega)))
 | ((with_reducible apply retQ_mk); (· exact rI); (· exact sv); (· exact sv); rotate_left; (· rfl)))
          · rw [if_pos hg] at hI
            rw [← hr, nxt_err hal h10 hK hI hg, show a + (i - a + pe) = i + pe from by omega]; rfl
          · refine LE_mk (i + pe) ?_ ?_ sN sN sN
            · have := k2 hg
              refine ⟨by omega, by omega, ?_⟩
              rw [hI, if_neg (by simpa using hg), if_neg (by omega), drop_pas hil (by omega)]; congr 1; omega
            · have := k2 hg; omega
        · have hb' : begB (s[i] :: s.drop (i + 1)) = false := by simpa using hb
          rw [hb'] at c2
          rw [pas_one (.inr hb')] at hI
          simp only [ne_eq, not_true_eq_false, if_false] at hI
          rw [if_neg (by decide)] at hI
          simp only [Nat.sub_self, List.drop_zero] at hI
          repeat' (first
 | ((with_reducible apply awO_ev); (· rfl); (· exact sv))
 | ((with_reducible apply aw_seq); intro _ _)
 | (with_reducible apply aw_region)
 | (with_reducible apply aw_block)
 | ((with_reducible first | apply awO_nil | apply aw_exit | apply aw_skip | apply aw_ret); (try simp only [CT, ↓reduceIte, Nat.reduceEqDiff]))
 | ((with_reducible apply awO_y); (· rfl); (· rfl); (· decide); (· exact sv); (· exact sv))
 | ((with_reducible apply aw_cond_true); (· exact sv))
 | ((with_reducible apply awO_un); (· rfl); (· decide); (· exact sv))
 | (refine Kont.go ‹Kont _ _ _ _› _ ?_)
 | ((with_reducible apply awO_c); (· rfl); (· rfl); (· exact sv); (· (first | with_reducible exact c1 | with_reducible exact c2)); (· rfl); (· rfl); (· rfl); (· decide))
 | ((first | ((with_reducible apply awO_guardN); (· rfl); (· rfl); (· exact sv); (· exact nB)) | ((with_reducible apply aw_condN); (· exact sv))); (· exact pN); (· exact pN); all_goals (intro hg; try (exfalso; omega))))
          refine LE_mk (i + 1) ?_ ?_ sN sN sN
          · refine ⟨by omega, by omega, ?_⟩
            rw [hI]; congr 1; omega
          · omega
      · have hnil := List.drop_eq_nil_of_le (by omega : s.length ≤ i)
        rw [hnil, wrd] at hI
        have hw := nxt_word hal h10 hK hI
        rw [show a + (i - a) = i from by omega, hnil, if_neg (by simp [redB])] at hw
        have c4 := fun k => token_ab s k a i a i rfl rfl (by omega) (by omega) hs
        repeat' (first
 | ((with_reducible apply awO_ev); (· rfl); (· exact sv))
 | ((with_reducible apply aw_seq); intro _ _)
 | (with_reducible apply aw_region)
 | ((with_reducible first | apply awO_nil | apply aw_exit | apply aw_skip | apply aw_ret); (try simp only [CT, ↓reduceIte, Nat.reduceEqDiff]))
 | ((with_reducible apply awO_n); (· rfl); (· rfl); (· decide); (· exact sv); (· rfl); (· rfl); (· decide))
 | ((with_reducible apply awO_u); (· rfl); (· rfl); (· exact svr); (· rfl); (· decide))
 | ((with_reducible apply aw_cond_false); (· exact sv))
 | (refine Kont.go ‹Kont _ _ _ _› _ ?_)
 | ((with_reducible apply awO_c); (· rfl); (· rfl); (· exact sv); (· (first | exact c4 _)); (· rfl); (· rfl); (· rfl); (· decide))
 | ((first | ((with_reducible apply awO_guardN); (· rfl); (· rfl); (· exact sv); (· exact nB)) | ((with_reducible apply aw_condN); (· exact sv))); (· exact pN); (· exact pN); all_goals (intro hg; try (exfalso; omega)))
 | ((with_reducible apply retQ_mk); (· exact rI); (· exact sv); (· exact sv); rotate_left; (· rfl)))
        all_goals (rw [← hr, hw]; done)
  · rw [nxt_end (by omega)]
    refine Fn_of_aw (keep := []) Tryz.func29 rfl rfl (by simp [Tryz.ntmps29]) ?_
    simp only [num_cons, num_nil, Tryz.ntmps29, Tryz.results29]
    repeat' (first
 | ((with_reducible apply awO_ev); (· rfl); (· exact sv))
 | ((with_reducible apply aw_seq); intro _ _)
 | (with_reducible apply aw_region)
 | ((with_reducible first | apply awO_nil | apply aw_exit | apply aw_skip | apply aw_ret); (try simp only [CT, ↓reduceIte, Nat.reduceEqDiff]))
 | (refine Kont.go ‹Kont _ _ _ _› _ ?_)
 | ((with_reducible apply awO_c); (· rfl); (· rfl); (· exact sv); (· (first | with_reducible exact c0)); (· rfl); (· rfl); (· rfl); (· decide))
 | ((first | ((with_reducible apply awO_guardN); (· rfl); (· rfl); (· exact sv); (· exact nB)) | ((with_reducible apply aw_condN); (· exact sv))); (· exact pN); (· exact pN); all_goals (intro hg; try (exfalso; omega)))
 | ((with_reducible apply retQ_mk); (· exact rI); (· exact sv); (· exact sv); rotate_left; (· rfl)))
    all_goals rfl
end Go.Proofs.YtgbhjlkenfmadaaGreatDoor
