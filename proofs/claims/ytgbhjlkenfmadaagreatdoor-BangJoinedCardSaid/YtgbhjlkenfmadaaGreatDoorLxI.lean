/- The lexer's All, on the abstract machine. -/
import Derived.Test.YtgbhjlkenfmadaaGreatDoorLxH
namespace Go.Proofs.YtgbhjlkenfmadaaGreatDoor
open Go.RowKit
set_option linter.unusedVariables false
set_option linter.unusedSimpArgs false
set_option maxRecDepth 100000
set_option maxHeartbeats 8000000
theorem skpN_nb : ∀ (n : Nat) (l : List UInt8), l.length ≤ n → l.drop (skpN l) = [] ∨ ∃ c r, l.drop (skpN l) = c :: r ∧ blankB c = false := by
  intro n
  induction n with
  | zero =>
    intro l hl
    obtain rfl : l = [] := List.eq_nil_of_length_eq_zero (by omega)
    exact .inl rfl
  | succ n ih =>
    intro l hl
    cases l with
    | nil => exact .inl rfl
    | cons c r =>
      simp only [List.length_cons] at hl
      rw [skpN_cons]
      split
      · simpa using ih r (by omega)
      next hb =>
      split
      · next hj =>
        have := ih (r.drop 1) (by simp; omega)
        rw [List.drop_drop, Nat.add_comm] at this
        simpa using this
      split
      · rcases comN_stop (c :: r) with h | ⟨d, t, h, h10⟩
        · exact .inl h
        · exact .inr ⟨d, t, h, by simp [blankB]; omega⟩
      · exact .inr ⟨c, r, rfl, by simpa using hb⟩
theorem opK_pos {l : List UInt8} (h : operB (l.take 1) = true) : ∀ k, 1 ≤ k → 1 ≤ opK l k
  | 0, hk => by omega
  | k + 1, _ => by
    simp only [opK]
    split
    · omega
    · next hn =>
      cases k with
      | zero => exact absurd h hn
      | succ k => exact opK_pos h (k + 1) (by omega)
theorem opB_oper {c : UInt8} (h : opB c = true) : operB [c] = true := by
  simp only [opB, decide_eq_true_eq] at h
  have e : ∀ d : UInt8, c.toNat = d.toNat → c = d := fun d hd => UInt8.toNat_inj.1 hd
  rcases h with h | h | h | h | h | h | h
  · rw [e 38 h]; decide
  · rw [e 124 h]; decide
  · rw [e 59 h]; decide
  · rw [e 40 h]; decide
  · rw [e 41 h]; decide
  · rw [e 60 h]; decide
  · rw [e 62 h]; decide
theorem divB_split (c : UInt8) : divB c = true ↔ opB c = true ∨ c.toNat = 10 ∨ blankB c = true := by
  simp only [divB, opB, blankB, decide_eq_true_eq]; omega
/-- Where a token is read, it goes on. -/
theorem nxt_pos {s : List UInt8} {z : Int} (h2 : (nextF s z).2 = 0) (h3 : ¬ (nextF s z).1.kind = 5) : skp s z < (nextF s z).1.fin ∧ (nextF s z).1.fin ≤ s.length := by
  by_cases h1 : 16384 < s.length
  · unfold nextF at h2; rw [if_pos h1] at h2; cases h2
  unfold nextF at h2 h3 ⊢
  rw [if_neg h1] at h2 h3 ⊢
  have hle := skp_le s z
  have hnb : ∀ h : skp s z < s.length, blankB s[skp s z] = false := fun h => by
    have := skpN_nb _ (s.drop (clp z s.length)) (Nat.le_refl _)
    rw [List.drop_drop] at this
    have e : clp z s.length + skpN (s.drop (clp z s.length)) = skp s z := rfl
    rw [e, dropc h] at this
    rcases this with h' | ⟨c, r, h', hb⟩
    · cases h'
    · injection h' with h' _; rw [h']; exact hb
  generalize skp s z = a at *
  rcases Nat.lt_or_ge a s.length with hal | hal
  · by_cases h10 : s[a].toNat = 10
    · rw [nxt_nl hal h10]; exact ⟨by simp, by simp only; omega⟩
    rcases hopn : opN (s.drop a) with _ | k
    · rcases hw : wrd (s.drop a) 0 with ⟨w, e⟩
      have hwo := wrd_ok _ (s.drop a) 0 (Nat.le_refl _)
      rw [List.length_drop, hw] at hwo
      simp only at hwo
      by_cases he : e = 0
      · subst he
        rw [nxt_word hal h10 hopn hw]
        refine ⟨?_, by simp only; omega⟩
        have hdv : ¬ divB s[a] = true := fun hd => by
          rcases (divB_split _).1 hd with h | h | h
          · have h' := opB_oper h
            have := opK_pos (l := s.drop a) (by rw [dropc hal]; exact h') (min 3 (s.drop a).length) (by rw [List.length_drop]; omega)
            unfold opN at hopn
            omega
          · exact h10 h
          · rw [hnb hal] at h; cases h
        rw [dropc hal, wrd, if_neg hdv] at hw
        have hp := pas_ok (l := s[a] :: s.drop (a + 1)) 0 (by rw [List.length_cons]; omega)
        obtain ⟨k1, k2, k3, k4⟩ := hp
        split at hw
        · next hne => injection hw with _ h; exact absurd h hne
        · next hne =>
          have := k2 (by simpa using hne)
          rw [if_neg (by omega)] at hw
          have h5 := wrd_ok _ (List.drop ((pas (s[a] :: List.drop (a + 1) s) 0).1 - 1) (List.drop (a + 1) s)) (0 + (pas (s[a] :: List.drop (a + 1) s) 0).1) (Nat.le_refl _)
          rw [hw] at h5
          simp only at h5 ⊢
          omega
      · rw [nxt_err hal h10 hopn hw he] at h2; exact absurd h2 he
    · rw [nxt_op hal h10 hopn]
      have := opK_le (s.drop a) (min 3 (s.drop a).length)
      unfold opN at hopn
      rw [List.length_drop] at this hopn
      exact ⟨by simp only; omega, by simp only; omega⟩
  · rw [nxt_end hal] at h3; exact absurd rfl h3
theorem nxt_err_le {s : List UInt8} {z : Int} : 0 ≤ (nextF s z).2 ∧ (nextF s z).2 ≤ 7 ∧ (nextF s z).1.pos ≤ s.length + s.length ∧ (nextF s z).1.fin ≤ s.length := by
  unfold nextF
  split
  · exact ⟨by simp, by simp, by simp, by simp⟩
  have hle := skp_le s z
  generalize skp s z = a at *
  rcases Nat.lt_or_ge a s.length with hal | hal
  · by_cases h10 : s[a].toNat = 10
    · rw [nxt_nl hal h10]; exact ⟨by simp, by simp, by simp only; omega, by simp only; omega⟩
    rcases hopn : opN (s.drop a) with _ | k
    · rcases hw : wrd (s.drop a) 0 with ⟨w, e⟩
      have hwo := wrd_ok _ (s.drop a) 0 (Nat.le_refl _)
      rw [List.length_drop, hw] at hwo
      simp only at hwo
      by_cases he : e = 0
      · subst he
        rw [nxt_word hal h10 hopn hw]
        exact ⟨by simp, by simp, by simp only; omega, by simp only; omega⟩
      · rw [nxt_err hal h10 hopn hw he]
        exact ⟨hwo.2.2.1, hwo.2.2.2, by simp only; omega, by simp⟩
    · rw [nxt_op hal h10 hopn]
      have := opK_le (s.drop a) (min 3 (s.drop a).length)
      unfold opN at hopn
      rw [List.length_drop] at this hopn
      exact ⟨by simp, by simp, by simp only; omega, by simp only; omega⟩
  · rw [nxt_end hal]
    exact ⟨by simp, by simp, by simp only; omega, by simp only; omega⟩
/-- What All answers, from a on. -/
def allT (s : List UInt8) : Nat → Nat → List Tok × Int × Int
  | 0, _ => ([], 0, 0)
  | n + 1, a => if (nextF s a).2 ≠ 0 then ([], (nextF s a).1.pos, (nextF s a).2) else if (nextF s a).1.kind = 5 then ([(nextF s a).1], 0, 0) else
    if (allT s n (nextF s a).1.fin).2.2 ≠ 0 then ([], (allT s n (nextF s a).1.fin).2) else ((nextF s a).1 :: (allT s n (nextF s a).1.fin).1, 0, 0)
def allF (s : List UInt8) : List Tok × Int × Int := allT s (s.length + 2) 0
abbrev toksA (L : List Tok) : AV := .rd L.length (L.flatMap fun t => [ai t.kind, ai (t.pos : Nat), ai (t.fin : Nat), az t.text])
/-- The tokens before, and the rest. -/
def allJ (M : List Tok) (t : List Tok × Int × Int) : List Tok × Int × Int := if t.2.2 ≠ 0 then ([], t.2) else (M ++ t.1, t.2)
def allA (t : List Tok × Int × Int) : AV := .tp [if t.2.2 = 0 then toksA t.1 else .v (.slice none 0 0), ai t.2.1, ai t.2.2]
theorem allJ_nil (s : List UInt8) (n a : Nat) : allJ [] (allT s n a) = allT s n a := by
  cases n with
  | zero => rfl
  | succ n =>
    unfold allJ
    split
    · next h =>
      rw [allT] at h ⊢
      split
      · rfl
      · next h1 =>
        rw [if_neg h1] at h
        split
        · next h2 => rw [if_pos h2] at h; exact absurd rfl h
        · next h2 =>
          rw [if_neg h2] at h
          split
          · rfl
          · next h3 => rw [if_neg h3] at h; exact absurd rfl h
    · simp
theorem allT_ok (s : List UInt8) (n a : Nat) (h : (allT s n a).2.2 = 0) : (allT s n a).2 = (0, 0) := by
  cases n with
  | zero => rfl
  | succ n =>
    rw [allT] at h ⊢
    split
    · next h1 => rw [if_pos h1] at h; exact absurd h h1
    · next h1 =>
      rw [if_neg h1] at h
      split
      · rfl
      · next h2 =>
        rw [if_neg h2] at h
        split
        · next h3 => rw [if_pos h3] at h; exact absurd h h3
        · rfl
theorem all_ab (s : List UInt8) (hs : s.length ≤ 1000000) : Ab Tryz.prog 15 [az s] (allA (allF s)) := by
  generalize hr : allF s = R
  refine Fn_of_aw (keep := []) Tryz.func15 rfl rfl (by simp [Tryz.ntmps15]) ?_
  simp only [num_cons, num_nil, Tryz.ntmps15, Tryz.results15]
  repeat' (first
 | ((with_reducible apply awO_ev); (· rfl); (· exact sv))
 | ((with_reducible apply aw_seq); intro _ _)
 | (with_reducible apply aw_region)
 | (with_reducible apply aw_block)
 | ((with_reducible first | apply awO_nil | apply aw_exit | apply aw_skip | apply aw_ret); (try simp only [CT, ↓reduceIte, Nat.reduceEqDiff]))
 | (refine Kont.go ‹Kont _ _ _ _› _ ?_))
  refine aw_virt 5 100 4 rfl (by decide) (by simp) ?_
  refine aw_st svs ?_
  refine aw_loopF (fun x : Nat × Nat × List Tok => [(6, ai x.2.1), (5, .os 100 0 4 x.2.2.length)]) (fun x => [(100, x.2.2.flatMap fun t => [ai t.kind, ai (t.pos : Nat), ai (t.fin : Nat), az t.text])])
    (fun x => x.2.1 ≤ s.length ∧ s.length - x.2.1 < x.1 ∧ x.2.2.length ≤ x.2.1 ∧ R = allJ x.2.2 (allT s x.1 x.2.1)) (fun x => x.1) (s.length + 2, 0, []) ⟨by simp, by simp only; omega, by simp, by rw [allJ_nil]; exact hr.symm⟩ ?_ ?_ ?_
  · (simp only [LP, look_cons, look_nil, and_true, true_and, ↓reduceIte, Nat.reduceEqDiff, Option.some.injEq, AV.v.injEq, Value.int.injEq, Int.natCast_add, Int.cast_ofNat_Int])
    first | done | rfl
  · (simp only [LP, look_cons, look_nil, and_true, true_and, ↓reduceIte, Nat.reduceEqDiff, Option.some.injEq, AV.v.injEq, Value.int.injEq, Int.natCast_add, Int.cast_ofNat_Int])
    first | done | rfl
  rintro ⟨n, a, M⟩ ⟨ha, hn, hM, hI⟩
  simp only at ha hn hM hI
  obtain ⟨m, rfl⟩ : ∃ m, n = m + 1 := ⟨n - 1, by omega⟩
  have c1 := next_ab s a hs
  have hb := nxt_err_le (s := s) (z := a)
  have hpos := nxt_pos (s := s) (z := a)
  have hsk : a ≤ skp s (a : Int) := by unfold skp clp; omega
  rw [allT] at hI
  generalize nextF s a = r at *
  obtain ⟨⟨tk, tp, tf, tt⟩, e⟩ := r
  simp only at hb hpos hI
  (simp only [LP, List.append_assoc, List.nil_append, List.cons_append, List.append_nil, List.contains_cons, List.contains_nil, Nat.reduceBEq, Bool.or_false, Bool.or_true, Bool.true_or, Bool.false_or, ↓reduceIte, Bool.false_eq_true])
  repeat' (first
 | ((with_reducible apply awO_ev); (· rfl); (· exact sv))
 | ((with_reducible apply aw_seq); intro _ _)
 | (with_reducible apply aw_region)
 | (with_reducible apply aw_block)
 | ((with_reducible first | apply awO_nil | apply aw_exit | apply aw_skip | apply aw_ret); (try simp only [CT, ↓reduceIte, Nat.reduceEqDiff]))
 | (refine Kont.go ‹Kont _ _ _ _› _ ?_)
 | ((with_reducible apply awO_c); (· rfl); (· rfl); (· exact sv); (· (first | with_reducible exact c1)); (· rfl); (· rfl); (· rfl); (· decide))
 | ((with_reducible apply aw_draw); (· decide +kernel); (simp only [List.size_toArray, List.length_cons, List.length_nil, Nat.reduceAdd]))
 | ((with_reducible apply awY_done); (· decide +kernel); (try simp only [CT, ↓reduceIte, Nat.reduceEqDiff]))
 | ((with_reducible apply awY_q); (· exact sQ); (· exact np); (· exact svg); (· rfl); (· exact sv))
 | ((first | ((with_reducible apply awO_guardN); (· rfl); (· rfl); (· exact sv); (· exact nB)) | ((with_reducible apply aw_condN); (· exact sv))); (· exact pN); (· exact pN); all_goals (intro hg; try (exfalso; omega)))
 | ((with_reducible apply retQ_mk); (· exact rI); (· exact sv); (· exact sv); rotate_left; (· rfl)))
  · rw [if_pos hg] at hI
    unfold allJ at hI
    rw [if_pos hg] at hI
    rw [hI]
    unfold allA
    simp only
    rw [if_neg hg]
  · have hg0 : e = 0 := by omega
    rw [if_neg (by simpa using hg0), if_pos hg] at hI
    rw [hI]
    simp [allA, allJ]
  · have hg0 : e = 0 := by omega
    have hp := hpos hg0 hg
    rw [if_neg (by simpa using hg0), if_neg hg] at hI
    refine LE_mk ((m, tf, M ++ [⟨tk, tp, tf, tt⟩])) ?_ ?_ sN sN sN
    · refine ⟨by simp only; omega, by simp only; omega, by simp only [List.length_append, List.length_cons, List.length_nil]; omega, ?_⟩
      rw [hI]
      by_cases h5 : (allT s m tf).2.2 = 0
      · rw [if_neg (by simpa using h5)]
        have h6 := allT_ok s m tf h5
        simp only [allJ, h6]
        simp
      · rw [if_pos h5]
        simp only [allJ]
        rw [if_pos h5, if_pos h5]
    · simp only; omega
end Go.Proofs.YtgbhjlkenfmadaaGreatDoor
