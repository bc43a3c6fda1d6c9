/- The tokens of two texts on separate lines. No program is named here. -/
import Derived.Test.YtikolicdgkckeaaLxP
namespace Go.Proofs.Ytikolicdgkckeaa
set_option linter.unusedVariables false
set_option linter.unusedSimpArgs false
section
variable {x : List UInt8}
theorem skpN_app : ∀ (n : Nat) (l : List UInt8), l.length ≤ n → l.drop (skpN l) ≠ [92] → skpN (l ++ 10 :: x) = skpN l := by
  intro n
  induction n with
  | zero =>
    intro l hl h
    obtain rfl : l = [] := List.eq_nil_of_length_eq_zero (by omega)
    exact skpN_stop (.inr ⟨10, x, rfl, rfl⟩)
  | succ n ih =>
    intro l hl h
    cases l with
    | nil => exact skpN_stop (.inr ⟨10, x, rfl, rfl⟩)
    | cons c r =>
      simp only [List.length_cons] at hl
      rw [List.cons_append, skpN_cons, skpN_cons]
      rw [skpN_cons] at h
      by_cases hb : blankB c = true
      · rw [if_pos hb] at h ⊢
        rw [if_pos hb, ih r (by omega) (by simpa using h)]
      rw [if_neg hb] at h ⊢
      rw [if_neg hb]
      have hj : joinB (c :: (r ++ 10 :: x)) = joinB (c :: r) := by
        cases r with
        | nil =>
          by_cases h92 : c.toNat = 92
          · exfalso
            have hc : c = 92 := UInt8.toNat_inj.1 h92
            subst hc
            rw [if_neg (by simp [joinB]), if_neg (by decide)] at h
            exact h rfl
          · simp [joinB, h92]
        | cons d t => rfl
      have hm : comN (c :: (r ++ 10 :: x)) = comN (c :: r) := comN_app (c :: r)
      rw [hj, hm]
      by_cases h1 : joinB (c :: r) = true
      · rw [if_pos h1] at h ⊢
        rw [if_pos h1]
        have h1' : 1 ≤ r.length := by
          cases r with
          | nil => simp [joinB] at h1
          | cons d r => simp
        rw [drop_app h1', ih (r.drop 1) (by simp; omega) (by rw [List.drop_drop, Nat.add_comm]; simpa using h)]
      · rw [if_neg h1, if_neg h1]
theorem oper_nl {a b : List UInt8} (h : a ≠ []) : operB (a ++ 10 :: b) = false := by
  have hm : (10 : UInt8) ∈ a ++ 10 :: b := by simp
  have hl : 2 ≤ (a ++ 10 :: b).length := by
    have := List.length_pos_iff.2 h
    simp; omega
  generalize a ++ 10 :: b = w at *
  cases hw : operB w with
  | false => rfl
  | true =>
    exfalso
    simp only [operB, decide_eq_true_eq] at hw
    rcases hw with rfl | rfl | rfl | rfl | rfl | rfl | rfl | rfl | rfl | rfl | rfl | rfl | rfl | rfl | rfl | rfl | rfl | rfl <;> first | exact absurd hm (by decide) | exact absurd hl (by decide)
theorem opK_app {l : List UInt8} (hl : l ≠ []) : ∀ k, opK (l ++ 10 :: x) k = opK l (min k l.length) := by
  intro k
  induction k with
  | zero => simp [opK]
  | succ k ih =>
    by_cases h : k + 1 ≤ l.length
    · rw [Nat.min_eq_left h, opK, opK, List.take_append_of_le_length h, ih, Nat.min_eq_left (by omega)]
    · rw [Nat.min_eq_right (by omega)] at *
      have e : (l ++ 10 :: x).take (k + 1) = l ++ 10 :: x.take (k - l.length) := by
        rw [List.take_append, List.take_of_length_le (by omega), show k + 1 - l.length = (k - l.length) + 1 from by omega, List.take_succ_cons]
      rw [opK, e, oper_nl hl, if_neg (by simp), ih]
theorem opN_app {l : List UInt8} (hl : l ≠ []) : opN (l ++ 10 :: x) = opN l := by
  unfold opN
  rw [opK_app hl]
  congr 1
  rw [List.length_append, List.length_cons]
  omega
theorem redB_app (l : List UInt8) : redB (l ++ 10 :: x) = redB l := by
  cases l with
  | nil => rfl
  | cons c r => rfl
end
def shT (d : Nat) (t : Tok) : Tok := ⟨t.kind, t.pos + d, t.fin + d, t.text⟩
theorem clp_nat {a n : Nat} (h : a ≤ n) : clp (a : Int) n = a := by unfold clp; omega
theorem skp_nat {s : List UInt8} {a : Nat} (h : a ≤ s.length) : skp s a = a + skpN (s.drop a) := by rw [skp, clp_nat h]
/-- Behind the line end. -/
theorem next_shift {s t : List UInt8} (hu : (s ++ 10 :: t).length ≤ 16384) {a : Nat} (ha : a ≤ t.length) (h0 : (nextF t a).2 = 0) : nextF (s ++ 10 :: t) ((s.length + 1 + a : Nat) : Int) = (shT (s.length + 1) (nextF t a).1, 0) := by
  have hd : ∀ b, (s ++ 10 :: t).drop (s.length + 1 + b) = t.drop b := fun b => by
    rw [show s.length + 1 + b = s.length + (1 + b) from by omega, List.drop_append, List.drop_eq_nil_of_le (by omega), List.nil_append, show s.length + (1 + b) - s.length = b + 1 from by omega, List.drop_succ_cons]
  have ht : ¬ 16384 < t.length := by simp at hu; omega
  have hs : skp (s ++ 10 :: t) ((s.length + 1 + a : Nat) : Int) = s.length + 1 + skp t a := by
    rw [skp_nat (by simp; omega), skp_nat ha, hd]; omega
  unfold nextF at h0 ⊢
  rw [if_neg ht] at h0 ⊢
  rw [if_neg (by omega), hs]
  generalize skp t a = b at *
  unfold nxt at h0 ⊢
  rw [hd]
  cases hb : t.drop b with
  | nil => simp [shT]; omega
  | cons c r =>
    rw [hb] at h0
    simp only at h0 ⊢
    split
    · next h => simp [shT]; omega
    · next h =>
      rw [if_neg h] at h0
      split
      · next h1 => simp [shT]; omega
      · next h1 =>
        rw [if_neg h1] at h0
        split
        · next h2 => rw [if_pos h2] at h0; exact absurd h0 h2
        · next h2 => simp [shT]; omega
/-- Before the line end. -/
theorem next_pre {s t : List UInt8} (hu : (s ++ 10 :: t).length ≤ 16384) {a : Nat} (ha : a ≤ s.length) (h0 : (nextF s a).2 = 0) :
    ((nextF s a).1.kind ≠ 5 → nextF (s ++ 10 :: t) (a : Int) = nextF s a) ∧ ((nextF s a).1.kind = 5 → nextF (s ++ 10 :: t) (a : Int) = (⟨3, s.length, s.length + 1, [10]⟩, 0)) := by
  have hs16 : ¬ 16384 < s.length := by simp at hu; omega
  have hle := skp_le s a
  unfold nextF at h0 ⊢
  rw [if_neg hs16] at h0 ⊢
  rw [if_neg (by omega)]
  have hsk : s.drop (skp s a) ≠ [92] := fun e => by
    unfold nxt at h0
    rw [e] at h0
    revert h0
    have ho : opN [92] = 0 := by decide
    have hw : (wrd [92] 0).2 = 7 := by
      have hp : pas [92] 0 = (0, 7) := by rw [pas]; rw [if_neg (by decide), con.eq_def]; rfl
      rw [wrd, if_neg (by decide), hp, if_pos (by decide)]
    simp only
    rw [if_neg (by decide), ho, if_neg (by decide), if_pos (by rw [hw]; decide)]
    simp only
    rw [hw]
    decide
  have hskp : skp (s ++ 10 :: t) a = skp s a := by
    rw [skp_nat (by simp; omega), skp_nat ha, drop_app ha, skpN_app _ _ (Nat.le_refl _) (by rw [List.drop_drop, ← skp_nat ha]; exact hsk)]
  rw [hskp]
  generalize skp s a = b at *
  have hdr : (s ++ 10 :: t).drop b = s.drop b ++ 10 :: t := drop_app hle
  unfold nxt at h0 ⊢
  rw [hdr]
  cases hb : s.drop b with
  | nil =>
    have hbe : b = s.length := by
      have := congrArg List.length hb
      rw [List.length_drop] at this
      simp at this; omega
    refine ⟨fun h => absurd rfl h, fun _ => ?_⟩
    subst hbe
    rfl
  | cons c r =>
    rw [hb] at h0
    simp only [List.cons_append] at h0 ⊢
    have hop : opN (c :: (r ++ 10 :: t)) = opN (c :: r) := opN_app (l := c :: r) (by simp)
    have hopl : opN (c :: r) ≤ (c :: r).length := by
      have := opK_le (c :: r) (min 3 (c :: r).length)
      unfold opN; omega
    by_cases h10 : c.toNat = 10
    · rw [if_pos h10, if_pos h10]
      exact ⟨fun _ => rfl, fun h => by simp at h⟩
    rw [if_neg h10] at h0 ⊢
    rw [if_neg h10, hop]
    by_cases hp : 0 < opN (c :: r)
    · rw [if_pos hp, if_pos hp]
      refine ⟨fun _ => ?_, fun h => by simp at h⟩
      rw [← List.cons_append, List.take_append_of_le_length hopl]
    rw [if_neg hp] at h0 ⊢
    rw [if_neg hp]
    by_cases hw : (wrd (c :: r) 0).2 ≠ 0
    · rw [if_pos hw] at h0; exact absurd h0 hw
    have hwa : wrd (c :: (r ++ 10 :: t)) 0 = wrd (c :: r) 0 := wrd_app _ (c :: r) 0 (Nat.le_refl _) (by simpa using hw)
    have hwl := (wrd_ok _ (c :: r) 0 (Nat.le_refl _)).2.1
    rw [if_neg hw, hwa, if_neg hw]
    refine ⟨fun _ => ?_, fun h => by simp only at h; split at h <;> cases h⟩
    rw [← List.cons_append, List.take_append_of_le_length (by omega), List.drop_append_of_le_length (by omega), redB_app]
/-- The tokens from a on. -/
inductive Toks (s : List UInt8) : Nat → List Tok → Prop
  | fin {a : Nat} (h : (nextF s a).2 = 0) (hk : (nextF s a).1.kind = 5) : Toks s a [(nextF s a).1]
  | cons {a : Nat} {A : List Tok} (h : (nextF s a).2 = 0) (hk : (nextF s a).1.kind ≠ 5) (r : Toks s (nextF s a).1.fin A) : Toks s a ((nextF s a).1 :: A)
theorem Toks.ne {s : List UInt8} {a : Nat} {A : List Tok} (h : Toks s a A) : A ≠ [] := by cases h <;> simp
theorem toks_of_all (s : List UInt8) : ∀ (m a : Nat), a ≤ s.length → s.length - a < m → (allT s m a).2.2 = 0 → Toks s a (allT s m a).1 := by
  intro m
  induction m with
  | zero => intro a _ h; omega
  | succ m ih =>
    intro a ha hm h
    rw [allT] at h ⊢
    by_cases h1 : (nextF s a).2 ≠ 0
    · rw [if_pos h1] at h; exact absurd h h1
    have h1' : (nextF s a).2 = 0 := by simpa using h1
    rw [if_neg h1] at h ⊢
    by_cases h2 : (nextF s a).1.kind = 5
    · rw [if_pos h2]; exact .fin h1' h2
    rw [if_neg h2] at h ⊢
    have hp := nxt_pos h1' h2
    have hge : a ≤ skp s a := by rw [skp_nat ha]; omega
    by_cases h3 : (allT s m (nextF s a).1.fin).2.2 ≠ 0
    · rw [if_pos h3] at h; exact absurd h h3
    rw [if_neg h3]
    exact .cons h1' h2 (ih _ (by omega) (by omega) (by simpa using h3))
theorem all_of_toks {s : List UInt8} {a : Nat} {A : List Tok} (h : Toks s a A) : ∀ m, a ≤ s.length → s.length - a < m → allT s m a = (A, 0, 0) := by
  induction h with
  | fin h hk =>
    intro m ha hm
    obtain ⟨k, rfl⟩ : ∃ k, m = k + 1 := ⟨m - 1, by omega⟩
    rw [allT, if_neg (by simpa using h), if_pos hk]
  | @cons a A h hk r ih =>
    intro m ha hm
    obtain ⟨k, rfl⟩ : ∃ k, m = k + 1 := ⟨m - 1, by omega⟩
    have hp := nxt_pos h hk
    have hge : a ≤ skp s a := by rw [skp_nat ha]; omega
    rw [allT, if_neg (by simpa using h), if_neg hk, ih k (by omega) (by omega), if_neg (by simp)]
theorem toks_shift {s t : List UInt8} (hu : (s ++ 10 :: t).length ≤ 16384) {a : Nat} {B : List Tok} (h : Toks t a B) : a ≤ t.length → Toks (s ++ 10 :: t) (s.length + 1 + a) (B.map (shT (s.length + 1))) := by
  induction h with
  | @fin a h hk =>
    intro ha
    have e := next_shift (s := s) hu ha h
    have := Toks.fin (s := s ++ 10 :: t) (a := s.length + 1 + a) (by rw [e]) (by rw [e]; exact hk)
    rw [e] at this
    exact this
  | @cons a A h hk r ih =>
    intro ha
    have e := next_shift (s := s) hu ha h
    have hp := nxt_pos h hk
    have h2 := ih (by omega)
    have := Toks.cons (s := s ++ 10 :: t) (a := s.length + 1 + a) (A := A.map (shT (s.length + 1))) (by rw [e]) (by rw [e]; exact hk) (by
      rw [e]
      show Toks _ ((nextF t a).1.fin + (s.length + 1)) _
      rw [Nat.add_comm]; exact h2)
    rw [e] at this
    exact this
theorem toks_lines {s t : List UInt8} (hu : (s ++ 10 :: t).length ≤ 16384) {B : List Tok} (hB : Toks t 0 B) {a : Nat} {A : List Tok} (h : Toks s a A) : a ≤ s.length → Toks (s ++ 10 :: t) a (A.dropLast ++ ⟨3, s.length, s.length + 1, [10]⟩ :: B.map (shT (s.length + 1))) := by
  induction h with
  | @fin a h hk =>
    intro ha
    have e := (next_pre (t := t) hu ha h).2 hk
    have h2 := toks_shift (s := s) hu hB (by omega)
    have := Toks.cons (s := s ++ 10 :: t) (a := a) (A := B.map (shT (s.length + 1))) (by rw [e]) (by rw [e]; simp) (by rw [e]; exact h2)
    rw [e] at this
    exact this
  | @cons a A h hk r ih =>
    intro ha
    have e := (next_pre (t := t) hu ha h).1 hk
    have hp := nxt_pos h hk
    have h2 := ih (by omega)
    have := Toks.cons (s := s ++ 10 :: t) (a := a) (A := A.dropLast ++ ⟨3, s.length, s.length + 1, [10]⟩ :: B.map (shT (s.length + 1))) (by rw [e]; exact h) (by rw [e]; exact hk) (by rw [e]; exact h2)
    rw [e] at this
    rw [List.dropLast_cons_of_ne_nil r.ne]
    exact this
theorem all_lines {s t : List UInt8} (hu : (s ++ 10 :: t).length ≤ 16384) (h1 : (allF s).2.2 = 0) (h2 : (allF t).2.2 = 0) : allF (s ++ 10 :: t) = ((allF s).1.dropLast ++ ⟨3, s.length, s.length + 1, [10]⟩ :: (allF t).1.map (shT (s.length + 1)), 0, 0) := by
  have a := toks_of_all s (s.length + 2) 0 (by omega) (by omega) h1
  have b := toks_of_all t (t.length + 2) 0 (by omega) (by omega) h2
  exact all_of_toks (toks_lines hu b a (by omega)) _ (by omega) (by omega)
theorem all_ne {s : List UInt8} (h1 : (allF s).2.2 = 0) : (allF s).1 ≠ [] := (toks_of_all s (s.length + 2) 0 (by omega) (by omega) h1).ne
end Go.Proofs.Ytikolicdgkckeaa
