/- What the lexer computes of a text with a newline and more behind it. No program is named here. -/
import Derived.Test.YtikolicdgkckeaaLxI
namespace Go.Proofs.Ytikolicdgkckeaa
set_option linter.unusedVariables false
set_option linter.unusedSimpArgs false
section
variable {x : List UInt8}
theorem sngN_app (l : List UInt8) : ∀ o, (sngN l o).2 = 0 → sngN (l ++ 10 :: x) o = sngN l o := by
  induction l with
  | nil => intro o h; cases h
  | cons c r ih =>
    intro o h
    simp only [sngN, List.cons_append] at h ⊢
    split
    · rfl
    · next hc => rw [if_neg hc] at h; exact ih _ h
theorem bqtN_app : ∀ (n : Nat) (l : List UInt8), l.length ≤ n → ∀ o, (bqtN l o).2 = 0 → bqtN (l ++ 10 :: x) o = bqtN l o := by
  intro n
  induction n with
  | zero =>
    intro l hl o h
    obtain rfl : l = [] := List.eq_nil_of_length_eq_zero (by omega)
    cases h
  | succ n ih =>
    intro l hl o h
    match l, hl, h with
    | [c], _, h =>
      simp only [bqtN, List.cons_append, List.nil_append] at h ⊢
      split
      · rfl
      · next hc =>
        rw [if_neg hc] at h
        split at h <;> cases h
    | c :: d :: r, hl, h =>
      simp only [List.length_cons] at hl
      simp only [bqtN, List.cons_append] at h ⊢
      split
      · rfl
      · next hc =>
        rw [if_neg hc] at h
        split
        · next h9 => rw [if_pos h9] at h; exact ih r (by omega) _ h
        · next h9 => rw [if_neg h9] at h; exact ih (d :: r) (by simp; omega) _ h
theorem comN_app (l : List UInt8) : comN (l ++ 10 :: x) = comN l := by
  induction l with
  | nil => rfl
  | cons c r ih => simp only [comN, List.cons_append, ih]
theorem wordN_app (l : List UInt8) : wordN (l ++ 10 :: x) = wordN l := by
  induction l with
  | nil => rfl
  | cons c r ih => simp only [wordN, List.cons_append, ih]
theorem dolB_app (l : List UInt8) : dolB (l ++ 10 :: x) = dolB l := by
  cases l with
  | nil => rfl
  | cons c r => rfl
theorem begB_app {c : UInt8} {l : List UInt8} : begB (c :: l ++ 10 :: x) = begB (c :: l) := by
  simp only [begB, List.cons_append, dolB_app]
theorem drop_app {l : List UInt8} {k : Nat} (h : k ≤ l.length) : (l ++ 10 :: x).drop k = l.drop k ++ 10 :: x := List.drop_append_of_le_length h
/-- A step of a loop. -/
theorem loop_app {p p' : Nat × Int} {r : List UInt8} {o : Nat} {f : List UInt8 → Nat → Nat × Int} (hp : p.2 = 0 → p' = p) (hle : p.2 = 0 → 1 ≤ p.1 ∧ p.1 ≤ r.length + 1) (hf : ∀ l o, l.length ≤ r.length → (f l o).2 = 0 → f (l ++ 10 :: x) o = f l o)
    (h : (if p.2 ≠ 0 then (o + p.1, p.2) else if p.1 = 0 then (0, 0) else f (r.drop (p.1 - 1)) (o + p.1)).2 = 0) :
    (if p'.2 ≠ 0 then (o + p'.1, p'.2) else if p'.1 = 0 then (0, 0) else f ((r ++ 10 :: x).drop (p'.1 - 1)) (o + p'.1)) = if p.2 ≠ 0 then (o + p.1, p.2) else if p.1 = 0 then (0, 0) else f (r.drop (p.1 - 1)) (o + p.1) := by
  by_cases h0 : p.2 = 0
  · rw [hp h0]
    obtain ⟨h1, h2⟩ := hle h0
    rw [if_neg (by simpa using h0), if_neg (by omega)] at h ⊢
    rw [if_neg (by simpa using h0), if_neg (by omega), drop_app (by omega)]
    exact hf _ _ (by simp only [List.length_drop]; omega) h
  · rw [if_pos h0] at h; exact absurd h h0
theorem app_all : ∀ (n : Nat), (∀ (l : List UInt8) (pl : Nat), l.length ≤ n → begB l = true → (con l pl).2 = 0 → con (l ++ 10 :: x) pl = con l pl) ∧ (∀ (l : List UInt8) (pl : Nat), l.length ≤ n → 0 < l.length → (pas l pl).2 = 0 → pas (l ++ 10 :: x) pl = pas l pl) ∧
    (∀ (l : List UInt8) (o : Nat), l.length ≤ n → (dbl l o).2 = 0 → dbl (l ++ 10 :: x) o = dbl l o) ∧ (∀ (l : List UInt8) (o pl : Nat), l.length ≤ n → (brc l o pl).2 = 0 → brc (l ++ 10 :: x) o pl = brc l o pl) ∧
    (∀ (l : List UInt8) (o dep : Nat) (st : Bool), l.length ≤ n → (cmd l o dep st).2 = 0 → cmd (l ++ 10 :: x) o dep st = cmd l o dep st) ∧ (∀ (l : List UInt8) (o dep : Nat), l.length ≤ n → (ari l o dep).2 = 0 → ari (l ++ 10 :: x) o dep = ari l o dep) := by
  intro n
  induction n with
  | zero =>
    refine ⟨?_, ?_, ?_, ?_, ?_, ?_⟩
    · intro l pl hl hb
      obtain rfl : l = [] := List.eq_nil_of_length_eq_zero (by omega)
      simp [begB] at hb
    · intro l pl hl h0; omega
    · intro l o hl h
      obtain rfl : l = [] := List.eq_nil_of_length_eq_zero (by omega)
      simp [dbl] at h
    · intro l o pl hl h
      obtain rfl : l = [] := List.eq_nil_of_length_eq_zero (by omega)
      simp [brc] at h
    · intro l o dep st hl h
      obtain rfl : l = [] := List.eq_nil_of_length_eq_zero (by omega)
      simp [cmd] at h
    · intro l o dep hl h
      obtain rfl : l = [] := List.eq_nil_of_length_eq_zero (by omega)
      simp [ari] at h
  | succ n ih =>
    obtain ⟨i1, i2, i3, i4, i5, i6⟩ := ih
    have hcon : ∀ (l : List UInt8) (pl : Nat), l.length ≤ n + 1 → begB l = true → (con l pl).2 = 0 → con (l ++ 10 :: x) pl = con l pl := by
      intro l pl hl hb h
      match l, hl, hb, h with
      | c :: r, hl, hb, h =>
        simp only [List.length_cons] at hl
        have e1 := con.eq_def (c :: r) pl
        have e2 := con.eq_def (c :: (r ++ 10 :: x)) pl
        simp only at e1 e2
        rw [List.cons_append, e1, e2]
        rw [e1] at h
        clear e1 e2
        by_cases h92 : c.toNat = 92
        · simp only [if_pos h92] at h ⊢
          by_cases h0 : r.length = 0
          · simp [h0] at h
          · rw [if_neg h0, if_neg (by simp)]
        simp only [if_neg h92] at h ⊢
        by_cases h39 : c.toNat = 39
        · simp only [if_pos h39] at h ⊢
          exact sngN_app r 1 h
        simp only [if_neg h39] at h ⊢
        by_cases h34 : c.toNat = 34
        · simp only [if_pos h34] at h ⊢
          exact i3 r 1 (by omega) h
        simp only [if_neg h34] at h ⊢
        by_cases h96 : c.toNat = 96
        · simp only [if_pos h96] at h ⊢
          exact bqtN_app _ r (Nat.le_refl _) 1 h
        simp only [if_neg h96] at h ⊢
        match r, hl, hb, h with
        | [], hl, hb, h =>
          exfalso
          simp [begB, dolB] at hb
          omega
        | d :: t, hl, hb, h =>
          simp only [List.length_cons] at hl
          simp only [List.cons_append] at h ⊢
          by_cases h40 : d.toNat = 40
          · simp only [if_pos h40] at h ⊢
            match t, hl, h with
            | [], hl, h => simp [cmd] at h
            | e :: u, hl, h =>
              simp only [List.length_cons] at hl
              simp only [List.cons_append] at h ⊢
              by_cases h2 : e.toNat = 40
              · simp only [if_pos h2] at h ⊢
                exact i6 u 3 0 (by omega) h
              · simp only [if_neg h2] at h ⊢
                exact i5 (e :: u) 2 0 true (by simp only [List.length_cons]; omega) h
          simp only [if_neg h40] at h ⊢
          by_cases h123 : d.toNat = 123
          · simp only [if_pos h123] at h ⊢
            exact i4 t 2 pl (by omega) h
          simp only [if_neg h123] at h ⊢
          by_cases hs : startsB d = true
          · simp only [if_pos hs] at h ⊢
            rw [← List.cons_append, wordN_app]
          · simp only [if_neg hs] at h ⊢
    have hpas : ∀ (l : List UInt8) (pl : Nat), l.length ≤ n + 1 → 0 < l.length → (pas l pl).2 = 0 → pas (l ++ 10 :: x) pl = pas l pl := by
      intro l pl hl h0 h
      match l, hl, h0, h with
      | c :: r, hl, _, h =>
        have e1 := pas.eq_def (c :: r) pl
        have e2 := pas.eq_def (c :: (r ++ 10 :: x)) pl
        simp only at e1 e2
        rw [List.cons_append, e1, e2]
        rw [e1] at h
        rw [← List.cons_append, begB_app]
        by_cases hc : (pl ≠ 0 ∧ (c.toNat = 39 ∨ c.toNat = 34)) ∨ begB (c :: r) = false
        · rw [if_pos hc, if_pos hc]
        · rw [if_neg hc] at h ⊢
          rw [if_neg hc]
          exact hcon (c :: r) pl hl (by cases hb : begB (c :: r) <;> simp_all) h
    have hple : ∀ (c : UInt8) (r : List UInt8) (pl : Nat), (pas (c :: r) pl).2 = 0 → 1 ≤ (pas (c :: r) pl).1 ∧ (pas (c :: r) pl).1 ≤ r.length + 1 := fun c r pl h => by
      obtain ⟨a, b, _, _⟩ := pas_ok (l := c :: r) pl (by simp)
      simp only [List.length_cons] at a
      exact ⟨by have := b h; omega, by omega⟩
    refine ⟨hcon, hpas, ?_, ?_, ?_, ?_⟩
    · intro l o hl h
      match l, hl, h with
      | [], _, h => simp [dbl] at h
      | c :: r, hl, h =>
        have e1 := dbl.eq_def (c :: r) o
        have e2 := dbl.eq_def (c :: (r ++ 10 :: x)) o
        simp only at e1 e2
        rw [List.cons_append, e1, e2]
        rw [e1] at h
        clear e1 e2
        simp only [List.length_cons] at hl
        by_cases hc : c.toNat = 34
        · rw [if_pos hc, if_pos hc]
        · rw [if_neg hc] at h ⊢
          rw [if_neg hc]
          exact loop_app (p := pas (c :: r) 1) (f := fun l o => dbl l o) (fun h => hpas (c :: r) 1 (by simp only [List.length_cons]; omega) (by simp) h) (hple c r 1) (fun l o hl => i3 l o (by omega)) h
    · intro l o pl hl h
      match l, hl, h with
      | [], _, h => simp [brc] at h
      | c :: r, hl, h =>
        have e1 := brc.eq_def (c :: r) o pl
        have e2 := brc.eq_def (c :: (r ++ 10 :: x)) o pl
        simp only at e1 e2
        rw [List.cons_append, e1, e2]
        rw [e1] at h
        clear e1 e2
        simp only [List.length_cons] at hl
        by_cases hc : c.toNat = 125
        · rw [if_pos hc, if_pos hc]
        rw [if_neg hc] at h ⊢
        rw [if_neg hc]
        by_cases hd : c.toNat = 34 ∧ pl = 1
        · rw [if_pos hd, if_pos hd]
        rw [if_neg hd] at h ⊢
        rw [if_neg hd]
        exact loop_app (p := pas (c :: r) pl) (f := fun l o => brc l o pl) (fun h => hpas (c :: r) pl (by simp only [List.length_cons]; omega) (by simp) h) (hple c r pl) (fun l o hl => i4 l o pl (by omega)) h
    · intro l o dep st hl h
      match l, hl, h with
      | [], _, h => simp [cmd] at h
      | c :: r, hl, h =>
        have e1 := cmd.eq_def (c :: r) o dep st
        have e2 := cmd.eq_def (c :: (r ++ 10 :: x)) o dep st
        simp only at e1 e2
        rw [List.cons_append, e1, e2]
        rw [e1] at h
        clear e1 e2
        simp only [List.length_cons] at hl
        have hcl := comN_le (c :: r)
        simp only [List.length_cons] at hcl
        by_cases hx : c.toNat = 92 ∧ r = []
        · exfalso
          obtain ⟨h92, rfl⟩ := hx
          have hb : begB [c] = true := by simp [begB, h92]
          have hc : con [c] 0 = (0, 7) := by rw [con.eq_def]; simp [h92]
          rw [if_neg (by simp [joinB]), if_neg (by omega), if_pos hb, hc] at h
          simp at h
        have hj : joinB (c :: (r ++ 10 :: x)) = joinB (c :: r) := by
          cases r with
          | nil => simp at hx; simp [joinB, hx]
          | cons d t => rfl
        have hb : begB (c :: (r ++ 10 :: x)) = begB (c :: r) := begB_app
        have hm : comN (c :: (r ++ 10 :: x)) = comN (c :: r) := comN_app (c :: r)
        rw [hj, hb, hm]
        by_cases h1 : joinB (c :: r) = true
        · rw [if_pos h1] at h ⊢
          rw [if_pos h1]
          have h1' : 1 ≤ r.length := by
            cases r with
            | nil => simp [joinB] at h1
            | cons d r => simp
          rw [drop_app h1']
          exact i5 _ _ _ _ (by simp; omega) h
        rw [if_neg h1] at h ⊢
        rw [if_neg h1]
        by_cases h2 : c.toNat = 35 ∧ st = true
        · rw [if_pos h2] at h ⊢
          rw [if_pos h2, drop_app (by omega)]
          exact i5 _ _ _ _ (by simp; omega) h
        rw [if_neg h2] at h ⊢
        rw [if_neg h2]
        by_cases h3 : begB (c :: r) = true
        · rw [if_pos h3] at h ⊢
          rw [if_pos h3]
          obtain ⟨a, b, _, _⟩ := con_ok (l := c :: r) 0 h3
          simp only [List.length_cons] at a
          exact loop_app (p := con (c :: r) 0) (f := fun l o => cmd l o dep false) (fun h => hcon (c :: r) 0 (by simp only [List.length_cons]; omega) h3 h) (fun h => ⟨by have := b h; omega, by omega⟩) (fun l o hl => i5 l o dep false (by omega)) h
        rw [if_neg h3] at h ⊢
        rw [if_neg h3]
        by_cases h4 : c.toNat = 41 ∧ dep = 0
        · rw [if_pos h4, if_pos h4]
        rw [if_neg h4] at h ⊢
        rw [if_neg h4]
        exact i5 _ _ _ _ (by omega) h
    · intro l o dep hl h
      match l, hl, h with
      | [], _, h => simp [ari] at h
      | c :: r, hl, h =>
        have e1 := ari.eq_def (c :: r) o dep
        have e2 := ari.eq_def (c :: (r ++ 10 :: x)) o dep
        simp only at e1 e2
        rw [List.cons_append, e1, e2]
        rw [e1] at h
        clear e1 e2
        simp only [List.length_cons] at hl
        by_cases hc : c.toNat = 41 ∧ dep = 0
        · rw [if_pos hc] at h ⊢
          rw [if_pos hc]
          match r, h with
          | [], h => simp at h
          | d :: t, h => rfl
        rw [if_neg hc] at h ⊢
        rw [if_neg hc]
        exact loop_app (p := pas (c :: r) 2) (f := fun l o => ari l o _) (fun h => hpas (c :: r) 2 (by simp only [List.length_cons]; omega) (by simp) h) (hple c r 2) (fun l o hl => i6 l o _ (by omega)) h
theorem pas_app {c : UInt8} {r : List UInt8} {pl : Nat} (h : (pas (c :: r) pl).2 = 0) : pas (c :: (r ++ 10 :: x)) pl = pas (c :: r) pl := (app_all _).2.1 (c :: r) pl (Nat.le_refl _) (by simp) h
theorem wrd_app : ∀ (n : Nat) (l : List UInt8) (o : Nat), l.length ≤ n → (wrd l o).2 = 0 → wrd (l ++ 10 :: x) o = wrd l o := by
  intro n
  induction n with
  | zero =>
    intro l o hl h
    obtain rfl : l = [] := List.eq_nil_of_length_eq_zero (by omega)
    have e1 := wrd.eq_def (10 :: x) o; have e2 := wrd.eq_def [] o; simp only at e1 e2; rw [List.nil_append, e1, e2, if_pos (by decide)]
  | succ n ih =>
    intro l o hl h
    cases l with
    | nil =>
      have e1 := wrd.eq_def (10 :: x) o; have e2 := wrd.eq_def [] o; simp only at e1 e2; rw [List.nil_append, e1, e2, if_pos (by decide)]
    | cons c r =>
      have e1 := wrd.eq_def (c :: r) o
      have e2 := wrd.eq_def (c :: (r ++ 10 :: x)) o
      simp only at e1 e2
      rw [List.cons_append, e1, e2]
      rw [e1] at h
      clear e1 e2
      simp only [List.length_cons] at hl
      by_cases hc : divB c = true
      · rw [if_pos hc, if_pos hc]
      rw [if_neg hc] at h ⊢
      rw [if_neg hc]
      obtain ⟨a, b, _, _⟩ := pas_ok (l := c :: r) 0 (by simp)
      simp only [List.length_cons] at a
      exact loop_app (p := pas (c :: r) 0) (f := fun l o => wrd l o) (fun h => pas_app h) (fun h => ⟨by have := b h; omega, by omega⟩) (fun l o hl => ih l o (by omega)) h
end
end Go.Proofs.Ytikolicdgkckeaa
