/- What the lexer computes: plain functions on the rest of the text. No program is named here. -/
import Derived.Test.YtgbhjlkenfmadaaDoorLxA
namespace Go.Proofs.YtgbhjlkenfmadaaDoor
set_option linter.unusedVariables false
set_option linter.unusedSimpArgs false
/-- Whether an expansion goes on behind a dollar. -/
def dolB : List UInt8 → Bool
  | [] => false
  | c :: _ => startsB c || specB c || decide (c.toNat = 123 ∨ c.toNat = 40)
/-- Whether a construct begins here. -/
def begB : List UInt8 → Bool
  | [] => false
  | c :: r => decide (c.toNat = 92 ∨ c.toNat = 39 ∨ c.toNat = 34 ∨ c.toNat = 96) || (decide (c.toNat = 36) && dolB r)
/-- The length of a comment. -/
def comN : List UInt8 → Nat
  | [] => 0
  | c :: r => if c.toNat = 10 then 0 else comN r + 1
def joinB : List UInt8 → Bool
  | a :: b :: _ => decide (a.toNat = 92 ∧ b.toNat = 10)
  | _ => false
def wordN : List UInt8 → Nat
  | [] => 0
  | c :: r => if wordB c = true then wordN r + 1 else 0
/-- To the closing single quote. -/
def sngN : List UInt8 → Nat → Nat × Int
  | [], _ => (0, 7)
  | c :: r, o => if c.toNat = 39 then (o + 1, 0) else sngN r (o + 1)
def bqtN : List UInt8 → Nat → Nat × Int
  | [], _ => (0, 7)
  | [c], o => if c.toNat = 96 then (o + 1, 0) else if c.toNat = 92 then (o, 7) else (0, 7)
  | c :: d :: r, o => if c.toNat = 96 then (o + 1, 0) else if c.toNat = 92 then bqtN r (o + 2) else bqtN (d :: r) (o + 1)
mutual
/-- A construct: its length or the place of its error, and the error. -/
def con (l : List UInt8) (pl : Nat) : Nat × Int :=
  match l with
  | [] => (0, 0)
  | c :: r =>
    if c.toNat = 92 then (if r.length = 0 then (0, 7) else (2, 0))
    else if c.toNat = 39 then sngN r 1
    else if c.toNat = 34 then dbl r 1
    else if c.toNat = 96 then bqtN r 1
    else match r with
      | [] => (0, 0)
      | d :: t =>
        if d.toNat = 40 then
          (match t with
          | [] => cmd [] 2 0 true
          | e :: u => if e.toNat = 40 then ari u 3 0 else cmd (e :: u) 2 0 true)
        else if d.toNat = 123 then brc t 2 pl
        else if startsB d = true then (1 + wordN (d :: t), 0) else (2, 0)
termination_by 3 * l.length
def pas (l : List UInt8) (pl : Nat) : Nat × Int :=
  match l with
  | [] => (1, 0)
  | c :: r => if (pl ≠ 0 ∧ (c.toNat = 39 ∨ c.toNat = 34)) ∨ begB (c :: r) = false then (1, 0) else con (c :: r) pl
termination_by 3 * l.length + 1
def dbl (l : List UInt8) (o : Nat) : Nat × Int :=
  match l with
  | [] => (0, 7)
  | c :: r => if c.toNat = 34 then (o + 1, 0) else
    if (pas (c :: r) 1).2 ≠ 0 then (o + (pas (c :: r) 1).1, (pas (c :: r) 1).2) else
    if (pas (c :: r) 1).1 = 0 then (0, 0) else dbl (r.drop ((pas (c :: r) 1).1 - 1)) (o + (pas (c :: r) 1).1)
termination_by 3 * l.length + 2
def brc (l : List UInt8) (o pl : Nat) : Nat × Int :=
  match l with
  | [] => (0, 7)
  | c :: r => if c.toNat = 125 then (o + 1, 0) else if c.toNat = 34 ∧ pl = 1 then (o, 6) else
    if (pas (c :: r) pl).2 ≠ 0 then (o + (pas (c :: r) pl).1, (pas (c :: r) pl).2) else
    if (pas (c :: r) pl).1 = 0 then (0, 0) else brc (r.drop ((pas (c :: r) pl).1 - 1)) (o + (pas (c :: r) pl).1) pl
termination_by 3 * l.length + 2
def cmd (l : List UInt8) (o dep : Nat) (st : Bool) : Nat × Int :=
  match l with
  | [] => (0, 7)
  | c :: r => if joinB (c :: r) = true then cmd (r.drop 1) (o + 2) dep st else
    if c.toNat = 35 ∧ st = true then cmd (r.drop (comN (c :: r) - 1)) (o + comN (c :: r)) dep st else
    if begB (c :: r) = true then
      (if (con (c :: r) 0).2 ≠ 0 then (o + (con (c :: r) 0).1, (con (c :: r) 0).2) else
       if (con (c :: r) 0).1 = 0 then (0, 0) else cmd (r.drop ((con (c :: r) 0).1 - 1)) (o + (con (c :: r) 0).1) dep false)
    else if c.toNat = 41 ∧ dep = 0 then (o + 1, 0)
    else cmd r (o + 1) (if c.toNat = 40 then dep + 1 else if c.toNat = 41 then dep - 1 else dep) (divB c)
termination_by 3 * l.length + 2
def ari (l : List UInt8) (o dep : Nat) : Nat × Int :=
  match l with
  | [] => (0, 7)
  | c :: r => if c.toNat = 41 ∧ dep = 0 then
      (match r with
       | [] => (0, 7)
       | d :: _ => if d.toNat = 41 then (o + 2, 0) else (o, 6))
    else if (pas (c :: r) 2).2 ≠ 0 then (o + (pas (c :: r) 2).1, (pas (c :: r) 2).2) else
    if (pas (c :: r) 2).1 = 0 then (0, 0) else ari (r.drop ((pas (c :: r) 2).1 - 1)) (o + (pas (c :: r) 2).1) (if c.toNat = 40 then dep + 1 else if c.toNat = 41 then dep - 1 else dep)
termination_by 3 * l.length + 2
end
theorem comN_le (l : List UInt8) : comN l ≤ l.length := by
  induction l with
  | nil => exact Nat.le_refl _
  | cons c r ih => simp only [comN, List.length_cons]; split <;> omega
theorem wordN_le (l : List UInt8) : wordN l ≤ l.length := by
  induction l with
  | nil => exact Nat.le_refl _
  | cons c r ih => simp only [wordN, List.length_cons]; split <;> omega
/-- What is known of a result within n bytes: the place, and where there's no error: it's behind o. -/
def Rok (p : Nat × Int) (o n : Nat) : Prop := p.1 ≤ o + n ∧ (p.2 = 0 → o + 1 ≤ p.1) ∧ 0 ≤ p.2 ∧ p.2 ≤ 7
theorem sngN_ok (l : List UInt8) : ∀ o, Rok (sngN l o) o l.length := by
  induction l with
  | nil => intro o; exact ⟨by simp [sngN], by simp [sngN], by simp [sngN], by simp [sngN]⟩
  | cons c r ih =>
    intro o
    simp only [sngN]
    split
    · exact ⟨by simp, by simp, by simp, by simp⟩
    · obtain ⟨h1, h2, h3, h4⟩ := ih (o + 1)
      exact ⟨by simp only [List.length_cons]; omega, fun h => by have := h2 h; omega, h3, h4⟩
theorem bqtN_ok : ∀ (n : Nat) (l : List UInt8), l.length ≤ n → ∀ o, Rok (bqtN l o) o l.length := by
  intro n
  induction n with
  | zero =>
    intro l hl o
    obtain rfl : l = [] := List.eq_nil_of_length_eq_zero (by omega)
    exact ⟨by simp [bqtN], by simp [bqtN], by simp [bqtN], by simp [bqtN]⟩
  | succ n ih =>
    intro l hl o
    match l, hl with
    | [], _ => exact ⟨by simp [bqtN], by simp [bqtN], by simp [bqtN], by simp [bqtN]⟩
    | [c], _ => simp only [bqtN]; (repeat' split) <;> exact ⟨by simp, by simp, by simp, by simp⟩
    | c :: d :: r, hl =>
      simp only [List.length_cons] at hl ⊢
      simp only [bqtN]
      (repeat' split)
      · exact ⟨by simp only; omega, by simp, by simp, by simp⟩
      · obtain ⟨h1, h2, h3, h4⟩ := ih r (by omega) (o + 2)
        exact ⟨by omega, fun h => by have := h2 h; omega, h3, h4⟩
      · obtain ⟨h1, h2, h3, h4⟩ := ih (d :: r) (by simp; omega) (o + 1)
        simp only [List.length_cons] at h1
        exact ⟨by omega, fun h => by have := h2 h; omega, h3, h4⟩
theorem Rok.up {p : Nat × Int} {o n o' n' : Nat} (h : Rok p o n) (h1 : o + n ≤ o' + n') (h2 : o' ≤ o) : Rok p o' n' := by
  obtain ⟨a, b, c, d⟩ := h
  exact ⟨by omega, fun e => by have := b e; omega, c, d⟩
theorem Rok.mk0 {a o n : Nat} {e : Int} (h1 : a ≤ o + n) (h2 : e = 0 → o + 1 ≤ a) (h3 : 0 ≤ e) (h4 : e ≤ 7) : Rok (a, e) o n := ⟨h1, h2, h3, h4⟩
/-- A step of a loop: p is what was passed, f the rest of the loop. -/
theorem Rok.loop {p : Nat × Int} {c : UInt8} {r : List UInt8} {o : Nat} {f : List UInt8 → Nat → Nat × Int} (hp : Rok p 0 (r.length + 1)) (hf : ∀ l o, l.length ≤ r.length → Rok (f l o) o l.length) :
    Rok (if p.2 ≠ 0 then (o + p.1, p.2) else if p.1 = 0 then (0, 0) else f (r.drop (p.1 - 1)) (o + p.1)) o (r.length + 1) := by
  obtain ⟨a, b, c, d⟩ := hp
  split
  · next h => exact ⟨by simp only; omega, fun e => absurd e h, c, d⟩
  · next h =>
    have hb := b (by simpa using h)
    rw [if_neg (by omega)]
    refine (hf (r.drop (p.1 - 1)) (o + p.1) (by simp only [List.length_drop]; omega)).up (by simp only [List.length_drop]; omega) (by omega)
theorem all_ok : ∀ (n : Nat), (∀ (l : List UInt8) (pl : Nat), l.length ≤ n → begB l = true → Rok (con l pl) 0 l.length) ∧ (∀ (l : List UInt8) (pl : Nat), l.length ≤ n → 0 < l.length → Rok (pas l pl) 0 l.length) ∧
    (∀ (l : List UInt8) (o : Nat), l.length ≤ n → Rok (dbl l o) o l.length) ∧ (∀ (l : List UInt8) (o pl : Nat), l.length ≤ n → Rok (brc l o pl) o l.length) ∧
    (∀ (l : List UInt8) (o dep : Nat) (st : Bool), l.length ≤ n → Rok (cmd l o dep st) o l.length) ∧ (∀ (l : List UInt8) (o dep : Nat), l.length ≤ n → Rok (ari l o dep) o l.length) := by
  intro n
  induction n with
  | zero =>
    refine ⟨?_, ?_, ?_, ?_, ?_, ?_⟩
    · intro l pl hl hb
      obtain rfl : l = [] := List.eq_nil_of_length_eq_zero (by omega)
      simp [begB] at hb
    · intro l pl hl h0; omega
    all_goals
      intro l
      intros
      obtain rfl : l = [] := List.eq_nil_of_length_eq_zero (by omega)
      simp [dbl, brc, cmd, ari, Rok]
  | succ n ih =>
    obtain ⟨i1, i2, i3, i4, i5, i6⟩ := ih
    have hcon : ∀ (l : List UInt8) (pl : Nat), l.length ≤ n + 1 → begB l = true → Rok (con l pl) 0 l.length := by
      intro l pl hl hb
      match l, hl, hb with
      | c :: r, hl, hb =>
        simp only [List.length_cons] at hl ⊢
        rw [con.eq_def]
        simp only
        split
        · split
          · exact .mk0 (by omega) (by decide) (by decide) (by decide)
          · exact .mk0 (by omega) (by omega) (by decide) (by decide)
        split
        · exact (sngN_ok r 1).up (by omega) (by omega)
        split
        · exact (i3 r 1 (by omega)).up (by omega) (by omega)
        split
        · exact (bqtN_ok _ r (Nat.le_refl _) 1).up (by omega) (by omega)
        match r, hl, hb with
        | [], hl, hb =>
          exfalso
          simp [begB, dolB] at hb
          omega
        | d :: t, hl, hb =>
          simp only [List.length_cons] at hl ⊢
          split
          · match t, hl with
            | [], hl => exact (i5 [] 2 0 true (by simp)).up (by simp) (by omega)
            | e :: u, hl =>
              simp only [List.length_cons] at hl ⊢
              split
              · exact (i6 u 3 0 (by omega)).up (by omega) (by omega)
              · exact (i5 (e :: u) 2 0 true (by simp only [List.length_cons]; omega)).up (by simp only [List.length_cons]; omega) (by omega)
          split
          · exact (i4 t 2 pl (by omega)).up (by omega) (by omega)
          split
          · have := wordN_le (d :: t)
            simp only [List.length_cons] at this
            exact .mk0 (by omega) (by omega) (by decide) (by decide)
          · exact .mk0 (by omega) (by omega) (by decide) (by decide)
    have hpas : ∀ (l : List UInt8) (pl : Nat), l.length ≤ n + 1 → 0 < l.length → Rok (pas l pl) 0 l.length := by
      intro l pl hl h0
      match l, hl, h0 with
      | c :: r, hl, _ =>
        rw [pas]
        split
        · exact .mk0 (by simp) (by omega) (by decide) (by decide)
        · next h => exact hcon (c :: r) pl hl (by cases hb : begB (c :: r) <;> simp_all)
    refine ⟨hcon, hpas, ?_, ?_, ?_, ?_⟩
    · intro l o hl
      match l, hl with
      | [], _ => simp [dbl, Rok]
      | c :: r, hl =>
        have hp := hpas (c :: r) 1 hl (by simp)
        simp only [List.length_cons] at hl hp ⊢
        rw [dbl]
        split
        · exact .mk0 (by omega) (by omega) (by decide) (by decide)
        · exact Rok.loop (c := c) (f := fun l o => dbl l o) hp (fun l o h => i3 l o (by omega))
    · intro l o pl hl
      match l, hl with
      | [], _ => simp [brc, Rok]
      | c :: r, hl =>
        have hp := hpas (c :: r) pl hl (by simp)
        simp only [List.length_cons] at hl hp ⊢
        rw [brc]
        split
        · exact .mk0 (by omega) (by omega) (by decide) (by decide)
        split
        · exact .mk0 (by omega) (by omega) (by decide) (by decide)
        · exact Rok.loop (c := c) (f := fun l o => brc l o pl) hp (fun l o h => i4 l o pl (by omega))
    · intro l o dep st hl
      match l, hl with
      | [], _ => simp [cmd, Rok]
      | c :: r, hl =>
        have hc := comN_le (c :: r)
        simp only [List.length_cons] at hl hc ⊢
        rw [cmd]
        split
        · next hj =>
          have h1 : 1 ≤ r.length := by
            cases r with
            | nil => simp [joinB] at hj
            | cons d r => simp
          exact (i5 (r.drop 1) (o + 2) dep st (by simp; omega)).up (by simp; omega) (by omega)
        split
        · next hj =>
          have h1 : 1 ≤ comN (c :: r) := by simp only [comN]; rw [if_neg (by omega)]; omega
          exact (i5 _ _ dep st (by simp; omega)).up (by simp; omega) (by omega)
        split
        · next hb =>
          have hp := hcon (c :: r) 0 hl hb
          simp only [List.length_cons] at hp
          exact Rok.loop (c := c) (f := fun l o => cmd l o dep false) hp (fun l o h => i5 l o dep false (by omega))
        split
        · exact .mk0 (by omega) (by omega) (by decide) (by decide)
        · exact (i5 r (o + 1) _ _ (by omega)).up (by omega) (by omega)
    · intro l o dep hl
      match l, hl with
      | [], _ => simp [ari, Rok]
      | c :: r, hl =>
        have hp := hpas (c :: r) 2 hl (by simp)
        simp only [List.length_cons] at hl hp ⊢
        rw [ari.eq_def]
        simp only
        split
        · match r, hl with
          | [], _ => exact .mk0 (by omega) (by omega) (by decide) (by decide)
          | d :: t, _ =>
            simp only [List.length_cons]
            split
            · exact .mk0 (by omega) (by omega) (by decide) (by decide)
            · exact .mk0 (by omega) (by omega) (by decide) (by decide)
        · exact Rok.loop (c := c) (f := fun l o => ari l o _) hp (fun l o h => i6 l o _ (by omega))
theorem con_ok {l : List UInt8} (pl : Nat) (h : begB l = true) : Rok (con l pl) 0 l.length := (all_ok l.length).1 l pl (Nat.le_refl _) h
theorem pas_ok {l : List UInt8} (pl : Nat) (h : 0 < l.length) : Rok (pas l pl) 0 l.length := (all_ok l.length).2.1 l pl (Nat.le_refl _) h
end Go.Proofs.YtgbhjlkenfmadaaDoor
