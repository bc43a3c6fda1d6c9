/- The errors of the lexer's scanning: none, or 6, or 7. No program is named here. -/
import Derived.Test.YtikolicdgkckeaaLxI
namespace Go.Proofs.Ytikolicdgkckeaa
set_option linter.unusedVariables false
set_option linter.unusedSimpArgs false
def E67 (p : Nat × Int) : Prop := p.2 = 0 ∨ p.2 = 6 ∨ p.2 = 7
theorem sngN_e (l : List UInt8) : ∀ o, E67 (sngN l o) := by
  induction l with
  | nil => intro o; exact .inr (.inr rfl)
  | cons c r ih => intro o; simp only [sngN]; split; exact .inl rfl; exact ih _
theorem bqtN_e : ∀ (n : Nat) (l : List UInt8), l.length ≤ n → ∀ o, E67 (bqtN l o) := by
  intro n
  induction n with
  | zero =>
    intro l hl o
    obtain rfl : l = [] := List.eq_nil_of_length_eq_zero (by omega)
    exact .inr (.inr rfl)
  | succ n ih =>
    intro l hl o
    match l, hl with
    | [], _ => exact .inr (.inr rfl)
    | [c], _ => simp only [bqtN]; (repeat' split); exact .inl rfl; exact .inr (.inr rfl); exact .inr (.inr rfl)
    | c :: d :: r, hl =>
      simp only [List.length_cons] at hl
      simp only [bqtN]
      (repeat' split)
      · exact .inl rfl
      · exact ih r (by omega) (o + 2)
      · exact ih (d :: r) (by simp; omega) (o + 1)
theorem E67.loop {p : Nat × Int} {r : List UInt8} {o : Nat} {f : List UInt8 → Nat → Nat × Int} (hp : E67 p) (hf : ∀ l o, l.length ≤ r.length → E67 (f l o)) :
    E67 (if p.2 ≠ 0 then (o + p.1, p.2) else if p.1 = 0 then (0, 0) else f (r.drop (p.1 - 1)) (o + p.1)) := by
  split
  · exact hp
  split
  · exact .inl rfl
  · exact hf _ _ (by simp only [List.length_drop]; omega)
theorem all_e : ∀ (n : Nat), (∀ (l : List UInt8) (pl : Nat), l.length ≤ n → E67 (con l pl)) ∧ (∀ (l : List UInt8) (pl : Nat), l.length ≤ n → E67 (pas l pl)) ∧
    (∀ (l : List UInt8) (o : Nat), l.length ≤ n → E67 (dbl l o)) ∧ (∀ (l : List UInt8) (o pl : Nat), l.length ≤ n → E67 (brc l o pl)) ∧
    (∀ (l : List UInt8) (o dep : Nat) (st : Bool), l.length ≤ n → E67 (cmd l o dep st)) ∧ (∀ (l : List UInt8) (o dep : Nat), l.length ≤ n → E67 (ari l o dep)) := by
  intro n
  induction n with
  | zero =>
    refine ⟨?_, ?_, ?_, ?_, ?_, ?_⟩
    all_goals
      intro l
      intros
      obtain rfl : l = [] := List.eq_nil_of_length_eq_zero (by omega)
      simp [con, pas, dbl, brc, cmd, ari, E67]
  | succ n ih =>
    obtain ⟨i1, i2, i3, i4, i5, i6⟩ := ih
    have hcon : ∀ (l : List UInt8) (pl : Nat), l.length ≤ n + 1 → E67 (con l pl) := by
      intro l pl hl
      match l, hl with
      | [], _ => simp [con, E67]
      | c :: r, hl =>
        simp only [List.length_cons] at hl
        rw [con.eq_def]
        simp only
        split
        · split
          · exact .inr (.inr rfl)
          · exact .inl rfl
        split
        · exact sngN_e r 1
        split
        · exact i3 r 1 (by omega)
        split
        · exact bqtN_e _ r (Nat.le_refl _) 1
        match r, hl with
        | [], _ => exact .inl rfl
        | d :: t, hl =>
          simp only [List.length_cons] at hl
          simp only
          split
          · match t, hl with
            | [], hl => exact i5 [] 2 0 true (by simp)
            | e :: u, hl =>
              simp only [List.length_cons] at hl
              simp only
              split
              · exact i6 u 3 0 (by omega)
              · exact i5 (e :: u) 2 0 true (by simp only [List.length_cons]; omega)
          split
          · exact i4 t 2 pl (by omega)
          split
          · exact .inl rfl
          · exact .inl rfl
    have hpas : ∀ (l : List UInt8) (pl : Nat), l.length ≤ n + 1 → E67 (pas l pl) := by
      intro l pl hl
      match l, hl with
      | [], _ => simp [pas, E67]
      | c :: r, hl =>
        rw [pas]
        split
        · exact .inl rfl
        · exact hcon (c :: r) pl hl
    refine ⟨hcon, hpas, ?_, ?_, ?_, ?_⟩
    · intro l o hl
      match l, hl with
      | [], _ => simp [dbl, E67]
      | c :: r, hl =>
        have hp := hpas (c :: r) 1 hl
        simp only [List.length_cons] at hl
        rw [dbl]
        split
        · exact .inl rfl
        · exact E67.loop (f := fun l o => dbl l o) hp (fun l o h => i3 l o (by omega))
    · intro l o pl hl
      match l, hl with
      | [], _ => simp [brc, E67]
      | c :: r, hl =>
        have hp := hpas (c :: r) pl hl
        simp only [List.length_cons] at hl
        rw [brc]
        split
        · exact .inl rfl
        split
        · exact .inr (.inl rfl)
        · exact E67.loop (f := fun l o => brc l o pl) hp (fun l o h => i4 l o pl (by omega))
    · intro l o dep st hl
      match l, hl with
      | [], _ => simp [cmd, E67]
      | c :: r, hl =>
        have hp := hcon (c :: r) 0 hl
        simp only [List.length_cons] at hl
        rw [cmd]
        split
        · exact i5 (r.drop 1) (o + 2) dep st (by simp only [List.length_drop]; omega)
        split
        · exact i5 _ _ dep st (by simp only [List.length_drop]; omega)
        split
        · exact E67.loop (f := fun l o => cmd l o dep false) hp (fun l o h => i5 l o dep false (by omega))
        split
        · exact .inl rfl
        · exact i5 r (o + 1) _ _ (by omega)
    · intro l o dep hl
      match l, hl with
      | [], _ => simp [ari, E67]
      | c :: r, hl =>
        have hp := hpas (c :: r) 2 hl
        simp only [List.length_cons] at hl
        rw [ari.eq_def]
        simp only
        split
        · match r, hl with
          | [], _ => exact .inr (.inr rfl)
          | d :: t, _ =>
            simp only
            split
            · exact .inl rfl
            · exact .inr (.inl rfl)
        · exact E67.loop (f := fun l o => ari l o _) hp (fun l o h => i6 l o _ (by omega))
theorem wrd_e : ∀ (n : Nat) (l : List UInt8) (o : Nat), l.length ≤ n → E67 (wrd l o) := by
  intro n
  induction n with
  | zero =>
    intro l o hl
    obtain rfl : l = [] := List.eq_nil_of_length_eq_zero (by omega)
    simp [wrd, E67]
  | succ n ih =>
    intro l o hl
    cases l with
    | nil => simp [wrd, E67]
    | cons c r =>
      have hp := (all_e (r.length + 1)).2.1 (c :: r) 0 (by simp)
      simp only [List.length_cons] at hl
      rw [wrd]
      split
      · exact .inl rfl
      · exact E67.loop (f := fun l o => wrd l o) hp (fun l o h => ih l o (by omega))
theorem nextF_e {s : List UInt8} {z : Int} (h : ¬ 16384 < s.length) : (nextF s z).2 = 0 ∨ (nextF s z).2 = 6 ∨ (nextF s z).2 = 7 := by
  unfold nextF
  rw [if_neg h]
  generalize skp s z = a
  rcases Nat.lt_or_ge a s.length with hal | hal
  · by_cases h10 : s[a].toNat = 10
    · rw [nxt_nl hal h10]; exact .inl rfl
    rcases hopn : opN (s.drop a) with _ | k
    · rcases hw : wrd (s.drop a) 0 with ⟨w, e⟩
      have := wrd_e _ (s.drop a) 0 (Nat.le_refl _)
      rw [hw] at this
      by_cases he : e = 0
      · subst he
        rw [nxt_word hal h10 hopn hw]; exact .inl rfl
      · rw [nxt_err hal h10 hopn hw he]; exact this
    · rw [nxt_op hal h10 hopn]; exact .inl rfl
  · rw [nxt_end hal]; exact .inl rfl
theorem allT_e {s : List UInt8} (h : ¬ 16384 < s.length) : ∀ (n a : Nat), (allT s n a).2.2 = 0 ∨ (allT s n a).2.2 = 6 ∨ (allT s n a).2.2 = 7
  | 0, _ => .inl rfl
  | n + 1, a => by
    have := allT_e h n (nextF s a).1.fin
    rw [allT]
    split
    · exact nextF_e h
    split
    · exact .inl rfl
    split
    · exact this
    · exact .inl rfl
end Go.Proofs.Ytikolicdgkckeaa
