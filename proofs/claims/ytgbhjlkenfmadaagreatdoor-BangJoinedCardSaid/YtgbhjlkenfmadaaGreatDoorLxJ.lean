/- What the lexer computes of a word with a blank, or nothing, in place of what stood behind it. No program is named here. -/
import Derived.Test.YtgbhjlkenfmadaaGreatDoorLxI
namespace Go.Proofs.YtgbhjlkenfmadaaGreatDoor
set_option linter.unusedVariables false
set_option linter.unusedSimpArgs false
def Tl (t : List UInt8) : Prop := t = [] ∨ ∃ c y, t = c :: y ∧ divB c = true
def Tb (t : List UInt8) : Prop := t = [] ∨ ∃ y, t = 32 :: y
theorem wordN_two {t : List UInt8} (ht : Tl t) : ∀ l, wordN (l ++ t) = wordN l := by
  intro l
  induction l with
  | nil =>
    rcases ht with rfl | ⟨c, y, rfl, hc⟩
    · rfl
    · simp only [List.nil_append, wordN]
      rw [if_neg]
      simp only [divB, wordB, decide_eq_true_eq] at hc ⊢
      omega
  | cons c r ih => simp only [List.cons_append, wordN, ih]
theorem Tb.tl {t : List UInt8} (h : Tb t) : Tl t := by
  rcases h with rfl | ⟨y, rfl⟩
  · exact .inl rfl
  · exact .inr ⟨32, y, rfl, by decide⟩
theorem dolB_div {d : UInt8} {y : List UInt8} (hd : divB d = true) (h : d.toNat ≠ 40) : dolB (d :: y) = false := by
  simp only [divB, decide_eq_true_eq] at hd
  simp only [dolB, startsB, specB, Bool.or_eq_false_iff, decide_eq_false_iff_not]
  omega
theorem dolB_tb {t : List UInt8} (h : Tb t) : dolB t = false := by
  rcases h with rfl | ⟨y, rfl⟩
  · rfl
  · exact dolB_div (by decide) (by decide)
/-- Whether a construct begins does not hang on what stands behind, but for a parenthesis behind a dollar. -/
theorem begB_two {t t' : List UInt8} (ht : Tl t) (ht' : Tb t') (c : UInt8) (r : List UInt8) : begB (c :: (r ++ t')) = begB (c :: (r ++ t)) ∨ (r = [] ∧ c.toNat = 36 ∧ ∃ d y, t = d :: y ∧ d.toNat = 40) := by
  cases r with
  | cons d u => exact .inl rfl
  | nil =>
    by_cases hc : c.toNat = 36
    · rcases ht with rfl | ⟨d, y, rfl, hd⟩
      · refine .inl ?_
        simp only [List.nil_append, begB, dolB_tb ht']
        rfl
      · by_cases h40 : d.toNat = 40
        · exact .inr ⟨rfl, hc, d, y, rfl, h40⟩
        · refine .inl ?_
          simp only [List.nil_append, begB, dolB_tb ht', dolB_div hd h40]
    · refine .inl ?_
      simp only [List.nil_append, begB, decide_eq_false hc, Bool.false_and]
theorem cmd_ge {l : List UInt8} {o dep : Nat} {st : Bool} (h : (cmd l o dep st).2 = 0) : o + 1 ≤ (cmd l o dep st).1 := ((all_ok l.length).2.2.2.2.1 l o dep st (Nat.le_refl _)).2.1 h
theorem ari_ge {l : List UInt8} {o dep : Nat} (h : (ari l o dep).2 = 0) : o + 1 ≤ (ari l o dep).1 := ((all_ok l.length).2.2.2.2.2 l o dep (Nat.le_refl _)).2.1 h
theorem dbl_ge {l : List UInt8} {o : Nat} (h : (dbl l o).2 = 0) : o + 1 ≤ (dbl l o).1 := ((all_ok l.length).2.2.1 l o (Nat.le_refl _)).2.1 h
theorem brc_ge {l : List UInt8} {o pl : Nat} (h : (brc l o pl).2 = 0) : o + 1 ≤ (brc l o pl).1 := ((all_ok l.length).2.2.2.1 l o pl (Nat.le_refl _)).2.1 h
/-- Behind a dollar and a parenthesis. -/
theorem con_par {c d : UInt8} {y : List UInt8} {pl : Nat} (hc : c.toNat = 36) (hd : d.toNat = 40) (h : (con (c :: d :: y) pl).2 = 0) : 3 ≤ (con (c :: d :: y) pl).1 := by
  have e1 := con.eq_def (c :: d :: y) pl
  simp only at e1
  rw [if_neg (by omega), if_neg (by omega), if_neg (by omega), if_neg (by omega), if_pos hd] at e1
  rw [e1] at h ⊢
  clear e1
  cases y with
  | nil => simp [cmd] at h
  | cons e u =>
    simp only at h ⊢
    by_cases he : e.toNat = 40
    · simp only [if_pos he] at h ⊢
      have := ari_ge h; omega
    · simp only [if_neg he] at h ⊢
      have := cmd_ge h; omega
section
variable {t t' : List UInt8}
theorem sngN_two (l : List UInt8) : ∀ o, (sngN (l ++ t) o).2 = 0 → (sngN (l ++ t) o).1 ≤ o + l.length → sngN (l ++ t') o = sngN (l ++ t) o := by
  induction l with
  | nil =>
    intro o h hk
    have := (sngN_ok t o).2.1 h
    simp only [List.nil_append, List.length_nil] at *
    omega
  | cons c r ih =>
    intro o h hk
    simp only [sngN, List.cons_append, List.length_cons] at h hk ⊢
    split
    · rfl
    · next hc =>
      rw [if_neg hc] at h hk
      exact ih _ h (by omega)
theorem bqtN_two : ∀ (n : Nat) (l : List UInt8), l.length ≤ n → ∀ o, (bqtN (l ++ t) o).2 = 0 → (bqtN (l ++ t) o).1 ≤ o + l.length → bqtN (l ++ t') o = bqtN (l ++ t) o := by
  intro n
  induction n with
  | zero =>
    intro l hl o h hk
    obtain rfl : l = [] := List.eq_nil_of_length_eq_zero (by omega)
    have := (bqtN_ok _ t (Nat.le_refl _) o).2.1 h
    simp only [List.nil_append, List.length_nil] at *
    omega
  | succ n ih =>
    intro l hl o h hk
    match l, hl, h, hk with
    | [], _, h, hk =>
      have := (bqtN_ok _ t (Nat.le_refl _) o).2.1 h
      simp only [List.nil_append, List.length_nil] at *
      omega
    | [c], _, h, hk =>
      simp only [List.cons_append, List.nil_append, List.length_cons, List.length_nil] at h hk ⊢
      by_cases hc : c.toNat = 96
      · cases t <;> cases t' <;> simp [bqtN, hc]
      · exfalso
        cases t with
        | nil => simp only [bqtN, if_neg hc] at h; split at h <;> simp at h
        | cons d y =>
          simp only [bqtN, if_neg hc] at h hk
          split at h
          · next h9 =>
            rw [if_pos h9] at hk
            have := (bqtN_ok _ y (Nat.le_refl _) (o + 2)).2.1 h
            omega
          · next h9 =>
            rw [if_neg h9] at hk
            have := (bqtN_ok _ (d :: y) (Nat.le_refl _) (o + 1)).2.1 h
            omega
    | c :: d :: r, hl, h, hk =>
      simp only [List.length_cons] at hl
      simp only [bqtN, List.cons_append, List.length_cons] at h hk ⊢
      split
      · rfl
      · next hc =>
        rw [if_neg hc] at h hk
        split
        · next h9 => rw [if_pos h9] at h hk; exact ih r (by omega) _ h (by omega)
        · next h9 => rw [if_neg h9] at h hk; exact ih (d :: r) (by simp; omega) _ h (by simp only [List.length_cons, List.cons_append] at *; omega)
theorem drop_two {x l : List UInt8} {k : Nat} (h : k ≤ l.length) : (l ++ x).drop k = l.drop k ++ x := List.drop_append_of_le_length h
/-- A step of a loop. -/
theorem loop_two {p p' : Nat × Int} {r : List UInt8} {o : Nat} {f : List UInt8 → Nat → Nat × Int} (hp : p.2 = 0 → p.1 ≤ r.length + 1 → p' = p) (h1 : p.2 = 0 → 1 ≤ p.1) (hb : ∀ l o, (f l o).2 = 0 → o ≤ (f l o).1)
    (hf : ∀ l o, l.length ≤ r.length → (∀ c ∈ l, c ∈ r) → (f (l ++ t) o).2 = 0 → (f (l ++ t) o).1 ≤ o + l.length → f (l ++ t') o = f (l ++ t) o)
    (h : (if p.2 ≠ 0 then (o + p.1, p.2) else if p.1 = 0 then (0, 0) else f ((r ++ t).drop (p.1 - 1)) (o + p.1)).2 = 0)
    (hk : (if p.2 ≠ 0 then (o + p.1, p.2) else if p.1 = 0 then (0, 0) else f ((r ++ t).drop (p.1 - 1)) (o + p.1)).1 ≤ o + (r.length + 1)) :
    (if p'.2 ≠ 0 then (o + p'.1, p'.2) else if p'.1 = 0 then (0, 0) else f ((r ++ t').drop (p'.1 - 1)) (o + p'.1)) = if p.2 ≠ 0 then (o + p.1, p.2) else if p.1 = 0 then (0, 0) else f ((r ++ t).drop (p.1 - 1)) (o + p.1) := by
  by_cases h0 : p.2 = 0
  · have h1 := h1 h0
    rw [if_neg (by simpa using h0), if_neg (by omega)] at h hk
    have hb := hb _ _ h
    have hle : p.1 ≤ r.length + 1 := by omega
    rw [hp h0 hle, if_neg (by simpa using h0), if_neg (by omega), if_neg (by simpa using h0), if_neg (by omega)]
    rw [drop_two (by omega)] at h hk
    rw [drop_two (by omega), drop_two (by omega)]
    exact hf _ _ (by simp only [List.length_drop]; omega) (fun c hc => List.mem_of_mem_drop hc) h (by simp only [List.length_drop]; omega)
  · rw [if_pos h0] at h; exact absurd h h0
variable (ht : Tl t) (ht' : Tb t')
include ht ht'
theorem two_all : ∀ (n : Nat), (∀ (l : List UInt8) (pl : Nat), l.length ≤ n → 0 < l.length → (∀ c ∈ l, c.toNat ≠ 35) → begB (l ++ t) = true → (con (l ++ t) pl).2 = 0 → (con (l ++ t) pl).1 ≤ l.length → con (l ++ t') pl = con (l ++ t) pl) ∧ (∀ (l : List UInt8) (pl : Nat), l.length ≤ n → 0 < l.length → (∀ c ∈ l, c.toNat ≠ 35) → (pas (l ++ t) pl).2 = 0 → (pas (l ++ t) pl).1 ≤ l.length → pas (l ++ t') pl = pas (l ++ t) pl) ∧
    (∀ (l : List UInt8) (o : Nat), l.length ≤ n → (∀ c ∈ l, c.toNat ≠ 35) → (dbl (l ++ t) o).2 = 0 → (dbl (l ++ t) o).1 ≤ o + l.length → dbl (l ++ t') o = dbl (l ++ t) o) ∧ (∀ (l : List UInt8) (o pl : Nat), l.length ≤ n → (∀ c ∈ l, c.toNat ≠ 35) → (brc (l ++ t) o pl).2 = 0 → (brc (l ++ t) o pl).1 ≤ o + l.length → brc (l ++ t') o pl = brc (l ++ t) o pl) ∧
    (∀ (l : List UInt8) (o dep : Nat) (st : Bool), l.length ≤ n → (∀ c ∈ l, c.toNat ≠ 35) → (cmd (l ++ t) o dep st).2 = 0 → (cmd (l ++ t) o dep st).1 ≤ o + l.length → cmd (l ++ t') o dep st = cmd (l ++ t) o dep st) ∧ (∀ (l : List UInt8) (o dep : Nat), l.length ≤ n → (∀ c ∈ l, c.toNat ≠ 35) → (ari (l ++ t) o dep).2 = 0 → (ari (l ++ t) o dep).1 ≤ o + l.length → ari (l ++ t') o dep = ari (l ++ t) o dep) := by
  intro n
  induction n with
  | zero =>
    refine ⟨?_, ?_, ?_, ?_, ?_, ?_⟩
    · intro l pl hl h0; omega
    · intro l pl hl h0; omega
    · intro l o hl _ h hk
      obtain rfl : l = [] := List.eq_nil_of_length_eq_zero (by omega)
      have := dbl_ge h; simp only [List.length_nil] at hk; omega
    · intro l o pl hl _ h hk
      obtain rfl : l = [] := List.eq_nil_of_length_eq_zero (by omega)
      have := brc_ge h; simp only [List.length_nil] at hk; omega
    · intro l o dep st hl _ h hk
      obtain rfl : l = [] := List.eq_nil_of_length_eq_zero (by omega)
      have := cmd_ge h; simp only [List.length_nil] at hk; omega
    · intro l o dep hl _ h hk
      obtain rfl : l = [] := List.eq_nil_of_length_eq_zero (by omega)
      have := ari_ge h; simp only [List.length_nil] at hk; omega
  | succ n ih =>
    obtain ⟨i1, i2, i3, i4, i5, i6⟩ := ih
    have hcon : ∀ (l : List UInt8) (pl : Nat), l.length ≤ n + 1 → 0 < l.length → (∀ c ∈ l, c.toNat ≠ 35) → begB (l ++ t) = true → (con (l ++ t) pl).2 = 0 → (con (l ++ t) pl).1 ≤ l.length → con (l ++ t') pl = con (l ++ t) pl := by
      intro l pl hl h0 h35 hb h hk
      match l, hl, h0, h35, hb, h, hk with
      | c :: r, hl, h0, h35, hb, h, hk =>
        have hr35 : ∀ c ∈ r, c.toNat ≠ 35 := fun d hd => h35 d (List.mem_cons_of_mem _ hd)
        simp only [List.length_cons] at hl hk
        have e1 := con.eq_def (c :: (r ++ t)) pl
        have e2 := con.eq_def (c :: (r ++ t')) pl
        simp only at e1 e2
        rw [List.cons_append] at h hk hb
        rw [List.cons_append, List.cons_append, e1, e2]
        by_cases h92 : c.toNat = 92
        · rw [e1] at h hk
          simp only [if_pos h92] at h hk ⊢
          by_cases hz : (r ++ t).length = 0
          · simp only [if_pos hz] at h; cases h
          · simp only [if_neg hz] at h hk ⊢
            have h1 : 1 ≤ r.length := by omega
            rw [if_neg (by simp only [List.length_append]; omega)]
        rw [e1] at h hk
        simp only [if_neg h92] at h hk ⊢
        by_cases h39 : c.toNat = 39
        · simp only [if_pos h39] at h hk ⊢
          exact sngN_two r 1 h (by omega)
        simp only [if_neg h39] at h hk ⊢
        by_cases h34 : c.toNat = 34
        · simp only [if_pos h34] at h hk ⊢
          exact i3 r 1 (by omega) hr35 h (by omega)
        simp only [if_neg h34] at h hk ⊢
        by_cases h96 : c.toNat = 96
        · simp only [if_pos h96] at h hk ⊢
          exact bqtN_two _ r (Nat.le_refl _) 1 h (by omega)
        simp only [if_neg h96] at h hk ⊢
        have h36 : c.toNat = 36 := by simp [begB] at hb; omega
        match r, hl, hr35, hb, h, hk with
        | [], hl, hr35, hb, h, hk =>
          exfalso
          rcases ht with rfl | ⟨d, y, rfl, hd⟩
          · simp [begB, dolB] at hb; omega
          · have hd40 : d.toNat = 40 := by
              by_cases hd40 : d.toNat = 40
              · exact hd40
              · simp only [List.nil_append, begB, dolB_div hd hd40] at hb; simp at hb; omega
            have hc := con_par (c := c) (d := d) (y := y) (pl := pl) h36 hd40
            rw [List.nil_append] at e1
            rw [e1] at hc
            simp only [if_neg h92, if_neg h39, if_neg h34, if_neg h96, List.nil_append, List.length_nil] at h hk hc
            have := hc h
            omega
        | d :: u, hl, hr35, hb, h, hk =>
          simp only [List.length_cons] at hl hk
          simp only [List.cons_append] at h hk ⊢
          by_cases h40 : d.toNat = 40
          · simp only [if_pos h40] at h hk ⊢
            match u, hl, hr35, h, hk with
            | [], hl, hr35, h, hk =>
              exfalso
              rw [List.nil_append] at h hk
              cases t with
              | nil => simp [cmd] at h
              | cons e y =>
                simp only [List.length_nil] at h hk
                by_cases he : e.toNat = 40
                · simp only [if_pos he] at h hk
                  have := ari_ge h; omega
                · simp only [if_neg he] at h hk
                  have := cmd_ge h; omega
            | e :: v, hl, hr35, h, hk =>
              have hv : ∀ c ∈ v, c.toNat ≠ 35 := fun x hx => hr35 x (List.mem_cons_of_mem _ (List.mem_cons_of_mem _ hx))
              have hev : ∀ c ∈ e :: v, c.toNat ≠ 35 := fun x hx => hr35 x (List.mem_cons_of_mem _ hx)
              simp only [List.length_cons] at hl hk
              simp only [List.cons_append] at h hk ⊢
              by_cases h2 : e.toNat = 40
              · simp only [if_pos h2] at h hk ⊢
                exact i6 v 3 0 (by omega) hv h (by omega)
              · simp only [if_neg h2] at h hk ⊢
                exact i5 (e :: v) 2 0 true (by simp only [List.length_cons]; omega) hev h (by simp only [List.length_cons, List.cons_append]; omega)
          simp only [if_neg h40] at h hk ⊢
          by_cases h123 : d.toNat = 123
          · simp only [if_pos h123] at h hk ⊢
            exact i4 u 2 pl (by omega) (fun x hx => hr35 x (List.mem_cons_of_mem _ hx)) h (by omega)
          simp only [if_neg h123] at h hk ⊢
          by_cases hs : startsB d = true
          · simp only [if_pos hs] at h hk ⊢
            rw [← List.cons_append, ← List.cons_append, wordN_two ht, wordN_two ht'.tl]
          · simp only [if_neg hs] at h hk ⊢
    have hpas : ∀ (l : List UInt8) (pl : Nat), l.length ≤ n + 1 → 0 < l.length → (∀ c ∈ l, c.toNat ≠ 35) → (pas (l ++ t) pl).2 = 0 → (pas (l ++ t) pl).1 ≤ l.length → pas (l ++ t') pl = pas (l ++ t) pl := by
      intro l pl hl h0 h35 h hk
      match l, hl, h0, h35, h, hk with
      | c :: r, hl, h0, h35, h, hk =>
        have e1 := pas.eq_def (c :: (r ++ t)) pl
        have e2 := pas.eq_def (c :: (r ++ t')) pl
        simp only at e1 e2
        rw [List.cons_append] at h hk
        rw [List.cons_append, List.cons_append, e1, e2]
        rw [e1] at h hk
        by_cases hc : (pl ≠ 0 ∧ (c.toNat = 39 ∨ c.toNat = 34)) ∨ begB (c :: (r ++ t)) = false
        · rw [if_pos hc]
          rcases begB_two ht ht' c r with hbb | ⟨rfl, h36, d, y, rfl, hd⟩
          · rw [hbb, if_pos hc]
          · exfalso
            rcases hc with hc | hc
            · omega
            · simp [begB, dolB, h36, hd] at hc
        · rw [if_neg hc] at h hk ⊢
          rcases begB_two ht ht' c r with hbb | ⟨rfl, h36, d, y, rfl, hd⟩
          · rw [hbb, if_neg hc]
            have := hcon (c :: r) pl hl h0 h35 (by rw [List.cons_append]; cases hb : begB (c :: (r ++ t)) <;> simp_all) (by rw [List.cons_append]; exact h) (by rw [List.cons_append]; exact hk)
            exact this
          · exfalso
            have := con_par h36 hd h
            simp only [List.length_cons, List.length_nil, List.nil_append] at hk this
            omega
    have hge : ∀ (c : UInt8) (r : List UInt8) (pl : Nat), (pas (c :: r) pl).2 = 0 → 1 ≤ (pas (c :: r) pl).1 := fun c r pl h => by
      obtain ⟨a, b, _, _⟩ := pas_ok (l := c :: r) pl (by simp)
      have := b h; omega
    refine ⟨hcon, hpas, ?_, ?_, ?_, ?_⟩
    · intro l o hl h35 h hk
      match l, hl, h35, h, hk with
      | [], _, _, h, hk => exfalso; have := dbl_ge h; simp only [List.length_nil] at hk; omega
      | c :: r, hl, h35, h, hk =>
        have hr35 : ∀ c ∈ r, c.toNat ≠ 35 := fun d hd => h35 d (List.mem_cons_of_mem _ hd)
        have e1 := dbl.eq_def (c :: (r ++ t)) o
        have e2 := dbl.eq_def (c :: (r ++ t')) o
        simp only at e1 e2
        rw [List.cons_append] at h hk
        rw [List.cons_append, List.cons_append, e1, e2]
        rw [e1] at h hk
        clear e1 e2
        simp only [List.length_cons] at hl hk
        by_cases hc : c.toNat = 34
        · rw [if_pos hc, if_pos hc]
        · rw [if_neg hc] at h hk ⊢
          rw [if_neg hc]
          exact loop_two (p := pas (c :: (r ++ t)) 1) (f := fun l o => dbl l o) (fun h hk => hpas (c :: r) 1 (by simp only [List.length_cons]; omega) (by simp) h35 h (by simpa using hk)) (hge c (r ++ t) 1) (fun l o h => by have := dbl_ge h; omega) (fun l o hl hm h hk => i3 l o (by omega) (fun c hc => hr35 c (hm c hc)) h hk) h hk
    · intro l o pl hl h35 h hk
      match l, hl, h35, h, hk with
      | [], _, _, h, hk => exfalso; have := brc_ge h; simp only [List.length_nil] at hk; omega
      | c :: r, hl, h35, h, hk =>
        have hr35 : ∀ c ∈ r, c.toNat ≠ 35 := fun d hd => h35 d (List.mem_cons_of_mem _ hd)
        have e1 := brc.eq_def (c :: (r ++ t)) o pl
        have e2 := brc.eq_def (c :: (r ++ t')) o pl
        simp only at e1 e2
        rw [List.cons_append] at h hk
        rw [List.cons_append, List.cons_append, e1, e2]
        rw [e1] at h hk
        clear e1 e2
        simp only [List.length_cons] at hl hk
        by_cases hc : c.toNat = 125
        · rw [if_pos hc, if_pos hc]
        rw [if_neg hc] at h hk ⊢
        rw [if_neg hc]
        by_cases hd : c.toNat = 34 ∧ pl = 1
        · rw [if_pos hd, if_pos hd]
        rw [if_neg hd] at h hk ⊢
        rw [if_neg hd]
        exact loop_two (p := pas (c :: (r ++ t)) pl) (f := fun l o => brc l o pl) (fun h hk => hpas (c :: r) pl (by simp only [List.length_cons]; omega) (by simp) h35 h (by simpa using hk)) (hge c (r ++ t) pl) (fun l o h => by have := brc_ge h; omega) (fun l o hl hm h hk => i4 l o pl (by omega) (fun c hc => hr35 c (hm c hc)) h hk) h hk
    · intro l o dep st hl h35 h hk
      match l, hl, h35, h, hk with
      | [], _, _, h, hk => exfalso; have := cmd_ge h; simp only [List.length_nil] at hk; omega
      | c :: r, hl, h35, h, hk =>
        have hr35 : ∀ c ∈ r, c.toNat ≠ 35 := fun d hd => h35 d (List.mem_cons_of_mem _ hd)
        have hc35 : c.toNat ≠ 35 := h35 c List.mem_cons_self
        have e1 := cmd.eq_def (c :: (r ++ t)) o dep st
        have e2 := cmd.eq_def (c :: (r ++ t')) o dep st
        simp only at e1 e2
        rw [List.cons_append] at h hk
        rw [List.cons_append, List.cons_append, e1, e2]
        rw [e1] at h hk
        clear e1 e2
        simp only [List.length_cons] at hl hk
        by_cases hx : c.toNat = 92 ∧ r = []
        · exfalso
          obtain ⟨h92, rfl⟩ := hx
          have hb : begB (c :: ([] ++ t)) = true := by simp [begB, h92]
          simp only [List.nil_append, List.length_nil] at h hk hb
          by_cases hj : joinB (c :: t) = true
          · rw [if_pos hj] at h hk
            have := cmd_ge h; omega
          · rw [if_neg hj, if_neg (fun h => hc35 h.1), if_pos hb] at h hk
            have e := con.eq_def (c :: t) 0
            simp only [if_pos h92] at e
            by_cases hz : t.length = 0
            · rw [if_pos hz] at e
              rw [e] at h
              simp at h
            · rw [if_neg hz] at e
              rw [e, if_neg (by simp), if_neg (by simp)] at h hk
              simp only at h hk
              have := cmd_ge h; omega
        have hj : joinB (c :: (r ++ t')) = joinB (c :: (r ++ t)) := by
          cases r with
          | nil =>
            have h92 : ¬ c.toNat = 92 := fun h => hx ⟨h, rfl⟩
            simp only [List.nil_append]
            cases t <;> cases t' <;> simp [joinB, h92]
          | cons d u => rfl
        rw [hj]
        by_cases h1 : joinB (c :: (r ++ t)) = true
        · rw [if_pos h1] at h hk ⊢
          rw [if_pos h1]
          have h1' : 1 ≤ r.length := by
            cases r with
            | nil =>
              exfalso
              have := cmd_ge h
              simp only [List.length_nil] at hk
              omega
            | cons d r => simp
          rw [drop_two h1'] at h hk
          rw [drop_two h1', drop_two h1']
          exact i5 _ _ _ _ (by simp; omega) (fun c hc => hr35 c (List.mem_of_mem_drop hc)) h (by simp only [List.length_drop]; omega)
        rw [if_neg h1] at h hk ⊢
        rw [if_neg h1]
        have hn : ¬ (c.toNat = 35 ∧ st = true) := fun h => hc35 h.1
        rw [if_neg hn] at h hk ⊢
        rw [if_neg hn]
        rcases begB_two ht ht' c r with hbb | ⟨rfl, h36, d, y, rfl, hd⟩
        rotate_left
        · exfalso
          have hb : begB (c :: ([] ++ d :: y)) = true := by simp [begB, dolB, h36, hd]
          rw [if_pos hb] at h hk
          simp only [List.nil_append, List.length_nil] at h hk
          by_cases he : (con (c :: d :: y) 0).2 = 0
          · have hc := con_par h36 hd he
            rw [if_neg (by simpa using he), if_neg (by omega)] at h hk
            have := cmd_ge h; omega
          · rw [if_pos he] at h; exact he h
        rw [hbb]
        by_cases h3 : begB (c :: (r ++ t)) = true
        · rw [if_pos h3] at h hk ⊢
          rw [if_pos h3]
          obtain ⟨a, b, _, _⟩ := con_ok (l := c :: (r ++ t)) 0 h3
          exact loop_two (p := con (c :: (r ++ t)) 0) (f := fun l o => cmd l o dep false) (fun h hk => hcon (c :: r) 0 (by simp only [List.length_cons]; omega) (by simp) h35 h3 h (by simpa using hk)) (fun h => by have := b h; omega) (fun l o h => by have := cmd_ge h; omega) (fun l o hl hm h hk => i5 l o dep false (by omega) (fun c hc => hr35 c (hm c hc)) h hk) h hk
        rw [if_neg h3] at h hk ⊢
        rw [if_neg h3]
        by_cases h4 : c.toNat = 41 ∧ dep = 0
        · rw [if_pos h4, if_pos h4]
        rw [if_neg h4] at h hk ⊢
        rw [if_neg h4]
        exact i5 _ _ _ _ (by omega) hr35 h (by omega)
    · intro l o dep hl h35 h hk
      match l, hl, h35, h, hk with
      | [], _, _, h, hk => exfalso; have := ari_ge h; simp only [List.length_nil] at hk; omega
      | c :: r, hl, h35, h, hk =>
        have hr35 : ∀ c ∈ r, c.toNat ≠ 35 := fun d hd => h35 d (List.mem_cons_of_mem _ hd)
        have e1 := ari.eq_def (c :: (r ++ t)) o dep
        have e2 := ari.eq_def (c :: (r ++ t')) o dep
        simp only at e1 e2
        rw [List.cons_append] at h hk
        rw [List.cons_append, List.cons_append, e1, e2]
        rw [e1] at h hk
        clear e1 e2
        simp only [List.length_cons] at hl hk
        by_cases hc : c.toNat = 41 ∧ dep = 0
        · rw [if_pos hc] at h hk ⊢
          rw [if_pos hc]
          cases r with
          | nil =>
            exfalso
            cases t with
            | nil => simp at h
            | cons d y =>
              simp only [List.nil_append, List.length_nil] at h hk
              split at h
              · next hd => rw [if_pos hd] at hk; simp only at hk; omega
              · cases h
          | cons d u => rfl
        rw [if_neg hc] at h hk ⊢
        rw [if_neg hc]
        exact loop_two (p := pas (c :: (r ++ t)) 2) (f := fun l o => ari l o _) (fun h hk => hpas (c :: r) 2 (by simp only [List.length_cons]; omega) (by simp) h35 h (by simpa using hk)) (hge c (r ++ t) 2) (fun l o h => by have := ari_ge h; omega) (fun l o hl hm h hk => i6 l o _ (by omega) (fun c hc => hr35 c (hm c hc)) h hk) h hk
theorem wrd_two : ∀ (n : Nat) (l : List UInt8) (o : Nat), l.length ≤ n → (∀ c ∈ l, c.toNat ≠ 35) → (wrd (l ++ t) o).2 = 0 → (wrd (l ++ t) o).1 ≤ o + l.length → wrd (l ++ t') o = wrd (l ++ t) o := by
  have hnil : ∀ o, wrd ([] ++ t') o = wrd ([] ++ t) o := fun o => by
    have h1 : ∀ s, Tl s → wrd s o = (o, 0) := fun s hs => by
      rcases hs with rfl | ⟨c, y, rfl, hc⟩
      · rw [wrd]
      · rw [wrd, if_pos hc]
    rw [List.nil_append, List.nil_append, h1 _ ht, h1 _ ht'.tl]
  intro n
  induction n with
  | zero =>
    intro l o hl _ h hk
    obtain rfl : l = [] := List.eq_nil_of_length_eq_zero (by omega)
    exact hnil o
  | succ n ih =>
    intro l o hl h35 h hk
    cases l with
    | nil => exact hnil o
    | cons c r =>
      have hr35 : ∀ c ∈ r, c.toNat ≠ 35 := fun d hd => h35 d (List.mem_cons_of_mem _ hd)
      have e1 := wrd.eq_def (c :: (r ++ t)) o
      have e2 := wrd.eq_def (c :: (r ++ t')) o
      simp only at e1 e2
      rw [List.cons_append] at h hk
      rw [List.cons_append, List.cons_append, e1, e2]
      rw [e1] at h hk
      clear e1 e2
      simp only [List.length_cons] at hl hk
      by_cases hc : divB c = true
      · rw [if_pos hc, if_pos hc]
      rw [if_neg hc] at h hk ⊢
      rw [if_neg hc]
      obtain ⟨a, b, _, _⟩ := pas_ok (l := c :: (r ++ t)) 0 (by simp)
      exact loop_two (p := pas (c :: (r ++ t)) 0) (f := fun l o => wrd l o) (fun h hk => (two_all ht ht' _).2.1 (c :: r) 0 (Nat.le_refl _) (by simp) h35 h (by simpa using hk)) (fun h => by have := b h; omega) (fun l o h => (wrd_ok _ l o (Nat.le_refl _)).1) (fun l o hl hm h hk => ih l o (by omega) (fun c hc => hr35 c (hm c hc)) h hk) h hk
end
end Go.Proofs.YtgbhjlkenfmadaaGreatDoor
