/- Keymap: plain words of the notation of keys. No program is named here. -/
import Derived.Test.YtoncfnbgajnhgaaDoorBase
namespace Go.Proofs.YtoncfnbgajnhgaaDoor
set_option linter.unusedVariables false
set_option linter.unusedSimpArgs false
abbrev hexD : List UInt8 := [48, 49, 50, 51, 52, 53, 54, 55, 56, 57, 97, 98, 99, 100, 101, 102]
/-- The value of a hexadecimal digit, or -1. -/
def digV (c : UInt8) : Int := if 48 ≤ c.toNat ∧ c.toNat ≤ 57 then (c.toNat : Int) - 48 else if 97 ≤ c.toNat ∧ c.toNat ≤ 102 then (c.toNat : Int) - 97 + 10 else -1
/-- The key of an escape of one byte, or -1. -/
def plnV (c : UInt8) : Int := if c.toNat = 101 then 27 else if c.toNat = 100 then 127 else if c.toNat = 116 then 9 else if c.toNat = 110 then 10 else if c.toNat = 92 then 92 else -1
/-- A form: its key, its length, its error. -/
abbrev Fm := Nat × Nat × Int
def hexF : List UInt8 → Fm
  | [] => (0, 0, 7)
  | a :: r => if digV a < 0 then (0, 0, 6) else match r with
    | [] => (0, 0, 7)
    | b :: _ => if digV b < 0 then (0, 0, 6) else ((16 * digV a + digV b).toNat, 4, 0)
def ctlF : List UInt8 → Fm
  | [] => (0, 0, 7)
  | a :: r => if a.toNat ≠ 45 then (0, 0, 6) else match r with
    | [] => (0, 0, 7)
    | b :: _ => if b.toNat < 97 ∨ 122 < b.toNat then (0, 0, 6) else (b.toNat - 96, 4, 0)
def metF : List UInt8 → Fm
  | [] => (0, 0, 7)
  | a :: _ => if a.toNat ≠ 45 then (0, 0, 6) else (27, 3, 0)
def escF : List UInt8 → Fm
  | [] => (0, 0, 7)
  | d :: r => if 0 ≤ plnV d then ((plnV d).toNat, 2, 0) else if d.toNat = 120 then hexF r else if d.toNat = 67 then ctlF r else if d.toNat = 77 then metF r else (0, 0, 6)
def frm : List UInt8 → Fm
  | [] => (0, 0, 7)
  | c :: r => if c.toNat ≠ 92 then (c.toNat, 1, 0) else escF r
theorem digV_lt (c : UInt8) : digV c ≤ 15 ∧ -1 ≤ digV c := by unfold digV; (repeat' split) <;> omega
/-- Key, length and error of what follows k bytes are in range. -/
def okF (k : Nat) (l : List UInt8) (x : Fm) : Prop := x.1 ≤ 255 ∧ (x.2.2 = 0 → 1 ≤ x.2.1 ∧ x.2.1 ≤ l.length + k ∧ x.2.1 ≤ 4 ∧ (x.2.1 = 3 → x.1 = 27)) ∧ 0 ≤ x.2.2 ∧ x.2.2 ≤ 7
theorem okF_err (k : Nat) (l : List UInt8) (e : Int) (h : 0 < e ∧ e ≤ 7) : okF k l (0, 0, e) := ⟨by simp, fun h' => by simp at h'; omega, by simp only; omega, by simp only; omega⟩
theorem okF_mk (k : Nat) (l : List UInt8) (a n : Nat) (h : a ≤ 255) (h1 : 1 ≤ n) (h2 : n ≤ l.length + k) (h3 : n ≤ 4) (h4 : n = 3 → a = 27) : okF k l (a, n, 0) := ⟨h, fun _ => ⟨h1, h2, h3, h4⟩, Int.le_refl _, by simp⟩
theorem hexF_ok : ∀ l : List UInt8, okF 2 l (hexF l)
  | [] => okF_err _ _ _ (by omega)
  | [a] => by
    rw [hexF]
    split
    · exact okF_err _ _ _ (by omega)
    · exact okF_err _ _ _ (by omega)
  | a :: b :: r => by
    have h1 := digV_lt a
    have h2 := digV_lt b
    rw [hexF]
    split
    · exact okF_err _ _ _ (by omega)
    split
    · exact okF_err _ _ _ (by omega)
    · exact okF_mk _ _ _ _ (by omega) (by omega) (by simp) (by omega) (by omega)
theorem ctlF_ok : ∀ l : List UInt8, okF 2 l (ctlF l)
  | [] => okF_err _ _ _ (by omega)
  | [a] => by
    rw [ctlF]
    split
    · exact okF_err _ _ _ (by omega)
    · exact okF_err _ _ _ (by omega)
  | a :: b :: r => by
    have := UInt8.toNat_lt b
    rw [ctlF]
    split
    · exact okF_err _ _ _ (by omega)
    split
    · exact okF_err _ _ _ (by omega)
    · exact okF_mk _ _ _ _ (by omega) (by omega) (by simp) (by omega) (by omega)
theorem metF_ok : ∀ l : List UInt8, okF 2 l (metF l)
  | [] => okF_err _ _ _ (by omega)
  | a :: r => by
    rw [metF]
    split
    · exact okF_err _ _ _ (by omega)
    · exact okF_mk _ _ _ _ (by omega) (by omega) (by simp) (by omega) (by omega)
theorem okF_cons {k : Nat} {d : UInt8} {l : List UInt8} {x : Fm} (h : okF (k + 1) l x) : okF k (d :: l) x := by
  unfold okF at *
  rw [List.length_cons]
  exact ⟨h.1, fun h' => by have := h.2.1 h'; omega, h.2.2⟩
theorem escF_ok : ∀ l : List UInt8, okF 1 l (escF l)
  | [] => okF_err _ _ _ (by omega)
  | d :: r => by
    rw [escF]
    split
    · have : plnV d ≤ 127 := by unfold plnV; (repeat' split) <;> omega
      exact okF_mk _ _ _ _ (by omega) (by omega) (by simp) (by omega) (by omega)
    split
    · exact okF_cons (hexF_ok r)
    split
    · exact okF_cons (ctlF_ok r)
    split
    · exact okF_cons (metF_ok r)
    · exact okF_err _ _ _ (by omega)
theorem frm_okF : ∀ l : List UInt8, okF 0 l (frm l)
  | [] => okF_err _ _ _ (by omega)
  | c :: r => by
    have hc := UInt8.toNat_lt c
    rw [frm]
    split
    · exact okF_mk _ _ _ _ (by omega) (by omega) (by simp) (by omega) (by omega)
    · exact okF_cons (escF_ok r)
theorem frm_ok (l : List UInt8) : (frm l).1 ≤ 255 ∧ ((frm l).2.2 = 0 → 1 ≤ (frm l).2.1 ∧ (frm l).2.1 ≤ l.length ∧ (frm l).2.1 ≤ 4) ∧ 0 ≤ (frm l).2.2 ∧ (frm l).2.2 ≤ 7 := by
  have h := frm_okF l
  exact ⟨h.1, fun h' => by have := h.2.1 h'; omega, h.2.2⟩
theorem frm_meta (l : List UInt8) (h1 : (frm l).2.2 = 0) (h2 : (frm l).2.1 = 3) : (frm l).1 = 27 := ((frm_okF l).2.1 h1).2.2.2 h2
/-- The keys of a notation, as the program has them: the keys so far, whether the last form was \M-. -/
def prs (fuel : Nat) (acc : List UInt8) (meta_ : Bool) (l : List UInt8) : List UInt8 × Int :=
  match fuel with
  | 0 => ([], 0)
  | n + 1 => match l with
    | [] => if meta_ = true then ([], 7) else if 16 < acc.length then ([], 3) else (acc, 0)
    | c :: r => if (frm (c :: r)).2.2 ≠ 0 then ([], (frm (c :: r)).2.2) else prs n (acc ++ [UInt8.ofNat (frm (c :: r)).1]) (decide ((frm (c :: r)).2.1 = 3)) ((c :: r).drop (frm (c :: r)).2.1)
def prsF (l : List UInt8) : List UInt8 × Int := prs (l.length + 1) [] false l
/-- A form of the document: its keys, its length, its error. -/
def rfm (fuel : Nat) (l : List UInt8) : List UInt8 × Nat × Int :=
  match fuel with
  | 0 => ([], 0, 7)
  | n + 1 => if (frm l).2.2 ≠ 0 then ([], 0, (frm l).2.2) else if (frm l).2.1 = 3 then
      (if (rfm n (l.drop 3)).2.2 ≠ 0 then ([], 0, (rfm n (l.drop 3)).2.2) else (27 :: (rfm n (l.drop 3)).1, 3 + (rfm n (l.drop 3)).2.1, 0)) else ([UInt8.ofNat (frm l).1], (frm l).2.1, 0)
def rfmF (l : List UInt8) : List UInt8 × Nat × Int := rfm (l.length + 1) l
theorem rfm_fuel : ∀ (n m : Nat) (l : List UInt8), l.length < n → l.length < m → rfm n l = rfm m l
  | 0, _, _, h, _ => by omega
  | _, 0, _, _, h => by omega
  | n + 1, m + 1, l, h1, h2 => by
    have hok := frm_ok l
    rw [rfm, rfm]
    split
    · rfl
    · split
      · next h3 h4 =>
        have := hok.2.1 (by simpa using h3)
        rw [rfm_fuel n m (l.drop 3) (by rw [List.length_drop]; omega) (by rw [List.length_drop]; omega)]
      · rfl
theorem rfmF_eq (l : List UInt8) : rfmF l = if (frm l).2.2 ≠ 0 then ([], 0, (frm l).2.2) else if (frm l).2.1 = 3 then
      (if (rfmF (l.drop 3)).2.2 ≠ 0 then ([], 0, (rfmF (l.drop 3)).2.2) else (27 :: (rfmF (l.drop 3)).1, 3 + (rfmF (l.drop 3)).2.1, 0)) else ([UInt8.ofNat (frm l).1], (frm l).2.1, 0) := by
  have hok := frm_ok l
  unfold rfmF
  rw [rfm]
  split
  · rfl
  · split
    · next h3 h4 =>
      have := hok.2.1 (by simpa using h3)
      rw [rfm_fuel l.length ((l.drop 3).length + 1) (l.drop 3) (by rw [List.length_drop]; omega) (by rw [List.length_drop]; omega)]
    · rfl
theorem rfmF_ok : ∀ (n : Nat) (l : List UInt8), l.length ≤ n → ((rfmF l).2.2 = 0 → 1 ≤ (rfmF l).2.1 ∧ (rfmF l).2.1 ≤ l.length) ∧ (rfmF l).1.length ≤ l.length + 1
  | n, l, h => by
    have hok := frm_ok l
    rw [rfmF_eq]
    split
    · exact ⟨fun h' => absurd h' (by assumption), by simp⟩
    · next h3 =>
      have h3 : (frm l).2.2 = 0 := by simpa using h3
      have h5 := hok.2.1 h3
      split
      · next h4 =>
        match n with
        | 0 => omega
        | n + 1 =>
          have ih := rfmF_ok n (l.drop 3) (by rw [List.length_drop]; omega)
          rw [List.length_drop] at ih
          split
          · exact ⟨fun h' => absurd h' (by assumption), by simp⟩
          · next h6 =>
            have h6 : (rfmF (l.drop 3)).2.2 = 0 := by simpa using h6
            have := ih.1 h6
            refine ⟨fun _ => by simp only; omega, by simp only [List.length_cons]; omega⟩
      · exact ⟨fun _ => by simp only; omega, by simp⟩
/-- The keys of a notation, as the document has them. -/
def rps (fuel : Nat) (acc : List UInt8) (l : List UInt8) : List UInt8 × Int :=
  match fuel with
  | 0 => ([], 0)
  | n + 1 => match l with
    | [] => if 16 < acc.length then ([], 3) else (acc, 0)
    | c :: r => if (rfmF (c :: r)).2.2 ≠ 0 then ([], (rfmF (c :: r)).2.2) else rps n (acc ++ (rfmF (c :: r)).1) ((c :: r).drop (rfmF (c :: r)).2.1)
theorem rps_fuel : ∀ (n m : Nat) (acc l : List UInt8), l.length < n → l.length < m → rps n acc l = rps m acc l
  | 0, _, _, _, h, _ => by omega
  | _, 0, _, _, _, h => by omega
  | n + 1, m + 1, acc, l, h1, h2 => by
    match l with
    | [] => rfl
    | c :: r =>
      have hok := rfmF_ok _ (c :: r) (Nat.le_refl _)
      rw [rps, rps]
      split
      · rfl
      · next h3 =>
        have := hok.1 (by simpa using h3)
        exact rps_fuel n m _ _ (by rw [List.length_drop]; simp only [List.length_cons] at *; omega) (by rw [List.length_drop]; simp only [List.length_cons] at *; omega)
theorem prs_fuel : ∀ (n m : Nat) (acc : List UInt8) (b : Bool) (l : List UInt8), l.length < n → l.length < m → prs n acc b l = prs m acc b l
  | 0, _, _, _, _, h, _ => by omega
  | _, 0, _, _, _, _, h => by omega
  | n + 1, m + 1, acc, b, l, h1, h2 => by
    match l with
    | [] => rfl
    | c :: r =>
      have hok := frm_ok (c :: r)
      rw [prs, prs]
      split
      · rfl
      · next h3 =>
        have := hok.2.1 (by simpa using h3)
        exact prs_fuel n m _ _ _ (by rw [List.length_drop]; simp only [List.length_cons] at *; omega) (by rw [List.length_drop]; simp only [List.length_cons] at *; omega)
/-- Both say the same. -/
theorem prs_rps : ∀ (n : Nat) (acc : List UInt8) (l : List UInt8), l.length < n → prs n acc false l = rps n acc l
  | 0, _, _, h => by omega
  | n + 1, acc, l, h => by
    match l with
    | [] => rfl
    | c :: r =>
      have hok := frm_ok (c :: r)
      rw [prs, rps, rfmF_eq]
      by_cases h1 : (frm (c :: r)).2.2 ≠ 0
      · rw [if_pos h1, if_pos h1, if_pos (by simpa using h1)]
      · rw [if_neg h1, if_neg h1]
        have h2 := hok.2.1 (by simpa using h1)
        by_cases h3 : (frm (c :: r)).2.1 = 3
        · rw [if_pos h3, h3]
          have hk := frm_meta (c :: r) (by simpa using h1) h3
          rw [hk]
          have hd : ((c :: r).drop 3).length < n := by rw [List.length_drop]; simp only [List.length_cons] at *; omega
          generalize hl' : (c :: r).drop 3 = l' at *
          match l', hl', hd with
          | [], hl', hd =>
            match n, hd with
            | n + 1, _ =>
              rw [prs, if_pos (by simp), rfmF_eq, if_pos (by simp [frm])]
              simp [frm]
          | c' :: r', hl', hd =>
            have ih := prs_rps n (acc ++ [27]) (c' :: r') hd
            have hsw : ∀ b, prs n (acc ++ [UInt8.ofNat 27]) b (c' :: r') = prs n (acc ++ [27]) false (c' :: r') := fun b => by
              match n, hd with
              | n + 1, _ => rw [prs, prs]; rfl
            rw [hsw, ih]
            match n, hd with
            | n + 1, hd =>
              have hok' := rfmF_ok _ (c' :: r') (Nat.le_refl _)
              rw [rps]
              by_cases h4 : (rfmF (c' :: r')).2.2 ≠ 0
              · rw [if_pos h4, if_pos h4, if_pos (by simpa using h4)]
              · rw [if_neg h4, if_neg h4]
                simp only [ne_eq, not_true_eq_false, if_false]
                have h5 := hok'.1 (by simpa using h4)
                rw [← List.drop_drop, hl', List.append_assoc]
                simp only [List.cons_append, List.nil_append]
                refine rps_fuel n (n + 1) _ _ ?_ ?_
                · rw [List.length_drop]; simp only [List.length_cons] at *; omega
                · rw [List.length_drop]; simp only [List.length_cons] at *; omega
        · rw [if_neg h3]
          simp only [ne_eq, not_true_eq_false, if_false, h3, decide_false]
          exact prs_rps n _ _ (by rw [List.length_drop]; simp only [List.length_cons] at *; omega)
end Go.Proofs.YtoncfnbgajnhgaaDoor
