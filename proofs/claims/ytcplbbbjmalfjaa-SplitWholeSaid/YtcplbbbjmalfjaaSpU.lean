/- Plain facts for the law SplitWhole. -/
import Derived.Test.YtcplbbbjmalfjaaSpE
namespace Go.Proofs.Ytcplbbbjmalfjaa
open Go.RowKit
set_option linter.unusedVariables false
set_option linter.unusedSimpArgs false
theorem cat_runs2 : ∀ (n : Nat) (X : List El), X.length ≤ n → cat (runsOf X) = cat X := by
  intro n
  induction n with
  | zero =>
    intro X hX
    obtain rfl : X = [] := List.eq_nil_of_length_eq_zero (by omega)
    simp [runsOf]
  | succ n ih =>
    intro X hX
    cases X with
    | nil => simp [runsOf]
    | cons x r =>
      have h1 := dropWhile_le (p := fun y => decide (y.k = x.k)) r
      simp only [List.length_cons] at hX
      rw [runsOf, cat, ih _ (by omega), cat, List.append_assoc, ← cat_append, List.takeWhile_append_dropWhile]
theorem divd_now (ifs : List UInt8) : ∀ (n : Nat) (L now : List El), L.length ≤ n → now ≠ [] → divd ifs L now ≠ [] := by
  intro n
  induction n with
  | zero =>
    intro L now hL hn
    obtain rfl : L = [] := List.eq_nil_of_length_eq_zero (by omega)
    rw [divd, fld, if_neg hn]; simp
  | succ n ih =>
    intro L now hL hn
    cases L with
    | nil => rw [divd, fld, if_neg hn]; simp
    | cons x r =>
      have hr : r.length ≤ n := by simpa using hL
      have hs := skW_le ifs r
      have hf : fld now = [now] := by rw [fld, if_neg hn]
      rw [divd, hf]
      split
      · simp
      · split
        · split
          · exact ih _ _ (by omega) hn
          · simp
        · split
          · simp
          · exact ih _ _ hr (by simp)
/-- An element that is neither a separator nor a border makes a field. -/
theorem divd_ne (ifs : List UInt8) (y : El) (h3 : y.k ≠ 3) (hs : sepB ifs y = false) : ∀ (n : Nat) (L now : List El), L.length ≤ n → y ∈ L → divd ifs L now ≠ [] := by
  intro n
  induction n with
  | zero =>
    intro L now hL hy
    obtain rfl : L = [] := List.eq_nil_of_length_eq_zero (by omega)
    cases hy
  | succ n ih =>
    intro L now hL hy
    cases L with
    | nil => cases hy
    | cons x r =>
      have hr : r.length ≤ n := by simpa using hL
      have hsl := skW_le ifs r
      have hmem : y ∈ r → y ∈ skW ifs r := fun h => by
        have hw : whB ifs y = false := by rw [whB, hs]; rfl
        have : ∀ l : List El, y ∈ l → y ∈ l.dropWhile (whB ifs) := fun l => by
          induction l with
          | nil => intro h; cases h
          | cons z q ihq =>
            intro h
            rw [List.dropWhile_cons]
            split
            · next hz =>
              rcases List.mem_cons.1 h with e | e
              · subst e; rw [hw] at hz; cases hz
              · exact ihq e
            · exact h
        exact this r h
      rw [divd]
      rcases List.mem_cons.1 hy with e | e
      · subst e
        have hw : ¬ whB ifs y = true := by rw [whB, hs]; simp
        rw [if_neg h3, if_neg hw, if_neg (by rw [hs]; simp)]
        exact divd_now ifs _ _ _ (Nat.le_refl _) (by simp)
      · split
        · intro h; exact ih _ _ hr e (List.append_eq_nil_iff.1 h).2
        · split
          · split
            · exact ih _ _ (by omega) (hmem e)
            · intro h; exact ih _ _ (by omega) (hmem e) (List.append_eq_nil_iff.1 h).2
          · split
            · simp
            · exact ih _ _ hr e
/-- Nothing divides: one field. -/
theorem divd_one (ifs : List UInt8) : ∀ (L now : List El), (∀ x ∈ L, x.k ≠ 3 ∧ sepB ifs x = false) → divd ifs L now = fld (now ++ L)
  | [], now, _ => by rw [divd, List.append_nil]
  | x :: r, now, h => by
    obtain ⟨h1, h2⟩ := h x (List.mem_cons_self ..)
    have hw : ¬ whB ifs x = true := by rw [whB, h2]; simp
    rw [divd, if_neg h1, if_neg hw, if_neg (by rw [h2]; simp), divd_one ifs r _ (fun y hy => h y (List.mem_cons_of_mem _ hy)), List.append_assoc]
    rfl
def ownB3 (x : El) : Bool := decide (x.k = 0) || decide (x.k = 1) || decide (x.k = 2)
def ownOf (L : List El) : List El := L.filter ownB3
theorem ownB3_iff (x : El) : ownB3 x = true ↔ (x.k = 0 ∨ x.k = 1 ∨ x.k = 2) := by simp [ownB3, or_assoc]
theorem ownOf_take_succ {L : List El} {i : Nat} (h : i < L.length) : ownOf (L.take (i + 1)) = ownOf (L.take i) ++ (if ownB3 L[i] = true then [L[i]] else []) := by
  rw [List.take_succ_eq_append_getElem h, ownOf, List.filter_append]
  congr 1
  cases hk : ownB3 L[i] <;> simp [hk]
theorem ownOf_len (L : List El) : (ownOf L).length ≤ L.length := List.length_filter_le _ _
theorem cat_own (L : List El) : (cat (ownOf L)).length ≤ (cat L).length := by
  induction L with
  | nil => simp [ownOf, cat]
  | cons x r ih =>
    simp only [ownOf, List.filter_cons] at ih ⊢
    split <;> simp only [cat, List.length_append] <;> omega
def quoB (L : List El) : Bool := L.any fun x => decide (x.k = 1)
theorem quo_take_succ {L : List El} {i : Nat} (h : i < L.length) : quoB (L.take (i + 1)) = (quoB (L.take i) || decide (L[i].k = 1)) := by
  rw [List.take_succ_eq_append_getElem h, quoB, List.any_append]; simp [quoB]
theorem elemsOf_own {x : El} (h : x.k = 0 ∨ x.k = 1 ∨ x.k = 2) : cat (elemsOf x) = x.t ∧ (∀ y ∈ elemsOf x, y.k ≠ 3) ∧ (x.k = 1 → elemsOf x ≠ []) := by
  have hm : ∀ (l : List UInt8) (k : Int), cat (l.map fun c => ⟨[c], k⟩) = l := fun l k => by
    induction l with
    | nil => rfl
    | cons c r ih => simp [cat, ih]
  have h3 : ¬ x.k = 3 := by omega
  unfold elemsOf
  rw [if_neg h3, if_pos h]
  split
  · next hq => exact ⟨by simp [cat, hq.1], by simp, by simp⟩
  · next hq =>
    refine ⟨hm _ _, fun y hy => ?_, fun h1 he => hq ⟨?_, h1⟩⟩
    · simp at hy; obtain ⟨c, _, rfl⟩ := hy; exact h3
    · simpa using he
theorem elems_own (O : List El) (h : ∀ x ∈ O, x.k = 0 ∨ x.k = 1 ∨ x.k = 2) : cat (elems O) = cat O ∧ (∀ y ∈ elems O, y.k ≠ 3) ∧ (elems O = [] → quoB O = false) := by
  induction O with
  | nil => exact ⟨rfl, by simp [elems], fun _ => rfl⟩
  | cons x r ih =>
    obtain ⟨a1, a2, a3⟩ := elemsOf_own (h x (List.mem_cons_self ..))
    obtain ⟨b1, b2, b3⟩ := ih (fun y hy => h y (List.mem_cons_of_mem _ hy))
    have e : elems (x :: r) = elemsOf x ++ elems r := by simp [elems]
    rw [e, cat_append, a1, b1]
    refine ⟨rfl, fun y hy => ?_, fun he => ?_⟩
    · rcases List.mem_append.1 hy with h' | h'
      · exact a2 y h'
      · exact b2 y h'
    · obtain ⟨h1, h2⟩ := List.append_eq_nil_iff.1 he
      have hx : ¬ x.k = 1 := fun hk => a3 hk h1
      have hb := b3 h2
      simp only [quoB, List.any_cons] at hb ⊢
      rw [hb]; simp [hx]
theorem quo_own (L : List El) : quoB (ownOf L) = quoB L := by
  induction L with
  | nil => rfl
  | cons x r ih =>
    simp only [quoB, ownOf, List.filter_cons, List.any_cons] at ih ⊢
    cases hx : ownB3 x with
    | true => simp [ih]
    | false =>
      have : ¬ x.k = 1 := fun h => by simp [ownB3, h] at hx
      simp [ih, this]
/-- What the law SplitWhole asks of the fields. -/
theorem whole_one (L : List El) : fieldsOf (ownOf L) [] = [] ∧ quoB L = false ∧ cat (ownOf L) = [] ∨ ∃ f, fieldsOf (ownOf L) [] = [f] ∧ cat f = cat (ownOf L) := by
  have ho : ∀ x ∈ ownOf L, x.k = 0 ∨ x.k = 1 ∨ x.k = 2 := fun x hx => (ownB3_iff x).1 (List.mem_filter.1 hx).2
  obtain ⟨a1, a2, a3⟩ := elems_own _ ho
  have hd := divd_one [] (elems (ownOf L)) [] (fun x hx => ⟨a2 x hx, by
    unfold sepB
    split <;> simp⟩)
  rw [fieldsOf, hd, List.nil_append, fld]
  by_cases he : elems (ownOf L) = []
  · left
    rw [if_pos he]
    refine ⟨rfl, by rw [← quo_own]; exact a3 he, by rw [← a1, he]; rfl⟩
  · right
    rw [if_neg he]
    exact ⟨_, rfl, by rw [cat_runs2 _ _ (Nat.le_refl _), a1]⟩
theorem whole_last (O : List El) (ifs : List UInt8) : 0 < (fieldsOf (O ++ [⟨[], 1⟩]) ifs).length := by
  have h := divd_ne ifs ⟨[], 1⟩ (by simp) (by simp [sepB]) _ (elems (O ++ [⟨[], 1⟩])) [] (Nat.le_refl _) (by
    rw [elems_append]
    exact List.mem_append_right _ (by simp [elems, elemsOf]))
  rw [fieldsOf, List.length_map]
  exact List.length_pos_iff.2 h
theorem cat_snoc (O : List El) : cat (O ++ [⟨[], 1⟩]) = cat O := by rw [cat_append]; simp [cat]
end Go.Proofs.Ytcplbbbjmalfjaa
