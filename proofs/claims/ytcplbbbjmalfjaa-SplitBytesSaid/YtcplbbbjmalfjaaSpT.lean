/- What SplitBytes speaks of, in plain words. -/
import Derived.Test.YtcplbbbjmalfjaaSpJ
namespace Go.Proofs.Ytcplbbbjmalfjaa
open Go.RowKit
set_option linter.unusedVariables false
set_option linter.unusedSimpArgs false
theorem cat_runsT : ∀ (n : Nat) (X : List El), X.length ≤ n → cat (runsOf X) = cat X := by
  intro n
  induction n with
  | zero =>
    intro X hX
    obtain rfl : X = [] := List.eq_nil_of_length_eq_zero (by omega)
    simp [runsOf]
  | succ n ih =>
    intro X hX
    cases X with
    | nil => simp [runsOf]
    | cons x r =>
      have h1 := dropWhile_le (p := fun y => decide (y.k = x.k)) r
      simp only [List.length_cons] at hX
      rw [runsOf, cat, ih _ (by omega), cat, List.append_assoc, ← cat_append, List.takeWhile_append_dropWhile]
def keepC (ifs : List UInt8) (k : Int) (c : UInt8) : Bool := decide (k = 0 ∨ k = 1) || (decide (k = 2) && !ifs.contains c)
def wants (ifs : List UInt8) (L : List El) : List UInt8 := L.flatMap fun x => x.t.filter (keepC ifs x.k)
def catF (F : List (List El)) : List UInt8 := F.flatMap cat
theorem wants_take_succ (ifs : List UInt8) {L : List El} {i : Nat} (h : i < L.length) : wants ifs (L.take (i + 1)) = wants ifs (L.take i) ++ L[i].t.filter (keepC ifs L[i].k) := by
  rw [List.take_succ_eq_append_getElem h, wants, List.flatMap_append]
  simp [wants]
theorem want_len (ifs : List UInt8) (L : List El) : (wants ifs L).length ≤ (cat L).length := by
  induction L with
  | nil => simp [wants]
  | cons x r ih =>
    have := List.length_filter_le (keepC ifs x.k) x.t
    simp only [wants, List.flatMap_cons, List.length_append, cat] at ih ⊢
    omega
theorem wants_take_len (ifs : List UInt8) (L : List El) (i : Nat) : (wants ifs (L.take i)).length ≤ (cat L).length := Nat.le_trans (want_len ifs _) (cat_take_len L i)
theorem filter_take_succ {l : List UInt8} {i : Nat} (p : UInt8 → Bool) (h : i < l.length) : (l.take (i + 1)).filter p = (l.take i).filter p ++ (if p l[i] = true then [l[i]] else []) := by
  rw [List.take_succ_eq_append_getElem h, List.filter_append]
  congr 1
  by_cases hp : p l[i] = true <;> simp [hp]
theorem catF_take_succ {F : List (List El)} {i : Nat} (h : i < F.length) : catF (F.take (i + 1)) = catF (F.take i) ++ cat F[i] := by
  rw [List.take_succ_eq_append_getElem h, catF, List.flatMap_append]
  simp [catF]
theorem catF_take_len (F : List (List El)) (i : Nat) : (catF (F.take i)).length ≤ (catF F).length := by
  have := congrArg List.length (congrArg catF (List.take_append_drop i F))
  rw [catF, List.flatMap_append, List.length_append] at this
  unfold catF at *
  omega
def kpE (ifs : List UInt8) (x : El) : Bool := !decide (x.k = 3) && !sepB ifs x
theorem filter_skW (ifs : List UInt8) (L : List El) : (skW ifs L).filter (kpE ifs) = L.filter (kpE ifs) := by
  induction L with
  | nil => rfl
  | cons x r ih =>
    by_cases h : whB ifs x = true
    · have hs : sepB ifs x = true := by simp only [whB, Bool.and_eq_true] at h; exact h.1
      rw [skW, List.dropWhile_cons, if_pos h, List.filter_cons, if_neg (by simp [kpE, hs])]
      exact ih
    · rw [skW, List.dropWhile_cons, if_neg h]
theorem catF_fld (now : List El) : catF (fld now) = cat now := by
  unfold fld
  split
  · next h => subst h; rfl
  · simp [catF]
theorem catF_append (a b : List (List El)) : catF (a ++ b) = catF a ++ catF b := by simp [catF]
theorem catF_divd (ifs : List UInt8) : ∀ (n : Nat) (X now : List El), X.length ≤ n → catF (divd ifs X now) = cat now ++ cat (X.filter (kpE ifs)) := by
  intro n
  induction n with
  | zero =>
    intro X now hX
    obtain rfl : X = [] := List.eq_nil_of_length_eq_zero (by omega)
    rw [divd, catF_fld]; simp [cat]
  | succ n ih =>
    intro X now hX
    cases X with
    | nil => rw [divd, catF_fld]; simp [cat]
    | cons x r =>
      have hs := skW_le ifs r
      simp only [List.length_cons] at hX
      rw [divd, List.filter_cons]
      split
      · next h => rw [if_neg (by simp [kpE, h]), catF_append, catF_fld, ih r [] (by omega)]; simp [cat]
      next h3 =>
      split
      · next h =>
        have hsp : sepB ifs x = true := by simp only [whB, Bool.and_eq_true] at h; exact h.1
        have hk : kpE ifs x = false := by simp [kpE, hsp]
        rw [hk]
        simp only [Bool.false_eq_true, if_false]
        split
        · rw [ih _ now (by omega), filter_skW]
        · rw [catF_append, catF_fld, ih _ [] (by omega), filter_skW]; simp [cat]
      split
      · next h =>
        rw [if_neg (by simp [kpE, h])]
        show cat now ++ catF (divd ifs (skW ifs r) []) = _
        rw [ih _ [] (by omega), filter_skW]; simp [cat]
      · next h =>
        rw [if_pos (by simp [kpE, h3, h]), ih r _ (by omega), cat_append]
        simp [cat]
theorem cat_kp (ifs : List UInt8) (L : List El) : cat ((elems L).filter (kpE ifs)) = wants ifs L := by
  induction L with
  | nil => rfl
  | cons x r ih =>
    have hx : cat ((elemsOf x).filter (kpE ifs)) = x.t.filter (keepC ifs x.k) := by
      have hm : ∀ (l : List UInt8) (k : Int), k ≠ 3 → cat ((l.map fun c => (⟨[c], k⟩ : El)).filter (kpE ifs)) = l.filter fun c => !(decide (k = 2) && ifs.contains c) := fun l k hk => by
        induction l with
        | nil => rfl
        | cons c r ih2 =>
          rw [List.map_cons, List.filter_cons, List.filter_cons]
          have : kpE ifs ⟨[c], k⟩ = !(decide (k = 2) && ifs.contains c) := by simp [kpE, sepB, hk]
          rw [this]
          split
          · rw [cat, ih2]; rfl
          · exact ih2
      unfold elemsOf
      by_cases h3 : x.k = 3
      · rw [if_pos h3]
        have : x.t.filter (keepC ifs x.k) = [] := by rw [List.filter_eq_nil_iff]; intro c _; simp [keepC, h3]
        rw [this]
        simp [kpE, cat]
      rw [if_neg h3]
      by_cases h0 : x.k = 0 ∨ x.k = 1 ∨ x.k = 2
      · rw [if_pos h0]
        by_cases hq : x.t = [] ∧ x.k = 1
        · rw [if_pos hq, hq.1]
          simp only [List.filter_nil, List.filter_cons]
          split <;> simp [cat]
        · rw [if_neg hq, hm x.t x.k h3]
          congr 1
          funext c
          rcases h0 with h | h | h <;> simp [keepC, h]
      · rw [if_neg h0]
        have : x.t.filter (keepC ifs x.k) = [] := by
          rw [List.filter_eq_nil_iff]; intro c _
          simp only [keepC, Bool.or_eq_true, Bool.and_eq_true, decide_eq_true_eq]
          omega
        rw [this]; rfl
    simp only [elems, wants, List.flatMap_cons, List.filter_append, cat_append] at ih ⊢
    rw [ih, hx]
theorem catF_runs (F : List (List El)) : catF (F.map runsOf) = catF F := by
  induction F with
  | nil => rfl
  | cons f r ih =>
    simp only [catF, List.map_cons, List.flatMap_cons] at ih ⊢
    rw [ih, cat_runsT _ f (Nat.le_refl _)]
theorem runs_head {k : Int} (D : List El) (h : ∀ y t, D = y :: t → ¬ y.k = k) (h0 : 0 < (runsOf D).length) : k ≠ (runsOf D)[0].k := by
  cases D with
  | nil => simp [runsOf] at h0
  | cons y t =>
    have e := runsOf.eq_def (y :: t)
    simp only at e
    simp only [e, List.getElem_cons_zero]
    exact fun e => h y t rfl e.symm
theorem runs_adj : ∀ (n : Nat) (X : List El), X.length ≤ n → ∀ q (h : q + 1 < (runsOf X).length), (runsOf X)[q].k ≠ (runsOf X)[q + 1].k := by
  intro n
  induction n with
  | zero =>
    intro X hX q h
    obtain rfl : X = [] := List.eq_nil_of_length_eq_zero (by omega)
    simp [runsOf] at h
  | succ n ih =>
    intro X hX q h
    cases X with
    | nil => simp [runsOf] at h
    | cons x r =>
      have h1 := dropWhile_le (p := fun y => decide (y.k = x.k)) r
      simp only [List.length_cons] at hX
      have ih' := ih (r.dropWhile fun y => decide (y.k = x.k)) (by omega)
      have hhead := runs_head (k := x.k) (r.dropWhile fun y => decide (y.k = x.k)) (fun y t hd => by
        have := List.head?_dropWhile_not (fun y : El => decide (y.k = x.k)) r
        rw [hd] at this
        simpa using this)
      have e := runsOf.eq_def (x :: r)
      simp only at e
      simp only [e] at h ⊢
      cases q with
      | zero =>
        simp only [List.length_cons] at h
        simp only [List.getElem_cons_zero, List.getElem_cons_succ]
        exact hhead (by omega)
      | succ q =>
        simp only [List.length_cons] at h
        simp only [List.getElem_cons_succ]
        exact ih' q (by omega)
theorem fields_small (L : List El) (ifs : List UInt8) (hL : L.length ≤ 12) (hc : (cat L).length ≤ 80) : (fieldsOf L ifs).length ≤ 93 ∧ (∀ f ∈ fieldsOf L ifs, f.length ≤ 92) ∧ (∀ f ∈ fieldsOf L ifs, ∀ q (h : q + 1 < f.length), f[q].k ≠ f[q + 1].k) ∧ catF (fieldsOf L ifs) = wants ifs L := by
  have h1 := elems_len L
  obtain ⟨b1, b2⟩ := divd_bd ifs _ (elems L) [] (Nat.le_refl _)
  refine ⟨by rw [fieldsOf, List.length_map]; omega, fun f hf => ?_, fun f hf => ?_, ?_⟩
  · simp only [fieldsOf, List.mem_map] at hf
    obtain ⟨g, hg, rfl⟩ := hf
    have := (b2 g hg).1
    have := runsOf_len _ g (Nat.le_refl _)
    simp only [List.length_nil] at *
    omega
  · simp only [fieldsOf, List.mem_map] at hf
    obtain ⟨g, hg, rfl⟩ := hf
    exact runs_adj _ g (Nat.le_refl _)
  · rw [fieldsOf, catF_runs, catF_divd ifs _ _ _ (Nat.le_refl _), cat_kp]; rfl
end Go.Proofs.Ytcplbbbjmalfjaa
