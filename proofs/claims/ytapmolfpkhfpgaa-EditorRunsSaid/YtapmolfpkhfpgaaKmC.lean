/- Keymap: plain words of bindings. No program is named here. -/
import Derived.Test.YtapmolfpkhfpgaaBase
import Derived.Lib.Bytealg
namespace Go.Proofs.Ytapmolfpkhfpgaa
set_option linter.unusedVariables false
set_option linter.unusedSimpArgs false
/-! ### The order of strings -/
abbrev ltB (a b : List UInt8) : Bool := Go.Op.bytesLess a b
theorem ltB_nil_r (a : List UInt8) : ltB a [] = false := by cases a <;> rfl
theorem ltB_nil_l (b : UInt8) (l : List UInt8) : ltB [] (b :: l) = true := rfl
theorem ltB_cons (a b : UInt8) (x y : List UInt8) : ltB (a :: x) (b :: y) = (decide (a < b) || (a == b && ltB x y)) := rfl
theorem ltB_irr : ∀ a : List UInt8, ltB a a = false
  | [] => rfl
  | a :: x => by rw [ltB_cons, ltB_irr x]; simp
theorem u8_lt {a b : UInt8} : a < b ↔ a.toNat < b.toNat := Iff.rfl
theorem u8_eq {a b : UInt8} : a = b ↔ a.toNat = b.toNat := ⟨fun h => by rw [h], UInt8.toNat_inj.1⟩
theorem ltB_iff (a b : UInt8) (x y : List UInt8) : ltB (a :: x) (b :: y) = true ↔ a.toNat < b.toNat ∨ a.toNat = b.toNat ∧ ltB x y = true := by
  rw [ltB_cons, Bool.or_eq_true, Bool.and_eq_true, decide_eq_true_eq, beq_iff_eq, u8_eq, u8_lt]
theorem ltB_trans : ∀ {a b c : List UInt8}, ltB a b = true → ltB b c = true → ltB a c = true
  | _, [], _, h, _ => by rw [ltB_nil_r] at h; cases h
  | _, _, [], _, h => by rw [ltB_nil_r] at h; cases h
  | [], _ :: _, _ :: _, _, _ => rfl
  | a :: x, b :: y, c :: z, h1, h2 => by
    rw [ltB_iff] at *
    rcases h1 with h1 | ⟨h1, h1'⟩
    · rcases h2 with h2 | ⟨h2, _⟩ <;> (left; omega)
    · rcases h2 with h2 | ⟨h2, h2'⟩
      · left; omega
      · exact .inr ⟨by omega, ltB_trans h1' h2'⟩
theorem ltB_total : ∀ {a b : List UInt8}, ltB a b = false → a ≠ b → ltB b a = true
  | [], [], _, h => absurd rfl h
  | [], _ :: _, h, _ => by cases h
  | _ :: _, [], _, _ => rfl
  | a :: x, b :: y, h, hn => by
    have h' : ¬ ltB (a :: x) (b :: y) = true := by rw [h]; simp
    rw [ltB_iff] at h' ⊢
    rcases Nat.lt_trichotomy a.toNat b.toNat with q | q | q
    · exact absurd (.inl q) h'
    · have e := u8_eq.2 q
      subst e
      refine .inr ⟨rfl, ltB_total ?_ (fun e => hn (by rw [e]))⟩
      cases hx : ltB x y with
      | false => rfl
      | true => exact absurd (.inr ⟨rfl, hx⟩) h'
    · exact .inl q
theorem ltB_asymm {a b : List UInt8} (h : ltB a b = true) : ltB b a = false := by
  cases h' : ltB b a with
  | false => rfl
  | true => have := ltB_trans h h'; rw [ltB_irr] at this; cases this
theorem ltB_ne {a b : List UInt8} (h : ltB a b = true) : a ≠ b := fun e => by rw [e, ltB_irr] at h; cases h
theorem leq_not (a b : List UInt8) : (ltB a b || decide (a = b)) = !ltB b a := by
  by_cases h : ltB a b = true
  · rw [h, ltB_asymm h]; rfl
  · have h : ltB a b = false := by simpa using h
    by_cases e : a = b
    · subst e; rw [ltB_irr]; simp
    · rw [h, ltB_total h e]; simp [e]
/-- What lies between a string and one that begins with it begins with it. -/
theorem pre_between : ∀ {p d x : List UInt8}, ltB p d = true → ltB d x = true → p.isPrefixOf x = true → p.isPrefixOf d = true
  | [], _, _, _, _, _ => by simp
  | a :: p, [], _, h, _, _ => by rw [ltB_nil_r] at h; cases h
  | a :: p, b :: d, [], _, _, h => by simp at h
  | a :: p, b :: d, c :: x, h1, h2, h3 => by
    rw [ltB_iff] at h1 h2
    rw [List.isPrefixOf_cons_cons, Bool.and_eq_true, beq_iff_eq] at h3 ⊢
    obtain ⟨e, h3⟩ := h3
    subst e
    rcases h1 with h1 | ⟨h1, h1'⟩
    · rcases h2 with h2 | ⟨h2, _⟩ <;> omega
    · rcases h2 with h2 | ⟨h2, h2'⟩
      · omega
      · exact ⟨u8_eq.2 h1, pre_between h1' h2' h3⟩
theorem cmp_lt : ∀ (a b : List UInt8), Lib.compareBytes a b = if ltB a b = true then -1 else if a = b then 0 else 1
  | [], [] => rfl
  | [], _ :: _ => rfl
  | _ :: _, [] => rfl
  | a :: x, b :: y => by
    rw [Lib.compareBytes, cmp_lt x y]
    by_cases h : a < b
    · rw [if_pos h, if_pos (by rw [ltB_iff]; exact .inl (u8_lt.1 h))]
    · rw [if_neg h]
      by_cases h2 : b < a
      · rw [if_pos h2, if_neg (by rw [ltB_iff]; rw [u8_lt] at h h2; omega), if_neg (by intro e; injection e with e _; subst e; exact h h2)]
      · rw [if_neg h2]
        rw [u8_lt] at h h2
        have e : a = b := u8_eq.2 (by omega)
        subst e
        have e1 : ltB (a :: x) (a :: y) = ltB x y := by rw [ltB_cons]; simp
        rw [e1]
        simp
/-! ### Bindings -/
structure Bi where
  k : List UInt8
  a : Int
/-- An action. -/
def actB (n : Int) : Bool := decide (1 ≤ n ∧ n ≤ 28)
/-- The error of bindings behind a key. -/
def vdK : Option (List UInt8) → List Bi → Int
  | _, [] => 0
  | p, b :: l => if b.k = [] then 1 else if 16 < b.k.length then 3 else if actB b.a = false then 2 else
    match p with
    | none => vdK (some b.k) l
    | some q => if ltB q b.k = false then 1 else if q.isPrefixOf b.k = true then 9 else vdK (some b.k) l
def vdB (L : List Bi) : Int := if 512 < L.length then 4 else vdK none L
/-- A binding may stand. -/
def okB (b : Bi) : Prop := b.k ≠ [] ∧ b.k.length ≤ 16 ∧ actB b.a = true
/-- Two bindings may stand, the one ahead of the other. -/
def lsB (a b : Bi) : Prop := ltB a.k b.k = true ∧ a.k.isPrefixOf b.k = false
theorem vdK_some (q : List UInt8) : ∀ (L : List Bi), vdK (some q) L = 0 ↔ (∀ b ∈ L, okB b ∧ ltB q b.k = true ∧ q.isPrefixOf b.k = false) ∧ L.Pairwise lsB
  | [] => by simp [vdK]
  | b :: l => by
    rw [vdK, List.forall_mem_cons, List.pairwise_cons]
    by_cases h1 : b.k = []
    · rw [if_pos h1]; simp [okB, h1]
    rw [if_neg h1]
    by_cases h2 : 16 < b.k.length
    · rw [if_pos h2]; simp only [okB]
      exact ⟨fun h => by simp at h, fun h => by omega⟩
    rw [if_neg h2]
    by_cases h3 : actB b.a = false
    · rw [if_pos h3]; simp [okB, h3]
    rw [if_neg h3]
    by_cases h4 : ltB q b.k = false
    · rw [if_pos h4]; simp [h4]
    rw [if_neg h4]
    by_cases h5 : q.isPrefixOf b.k = true
    · rw [if_pos h5]
      exact ⟨fun h => by simp at h, fun h => by rw [h.1.1.2.2] at h5; cases h5⟩
    rw [if_neg h5, vdK_some b.k l]
    have h4 : ltB q b.k = true := by simpa using h4
    have h5 : q.isPrefixOf b.k = false := Bool.eq_false_iff.2 h5
    constructor
    · intro ⟨h, hp⟩
      refine ⟨⟨⟨⟨h1, by omega, by simpa using h3⟩, h4, h5⟩, fun c hc => ⟨(h c hc).1, ltB_trans h4 (h c hc).2.1, ?_⟩⟩, fun c hc => (h c hc).2, hp⟩
      cases hq : q.isPrefixOf c.k with
      | false => rfl
      | true => have := pre_between h4 (h c hc).2.1 hq; rw [h5] at this; cases this
    · intro ⟨⟨_, h⟩, h', hp⟩
      exact ⟨fun c hc => ⟨(h c hc).1, h' c hc⟩, hp⟩
theorem vdK_none (L : List Bi) : vdK none L = 0 ↔ (∀ b ∈ L, okB b) ∧ L.Pairwise lsB := by
  cases L with
  | nil => simp [vdK]
  | cons b l =>
    rw [vdK, List.forall_mem_cons, List.pairwise_cons]
    by_cases h1 : b.k = []
    · rw [if_pos h1]; simp [okB, h1]
    rw [if_neg h1]
    by_cases h2 : 16 < b.k.length
    · rw [if_pos h2]; simp only [okB]
      exact ⟨fun h => by simp at h, fun h => by omega⟩
    rw [if_neg h2]
    by_cases h3 : actB b.a = false
    · rw [if_pos h3]; simp [okB, h3]
    rw [if_neg h3]
    rw [vdK_some]
    exact ⟨fun ⟨h, hp⟩ => ⟨⟨⟨h1, by omega, by simpa using h3⟩, fun c hc => (h c hc).1⟩, fun c hc => (h c hc).2, hp⟩, fun ⟨⟨_, h⟩, h', hp⟩ => ⟨fun c hc => ⟨h c hc, h' c hc⟩, hp⟩⟩
theorem vdB_iff (L : List Bi) : vdB L = 0 ↔ L.length ≤ 512 ∧ (∀ b ∈ L, okB b) ∧ L.Pairwise lsB := by
  unfold vdB
  split
  · exact ⟨fun h => (by cases h), fun h => (by omega)⟩
  · rw [vdK_none]; exact ⟨fun h => ⟨by omega, h⟩, fun h => h.2⟩
/-- What is found. -/
def fnA (L : List Bi) (s : List UInt8) : Int := ((L.find? fun b => decide (b.k = s)).map (·.a)).getD 0
def mrB (s : List UInt8) (b : Bi) : Bool := decide (s.length < b.k.length) && s.isPrefixOf b.k
def fnM (L : List Bi) (s : List UInt8) : Int := if L.any (mrB s) = true then 1 else 0
/-- How many keys are ahead of a key. -/
def posB (L : List Bi) (s : List UInt8) : Nat := (L.takeWhile fun b => ltB b.k s).length
theorem posB_le (L : List Bi) (s : List UInt8) : posB L s ≤ L.length := (List.takeWhile_sublist _).length_le
theorem posB_spec {L : List Bi} (hp : L.Pairwise lsB) (s : List UInt8) (i : Nat) (h : i < L.length) : ltB L[i].k s = true ↔ i < posB L s := by
  unfold posB
  induction L generalizing i with
  | nil => simp at h
  | cons b l ih =>
    rw [List.pairwise_cons] at hp
    rw [List.takeWhile_cons]
    by_cases hb : ltB b.k s = true
    · rw [if_pos hb]
      cases i with
      | zero => simp [hb]
      | succ i =>
        simp only [List.getElem_cons_succ, List.length_cons, Nat.add_lt_add_iff_right]
        exact ih hp.2 i (by simpa using h)
    · rw [if_neg hb]
      cases i with
      | zero => simp [hb]
      | succ i =>
        simp only [List.getElem_cons_succ, List.length_nil, Nat.not_lt_zero, iff_false]
        intro h'
        exact hb (ltB_trans (hp.1 _ (List.getElem_mem (by simpa using h))).1 h')
/-- Whether the key is bound. -/
def hasB (L : List Bi) (s : List UInt8) : Bool := L.any fun b => decide (b.k = s)
theorem has_pos {L : List Bi} (hp : L.Pairwise lsB) (s : List UInt8) : hasB L s = true ↔ ∃ h : posB L s < L.length, L[posB L s].k = s := by
  unfold hasB
  rw [List.any_eq_true]
  constructor
  · rintro ⟨b, hb, e⟩
    have e := of_decide_eq_true e
    obtain ⟨i, hi, rfl⟩ := List.getElem_of_mem hb
    have h1 : ¬ i < posB L s := fun h => by have := (posB_spec hp s i hi).2 h; rw [e, ltB_irr] at this; cases this
    have h2 : posB L s ≤ i := by omega
    have h3 : ¬ posB L s < i := fun h => by
      have h4 := List.pairwise_iff_getElem.1 hp (posB L s) i (by omega) hi h
      have h5 := (posB_spec hp s (posB L s) (by omega)).1 (by have h6 := h4.1; rw [e] at h6; exact h6)
      omega
    have h6 : posB L s = i := by omega
    exact ⟨by omega, by simp only [h6]; exact e⟩
  · rintro ⟨h, e⟩
    exact ⟨_, List.getElem_mem h, by simpa using e⟩
theorem bi_ext {a b : Bi} (h1 : a.k = b.k) (h2 : a.a = b.a) : a = b := by cases a; cases b; simp_all
/-- The bindings of other keys. -/
def rstB (L : List Bi) (s : List UInt8) : List Bi := L.filter fun b => !decide (b.k = s)
theorem rst_not {L : List Bi} {s : List UInt8} (h : hasB L s = false) : rstB L s = L := by
  unfold rstB
  rw [List.filter_eq_self]
  intro b hb
  unfold hasB at h
  rw [List.any_eq_false] at h
  simpa using h b hb
theorem keys_inj {L : List Bi} (hp : L.Pairwise lsB) {i j : Nat} (hi : i < L.length) (hj : j < L.length) (e : L[i].k = L[j].k) : i = j := by
  rcases Nat.lt_trichotomy i j with h | h | h
  · have := (List.pairwise_iff_getElem.1 hp i j hi hj h).1; rw [e, ltB_irr] at this; cases this
  · exact h
  · have := (List.pairwise_iff_getElem.1 hp j i hj hi h).1; rw [e, ltB_irr] at this; cases this
theorem rst_erase {L : List Bi} (hp : L.Pairwise lsB) {s : List UInt8} {i : Nat} (hi : i < L.length) (e : L[i].k = s) : rstB L s = L.take i ++ L.drop (i + 1) := by
  unfold rstB
  have h1 : L = L.take i ++ L[i] :: L.drop (i + 1) := by rw [← List.drop_eq_getElem_cons hi, List.take_append_drop]
  have hf : ∀ j (hj : j < L.length), j ≠ i → (!decide (L[j].k = s)) = true := fun j hj hne => by
    simp only [Bool.not_eq_true', decide_eq_false_iff_not]
    exact fun h => hne (keys_inj hp hj hi (h.trans e.symm))
  conv => lhs; rw [h1]
  rw [List.filter_append, List.filter_cons, if_neg (by simp [e])]
  congr 1
  · rw [List.filter_eq_self]
    intro b hb
    obtain ⟨j, hj, rfl⟩ := List.getElem_of_mem hb
    rw [List.length_take] at hj
    rw [List.getElem_take]
    exact hf j (by omega) (by omega)
  · rw [List.filter_eq_self]
    intro b hb
    obtain ⟨j, hj, rfl⟩ := List.getElem_of_mem hb
    rw [List.length_drop] at hj
    rw [List.getElem_drop]
    exact hf _ (by omega) (by omega)
/-- Whether the key clashes with another one. -/
def clB (s : List UInt8) (b : Bi) : Bool := s.isPrefixOf b.k || b.k.isPrefixOf s
def prpB (a b : List UInt8) : Bool := decide (a.length < b.length) && a.isPrefixOf b
theorem pre_eq {a b : List UInt8} (h : a.isPrefixOf b = true) (hl : b.length ≤ a.length) : a = b := by
  rw [List.isPrefixOf_iff_prefix] at h
  exact h.eq_of_length (by have := h.length_le; omega)
theorem cl_prp (s : List UInt8) (b : Bi) (h : b.k ≠ s) : clB s b = (prpB s b.k || prpB b.k s) := by
  unfold clB prpB
  rw [Bool.eq_iff_iff]
  simp only [Bool.or_eq_true, Bool.and_eq_true, decide_eq_true_eq]
  constructor
  · rintro (h1 | h1)
    · refine .inl ⟨Nat.lt_of_not_le fun hl => h (pre_eq h1 hl).symm, h1⟩
    · refine .inr ⟨Nat.lt_of_not_le fun hl => h (pre_eq h1 hl), h1⟩
  · rintro (⟨_, h1⟩ | ⟨_, h1⟩)
    · exact .inl h1
    · exact .inr h1
theorem prp_self (s : List UInt8) : (prpB s s || prpB s s) = false := by simp [prpB]
theorem clash_eq (L : List Bi) (s : List UInt8) : (rstB L s).any (clB s) = L.any fun b => prpB s b.k || prpB b.k s := by
  unfold rstB
  rw [List.any_filter]
  induction L with
  | nil => rfl
  | cons b l ih =>
    rw [List.any_cons, List.any_cons, ih]
    congr 1
    by_cases h : b.k = s
    · rw [h, prp_self]; simp
    · rw [← cl_prp s b h]; simp [h]
/-- The bindings with another one. -/
def bnd (L : List Bi) (s : List UInt8) (n : Int) : List Bi × Int :=
  if vdB L ≠ 0 then (L, vdB L) else if s = [] then (L, 1) else if 16 < s.length then (L, 3) else if n ≠ 0 ∧ actB n = false then (L, 2)
  else if n = 0 ∧ hasB L s = false then (L, 8) else if n = 0 then (L.take (posB L s) ++ L.drop (posB L s + 1), 0)
  else if (L.any fun b => prpB s b.k || prpB b.k s) = true then (L, 9)
  else if hasB L s = true then (L.take (posB L s) ++ ⟨s, n⟩ :: L.drop (posB L s + 1), 0)
  else if 512 ≤ L.length then (L, 4) else (L.take (posB L s) ++ ⟨s, n⟩ :: L.drop (posB L s), 0)
theorem pw_erase {L : List Bi} (hp : L.Pairwise lsB) (i : Nat) : (L.take i ++ L.drop (i + 1)).Pairwise lsB := by
  refine List.Pairwise.sublist ?_ hp
  have h := List.take_append_drop i L
  conv => rhs; rw [← h]
  refine List.Sublist.append (List.Sublist.refl _) ?_
  rw [← List.drop_drop]
  exact List.drop_sublist 1 _
theorem pw_insert {L : List Bi} {i : Nat} {b : Bi} (hp : (L.take i ++ L.drop i).Pairwise lsB) (h1 : ∀ a ∈ L.take i, lsB a b) (h2 : ∀ c ∈ L.drop i, lsB b c) : (L.take i ++ b :: L.drop i).Pairwise lsB := by
  rw [List.pairwise_append] at hp ⊢
  refine ⟨hp.1, List.pairwise_cons.2 ⟨h2, hp.2.1⟩, fun a ha c hc => ?_⟩
  rcases List.mem_cons.1 hc with rfl | hc
  · exact h1 a ha
  · exact hp.2.2 a ha c hc
theorem mem_take_get {α : Type} {L : List α} {i : Nat} {a : α} (h : a ∈ L.take i) : ∃ j, ∃ hj : j < L.length, j < i ∧ a = L[j] := by
  obtain ⟨j, hj, rfl⟩ := List.getElem_of_mem h
  rw [List.length_take] at hj
  exact ⟨j, by omega, by omega, List.getElem_take⟩
theorem mem_drop_get {α : Type} {L : List α} {i : Nat} {a : α} (h : a ∈ L.drop i) : ∃ j, ∃ hj : j < L.length, i ≤ j ∧ a = L[j] := by
  obtain ⟨j, hj, rfl⟩ := List.getElem_of_mem h
  rw [List.length_drop] at hj
  exact ⟨i + j, by omega, by omega, List.getElem_drop⟩
/-- What is said of a bound key. -/
theorem bnd_spec (L : List Bi) (s : List UInt8) (n : Int) (h : (bnd L s n).2 = 0) : vdB (bnd L s n).1 = 0 ∧ fnA (bnd L s n).1 s = n ∧ (n ≠ 0 → fnM (bnd L s n).1 s = 0) := by
  unfold bnd at h ⊢
  by_cases h1 : vdB L ≠ 0
  · rw [if_pos h1] at h; exact absurd h h1
  rw [if_neg h1] at h ⊢
  obtain ⟨hl, hok, hp⟩ := (vdB_iff L).1 (by simpa using h1)
  by_cases h2 : s = []
  · rw [if_pos h2] at h; cases h
  rw [if_neg h2] at h ⊢
  by_cases h3 : 16 < s.length
  · rw [if_pos h3] at h; cases h
  rw [if_neg h3] at h ⊢
  by_cases h4 : n ≠ 0 ∧ actB n = false
  · rw [if_pos h4] at h; cases h
  rw [if_neg h4] at h ⊢
  by_cases h5 : n = 0 ∧ hasB L s = false
  · rw [if_pos h5] at h; cases h
  rw [if_neg h5] at h ⊢
  have hsp := posB_spec hp s
  have hhas := has_pos hp s
  have hple := posB_le L s
  generalize posB L s = i at *
  by_cases h6 : n = 0
  · rw [if_pos h6]
    subst h6
    have hh : hasB L s = true := by simpa using h5
    obtain ⟨hi, e⟩ := hhas.1 hh
    refine ⟨(vdB_iff _).2 ⟨by simp; omega, fun b hb => ?_, pw_erase hp i⟩, ?_, fun h => absurd rfl h⟩
    · rcases List.mem_append.1 hb with hb | hb
      · exact hok b (List.mem_of_mem_take hb)
      · exact hok b (List.mem_of_mem_drop hb)
    · rw [fnA, List.find?_eq_none.2 ?_]; · rfl
      intro b hb hb'
      have hb' := of_decide_eq_true hb'
      rcases List.mem_append.1 hb with hb | hb
      · obtain ⟨j, hj, hj', rfl⟩ := mem_take_get hb
        have := keys_inj hp hj hi (hb'.trans e.symm); omega
      · obtain ⟨j, hj, hj', rfl⟩ := mem_drop_get hb
        have := keys_inj hp hj hi (hb'.trans e.symm); omega
  rw [if_neg h6] at h ⊢
  by_cases h7 : (L.any fun b => prpB s b.k || prpB b.k s) = true
  · rw [if_pos h7] at h; cases h
  rw [if_neg h7] at h ⊢
  have hcl : ∀ b ∈ L, prpB s b.k = false ∧ prpB b.k s = false := fun b hb => by
    have h7 := List.any_eq_false.1 (Bool.eq_false_iff.2 h7) b hb
    simpa using h7
  have hact : actB n = true := by
    cases hq : actB n with
    | true => rfl
    | false => exact absurd ⟨h6, hq⟩ h4
  have hnew : okB ⟨s, n⟩ := ⟨h2, by show s.length ≤ 16; omega, hact⟩
  have hnp : ∀ b ∈ L, b.k ≠ s → b.k.isPrefixOf s = false ∧ s.isPrefixOf b.k = false := fun b hb hne => by
    have := cl_prp s b hne
    rw [(hcl b hb).1, (hcl b hb).2] at this
    simp only [clB, Bool.or_false, Bool.or_eq_false_iff] at this
    exact ⟨this.2, this.1⟩
  have hbelow : ∀ a ∈ L.take i, lsB a ⟨s, n⟩ := fun a ha => by
    obtain ⟨j, hj, hj', rfl⟩ := mem_take_get ha
    have := (hsp j hj).2 hj'
    exact ⟨this, (hnp _ (List.getElem_mem hj) (ltB_ne this)).1⟩
  have habove : ∀ j (hj : j < L.length), i ≤ j → L[j].k ≠ s → lsB ⟨s, n⟩ L[j] := fun j hj hj' hne => by
    have h8 : ltB L[j].k s = false := by
      cases hq : ltB L[j].k s with
      | false => rfl
      | true => have := (hsp j hj).1 hq; omega
    exact ⟨ltB_total h8 hne, (hnp _ (List.getElem_mem hj) hne).2⟩
  have hmore : ∀ (M : List Bi), (∀ b ∈ M, b.k = s ∨ b ∈ L) → fnM M s = 0 := fun M hM => by
    rw [fnM, if_neg]
    rw [Bool.not_eq_true, List.any_eq_false]
    intro b hb
    rcases hM b hb with e | hb
    · simp [mrB, e]
    · have := (hcl b hb).1; simp only [prpB] at this; simp only [mrB, this]; simp
  have hfind : ∀ (A B : List Bi), (∀ b ∈ A, b.k ≠ s) → fnA (A ++ ⟨s, n⟩ :: B) s = n := fun A B hA => by
    rw [fnA, List.find?_append, List.find?_eq_none.2 (fun b hb => by simpa using hA b hb)]
    simp
  have hAne : ∀ b ∈ L.take i, b.k ≠ s := fun b hb => by
    obtain ⟨j, hj, hj', rfl⟩ := mem_take_get hb
    exact ltB_ne ((hsp j hj).2 hj')
  by_cases h8 : hasB L s = true
  · rw [if_pos h8]
    obtain ⟨hi, e⟩ := hhas.1 h8
    refine ⟨(vdB_iff _).2 ⟨by simp; omega, fun b hb => ?_, ?_⟩, hfind _ _ hAne, fun _ => hmore _ fun b hb => ?_⟩
    · rcases List.mem_append.1 hb with hb | hb
      · exact hok b (List.mem_of_mem_take hb)
      · rcases List.mem_cons.1 hb with rfl | hb
        · exact hnew
        · exact hok b (List.mem_of_mem_drop hb)
    · have hpe := pw_erase hp i
      rw [List.pairwise_append] at hpe ⊢
      refine ⟨hpe.1, List.pairwise_cons.2 ⟨fun c hc => ?_, hpe.2.1⟩, fun a ha c hc => ?_⟩
      · obtain ⟨j, hj, hj', rfl⟩ := mem_drop_get hc
        exact habove j hj (by omega) (fun e' => by have := keys_inj hp hj hi (e'.trans e.symm); omega)
      · rcases List.mem_cons.1 hc with rfl | hc
        · exact hbelow a ha
        · exact hpe.2.2 a ha c hc
    · rcases List.mem_append.1 hb with hb | hb
      · exact .inr (List.mem_of_mem_take hb)
      · rcases List.mem_cons.1 hb with rfl | hb
        · exact .inl rfl
        · exact .inr (List.mem_of_mem_drop hb)
  · rw [if_neg h8] at h ⊢
    by_cases h9 : 512 ≤ L.length
    · rw [if_pos h9] at h; cases h
    rw [if_neg h9]
    refine ⟨(vdB_iff _).2 ⟨by simp; omega, fun b hb => ?_, pw_insert (by rw [List.take_append_drop]; exact hp) hbelow fun c hc => ?_⟩, hfind _ _ hAne, fun _ => hmore _ fun b hb => ?_⟩
    · rcases List.mem_append.1 hb with hb | hb
      · exact hok b (List.mem_of_mem_take hb)
      · rcases List.mem_cons.1 hb with rfl | hb
        · exact hnew
        · exact hok b (List.mem_of_mem_drop hb)
    · obtain ⟨j, hj, hj', rfl⟩ := mem_drop_get hc
      exact habove j hj hj' (fun e => h8 (List.any_eq_true.2 ⟨_, List.getElem_mem hj, by simpa using e⟩))
    · rcases List.mem_append.1 hb with hb | hb
      · exact .inr (List.mem_of_mem_take hb)
      · rcases List.mem_cons.1 hb with rfl | hb
        · exact .inl rfl
        · exact .inr (List.mem_of_mem_drop hb)
/-- How the document places a binding among the others. -/
theorem tw_take {L : List Bi} (hp : L.Pairwise lsB) (s : List UInt8) : ∀ i, i < posB L s → ∃ h : i < L.length, ltB L[i].k s = true := fun i hi => by
  have := posB_le L s
  exact ⟨by omega, (posB_spec hp s i (by omega)).2 hi⟩
theorem pos_rst {L : List Bi} (hp : L.Pairwise lsB) {s : List UInt8} (h : hasB L s = true) : posB (L.take (posB L s) ++ L.drop (posB L s + 1)) s = posB L s := by
  obtain ⟨hi, e⟩ := (has_pos hp s).1 h
  have hpe := pw_erase hp (posB L s)
  have hsp := posB_spec hp s
  have hle := posB_le (L.take (posB L s) ++ L.drop (posB L s + 1)) s
  have hsp2 := posB_spec hpe s
  have hlen : (L.take (posB L s) ++ L.drop (posB L s + 1)).length = L.length - 1 := by simp; omega
  rcases Nat.lt_trichotomy (posB (L.take (posB L s) ++ L.drop (posB L s + 1)) s) (posB L s) with q | q | q
  · have h1 : ¬ ltB ((L.take (posB L s) ++ L.drop (posB L s + 1))[posB (L.take (posB L s) ++ L.drop (posB L s + 1)) s]'(by omega)).k s = true := fun h => Nat.lt_irrefl _ ((hsp2 _ (by omega)).1 h)
    rw [List.getElem_append_left (by rw [List.length_take]; omega), List.getElem_take] at h1
    exact absurd ((hsp _ (by omega)).2 q) h1
  · exact q
  · have h1 := (hsp2 (posB L s) (by omega)).2 q
    rw [List.getElem_append_right (by rw [List.length_take]; omega), List.getElem_drop] at h1
    have := (hsp _ (by rw [List.length_take]; omega)).1 h1
    rw [List.length_take] at this
    omega
end Go.Proofs.Ytapmolfpkhfpgaa
