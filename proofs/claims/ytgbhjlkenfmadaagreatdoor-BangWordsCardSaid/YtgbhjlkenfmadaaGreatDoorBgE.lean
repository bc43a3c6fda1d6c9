/- The library's strings functions that bang calls, for the abstract machine. -/
import Derived.Test.YtgbhjlkenfmadaaGreatDoorBgC
import Derived.Test.YtgbhjlkenfmadaaGreatDoorShf
import Derived.Test.YtgbhjlkenfmadaaGreatDoorSid
import Derived.Test.YtgbhjlkenfmadaaGreatDoorCom
import Derived.Test.YtgbhjlkenfmadaaGreatDoorStr
namespace Go.Proofs.YtgbhjlkenfmadaaGreatDoor
open Go.RowKit
set_option linter.unusedVariables false
set_option linter.unusedSimpArgs false
/-! ### The library's words and ours -/
theorem lib_index (p : List UInt8) : ∀ s, Lib.index s p = ixI p s
  | [] => by
    unfold Lib.index ixI ixN
    cases p <;> rfl
  | c :: r => by
    have ih := lib_index p r
    unfold Lib.index
    unfold ixI at ih ⊢
    rw [ixN, ih]
    by_cases h : p.isPrefixOf (c :: r) = true
    · rw [if_pos h, if_pos h]; rfl
    · rw [if_neg h, if_neg h]
      cases ixN p r with
      | none => rfl
      | some k =>
        simp only [Option.map_some]
        rw [if_neg (by simp)]
        omega
theorem lib_contains (p s : List UInt8) : Lib.contains s p = (ixN p s).isSome := by
  unfold Lib.contains
  rw [lib_index]
  unfold ixI
  cases ixN p s with
  | none => rfl
  | some k => simp
def cutN (p s : List UInt8) : List UInt8 × List UInt8 × Bool := match ixN p s with
  | none => (s, [], false)
  | some k => (s.take k, s.drop (k + p.length), true)
theorem lib_cut (p s : List UInt8) : Lib.cut s p = cutN p s := by
  unfold Lib.cut cutN
  rw [lib_index]
  unfold ixI
  cases ixN p s with
  | none => rfl
  | some k => simp
theorem lib_last (c : UInt8) (l : List UInt8) : ∀ k, k ≤ l.length → Lib.lastIdx (str l) c.toNat k = lsN c (l.take k)
  | 0, _ => rfl
  | k + 1, h => by
    rw [Lib.lastIdx, lib_last c l k (by omega), lsN_take (by omega)]
    have e : ((str l).data[k]!) = l[k] := by simp [str, getElem!_pos, show k < l.length by omega]
    rw [e]
    by_cases h1 : l[k] = c
    · rw [if_pos h1, if_pos (by rw [h1])]
    · rw [if_neg h1, if_neg (fun h => h1 (UInt8.toNat_inj.1 (by omega)))]
theorem lib_join : ∀ L : List (List UInt8), Lib.join L [32] = jnB L
  | [] => rfl
  | [x] => Lib.join_one x [32]
  | x :: y :: r => by
    have ih := lib_join (y :: r)
    rw [Lib.join_cons] at ih ⊢
    rw [jnB, ← ih]
    simp [Lib.joinTail]
theorem lib_count {a : List UInt8} (ha : a ≠ []) (b : List UInt8) : ∀ (n : Nat) (t : List UInt8) (m : Nat), t.length < n → t.length < m →
    Lib.replaceK a b (Lib.countFrom a n t) t = repA a b m t ∧ ((repA a b m t).length : Int) = t.length + Lib.countFrom a n t * ((b.length : Int) - a.length) ∧ Lib.countFrom a n t ≤ t.length := by
  have hl : 0 < a.length := List.length_pos_iff.2 ha
  intro n
  induction n with
  | zero => intro t m h; omega
  | succ n ih =>
    intro t m hn hm
    obtain ⟨m, rfl⟩ : ∃ k, m = k + 1 := ⟨m - 1, by omega⟩
    rw [Lib.countFrom, lib_index]
    unfold ixI
    rcases h : ixN a t with _ | k
    · simp [repA, h, Lib.replaceK]
    · simp only
      rw [if_neg (by simp), Int.toNat_natCast]
      have b1 := (ixN_some h).1
      obtain ⟨i1, i2, i3⟩ := ih (t.drop (k + a.length)) m (by simp; omega) (by simp; omega)
      rw [Nat.add_comm 1, Lib.replaceK_hit a b _ t k (by rw [lib_index]; unfold ixI; rw [h]), repA, h]
      simp only
      rw [i1]
      refine ⟨rfl, ?_, ?_⟩
      · simp only [List.length_append, List.length_take, Nat.min_eq_left (show k ≤ t.length by omega)] at i2 ⊢
        rw [List.length_drop] at i2
        rw [Int.natCast_add, Int.natCast_add, i2, Int.natCast_add (Lib.countFrom _ _ _) 1, Int.add_mul]
        omega
      · rw [List.length_drop] at i3; omega
theorem lib_all {a b t : List UInt8} (ha : a ≠ []) : Lib.replace t a b (Lib.countB (str t) (str a)) = repA a b (t.length + 1) t ∧ ((repA a b (t.length + 1) t).length : Int) = t.length + Lib.countB (str t) (str a) * ((b.length : Int) - a.length) ∧ Lib.countB (str t) (str a) ≤ t.length := by
  have e : Lib.countB (str t) (str a) = Lib.count t a := by show Lib.count _ _ = _; simp [str]
  obtain ⟨h1, h2, h3⟩ := lib_count ha b (t.length + 1) t (t.length + 1) (by omega) (by omega)
  rw [e]
  refine ⟨?_, h2, h3⟩
  unfold Lib.replace
  by_cases hab : (a == b) = true
  · rw [if_pos hab]
    have := LawfulBEq.eq_of_beq hab
    subst this
    have key : ∀ (n : Nat) (t : List UInt8), repA a a n t = t := by
      intro n
      induction n with
      | zero => intro t; rfl
      | succ n ih =>
        intro t
        rw [repA]
        rcases h : ixN a t with _ | k
        · rfl
        · simp only
          rw [ih]
          have := ixN_some h
          conv => rhs; rw [← List.take_append_drop k t, ← List.take_append_drop a.length (t.drop k), this.2, List.drop_drop]
          simp
    exact (key _ _).symm
  · rw [if_neg hab]
    unfold Lib.replaceNum
    rw [if_neg (by omega), Int.toNat_natCast]
    exact h1
theorem lib_one {a b t : List UInt8} (ha : a ≠ []) (h : (ixN a t).isSome = true) : Lib.replace t a b 1 = rep1 a b t ∧ ((rep1 a b t).length : Int) = t.length + ((b.length : Int) - a.length) := by
  obtain ⟨k, hk⟩ := Option.isSome_iff_exists.1 h
  have b1 := ixN_some hk
  have e : rep1 a b t = t.take k ++ b ++ t.drop (k + a.length) := by unfold rep1; rw [hk]
  refine ⟨?_, by rw [e]; simp only [List.length_append, List.length_take, List.length_drop]; omega⟩
  unfold Lib.replace
  by_cases hab : (a == b) = true
  · rw [if_pos hab]
    have := LawfulBEq.eq_of_beq hab
    subst this
    rw [e]
    conv => lhs; rw [← List.take_append_drop k t, ← List.take_append_drop a.length (t.drop k), b1.2, List.drop_drop]
    simp
  · rw [if_neg hab]
    have hc : 1 ≤ Lib.count t a := by
      unfold Lib.count
      rw [Lib.countFrom, lib_index]
      unfold ixI
      rw [hk]
      simp only
      rw [if_neg (by simp)]
      omega
    unfold Lib.replaceNum
    rw [if_neg (by omega)]
    rw [show (1 : Int).toNat = 0 + 1 from rfl, Lib.replaceK_hit a b 0 t k (by rw [lib_index]; unfold ixI; rw [hk]), e]
    rfl
/-- The pieces between blanks; cur is the piece so far. -/
def fldB (cur : List UInt8) : List UInt8 → List (List UInt8)
  | [] => if cur = [] then [] else [cur]
  | c :: r => if c = 9 ∨ c = 32 then (if cur = [] then fldB [] r else cur :: fldB [] r) else fldB (cur ++ [c]) r
theorem fldB_run : ∀ (x : List UInt8) (cur r : List UInt8), (∀ c ∈ x, 128 ≤ c.toNat) → fldB cur (x ++ r) = fldB (cur ++ x) r
  | [], cur, r, _ => by simp
  | c :: x, cur, r, h => by
    have hc := h c (by simp)
    rw [List.cons_append, fldB, if_neg (by rintro (h | h) <;> (rw [h] at hc; revert hc; decide)), fldB_run x (cur ++ [c]) r (fun d hd => h d (List.mem_cons_of_mem _ hd))]
    simp
def blR (n : Nat) : Bool := decide (n = 32) || decide (n = 9)
theorem ext_str (s : List UInt8) (a b : Nat) : (str s).extract a b = str ((s.take b).drop a) := by rw [str_extract, List.drop_take]
theorem spans_fldB (s : List UInt8) : ∀ (f pos : Nat) (st : Option Nat) (acc : List (Nat × Nat)), s.length - pos ≤ f → (∀ a, st = some a → a < pos ∧ a < s.length) →
    (Lib.closeSpans (str s) (Lib.spansFromP blR (str s) f pos st acc)).map (fun x => (str s).extract x.1 x.2) = acc.map (fun x => (str s).extract x.1 x.2) ++ (fldB (match st with | none => [] | some a => (s.take pos).drop a) (s.drop pos)).map str := by
  have hend : ∀ (pos : Nat) (st : Option Nat) (acc : List (Nat × Nat)), s.length ≤ pos → (∀ a, st = some a → a < pos ∧ a < s.length) →
      (Lib.closeSpans (str s) (acc, st)).map (fun x => (str s).extract x.1 x.2) = acc.map (fun x => (str s).extract x.1 x.2) ++ (fldB (match st with | none => [] | some a => (s.take pos).drop a) (s.drop pos)).map str := by
    intro pos st acc hp hst
    rw [List.drop_eq_nil_of_le hp, fldB]
    cases st with
    | none => simp [Lib.closeSpans]
    | some a =>
      have := (hst a rfl).2
      simp only [Lib.closeSpans, List.map_append, List.map_cons, List.map_nil]
      rw [List.take_of_length_le hp, if_neg (by intro e; have := congrArg List.length e; simp at this; omega), ext_str, str_size, List.take_length]
      simp
  intro f
  induction f with
  | zero => intro pos st acc hf hst; exact hend pos st acc (by omega) hst
  | succ f ih =>
    intro pos st acc hf hst
    by_cases hp : pos < s.length
    · have hps : pos < (str s).size := by rw [str_size]; exact hp
      have hcons : s.drop pos = s[pos] :: s.drop (pos + 1) := List.drop_eq_getElem_cons hp
      have htk : s.take (pos + 1) = s.take pos ++ [s[pos]] := List.take_succ_eq_append_getElem hp
      unfold Lib.spansFromP
      rw [if_pos hps]
      by_cases hb : s[pos] = 9 ∨ s[pos] = 32
      · have hd : Utf8.decode (str s) pos = (s[pos].toNat, 1) := by
          rcases rune_cases s pos hp with h | h
          · exact h.2
          · exfalso; have h1 := h.1; have e9 : (9 : UInt8).toNat = 9 := rfl; have e32 : (32 : UInt8).toNat = 32 := rfl; rcases hb with hb | hb <;> (have := congrArg UInt8.toNat hb; omega)
        have hbl : blR s[pos].toNat = true := by unfold blR; rcases hb with hb | hb <;> (rw [hb]; decide)
        rw [hd, if_pos hbl, hcons, fldB, if_pos hb]
        cases st with
        | none =>
          simp only
          rw [ih (pos + 1) none acc (by omega) (fun a h => by cases h)]
          simp
        | some a =>
          have ha := hst a rfl
          simp only
          rw [ih (pos + 1) none _ (by omega) (fun a h => by cases h), if_neg (by intro e; have := congrArg List.length e; simp at this; omega)]
          simp [ext_str]
      · have key : ∃ w, (Utf8.decode (str s) pos).2 = w ∧ 1 ≤ w ∧ pos + w ≤ s.length ∧ blR (Utf8.decode (str s) pos).1 = false ∧ ∀ cur, fldB cur (s.drop pos) = fldB (cur ++ (s.take (pos + w)).drop pos) (s.drop (pos + w)) := by
          rcases rune_cases s pos hp with h | ⟨h1, h2, h3, h4, h5, h6⟩
          · refine ⟨1, by rw [h.2], Nat.le_refl _, hp, ?_, fun cur => ?_⟩
            · rw [h.2]
              unfold blR
              have e9 : ¬ s[pos].toNat = 9 := fun e => hb (.inl (UInt8.toNat_inj.1 e))
              have e32 : ¬ s[pos].toNat = 32 := fun e => hb (.inr (UInt8.toNat_inj.1 e))
              show (decide (s[pos].toNat = 32) || decide (s[pos].toNat = 9)) = false
              rw [decide_eq_false e32, decide_eq_false e9]; rfl
            · have e : (s.take (pos + 1)).drop pos = [s[pos]] := by
                rw [htk, List.drop_append, List.drop_eq_nil_of_le (by simp only [List.length_take]; omega)]
                simp [Nat.min_eq_left (show pos ≤ s.length by omega)]
              rw [hcons, fldB, if_neg hb, e]
          · refine ⟨_, rfl, h3, h5, by unfold blR; simp; omega, fun cur => ?_⟩
            have e : s.drop pos = (s.take (pos + (Utf8.decode (str s) pos).2)).drop pos ++ s.drop (pos + (Utf8.decode (str s) pos).2) := by
              conv => lhs; rw [← List.take_append_drop (pos + (Utf8.decode (str s) pos).2) s]
              rw [List.drop_append_of_le_length (by simp; omega)]
            conv => lhs; rw [e]
            refine fldB_run _ _ _ fun c hc => ?_
            obtain ⟨j, hj, rfl⟩ := List.getElem_of_mem hc
            simp only [List.length_drop, List.length_take] at hj
            have := h6 (pos + j) (by omega) (by omega)
            rw [List.getElem?_eq_getElem (by omega)] at this
            simpa using this
        obtain ⟨w, hw, h1, h5, hbl, hrun⟩ := key
        rw [hw, if_neg (by rw [hbl]; simp), hrun]
        cases st with
        | none =>
          simp only
          rw [ih (pos + w) (some pos) acc (by omega) (fun a h => by injection h with h; omega)]
          simp
        | some a =>
          have ha := hst a rfl
          simp only
          rw [ih (pos + w) (some a) acc (by omega) (fun a' h => by injection h with h; omega)]
          have e : (s.take (pos + w)).drop a = (s.take pos).drop a ++ (s.take (pos + w)).drop pos := by
            have e1 : s.take (pos + w) = s.take pos ++ (s.take (pos + w)).drop pos := by
              conv => lhs; rw [← List.take_append_drop pos (s.take (pos + w)), List.take_take, Nat.min_eq_left (by omega)]
            conv => lhs; rw [e1]
            rw [List.drop_append_of_le_length (by simp; omega)]
          simp only [e]
    · rw [Lib.spansFromP_end _ _ _ _ _ _ (by rw [str_size]; exact hp)]
      exact hend pos st acc (by omega) hst
theorem lib_fields (s : List UInt8) : Lib.goFieldsP blR (str s) = (fldB [] s).map str := by
  unfold Lib.goFieldsP Lib.spansOfP
  have := spans_fldB s (str s).size 0 none [] (by rw [str_size]; omega) (fun a h => by cases h)
  simpa using this
end Go.Proofs.YtgbhjlkenfmadaaGreatDoor
