/- Edits: plain words, and what the laws ask. No program is named here. -/
import Derived.Test.YtbjhecllejdfaaaDoorBase
namespace Go.Proofs.YtbjhecllejdfaaaDoor
set_option linter.unusedVariables false
set_option linter.unusedSimpArgs false
/-! ### Lines -/
/-- p put ahead of the first line. -/
def hdA (p : List UInt8) : List (List UInt8) → List (List UInt8)
  | [] => [p]
  | h :: t => (p ++ h) :: t
def lns : List UInt8 → List (List UInt8)
  | [] => [[]]
  | c :: r => if c = 10 then [] :: lns r else hdA [c] (lns r)
theorem lns_ne : ∀ s, lns s ≠ []
  | [] => by simp [lns]
  | c :: r => by
    rw [lns]
    split
    · simp
    · cases h : lns r <;> simp [hdA]
theorem hdA_nil {L : List (List UInt8)} (h : L ≠ []) : hdA [] L = L := by
  cases L with
  | nil => exact absurd rfl h
  | cons x r => rfl
theorem hdA_app (p q : List UInt8) (L : List (List UInt8)) : hdA p (hdA q L) = hdA (p ++ q) L := by cases L <;> simp [hdA]
/-- The lines, joined by newlines. -/
def jnN : List (List UInt8) → List UInt8
  | [] => []
  | [a] => a
  | a :: b :: r => a ++ 10 :: jnN (b :: r)
theorem jnN_cons (a : List UInt8) {L : List (List UInt8)} (h : L ≠ []) : jnN (a :: L) = a ++ 10 :: jnN L := by
  cases L with
  | nil => exact absurd rfl h
  | cons b r => rfl
theorem jnN_hdA (p : List UInt8) : ∀ L, jnN (hdA p L) = p ++ jnN L
  | [] => by simp [hdA, jnN]
  | [a] => by simp [hdA, jnN]
  | a :: b :: r => by simp [hdA, jnN]
theorem jn_lns : ∀ s, jnN (lns s) = s
  | [] => rfl
  | c :: r => by
    rw [lns]
    split
    · next h => rw [jnN_cons _ (lns_ne r), jn_lns r, h]; rfl
    · rw [jnN_hdA, jn_lns r]; rfl
theorem lns_free : ∀ s, ∀ l ∈ lns s, (10 : UInt8) ∉ l
  | [], l, h => by simp [lns] at h; simp [h]
  | c :: r, l, h => by
    rw [lns] at h
    split at h
    · rcases List.mem_cons.1 h with rfl | h
      · simp
      · exact lns_free r l h
    · next hc =>
      cases hL : lns r with
      | nil => exact absurd hL (lns_ne r)
      | cons a t =>
        rw [hL] at h
        have ha := lns_free r a (by rw [hL]; exact List.mem_cons_self ..)
        rcases List.mem_cons.1 h with rfl | h
        · simp only [List.cons_append, List.nil_append, List.mem_cons, not_or]
          exact ⟨fun e => hc e.symm, ha⟩
        · exact lns_free r l (by rw [hL]; exact List.mem_cons_of_mem _ h)
/-! ### Places -/
/-- Newlines ahead of a place, and where its line begins. -/
def plc : List UInt8 → Nat → Nat × Nat
  | _, 0 => (0, 0)
  | [], _ + 1 => (0, 0)
  | c :: r, i + 1 => if c = 10 then ((plc r i).1 + 1, (plc r i).2 + 1) else if (plc r i).1 = 0 then (0, 0) else ((plc r i).1, (plc r i).2 + 1)
theorem plc_zero (s : List UInt8) : plc s 0 = (0, 0) := by cases s <;> rfl
theorem plc_step : ∀ (s : List UInt8) (i : Nat) (h : i < s.length), plc s (i + 1) = if s[i] = 10 then ((plc s i).1 + 1, i + 1) else plc s i
  | c :: r, 0, _ => by
    rw [plc_zero (c :: r), show plc (c :: r) (0 + 1) = if c = 10 then ((plc r 0).1 + 1, (plc r 0).2 + 1) else if (plc r 0).1 = 0 then (0, 0) else ((plc r 0).1, (plc r 0).2 + 1) from rfl, plc_zero r]
    simp only [List.getElem_cons_zero, if_true]
  | c :: r, i + 1, h => by
    have hi : i < r.length := by simpa using h
    have ih := plc_step r i hi
    rw [plc, ih]
    simp only [List.getElem_cons_succ]
    by_cases h1 : r[i] = 10
    · rw [if_pos h1, if_pos h1]
      simp only [Nat.add_eq_zero_iff, Nat.succ_ne_self, and_false, if_false]
      rw [plc]
      split
      · rfl
      · split
        · next h0 => simp [h0]
        · rfl
    · rw [if_neg h1, if_neg h1, plc]
/-- The lengths of the first n lines, with their newlines. -/
def offL (L : List (List UInt8)) (n : Nat) : Nat := ((L.take n).map fun l => l.length + 1).sum
theorem offL_cons (a : List UInt8) (L : List (List UInt8)) (n : Nat) : offL (a :: L) (n + 1) = a.length + 1 + offL L n := by simp [offL]
theorem offL_zero (L : List (List UInt8)) : offL L 0 = 0 := by simp [offL]
theorem offL_hdA (c : UInt8) {L : List (List UInt8)} (hL : L ≠ []) (n : Nat) : offL (hdA [c] L) (n + 1) = offL L (n + 1) + 1 := by
  cases L with
  | nil => exact absurd rfl hL
  | cons a t => simp only [hdA, offL_cons, List.length_append, List.length_cons, List.length_nil]; omega
theorem hdA_get_zero (c : UInt8) (L : List (List UInt8)) : ((hdA [c] L)[0]?.getD []).length = (L[0]?.getD []).length + 1 := by
  cases L <;> simp [hdA]
theorem hdA_get_succ (c : UInt8) {L : List (List UInt8)} (hL : L ≠ []) (n : Nat) : (hdA [c] L)[n + 1]? = L[n + 1]? := by
  cases L with
  | nil => exact absurd rfl hL
  | cons a t => rfl
theorem hdA_len (c : UInt8) {L : List (List UInt8)} (hL : L ≠ []) : (hdA [c] L).length = L.length := by
  cases L with
  | nil => exact absurd rfl hL
  | cons a t => rfl
theorem plc_lns : ∀ (s : List UInt8) (i : Nat), i ≤ s.length → (plc s i).1 < (lns s).length ∧ offL (lns s) (plc s i).1 = (plc s i).2 ∧ (plc s i).2 ≤ i ∧ i - (plc s i).2 ≤ ((lns s)[(plc s i).1]?.getD []).length
  | s, 0, _ => by
    rw [plc_zero]
    exact ⟨List.length_pos_iff.2 (lns_ne s), offL_zero _, Nat.le_refl _, by simp⟩
  | [], i + 1, h => by simp at h
  | c :: r, i + 1, h => by
    have hi : i ≤ r.length := by simpa using h
    obtain ⟨h1, h2, h3, h4⟩ := plc_lns r i hi
    have hne := lns_ne r
    rw [plc, lns]
    by_cases hc : c = 10
    · rw [if_pos hc, if_pos hc]
      refine ⟨by simpa using h1, by rw [offL_cons, h2]; simp; omega, by simp only; omega, ?_⟩
      simp only [List.getElem?_cons_succ]
      omega
    · rw [if_neg hc, if_neg hc]
      by_cases h0 : (plc r i).1 = 0
      · rw [if_pos h0]
        rw [h0] at h2 h4
        rw [offL_zero] at h2
        refine ⟨by rw [hdA_len c hne]; exact List.length_pos_iff.2 hne, offL_zero _, by simp, ?_⟩
        rw [hdA_get_zero]
        simp only
        omega
      · rw [if_neg h0]
        obtain ⟨n, hn⟩ : ∃ n, (plc r i).1 = n + 1 := ⟨(plc r i).1 - 1, by omega⟩
        simp only
        rw [hn] at h1 h2 h4 ⊢
        refine ⟨by rw [hdA_len c hne]; exact h1, by rw [offL_hdA c hne, h2], by omega, ?_⟩
        rw [hdA_get_succ c hne]
        omega
/-! ### Edits -/
structure Ed where
  f : Int
  t : Int
  x : List UInt8
/-- The error of edits, from a place on. -/
def vlE (n : Nat) : Int → Int → List Ed → Int
  | _, size, [] => if 16384 < size then 3 else 0
  | last, size, e :: l => if e.f < 0 ∨ e.t < e.f ∨ (n : Int) < e.t then 2 else if e.f < last then 25 else vlE n e.t (size + e.x.length - (e.t - e.f)) l
def vldE (s : List UInt8) (l : List Ed) : Int := if 256 < l.length then 4 else vlE s.length 0 s.length l
/-- A part of a string. -/
def prt (s : List UInt8) (a b : Nat) : List UInt8 := (s.drop a).take (b - a)
def apE (s : List UInt8) : Nat → List Ed → List UInt8
  | a, [] => s.drop a
  | a, e :: l => prt s a e.f.toNat ++ e.x ++ apE s e.t.toNat l
def ivE (s : List UInt8) : Int → List Ed → List Ed
  | _, [] => []
  | m, e :: l => ⟨e.f + m, e.f + m + e.x.length, prt s e.f.toNat e.t.toNat⟩ :: ivE s (m + e.x.length - (e.t - e.f)) l
theorem ivE_len (s : List UInt8) : ∀ (l : List Ed) (m : Int), (ivE s m l).length = l.length
  | [], _ => rfl
  | e :: l, m => by rw [ivE, List.length_cons, ivE_len s l]; rfl
/-- In order, from a place on. -/
def Ord (n : Nat) : Int → List Ed → Prop
  | _, [] => True
  | a, e :: l => a ≤ e.f ∧ e.f ≤ e.t ∧ e.t ≤ n ∧ Ord n e.t l
theorem vlE_ord (n : Nat) : ∀ (l : List Ed) (a size : Int), 0 ≤ a → vlE n a size l = 0 → Ord n a l
  | [], _, _, _, _ => trivial
  | e :: l, a, size, ha, h => by
    rw [vlE] at h
    split at h
    · cases h
    · split at h
      · cases h
      · exact ⟨by omega, by omega, by omega, vlE_ord n l e.t _ (by omega) h⟩
/-- What the edits add. -/
def addE : List Ed → Int
  | [] => 0
  | e :: l => e.x.length - (e.t - e.f) + addE l
theorem vlE_size (n : Nat) : ∀ (l : List Ed) (a size : Int), vlE n a size l = 0 → size + addE l ≤ 16384
  | [], _, size, h => by
    rw [vlE] at h
    split at h
    · cases h
    · simp [addE]; omega
  | e :: l, a, size, h => by
    rw [vlE] at h
    split at h
    · cases h
    · split at h
      · cases h
      · have := vlE_size n l _ _ h
        rw [addE]; omega
theorem vlE_ok (n : Nat) : ∀ (l : List Ed) (a size : Int), 0 ≤ a → Ord n a l → size + addE l ≤ 16384 → vlE n a size l = 0
  | [], _, size, _, _, h => by
    rw [vlE, if_neg (by simp [addE] at h; omega)]
  | e :: l, a, size, ha, ⟨h1, h2, h3, h4⟩, h => by
    rw [addE] at h
    rw [vlE, if_neg (by omega), if_neg (by omega), vlE_ok n l e.t _ (by omega) h4 (by omega)]
theorem prt_len {s : List UInt8} {a b : Nat} (h1 : a ≤ b) (h2 : b ≤ s.length) : (prt s a b).length = b - a := by
  rw [prt, List.length_take, List.length_drop]; omega
theorem prt_drop {s : List UInt8} {a b : Nat} (h1 : a ≤ b) : prt s a b ++ s.drop b = s.drop a := by
  rw [prt]
  have := List.take_append_drop (b - a) (s.drop a)
  rw [List.drop_drop, show a + (b - a) = b by omega] at this
  exact this
theorem apE_len (s : List UInt8) : ∀ (l : List Ed) (a : Nat), a ≤ s.length → Ord s.length a l → ((apE s a l).length : Int) = s.length - a + addE l
  | [], a, ha, _ => by rw [apE, List.length_drop, addE]; omega
  | e :: l, a, ha, ⟨h1, h2, h3, h4⟩ => by
    have ih := apE_len s l e.t.toNat (by omega) (by rw [show ((e.t.toNat : Nat) : Int) = e.t by omega]; exact h4)
    rw [apE, List.length_append, List.length_append, prt_len (by omega) (by omega), addE]
    omega
/-- The inverse restores. -/
theorem apE_inv (s : List UInt8) : ∀ (l : List Ed) (a : Nat) (m : Int) (p : List UInt8), a ≤ s.length → Ord s.length a l → (p.length : Int) = a + m → apE (p ++ apE s a l) p.length (ivE s m l) = s.drop a
  | [], a, m, p, ha, _, hp => by rw [ivE, apE, apE, List.drop_left]
  | e :: l, a, m, p, ha, ⟨h1, h2, h3, h4⟩, hp => by
    have hl1 := prt_len (s := s) (a := a) (b := e.f.toNat) (by omega) (by omega)
    have ih := apE_inv s l e.t.toNat (m + e.x.length - (e.t - e.f)) (p ++ prt s a e.f.toNat ++ e.x) (by omega) (by rw [show ((e.t.toNat : Nat) : Int) = e.t by omega]; exact h4) (by simp only [List.length_append]; omega)
    rw [ivE, apE]
    have et : p ++ apE s a (e :: l) = p ++ prt s a e.f.toNat ++ e.x ++ apE s e.t.toNat l := by rw [apE]; simp only [List.append_assoc]
    rw [et]
    have e1 : (e.f + m).toNat = p.length + (e.f.toNat - a) := by omega
    have e2 : (e.f + m + (e.x.length : Int)).toNat = (p ++ prt s a e.f.toNat ++ e.x).length := by simp only [List.length_append]; omega
    simp only [e1, e2]
    rw [ih]
    have e3 : prt (p ++ prt s a e.f.toNat ++ e.x ++ apE s e.t.toNat l) p.length (p.length + (e.f.toNat - a)) = prt s a e.f.toNat := by
      rw [prt, show p.length + (e.f.toNat - a) - p.length = (prt s a e.f.toNat).length by omega, List.append_assoc, List.append_assoc, List.drop_left, List.take_left]
    rw [e3, List.append_assoc, prt_drop (by omega), prt_drop (by omega)]
theorem Ord_inv (s : List UInt8) (N : Nat) : ∀ (l : List Ed) (a m : Int), Ord s.length a l → 0 ≤ a → (s.length : Int) + m + addE l ≤ N → Ord N (a + m) (ivE s m l)
  | [], _, _, _, _, _ => trivial
  | e :: l, a, m, ⟨h1, h2, h3, h4⟩, ha, hN => by
    rw [addE] at hN
    have ih := Ord_inv s N l e.t (m + e.x.length - (e.t - e.f)) h4 (by omega) (by omega)
    have hb : ∀ (l : List Ed) (a : Int), Ord s.length a l → a ≤ s.length → 0 ≤ (s.length : Int) - a + addE l := by
      intro l
      induction l with
      | nil => intro a _ h; simp [addE]; omega
      | cons y l ih =>
        intro a ⟨q1, q2, q3, q4⟩ h
        have := ih y.t q4 q3
        rw [addE]; omega
    have hb2 := hb l e.t h4 h3
    refine ⟨by simp only; omega, by simp only; omega, by simp only; omega, ?_⟩
    simp only
    rw [show e.f + m + (e.x.length : Int) = e.t + (m + e.x.length - (e.t - e.f)) by omega]
    exact ih
theorem addE_inv (s : List UInt8) : ∀ (l : List Ed) (a m : Int), Ord s.length a l → 0 ≤ a → addE (ivE s m l) = - addE l
  | [], _, _, _, _ => by simp [ivE, addE]
  | e :: l, a, m, ⟨h1, h2, h3, h4⟩, ha => by
    rw [ivE, addE, addE, addE_inv s l e.t _ h4 (by omega), prt_len (by omega) (by omega)]
    simp only
    omega
/-- Where an offset goes. -/
def shE : List Ed → Int → Int → Int
  | [], a, m => a + m
  | e :: l, a, m => if a ≤ e.f then shE l a m else if a < e.t then e.f + m else shE l a (m + e.x.length - (e.t - e.f))
theorem shE_lo (n : Nat) : ∀ (l : List Ed) (b a m : Int), Ord n b l → b ≤ a → b + m ≤ shE l a m
  | [], b, a, m, _, h => by rw [shE]; omega
  | e :: l, b, a, m, ⟨h1, h2, h3, h4⟩, h => by
    rw [shE]
    split
    · next hf =>
      have : ∀ (l : List Ed) (c : Int), Ord n c l → a ≤ c → shE l a m = a + m := by
        intro l
        induction l with
        | nil => intro c _ _; rfl
        | cons y l ih =>
          intro c ⟨q1, q2, q3, q4⟩ hc
          rw [shE, if_pos (by omega), ih y.t q4 (by omega)]
      rw [this l e.t h4 (by omega)]; omega
    · split
      · omega
      · have := shE_lo n l e.t a (m + e.x.length - (e.t - e.f)) h4 (by omega)
        omega
theorem shE_skip (n : Nat) (a m : Int) : ∀ (l : List Ed) (c : Int), Ord n c l → a ≤ c → shE l a m = a + m
  | [], c, _, _ => rfl
  | y :: l, c, ⟨q1, q2, q3, q4⟩, hc => by rw [shE, if_pos (by omega), shE_skip n a m l y.t q4 (by omega)]
theorem shE_mono (n : Nat) : ∀ (l : List Ed) (b i k m : Int), Ord n b l → i ≤ k → shE l i m ≤ shE l k m
  | [], b, i, k, m, _, h => by rw [shE, shE]; omega
  | e :: l, b, i, k, m, ⟨h1, h2, h3, h4⟩, h => by
    rw [shE, shE]
    by_cases c1 : i ≤ e.f
    · rw [if_pos c1]
      by_cases c2 : k ≤ e.f
      · rw [if_pos c2]; exact shE_mono n l e.t i k m h4 h
      · rw [if_neg c2, shE_skip n i m l e.t h4 (by omega)]
        split
        · omega
        · have := shE_lo n l e.t k (m + e.x.length - (e.t - e.f)) h4 (by omega)
          omega
    · rw [if_neg c1, if_neg (show ¬ k ≤ e.f by omega)]
      by_cases c2 : i < e.t
      · rw [if_pos c2]
        split
        · omega
        · have := shE_lo n l e.t k (m + e.x.length - (e.t - e.f)) h4 (by omega)
          omega
      · rw [if_neg c2, if_neg (show ¬ k < e.t by omega)]
        exact shE_mono n l e.t i k _ h4 h
/-! ### Differences -/
/-- The length of the common beginning. -/
def cpf : List UInt8 → List UInt8 → Nat
  | a :: l, b :: r => if a = b then cpf l r + 1 else 0
  | _, _ => 0
theorem cpf_le : ∀ a b : List UInt8, cpf a b ≤ a.length ∧ cpf a b ≤ b.length
  | [], b => by simp [cpf]
  | a :: l, [] => by simp [cpf]
  | a :: l, b :: r => by
    have := cpf_le l r
    rw [cpf]
    split <;> simp <;> omega
theorem cpf_take : ∀ a b : List UInt8, a.take (cpf a b) = b.take (cpf a b)
  | [], b => by simp [cpf]
  | a :: l, [] => by simp [cpf]
  | a :: l, b :: r => by
    rw [cpf]
    split
    · next h => rw [List.take_succ_cons, List.take_succ_cons, cpf_take l r, h]
    · simp
/-- The common end of what is behind the common beginning. -/
def csf (a b : List UInt8) : Nat := cpf (a.drop (cpf a b)).reverse (b.drop (cpf a b)).reverse
theorem csf_le (a b : List UInt8) : cpf a b + csf a b ≤ a.length ∧ cpf a b + csf a b ≤ b.length := by
  have h1 := cpf_le a b
  have h2 := cpf_le (a.drop (cpf a b)).reverse (b.drop (cpf a b)).reverse
  simp only [List.length_reverse, List.length_drop] at h2
  unfold csf
  omega
theorem csf_drop (a b : List UInt8) : a.drop (a.length - csf a b) = b.drop (b.length - csf a b) := by
  have h := cpf_take (a.drop (cpf a b)).reverse (b.drop (cpf a b)).reverse
  have h2 := csf_le a b
  rw [show cpf (a.drop (cpf a b)).reverse (b.drop (cpf a b)).reverse = csf a b from rfl] at h
  rw [List.take_reverse, List.take_reverse] at h
  have h3 := List.reverse_inj.1 h
  rw [List.length_drop, List.length_drop, List.drop_drop, List.drop_drop] at h3
  rw [show cpf a b + (a.length - cpf a b - csf a b) = a.length - csf a b by omega, show cpf a b + (b.length - cpf a b - csf a b) = b.length - csf a b by omega] at h3
  exact h3
def dfE (a b : List UInt8) : List Ed := if a = b then [] else [⟨(cpf a b : Nat), ((a.length - csf a b : Nat) : Int), prt b (cpf a b) (b.length - csf a b)⟩]
theorem dfE_ap (a b : List UInt8) : apE a 0 (dfE a b) = b := by
  unfold dfE
  split
  · next h => rw [apE, h]; rfl
  · have h2 := csf_le a b
    rw [apE, apE]
    simp only [Int.toNat_natCast]
    rw [csf_drop, show prt a 0 (cpf a b) = b.take (cpf a b) by rw [prt, List.drop_zero, Nat.sub_zero, cpf_take], List.append_assoc, prt_drop (by omega), List.take_append_drop]
theorem dfE_ok (a b : List UInt8) (hb : b.length ≤ 16384) : vldE a (dfE a b) = 0 := by
  have h2 := csf_le a b
  unfold dfE vldE
  split
  · next h =>
    subst h
    rw [if_neg (by simp), vlE, if_neg (by omega)]
  · rw [if_neg (by simp), vlE, if_neg (by simp only; omega), if_neg (by simp only; omega), vlE, if_neg]
    simp only
    rw [prt_len (by omega) (by omega)]
    omega
end Go.Proofs.YtbjhecllejdfaaaDoor
