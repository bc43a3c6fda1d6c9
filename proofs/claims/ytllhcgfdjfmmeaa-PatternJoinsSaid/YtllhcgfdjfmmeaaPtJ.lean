/- Patterns: what characters compile to, plain. -/
import Derived.Test.YtllhcgfdjfmmeaaPtD
import Derived.Test.YtllhcgfdjfmmeaaPtE
namespace Go.Proofs.Ytllhcgfdjfmmeaa
set_option linter.unusedVariables false
set_option linter.unusedSimpArgs false
theorem isC_drop (l : List Cx) (i j : Nat) (b : UInt8) : isC (l.drop i) j b = isC l (i + j) b := by
  unfold isC; rw [List.getElem?_drop]
theorem nmAt_drop (l : List Cx) (i j : Nat) : nmAt (l.drop i) j = nmAt l (i + j) := by
  unfold nmAt; rw [List.drop_drop]
theorem clB_drop (l : List Cx) (i : Nat) : clB (l.drop i) 0 = clB l i := by
  unfold clB
  simp only [isC_drop, nmAt_drop, Nat.zero_add, Nat.add_assoc, Nat.add_zero]
/-! ### Sets and spans -/
/-- The spans of a set of bytes, of those below n. -/
def stp (f : Nat → Bool) : Nat → List Sn
  | 0 => []
  | n + 1 => if f n = true then (match (stp f n).getLast? with
      | some x => if x.h.toNat + 1 = n then (stp f n).dropLast ++ [⟨x.l, UInt8.ofNat n⟩] else stp f n ++ [⟨UInt8.ofNat n, UInt8.ofNat n⟩]
      | none => [⟨UInt8.ofNat n, UInt8.ofNat n⟩]) else stp f n
theorem stp_no {f : Nat → Bool} {n : Nat} (h : f n = false) : stp f (n + 1) = stp f n := by rw [stp, if_neg (by rw [h]; simp)]
theorem toNat_ofNat {n : Nat} (h : n < 256) : (UInt8.ofNat n).toNat = n := by
  rw [UInt8.toNat_ofNat']; exact Nat.mod_eq_of_lt h
theorem ofNat_toNat (b : UInt8) : UInt8.ofNat b.toNat = b := by
  apply UInt8.toNat_inj.1; exact toNat_ofNat b.toNat_lt
theorem stp_mem (f : Nat → Bool) : ∀ n, n ≤ 256 → ∀ x ∈ stp f n, x.h.toNat < n ∧ f x.h.toNat = true
  | 0, _, x, hx => by simp [stp] at hx
  | n + 1, hn, x, hx => by
    have ih := stp_mem f n (by omega)
    rw [stp] at hx
    by_cases hf : f n = true
    · rw [if_pos hf] at hx
      have new : ∀ l : UInt8, x = ⟨l, UInt8.ofNat n⟩ → x.h.toNat < n + 1 ∧ f x.h.toNat = true := fun l e => by
        subst e; simp only [toNat_ofNat (show n < 256 by omega)]; exact ⟨by omega, hf⟩
      have old : x ∈ stp f n → x.h.toNat < n + 1 ∧ f x.h.toNat = true := fun h => ⟨by have := (ih x h).1; omega, (ih x h).2⟩
      split at hx
      · split at hx
        · rcases List.mem_append.1 hx with h | h
          · exact old (List.dropLast_subset _ h)
          · exact new _ (List.mem_singleton.1 h)
        · rcases List.mem_append.1 hx with h | h
          · exact old h
          · exact new _ (List.mem_singleton.1 h)
      · exact new _ (List.mem_singleton.1 hx)
    · rw [if_neg hf] at hx
      exact ⟨by have := (ih x hx).1; omega, (ih x hx).2⟩
/-- A byte after one that is not in the set begins a span. -/
theorem stp_new {f : Nat → Bool} {n : Nat} (hn : n < 256) (hf : f n = true) (hp : n = 0 ∨ f (n - 1) = false) : stp f (n + 1) = stp f n ++ [⟨UInt8.ofNat n, UInt8.ofNat n⟩] := by
  rw [stp, if_pos hf]
  split
  · next x hx =>
    obtain ⟨h1, h2⟩ := stp_mem f n (by omega) x (List.mem_of_getLast? hx)
    split
    · next e =>
      rcases hp with h | h
      · omega
      · rw [show n - 1 = x.h.toNat by omega, h2] at h; cases h
    · rfl
  · next hx => rw [List.getLast?_eq_none_iff.1 hx]; rfl
/-- It goes on. -/
theorem stp_more {f : Nat → Bool} {n : Nat} {R : List Sn} {l : UInt8} (hn : n < 255) (hf : f (n + 1) = true) (h : stp f (n + 1) = R ++ [⟨l, UInt8.ofNat n⟩]) : stp f (n + 1 + 1) = R ++ [⟨l, UInt8.ofNat (n + 1)⟩] := by
  rw [stp, if_pos hf, h]
  simp only [List.getLast?_append, List.getLast?_singleton, Option.some_or, toNat_ofNat (show n < 256 by omega), if_true, List.dropLast_concat]
theorem stp_run {f : Nat → Bool} {n : Nat} (hf : f n = true) (hp : n = 0 ∨ f (n - 1) = false) : ∀ d, n + d < 256 → (∀ c, n ≤ c → c ≤ n + d → f c = true) → stp f (n + d + 1) = stp f n ++ [⟨UInt8.ofNat n, UInt8.ofNat (n + d)⟩]
  | 0, hn, h => stp_new (by omega) hf hp
  | d + 1, hn, h => stp_more (n := n + d) (by omega) (h _ (by omega) (by omega)) (stp_run hf hp d (by omega) fun c h1 h2 => h c h1 (by omega))
theorem stp_congr {f g : Nat → Bool} : ∀ n, (∀ c, c < n → f c = g c) → stp f n = stp g n
  | 0, _ => rfl
  | n + 1, h => by rw [stp, stp, stp_congr n (fun c hc => h c (by omega)), h n (by omega)]
theorem stp_gap {f : Nat → Bool} {n : Nat} : ∀ m, n ≤ m → (∀ c, n ≤ c → c < m → f c = false) → stp f m = stp f n := by
  intro m hm
  induction m with
  | zero => intro _; obtain rfl : n = 0 := by omega
            rfl
  | succ m ih =>
    intro h
    by_cases e : n = m + 1
    · rw [← e]
    · rw [stp_no (h m (by omega) (by omega)), ih (by omega) (fun c h1 h2 => h c h1 (by omega))]
/-- Spans that ascend, with gaps. -/
def ascP : Option Sn → List Sn → Bool
  | _, [] => true
  | o, x :: r => decide (x.l.toNat ≤ x.h.toNat) && (match o with
    | none => true
    | some y => decide (y.h.toNat + 1 < x.l.toNat)) && ascP (some x) r
def asc (s : List Sn) : Bool := ascP none s
theorem ascP_cons (o : Option Sn) (x : Sn) (r : List Sn) : ascP o (x :: r) = (decide (x.l.toNat ≤ x.h.toNat) && (match o with
    | none => true
    | some y => decide (y.h.toNat + 1 < x.l.toNat)) && ascP (some x) r) := by cases o <;> rfl
theorem ascP_snoc : ∀ (s : List Sn) (o : Option Sn) (x : Sn), ascP o (s ++ [x]) = (ascP o s && decide (x.l.toNat ≤ x.h.toNat) && (match s.getLast?.or o with
    | none => true
    | some y => decide (y.h.toNat + 1 < x.l.toNat)))
  | [], o, x => by cases o <;> simp [ascP]
  | y :: s, o, x => by
    rw [List.cons_append, ascP_cons, ascP_snoc s, ascP_cons]
    have e : (y :: s).getLast?.or o = s.getLast?.or (some y) := by
      cases hs : s.getLast? with
      | none => rw [List.getLast?_eq_none_iff.1 hs]; rfl
      | some z => rw [List.getLast?_cons, hs]; rfl
    rw [e]
    simp only [Bool.and_assoc]
theorem asc_bound : ∀ (s : List Sn) (o : Option Sn), ascP o s = true → ∀ z, s.getLast? = some z → ∀ y ∈ s, y.l.toNat ≤ y.h.toNat ∧ y.h.toNat ≤ z.h.toNat
  | [], o, h, z, hz, y, hy => by cases hy
  | x :: s, o, h, z, hz, y, hy => by
    rw [ascP_cons, Bool.and_eq_true, Bool.and_eq_true] at h
    have hx : x.l.toNat ≤ x.h.toNat := by simpa using h.1.1
    cases s with
    | nil =>
      simp at hz hy
      subst hz; subst hy
      exact ⟨hx, Nat.le_refl _⟩
    | cons w s =>
      have hz' : (w :: s).getLast? = some z := by rw [← hz]; rfl
      have ih := asc_bound (w :: s) (some x) h.2 z hz'
      rcases List.mem_cons.1 hy with rfl | hy
      · refine ⟨hx, ?_⟩
        have h2 := h.2
        rw [ascP_cons, Bool.and_eq_true, Bool.and_eq_true] at h2
        have h3 : y.h.toNat + 1 < w.l.toNat := by simpa using h2.1.2
        have := ih w (List.mem_cons_self ..)
        omega
      · exact ih y hy
theorem inS_append (a b : List Sn) (c : UInt8) : inS (a ++ b) c = (inS a c || inS b c) := by simp [inS]
def bts (sp : List Sn) (c : Nat) : Bool := inS sp (UInt8.ofNat c)
theorem bts_append (a b : List Sn) (c : Nat) : bts (a ++ b) c = (bts a c || bts b c) := inS_append a b _
theorem bts_one (x : Sn) {c : Nat} (hc : c < 256) : bts [x] c = (decide (x.l.toNat ≤ c) && decide (c ≤ x.h.toNat)) := by simp [bts, inS, toNat_ofNat hc]
theorem bts_above {s : List Sn} {o : Option Sn} (h : ascP o s = true) {z : Sn} (hz : s.getLast? = some z) {c : Nat} (hc : c < 256) (hzc : z.h.toNat < c) : bts s c = false := by
  have hb := asc_bound s o h z hz
  rw [bts, inS, List.any_eq_false]
  intro y hy
  have := hb y hy
  simp [toNat_ofNat hc]
  omega
/-- Ascending spans are the spans of their bytes. -/
theorem stp_asc : ∀ (n : Nat) (s : List Sn), s.length ≤ n → asc s = true → stp (bts s) 256 = s := by
  intro n
  induction n with
  | zero =>
    intro s hs _
    obtain rfl : s = [] := List.eq_nil_of_length_eq_zero (by omega)
    have := stp_gap (f := bts []) (n := 0) 256 (by omega) (fun c _ _ => by simp [bts, inS])
    rw [this]; rfl
  | succ n ih =>
    intro s hs ha
    rcases List.eq_nil_or_concat s with rfl | ⟨s', x, rfl⟩
    · exact ih [] (by simp) rfl
    rw [List.concat_eq_append] at *
    rw [asc, ascP_snoc, Bool.and_eq_true, Bool.and_eq_true, Option.or_none] at ha
    obtain ⟨⟨h1, h2⟩, h3⟩ := ha
    have h2' : x.l.toNat ≤ x.h.toNat := by simpa using h2
    have ihs := ih s' (by simp at hs; omega) h1
    have hlt := x.h.toNat_lt
    have hs' : ∀ c, c < 256 → x.l.toNat ≤ c + 1 → bts s' c = false := fun c hc hxc => by
      cases hz : s'.getLast? with
      | none => rw [List.getLast?_eq_none_iff.1 hz]; simp [bts, inS]
      | some z =>
        rw [hz] at h3
        have : z.h.toNat + 1 < x.l.toNat := by simpa using h3
        exact bts_above h1 hz hc (by omega)
    have e1 : stp (bts (s' ++ [x])) 256 = stp (bts (s' ++ [x])) (x.h.toNat + 1) := stp_gap 256 (by omega) fun c hc1 hc2 => by
      rw [bts_append, hs' c hc2 (by omega), bts_one x hc2]; simp; omega
    have e2 : stp (bts (s' ++ [x])) (x.l.toNat + (x.h.toNat - x.l.toNat) + 1) = stp (bts (s' ++ [x])) x.l.toNat ++ [⟨UInt8.ofNat x.l.toNat, UInt8.ofNat (x.l.toNat + (x.h.toNat - x.l.toNat))⟩] := stp_run (by rw [bts_append, bts_one x (by omega)]; simp [h2']) (by
        rcases Nat.eq_zero_or_pos x.l.toNat with h | h
        · exact .inl h
        · right
          rw [bts_append, hs' _ (by omega) (by omega), bts_one x (by omega)]; simp; omega) _ (by omega) fun c hc1 hc2 => by
        rw [bts_append, bts_one x (by omega)]; simp; omega
    have e3 : stp (bts (s' ++ [x])) x.l.toNat = stp (bts s') x.l.toNat := stp_congr _ fun c hc => by
      rw [bts_append, bts_one x (by omega)]; simp; omega
    have e4 : stp (bts s') 256 = stp (bts s') x.l.toNat := stp_gap 256 (by omega) fun c hc1 hc2 => hs' c hc2 (by omega)
    rw [show x.l.toNat + (x.h.toNat - x.l.toNat) = x.h.toNat by omega, ofNat_toNat, ofNat_toNat, e3, ← e4, ihs] at e2
    rw [e1, e2]
/-- The spans of a set ascend. -/
theorem asc_stp (f : Nat → Bool) : ∀ n, n ≤ 256 → asc (stp f n) = true ∧ (∀ z, (stp f n).getLast? = some z → z.h.toNat < n)
  | 0, _ => ⟨rfl, by simp [stp]⟩
  | n + 1, hn => by
    obtain ⟨h1, h2⟩ := asc_stp f n (by omega)
    have hlast : ∀ z, (stp f (n + 1)).getLast? = some z → z.h.toNat < n + 1 := fun z hz => (stp_mem f (n + 1) hn z (List.mem_of_getLast? hz)).1
    refine ⟨?_, hlast⟩
    rw [stp]
    split
    · next hf =>
      split
      · next x hx =>
        have hxn := h2 x hx
        obtain ⟨R, hR⟩ : ∃ R, stp f n = R ++ [x] := List.getLast?_eq_some_iff.1 hx
        rw [hR] at h1 ⊢
        rw [asc, ascP_snoc, Option.or_none, Bool.and_eq_true, Bool.and_eq_true] at h1
        obtain ⟨⟨a1, a2⟩, a3⟩ := h1
        have a2' : x.l.toNat ≤ x.h.toNat := by simpa using a2
        split
        · next e =>
          rw [List.dropLast_concat, asc, ascP_snoc, Option.or_none, a1, a3]
          simp [toNat_ofNat (show n < 256 by omega)]; omega
        · next e =>
          rw [asc, ascP_snoc, Option.or_none, ascP_snoc, Option.or_none, a1, a2, a3]
          simp [toNat_ofNat (show n < 256 by omega)]; omega
      · next hx => simp [asc, ascP]
    · exact h1
/-! ### Members -/
def lowB (q : List Cx) (i : Nat) : UInt8 := match q[i]? with
  | some x => x.b
  | none => 0
def rgB (q : List Cx) : Bool := isC q 1 45 && decide (2 < q.length) && !isC q 2 93
def clsS : Nat → List Sn
  | 0 => [⟨65, 90⟩, ⟨97, 122⟩]
  | 1 => [⟨48, 57⟩]
  | 2 => [⟨48, 57⟩, ⟨65, 90⟩, ⟨97, 122⟩]
  | 3 => [⟨65, 90⟩]
  | 4 => [⟨97, 122⟩]
  | 5 => [⟨9, 13⟩, ⟨32, 32⟩]
  | 6 => [⟨9, 9⟩, ⟨32, 32⟩]
  | _ => [⟨33, 47⟩, ⟨58, 64⟩, ⟨91, 96⟩, ⟨123, 126⟩]
theorem bts_cls (n : Nat) (hn : n < 8) (c : Nat) (hc : c < 256) : bts (clsS n) c = wth n c := by
  match n, hn with
  | 0, _ => simp [bts, inS, clsS, wth, upC, loC, toNat_ofNat hc]
  | 1, _ => simp [bts, inS, clsS, wth, diC, toNat_ofNat hc]
  | 2, _ => simp [bts, inS, clsS, wth, upC, loC, diC, toNat_ofNat hc]; rw [Bool.eq_iff_iff]; simp; omega
  | 3, _ => simp [bts, inS, clsS, wth, upC, toNat_ofNat hc]
  | 4, _ => simp [bts, inS, clsS, wth, loC, toNat_ofNat hc]
  | 5, _ => simp [bts, inS, clsS, wth, toNat_ofNat hc]; rw [Bool.eq_iff_iff]; simp; omega
  | 6, _ => simp [bts, inS, clsS, wth, toNat_ofNat hc]; rw [Bool.eq_iff_iff]; simp; omega
  | 7, _ => simp [bts, inS, clsS, wth, toNat_ofNat hc, Bool.or_assoc]
def clI (q : List Cx) : Nat := nms.idxOf (nmAt q 2)
def mbL (q : List Cx) : List Sn := if clB q 0 = true then clsS (clI q) else if rgB q = true then (if (lowB q 0).toNat ≤ (lowB q 2).toNat then [⟨lowB q 0, lowB q 2⟩] else []) else [⟨lowB q 0, lowB q 0⟩]
def mbN (q : List Cx) : Nat := if clB q 0 = true then 2 + (nmAt q 2).length + 2 else if rgB q = true then 3 else 1
theorem mbN_pos (q : List Cx) : 1 ≤ mbN q := by unfold mbN; split <;> (try split) <;> omega
theorem mbN_le {q : List Cx} (hq : 0 < q.length) : mbN q ≤ q.length := by
  unfold mbN
  split
  · next h =>
    simp only [clB, Bool.and_eq_true, Nat.zero_add] at h
    have := isC_lt h.1.2
    omega
  · split
    · next h =>
      simp only [rgB, Bool.and_eq_true, decide_eq_true_eq] at h
      omega
    · omega
/-! ### Brackets -/
def brL : Nat → List Cx → Bool → List Sn → Option (List Sn × List Cx)
  | 0, _, _, _ => none
  | n + 1, q, fst, sp => if q = [] then none else if isC q 0 93 = true ∧ fst = false then some (sp, q.drop 1) else brL n (q.drop (mbN q)) false (sp ++ mbL q)
theorem brL_stop {n : Nat} {q : List Cx} {f : Bool} {sp : List Sn} (hn : q.length < n) (hq : 0 < q.length) (h : isC q 0 93 = true) (hf : f = false) : brL n q f sp = some (sp, q.drop 1) := by
  cases n with
  | zero => omega
  | succ n => rw [brL, if_neg (fun e => by rw [e] at hq; simp at hq), if_pos ⟨h, hf⟩]
theorem brL_more {n : Nat} {q : List Cx} {f : Bool} {sp : List Sn} (hn : q.length < n) (hq : 0 < q.length) (h : isC q 0 93 = false ∨ f = true) : ∃ m, (q.drop (mbN q)).length < m ∧ brL n q f sp = brL m (q.drop (mbN q)) false (sp ++ mbL q) := by
  cases n with
  | zero => omega
  | succ n =>
    refine ⟨n, by rw [List.length_drop]; have := mbN_pos q; omega, ?_⟩
    rw [brL, if_neg (fun e => by rw [e] at hq; simp at hq), if_neg (fun ⟨a, b⟩ => by rcases h with h | h <;> simp_all)]
theorem brL_end {n : Nat} {f : Bool} {sp : List Sn} : brL n [] f sp = none := by cases n <;> simp [brL]
theorem brL_fuel : ∀ (n m : Nat) (q : List Cx) (f : Bool) (sp : List Sn), q.length < n → q.length < m → brL n q f sp = brL m q f sp
  | n + 1, m + 1, q, f, sp, h1, h2 => by
    rw [brL, brL]
    split
    · rfl
    · next hq =>
      split
      · rfl
      · have := mbN_pos q
        have hl : 0 < q.length := List.length_pos_iff.2 hq
        exact brL_fuel n m _ _ _ (by rw [List.length_drop]; omega) (by rw [List.length_drop]; omega)
theorem brL_suf : ∀ (n : Nat) (q : List Cx) (f : Bool) (sp : List Sn) (sp' : List Sn) (r : List Cx), brL n q f sp = some (sp', r) → ∃ k, 1 ≤ k ∧ k ≤ q.length ∧ r = q.drop k
  | 0, q, f, sp, sp', r, h => by simp [brL] at h
  | n + 1, q, f, sp, sp', r, h => by
    rw [brL] at h
    split at h
    · cases h
    · next hq =>
      have hl : 0 < q.length := List.length_pos_iff.2 hq
      split at h
      · injection h with h; injection h with h1 h2
        exact ⟨1, by omega, hl, h2.symm⟩
      · obtain ⟨k, h1, h2, h3⟩ := brL_suf n _ _ _ _ _ h
        rw [List.length_drop] at h2
        rw [List.drop_drop] at h3
        exact ⟨mbN q + k, by omega, by omega, h3⟩
def ngB (q : List Cx) : Bool := isC q 1 33 || isC q 1 94
def brk (q : List Cx) : Option (It × List Cx) :=
  match brL (q.length + 1) (q.drop (if ngB q = true then 2 else 1)) true [] with
  | some (sp, r) => some (⟨4, [], ngB q, stp (bts sp) 256⟩, r)
  | none => none
theorem brk_suf {q : List Cx} {it : It} {r : List Cx} (h : brk q = some (it, r)) : ∃ k, 1 ≤ k ∧ k ≤ q.length ∧ r = q.drop k := by
  unfold brk at h
  split at h
  · next sp r' hb =>
    injection h with h; injection h with _ h2
    subst h2
    obtain ⟨k, h1, h2, h3⟩ := brL_suf _ _ _ _ _ _ hb
    rw [List.length_drop] at h2
    rw [List.drop_drop] at h3
    refine ⟨_, ?_, ?_, h3⟩ <;> omega
  · cases h
/-! ### Patterns -/
def byI (b : UInt8) : It := ⟨1, [b], false, []⟩
def stI : It := ⟨3, [], false, []⟩
def anI : It := ⟨2, [], false, []⟩
def bkt (q : List Cx) : Option (It × List Cx) := if isC q 0 91 = true then brk q else none
def comp : Nat → List Cx → List It
  | 0, _ => []
  | _ + 1, [] => []
  | n + 1, x :: r =>
    if isC (x :: r) 0 42 = true then stI :: comp n r
    else if isC (x :: r) 0 63 = true then anI :: comp n r
    else match bkt (x :: r) with
      | some (it, r') => it :: comp n r'
      | none => byI x.b :: comp n r
theorem bkt_suf {q : List Cx} {it : It} {r : List Cx} (h : bkt q = some (it, r)) : ∃ k, 1 ≤ k ∧ k ≤ q.length ∧ r = q.drop k := by
  unfold bkt at h
  split at h
  · exact brk_suf h
  · cases h
theorem comp_fuel : ∀ (n m : Nat) (q : List Cx), q.length ≤ n → q.length ≤ m → comp n q = comp m q
  | 0, 0, q, _, _ => rfl
  | 0, m + 1, q, h, _ => by
    obtain rfl : q = [] := List.eq_nil_of_length_eq_zero (by omega)
    rfl
  | n + 1, 0, q, _, h => by
    obtain rfl : q = [] := List.eq_nil_of_length_eq_zero (by omega)
    rfl
  | n + 1, m + 1, [], _, _ => rfl
  | n + 1, m + 1, x :: r, h1, h2 => by
    simp only [List.length_cons] at h1 h2
    rw [comp, comp, comp_fuel n m r (by omega) (by omega)]
    cases hb : bkt (x :: r) with
    | none => rfl
    | some p =>
      obtain ⟨it, r'⟩ := p
      obtain ⟨k, k1, k2, k3⟩ := bkt_suf hb
      have hl : r'.length ≤ r.length := by rw [k3, List.length_drop, List.length_cons]; omega
      simp only
      rw [comp_fuel n m r' (by omega) (by omega)]
def compl (l : List Cx) : List It := comp l.length l
theorem compl_nil : compl [] = [] := rfl
theorem compl_cons (x : Cx) (r : List Cx) : compl (x :: r) = if isC (x :: r) 0 42 = true then stI :: compl r
    else if isC (x :: r) 0 63 = true then anI :: compl r
    else match bkt (x :: r) with
      | some (it, r') => it :: compl r'
      | none => byI x.b :: compl r := by
  rw [compl, List.length_cons, comp]
  cases hb : bkt (x :: r) with
  | none => rfl
  | some p =>
    obtain ⟨it, r'⟩ := p
    obtain ⟨k, k1, k2, k3⟩ := bkt_suf hb
    have hl : r'.length ≤ r.length := by rw [k3, List.length_drop, List.length_cons]; omega
    simp only
    rw [comp_fuel r.length r'.length r' (by omega) (by omega)]
    rfl
end Go.Proofs.Ytllhcgfdjfmmeaa
