/- Arithmetic expressions: what the scanner and the parser compute. No program is named here. -/
import Derived.Test.YtogmppcfopgkdaaGreatDoorRng
import Derived.Test.YtogmppcfopgkdaaGreatDoorStr
namespace Go.Proofs.YtogmppcfopgkdaaGreatDoor
set_option linter.unusedVariables false
set_option linter.unusedSimpArgs false
/-- A token. -/
structure Tk where
  kind : Int
  pos : Nat
  text : List UInt8
def spcB (c : UInt8) : Bool := decide (c.toNat = 9 ∨ c.toNat = 10 ∨ c.toNat = 32)
def folB (c : UInt8) : Bool := decide (c.toNat = 95 ∨ 48 ≤ c.toNat ∧ c.toNat ≤ 57 ∨ 65 ≤ c.toNat ∧ c.toNat ≤ 90 ∨ 97 ≤ c.toNat ∧ c.toNat ≤ 122)
def skB : List UInt8 → Nat
  | [] => 0
  | c :: r => if spcB c = true then skB r + 1 else 0
def flN : List UInt8 → Nat
  | [] => 0
  | c :: r => if folB c = true then flN r + 1 else 0
def symL : List (List UInt8) := [[60, 60, 61], [62, 62, 61], [60, 60], [62, 62], [60, 61], [62, 61], [61, 61], [33, 61], [38, 38], [124, 124], [43, 61], [45, 61], [42, 61], [47, 61], [37, 61], [38, 61], [94, 61], [124, 61]]
def pfB (t l : List UInt8) : Bool := t.isPrefixOf l
def symF (l : List UInt8) : Option (List UInt8) := symL.find? fun t => pfB t l
def opsL : List UInt8 := [61, 63, 58, 124, 94, 38, 60, 62, 43, 45, 42, 47, 37, 33, 126, 40, 41]
/-- The token that the rest l of the text, from a on, begins with, where there's no white space. -/
def tokL (l : List UInt8) (a : Nat) : Tk :=
  match l with
  | [] => ⟨0, a, []⟩
  | c :: r => if folB c = true then ⟨if 48 ≤ c.toNat ∧ c.toNat ≤ 57 then 1 else 2, a, (c :: r).take (flN (c :: r))⟩ else
    match symF (c :: r) with
    | some t => ⟨3, a, t⟩
    | none => ⟨if opsL.contains c = true then 3 else 4, a, [c]⟩
def scnL (s : List UInt8) (a : Nat) : Tk := tokL (s.drop (a + skB (s.drop a))) (a + skB (s.drop a))
def nxK (s : List UInt8) (t : Tk) : Tk := scnL s (t.pos + t.text.length)
theorem skB_le (l : List UInt8) : skB l ≤ l.length := by
  induction l with
  | nil => exact Nat.le_refl _
  | cons c r ih => simp only [skB, List.length_cons]; split <;> omega
theorem flN_le (l : List UInt8) : flN l ≤ l.length := by
  induction l with
  | nil => exact Nat.le_refl _
  | cons c r ih => simp only [flN, List.length_cons]; split <;> omega
theorem symF_ok {l t : List UInt8} (h : symF l = some t) : 2 ≤ t.length ∧ t.length ≤ 3 ∧ t.isPrefixOf l = true ∧ t ∈ symL := by
  have h1 := List.find?_some h
  have h2 := List.mem_of_find?_eq_some h
  refine ⟨?_, ?_, h1, h2⟩ <;> (revert h2; generalize t = u; clear h1 h; revert u; decide)
/-- What is known of a token of the text s. -/
structure TkOk (s : List UInt8) (t : Tk) : Prop where
  le : t.pos + t.text.length ≤ s.length
  ne : t.kind ≠ 0 → 0 < t.text.length
  par : 40 ∉ s → t.text ≠ [40]
  kd : 0 ≤ t.kind ∧ t.kind ≤ 4
  nm : (t.kind = 1 ∨ t.kind = 2) → ∀ c ∈ t.text, folB c = true
theorem tokL_ok (s : List UInt8) {a : Nat} (ha : a ≤ s.length) : TkOk s (tokL (s.drop a) a) ∧ (tokL (s.drop a) a).pos = a := by
  have hl : (s.drop a).length = s.length - a := List.length_drop
  have hm : ∀ c ∈ s.drop a, c ∈ s := fun c h => List.mem_of_mem_drop h
  cases hd : s.drop a with
  | nil => exact ⟨⟨by simp [tokL]; omega, fun h => absurd rfl h, fun _ h => (by cases h), by simp [tokL], fun h => by simp [tokL] at h⟩, rfl⟩
  | cons c r =>
    rw [hd] at hl hm
    simp only [List.length_cons] at hl
    unfold tokL
    simp only
    by_cases hf : folB c = true
    · rw [if_pos hf]
      have h1 := flN_le (c :: r)
      have h2 : 0 < flN (c :: r) := by simp only [flN, hf, if_true]; omega
      have h3 : ((c :: r).take (flN (c :: r))).length = flN (c :: r) := by rw [List.length_take]; omega
      have hall : ∀ l : List UInt8, ∀ d ∈ l.take (flN l), folB d = true := by
        intro l
        induction l with
        | nil => intro d hd; simp [flN] at hd
        | cons x l ih =>
          intro d hd
          simp only [flN] at hd
          split at hd
          · next hx =>
            rw [List.take_succ_cons] at hd
            rcases List.mem_cons.1 hd with rfl | hd
            · exact hx
            · exact ih d hd
          · simp at hd
      refine ⟨⟨by simp only [h3]; simp only [List.length_cons] at h1; omega, fun _ => by simp only [h3]; exact h2, fun _ e => ?_, by simp only; split <;> decide, fun _ => hall _⟩, rfl⟩
      simp only at e
      have := hall (c :: r) 40 (by rw [e]; simp)
      revert this; decide
    · rw [if_neg hf]
      cases hs : symF (c :: r) with
      | some t =>
        obtain ⟨q1, q2, q3, q4⟩ := symF_ok hs
        have := (List.isPrefixOf_iff_prefix.1 q3).length_le
        simp only [List.length_cons] at this
        exact ⟨⟨by simp only; omega, fun _ => by simp only; omega, fun _ e => by simp only at e; rw [e] at q1; simp at q1, by simp, fun h => by simp at h⟩, rfl⟩
      | none =>
        refine ⟨⟨by simp only [List.length_cons, List.length_nil]; omega, fun _ => by simp, fun h e => ?_, by simp only; split <;> decide, fun h => by simp only at h; split at h <;> simp at h⟩, rfl⟩
        simp only [List.cons.injEq, and_true] at e
        exact h (e ▸ hm c List.mem_cons_self)
theorem scnL_ok (s : List UInt8) {a : Nat} (ha : a ≤ s.length) : TkOk s (scnL s a) ∧ a ≤ (scnL s a).pos := by
  have h := skB_le (s.drop a)
  rw [List.length_drop] at h
  obtain ⟨h1, h2⟩ := tokL_ok s (a := a + skB (s.drop a)) (by omega)
  exact ⟨h1, by unfold scnL; omega⟩
theorem nxK_ok {s : List UInt8} {t : Tk} (h : TkOk s t) : TkOk s (nxK s t) ∧ t.pos + t.text.length ≤ (nxK s t).pos := scnL_ok s h.le
/-! ### Trees -/
inductive Ex where
  | mk (op n : Int) (nm : List UInt8) (kids : List Ex)
/-- What the parser answers. -/
inductive Pr where
  | ok (e : Ex) (t : Tk)
  | er (p : Nat) (e : Int)
/-- The binary operators: the symbol, the level, the number. -/
def binL : List (List UInt8 × Int × Int) := [([124, 124], 3, 24), ([38, 38], 4, 23), ([124], 5, 22), ([94], 6, 21), ([38], 7, 20), ([61, 61], 8, 18), ([33, 61], 8, 19), ([60], 9, 14), ([62], 9, 15), ([60, 61], 9, 16), ([62, 61], 9, 17), ([60, 60], 10, 12), ([62, 62], 10, 13), ([43], 11, 10), ([45], 11, 11), ([42], 12, 7), ([47], 12, 8), ([37], 12, 9)]
def cmpB (op : Int) : Bool := decide (op = 10 ∨ op = 11 ∨ op = 7 ∨ op = 8 ∨ op = 9 ∨ op = 12 ∨ op = 13 ∨ op = 20 ∨ op = 21 ∨ op = 22)
def asgL (u : List UInt8) : Option Int := (binL.find? fun o => decide (o.1 = u) && cmpB o.2.2).map (·.2.2)
/-- The operator of an assignment. -/
def asgF (t : Tk) : Option Int := if t.kind = 3 ∧ t.text.getLast? = some 61 then (if t.text.dropLast = [] then some 0 else asgL t.text.dropLast) else none
/-- The level and the operator of a token. -/
def oprF (t : Tk) : Int × Int := if t.kind = 3 then ((binL.find? fun o => decide (o.1 = t.text)).map (·.2)).getD (0, 0) else (0, 0)
def seeF (t : Tk) (u : List UInt8) : Bool := decide (t.kind = 3 ∧ t.text = u)
def nmC (c : UInt8) : Bool := decide (c.toNat = 95 ∨ 48 ≤ c.toNat ∧ c.toNat ≤ 57 ∨ 65 ≤ c.toNat ∧ c.toNat ≤ 90 ∨ 97 ≤ c.toNat ∧ c.toNat ≤ 122)
/-- Whether a string is a name. -/
def nmB (s : List UInt8) : Bool := decide (1 ≤ s.length ∧ s.length ≤ 32) && s.all nmC && !(match s with | [] => false | c :: _ => decide (48 ≤ c.toNat ∧ c.toNat ≤ 57))
def unL (t : Tk) : Option Int := if seeF t [45] = true then some 3 else if seeF t [43] = true then some 4 else if seeF t [33] = true then some 5 else if seeF t [126] = true then some 6 else none
end Go.Proofs.YtogmppcfopgkdaaGreatDoor
/- Arithmetic expressions: the scanner, on the abstract machine. -/
namespace Go.Proofs.YtogmppcfopgkdaaGreatDoor
open Go.RowKit
set_option linter.unusedVariables false
set_option linter.unusedSimpArgs false
set_option maxRecDepth 100000
set_option maxHeartbeats 8000000
theorem dropc {s : List UInt8} {i : Nat} (h : i < s.length) : s.drop i = s[i] :: s.drop (i + 1) := List.drop_eq_getElem_cons h
abbrev tkC (t : Tk) : List AV := [ai t.kind, ai (t.pos : Nat), az t.text]
abbrev tkA (t : Tk) : AV := .ag (tkC t)
theorem space_ab (b : UInt8) : Ab Tryz.prog 53 [au b] (ab (spcB b)) := by
  refine Fn_of_aw (keep := []) Tryz.func53 rfl rfl (by simp [Tryz.ntmps53]) ?_
  simp only [num_cons, num_nil, Tryz.ntmps53, Tryz.results53]
  repeat' (first
 | ((with_reducible apply awO_ev); (· rfl); (· exact sv))
 | ((with_reducible apply aw_seq); intro _ _)
 | (with_reducible apply aw_region)
 | ((with_reducible first | apply awO_nil | apply aw_exit | apply aw_skip | apply aw_ret); (try simp only [CT, ↓reduceIte, Nat.reduceEqDiff]))
 | ((with_reducible apply awO_y); (· rfl); (· rfl); (· decide); (· exact sv); (· exact sv))
 | ((with_reducible apply awO_n); (· rfl); (· rfl); (· decide); (· exact sv); (· rfl); (· rfl); (· decide))
 | (refine Kont.go ‹Kont _ _ _ _› _ ?_)
 | ((first | ((with_reducible apply awO_guardN); (· rfl); (· rfl); (· exact sv); (· exact nB)) | ((with_reducible apply aw_condN); (· exact sv))); (· exact pN); (· exact pN); all_goals (intro hg; try (exfalso; omega)))
 | ((with_reducible apply retQ_mk); (· exact rI); (· exact sv); (· exact sv); rotate_left; (· rfl)))
  all_goals (unfold spcB; (refine ab_eq ?_; simp only [Bool.false_eq_true, decide_eq_true_eq, true_iff, false_iff, iff_true, iff_false, not_true, not_false_eq_true]; omega))
theorem follows_ab (b : UInt8) : Ab Tryz.prog 54 [au b] (ab (folB b)) := by
  refine Fn_of_aw (keep := []) Tryz.func54 rfl rfl (by simp [Tryz.ntmps54]) ?_
  simp only [num_cons, num_nil, Tryz.ntmps54, Tryz.results54]
  repeat' (first
 | ((with_reducible apply awO_ev); (· rfl); (· exact sv))
 | ((with_reducible apply aw_seq); intro _ _)
 | (with_reducible apply aw_region)
 | ((with_reducible first | apply awO_nil | apply aw_exit | apply aw_skip | apply aw_ret); (try simp only [CT, ↓reduceIte, Nat.reduceEqDiff]))
 | ((with_reducible apply awO_y); (· rfl); (· rfl); (· decide); (· exact sv); (· exact sv))
 | ((with_reducible apply awO_n); (· rfl); (· rfl); (· decide); (· exact sv); (· rfl); (· rfl); (· decide))
 | ((with_reducible apply awO_u); (· rfl); (· rfl); (· exact svr); (· rfl); (· decide))
 | (refine Kont.go ‹Kont _ _ _ _› _ ?_)
 | ((first | ((with_reducible apply awO_guardN); (· rfl); (· rfl); (· exact sv); (· exact nB)) | ((with_reducible apply aw_condN); (· exact sv))); (· exact pN); (· exact pN); all_goals (intro hg; try (exfalso; omega)))
 | ((with_reducible apply retQ_mk); (· exact rI); (· exact sv); (· exact sv); rotate_left; (· rfl)))
  all_goals (unfold folB; (refine ab_eq ?_; simp only [Bool.false_eq_true, decide_eq_true_eq, true_iff, false_iff, iff_true, iff_false, not_true, not_false_eq_true]; omega))
theorem scnL_sp {s : List UInt8} {i : Nat} (h : i < s.length) (hs : spcB s[i] = true) : scnL s i = scnL s (i + 1) := by
  have e : skB (s.drop i) = skB (s.drop (i + 1)) + 1 := by rw [dropc h, skB, if_pos hs]
  unfold scnL
  rw [e, show i + (skB (s.drop (i + 1)) + 1) = i + 1 + skB (s.drop (i + 1)) from by omega]
theorem scnL_no {s : List UInt8} {i : Nat} (h : i < s.length) (hs : spcB s[i] = false) : scnL s i = tokL (s.drop i) i := by
  have e : skB (s.drop i) = 0 := by rw [dropc h, skB, hs, if_neg (by simp)]
  unfold scnL
  rw [e, Nat.add_zero]
theorem idxB_mem (l : List UInt8) (c : UInt8) : 0 ≤ idxB l c ↔ c ∈ l := by
  induction l with
  | nil => exact ⟨fun h => absurd h (by show ¬ (0 : Int) ≤ -1; decide), fun h => by cases h⟩
  | cons b l ih =>
    have := idxB_ge l c
    simp only [idxB, List.mem_cons]
    by_cases h : b = c
    · rw [if_pos h]; exact ⟨fun _ => .inl h.symm, fun _ => by omega⟩
    · rw [if_neg h]
      split
      · next h' => exact ⟨fun h2 => absurd h2 (by decide), fun h2 => by rcases h2 with h2 | h2; exact absurd h2.symm h; have := ih.2 h2; omega⟩
      · next h' => exact ⟨fun h2 => .inr (ih.1 (by omega)), fun h2 => by rcases h2 with h2 | h2; exact absurd h2.symm h; have := ih.2 h2; omega⟩
theorem symL_len : symL.length = 18 := rfl
theorem scan_ab (s : List UInt8) (a : Nat) (z : Int) (hz : z = a) (ha : a ≤ s.length) (hs : s.length ≤ 1000000) : Ab Tryz.prog 31 [az s, ai z] (tkA (scnL s a)) := by
  subst hz
  generalize hR : scnL s a = R
  refine Fn_of_aw (keep := []) Tryz.func31 rfl rfl (by simp [Tryz.ntmps31]) ?_
  simp only [num_cons, num_nil, Tryz.ntmps31, Tryz.results31]
  repeat' (first
 | ((with_reducible apply awO_ev); (· rfl); (· exact sv))
 | ((with_reducible apply aw_seq); intro _ _)
 | (with_reducible apply aw_region)
 | (with_reducible apply aw_block)
 | ((with_reducible first | apply awO_nil | apply aw_exit | apply aw_skip | apply aw_ret); (try simp only [CT, ↓reduceIte, Nat.reduceEqDiff]))
 | (refine Kont.go ‹Kont _ _ _ _› _ ?_))
  refine aw_loopF (fun i : Nat => [(1, ai i)]) (fun _ => [(4, [ai 0, ai 0, az []])]) (fun i => i ≤ s.length ∧ R = scnL s i) (fun i => s.length - i) a ⟨ha, hR.symm⟩ ?_ ?_ ?_
  · exact ⟨rfl, trivial⟩
  · exact ⟨rfl, trivial⟩
  rintro i ⟨hi, hI⟩
  clear hR
  (simp only [LP, List.append_assoc, List.nil_append, List.cons_append, List.append_nil, List.contains_cons, List.contains_nil, Nat.reduceBEq, Bool.or_false, Bool.or_true, Bool.true_or, Bool.false_or, ↓reduceIte, Bool.false_eq_true])
  by_cases hil : i < s.length
  rotate_left
  · obtain rfl : i = s.length := by omega
    have hR : R = ⟨0, s.length, []⟩ := by
      rw [hI]; unfold scnL
      have e : s.drop s.length = [] := List.drop_eq_nil_of_le (Nat.le_refl _)
      rw [e]; simp [skB, tokL]
    subst hR
    exact wkA
  have c1 := space_ab s[i]
  cases hsp : spcB s[i] with
  | true =>
    rw [hsp] at c1
    rw [scnL_sp hil hsp] at hI
    repeat' (first
 | ((with_reducible apply awO_ev); (· rfl); (· exact sv))
 | ((with_reducible apply aw_seq); intro _ _)
 | (with_reducible apply aw_region)
 | (with_reducible apply aw_block)
 | ((with_reducible first | apply awO_nil | apply aw_exit | apply aw_skip | apply aw_ret); (try simp only [CT, ↓reduceIte, Nat.reduceEqDiff]))
 | ((with_reducible apply awO_y); (· rfl); (· rfl); (· decide); (· exact sv); (· exact sv))
 | ((with_reducible apply aw_cond_true); (· exact sv))
 | ((with_reducible apply awO_un); (· rfl); (· decide); (· exact sv))
 | (refine Kont.go ‹Kont _ _ _ _› _ ?_)
 | ((with_reducible apply awO_c); (· rfl); (· rfl); (· exact sv); (· (first | exact c1)); (· rfl); (· rfl); (· rfl); (· decide))
 | ((first | ((with_reducible apply awO_guardN); (· rfl); (· rfl); (· exact sv); (· exact nB)) | ((with_reducible apply aw_condN); (· exact sv))); (· exact pN); (· exact pN); all_goals (intro hg; try (exfalso; omega))))
    all_goals
      refine LE_mk (i + 1) ?_ ?_ sN sN sN
      · exact ⟨hil, hI⟩
      · omega
  | false =>
    rw [hsp] at c1
    rw [scnL_no hil hsp, dropc hil] at hI
    have c2 := follows_ab s[i]
    unfold tokL at hI
    simp only at hI
    cases hf : folB s[i] with
    | true =>
      rw [hf] at c2
      rw [if_pos hf] at hI
      have h1 : flN (s[i] :: s.drop (i + 1)) = flN (s.drop (i + 1)) + 1 := by rw [flN, if_pos hf]
      rw [h1, ← dropc hil] at hI
      repeat' (first
 | ((with_reducible apply awO_ev); (· rfl); (· exact sv))
 | ((with_reducible apply aw_seq); intro _ _)
 | (with_reducible apply aw_region)
 | (with_reducible apply aw_block)
 | ((with_reducible first | apply awO_nil | apply aw_exit | apply aw_skip | apply aw_ret); (try simp only [CT, ↓reduceIte, Nat.reduceEqDiff]))
 | ((with_reducible apply awO_y); (· rfl); (· rfl); (· decide); (· exact sv); (· exact sv))
 | ((with_reducible apply aw_cond_true); (· exact sv))
 | ((with_reducible apply aw_cond_false); (· exact sv))
 | ((with_reducible apply awO_un); (· rfl); (· decide); (· exact sv))
 | (refine Kont.go ‹Kont _ _ _ _› _ ?_)
 | ((with_reducible apply awO_c); (· rfl); (· rfl); (· exact sv); (· (first | exact c1 | exact c2)); (· rfl); (· rfl); (· rfl); (· decide))
 | ((first | ((with_reducible apply awO_guardN); (· rfl); (· rfl); (· exact sv); (· exact nB)) | ((with_reducible apply aw_condN); (· exact sv))); (· exact pN); (· exact pN); all_goals (intro hg; try (exfalso; omega))))
      refine aw_loopF (fun k : Nat => [(5, ai k)]) (fun _ => [(4, [ai 0, ai 0, az []])]) (fun k => i + 1 ≤ k ∧ k ≤ s.length ∧ flN (s.drop (i + 1)) = (k - (i + 1)) + flN (s.drop k)) (fun k => s.length - k) (i + 1) ⟨Nat.le_refl _, hil, by omega⟩ ?_ ?_ ?_
      · exact ⟨rfl, trivial⟩
      · exact ⟨rfl, trivial⟩
      rintro k ⟨hk1, hk2, hk3⟩
      clear c1 c2
      (simp only [LP, List.append_assoc, List.nil_append, List.cons_append, List.append_nil, List.contains_cons, List.contains_nil, Nat.reduceBEq, Bool.or_false, Bool.or_true, Bool.true_or, Bool.false_or, ↓reduceIte, Bool.false_eq_true])
      have fin : flN (s.drop k) = 0 → R = ⟨if 48 ≤ s[i].toNat ∧ s[i].toNat ≤ 57 then 1 else 2, i, (s.drop i).take (k - i)⟩ := fun h0 => by
        rw [hI, hk3, h0]
        congr 2
        omega
      clear hI
      by_cases hkl : k < s.length
      · have c3 := follows_ab s[k]
        cases hfk : folB s[k] with
        | true =>
          rw [hfk] at c3
          have h2 : flN (s.drop k) = flN (s.drop (k + 1)) + 1 := by rw [dropc hkl, flN, if_pos hfk]
          repeat' (first
 | ((with_reducible apply awO_ev); (· rfl); (· exact sv))
 | ((with_reducible apply aw_seq); intro _ _)
 | (with_reducible apply aw_region)
 | (with_reducible apply aw_block)
 | ((with_reducible first | apply awO_nil | apply aw_exit | apply aw_skip | apply aw_ret); (try simp only [CT, ↓reduceIte, Nat.reduceEqDiff]))
 | ((with_reducible apply awO_y); (· rfl); (· rfl); (· decide); (· exact sv); (· exact sv))
 | ((with_reducible apply aw_cond_true); (· exact sv))
 | ((with_reducible apply awO_un); (· rfl); (· decide); (· exact sv))
 | (refine Kont.go ‹Kont _ _ _ _› _ ?_)
 | ((with_reducible apply awO_c); (· rfl); (· rfl); (· exact sv); (· (first | exact c3)); (· rfl); (· rfl); (· rfl); (· decide))
 | ((first | ((with_reducible apply awO_guardN); (· rfl); (· rfl); (· exact sv); (· exact nB)) | ((with_reducible apply aw_condN); (· exact sv))); (· exact pN); (· exact pN); all_goals (intro hg; try (exfalso; omega))))
          all_goals
            refine LE_mk (k + 1) ?_ ?_ sN sN sN
            · exact ⟨by omega, hkl, by omega⟩
            · omega
        | false =>
          rw [hfk] at c3
          have hR := fin (by rw [dropc hkl, flN, hfk, if_neg (by simp)])
          clear fin
          by_cases hd : 48 ≤ s[i].toNat ∧ s[i].toNat ≤ 57
          · rw [if_pos hd] at hR
            subst hR
            exact wkA
          · rw [if_neg hd] at hR
            subst hR
            exact wkA
      · have hR := fin (by rw [List.drop_eq_nil_of_le (by omega)]; rfl)
        clear fin
        by_cases hd : 48 ≤ s[i].toNat ∧ s[i].toNat ≤ 57
        · rw [if_pos hd] at hR
          subst hR
          exact wkA
        · rw [if_neg hd] at hR
          subst hR
          exact wkA
    | false =>
      rw [hf] at c2
      rw [if_neg (by simp [hf]), ← dropc hil] at hI
      have c4 := indexByte_ab opsL s[i]
      have hops : opsL.contains s[i] = decide (0 ≤ idxB opsL s[i]) := by
        have := idxB_mem opsL s[i]
        rw [Bool.eq_iff_iff, List.contains_iff_mem, decide_eq_true_eq]
        exact this.symm
      rw [hops] at hI
      repeat' (first
 | ((with_reducible apply awO_ev); (· rfl); (· exact sv))
 | ((with_reducible apply aw_seq); intro _ _)
 | (with_reducible apply aw_region)
 | (with_reducible apply aw_block)
 | ((with_reducible first | apply awO_nil | apply aw_exit | apply aw_skip | apply aw_ret); (try simp only [CT, ↓reduceIte, Nat.reduceEqDiff]))
 | ((with_reducible apply awO_y); (· rfl); (· rfl); (· decide); (· exact sv); (· exact sv))
 | ((with_reducible apply aw_cond_false); (· exact sv))
 | ((with_reducible apply awO_un); (· rfl); (· decide); (· exact sv))
 | (refine Kont.go ‹Kont _ _ _ _› _ ?_)
 | ((with_reducible apply awO_c); (· rfl); (· rfl); (· exact sv); (· (first | exact c1 | exact c2)); (· rfl); (· rfl); (· rfl); (· decide))
 | ((first | ((with_reducible apply awO_guardN); (· rfl); (· rfl); (· exact sv); (· exact nB)) | ((with_reducible apply aw_condN); (· exact sv))); (· exact pN); (· exact pN); all_goals (intro hg; try (exfalso; omega))))
      refine aw_loopF (fun j : Nat => [(70, ai j)]) (fun _ => [(4, [ai 0, ai 0, az []]), (67, symL.map az)]) (fun j => j ≤ 18 ∧ symF (s.drop i) = (symL.drop j).find? fun t => pfB t (s.drop i)) (fun j => 18 - j) 0 ⟨by omega, rfl⟩ ?_ ?_ ?_
      · exact ⟨rfl, trivial⟩
      · exact ⟨rfl, rfl, trivial⟩
      rintro j ⟨hj, hJ⟩
      clear c1 c2
      (simp only [LP, List.append_assoc, List.nil_append, List.cons_append, List.append_nil, List.contains_cons, List.contains_nil, Nat.reduceBEq, Bool.or_false, Bool.or_true, Bool.true_or, Bool.false_or, ↓reduceIte, Bool.false_eq_true])
      by_cases hjl : j < symL.length
      · rw [List.drop_eq_getElem_cons hjl] at hJ
        have hjl' : j < 18 := hjl
        have c3 : Ab Tryz.prog 55 [az (s.drop i), az symL[j]] (ab (pfB symL[j] (s.drop i))) := hasPrefix_ab _ _
        cases hp : pfB symL[j] (s.drop i) with
        | true =>
          rw [hp] at c3
          rw [List.find?_cons_of_pos (by exact hp)] at hJ
          rw [hJ] at hI
          simp only at hI
          subst hI
          exact wkA
        | false =>
          rw [hp] at c3
          rw [List.find?_cons_of_neg (p := fun t => pfB t (s.drop i)) (a := symL[j]) (fun h => Bool.noConfusion (h.symm.trans hp))] at hJ
          repeat' (first
 | ((with_reducible apply awO_ev); (· rfl); (· exact sv))
 | ((with_reducible apply aw_seq); intro _ _)
 | (with_reducible apply aw_region)
 | (with_reducible apply aw_block)
 | ((with_reducible first | apply awO_nil | apply aw_exit | apply aw_skip | apply aw_ret); (try simp only [CT, ↓reduceIte, Nat.reduceEqDiff]))
 | ((with_reducible apply aw_cond_false); (· exact sv))
 | (refine Kont.go ‹Kont _ _ _ _› _ ?_)
 | ((with_reducible apply awO_c); (· rfl); (· rfl); (· exact sv); (· (first | exact c3)); (· rfl); (· rfl); (· rfl); (· decide))
 | ((first | ((with_reducible apply awO_guardN); (· rfl); (· rfl); (· exact sv); (· exact nB)) | ((with_reducible apply aw_condN); (· exact sv))); (· exact pN); (· exact pN); all_goals (intro hg; try (exfalso; omega))))
          all_goals
            refine LE_mk (j + 1) ?_ ?_ sN sN sN
            · exact ⟨by omega, hJ⟩
            · omega
      · have hj' : ¬ j < 18 := hjl
        rw [show symL.drop j = [] from List.drop_eq_nil_of_le (by rw [symL_len]; omega)] at hJ
        rw [hJ] at hI
        simp only [List.find?_nil] at hI
        have h1s : (s.drop i).take (i + 1 - i) = [s[i]] := by rw [dropc hil, show i + 1 - i = 1 from by omega]; rfl
        by_cases h0 : 0 ≤ idxB opsL s[i]
        · rw [decide_eq_true h0, if_pos rfl, ← h1s] at hI
          subst hI
          exact wkA
        · rw [decide_eq_false h0, if_neg (by simp), ← h1s] at hI
          subst hI
          exact wkA
end Go.Proofs.YtogmppcfopgkdaaGreatDoor
/- Arithmetic expressions: the parser's small functions, on the abstract machine. -/
namespace Go.Proofs.YtogmppcfopgkdaaGreatDoor
open Go.RowKit
set_option linter.unusedVariables false
set_option linter.unusedSimpArgs false
set_option maxRecDepth 100000
set_option maxHeartbeats 8000000
theorem one_nil : one [] = .tp [] := rfl
attribute [go_sem] one_nil
theorem tyNflt : notIf Tryz.prog 87 = true := by kernel_rfl
attribute [go_sem] tyNflt
/-- The fault that is raised. -/
abbrev fltV (p : Nat) (e : Int) : Value := .iface 87 (.agg #[.int .i64 p, .int .i64 e])
/-- The parser's cells. -/
abbrev pcs (s : List UInt8) (t : Tk) : List AV := [az s, ai t.kind, ai (t.pos : Nat), az t.text]
section
variable {s : List UInt8} {t : Tk}
theorem after_fn (hs : s.length ≤ 1000000) (ht : TkOk s t) : Fn Tryz.prog 59 [.pt 16 0] [(16, pcs s t)] (tkA (nxK s t)) [(16, pcs s t)] [16] := by
  have hle := ht.le
  have c1 := fun z hz => scan_ab s (t.pos + t.text.length) z hz ht.le hs
  obtain ⟨k, p, x⟩ := t
  simp only at hle c1
  refine Fn_of_aw (keep := [16]) Tryz.func59 rfl rfl (by simp [Tryz.ntmps59]) (aw_wk ?_)
  simp only [num_cons, num_nil, Tryz.ntmps59, Tryz.results59]
  repeat' (first
 | ((with_reducible apply awO_ev); (· rfl); (· exact sv))
 | ((with_reducible apply aw_seq); intro _ _)
 | (with_reducible apply aw_region)
 | ((with_reducible first | apply awO_nil | apply aw_exit | apply aw_skip | apply aw_ret); (try simp only [CT, ↓reduceIte, Nat.reduceEqDiff]))
 | (refine Kont.go ‹Kont _ _ _ _› _ ?_)
 | ((with_reducible apply aw_draw); (· decide +kernel); (simp only [List.size_toArray, List.length_cons, List.length_nil, Nat.reduceAdd]))
 | ((with_reducible apply awY_done); (· decide +kernel); (try simp only [CT, ↓reduceIte, Nat.reduceEqDiff]))
 | ((with_reducible apply awY_q); (· exact sQ); (· exact np); (· exact svg); (· rfl); (· exact sv))
 | ((with_reducible apply awI_ev); (· exact svg); (· rfl); (· exact sv))
 | ((with_reducible apply awI_c); (· exact svg); (· rfl); (· rfl); (· exact sv); (· (first | exact c1 _ (by omega))); (· rfl); (· rfl); (· rfl); (· exact nd); simp only [put_some])
 | ((try with_reducible apply wk_id); (with_reducible apply retQ_mk1); (· exact rI); (· exact sv); (· exact sv); (· exact sv); (· exact sv); rotate_left; rotate_left; (· simp); (· rfl))
 | ((with_reducible apply awY_p); (· exact sH); (first | ((with_reducible apply awP_1); (· decide +kernel)) | ((with_reducible apply awP_2); (· exact sP)))))
  all_goals rfl
end
end Go.Proofs.YtogmppcfopgkdaaGreatDoor
/- Arithmetic expressions: what the parser computes. No program is named here. -/
namespace Go.Proofs.YtogmppcfopgkdaaGreatDoor
set_option linter.unusedVariables false
set_option linter.unusedSimpArgs false
/-- The value of a byte as a digit, or -1. -/
def hexL : List UInt8 := [48, 49, 50, 51, 52, 53, 54, 55, 56, 57, 97, 98, 99, 100, 101, 102]
def lowB (c : UInt8) : UInt8 := if 65 ≤ c.toNat ∧ c.toNat ≤ 90 then 32 else 0
def idxZ : List UInt8 → UInt8 → Int
  | [], _ => -1
  | b :: l, c => if b = c then 0 else if idxZ l c = -1 then -1 else idxZ l c + 1
theorem idxZ_ge (l : List UInt8) (c : UInt8) : -1 ≤ idxZ l c ∧ idxZ l c < l.length := by
  induction l with
  | nil => simp [idxZ]
  | cons b l ih =>
    simp only [idxZ, List.length_cons]
    split
    · omega
    · split <;> omega
def dgZ (c : UInt8) : Int := idxZ hexL (c ||| lowB c)
theorem dgZ_lt (c : UInt8) : -1 ≤ dgZ c ∧ dgZ c < 16 := idxZ_ge hexL _
/-- The digits of a constant. -/
def vlL (base : Int) : List UInt8 → Int → Bool → Int × Int
  | [], n, large => if large = true then (0, 14) else (n, 0)
  | c :: r, n, large => if dgZ c < 0 ∨ base ≤ dgZ c then (0, 6) else if large = true ∨ (9223372036854775807 - dgZ c) / base < n then vlL base r n true else vlL base r (n * base + dgZ c) false
def valZ (s : List UInt8) : Int × Int :=
  if [48, 120].isPrefixOf s = true ∨ [48, 88].isPrefixOf s = true then (if s.drop 2 = [] then (0, 6) else vlL 16 (s.drop 2) 0 false)
  else if s.head? = some 48 then vlL 8 s 0 false else vlL 10 s 0 false
theorem vlL_ok (base : Int) (hb : 0 < base) : ∀ (l : List UInt8) (n : Int) (large : Bool), 0 ≤ n → n ≤ 9223372036854775807 → 0 ≤ (vlL base l n large).1 ∧ (vlL base l n large).1 ≤ 9223372036854775807
  | [], n, large, h0, h1 => by simp only [vlL]; split <;> simp <;> omega
  | c :: r, n, large, h0, h1 => by
    have hd := dgZ_lt c
    simp only [vlL]
    split
    · simp
    · next hc =>
      split
      · exact vlL_ok base hb r n true h0 h1
      · next hl =>
        have h2 : n ≤ (9223372036854775807 - dgZ c) / base := by
          rcases Classical.em ((9223372036854775807 - dgZ c) / base < n) with h | h
          · exact absurd (.inr h) hl
          · omega
        have h3 : n * base ≤ 9223372036854775807 - dgZ c := Int.le_trans (Int.mul_le_mul_of_nonneg_right h2 (by omega)) (Int.ediv_mul_le _ (by omega))
        have h4 : 0 ≤ n * base := Int.mul_nonneg h0 (by omega)
        exact vlL_ok base hb r _ false (by omega) (by omega)
theorem valZ_ok (s : List UInt8) : 0 ≤ (valZ s).1 ∧ (valZ s).1 ≤ 9223372036854775807 := by
  unfold valZ
  split
  · split
    · simp
    · exact vlL_ok 16 (by decide) _ 0 false (by omega) (by omega)
  · split
    · exact vlL_ok 8 (by decide) _ 0 false (by omega) (by omega)
    · exact vlL_ok 10 (by decide) _ 0 false (by omega) (by omega)
/-- What is to be parsed. -/
inductive Nt where
  | ex | cn
  | op (l : Int)
  | ol (l : Int) (e : Ex)
  | un | pr
/-- The parser; it never gets behind a parenthesis, as the text has none. -/
def psF (s : List UInt8) : Nat → Nt → Tk → Pr
  | 0, _, t => .er t.pos 6
  | n + 1, .ex, t => if t.kind = 2 then
      match asgF (nxK s t) with
      | none => psF s n .cn t
      | some op => if nmB t.text = true then
          match psF s n .ex (nxK s (nxK s t)) with
          | .ok e t1 => .ok (.mk 26 op t.text [e]) t1
          | .er p x => .er p x
        else .er t.pos 10
    else psF s n .cn t
  | n + 1, .cn, t => match psF s n (.op 3) t with
    | .ok e t1 => if seeF t1 [63] = true then
        match psF s n .ex (nxK s t1) with
        | .ok y t2 => if seeF t2 [58] = true then
            match psF s n .cn (nxK s t2) with
            | .ok z t3 => .ok (.mk 25 0 [] [e, y, z]) t3
            | .er p x => .er p x
          else .er t2.pos 6
        | .er p x => .er p x
      else .ok e t1
    | .er p x => .er p x
  | n + 1, .op l, t => match psF s n .un t with
    | .ok e t1 => psF s n (.ol l e) t1
    | .er p x => .er p x
  | n + 1, .ol l e, t => if (oprF t).1 < l then .ok e t else
    match psF s n (.op ((oprF t).1 + 1)) (nxK s t) with
    | .ok r t1 => psF s n (.ol l (.mk (oprF t).2 0 [] [e, r])) t1
    | .er p x => .er p x
  | n + 1, .un, t => match unL t with
    | some op => match psF s n .un (nxK s t) with
      | .ok e t1 => .ok (.mk op 0 [] [e]) t1
      | .er p x => .er p x
    | none => psF s n .pr t
  | n + 1, .pr, t => if t.kind = 1 then (if (valZ t.text).2 = 0 then .ok (.mk 1 (valZ t.text).1 [] []) (nxK s t) else .er t.pos (valZ t.text).2)
    else if t.kind = 2 then (if nmB t.text = true then .ok (.mk 2 0 t.text []) (nxK s t) else .er t.pos 10)
    else .er t.pos 6
def tagN : Nt → Nat
  | .ex => 6 | .cn => 5 | .op _ => 4 | .ol _ _ => 3 | .un => 2 | .pr => 1
def rkN (s : List UInt8) (x : Nt) (t : Tk) : Nat := 6 * (s.length - t.pos) + tagN x
/-- Trees that the parser makes. -/
inductive Wf : Ex → Prop
  | num (n : Int) (h0 : 0 ≤ n) (h1 : n ≤ 9223372036854775807) : Wf (.mk 1 n [] [])
  | var (nm : List UInt8) (h : nmB nm = true) : Wf (.mk 2 0 nm [])
  | un (op : Int) (h : 3 ≤ op ∧ op ≤ 6) {a : Ex} (ha : Wf a) : Wf (.mk op 0 [] [a])
  | bin (op : Int) (h : 7 ≤ op ∧ op ≤ 24) {a b : Ex} (ha : Wf a) (hb : Wf b) : Wf (.mk op 0 [] [a, b])
  | cnd {a b c : Ex} (ha : Wf a) (hb : Wf b) (hc : Wf c) : Wf (.mk 25 0 [] [a, b, c])
  | set (n : Int) (h : n = 0 ∨ cmpB n = true) (nm : List UInt8) (hn : nmB nm = true) {a : Ex} (ha : Wf a) : Wf (.mk 26 n nm [a])
/-! How many nodes a tree has. -/
mutual
def szE : Ex → Nat
  | .mk _ _ _ ks => szEs ks + 1
def szEs : List Ex → Nat
  | [] => 0
  | e :: r => szE e + szEs r
end
theorem oprF_ok {t : Tk} (h : 0 < (oprF t).1) : t.kind = 3 ∧ 7 ≤ (oprF t).2 ∧ (oprF t).2 ≤ 24 ∧ 3 ≤ (oprF t).1 := by
  unfold oprF at h ⊢
  split at h
  · next hk =>
    rw [if_pos hk]
    refine ⟨hk, ?_⟩
    cases hf : binL.find? fun o => decide (o.1 = t.text) with
    | none => rw [hf] at h; simp at h
    | some o =>
      have := List.mem_of_find?_eq_some hf
      simp only [Option.map_some, Option.getD_some]
      revert this; generalize o = u; clear h hf; revert u; decide
  · simp at h
theorem asgF_ok {t : Tk} {op : Int} (h : asgF t = some op) : t.kind = 3 ∧ (op = 0 ∨ cmpB op = true) := by
  unfold asgF at h
  split at h
  · next hk =>
    refine ⟨hk.1, ?_⟩
    split at h
    · injection h with h; exact .inl h.symm
    · unfold asgL at h
      rw [Option.map_eq_some_iff] at h
      obtain ⟨o, ho, rfl⟩ := h
      have := List.find?_some ho
      simp only [Bool.and_eq_true] at this
      exact .inr this.2
  · cases h
theorem unL_ok {t : Tk} {op : Int} (h : unL t = some op) : t.kind = 3 ∧ 3 ≤ op ∧ op ≤ 6 := by
  unfold unL seeF at h
  split at h
  · next hk => injection h with h; simp only [decide_eq_true_eq] at hk; omega
  split at h
  · next hk => injection h with h; simp only [decide_eq_true_eq] at hk; omega
  split at h
  · next hk => injection h with h; simp only [decide_eq_true_eq] at hk; omega
  split at h
  · next hk => injection h with h; simp only [decide_eq_true_eq] at hk; omega
  · cases h
def NtOk : Nt → Prop
  | .ol l e => 0 < l ∧ Wf e
  | .op l => 0 < l
  | _ => True
def szN : Nt → Nat
  | .ol _ e => szE e
  | _ => 0
/-- What is known of what the parser answers. -/
def PrOk (s : List UInt8) (x : Nt) (t : Tk) : Pr → Prop
  | .ok e t1 => Wf e ∧ TkOk s t1 ∧ t.pos ≤ t1.pos ∧ szE e + t.pos ≤ t1.pos + szN x
  | .er p y => y ≠ 0
theorem psF_ok (s : List UInt8) : ∀ (n : Nat) (x : Nt) (t : Tk), TkOk s t → NtOk x → PrOk s x t (psF s n x t)
  | 0, x, t, ht, hx => by simp [psF, PrOk]
  | n + 1, .ex, t, ht, hx => by
    have ih := psF_ok s n
    have k1 := nxK_ok ht
    have k2 := nxK_ok k1.1
    simp only [psF]
    split
    · next hk =>
      have hne := ht.ne (by omega)
      cases ha : asgF (nxK s t) with
      | none => exact ih .cn t ht trivial
      | some op =>
        simp only
        split
        · next hn =>
          have := ih .ex (nxK s (nxK s t)) k2.1 trivial
          cases hp : psF s n .ex (nxK s (nxK s t)) with
          | ok e t1 =>
            rw [hp] at this
            obtain ⟨q1, q2, q3, q4⟩ := this
            refine ⟨.set op (asgF_ok ha).2 _ hn q1, q2, by omega, ?_⟩
            simp only [szE, szEs, szN] at q4 ⊢
            omega
          | er p y => rw [hp] at this; exact this
        · simp [PrOk]
    · exact ih .cn t ht trivial
  | n + 1, .cn, t, ht, hx => by
    have ih := psF_ok s n
    simp only [psF]
    have h1 := ih (.op 3) t ht (by simp [NtOk])
    cases hp : psF s n (.op 3) t with
    | er p y => rw [hp] at h1; exact h1
    | ok e t1 =>
      rw [hp] at h1
      obtain ⟨q1, q2, q3, q4⟩ := h1
      simp only
      split
      · next hs =>
        simp only [seeF, decide_eq_true_eq] at hs
        have k1 := nxK_ok q2
        have hne := q2.ne (by omega)
        have h2 := ih .ex (nxK s t1) k1.1 trivial
        cases hp2 : psF s n .ex (nxK s t1) with
        | er p y => rw [hp2] at h2; exact h2
        | ok y t2 =>
          rw [hp2] at h2
          obtain ⟨r1, r2, r3, r4⟩ := h2
          simp only
          split
          · next hs2 =>
            have k2 := nxK_ok r2
            have h3 := ih .cn (nxK s t2) k2.1 trivial
            cases hp3 : psF s n .cn (nxK s t2) with
            | er p y => rw [hp3] at h3; exact h3
            | ok z t3 =>
              rw [hp3] at h3
              obtain ⟨u1, u2, u3, u4⟩ := h3
              refine ⟨.cnd q1 r1 u1, u2, by omega, ?_⟩
              simp only [szE, szEs, szN] at q4 r4 u4 ⊢
              omega
          · simp [PrOk]
      · exact ⟨q1, q2, q3, q4⟩
  | n + 1, .op l, t, ht, hx => by
    have ih := psF_ok s n
    simp only [psF]
    have h1 := ih .un t ht trivial
    cases hp : psF s n .un t with
    | er p y => rw [hp] at h1; exact h1
    | ok e t1 =>
      rw [hp] at h1
      obtain ⟨q1, q2, q3, q4⟩ := h1
      simp only
      have h2 := ih (.ol l e) t1 q2 ⟨hx, q1⟩
      cases hp2 : psF s n (.ol l e) t1 with
      | er p y => rw [hp2] at h2; exact h2
      | ok y t2 =>
        rw [hp2] at h2
        obtain ⟨r1, r2, r3, r4⟩ := h2
        refine ⟨r1, r2, by omega, ?_⟩
        simp only [szN] at q4 r4 ⊢
        omega
  | n + 1, .ol l e, t, ht, hx => by
    have ih := psF_ok s n
    simp only [psF]
    split
    · exact ⟨hx.2, ht, Nat.le_refl _, by simp only [szN]; omega⟩
    · next hl =>
      have hx1 := hx.1
      have ho := oprF_ok (t := t) (by omega)
      have hne := ht.ne (by omega)
      have k1 := nxK_ok ht
      have h1 := ih (.op ((oprF t).1 + 1)) (nxK s t) k1.1 (by simp only [NtOk]; omega)
      cases hp : psF s n (.op ((oprF t).1 + 1)) (nxK s t) with
      | er p y => rw [hp] at h1; exact h1
      | ok r t1 =>
        rw [hp] at h1
        obtain ⟨q1, q2, q3, q4⟩ := h1
        simp only
        have h2 := ih (.ol l (.mk (oprF t).2 0 [] [e, r])) t1 q2 ⟨hx.1, .bin _ ⟨ho.2.1, ho.2.2.1⟩ hx.2 q1⟩
        cases hp2 : psF s n (.ol l (.mk (oprF t).2 0 [] [e, r])) t1 with
        | er p y => rw [hp2] at h2; exact h2
        | ok y t2 =>
          rw [hp2] at h2
          obtain ⟨r1, r2, r3, r4⟩ := h2
          refine ⟨r1, r2, by omega, ?_⟩
          simp only [szN, szE, szEs] at q4 r4 ⊢
          omega
  | n + 1, .un, t, ht, hx => by
    have ih := psF_ok s n
    simp only [psF]
    cases hu : unL t with
    | none => exact ih .pr t ht trivial
    | some op =>
      have ho := unL_ok hu
      have hne := ht.ne (by omega)
      have k1 := nxK_ok ht
      simp only
      have h1 := ih .un (nxK s t) k1.1 trivial
      cases hp : psF s n .un (nxK s t) with
      | er p y => rw [hp] at h1; exact h1
      | ok e t1 =>
        rw [hp] at h1
        obtain ⟨q1, q2, q3, q4⟩ := h1
        refine ⟨.un op ho.2 q1, q2, by omega, ?_⟩
        simp only [szN, szE, szEs] at q4 ⊢
        omega
  | n + 1, .pr, t, ht, hx => by
    have k1 := nxK_ok ht
    have hv := valZ_ok t.text
    simp only [psF]
    split
    · next hk =>
      have hne := ht.ne (by omega)
      split
      · exact ⟨.num _ hv.1 hv.2, k1.1, by omega, by simp only [szE, szEs, szN]; omega⟩
      · next h => exact h
    · split
      · next hk =>
        have hne := ht.ne (by omega)
        split
        · next hn => exact ⟨.var _ hn, k1.1, by omega, by simp only [szE, szEs, szN]; omega⟩
        · simp [PrOk]
      · simp [PrOk]
end Go.Proofs.YtogmppcfopgkdaaGreatDoor
