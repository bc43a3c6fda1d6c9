/- The editor: plain words. No program is named here. -/
import Derived.Test.YtapmolfpkhfpgaaBase
import Derived.Test.YtapmolfpkhfpgaaKmC
/- The editor: plain words. No program is named here. -/
namespace Go.Proofs.Ytapmolfpkhfpgaa
set_option linter.unusedVariables false
set_option linter.unusedSimpArgs false
/-- A line with a cursor. -/
structure Sn where
  t : List UInt8
  p : Int
structure Er where
  now : Sn
  mark : Int
  kills : List (List UInt8)
  undo : List Sn
  redo : List Sn
  keys : List UInt8
  last : Int
  line : Int
  saved : List UInt8
/-- A word byte. -/
def wrB (c : UInt8) : Bool := decide (c.toNat = 95) || (decide (48 ≤ c.toNat) && decide (c.toNat ≤ 57)) || (decide (65 ≤ c.toNat) && decide (c.toNat ≤ 90)) || (decide (97 ≤ c.toNat) && decide (c.toNat ≤ 122))
/-- Where the bytes of a kind end, from a place on. -/
def skF (q : UInt8 → Bool) (s : List UInt8) (i : Nat) : Nat := i + ((s.drop i).takeWhile q).length
theorem skF_le (q : UInt8 → Bool) (s : List UInt8) (i : Nat) (h : i ≤ s.length) : i ≤ skF q s i ∧ skF q s i ≤ s.length := by
  have := (List.takeWhile_sublist q (l := s.drop i)).length_le
  rw [List.length_drop] at this
  unfold skF
  omega
theorem skF_step (q : UInt8 → Bool) (s : List UInt8) (i : Nat) (h : i < s.length) : skF q s i = if q s[i] = true then skF q s (i + 1) else i := by
  unfold skF
  rw [List.drop_eq_getElem_cons h, List.takeWhile_cons]
  split
  · rw [List.length_cons]; omega
  · simp
theorem skF_end (q : UInt8 → Bool) (s : List UInt8) : skF q s s.length = s.length := by simp [skF]
/-- Where the bytes of a kind begin, from a place backwards. -/
def bkF (q : UInt8 → Bool) (s : List UInt8) : Nat → Nat
  | 0 => 0
  | i + 1 => if q (s[i]?.getD 0) = true then bkF q s i else i + 1
theorem bkF_le (q : UInt8 → Bool) (s : List UInt8) : ∀ i, bkF q s i ≤ i
  | 0 => Nat.le_refl _
  | i + 1 => by have := bkF_le q s i; rw [bkF]; split <;> omega
/-- The end of the next word. -/
def nxW (s : List UInt8) (i : Nat) : Nat := skF wrB s (skF (fun c => !wrB c) s i)
/-- The beginning of the last word. -/
def lsW (s : List UInt8) (i : Nat) : Nat := bkF wrB s (bkF (fun c => !wrB c) s i)
theorem nxW_le (s : List UInt8) (i : Nat) (h : i ≤ s.length) : i ≤ nxW s i ∧ nxW s i ≤ s.length := by
  have h1 := skF_le (fun c => !wrB c) s i h
  have h2 := skF_le wrB s _ h1.2
  unfold nxW
  omega
theorem lsW_le (s : List UInt8) (i : Nat) : lsW s i ≤ i := by
  have h1 := bkF_le (fun c => !wrB c) s i
  have h2 := bkF_le wrB s (bkF (fun c => !wrB c) s i)
  unfold lsW
  omega
/-- The last n elements. -/
def lim {α : Type} (n : Nat) (L : List α) : List α := L.drop (L.length - n)
theorem lim_len {α : Type} (n : Nat) (L : List α) : (lim n L).length ≤ n := by rw [lim, List.length_drop]; omega
theorem lim_mem {α : Type} {n : Nat} {L : List α} {x : α} (h : x ∈ lim n L) : x ∈ L := List.mem_of_mem_drop h
theorem lim_snoc {α : Type} (n : Nat) (L : List α) (x : α) (hn : 0 < n) : ∃ M, lim n (L ++ [x]) = M ++ [x] := by
  unfold lim
  rw [List.length_append, List.length_cons, List.length_nil, List.drop_append_of_le_length (by omega)]
  exact ⟨_, rfl⟩
/-- The editor's error. -/
def lngB (e : Er) : Bool := decide (4096 < e.now.t.length) || e.kills.any (fun s => decide (4096 < s.length)) || decide (4096 < e.saved.length) || e.undo.any (fun s => decide (4096 < s.t.length)) || e.redo.any (fun s => decide (4096 < s.t.length)) || decide (16 < e.keys.length)
def outS (s : Sn) : Bool := decide (s.p < 0) || decide ((s.t.length : Int) < s.p)
def outB (e : Er) : Bool := outS e.now || e.undo.any outS || e.redo.any outS || decide (e.mark < 0) || decide ((e.now.t.length : Int) < e.mark) || decide (e.last < 0) || decide (28 < e.last) || decide (e.line < 0) || decide (128 < e.line)
def vdR (e : Er) : Int := if lngB e = true then 3 else if outB e = true then 2 else if 16 < e.kills.length ∨ 64 < e.undo.length ∨ 64 < e.redo.length then 4 else 0
def okSn (s : Sn) : Prop := s.t.length ≤ 4096 ∧ 0 ≤ s.p ∧ s.p ≤ s.t.length
/-- A valid editor. -/
structure okEr (e : Er) : Prop where
  now : okSn e.now
  kills : ∀ s ∈ e.kills, s.length ≤ 4096
  saved : e.saved.length ≤ 4096
  undo : ∀ s ∈ e.undo, okSn s
  redo : ∀ s ∈ e.redo, okSn s
  keys : e.keys.length ≤ 16
  mark : 0 ≤ e.mark ∧ e.mark ≤ e.now.t.length
  last : 0 ≤ e.last ∧ e.last ≤ 28
  line : 0 ≤ e.line ∧ e.line ≤ 128
  nk : e.kills.length ≤ 16
  nu : e.undo.length ≤ 64
  nr : e.redo.length ≤ 64
theorem vdR_ok (e : Er) : vdR e = 0 ↔ okEr e := by
  unfold vdR
  constructor
  · intro h
    split at h
    · cases h
    split at h
    · cases h
    split at h
    · cases h
    next h1 h2 h3 =>
    simp only [lngB, Bool.or_eq_true, decide_eq_true_eq, List.any_eq_true, not_or, not_exists, not_and] at h1
    simp only [outB, outS, Bool.or_eq_true, decide_eq_true_eq, List.any_eq_true, not_or, not_exists, not_and] at h2
    obtain ⟨⟨⟨⟨⟨a1, a2⟩, a3⟩, a4⟩, a5⟩, a6⟩ := h1
    obtain ⟨⟨⟨⟨⟨⟨⟨⟨b1, b2⟩, b3⟩, b4⟩, b5⟩, b6⟩, b7⟩, b8⟩, b9⟩ := h2
    refine ⟨⟨by omega, by omega, by omega⟩, fun s hs => by have := a2 s hs; omega, by omega, fun s hs => ?_, fun s hs => ?_, by omega, ⟨by omega, by omega⟩, ⟨by omega, by omega⟩, ⟨by omega, by omega⟩, by omega, by omega, by omega⟩
    · have := a4 s hs; have := b2 s hs; exact ⟨by omega, by omega, by omega⟩
    · have := a5 s hs; have := b3 s hs; exact ⟨by omega, by omega, by omega⟩
  · intro h
    have a : lngB e = false := by
      simp only [lngB, Bool.or_eq_false_iff, decide_eq_false_iff_not, List.any_eq_false, decide_eq_true_eq]
      refine ⟨⟨⟨⟨⟨?_, fun s hs => ?_⟩, ?_⟩, fun s hs => ?_⟩, fun s hs => ?_⟩, ?_⟩
      · have := h.now.1; omega
      · have := h.kills s hs; omega
      · have := h.saved; omega
      · have := (h.undo s hs).1; omega
      · have := (h.redo s hs).1; omega
      · have := h.keys; omega
    have b : outB e = false := by
      simp only [outB, outS, Bool.or_eq_false_iff, Bool.or_eq_true, decide_eq_false_iff_not, List.any_eq_false, decide_eq_true_eq, not_or]
      refine ⟨⟨⟨⟨⟨⟨⟨⟨⟨?_, ?_⟩, fun s hs => ⟨?_, ?_⟩⟩, fun s hs => ⟨?_, ?_⟩⟩, ?_⟩, ?_⟩, ?_⟩, ?_⟩, ?_⟩, ?_⟩
      · have := h.now.2; omega
      · have := h.now.2; omega
      · have := (h.undo s hs).2; omega
      · have := (h.undo s hs).2; omega
      · have := (h.redo s hs).2; omega
      · have := (h.redo s hs).2; omega
      · have := h.mark; omega
      · have := h.mark; omega
      · have := h.last; omega
      · have := h.last; omega
      · have := h.line; omega
      · have := h.line; omega
    rw [a, b, if_neg (by simp), if_neg (by simp), if_neg (by have := h.nk; have := h.nu; have := h.nr; omega)]
/-! ### Actions -/
def e0 (e : Er) (a : Int) : Er := { e with last := a }
/-- A new line by an action that edits. -/
def edt (e : Er) (s : Sn) (a : Int) : Er :=
  if 4096 < s.t.length then e else
  { e with now := s, mark := min e.mark s.t.length,
           undo := if s.t = e.now.t then e.undo else if a = 1 ∧ e.last = 1 then e.undo else lim 64 (e.undo ++ [e.now]),
           redo := if s.t = e.now.t then e.redo else [] }
/-- A range of the line is replaced. -/
def rplS (s : Sn) (a b : Nat) (x : List UInt8) : Sn := ⟨s.t.take a ++ x ++ s.t.drop b, a + x.length⟩
def isK (a : Int) : Bool := decide (11 ≤ a) && decide (a ≤ 14)
/-- The killed strings behind another one. -/
def klL (e : Er) (s : List UInt8) (a : Int) : List (List UInt8) :=
  match e.kills.getLast? with
  | none => lim 16 (e.kills ++ [s])
  | some x => if isK e.last = true ∧ x.length + s.length ≤ 4096 then (if a = 12 ∨ a = 14 then e.kills.dropLast ++ [s ++ x] else e.kills.dropLast ++ [x ++ s]) else lim 16 (e.kills ++ [s])
def kil (e : Er) (a b : Nat) (act : Int) : Er := if a = b then e else { edt e (rplS e.now a b []) act with kills := klL e ((e.now.t.drop a).take (b - a)) act }
def endsB (s x : List UInt8) : Bool := x.reverse.isPrefixOf s.reverse
def rot (e : Er) : Er :=
  if (e.last ≠ 15 ∧ e.last ≠ 16) ∨ e.kills.length < 2 then e else
  let old := e.kills[e.kills.length - 1]?.getD []
  let yng := e.kills[e.kills.length - 2]?.getD []
  let p := e.now.p.toNat
  if endsB (e.now.t.take p) old = false ∨ 4096 < e.now.t.length - old.length + yng.length then e else
  { edt e (rplS e.now (p - old.length) p yng) 16 with kills := old :: e.kills.dropLast }
def bak (e : Er) : Er := match e.undo.getLast? with
  | none => e
  | some s => { e with now := s, undo := e.undo.dropLast, redo := lim 64 (e.redo ++ [e.now]), mark := min e.mark s.t.length }
def fwd (e : Er) : Er := match e.redo.getLast? with
  | none => e
  | some s => { e with now := s, redo := e.redo.dropLast, undo := lim 64 (e.undo ++ [e.now]), mark := min e.mark s.t.length }
def trn (e : Er) : Er :=
  if e.now.t.length < 2 ∨ e.now.p = 0 then e else
  let k := if e.now.p.toNat = e.now.t.length then e.now.p.toNat - 1 else e.now.p.toNat
  edt e ⟨e.now.t.take (k - 1) ++ (e.now.t.drop k).take 1 ++ (e.now.t.drop (k - 1)).take 1 ++ e.now.t.drop (k + 1), k + 1⟩ 19
def shwR (e : Er) (s : List UInt8) : Er := { e with now := ⟨s, s.length⟩, undo := [], redo := [], mark := min e.mark s.length }
def upR (e : Er) (L : List (List UInt8)) : Er :=
  if (L.length : Int) ≤ e.line ∨ 128 ≤ e.line then e else
  let s := L[L.length - 1 - e.line.toNat]?.getD []
  if 4096 < s.length then e else shwR { e with saved := if e.line = 0 then e.now.t else e.saved, line := e.line + 1 } s
def dwR (e : Er) (L : List (List UInt8)) : Er :=
  if e.line = 0 ∨ (L.length : Int) < e.line then e else
  if e.line = 1 then { shwR e e.saved with line := 0, saved := [] } else
  let s := L[L.length + 1 - e.line.toNat]?.getD []
  if 4096 < s.length then e else shwR { e with line := e.line - 1 } s
def upC (c : UInt8) : UInt8 := if 97 ≤ c.toNat ∧ c.toNat ≤ 122 then UInt8.ofNat (c.toNat - 32) else c
def loC (c : UInt8) : UInt8 := if 65 ≤ c.toNat ∧ c.toNat ≤ 90 then UInt8.ofNat (c.toNat + 32) else c
def ltrR (e : Er) (f : UInt8 → UInt8) (a : Int) : Er :=
  let p := e.now.p.toNat
  let q := nxW e.now.t p
  edt e ⟨e.now.t.take p ++ ((e.now.t.drop p).take (q - p)).map f ++ e.now.t.drop q, q⟩ a
/-- An action, but for the note of the last action. -/
def actR (e : Er) (a : Int) (x : List UInt8) (L : List (List UInt8)) : Er :=
  if a = 1 then edt e (rplS e.now e.now.p.toNat e.now.p.toNat x) 1
  else if a = 3 then { e with now := ⟨e.now.t, (e.now.p.toNat - 1 : Nat)⟩ }
  else if a = 4 then { e with now := ⟨e.now.t, (min e.now.t.length (e.now.p.toNat + 1) : Nat)⟩ }
  else if a = 5 then { e with now := ⟨e.now.t, 0⟩ }
  else if a = 6 then { e with now := ⟨e.now.t, e.now.t.length⟩ }
  else if a = 7 then { e with now := ⟨e.now.t, lsW e.now.t e.now.p.toNat⟩ }
  else if a = 8 then { e with now := ⟨e.now.t, nxW e.now.t e.now.p.toNat⟩ }
  else if a = 9 then edt e (rplS e.now (e.now.p.toNat - 1) e.now.p.toNat []) 9
  else if a = 10 ∨ a = 23 then edt e (rplS e.now e.now.p.toNat (min e.now.t.length (e.now.p.toNat + 1)) []) a
  else if a = 11 then kil e e.now.p.toNat e.now.t.length 11
  else if a = 12 then kil e 0 e.now.p.toNat 12
  else if a = 13 then kil e e.now.p.toNat (nxW e.now.t e.now.p.toNat) 13
  else if a = 14 then kil e (lsW e.now.t e.now.p.toNat) e.now.p.toNat 14
  else if a = 15 then (match e.kills.getLast? with | none => e | some s => edt e (rplS e.now e.now.p.toNat e.now.p.toNat s) 15)
  else if a = 16 then rot e
  else if a = 17 then bak e
  else if a = 18 then fwd e
  else if a = 19 then trn e
  else if a = 20 then upR e L
  else if a = 21 then dwR e L
  else if a = 25 then { e with mark := e.now.p }
  else if a = 26 then { e with now := ⟨e.now.t, e.mark⟩, mark := e.now.p }
  else if a = 27 then ltrR e upC 27
  else if a = 28 then ltrR e loC 28
  else e
def doR (e : Er) (a : Int) (x : List UInt8) (L : List (List UInt8)) : Er := if a < 0 ∨ 28 < a then e else { actR e a x L with last := a }
end Go.Proofs.Ytapmolfpkhfpgaa

/- The editor: what actions keep. No program is named here. -/
namespace Go.Proofs.Ytapmolfpkhfpgaa
set_option linter.unusedVariables false
set_option linter.unusedSimpArgs false
theorem edt_ok {e : Er} {s : Sn} {a : Int} (h : okEr e) (h0 : 0 ≤ s.p) (h1 : s.p ≤ s.t.length) : okEr (edt e s a) := by
  unfold edt
  split
  · exact h
  · next hl =>
    refine { h with now := ⟨by show s.t.length ≤ 4096; omega, h0, h1⟩, undo := ?_, redo := ?_, mark := ?_, nu := ?_, nr := ?_ }
    · simp only
      intro x hx
      split at hx
      · exact h.undo x hx
      split at hx
      · exact h.undo x hx
      · rcases List.mem_append.1 (lim_mem hx) with hx | hx
        · exact h.undo x hx
        · rw [List.mem_singleton.1 hx]; exact h.now
    · simp only
      intro x hx
      split at hx
      · exact h.redo x hx
      · cases hx
    · have := h.mark; simp only; omega
    · simp only
      split
      · exact h.nu
      split
      · exact h.nu
      · exact lim_len 64 _
    · simp only
      split
      · exact h.nr
      · simp
theorem rplS_at (s : Sn) (a b : Nat) (x : List UInt8) (h : a ≤ s.t.length) : 0 ≤ (rplS s a b x).p ∧ (rplS s a b x).p ≤ (rplS s a b x).t.length := by
  simp only [rplS, List.length_append, List.length_take]
  omega
theorem edt_rpl {e : Er} {a b : Nat} {x : List UInt8} {n : Int} (h : okEr e) (ha : a ≤ e.now.t.length) : okEr (edt e (rplS e.now a b x) n) :=
  edt_ok h (rplS_at _ _ _ _ ha).1 (rplS_at _ _ _ _ ha).2
theorem dropLast_mem {α : Type} {L : List α} {x : α} (h : x ∈ L.dropLast) : x ∈ L := (List.dropLast_sublist L).mem h
theorem getLast_mem {α : Type} {L : List α} {x : α} (h : L.getLast? = some x) : x ∈ L := List.mem_of_getLast? h
theorem klL_ok {e : Er} {s : List UInt8} {a : Int} (h : okEr e) (hs : s.length ≤ 4096) : (∀ x ∈ klL e s a, x.length ≤ 4096) ∧ (klL e s a).length ≤ 16 := by
  unfold klL
  split
  · refine ⟨fun x hx => ?_, lim_len 16 _⟩
    rcases List.mem_append.1 (lim_mem hx) with hx | hx
    · exact h.kills x hx
    · rw [List.mem_singleton.1 hx]; exact hs
  · next y hy =>
    have hym := getLast_mem hy
    have hlen : e.kills.dropLast.length + 1 ≤ 16 := by
      have := h.nk
      have : e.kills ≠ [] := fun e' => by rw [e'] at hym; cases hym
      have := List.length_pos_iff.2 this
      rw [List.length_dropLast]; omega
    split
    · next hj =>
      split
      · refine ⟨fun x hx => ?_, by rw [List.length_append]; exact hlen⟩
        rcases List.mem_append.1 hx with hx | hx
        · exact h.kills x (dropLast_mem hx)
        · rw [List.mem_singleton.1 hx, List.length_append]; omega
      · refine ⟨fun x hx => ?_, by rw [List.length_append]; exact hlen⟩
        rcases List.mem_append.1 hx with hx | hx
        · exact h.kills x (dropLast_mem hx)
        · rw [List.mem_singleton.1 hx, List.length_append]; omega
    · refine ⟨fun x hx => ?_, lim_len 16 _⟩
      rcases List.mem_append.1 (lim_mem hx) with hx | hx
      · exact h.kills x hx
      · rw [List.mem_singleton.1 hx]; exact hs
theorem kil_ok {e : Er} {a b : Nat} {n : Int} (h : okEr e) (ha : a ≤ e.now.t.length) : okEr (kil e a b n) := by
  unfold kil
  split
  · exact h
  · have hk := klL_ok (a := n) h (s := (e.now.t.drop a).take (b - a)) (by rw [List.length_take, List.length_drop]; have := h.now.1; omega)
    have he := edt_rpl (b := b) (x := []) (n := n) h ha
    exact { he with kills := hk.1, nk := hk.2 }
theorem rot_ok {e : Er} (h : okEr e) : okEr (rot e) := by
  unfold rot
  split
  · exact h
  next h1 =>
  simp only
  split
  · exact h
  · have he := edt_rpl (a := e.now.p.toNat - (e.kills[e.kills.length - 1]?.getD []).length) (b := e.now.p.toNat) (x := e.kills[e.kills.length - 2]?.getD []) (n := 16) h (by have := h.now.2; omega)
    refine { he with kills := fun x hx => ?_, nk := ?_ }
    · simp only at hx
      rcases List.mem_cons.1 hx with rfl | hx
      · rw [List.getElem?_eq_getElem (by omega), Option.getD_some]
        exact h.kills _ (List.getElem_mem _)
      · exact h.kills x (dropLast_mem hx)
    · simp only
      rw [List.length_cons, List.length_dropLast]
      have := h.nk; omega
theorem bak_ok {e : Er} (h : okEr e) : okEr (bak e) := by
  unfold bak
  split
  · exact h
  · next s hs =>
    have hm := h.undo s (getLast_mem hs)
    refine { h with now := hm, undo := fun x hx => h.undo x (dropLast_mem hx), redo := fun x hx => ?_, mark := ?_, nu := ?_, nr := lim_len 64 _ }
    · rcases List.mem_append.1 (lim_mem hx) with hx | hx
      · exact h.redo x hx
      · rw [List.mem_singleton.1 hx]; exact h.now
    · have := h.mark; simp only; omega
    · have := h.nu; simp only [List.length_dropLast]; omega
theorem fwd_ok {e : Er} (h : okEr e) : okEr (fwd e) := by
  unfold fwd
  split
  · exact h
  · next s hs =>
    have hm := h.redo s (getLast_mem hs)
    refine { h with now := hm, redo := fun x hx => h.redo x (dropLast_mem hx), undo := fun x hx => ?_, mark := ?_, nr := ?_, nu := lim_len 64 _ }
    · rcases List.mem_append.1 (lim_mem hx) with hx | hx
      · exact h.undo x hx
      · rw [List.mem_singleton.1 hx]; exact h.now
    · have := h.mark; simp only; omega
    · have := h.nr; simp only [List.length_dropLast]; omega
theorem trn_ok {e : Er} (h : okEr e) : okEr (trn e) := by
  have hn := h.now
  unfold trn
  split
  · exact h
  next h1 =>
  obtain ⟨hn1, hn2, hn3⟩ := hn
  obtain ⟨k, hk, hk1, hk2⟩ : ∃ k : Nat, (if e.now.p.toNat = e.now.t.length then e.now.p.toNat - 1 else e.now.p.toNat) = k ∧ 1 ≤ k ∧ k + 1 ≤ e.now.t.length := ⟨_, rfl, by split <;> omega, by split <;> omega⟩
  simp only [hk]
  refine edt_ok h (by simp only; omega) ?_
  simp only [List.length_append, List.length_take, List.length_drop]
  omega
theorem shwR_ok {e : Er} {s : List UInt8} (h : okEr e) (hs : s.length ≤ 4096) : okEr (shwR e s) := by
  refine { h with now := ⟨hs, Int.natCast_nonneg _, Int.le_refl _⟩, undo := fun x hx => (by cases hx), redo := fun x hx => (by cases hx), mark := ?_, nu := Nat.zero_le _, nr := Nat.zero_le _ }
  have := h.mark
  show 0 ≤ min e.mark (s.length : Int) ∧ min e.mark (s.length : Int) ≤ s.length
  omega
theorem upR_ok {e : Er} {L : List (List UInt8)} (h : okEr e) : okEr (upR e L) := by
  unfold upR
  split
  · exact h
  next h1 =>
  simp only
  split
  · exact h
  · next h2 =>
    have hl := h.line
    refine shwR_ok (e := { e with saved := if e.line = 0 then e.now.t else e.saved, line := e.line + 1 }) { h with saved := ?_, line := ⟨by simp only; omega, by simp only; omega⟩ } (by omega)
    simp only
    split
    · exact h.now.1
    · exact h.saved
theorem dwR_ok {e : Er} {L : List (List UInt8)} (h : okEr e) : okEr (dwR e L) := by
  unfold dwR
  split
  · exact h
  next h1 =>
  have hl := h.line
  split
  · have := shwR_ok h h.saved
    exact { this with line := ⟨by simp, by simp⟩, saved := by simp }
  · simp only
    split
    · exact h
    · exact shwR_ok (e := { e with line := e.line - 1 }) { h with line := ⟨by simp only; omega, by simp only; omega⟩ } (by omega)
theorem ltrR_ok {e : Er} {f : UInt8 → UInt8} {a : Int} (h : okEr e) : okEr (ltrR e f a) := by
  obtain ⟨hn1, hn2, hn3⟩ := h.now
  have hx := nxW_le e.now.t e.now.p.toNat (by omega)
  unfold ltrR
  simp only
  refine edt_ok h (by simp only; omega) ?_
  simp only [List.length_append, List.length_map, List.length_take, List.length_drop]
  omega
theorem actR_ok {e : Er} (h : okEr e) (a : Int) (x : List UInt8) (L : List (List UInt8)) : okEr (actR e a x L) := by
  have hn := h.now
  have hm := h.mark
  obtain ⟨hn1, hn2, hn3⟩ := h.now
  have hp : e.now.p.toNat ≤ e.now.t.length := by omega
  have hw := nxW_le e.now.t e.now.p.toNat hp
  have hv := lsW_le e.now.t e.now.p.toNat
  have mv : ∀ q : Int, 0 ≤ q → q ≤ e.now.t.length → okEr { e with now := ⟨e.now.t, q⟩ } := fun q h0 h1 => { h with now := ⟨hn.1, h0, h1⟩ }
  unfold actR
  by_cases h0 : a = 1
  · rw [if_pos h0]
    exact edt_rpl h hp
  rw [if_neg h0]
  by_cases h1 : a = 3
  · rw [if_pos h1]
    exact mv _ (by omega) (by omega)
  rw [if_neg h1]
  by_cases h2 : a = 4
  · rw [if_pos h2]
    exact mv _ (by omega) (by omega)
  rw [if_neg h2]
  by_cases h3 : a = 5
  · rw [if_pos h3]
    exact mv _ (by omega) (by omega)
  rw [if_neg h3]
  by_cases h4 : a = 6
  · rw [if_pos h4]
    exact mv _ (by omega) (by omega)
  rw [if_neg h4]
  by_cases h5 : a = 7
  · rw [if_pos h5]
    exact mv _ (by omega) (by omega)
  rw [if_neg h5]
  by_cases h6 : a = 8
  · rw [if_pos h6]
    exact mv _ (by omega) (by omega)
  rw [if_neg h6]
  by_cases h7 : a = 9
  · rw [if_pos h7]
    exact edt_rpl h (by omega)
  rw [if_neg h7]
  by_cases h8 : a = 10 ∨ a = 23
  · rw [if_pos h8]
    exact edt_rpl h hp
  rw [if_neg h8]
  by_cases h9 : a = 11
  · rw [if_pos h9]
    exact kil_ok h hp
  rw [if_neg h9]
  by_cases h10 : a = 12
  · rw [if_pos h10]
    exact kil_ok h (by omega)
  rw [if_neg h10]
  by_cases h11 : a = 13
  · rw [if_pos h11]
    exact kil_ok h hp
  rw [if_neg h11]
  by_cases h12 : a = 14
  · rw [if_pos h12]
    exact kil_ok h (by omega)
  rw [if_neg h12]
  by_cases h13 : a = 15
  · rw [if_pos h13]
    cases e.kills.getLast? with
    | none => exact h
    | some s => exact edt_rpl h hp
  rw [if_neg h13]
  by_cases h14 : a = 16
  · rw [if_pos h14]
    exact rot_ok h
  rw [if_neg h14]
  by_cases h15 : a = 17
  · rw [if_pos h15]
    exact bak_ok h
  rw [if_neg h15]
  by_cases h16 : a = 18
  · rw [if_pos h16]
    exact fwd_ok h
  rw [if_neg h16]
  by_cases h17 : a = 19
  · rw [if_pos h17]
    exact trn_ok h
  rw [if_neg h17]
  by_cases h18 : a = 20
  · rw [if_pos h18]
    exact upR_ok h
  rw [if_neg h18]
  by_cases h19 : a = 21
  · rw [if_pos h19]
    exact dwR_ok h
  rw [if_neg h19]
  by_cases h20 : a = 25
  · rw [if_pos h20]
    exact { h with mark := ⟨hn.2.1, hn.2.2⟩ }
  rw [if_neg h20]
  by_cases h21 : a = 26
  · rw [if_pos h21]
    exact { h with now := ⟨hn.1, hm.1, hm.2⟩, mark := ⟨hn.2.1, hn.2.2⟩ }
  rw [if_neg h21]
  by_cases h22 : a = 27
  · rw [if_pos h22]
    exact ltrR_ok h
  rw [if_neg h22]
  by_cases h23 : a = 28
  · rw [if_pos h23]
    exact ltrR_ok h
  rw [if_neg h23]
  exact h
theorem doR_ok {e : Er} (h : okEr e) (a : Int) (x : List UInt8) (L : List (List UInt8)) : okEr (doR e a x L) := by
  unfold doR
  split
  · exact h
  · next ha => exact { actR_ok h a x L with last := ⟨by simp only; omega, by simp only; omega⟩ }
/-- What an action that edits leaves to undo. -/
def eds (e r : Er) (a : Int) : Prop := r.now.t = e.now.t ∨ (a = 1 ∧ e.last = 1) ∨ (r.undo = lim 64 (e.undo ++ [e.now]) ∧ r.redo = [])
theorem edt_eds (e : Er) (s : Sn) (a : Int) : eds e (edt e s a) a := by
  unfold edt eds
  split
  · exact .inl rfl
  · by_cases h1 : s.t = e.now.t
    · exact .inl h1
    · by_cases h2 : a = 1 ∧ e.last = 1
      · exact .inr (.inl h2)
      · refine .inr (.inr ⟨?_, ?_⟩)
        · simp only [if_neg h1, if_neg h2]
        · simp only [if_neg h1]
theorem actR_eds (e : Er) (a : Int) (x : List UInt8) (L : List (List UInt8)) (ha : a ≠ 17 ∧ a ≠ 18 ∧ a ≠ 20 ∧ a ≠ 21) : eds e (actR e a x L) a := by
  have kl : ∀ (i j : Nat) (n : Int), eds e (kil e i j n) n := fun i j n => by
    unfold kil
    split
    · exact .inl rfl
    · exact edt_eds e _ n
  have rt : eds e (rot e) 16 := by
    unfold rot
    split
    · exact .inl rfl
    simp only
    split
    · exact .inl rfl
    · exact edt_eds e _ 16
  have tr : eds e (trn e) 19 := by
    unfold trn
    split
    · exact .inl rfl
    · exact edt_eds _ _ _
  unfold actR
  by_cases h0 : a = 1
  · rw [if_pos h0]
    rw [h0]; exact edt_eds _ _ _
  rw [if_neg h0]
  by_cases h1 : a = 3
  · rw [if_pos h1]
    exact .inl rfl
  rw [if_neg h1]
  by_cases h2 : a = 4
  · rw [if_pos h2]
    exact .inl rfl
  rw [if_neg h2]
  by_cases h3 : a = 5
  · rw [if_pos h3]
    exact .inl rfl
  rw [if_neg h3]
  by_cases h4 : a = 6
  · rw [if_pos h4]
    exact .inl rfl
  rw [if_neg h4]
  by_cases h5 : a = 7
  · rw [if_pos h5]
    exact .inl rfl
  rw [if_neg h5]
  by_cases h6 : a = 8
  · rw [if_pos h6]
    exact .inl rfl
  rw [if_neg h6]
  by_cases h7 : a = 9
  · rw [if_pos h7]
    rw [h7]; exact edt_eds _ _ _
  rw [if_neg h7]
  by_cases h8 : a = 10 ∨ a = 23
  · rw [if_pos h8]
    exact edt_eds _ _ _
  rw [if_neg h8]
  by_cases h9 : a = 11
  · rw [if_pos h9]
    rw [h9]; exact kl _ _ _
  rw [if_neg h9]
  by_cases h10 : a = 12
  · rw [if_pos h10]
    rw [h10]; exact kl _ _ _
  rw [if_neg h10]
  by_cases h11 : a = 13
  · rw [if_pos h11]
    rw [h11]; exact kl _ _ _
  rw [if_neg h11]
  by_cases h12 : a = 14
  · rw [if_pos h12]
    rw [h12]; exact kl _ _ _
  rw [if_neg h12]
  by_cases h13 : a = 15
  · rw [if_pos h13]
    rw [h13]
    cases e.kills.getLast? with
    | none => exact .inl rfl
    | some s => exact edt_eds _ _ _
  rw [if_neg h13]
  by_cases h14 : a = 16
  · rw [if_pos h14]
    rw [h14]
    exact rt
  rw [if_neg h14]
  by_cases h15 : a = 17
  · rw [if_pos h15]
    omega
  rw [if_neg h15]
  by_cases h16 : a = 18
  · rw [if_pos h16]
    omega
  rw [if_neg h16]
  by_cases h17 : a = 19
  · rw [if_pos h17]
    rw [h17]
    exact tr
  rw [if_neg h17]
  by_cases h18 : a = 20
  · rw [if_pos h18]
    omega
  rw [if_neg h18]
  by_cases h19 : a = 21
  · rw [if_pos h19]
    omega
  rw [if_neg h19]
  by_cases h20 : a = 25
  · rw [if_pos h20]
    exact .inl rfl
  rw [if_neg h20]
  by_cases h21 : a = 26
  · rw [if_pos h21]
    exact .inl rfl
  rw [if_neg h21]
  by_cases h22 : a = 27
  · rw [if_pos h22]
    rw [h22]; exact edt_eds _ _ _
  rw [if_neg h22]
  by_cases h23 : a = 28
  · rw [if_pos h23]
    rw [h23]; exact edt_eds _ _ _
  rw [if_neg h23]
  exact .inl rfl
/-- Undo and redo. -/
theorem undo_redo (e : Er) (a : Int) (x : List UInt8) (L : List (List UInt8)) (ha : a ≠ 17 ∧ a ≠ 18 ∧ a ≠ 20 ∧ a ≠ 21) (hne : (doR e a x L).now.t ≠ e.now.t) (h1 : ¬ (a = 1 ∧ e.last = 1)) :
    (doR (doR e a x L) 17 [] L).now = e.now ∧ (doR (doR (doR e a x L) 17 [] L) 18 [] L).now = (doR e a x L).now := by
  unfold doR at hne ⊢
  by_cases h0 : a < 0 ∨ 28 < a
  · rw [if_pos h0] at hne; exact absurd rfl hne
  rw [if_neg h0] at hne ⊢
  rw [if_neg (by omega), if_neg (by omega)]
  rcases actR_eds e a x L ha with h | h | ⟨hu, hr⟩
  · exact absurd h hne
  · exact absurd h h1
  · obtain ⟨M, hM⟩ := lim_snoc 64 e.undo e.now (by omega)
    rw [hM] at hu
    generalize actR e a x L = r at *
    have e17 : ∀ q : Er, actR q 17 [] L = bak q := fun q => rfl
    have e18 : ∀ q : Er, actR q 18 [] L = fwd q := fun q => rfl
    rw [e17]
    have hb : bak { r with last := a } = { r with last := a, now := e.now, undo := M, redo := [r.now], mark := min r.mark e.now.t.length } := by
      unfold bak
      simp only [hu, List.getLast?_append, List.getLast?_singleton, Option.some_or, List.dropLast_concat, hr]
      rfl
    rw [hb]
    refine ⟨rfl, ?_⟩
    rw [e18]
    rfl
/-- Up and down. -/
theorem up_down (e : Er) (L : List (List UInt8)) (h : okEr e) (h0 : e.line = 0) :
    (doR (doR e 20 [] L) 21 [] L).now.t = e.now.t ∧ (doR (doR e 20 [] L) 21 [] L).line = 0 ∧ (∀ hL : 0 < L.length, L[L.length - 1].length ≤ 4096 → (doR e 20 [] L).now.t = L[L.length - 1]) := by
  have e20 : ∀ q : Er, doR q 20 [] L = { upR q L with last := 20 } := fun q => by unfold doR; rw [if_neg (by omega)]; rfl
  have e21 : ∀ q : Er, doR q 21 [] L = { dwR q L with last := 21 } := fun q => by unfold doR; rw [if_neg (by omega)]; rfl
  rw [e21, e20]
  have hstay : upR e L = e → (dwR { upR e L with last := 20 } L).now.t = e.now.t ∧ (dwR { upR e L with last := 20 } L).line = 0 := fun hq => by
    rw [hq]
    unfold dwR
    rw [if_pos (.inl h0)]
    exact ⟨rfl, h0⟩
  by_cases h1 : (L.length : Int) ≤ e.line ∨ 128 ≤ e.line
  · have hq : upR e L = e := by unfold upR; rw [if_pos h1]
    refine ⟨(hstay hq).1, (hstay hq).2, fun hL _ => ?_⟩
    omega
  · have hidx : L.length - 1 - e.line.toNat = L.length - 1 := by omega
    have hget : L[L.length - 1]?.getD [] = L[L.length - 1]'(by omega) := by rw [List.getElem?_eq_getElem (by omega), Option.getD_some]
    by_cases h2 : 4096 < (L[L.length - 1]'(by omega)).length
    · have hq : upR e L = e := by unfold upR; rw [if_neg h1]; simp only [hidx, hget]; rw [if_pos h2]
      exact ⟨(hstay hq).1, (hstay hq).2, fun hL hl => by omega⟩
    · have hq : upR e L = shwR { e with saved := e.now.t, line := 1 } (L[L.length - 1]'(by omega)) := by
        unfold upR; rw [if_neg h1]; simp only [hidx, hget]; rw [if_neg h2]
        simp only [h0, if_true]; rfl
      rw [hq]
      refine ⟨?_, ?_, fun _ _ => rfl⟩
      · unfold dwR shwR
        simp only
        rw [if_neg (by omega), if_pos trivial]
      · unfold dwR shwR
        simp only
        rw [if_neg (by omega), if_pos trivial]
end Go.Proofs.Ytapmolfpkhfpgaa

/- The editor: keys. No program is named here. -/
namespace Go.Proofs.Ytapmolfpkhfpgaa
set_option linter.unusedVariables false
set_option linter.unusedSimpArgs false
/-- A key: the editor behind it, and the action that is left. -/
def keyR (e : Er) (B : List Bi) (k : UInt8) (L : List (List UInt8)) : Er × Int :=
  let K := e.keys ++ [k]
  let n := fnA B K
  let e1 := { e with keys := [] }
  if fnM B K = 1 then ({ e with keys := K }, 0)
  else if n = 2 ∨ n = 24 ∨ n = 22 ∨ (n = 23 ∧ e.now.t = []) then ({ e1 with last := n }, n)
  else if n ≠ 0 then (doR e1 n K L, 0)
  else if K.length = 1 ∧ 32 ≤ k.toNat ∧ k.toNat ≠ 127 then (doR e1 1 K L, 0)
  else (e1, 0)
theorem keyR_ok {e : Er} (h : okEr e) (B : List Bi) (k : UInt8) (L : List (List UInt8)) (hk : fnM B (e.keys ++ [k]) = 1 → e.keys.length ≤ 15) : okEr (keyR e B k L).1 := by
  unfold keyR
  simp only
  have h1 : okEr { e with keys := [] } := { h with keys := by simp }
  split
  · next hm => exact { h with keys := by simp only [List.length_append, List.length_cons, List.length_nil]; have := hk hm; omega }
  split
  · next hn => exact { h1 with last := ⟨by simp only; omega, by simp only; omega⟩ }
  split
  · show okEr (doR _ _ _ _)
    exact doR_ok h1 _ _ _
  split
  · exact doR_ok h1 1 (e.keys ++ [k]) L
  · exact h1
theorem actR_keys (e : Er) (a : Int) (x : List UInt8) (L : List (List UInt8)) : (actR e a x L).keys = e.keys := by
  have ek : ∀ (s : Sn) (n : Int), (edt e s n).keys = e.keys := fun s n => by unfold edt; split <;> rfl
  have kl : ∀ (i j : Nat) (n : Int), (kil e i j n).keys = e.keys := fun i j n => by
    unfold kil
    split
    · rfl
    · exact ek _ _
  unfold actR
  by_cases h0 : a = 1
  · rw [if_pos h0]
    exact ek _ _
  rw [if_neg h0]
  by_cases h1 : a = 3
  · rw [if_pos h1]
    all_goals rfl
  rw [if_neg h1]
  by_cases h2 : a = 4
  · rw [if_pos h2]
    all_goals rfl
  rw [if_neg h2]
  by_cases h3 : a = 5
  · rw [if_pos h3]
    all_goals rfl
  rw [if_neg h3]
  by_cases h4 : a = 6
  · rw [if_pos h4]
    all_goals rfl
  rw [if_neg h4]
  by_cases h5 : a = 7
  · rw [if_pos h5]
    all_goals rfl
  rw [if_neg h5]
  by_cases h6 : a = 8
  · rw [if_pos h6]
    all_goals rfl
  rw [if_neg h6]
  by_cases h7 : a = 9
  · rw [if_pos h7]
    exact ek _ _
  rw [if_neg h7]
  by_cases h8 : a = 10 ∨ a = 23
  · rw [if_pos h8]
    exact ek _ _
  rw [if_neg h8]
  by_cases h9 : a = 11
  · rw [if_pos h9]
    exact kl _ _ _
  rw [if_neg h9]
  by_cases h10 : a = 12
  · rw [if_pos h10]
    exact kl _ _ _
  rw [if_neg h10]
  by_cases h11 : a = 13
  · rw [if_pos h11]
    exact kl _ _ _
  rw [if_neg h11]
  by_cases h12 : a = 14
  · rw [if_pos h12]
    exact kl _ _ _
  rw [if_neg h12]
  by_cases h13 : a = 15
  · rw [if_pos h13]
    cases e.kills.getLast? with
    | none => rfl
    | some s => exact ek _ _
  rw [if_neg h13]
  by_cases h14 : a = 16
  · rw [if_pos h14]
    unfold rot
    split
    · rfl
    simp only
    split
    · rfl
    · exact ek _ _
  rw [if_neg h14]
  by_cases h15 : a = 17
  · rw [if_pos h15]
    unfold bak
    split <;> rfl
  rw [if_neg h15]
  by_cases h16 : a = 18
  · rw [if_pos h16]
    unfold fwd
    split <;> rfl
  rw [if_neg h16]
  by_cases h17 : a = 19
  · rw [if_pos h17]
    unfold trn
    split
    · rfl
    · exact ek _ _
  rw [if_neg h17]
  by_cases h18 : a = 20
  · rw [if_pos h18]
    unfold upR
    split
    · rfl
    simp only
    split <;> rfl
  rw [if_neg h18]
  by_cases h19 : a = 21
  · rw [if_pos h19]
    unfold dwR
    split
    · rfl
    split
    · rfl
    simp only
    split <;> rfl
  rw [if_neg h19]
  by_cases h20 : a = 25
  · rw [if_pos h20]
    all_goals rfl
  rw [if_neg h20]
  by_cases h21 : a = 26
  · rw [if_pos h21]
    all_goals rfl
  rw [if_neg h21]
  by_cases h22 : a = 27
  · rw [if_pos h22]
    exact ek _ _
  rw [if_neg h22]
  by_cases h23 : a = 28
  · rw [if_pos h23]
    exact ek _ _
  rw [if_neg h23]
  all_goals rfl
theorem doR_keys (e : Er) (a : Int) (x : List UInt8) (L : List (List UInt8)) : (doR e a x L).keys = e.keys := by
  unfold doR
  split
  · rfl
  · exact actR_keys e a x L
/-- Many keys. -/
def runR (B : List Bi) (L : List (List UInt8)) : Er → List UInt8 → Er
  | e, [] => e
  | e, k :: r => runR B L (keyR e B k L).1 r
theorem fnM_short {B : List Bi} {s : List UInt8} {m : Nat} (hB : ∀ b ∈ B, b.k.length ≤ m + 1) (h : fnM B s = 1) : s.length ≤ m := by
  unfold fnM at h
  split at h
  · next ha =>
    obtain ⟨b, hb, hm⟩ := List.any_eq_true.1 ha
    simp only [mrB, Bool.and_eq_true, decide_eq_true_eq] at hm
    have := hB b hb; omega
  · cases h
theorem keyR_keys {e : Er} {B : List Bi} {k : UInt8} {L : List (List UInt8)} {m : Nat} (hB : ∀ b ∈ B, b.k.length ≤ m + 1) : (keyR e B k L).1.keys.length ≤ m := by
  unfold keyR
  simp only
  split
  · next hm => exact fnM_short hB hm
  split
  · simp
  split
  · rw [doR_keys]; simp
  split
  · rw [doR_keys]; simp
  · simp
def newR : Er := ⟨⟨[], 0⟩, 0, [], [], [], [], 0, 0, []⟩
theorem newR_ok : okEr newR := ⟨⟨by simp [newR], by simp [newR], by simp [newR]⟩, fun s hs => (by cases hs), by simp [newR], fun s hs => (by cases hs), fun s hs => (by cases hs), by simp [newR], ⟨by simp [newR], by simp [newR]⟩, ⟨by simp [newR], by simp [newR]⟩, ⟨by simp [newR], by simp [newR]⟩, by simp [newR], by simp [newR], by simp [newR]⟩
end Go.Proofs.Ytapmolfpkhfpgaa
