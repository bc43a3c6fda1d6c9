/- The editor: what Do makes of an action is what the document says. No step of the program is taken here. -/
import Derived.Test.YtapmolfpkhfpgaaErT
import Derived.Test.YtapmolfpkhfpgaaErH
import Derived.Test.YtapmolfpkhfpgaaErL
namespace Go.Proofs.Ytapmolfpkhfpgaa
set_option linter.unusedVariables false
set_option linter.unusedSimpArgs false
/-- What Do makes of an action that edits. -/
def tailE (e g : Er) (a : Int) : Er :=
  if 4096 < g.now.t.length then { e with mark := min e.mark e.now.t.length, last := a } else
  { g with mark := min g.mark g.now.t.length, last := a,
           undo := if g.now.t = e.now.t then e.undo else if a = 1 ∧ e.last = 1 then e.undo else lim 64 (e.undo ++ [e.now]),
           redo := if g.now.t = e.now.t then e.redo else [] }
/-- What Do makes of undo, redo, up and down. -/
def tailD (e g : Er) (a : Int) : Er :=
  if 4096 < g.now.t.length then { e with mark := min e.mark e.now.t.length, last := a } else
  { g with mark := min g.mark g.now.t.length, last := a }
theorem min_ok {m : Int} {n : Nat} (h : m ≤ n) : min m n = m := by omega
theorem tail_edt {e : Er} (h : okEr e) (s : Sn) (a : Int) : tailE e { e with now := s } a = { edt e s a with last := a } := by
  have hm := h.mark
  unfold tailE edt
  by_cases k : 4096 < s.t.length
  · simp only [if_pos k, min_ok hm.2]
  · simp only [if_neg k]
theorem tail_same {e g : Er} {a : Int} (h : g.now.t = e.now.t) (hl : e.now.t.length ≤ 4096) (hm : g.mark ≤ e.now.t.length) (hu : g.undo = e.undo) (hr : g.redo = e.redo) : tailE e g a = { g with last := a } := by
  have hm' : min g.mark (g.now.t.length : Int) = g.mark := by rw [h]; omega
  unfold tailE
  rw [if_neg (by rw [h]; omega), hm', if_pos h, if_pos h, ← hu, ← hr]
theorem tail_kil {e : Er} (h : okEr e) {i j : Nat} (hij : i ≤ j) (hj : j ≤ e.now.t.length) (a : Int) : tailE e (kilE e i j a) a = { kil e i j a with last := a } := by
  have hm := h.mark
  have hn := h.now.1
  unfold kilE kil
  by_cases h0 : i = j
  · rw [if_pos h0, if_pos h0]
    exact tail_same rfl hn hm.2 rfl rfl
  · rw [if_neg h0, if_neg h0]
    have hl : ¬ 4096 < (rplS e.now i j []).t.length := by
      simp only [rplS, List.length_append, List.length_take, List.length_drop, List.length_nil]; omega
    unfold tailE edt
    simp only [if_neg hl]
theorem tail_rot {e : Er} (h : okEr e) : tailE e (rotE e) 16 = { rot e with last := 16 } := by
  have hm := h.mark
  have hn := h.now
  obtain ⟨hn1, hn2, hn3⟩ := h.now
  unfold rotE rot
  by_cases k1 : (e.last ≠ 15 ∧ e.last ≠ 16) ∨ e.kills.length < 2
  · rw [if_pos k1, if_pos k1]
    exact tail_same rfl hn.1 hm.2 rfl rfl
  rw [if_neg k1, if_neg k1]
  by_cases k2 : endsB (e.now.t.take e.now.p.toNat) (e.kills[e.kills.length - 1]?.getD []) = false
  · rw [if_pos k2]
    simp only [if_pos (Or.inl k2 : _ ∨ 4096 < e.now.t.length - (e.kills[e.kills.length - 1]?.getD []).length + (e.kills[e.kills.length - 2]?.getD []).length)]
    exact tail_same rfl hn.1 hm.2 rfl rfl
  rw [if_neg k2]
  have hx := ((endsB_iff _ _).1 (by simpa using k2)).1
  rw [List.length_take] at hx
  obtain ⟨X, hX⟩ : ∃ X, X = e.kills[e.kills.length - 1]?.getD [] := ⟨_, rfl⟩
  obtain ⟨Y, hY⟩ : ∃ Y, Y = e.kills[e.kills.length - 2]?.getD [] := ⟨_, rfl⟩
  simp only [← hX, ← hY] at k2 hx ⊢
  have hlen : (rplS e.now (e.now.p.toNat - X.length) e.now.p.toNat Y).t.length = e.now.t.length - X.length + Y.length := by
    simp only [rplS, List.length_append, List.length_take, List.length_drop]; omega
  by_cases k3 : 4096 < e.now.t.length - X.length + Y.length
  · rw [if_pos (.inr k3)]
    unfold tailE
    simp only [hlen, if_pos k3, min_ok hm.2]
  · rw [if_neg (fun q => q.elim k2 k3)]
    unfold tailE edt
    simp only [hlen, if_neg k3]
theorem tail_trn {e : Er} (h : okEr e) : tailE e (trnE e) 19 = { trn e with last := 19 } := by
  unfold trnE trn
  by_cases k : e.now.t.length < 2 ∨ e.now.p = 0
  · rw [if_pos k, if_pos k]
    exact tail_same rfl h.now.1 h.mark.2 rfl rfl
  · rw [if_neg k, if_neg k]
    exact tail_edt h _ 19
theorem tail_up {e : Er} (h : okEr e) (L : List (List UInt8)) : tailD e (upE e L) 20 = { upR e L with last := 20 } := by
  have hm := h.mark
  unfold upE upR
  by_cases k : (L.length : Int) ≤ e.line ∨ 128 ≤ e.line
  · rw [if_pos k, if_pos k]
    unfold tailD
    rw [if_neg (by have := h.now.1; omega), min_ok hm.2]
  · rw [if_neg k, if_neg k]
    unfold tailD
    by_cases k2 : 4096 < (L[L.length - 1 - e.line.toNat]?.getD []).length
    · simp only [if_pos k2, min_ok hm.2]
    · simp only [if_neg k2]; rfl
theorem tail_dw {e : Er} (h : okEr e) (L : List (List UInt8)) : tailD e (dwE e L) 21 = { dwR e L with last := 21 } := by
  have hm := h.mark
  unfold dwE dwR
  by_cases k : e.line = 0 ∨ (L.length : Int) < e.line
  · rw [if_pos k, if_pos k]
    unfold tailD
    rw [if_neg (by have := h.now.1; omega), min_ok hm.2]
  · rw [if_neg k, if_neg k]
    unfold tailD
    by_cases k1 : e.line = 1
    · rw [if_pos k1, if_pos k1]
      rw [if_neg (by have := h.saved; simp only; omega)]; rfl
    · rw [if_neg k1, if_neg k1]
      by_cases k2 : 4096 < (L[L.length + 1 - e.line.toNat]?.getD []).length
      · simp only [if_pos k2, min_ok hm.2]
      · simp only [if_neg k2]; rfl
theorem tail_bak {e : Er} (h : okEr e) : tailD e (bakE e) 17 = { bak e with last := 17 } := by
  have hm := h.mark
  unfold bakE bak
  cases hu : e.undo.getLast? with
  | none =>
    simp only
    unfold tailD
    rw [if_neg (by have := h.now.1; omega), min_ok hm.2]
  | some s =>
    have := (h.undo s (getLast_mem hu)).1
    simp only
    unfold tailD
    rw [if_neg (by simp only; omega)]
theorem tail_fwd {e : Er} (h : okEr e) : tailD e (fwdE e) 18 = { fwd e with last := 18 } := by
  have hm := h.mark
  unfold fwdE fwd
  cases hu : e.redo.getLast? with
  | none =>
    simp only
    unfold tailD
    rw [if_neg (by have := h.now.1; omega), min_ok hm.2]
  | some s =>
    have := (h.redo s (getLast_mem hu)).1
    simp only
    unfold tailD
    rw [if_neg (by simp only; omega)]
end Go.Proofs.Ytapmolfpkhfpgaa
