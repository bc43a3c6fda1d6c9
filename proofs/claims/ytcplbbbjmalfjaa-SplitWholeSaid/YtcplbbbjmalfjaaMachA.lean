/- The abstract machine, part 1: abstract values, what it means that a value in memory is one, abstract states. No program is named here. -/
import Derived.Test.YtcplbbbjmalfjaaBase
namespace Go.Proofs.Ytcplbbbjmalfjaa
open Go.RowKit
set_option linter.unusedVariables false
set_option linter.unusedSimpArgs false

/-- What is known of a value: it is x ('v'); nothing ('un'); a slice of n elements in memory that nobody changes ('rd'); a slice of the own object k ('os': from cell off on, sz cells an element, n elements); an address in the own object k ('pt'); an address in memory that nobody changes, from which on the cells cs lie ('rp'); a struct or an array ('ag'); several values ('tp'); a function with what it has captured ('fn'); nil or the address of the own object k ('sp'). -/
inductive AV where
  | v (x : Value)
  | un
  | rd (n : Nat) (cs : List AV)
  | os (k off sz n : Nat)
  | pt (k off : Nat)
  | rp (cs : List AV)
  | ag (cs : List AV)
  | tp (vs : List AV)
  | fn (f : FuncId) (cs : List AV)
  | sp (k : Nat)

/-- Where an own object lies: cap cells of block g from off on. -/
structure Loc where
  g : Nat
  off : Nat
  cap : Nat

/-- Data that nobody changes; it avoids the blocks av. -/
inductive RepI (w : World) (av : Nat → Prop) : AV → Value → Prop
  | v (x : Value) : RepI w av (.v x) x
  | un (x : Value) : RepI w av .un x
  | rd {n c : Nat} {cs : List AV} {A : Option Addr} (u : Nat → Value) (h1 : n ≤ c) (h2 : c ≤ 9223372036854775807) (h0 : n = 0 → cs = [])
      (hm : 0 < n → ∃ b off, A = some ⟨b, off, none⟩ ∧ ¬ av b ∧ b < w.heap.size ∧ ∀ j, j < cs.length → w.cell? ⟨b, off + j, none⟩ = some (u j))
      (hr : ∀ j a, cs[j]? = some a → RepI w av a (u j)) : RepI w av (.rd n cs) (.slice A n c)

inductive Rep (w : World) (av : Nat → Prop) (ρ : Nat → Loc) : AV → Value → Prop
  | im {a : AV} {x : Value} (h : RepI w av a x) : Rep w av ρ a x
  | os {k off sz n c : Nat} {A : Option Addr} (hs : 0 < sz) (h1 : n ≤ c) (h2 : c ≤ 9223372036854775807)
      (h : 0 < c → A = some ⟨(ρ k).g, (ρ k).off + off, none⟩ ∧ off + c * sz ≤ (ρ k).cap) : Rep w av ρ (.os k off sz n) (.slice A n c)
  | pt {k off : Nat} : Rep w av ρ (.pt k off) (.pointer (some ⟨(ρ k).g, (ρ k).off + off, none⟩))
  | rp {cs : List AV} {b off : Nat} (u : Nat → Value) (hb : ¬ av b) (hl : b < w.heap.size) (hc : ∀ j, j < cs.length → w.cell? ⟨b, off + j, none⟩ = some (u j))
      (hr : ∀ j a, cs[j]? = some a → RepI w av a (u j)) : Rep w av ρ (.rp cs) (.pointer (some ⟨b, off, none⟩))
  | ag {cs : List AV} {us : Array Value} (hn : us.size = cs.length) (h : ∀ (j : Nat) (a : AV) (x : Value), cs[j]? = some a → us[j]? = some x → Rep w av ρ a x) : Rep w av ρ (.ag cs) (.agg us)
  | tp {cs : List AV} {us : Array Value} (hn : us.size = cs.length) (h : ∀ (j : Nat) (a : AV) (x : Value), cs[j]? = some a → us[j]? = some x → Rep w av ρ a x) : Rep w av ρ (.tp cs) (.tuple us)
  | fn {f : FuncId} {cs : List AV} {us : Array Value} (hn : us.size = cs.length) (h : ∀ (j : Nat) (a : AV) (x : Value), cs[j]? = some a → us[j]? = some x → Rep w av ρ a x) : Rep w av ρ (.fn f cs) (.func (.func f) #[] us)
  | sp {k : Nat} {x : Value} (h : x = .pointer none ∨ x = .pointer (some ⟨(ρ k).g, (ρ k).off, none⟩)) : Rep w av ρ (.sp k) x

/-- Whether a cell speaks of the own object k. -/
def cellM (k : Nat) : AV → Bool
  | .os j _ _ _ => j == k
  | .pt j _ => j == k
  | .ag _ => true
  | .tp _ => true
  | .fn _ _ => true
  | .sp j => j == k
  | _ => false
def partM (k : Nat) : AV → Bool
  | .ag cs => cs.any (cellM k)
  | .fn _ cs => cs.any (cellM k)
  | a => cellM k a
def mentM (k : Nat) : AV → Bool
  | .tp vs => vs.any (partM k)
  | a => partM k a

theorem RepI.tr {w w' : World} {av av' : Nat → Prop} {a : AV} {x : Value} (h : RepI w av a x) (hs : w.heap.size ≤ w'.heap.size)
    (hc : ∀ b o, b < w.heap.size → ¬ av b → w'.cell? ⟨b, o, none⟩ = w.cell? ⟨b, o, none⟩) (ha : ∀ b, b < w.heap.size → av' b → av b) : RepI w' av' a x := by
  induction h with
  | v x => exact .v x
  | un x => exact .un x
  | rd u h1 h2 h0 hm hr ih =>
    refine .rd u h1 h2 h0 (fun hn => ?_) ih
    obtain ⟨b, off, rfl, hb, hl, hcell⟩ := hm hn
    exact ⟨b, off, rfl, fun h => hb (ha b hl h), by omega, fun j hj => (hc _ _ hl hb).trans (hcell j hj)⟩

theorem mentM_of_cellM {k : Nat} {a : AV} (h : cellM k a = false) : mentM k a = false := by
  cases a <;> simp_all [cellM, mentM, partM]
theorem mentM_of_partM {k : Nat} {a : AV} (h : partM k a = false) : mentM k a = false := by
  cases a <;> simp_all [cellM, mentM, partM]

theorem Rep.tr {w w' : World} {av av' : Nat → Prop} {ρ ρ' : Nat → Loc} {a : AV} {x : Value} (h : Rep w av ρ a x) (hs : w.heap.size ≤ w'.heap.size)
    (hc : ∀ b o, b < w.heap.size → ¬ av b → w'.cell? ⟨b, o, none⟩ = w.cell? ⟨b, o, none⟩) (ha : ∀ b, b < w.heap.size → av' b → av b)
    (hρ : ∀ k, ρ' k ≠ ρ k → mentM k a = false) : Rep w' av' ρ' a x := by
  induction h with
  | im h => exact .im (h.tr hs hc ha)
  | @os k off sz n c A h0 h1 h2 h =>
    have e : ρ' k = ρ k := Classical.byContradiction fun hne => by have := hρ k hne; simp [mentM, partM, cellM] at this
    exact .os h0 h1 h2 (by rw [e]; exact h)
  | @pt k off =>
    have e : ρ' k = ρ k := Classical.byContradiction fun hne => by have := hρ k hne; simp [mentM, partM, cellM] at this
    rw [← e]
    exact .pt
  | rp u hb hl hcell hr =>
    exact .rp u (fun h => hb (ha _ hl h)) (by omega) (fun j hj => (hc _ _ hl hb).trans (hcell j hj)) (fun j a hj => (hr j a hj).tr hs hc ha)
  | ag hn h ih =>
    refine .ag hn fun j a x hj hx => ih j a x hj hx fun k hk => mentM_of_cellM ?_
    have := hρ k hk
    simp only [mentM, partM, List.any_eq_false] at this
    simpa using this a (List.mem_of_getElem? hj)
  | tp hn h ih =>
    refine .tp hn fun j a x hj hx => ih j a x hj hx fun k hk => mentM_of_partM ?_
    have := hρ k hk
    simp only [mentM, List.any_eq_false] at this
    simpa using this a (List.mem_of_getElem? hj)
  | fn hn h ih =>
    refine .fn hn fun j a x hj hx => ih j a x hj hx fun k hk => mentM_of_cellM ?_
    have := hρ k hk
    simp only [mentM, partM, List.any_eq_false] at this
    simpa using this a (List.mem_of_getElem? hj)
  | @sp k x h =>
    have e : ρ' k = ρ k := Classical.byContradiction fun hne => by have := hρ k hne; simp [mentM, partM, cellM] at this
    exact .sp (by rw [e]; exact h)

theorem Rep.grow {w w' : World} {av av' : Nat → Prop} {ρ : Nat → Loc} {a : AV} {x : Value} (h : Rep w av ρ a x) (hb : Below w.heap.size w w') (ha : ∀ b, b < w.heap.size → av' b → av b) : Rep w' av' ρ a x :=
  h.tr hb.size (fun b o hl _ => hb.cell (p := ⟨b, o, none⟩) hl) ha fun k hk => absurd rfl hk

/-! ### Tables -/
def look {α : Type} : List (Nat × α) → Nat → Option α
  | [], _ => none
  | (i, x) :: r, k => if i = k then some x else look r k
theorem look_nil {α : Type} (k : Nat) : look ([] : List (Nat × α)) k = none := rfl
theorem look_cons {α : Type} (i : Nat) (x : α) (r : List (Nat × α)) (k : Nat) : look ((i, x) :: r) k = if i = k then some x else look r k := rfl
theorem look_mem {α : Type} {l : List (Nat × α)} {k : Nat} {x : α} (h : look l k = some x) : (k, x) ∈ l := by
  induction l with
  | nil => simp [look] at h
  | cons p r ih =>
    obtain ⟨i, y⟩ := p
    rw [look_cons] at h
    split at h
    · next e => injection h with h; subst h; subst e; simp
    · exact List.mem_cons_of_mem _ (ih h)
/-- The entries of which f says so. -/
def sift {α : Type} (f : Nat → α → Bool) : List (Nat × α) → List (Nat × α)
  | [] => []
  | (i, x) :: r => if f i x then (i, x) :: sift f r else sift f r
/-- Every entry turned. -/
def turn {α : Type} (f : α → α) : List (Nat × α) → List (Nat × α)
  | [] => []
  | (i, x) :: r => (i, f x) :: turn f r
theorem look_turn {α : Type} (f : α → α) (l : List (Nat × α)) (k : Nat) : look (turn f l) k = (look l k).map f := by
  induction l with
  | nil => rfl
  | cons p r ih =>
    obtain ⟨i, y⟩ := p
    rw [turn, look_cons, look_cons, ih]
    split <;> rfl
/-- The table without k. -/
def cut {α : Type} (k : Nat) : List (Nat × α) → List (Nat × α)
  | [] => []
  | (i, x) :: r => if i = k then cut k r else (i, x) :: cut k r
theorem look_cut {α : Type} (k : Nat) (l : List (Nat × α)) (j : Nat) : look (cut k l) j = if j = k then none else look l j := by
  induction l with
  | nil => simp [cut, look]
  | cons p r ih =>
    obtain ⟨i, y⟩ := p
    rw [cut]
    split
    · next e => rw [ih, look_cons]; subst e; split
                · rfl
                · next h => rw [if_neg (fun e => h e.symm)]
    · next e =>
      rw [look_cons, look_cons, ih]
      split
      · next e2 => subst e2; rw [if_neg e]
      · rfl

/-- The entry of k is x now. -/
def hset {α : Type} (k : Nat) (x : α) : List (Nat × α) → List (Nat × α)
  | [] => [(k, x)]
  | (i, y) :: r => if i = k then (k, x) :: r else (i, y) :: hset k x r
theorem look_hset {α : Type} (k : Nat) (x : α) (l : List (Nat × α)) (j : Nat) : look (hset k x l) j = if j = k then some x else look l j := by
  induction l with
  | nil => simp [hset, look, eq_comm]
  | cons p r ih =>
    obtain ⟨i, y⟩ := p
    rw [hset]
    split
    · next e => subst e; simp only [look_cons]; split
                · next h => rw [if_pos h.symm]
                · next h => rw [if_neg (fun e => h e.symm)]
    · next e =>
      simp only [look_cons, ih]
      split
      · next e2 => subst e2; rw [if_neg e]
      · rfl

/-! ### Abstract states -/
abbrev Hp := List (Nat × List AV)
structure St where
  fr : List (Nat × AV)
  hp : Hp
  nt : Nat
  fx : List Nat

def ownB (ρ : Nat → Loc) (hp : Hp) (b : Nat) : Prop := ∃ k cs, look hp k = some cs ∧ 0 < (ρ k).cap ∧ (ρ k).g = b
def avd (bad : Nat → Prop) (ρ : Nat → Loc) (hp : Hp) : Nat → Prop := fun b => bad b ∨ ownB ρ hp b

structure ObjR (w : World) (av : Nat → Prop) (ρ : Nat → Loc) (L : Loc) (cs : List AV) : Prop where
  len : cs.length ≤ L.cap
  mem : 0 < L.cap → L.g < w.heap.size ∧ w.there L.g L.off L.cap
  cells : ∀ j a, cs[j]? = some a → ∃ x, w.cell? ⟨L.g, L.off + j, none⟩ = some x ∧ Rep w av ρ a x

structure HR (bad : Nat → Prop) (ρ : Nat → Loc) (hp : Hp) (w : World) : Prop where
  obj : ∀ k cs, look hp k = some cs → ObjR w (avd bad ρ hp) ρ (ρ k) cs
  dis : ∀ k k' cs cs', look hp k = some cs → look hp k' = some cs' → k ≠ k' → 0 < (ρ k).cap → 0 < (ρ k').cap → (ρ k).g ≠ (ρ k').g

/-- The run's frame: the world in which it began, the blocks that data must avoid, the blocks that it may change. -/
structure Env where
  w0 : World
  bad : Nat → Prop
  X : Nat → Prop
  ρ0 : Nat → Loc

structure SR (E : Env) (ρ : Nat → Loc) (st : St) (a : Act) (w : World) : Prop where
  fr : ∀ t x, look st.fr t = some x → Rep w (avd E.bad ρ st.hp) ρ x (a.tmps.getD t undef)
  hr : HR E.bad ρ st.hp w
  own : ∀ b, ownB ρ st.hp b → E.X b ∨ E.w0.heap.size ≤ b
  keep : Keeps E.w0 w E.X
  bad : ∀ b, E.bad b → b < E.w0.heap.size
  nb : ∀ b, ownB ρ st.hp b → ¬ E.bad b
  size : a.tmps.size = st.nt
  defers : a.defers = []
  fx : ∀ k ∈ st.fx, ρ k = E.ρ0 k

def S (E : Env) (st : St) (a : Act) (w : World) : Prop := ∃ ρ, SR E ρ st a w

theorem ObjR.tr {w w' : World} {av av' : Nat → Prop} {ρ ρ' : Nat → Loc} {L : Loc} {cs : List AV} (h : ObjR w av ρ L cs) (hs : w.heap.size ≤ w'.heap.size) (hL : 0 < L.cap → w'.heap[L.g]? = w.heap[L.g]?)
    (hc : ∀ b o, b < w.heap.size → ¬ av b → w'.cell? ⟨b, o, none⟩ = w.cell? ⟨b, o, none⟩) (ha : ∀ b, b < w.heap.size → av' b → av b)
    (hρ : ∀ k, ρ' k ≠ ρ k → ∀ a ∈ cs, mentM k a = false) : ObjR w' av' ρ' L cs := by
  refine ⟨h.len, fun hp => ?_, fun j a hj => ?_⟩
  · obtain ⟨h1, h2⟩ := h.mem hp
    refine ⟨by omega, fun j hj => ?_⟩
    rw [World.cell?_of_block (w := w) (a := ⟨L.g, L.off + j, none⟩) (hL hp), World.frozen?_of_block (w := w) (a := ⟨L.g, L.off + j, none⟩) (hL hp)]
    exact h2 j hj
  · obtain ⟨x, hx, hr⟩ := h.cells j a hj
    have hj' : j < cs.length := (List.getElem?_eq_some_iff.1 hj).1
    refine ⟨x, ?_, hr.tr hs hc ha fun k hk => hρ k hk a (List.mem_of_getElem? hj)⟩
    rw [World.cell?_of_block (w := w) (a := ⟨L.g, L.off + j, none⟩) (hL (by have := h.len; omega))]
    exact hx

/-- The world has only grown: everything stands. -/
theorem HR.below {bad : Nat → Prop} {ρ : Nat → Loc} {hp : Hp} {w w' : World} (h : HR bad ρ hp w) (hb : Below w.heap.size w w') : HR bad ρ hp w' :=
  ⟨fun k cs hk => (h.obj k cs hk).tr hb.size (fun hp => hb.block _ ((h.obj k cs hk).mem hp).1) (fun b o hl _ => hb.cell (p := ⟨b, o, none⟩) hl) (fun _ _ h => h) (fun k hk => absurd rfl hk), h.dis⟩
theorem Keeps.below_trans {w w1 w2 : World} {X : Nat → Prop} (h : Keeps w w1 X) (hb : Below w1.heap.size w1 w2) : Keeps w w2 X :=
  ⟨hb.os.trans h.os, hb.tape.trans h.tape, hb.output.trans h.output, Nat.le_trans h.size hb.size, fun k hk hn => (hb.block k (Nat.lt_of_lt_of_le hk h.size)).trans (h.block k hk hn)⟩
theorem SR.below {E : Env} {ρ : Nat → Loc} {st : St} {a : Act} {w w' : World} (h : SR E ρ st a w) (hb : Below w.heap.size w w') : SR E ρ st a w' :=
  ⟨fun t x ht => (h.fr t x ht).grow hb (fun _ _ h => h), h.hr.below hb, h.own, h.keep.below_trans hb, h.bad, h.nb, h.size, h.defers, h.fx⟩

/-! ### A temporary is set -/
def St.put (st : St) (d : Option Nat) (x : AV) : St :=
  match d with
  | none => st
  | some d => { st with fr := (d, x) :: st.fr }
theorem put_none (st : St) (x : AV) : st.put none x = st := rfl
theorem put_some (fr : List (Nat × AV)) (hp : Hp) (nt : Nat) (fx : List Nat) (d : Nat) (x : AV) : (St.mk fr hp nt fx).put (some d) x = ⟨(d, x) :: fr, hp, nt, fx⟩ := rfl
theorem SR.put {E : Env} {ρ : Nat → Loc} {st : St} {a : Act} {w : World} (h : SR E ρ st a w) (d : Option Nat) (hd : ∀ t, d = some t → t < st.nt) {x : AV} {v : Value} (hx : Rep w (avd E.bad ρ st.hp) ρ x v) : SR E ρ (st.put d x) (a.put d v) w := by
  cases d with
  | none => exact h
  | some d =>
    have hd := hd d rfl
    refine ⟨fun t y ht => ?_, h.hr, h.own, h.keep, h.bad, h.nb, by simpa [Act.put, St.put] using h.size, h.defers, h.fx⟩
    simp only [St.put, look_cons] at ht
    simp only [Act.put]
    split at ht
    · next e =>
      injection ht with ht
      subst ht; subst e
      rw [Array.getD_eq_getD_getElem?, Array.getElem?_setIfInBounds_self_of_lt (by rw [h.size]; exact hd)]
      exact hx
    · next e =>
      rw [Array.getD_eq_getD_getElem?, Array.getElem?_setIfInBounds_ne e, ← Array.getD_eq_getD_getElem?]
      exact h.fr t y ht

/-- Less is said. -/
structure Sub (s t : St) : Prop where
  fr : ∀ p ∈ s.fr, look t.fr p.1 = some p.2
  hp : ∀ p ∈ s.hp, look t.hp p.1 = some p.2
  nt : s.nt = t.nt
  fx : s.fx = t.fx
theorem Sub.SR {s t : St} (h : Sub s t) {E : Env} {ρ : Nat → Loc} {a : Act} {w : World} (hs : SR E ρ t a w) : SR E ρ s a w := by
  have hfr : ∀ k x, look s.fr k = some x → look t.fr k = some x := fun k x hk => h.fr _ (look_mem hk)
  have hhp : ∀ k x, look s.hp k = some x → look t.hp k = some x := fun k x hk => h.hp _ (look_mem hk)
  have hown : ∀ b, ownB ρ s.hp b → ownB ρ t.hp b := fun b ⟨k, cs, h1, h2⟩ => ⟨k, cs, hhp k cs h1, h2⟩
  have hav : ∀ b, avd E.bad ρ s.hp b → avd E.bad ρ t.hp b := fun b hb => hb.imp id (hown b)
  refine ⟨fun k x hk => ?_, ⟨fun k cs hk => ?_, fun k k' cs cs' h1 h2 => hs.hr.dis k k' cs cs' (hhp _ _ h1) (hhp _ _ h2)⟩, fun b hb => hs.own b (hown b hb), hs.keep, hs.bad, fun b hb => hs.nb b (hown b hb), by rw [h.nt]; exact hs.size, hs.defers, by rw [h.fx]; exact hs.fx⟩
  · exact (hs.fr k x (hfr k x hk)).tr (Nat.le_refl _) (fun _ _ _ _ => rfl) (fun b _ hb => hav b hb) (fun k hk => absurd rfl hk)
  · exact (hs.hr.obj k cs (hhp k cs hk)).tr (Nat.le_refl _) (fun _ => rfl) (fun _ _ _ _ => rfl) (fun b _ hb => hav b hb) (fun k hk => absurd rfl hk)
theorem Sub.S {s t : St} (h : Sub s t) {E : Env} {a : Act} {w : World} (hs : S E t a w) : S E s a w := by
  obtain ⟨ρ, hs⟩ := hs
  exact ⟨ρ, h.SR hs⟩
end Go.Proofs.Ytcplbbbjmalfjaa
