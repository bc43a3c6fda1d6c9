/- The abstract machine, parts A to H. No program is named here. -/
import Derived.Test.YtogmppcfopgkdaaGreatDoorGl
/- The abstract machine, part 1: abstract values, what it means that a value in memory is one, abstract states. No program is named here. -/
namespace Go.Proofs.YtogmppcfopgkdaaGreatDoor
open Go.RowKit
set_option linter.unusedVariables false
set_option linter.unusedSimpArgs false

/-- What is known of a value: it is x ('v'); nothing ('un'); a slice of n elements in memory that nobody changes ('rd'); a slice of the own object k ('os': from cell off on, sz cells an element, n elements); an address in the own object k ('pt'); an address in memory that nobody changes, from which on the cells cs lie ('rp'); a struct or an array ('ag'); several values ('tp'); a function with what it has captured ('fn'); nil or the address of the own object k ('sp'). -/
inductive AV where
  | v (x : Value)
  | un
  | rd (n : Nat) (cs : List AV)
  | os (k off sz n : Nat)
  | pt (k off : Nat)
  | rp (cs : List AV)
  | ag (cs : List AV)
  | tp (vs : List AV)
  | fn (f : FuncId) (cs : List AV)
  | sp (k : Nat)

/-- Where an own object lies: cap cells of block g from off on. -/
structure Loc where
  g : Nat
  off : Nat
  cap : Nat

/-- Data that nobody changes; it avoids the blocks av. -/
inductive RepI (w : World) (av : Nat → Prop) : AV → Value → Prop
  | v (x : Value) : RepI w av (.v x) x
  | un (x : Value) : RepI w av .un x
  | rd {n c : Nat} {cs : List AV} {A : Option Addr} (u : Nat → Value) (h1 : n ≤ c) (h2 : c ≤ 9223372036854775807) (h0 : n = 0 → cs = [])
      (hm : 0 < n → ∃ b off, A = some ⟨b, off, none⟩ ∧ ¬ av b ∧ b < w.heap.size ∧ ∀ j, j < cs.length → w.cell? ⟨b, off + j, none⟩ = some (u j))
      (hr : ∀ j a, cs[j]? = some a → RepI w av a (u j)) : RepI w av (.rd n cs) (.slice A n c)

/-- From here on: method values. -/
def bnd : Nat := 1000000
/-- A function value: what it has captured; from bnd on: a method value, and what it is bound to. -/
def fnV (f : FuncId) (us : Array Value) : Value := if f < bnd then .func (.func f) #[] us else .func (.func (f - bnd)) us #[]
theorem fnV_lt {f : FuncId} {us : Array Value} (h : f < bnd) : fnV f us = .func (.func f) #[] us := by unfold fnV; rw [if_pos h]
theorem fnV_ge (f : FuncId) (us : Array Value) : fnV (f + bnd) us = .func (.func f) us #[] := by
  unfold fnV
  generalize bnd = b
  rw [if_neg (Nat.not_lt.2 (Nat.le_add_left _ _)), Nat.add_sub_cancel]
theorem fnV_one (f : FuncId) (us : Array Value) : (fnV f us).oneCell' = true ∧ (fnV f us).cells = #[fnV f us] := by unfold fnV; split <;> exact ⟨rfl, rfl⟩
inductive Rep (w : World) (av : Nat → Prop) (ρ : Nat → Loc) : AV → Value → Prop
  | im {a : AV} {x : Value} (h : RepI w av a x) : Rep w av ρ a x
  | os {k off sz n c : Nat} {A : Option Addr} (hs : 0 < sz) (h1 : n ≤ c) (h2 : c ≤ 9223372036854775807)
      (h : 0 < c → A = some ⟨(ρ k).g, (ρ k).off + off, none⟩ ∧ off + c * sz ≤ (ρ k).cap) : Rep w av ρ (.os k off sz n) (.slice A n c)
  | pt {k off : Nat} : Rep w av ρ (.pt k off) (.pointer (some ⟨(ρ k).g, (ρ k).off + off, none⟩))
  | rp {cs : List AV} {b off : Nat} (u : Nat → Value) (hb : ¬ av b) (hl : b < w.heap.size) (hc : ∀ j, j < cs.length → w.cell? ⟨b, off + j, none⟩ = some (u j))
      (hr : ∀ j a, cs[j]? = some a → RepI w av a (u j)) : Rep w av ρ (.rp cs) (.pointer (some ⟨b, off, none⟩))
  | ag {cs : List AV} {us : Array Value} (hn : us.size = cs.length) (h : ∀ (j : Nat) (a : AV) (x : Value), cs[j]? = some a → us[j]? = some x → Rep w av ρ a x) : Rep w av ρ (.ag cs) (.agg us)
  | tp {cs : List AV} {us : Array Value} (hn : us.size = cs.length) (h : ∀ (j : Nat) (a : AV) (x : Value), cs[j]? = some a → us[j]? = some x → Rep w av ρ a x) : Rep w av ρ (.tp cs) (.tuple us)
  | fn {f : FuncId} {cs : List AV} {us : Array Value} {y : Value} (hy : y = fnV f us) (hn : us.size = cs.length) (h : ∀ (j : Nat) (a : AV) (x : Value), cs[j]? = some a → us[j]? = some x → Rep w av ρ a x) : Rep w av ρ (.fn f cs) y
  | sp {k : Nat} {x : Value} (h : x = .pointer none ∨ x = .pointer (some ⟨(ρ k).g, (ρ k).off, none⟩)) : Rep w av ρ (.sp k) x

/-- Whether what a function value in a cell has captured speaks of the own object k. -/
def cellS (k : Nat) : AV → Bool
  | .os j _ _ _ => j == k
  | .pt j _ => j == k
  | .ag _ => true
  | .tp _ => true
  | .fn _ _ => true
  | .sp j => j == k
  | _ => false
/-- Whether a cell speaks of the own object k. -/
def cellM (k : Nat) : AV → Bool
  | .os j _ _ _ => j == k
  | .pt j _ => j == k
  | .ag _ => true
  | .tp _ => true
  | .fn _ cs => cs.any (cellS k)
  | .sp j => j == k
  | _ => false
theorem cellM_of_cellS {k : Nat} {a : AV} (h : cellS k a = false) : cellM k a = false := by
  cases a <;> simp_all [cellM, cellS]
def partM (k : Nat) : AV → Bool
  | .ag cs => cs.any (cellM k)
  | .fn _ cs => cs.any (cellM k)
  | a => cellM k a
def mentM (k : Nat) : AV → Bool
  | .tp vs => vs.any (partM k)
  | a => partM k a

theorem RepI.tr {w w' : World} {av av' : Nat → Prop} {a : AV} {x : Value} (h : RepI w av a x) (hs : w.heap.size ≤ w'.heap.size)
    (hc : ∀ b o, b < w.heap.size → ¬ av b → w'.cell? ⟨b, o, none⟩ = w.cell? ⟨b, o, none⟩) (ha : ∀ b, b < w.heap.size → av' b → av b) : RepI w' av' a x := by
  induction h with
  | v x => exact .v x
  | un x => exact .un x
  | rd u h1 h2 h0 hm hr ih =>
    refine .rd u h1 h2 h0 (fun hn => ?_) ih
    obtain ⟨b, off, rfl, hb, hl, hcell⟩ := hm hn
    exact ⟨b, off, rfl, fun h => hb (ha b hl h), by omega, fun j hj => (hc _ _ hl hb).trans (hcell j hj)⟩

theorem mentM_of_cellM {k : Nat} {a : AV} (h : cellM k a = false) : mentM k a = false := by
  cases a with
  | fn f cs =>
    simp only [cellM, List.any_eq_false] at h
    simp only [mentM, partM, List.any_eq_false]
    exact fun x hx => by simpa using cellM_of_cellS (by simpa using h x hx)
  | _ => simp_all [cellM, mentM, partM]
theorem mentM_of_partM {k : Nat} {a : AV} (h : partM k a = false) : mentM k a = false := by
  cases a <;> simp_all [cellM, mentM, partM]

theorem Rep.tr {w w' : World} {av av' : Nat → Prop} {ρ ρ' : Nat → Loc} {a : AV} {x : Value} (h : Rep w av ρ a x) (hs : w.heap.size ≤ w'.heap.size)
    (hc : ∀ b o, b < w.heap.size → ¬ av b → w'.cell? ⟨b, o, none⟩ = w.cell? ⟨b, o, none⟩) (ha : ∀ b, b < w.heap.size → av' b → av b)
    (hρ : ∀ k, ρ' k ≠ ρ k → mentM k a = false) : Rep w' av' ρ' a x := by
  induction h with
  | im h => exact .im (h.tr hs hc ha)
  | @os k off sz n c A h0 h1 h2 h =>
    have e : ρ' k = ρ k := Classical.byContradiction fun hne => by have := hρ k hne; simp [mentM, partM, cellM] at this
    exact .os h0 h1 h2 (by rw [e]; exact h)
  | @pt k off =>
    have e : ρ' k = ρ k := Classical.byContradiction fun hne => by have := hρ k hne; simp [mentM, partM, cellM] at this
    rw [← e]
    exact .pt
  | rp u hb hl hcell hr =>
    exact .rp u (fun h => hb (ha _ hl h)) (by omega) (fun j hj => (hc _ _ hl hb).trans (hcell j hj)) (fun j a hj => (hr j a hj).tr hs hc ha)
  | ag hn h ih =>
    refine .ag hn fun j a x hj hx => ih j a x hj hx fun k hk => mentM_of_cellM ?_
    have := hρ k hk
    simp only [mentM, partM, List.any_eq_false] at this
    simpa using this a (List.mem_of_getElem? hj)
  | tp hn h ih =>
    refine .tp hn fun j a x hj hx => ih j a x hj hx fun k hk => mentM_of_partM ?_
    have := hρ k hk
    simp only [mentM, List.any_eq_false] at this
    simpa using this a (List.mem_of_getElem? hj)
  | fn hy hn h ih =>
    refine .fn hy hn fun j a x hj hx => ih j a x hj hx fun k hk => mentM_of_cellM ?_
    have := hρ k hk
    simp only [mentM, partM, List.any_eq_false] at this
    simpa using this a (List.mem_of_getElem? hj)
  | @sp k x h =>
    have e : ρ' k = ρ k := Classical.byContradiction fun hne => by have := hρ k hne; simp [mentM, partM, cellM] at this
    exact .sp (by rw [e]; exact h)

theorem Rep.grow {w w' : World} {av av' : Nat → Prop} {ρ : Nat → Loc} {a : AV} {x : Value} (h : Rep w av ρ a x) (hb : Below w.heap.size w w') (ha : ∀ b, b < w.heap.size → av' b → av b) : Rep w' av' ρ a x :=
  h.tr hb.size (fun b o hl _ => hb.cell (p := ⟨b, o, none⟩) hl) ha fun k hk => absurd rfl hk

/-! ### Tables -/
def look {α : Type} : List (Nat × α) → Nat → Option α
  | [], _ => none
  | (i, x) :: r, k => if i = k then some x else look r k
theorem look_nil {α : Type} (k : Nat) : look ([] : List (Nat × α)) k = none := rfl
theorem look_cons {α : Type} (i : Nat) (x : α) (r : List (Nat × α)) (k : Nat) : look ((i, x) :: r) k = if i = k then some x else look r k := rfl
theorem look_mem {α : Type} {l : List (Nat × α)} {k : Nat} {x : α} (h : look l k = some x) : (k, x) ∈ l := by
  induction l with
  | nil => simp [look] at h
  | cons p r ih =>
    obtain ⟨i, y⟩ := p
    rw [look_cons] at h
    split at h
    · next e => injection h with h; subst h; subst e; simp
    · exact List.mem_cons_of_mem _ (ih h)
/-- Every entry turned. -/
def turn {α : Type} (f : α → α) : List (Nat × α) → List (Nat × α)
  | [] => []
  | (i, x) :: r => (i, f x) :: turn f r
theorem look_turn {α : Type} (f : α → α) (l : List (Nat × α)) (k : Nat) : look (turn f l) k = (look l k).map f := by
  induction l with
  | nil => rfl
  | cons p r ih =>
    obtain ⟨i, y⟩ := p
    rw [turn, look_cons, look_cons, ih]
    split <;> rfl
/-- The table without k. -/
def cut {α : Type} (k : Nat) : List (Nat × α) → List (Nat × α)
  | [] => []
  | (i, x) :: r => if i = k then cut k r else (i, x) :: cut k r
theorem look_cut {α : Type} (k : Nat) (l : List (Nat × α)) (j : Nat) : look (cut k l) j = if j = k then none else look l j := by
  induction l with
  | nil => simp [cut, look]
  | cons p r ih =>
    obtain ⟨i, y⟩ := p
    rw [cut]
    split
    · next e => rw [ih, look_cons]; subst e; split
                · rfl
                · next h => rw [if_neg (fun e => h e.symm)]
    · next e =>
      rw [look_cons, look_cons, ih]
      split
      · next e2 => subst e2; rw [if_neg e]
      · rfl

/-- The entry of k is x now. -/
def hset {α : Type} (k : Nat) (x : α) : List (Nat × α) → List (Nat × α)
  | [] => [(k, x)]
  | (i, y) :: r => if i = k then (k, x) :: r else (i, y) :: hset k x r
theorem look_hset {α : Type} (k : Nat) (x : α) (l : List (Nat × α)) (j : Nat) : look (hset k x l) j = if j = k then some x else look l j := by
  induction l with
  | nil => simp [hset, look, eq_comm]
  | cons p r ih =>
    obtain ⟨i, y⟩ := p
    rw [hset]
    split
    · next e => subst e; simp only [look_cons]; split
                · next h => rw [if_pos h.symm]
                · next h => rw [if_neg (fun e => h e.symm)]
    · next e =>
      simp only [look_cons, ih]
      split
      · next e2 => subst e2; rw [if_neg e]
      · rfl

/-! ### Abstract states -/
abbrev Hp := List (Nat × List AV)
structure St where
  fr : List (Nat × AV)
  hp : Hp
  nt : Nat
  fx : List Nat

def ownB (ρ : Nat → Loc) (hp : Hp) (b : Nat) : Prop := ∃ k cs, look hp k = some cs ∧ 0 < (ρ k).cap ∧ (ρ k).g = b
def avd (bad : Nat → Prop) (ρ : Nat → Loc) (hp : Hp) : Nat → Prop := fun b => bad b ∨ ownB ρ hp b

structure ObjR (w : World) (av : Nat → Prop) (ρ : Nat → Loc) (L : Loc) (cs : List AV) : Prop where
  len : cs.length ≤ L.cap
  mem : 0 < L.cap → L.g < w.heap.size ∧ w.there L.g L.off L.cap
  cells : ∀ j a, cs[j]? = some a → ∃ x, w.cell? ⟨L.g, L.off + j, none⟩ = some x ∧ Rep w av ρ a x

structure HR (bad : Nat → Prop) (ρ : Nat → Loc) (hp : Hp) (w : World) : Prop where
  obj : ∀ k cs, look hp k = some cs → ObjR w (avd bad ρ hp) ρ (ρ k) cs
  dis : ∀ k k' cs cs', look hp k = some cs → look hp k' = some cs' → k ≠ k' → 0 < (ρ k).cap → 0 < (ρ k').cap → (ρ k).g ≠ (ρ k').g

/-- The run's frame: the world in which it began, the blocks that data must avoid, the blocks that it may change. -/
structure Env where
  w0 : World
  bad : Nat → Prop
  X : Nat → Prop
  ρ0 : Nat → Loc
  ds : List Deferred

structure SR (E : Env) (ρ : Nat → Loc) (st : St) (a : Act) (w : World) : Prop where
  fr : ∀ t x, look st.fr t = some x → Rep w (avd E.bad ρ st.hp) ρ x (a.tmps.getD t undef)
  hr : HR E.bad ρ st.hp w
  own : ∀ b, ownB ρ st.hp b → E.X b ∨ E.w0.heap.size ≤ b
  keep : Keeps E.w0 w E.X
  bad : (∀ b, E.bad b → b < E.w0.heap.size) ∧ Glob E.w0 ∧ ∀ b, E.X b → ¬ gblk b
  nb : ∀ b, ownB ρ st.hp b → ¬ E.bad b
  size : a.tmps.size = st.nt
  defers : a.defers = E.ds
  fx : ∀ k ∈ st.fx, ρ k = E.ρ0 k

theorem SR.glob {E : Env} {ρ : Nat → Loc} {st : St} {a : Act} {w : World} (h : SR E ρ st a w) : Glob w := h.bad.2.1.keeps h.keep h.bad.2.2
theorem SR.ngb {E : Env} {ρ : Nat → Loc} {st : St} {a : Act} {w : World} (h : SR E ρ st a w) {b : Nat} (hb : ownB ρ st.hp b) : ¬ gblk b := fun hg => by
  rcases h.own b hb with hx | hx
  · exact h.bad.2.2 b hx hg
  · exact absurd (h.bad.2.1.lt hg) (Nat.not_lt.2 hx)
def S (E : Env) (st : St) (a : Act) (w : World) : Prop := ∃ ρ, SR E ρ st a w

theorem ObjR.tr {w w' : World} {av av' : Nat → Prop} {ρ ρ' : Nat → Loc} {L : Loc} {cs : List AV} (h : ObjR w av ρ L cs) (hs : w.heap.size ≤ w'.heap.size) (hL : 0 < L.cap → w'.heap[L.g]? = w.heap[L.g]?)
    (hc : ∀ b o, b < w.heap.size → ¬ av b → w'.cell? ⟨b, o, none⟩ = w.cell? ⟨b, o, none⟩) (ha : ∀ b, b < w.heap.size → av' b → av b)
    (hρ : ∀ k, ρ' k ≠ ρ k → ∀ a ∈ cs, mentM k a = false) : ObjR w' av' ρ' L cs := by
  refine ⟨h.len, fun hp => ?_, fun j a hj => ?_⟩
  · obtain ⟨h1, h2⟩ := h.mem hp
    refine ⟨by omega, fun j hj => ?_⟩
    rw [World.cell?_of_block (w := w) (a := ⟨L.g, L.off + j, none⟩) (hL hp), World.frozen?_of_block (w := w) (a := ⟨L.g, L.off + j, none⟩) (hL hp)]
    exact h2 j hj
  · obtain ⟨x, hx, hr⟩ := h.cells j a hj
    have hj' : j < cs.length := (List.getElem?_eq_some_iff.1 hj).1
    refine ⟨x, ?_, hr.tr hs hc ha fun k hk => hρ k hk a (List.mem_of_getElem? hj)⟩
    rw [World.cell?_of_block (w := w) (a := ⟨L.g, L.off + j, none⟩) (hL (by have := h.len; omega))]
    exact hx

/-- The world has only grown: everything stands. -/
theorem HR.below {bad : Nat → Prop} {ρ : Nat → Loc} {hp : Hp} {w w' : World} (h : HR bad ρ hp w) (hb : Below w.heap.size w w') : HR bad ρ hp w' :=
  ⟨fun k cs hk => (h.obj k cs hk).tr hb.size (fun hp => hb.block _ ((h.obj k cs hk).mem hp).1) (fun b o hl _ => hb.cell (p := ⟨b, o, none⟩) hl) (fun _ _ h => h) (fun k hk => absurd rfl hk), h.dis⟩
theorem Keeps.below_trans {w w1 w2 : World} {X : Nat → Prop} (h : Keeps w w1 X) (hb : Below w1.heap.size w1 w2) : Keeps w w2 X :=
  ⟨hb.os.trans h.os, hb.tape.trans h.tape, hb.output.trans h.output, Nat.le_trans h.size hb.size, fun k hk hn => (hb.block k (Nat.lt_of_lt_of_le hk h.size)).trans (h.block k hk hn)⟩
theorem SR.below {E : Env} {ρ : Nat → Loc} {st : St} {a : Act} {w w' : World} (h : SR E ρ st a w) (hb : Below w.heap.size w w') : SR E ρ st a w' :=
  ⟨fun t x ht => (h.fr t x ht).grow hb (fun _ _ h => h), h.hr.below hb, h.own, h.keep.below_trans hb, h.bad, h.nb, h.size, h.defers, h.fx⟩

/-! ### A temporary is set -/
def St.put (st : St) (d : Option Nat) (x : AV) : St :=
  match d with
  | none => st
  | some d => { st with fr := (d, x) :: st.fr }
theorem put_none (st : St) (x : AV) : st.put none x = st := rfl
theorem put_some (fr : List (Nat × AV)) (hp : Hp) (nt : Nat) (fx : List Nat) (d : Nat) (x : AV) : (St.mk fr hp nt fx).put (some d) x = ⟨(d, x) :: fr, hp, nt, fx⟩ := rfl
theorem SR.put {E : Env} {ρ : Nat → Loc} {st : St} {a : Act} {w : World} (h : SR E ρ st a w) (d : Option Nat) (hd : ∀ t, d = some t → t < st.nt) {x : AV} {v : Value} (hx : Rep w (avd E.bad ρ st.hp) ρ x v) : SR E ρ (st.put d x) (a.put d v) w := by
  cases d with
  | none => exact h
  | some d =>
    have hd := hd d rfl
    refine ⟨fun t y ht => ?_, h.hr, h.own, h.keep, h.bad, h.nb, by simpa [Act.put, St.put] using h.size, h.defers, h.fx⟩
    simp only [St.put, look_cons] at ht
    simp only [Act.put]
    split at ht
    · next e =>
      injection ht with ht
      subst ht; subst e
      rw [Array.getD_eq_getD_getElem?, Array.getElem?_setIfInBounds_self_of_lt (by rw [h.size]; exact hd)]
      exact hx
    · next e =>
      rw [Array.getD_eq_getD_getElem?, Array.getElem?_setIfInBounds_ne e, ← Array.getD_eq_getD_getElem?]
      exact h.fr t y ht

/-- Less is said. -/
structure Sub (s t : St) : Prop where
  fr : ∀ p ∈ s.fr, look t.fr p.1 = some p.2
  hp : ∀ p ∈ s.hp, look t.hp p.1 = some p.2
  nt : s.nt = t.nt
  fx : s.fx = t.fx
theorem Sub.SR {s t : St} (h : Sub s t) {E : Env} {ρ : Nat → Loc} {a : Act} {w : World} (hs : SR E ρ t a w) : SR E ρ s a w := by
  have hfr : ∀ k x, look s.fr k = some x → look t.fr k = some x := fun k x hk => h.fr _ (look_mem hk)
  have hhp : ∀ k x, look s.hp k = some x → look t.hp k = some x := fun k x hk => h.hp _ (look_mem hk)
  have hown : ∀ b, ownB ρ s.hp b → ownB ρ t.hp b := fun b ⟨k, cs, h1, h2⟩ => ⟨k, cs, hhp k cs h1, h2⟩
  have hav : ∀ b, avd E.bad ρ s.hp b → avd E.bad ρ t.hp b := fun b hb => hb.imp id (hown b)
  refine ⟨fun k x hk => ?_, ⟨fun k cs hk => ?_, fun k k' cs cs' h1 h2 => hs.hr.dis k k' cs cs' (hhp _ _ h1) (hhp _ _ h2)⟩, fun b hb => hs.own b (hown b hb), hs.keep, hs.bad, fun b hb => hs.nb b (hown b hb), by rw [h.nt]; exact hs.size, hs.defers, by rw [h.fx]; exact hs.fx⟩
  · exact (hs.fr k x (hfr k x hk)).tr (Nat.le_refl _) (fun _ _ _ _ => rfl) (fun b _ hb => hav b hb) (fun k hk => absurd rfl hk)
  · exact (hs.hr.obj k cs (hhp k cs hk)).tr (Nat.le_refl _) (fun _ => rfl) (fun _ _ _ _ => rfl) (fun b _ hb => hav b hb) (fun k hk => absurd rfl hk)
theorem Sub.S {s t : St} (h : Sub s t) {E : Env} {a : Act} {w : World} (hs : S E t a w) : S E s a w := by
  obtain ⟨ρ, hs⟩ := hs
  exact ⟨ρ, h.SR hs⟩
end Go.Proofs.YtogmppcfopgkdaaGreatDoor

/- The abstract machine, part 2: what an operation that changes nothing yields. No program is named here. -/
namespace Go.Proofs.YtogmppcfopgkdaaGreatDoor
open Go.RowKit
set_option linter.unusedVariables false
set_option linter.unusedSimpArgs false

/-! ### Runs that touch no memory -/
def pr (P : Program) {α : Type} : Sem α → Option α
  | .pure a => some a
  | .program k => pr P (k P)
  | _ => none
theorem pr_run {P : Program} {α : Type} : ∀ {s : Sem α} {x : α}, pr P s = some x → ∀ w, s.run P w = .ok x w
  | .pure a, x, h, w => by simp only [pr, Option.some.injEq] at h; subst h; rfl
  | .program k, x, h, w => by simp only [pr] at h; exact pr_run (s := k P) h w
  | .load .., _, h, _ => by simp [pr] at h
  | .store .., _, h, _ => by simp [pr] at h
  | .new .., _, h, _ => by simp [pr] at h
  | .shape .., _, h, _ => by simp [pr] at h
  | .freeze .., _, h, _ => by simp [pr] at h
  | .frozen .., _, h, _ => by simp [pr] at h
  | .getObj .., _, h, _ => by simp [pr] at h
  | .setObj .., _, h, _ => by simp [pr] at h
  | .choose .., _, h, _ => by simp [pr] at h
  | .sys .., _, h, _ => by simp [pr] at h
  | .mark .., _, h, _ => by simp [pr] at h
  | .halt .., _, h, _ => by simp [pr] at h
theorem pr_pure (P : Program) {α : Type} (x : α) : pr P (Pure.pure x : Sem α) = some x := rfl
theorem pr_bind (P : Program) {α β : Type} (s : Sem α) (f : α → Sem β) : pr P (s >>= f) = (pr P s).bind fun x => pr P (f x) := by
  show pr P (s.bind f) = _
  induction s <;> simp_all [pr, Sem.bind]

/-! ### Operands -/
def cst : Value → AV
  | .agg cs => .ag (cs.toList.map .v)
  | x => .v x
theorem cst_int (k : IntKind) (n : Int) : cst (.int k n) = .v (.int k n) := rfl
theorem cst_bool (b : Bool) : cst (.bool b) = .v (.bool b) := rfl
theorem cst_string (b : ByteArray) : cst (.string b) = .v (.string b) := rfl
theorem cst_slice (a : Option Addr) (n c : Nat) : cst (.slice a n c) = .v (.slice a n c) := rfl
theorem cst_agg (cs : Array Value) : cst (.agg cs) = .ag (cs.toList.map .v) := rfl
theorem cst_rep {w : World} {av : Nat → Prop} {ρ : Nat → Loc} (x : Value) : Rep w av ρ (cst x) x := by
  cases x <;> first
    | exact .im (.v _)
    | (refine .ag (by simp) fun j a x hj hx => ?_
       simp at hj
       obtain ⟨y, hy, rfl⟩ := hj
       rw [hy] at hx
       injection hx with hx
       subst hx
       exact .im (.v _))
def opv (st : St) : Operand → Option AV
  | .tmp t => look st.fr t
  | .const c => some (cst c)
  | .func f => some (.v (.func (.func f) #[] #[]))
  | .global g => some (.v (.pointer (some ⟨g, 0, none⟩)))
theorem opv_tmp (st : St) (t : Nat) : opv st (.tmp t) = look st.fr t := rfl
theorem opv_const (st : St) (c : Value) : opv st (.const c) = some (cst c) := rfl
theorem opv_global (st : St) (g : Nat) : opv st (.global g) = some (.v (.pointer (some ⟨g, 0, none⟩))) := rfl
theorem opv_sound {E : Env} {ρ : Nat → Loc} {st : St} {a : Act} {w : World} (h : SR E ρ st a w) {x : Operand} {y : AV} (hx : opv st x = some y) : Rep w (avd E.bad ρ st.hp) ρ y (a.eval x) := by
  cases x with
  | tmp t => exact h.fr t y hx
  | const c => simp only [opv, Option.some.injEq] at hx; subst hx; exact cst_rep c
  | func f => simp only [opv, Option.some.injEq] at hx; subst hx; exact .im (.v _)
  | global g => simp only [opv, Option.some.injEq] at hx; subst hx; exact .im (.v _)

/-! ### Values that are known whole -/
def cellVs : List AV → Option (List Value)
  | [] => some []
  | .v x :: r => (cellVs r).map (x :: ·)
  | _ => none
def val : AV → Option Value
  | .v x => some x
  | .ag cs => (cellVs cs).map fun l => .agg l.toArray
  | _ => none
theorem cellVs_nil : cellVs [] = some [] := rfl
theorem cellVs_cons (x : Value) (r : List AV) : cellVs (.v x :: r) = (cellVs r).map (x :: ·) := rfl
theorem val_v (x : Value) : val (.v x) = some x := rfl
theorem val_ag (cs : List AV) : val (.ag cs) = (cellVs cs).map fun l => .agg l.toArray := rfl
section
variable {w : World} {av : Nat → Prop} {ρ : Nat → Loc}
theorem Rep.v_eq {x y : Value} (h : Rep w av ρ (.v x) y) : y = x := by
  cases h with
  | im h => cases h; rfl
theorem cellVs_spec : ∀ {cs : List AV} {l : List Value}, cellVs cs = some l → cs = l.map .v
  | [], l, h => by simp [cellVs] at h; subst h; rfl
  | .v x :: r, l, h => by
    simp only [cellVs, Option.map_eq_some_iff] at h
    obtain ⟨l', h', rfl⟩ := h
    rw [cellVs_spec h']
    rfl
  | .un :: _, _, h => by simp [cellVs] at h
  | .rd .. :: _, _, h => by simp [cellVs] at h
  | .os .. :: _, _, h => by simp [cellVs] at h
  | .pt .. :: _, _, h => by simp [cellVs] at h
  | .rp .. :: _, _, h => by simp [cellVs] at h
  | .ag .. :: _, _, h => by simp [cellVs] at h
  | .tp .. :: _, _, h => by simp [cellVs] at h
  | .fn .. :: _, _, h => by simp [cellVs] at h
  | .sp .. :: _, _, h => by simp [cellVs] at h
theorem Rep.ag_inv {cs : List AV} {y : Value} (h : Rep w av ρ (.ag cs) y) : ∃ us : Array Value, y = .agg us ∧ us.size = cs.length ∧ ∀ (j : Nat) (a : AV) (x : Value), cs[j]? = some a → us[j]? = some x → Rep w av ρ a x := by
  cases h with
  | im h => cases h
  | ag hn h => exact ⟨_, rfl, hn, h⟩
theorem Rep.tp_inv {cs : List AV} {y : Value} (h : Rep w av ρ (.tp cs) y) : ∃ us : Array Value, y = .tuple us ∧ us.size = cs.length ∧ ∀ (j : Nat) (a : AV) (x : Value), cs[j]? = some a → us[j]? = some x → Rep w av ρ a x := by
  cases h with
  | im h => cases h
  | tp hn h => exact ⟨_, rfl, hn, h⟩
theorem Rep.fn_inv {f : FuncId} {cs : List AV} {y : Value} (h : Rep w av ρ (.fn f cs) y) : ∃ us : Array Value, y = fnV f us ∧ us.size = cs.length ∧ ∀ (j : Nat) (a : AV) (x : Value), cs[j]? = some a → us[j]? = some x → Rep w av ρ a x := by
  cases h with
  | im h => cases h
  | fn hy hn h => exact ⟨_, hy, hn, h⟩
theorem Rep.sp_inv {k : Nat} {y : Value} (h : Rep w av ρ (.sp k) y) : y = .pointer none ∨ y = .pointer (some ⟨(ρ k).g, (ρ k).off, none⟩) := by
  cases h with
  | im h => cases h
  | sp h => exact h
theorem Rep.pt_inv {k off : Nat} {y : Value} (h : Rep w av ρ (.pt k off) y) : y = .pointer (some ⟨(ρ k).g, (ρ k).off + off, none⟩) := by
  cases h with
  | im h => cases h
  | pt => rfl
theorem Rep.rp_inv {cs : List AV} {y : Value} (h : Rep w av ρ (.rp cs) y) : ∃ b off, ∃ u : Nat → Value, y = .pointer (some ⟨b, off, none⟩) ∧ ¬ av b ∧ b < w.heap.size ∧ (∀ j, j < cs.length → w.cell? ⟨b, off + j, none⟩ = some (u j)) ∧ ∀ j a, cs[j]? = some a → RepI w av a (u j) := by
  cases h with
  | im h => cases h
  | rp u hb hl hc hr => exact ⟨_, _, u, rfl, hb, hl, hc, hr⟩
theorem Rep.rd_inv {n : Nat} {cs : List AV} {y : Value} (h : Rep w av ρ (.rd n cs) y) : ∃ (A : Option Addr) (c : Nat) (u : Nat → Value), y = .slice A n c ∧ n ≤ c ∧ c ≤ 9223372036854775807 ∧ (n = 0 → cs = []) ∧
    (0 < n → ∃ b off, A = some ⟨b, off, none⟩ ∧ ¬ av b ∧ b < w.heap.size ∧ ∀ j, j < cs.length → w.cell? ⟨b, off + j, none⟩ = some (u j)) ∧ ∀ j a, cs[j]? = some a → RepI w av a (u j) := by
  cases h with
  | im h => cases h with
    | rd u h1 h2 h0 hm hr => exact ⟨_, _, u, rfl, h1, h2, h0, hm, hr⟩
theorem Rep.os_inv {k off sz n : Nat} {y : Value} (h : Rep w av ρ (.os k off sz n) y) : ∃ (A : Option Addr) (c : Nat), y = .slice A n c ∧ 0 < sz ∧ n ≤ c ∧ c ≤ 9223372036854775807 ∧
    (0 < c → A = some ⟨(ρ k).g, (ρ k).off + off, none⟩ ∧ off + c * sz ≤ (ρ k).cap) := by
  cases h with
  | im h => cases h
  | os hs h1 h2 h => exact ⟨_, _, rfl, hs, h1, h2, h⟩
theorem val_eq {a : AV} {x y : Value} (h : Rep w av ρ a y) (hv : val a = some x) : y = x := by
  cases a with
  | v z => simp only [val, Option.some.injEq] at hv; subst hv; exact h.v_eq
  | ag cs =>
    simp only [val, Option.map_eq_some_iff] at hv
    obtain ⟨l, hl, rfl⟩ := hv
    have := cellVs_spec hl
    subst this
    obtain ⟨us, rfl, hn, hr⟩ := h.ag_inv
    congr 1
    apply Array.ext'
    apply List.ext_getElem?
    intro j
    rcases Nat.lt_or_ge j l.length with hj | hj
    · have hj' : j < us.size := by simpa [hn] using hj
      have := (hr j (.v l[j]) us[j] (by simp [hj]) (by simp [hj'])).v_eq
      simp [hj', hj, this]
    · rw [List.getElem?_eq_none (by simpa [hn] using hj), List.getElem?_eq_none (by simpa using hj)]
  | _ => simp [val] at hv
end

/-! ### Facts on types -/
def rowT (P : Program) (t : TypeId) : Option Bool := (P.underlying t).map (·.isRow)
def szT (P : Program) (t : TypeId) : Option Nat := (P.info? t).map (·.size)
/-- A field: its offset and its type. -/
def fldT (P : Program) (s : TypeId) (f : Nat) : Option (Nat × TypeId) :=
  match P.underlying s with
  | some (.struct fs) => (fs[f]?).bind fun fd => match szT P fd.type with
    | some (n + 1) => some (fd.offset, fd.type)
    | _ => none
  | _ => none
/-- A slice type's elements: their type, size and bytes. -/
def elT (P : Program) (t : TypeId) : Option (TypeId × Nat × Nat) :=
  match P.underlying t with
  | some (.slice e) => (P.info? e).bind fun i => if 0 < i.size ∧ i.zero.map (·.cells.size) = some i.size then some (e, i.size, i.bytes) else none
  | _ => none
/-- An array type's length, elements' type and size. -/
def arT (P : Program) (t : TypeId) : Option (Nat × TypeId × Nat) :=
  match P.underlying t with
  | some (.array n e) => (szT P e).map fun s => (n, e, s)
  | _ => none

/-- All cells of w are in w' as they were. -/
def Ext (w w' : World) : Prop := ∀ b o x, w.cell? ⟨b, o, none⟩ = some x → w'.cell? ⟨b, o, none⟩ = some x
theorem Ext.refl (w : World) : Ext w w := fun _ _ _ h => h
theorem Ext.of_below {w w' : World} (h : Below w.heap.size w w') : Ext w w' := fun b o x hx => by
  have hl := World.block_lt_of_cell? w ⟨b, o, none⟩ hx
  rw [h.cell (p := ⟨b, o, none⟩) hl]
  exact hx
section
variable {P : Program} {w : World}
theorem run_sizeOf' {t : TypeId} {n : Nat} (h : szT P t = some n) : (sizeOf t).run P w = .ok n w := by
  unfold szT at h
  cases hq : P.info? t with
  | none => simp [hq] at h
  | some i => simp [hq] at h; subst h; simp [sizeOf, typeInfo, hq]
theorem run_isAgg' {t : TypeId} {b : Bool} (h : rowT P t = some b) : (isAgg t).run P w = .ok b w := by
  unfold rowT at h
  cases hq : P.underlying t with
  | none => simp [hq] at h
  | some d =>
    simp [hq] at h
    subst h
    unfold isAgg
    rw [Sem.run_bind, run_underlying hq w]
    cases d <;> rfl

/-- The variable of type t at the beginning of these cells. -/
def qCells (P : Program) (t : TypeId) (cs : List AV) : Option AV :=
  match rowT P t with
  | some false => cs[0]?
  | some true => match szT P t with
    | some n => if n ≤ cs.length then some (.ag (cs.take n)) else none
    | none => none
  | none => none
theorem qCells_sound {av : Nat → Prop} {ρ : Nat → Loc} {t : TypeId} {cs : List AV} {y : AV} {b off : Nat} (h : qCells P t cs = some y)
    (hc : ∀ j a, cs[j]? = some a → ∃ x, w.cell? ⟨b, off + j, none⟩ = some x ∧ Rep w av ρ a x) : ∃ v, (∀ w', Ext w w' → (loadVar t ⟨b, off, none⟩).run P w' = .ok v w') ∧ Rep w av ρ y v := by
  unfold qCells at h
  cases hr : rowT P t with
  | none => simp [hr] at h
  | some r =>
    rw [hr] at h
    cases r with
    | false =>
      simp only at h
      obtain ⟨x, hx, hrep⟩ := hc 0 y h
      refine ⟨x, fun w' hw => ?_, hrep⟩
      rw [Nat.add_zero] at hx
      simp [loadVar, run_isAgg' hr, run_load, hw _ _ _ hx]
    | true =>
      simp only at h
      cases hs : szT P t with
      | none => simp [hs] at h
      | some n =>
        rw [hs] at h
        simp only at h
        split at h
        · next hle =>
          injection h with h
          subst h
          have hex : ∀ j, j < n → ∃ x, w.cell? ⟨b, off + j, none⟩ = some x ∧ ∃ a, cs[j]? = some a ∧ Rep w av ρ a x := fun j hj => by
            obtain ⟨x, hx, hrep⟩ := hc j cs[j] (List.getElem?_eq_getElem (by omega))
            exact ⟨x, hx, _, List.getElem?_eq_getElem (by omega), hrep⟩
          let f : Nat → Value := fun j => (w.cell? ⟨b, off + j, none⟩).getD undef
          have hf : ∀ j, j < n → w.cell? ⟨b, off + j, none⟩ = some (f j) := fun j hj => by
            obtain ⟨x, hx, _⟩ := hex j hj
            simp [f, hx]
          have hl : ∀ w', Ext w w' → (loadCells ⟨b, off, none⟩ n).run P w' = .ok ((List.range n).map f).toArray w' := fun w' hw => by
            have := run_loadCells_list (P := P) w' ⟨b, off, none⟩ ((List.range n).map f) (fun j v hv => by
              rw [Addr.add_mid]
              simp at hv
              obtain ⟨a, ha, rfl⟩ := hv
              obtain ⟨h1, rfl⟩ := List.getElem?_eq_some_iff.1 ha
              simp at h1 ⊢
              exact hw _ _ _ (hf j h1))
            simpa using this
          refine ⟨.agg ((List.range n).map f).toArray, fun w' hw => ?_, .ag (by simp; omega) fun j a x hj hx => ?_⟩
          · simp [loadVar, run_isAgg' hr, run_sizeOf' hs, hl w' hw]
          · have hjn : j < n := by
              have := (List.getElem?_eq_some_iff.1 hj).1
              simp at this; omega
            obtain ⟨x', hx', a', ha', hrep⟩ := hex j hjn
            rw [List.getElem?_take_of_lt hjn] at hj
            rw [hj] at ha'
            injection ha' with ha'
            subst ha'
            simp [hjn, f, hx'] at hx
            subst hx
            exact hrep
        · cases h
end
end Go.Proofs.YtogmppcfopgkdaaGreatDoor

/- The abstract machine, part 3: addresses, parts, slices; the quiet operations. No program is named here. -/
namespace Go.Proofs.YtogmppcfopgkdaaGreatDoor
open Go.RowKit
set_option linter.unusedVariables false
set_option linter.unusedSimpArgs false

section
variable {P : Program} {w : World} {bad : Nat → Prop} {ρ : Nat → Loc} {hp : Hp}
/-! ### Loads -/
def qLoad (P : Program) (hp : Hp) (t : TypeId) : AV → Option AV
  | .pt k off => (look hp k).bind fun cs => qCells P t (cs.drop off)
  | .rp cs => qCells P t cs
  | .v (.pointer (some ⟨b, o, none⟩)) => qCells P t (((gVal b).drop o).map .v)
  | _ => none
theorem qLoad_vp (t : TypeId) (b o : Nat) : qLoad P hp t (.v (.pointer (some ⟨b, o, none⟩))) = qCells P t (((gVal b).drop o).map .v) := rfl
theorem qLoad_v {t : TypeId} {x : Value} {y : AV} (h : qLoad P hp t (.v x) = some y) : ∃ b o, x = .pointer (some ⟨b, o, none⟩) ∧ qCells P t (((gVal b).drop o).map .v) = some y := by
  unfold qLoad at h
  split at h
  · next e => cases e
  · next e => cases e
  · next e => injection e with e; exact ⟨_, _, e, h⟩
  · cases h
theorem qLoad_pt (t : TypeId) (k off : Nat) : qLoad P hp t (.pt k off) = (look hp k).bind fun cs => qCells P t (cs.drop off) := rfl
theorem qLoad_rp (t : TypeId) (cs : List AV) : qLoad P hp t (.rp cs) = qCells P t cs := rfl
theorem qLoad_sound {av : Nat → Prop} (hG : Glob w) (h : ∀ k cs, look hp k = some cs → ObjR w av ρ (ρ k) cs) {t : TypeId} {p y : AV} {v : Value} (hx : Rep w av ρ p v) (hq : qLoad P hp t p = some y) :
    ∃ u, (∀ w', Ext w w' → (Instr.loadAt t v).run P w' = .ok u w') ∧ Rep w av ρ y u := by
  cases p with
  | pt k off =>
    rw [qLoad_pt, Option.bind_eq_some_iff] at hq
    obtain ⟨cs, hk, hq⟩ := hq
    rw [hx.pt_inv]
    obtain ⟨u, hu, hr⟩ := qCells_sound (w := w) (av := av) (ρ := ρ) (b := (ρ k).g) (off := (ρ k).off + off) hq (fun j a hj => by
      rw [List.getElem?_drop] at hj
      rw [Nat.add_assoc]
      exact (h k cs hk).cells (off + j) a hj)
    exact ⟨u, fun w' hw => by simp [Instr.loadAt, Instr.sureAddr, hu w' hw], hr⟩
  | rp cs =>
    rw [qLoad_rp] at hq
    obtain ⟨b, off, u, rfl, hb, hl, hc, hr⟩ := hx.rp_inv
    obtain ⟨v, hv, hrep⟩ := qCells_sound (w := w) (av := av) (ρ := ρ) (b := b) (off := off) hq (fun j a hj => ⟨u j, hc j (List.getElem?_eq_some_iff.1 hj).1, .im (hr j a hj)⟩)
    exact ⟨v, fun w' hw => by simp [Instr.loadAt, Instr.sureAddr, hv w' hw], hrep⟩
  | v x =>
    obtain ⟨b, o, rfl, hq⟩ := qLoad_v hq
    rw [hx.v_eq]
    obtain ⟨v, hv, hrep⟩ := qCells_sound (w := w) (av := av) (ρ := ρ) (b := b) (off := o) hq (fun j a hj => by
      rw [List.getElem?_map, List.getElem?_drop, Option.map_eq_some_iff] at hj
      obtain ⟨x, hx, rfl⟩ := hj
      exact ⟨x, hG.cell hx, .im (.v _)⟩)
    exact ⟨v, fun w' hw => by simp [Instr.loadAt, Instr.sureAddr, hv w' hw], hrep⟩
  | _ => simp [qLoad] at hq

/-! ### The address of a field -/
def qFld (P : Program) (s : TypeId) (f : Nat) : AV → Option AV
  | .pt k off => (fldT P s f).map fun o => .pt k (off + o.1)
  | .rp cs => (fldT P s f).map fun o => .rp (cs.drop o.1)
  | .v (.pointer (some ⟨b, o', none⟩)) => (fldT P s f).map fun o => .v (.pointer (some ⟨b, o' + o.1, none⟩))
  | _ => none
theorem qFld_vp (s : TypeId) (f b o' : Nat) : qFld P s f (.v (.pointer (some ⟨b, o', none⟩))) = (fldT P s f).map fun o => .v (.pointer (some ⟨b, o' + o.1, none⟩)) := rfl
theorem qFld_v {s : TypeId} {f : Nat} {x : Value} {y : AV} (h : qFld P s f (.v x) = some y) : ∃ b o' o, x = .pointer (some ⟨b, o', none⟩) ∧ fldT P s f = some o ∧ y = .v (.pointer (some ⟨b, o' + o.1, none⟩)) := by
  unfold qFld at h
  split at h
  · next e => cases e
  · next e => cases e
  · next e =>
    injection e with e
    obtain ⟨o, ho, rfl⟩ := Option.map_eq_some_iff.1 h
    exact ⟨_, _, o, e, ho, rfl⟩
  · cases h
theorem qFld_pt (s : TypeId) (f k off : Nat) : qFld P s f (.pt k off) = (fldT P s f).map fun o => .pt k (off + o.1) := rfl
theorem qFld_rp (s : TypeId) (f : Nat) (cs : List AV) : qFld P s f (.rp cs) = (fldT P s f).map fun o => .rp (cs.drop o.1) := rfl
theorem fldT_run {s : TypeId} {f : Nat} {o : Nat × TypeId} (h : fldT P s f = some o) : ∃ fs fd n, P.underlying s = some (.struct fs) ∧ fs[f]? = some fd ∧ szT P fd.type = some (n + 1) ∧ o = (fd.offset, fd.type) := by
  unfold fldT at h
  split at h
  · next fs hu =>
    rw [Option.bind_eq_some_iff] at h
    obtain ⟨fd, hf, h⟩ := h
    split at h
    · next n hn => injection h with h; exact ⟨fs, fd, n, hu, hf, hn, h.symm⟩
    · cases h
  · cases h
theorem run_fieldAt' {w : World} {s : TypeId} {f : Nat} {o : Nat × TypeId} (h : fldT P s f = some o) (b off : Nat) : (Instr.fieldAt s (.pointer (some ⟨b, off, none⟩)) f).run P w = .ok (.pointer (some ⟨b, off + o.1, none⟩)) w := by
  obtain ⟨fs, fd, n, hu, hf, hn, rfl⟩ := fldT_run h
  simp [Instr.fieldAt, run_underlying hu, hf, Instr.sureAddr, fieldPlace, run_sizeOf' hn, Addr.add_mid]
theorem RepI.dropc {av : Nat → Prop} {cs : List AV} {u : Nat → Value} (hr : ∀ j a, cs[j]? = some a → RepI w av a (u j)) (o : Nat) : ∀ j a, (cs.drop o)[j]? = some a → RepI w av a (u (o + j)) := fun j a hj => by
  rw [List.getElem?_drop] at hj
  exact hr (o + j) a hj
theorem Rep.rp_drop {av : Nat → Prop} {cs : List AV} {b off : Nat} {u : Nat → Value} (hb : ¬ av b) (hl : b < w.heap.size) (hc : ∀ j, j < cs.length → w.cell? ⟨b, off + j, none⟩ = some (u j)) (hr : ∀ j a, cs[j]? = some a → RepI w av a (u j)) (o : Nat) :
    Rep w av ρ (.rp (cs.drop o)) (.pointer (some ⟨b, off + o, none⟩)) :=
  .rp (fun j => u (o + j)) hb hl (fun j hj => by rw [Nat.add_assoc]; exact hc (o + j) (by simp at hj; omega)) (RepI.dropc hr o)
theorem qFld_sound {av : Nat → Prop} {s : TypeId} {f : Nat} {p y : AV} {v : Value} (hx : Rep w av ρ p v) (hq : qFld P s f p = some y) : ∃ u, (∀ w', (Instr.fieldAt s v f).run P w' = .ok u w') ∧ Rep w av ρ y u := by
  cases p with
  | pt k off =>
    rw [qFld_pt, Option.map_eq_some_iff] at hq
    obtain ⟨o, ho, rfl⟩ := hq
    rw [hx.pt_inv]
    refine ⟨_, fun w' => run_fieldAt' ho _ _, ?_⟩
    rw [Nat.add_assoc]
    exact .pt
  | rp cs =>
    rw [qFld_rp, Option.map_eq_some_iff] at hq
    obtain ⟨o, ho, rfl⟩ := hq
    obtain ⟨b, off, u, rfl, hb, hl, hc, hr⟩ := hx.rp_inv
    exact ⟨_, fun w' => run_fieldAt' ho _ _, Rep.rp_drop hb hl hc hr _⟩
  | v x =>
    obtain ⟨b, o', o, rfl, ho, rfl⟩ := qFld_v hq
    rw [hx.v_eq]
    exact ⟨_, fun w' => run_fieldAt' ho _ _, .im (.v _)⟩
  | _ => simp [qFld] at hq

/-! ### A part of a struct -/
def qPart (P : Program) (s : TypeId) (f : Nat) : AV → Option AV
  | .ag cs => (fldT P s f).bind fun o => qCells P o.2 (cs.drop o.1)
  | _ => none
theorem qPart_ag (s : TypeId) (f : Nat) (cs : List AV) : qPart P s f (.ag cs) = (fldT P s f).bind fun o => qCells P o.2 (cs.drop o.1) := rfl
theorem qPart_sound {av : Nat → Prop} {s : TypeId} {f : Nat} {p y : AV} {v : Value} (hx : Rep w av ρ p v) (hq : qPart P s f p = some y) : ∃ u, (∀ w', (Instr.field s v f).run P w' = .ok u w') ∧ Rep w av ρ y u := by
  cases p with
  | ag cs =>
    rw [qPart_ag, Option.bind_eq_some_iff] at hq
    obtain ⟨o, ho, hq⟩ := hq
    obtain ⟨fs, fd, n, hu, hf, hn, rfl⟩ := fldT_run ho
    obtain ⟨us, rfl, hsz, hr⟩ := hx.ag_inv
    simp only at hq
    unfold qCells at hq
    cases hrow : rowT P fd.type with
    | none => simp [hrow] at hq
    | some r =>
      rw [hrow] at hq
      cases r with
      | false =>
        simp only [List.getElem?_drop, Nat.add_zero] at hq
        have hlt : fd.offset < us.size := by rw [hsz]; exact (List.getElem?_eq_some_iff.1 hq).1
        refine ⟨us[fd.offset], fun w' => ?_, hr _ _ _ hq (by simp [hlt])⟩
        simp [Instr.field, run_underlying hu, hf, asAgg, part, run_isAgg' hrow, hlt]
      | true =>
        simp only [hn] at hq
        split at hq
        · next hle =>
          injection hq with hq
          subst hq
          simp at hle
          refine ⟨.agg (us.extract fd.offset (fd.offset + (n + 1))), fun w' => ?_, .ag (by simp; omega) fun j a x hj hx => ?_⟩
          · simp [Instr.field, run_underlying hu, hf, asAgg, part, run_isAgg' hrow, run_sizeOf' hn]
          · rw [List.getElem?_take] at hj
            split at hj
            · rw [List.getElem?_drop] at hj
              rw [Array.getElem?_extract] at hx
              split at hx
              · exact hr _ _ _ hj hx
              · cases hx
            · cases hj
        · cases hq
  | _ => simp [qPart] at hq

/-! ### The address of an element -/
def qIdx (P : Program) (t : TypeId) (x : AV) (i : Int) : Option AV :=
  match x with
  | .rd n cs => (elT P t).bind fun e => if 0 ≤ i ∧ i < n then some (.rp (cs.drop (i.toNat * e.2.1))) else none
  | .os k off sz n => (elT P t).bind fun e => if sz = e.2.1 ∧ 0 ≤ i ∧ i < n then some (.pt k (off + i.toNat * sz)) else none
  | .pt k off => (arT P t).bind fun e => if 0 ≤ i ∧ i < e.1 then some (.pt k (off + i.toNat * e.2.2)) else none
  | .rp cs => (arT P t).bind fun e => if 0 ≤ i ∧ i < e.1 then some (.rp (cs.drop (i.toNat * e.2.2))) else none
  | .v (.pointer (some ⟨b, o, none⟩)) => (arT P t).bind fun e => if 0 ≤ i ∧ i < e.1 then some (.v (.pointer (some ⟨b, o + i.toNat * e.2.2, none⟩))) else none
  | _ => none
theorem qIdx_v {t : TypeId} {x : Value} {i : Int} {y : AV} (h : qIdx P t (.v x) i = some y) : ∃ b o e, x = .pointer (some ⟨b, o, none⟩) ∧ arT P t = some e ∧ 0 ≤ i ∧ i < e.1 ∧ y = .v (.pointer (some ⟨b, o + i.toNat * e.2.2, none⟩)) := by
  unfold qIdx at h
  split at h
  · next e => cases e
  · next e => cases e
  · next e => cases e
  · next e => cases e
  · next e =>
    injection e with e
    rw [Option.bind_eq_some_iff] at h
    obtain ⟨o, ho, h⟩ := h
    split at h
    · next hi => injection h with h; exact ⟨_, _, o, e, ho, hi.1, hi.2, h.symm⟩
    · cases h
  · cases h
theorem elT_run {t : TypeId} {e : TypeId × Nat × Nat} (h : elT P t = some e) : P.underlying t = some (.slice e.1) ∧ szT P e.1 = some e.2.1 ∧ 0 < e.2.1 ∧ SlTy P t e.1 e.2.1 e.2.2 := by
  unfold elT at h
  split at h
  · next e' hu =>
    rw [Option.bind_eq_some_iff] at h
    obtain ⟨i, hi, h⟩ := h
    split at h
    · next hp =>
      injection h with h
      subst h
      obtain ⟨z, hz, hzs⟩ := Option.map_eq_some_iff.1 hp.2
      exact ⟨hu, by simp [szT, hi], hp.1, ⟨⟨i, z, hu, hi, hz, rfl, rfl, hzs⟩, hp.1⟩⟩
    · cases h
  · cases h
theorem arT_run {t : TypeId} {e : Nat × TypeId × Nat} (h : arT P t = some e) : P.underlying t = some (.array e.1 e.2.1) ∧ szT P e.2.1 = some e.2.2 := by
  unfold arT at h
  split at h
  · next n e' hu =>
    rw [Option.map_eq_some_iff] at h
    obtain ⟨s, hs, rfl⟩ := h
    exact ⟨hu, hs⟩
  · cases h
theorem qIdx_sound {av : Nat → Prop} {t : TypeId} {x y : AV} {v : Value} {ik : IntKind} {i : Int} (hx : Rep w av ρ x v) (hq : qIdx P t x i = some y) : ∃ u, (∀ w', (Instr.indexAt t v (.int ik i)).run P w' = .ok u w') ∧ Rep w av ρ y u := by
  cases x with
  | rd n cs =>
    simp only [qIdx, Option.bind_eq_some_iff] at hq
    obtain ⟨e, he, hq⟩ := hq
    split at hq
    · next hi =>
      injection hq with hq
      subst hq
      obtain ⟨hu, hs, -⟩ := elT_run he
      obtain ⟨A, c, u, rfl, h1, h2, h0, hm, hr⟩ := hx.rd_inv
      obtain ⟨b, off, rfl, hb, hl, hc⟩ := hm (by omega)
      refine ⟨_, fun w' => ?_, Rep.rp_drop hb hl hc hr (i.toNat * e.2.1)⟩
      simp [Instr.indexAt, asIntOf, run_underlying hu, hi.1, hi.2, run_sizeOf' hs, Addr.add_mid]
    · cases hq
  | os k off sz n =>
    simp only [qIdx, Option.bind_eq_some_iff] at hq
    obtain ⟨e, he, hq⟩ := hq
    split at hq
    · next hi =>
      injection hq with hq
      subst hq
      obtain ⟨hu, hs, -⟩ := elT_run he
      obtain ⟨A, c, rfl, hsz, h1, h2, h⟩ := hx.os_inv
      obtain ⟨rfl, hcap⟩ := h (by omega)
      refine ⟨.pointer (some ⟨(ρ k).g, (ρ k).off + (off + i.toNat * sz), none⟩), fun w' => ?_, .pt⟩
      rw [hi.1]
      simp [Instr.indexAt, asIntOf, run_underlying hu, hi.2.1, hi.2.2, run_sizeOf' hs, Addr.add_mid, Nat.add_assoc]
    · cases hq
  | pt k off =>
    simp only [qIdx, Option.bind_eq_some_iff] at hq
    obtain ⟨e, he, hq⟩ := hq
    split at hq
    · next hi =>
      injection hq with hq
      subst hq
      obtain ⟨hu, hs⟩ := arT_run he
      rw [hx.pt_inv]
      refine ⟨.pointer (some ⟨(ρ k).g, (ρ k).off + (off + i.toNat * e.2.2), none⟩), fun w' => ?_, .pt⟩
      simp [Instr.indexAt, Instr.sureAddr, asIntOf, run_underlying hu, hi.1, hi.2, run_sizeOf' hs, Addr.add_mid, Nat.add_assoc]
    · cases hq
  | rp cs =>
    simp only [qIdx, Option.bind_eq_some_iff] at hq
    obtain ⟨e, he, hq⟩ := hq
    split at hq
    · next hi =>
      injection hq with hq
      subst hq
      obtain ⟨hu, hs⟩ := arT_run he
      obtain ⟨b, off, u, rfl, hb, hl, hc, hr⟩ := hx.rp_inv
      refine ⟨_, fun w' => ?_, Rep.rp_drop hb hl hc hr (i.toNat * e.2.2)⟩
      simp [Instr.indexAt, Instr.sureAddr, asIntOf, run_underlying hu, hi.1, hi.2, run_sizeOf' hs, Addr.add_mid]
    · cases hq
  | v x =>
    obtain ⟨b, o, e, rfl, he, h0, h1, rfl⟩ := qIdx_v hq
    obtain ⟨hu, hs⟩ := arT_run he
    rw [hx.v_eq]
    refine ⟨_, fun w' => ?_, .im (.v _)⟩
    simp [Instr.indexAt, Instr.sureAddr, asIntOf, run_underlying hu, h0, h1, run_sizeOf' hs, Addr.add_mid]
  | _ => simp [qIdx] at hq

/-! ### Slices of slices -/
def ib (x : Option AV) (d : Int) : Option Int :=
  match x with
  | none => some d
  | some (.v (.int _ n)) => some n
  | _ => none
theorem ib_none (d : Int) : ib none d = some d := rfl
theorem ib_some (k : IntKind) (n d : Int) : ib (some (.v (.int k n))) d = some n := rfl
/-- x[l:h], x[l:h:m]: the bounds are within the length. -/
def qSl (P : Program) (t : TypeId) (x : AV) (l h m : Int) : Option AV :=
  match x with
  | .rd n cs => (elT P t).bind fun e => if 0 ≤ l ∧ l ≤ h ∧ h ≤ m ∧ m ≤ n then some (.rd (h.toNat - l.toNat) ((cs.drop (l.toNat * e.2.1)).take ((h.toNat - l.toNat) * e.2.1))) else none
  | .os k off sz n => (elT P t).bind fun e => if sz = e.2.1 ∧ 0 ≤ l ∧ l ≤ h ∧ h ≤ m ∧ m ≤ n then some (.os k (off + l.toNat * sz) sz (h.toNat - l.toNat)) else none
  | _ => none
def lenA : AV → Option Nat
  | .rd n _ => some n
  | .os _ _ _ n => some n
  | .v (.slice none 0 0) => some 0
  | _ => none
def qSlice (P : Program) (t : TypeId) (x : AV) (lo hi mx : Option AV) : Option AV :=
  (lenA x).bind fun n => (ib lo 0).bind fun l => (ib hi n).bind fun h => (ib mx n).bind fun m => if mx.isSome ∧ hi.isNone then none else qSl P t x l h m
theorem run_bounds {w : World} {len cap : Nat} {lo hi mx : Option Value} {l h m : Int} (hl : lo = none ∧ l = 0 ∨ ∃ k, lo = some (.int k l)) (hh : hi = none ∧ h = len ∧ mx = none ∨ ∃ k, hi = some (.int k h)) (hm : mx = none ∧ m = cap ∨ ∃ k, mx = some (.int k m))
    (h0 : 0 ≤ l) (h1 : l ≤ h) (h2 : h ≤ m) (h3 : m ≤ cap) : (Instr.sliceBounds true len cap lo hi mx).run P w = .ok (l.toNat, h.toNat, m.toNat) w := by
  have em : (m.toNat : Int) = m := Int.toNat_of_nonneg (by omega)
  have eh : (h.toNat : Int) = h := Int.toNat_of_nonneg (by omega)
  have p1 : 0 ≤ h := by omega
  have p2 : 0 ≤ m := by omega
  rcases hm with ⟨rfl, rfl⟩ | ⟨km, rfl⟩ <;> rcases hh with ⟨rfl, rfl, hh⟩ | ⟨kh, rfl⟩ <;> rcases hl with ⟨rfl, rfl⟩ | ⟨kl, rfl⟩ <;> first
    | (cases hh; done)
    | simp [Instr.sliceBounds, run_sliceBound, *]
theorem ib_spec {av : Nat → Prop} {x : Option AV} {v : Option Value} {d n : Int} (h : ib x d = some n) (hn : x = none → v = none) (hs : ∀ y, x = some y → ∃ u, v = some u ∧ Rep w av ρ y u) : (v = none ∧ x = none ∧ n = d) ∨ ∃ k, v = some (.int k n) ∧ x.isSome := by
  cases x with
  | none => simp only [ib, Option.some.injEq] at h; exact .inl ⟨hn rfl, rfl, h.symm⟩
  | some y =>
    obtain ⟨u, rfl, hr⟩ := hs y rfl
    cases y with
    | v z =>
      cases z with
      | int k m =>
        simp only [ib, Option.some.injEq] at h
        subst h
        rw [hr.v_eq]
        exact .inr ⟨k, rfl, rfl⟩
      | _ => simp [ib] at h
    | _ => simp [ib] at h
theorem qSlice_sound {av : Nat → Prop} {t : TypeId} {x y : AV} {v : Value} {lo hi mx : Option AV} {vl vh vm : Option Value} (hx : Rep w av ρ x v) (hq : qSlice P t x lo hi mx = some y)
    (l1 : lo = none → vl = none) (l2 : ∀ y, lo = some y → ∃ u, vl = some u ∧ Rep w av ρ y u) (h1 : hi = none → vh = none) (h2 : ∀ y, hi = some y → ∃ u, vh = some u ∧ Rep w av ρ y u)
    (m1 : mx = none → vm = none) (m2 : ∀ y, mx = some y → ∃ u, vm = some u ∧ Rep w av ρ y u) : ∃ u, (∀ w', (Instr.sliceAt t v vl vh vm).run P w' = .ok u w') ∧ Rep w av ρ y u := by
  simp only [qSlice, Option.bind_eq_some_iff] at hq
  obtain ⟨n, hn, l, hl, h, hh, m, hm, hq⟩ := hq
  split at hq
  · cases hq
  · next hmx =>
    have hl' := ib_spec (w := w) (av := av) (ρ := ρ) hl l1 l2
    have hh' := ib_spec (w := w) (av := av) (ρ := ρ) hh h1 h2
    have hm' := ib_spec (w := w) (av := av) (ρ := ρ) hm m1 m2
    have ho : ∀ c : Nat, (vm = none → m ≤ (n : Int)) → True := fun _ _ => trivial
    cases x with
    | rd n' cs =>
      simp only [lenA, Option.some.injEq] at hn
      subst hn
      simp only [qSl, Option.bind_eq_some_iff] at hq
      obtain ⟨e, he, hq⟩ := hq
      split at hq
      · next hc =>
        injection hq with hq
        subst hq
        obtain ⟨hu, hs, hsp, -⟩ := elT_run he
        obtain ⟨A, c, u, rfl, g1, g2, g0, gm, gr⟩ := hx.rd_inv
        have key : ∀ M : Int, (vm = none ∧ M = c ∨ ∃ k, vm = some (.int k M)) → h ≤ M → M ≤ c → ∀ w' : World, (Instr.sliceAt t (.slice A n' c) vl vh vm).run P w' = .ok (.slice (if M.toNat = l.toNat then A else A.map (·.add (l.toNat * e.2.1))) (h.toNat - l.toNat) (M.toNat - l.toNat)) w' := fun M hM q1 q2 w' => by
          have hb := run_bounds (P := P) (w := w') (len := n') (cap := c) (lo := vl) (hi := vh) (mx := vm) (l := l) (h := h) (m := M)
            (hl'.imp (fun r => ⟨r.1, r.2.2⟩) (fun ⟨k, r, _⟩ => ⟨k, r⟩))
            (by
              rcases hh' with ⟨r1, r2, r3⟩ | ⟨k, r1, r2⟩
              · refine .inl ⟨r1, r3, ?_⟩
                cases mx with
                | none => exact m1 rfl
                | some _ => exact absurd ⟨rfl, by simp [r2]⟩ hmx
              · exact .inr ⟨k, r1⟩) hM hc.1 hc.2.1 q1 q2
          simp [Instr.sliceAt, Instr.slice, run_underlying hu, hb, run_sizeOf' hs]
        have fin : ∀ M : Nat, h.toNat ≤ M → M ≤ c → RepI w av (.rd (h.toNat - l.toNat) ((cs.drop (l.toNat * e.2.1)).take ((h.toNat - l.toNat) * e.2.1))) (.slice (if M = l.toNat then A else A.map (·.add (l.toNat * e.2.1))) (h.toNat - l.toNat) (M - l.toNat)) := fun M q1 q2 => by
          clear hl' hh' hm' key
          refine .rd (fun j => u (l.toNat * e.2.1 + j)) (by omega) (by omega) (fun h0 => by rw [h0]; simp) (fun hp => ?_) (fun j a hj => ?_)
          · have hn0 : 0 < n' := by omega
            obtain ⟨b, off, rfl, hb, hlt, hcell⟩ := gm hn0
            clear gm
            have hne : ¬ M = l.toNat := by omega
            rw [if_neg hne]
            refine ⟨b, off + l.toNat * e.2.1, by simp [Addr.add_mid], hb, hlt, fun j hj => ?_⟩
            rw [Nat.add_assoc]
            exact hcell _ (by simp at hj; omega)
          · rw [List.getElem?_take] at hj
            split at hj
            · rw [List.getElem?_drop] at hj; exact gr _ a hj
            · cases hj
        rcases hm' with ⟨r1, r2, r3⟩ | ⟨k, r1, r2⟩
        · exact ⟨_, key c (.inl ⟨r1, rfl⟩) (by omega) (by omega), .im (by have := fin c (by omega) (by omega); simpa using this)⟩
        · exact ⟨_, key m (.inr ⟨k, r1⟩) (by omega) (by omega), .im (fin m.toNat (by omega) (by omega))⟩
      · cases hq
    | os k off sz n' =>
      simp only [lenA, Option.some.injEq] at hn
      subst hn
      simp only [qSl, Option.bind_eq_some_iff] at hq
      obtain ⟨e, he, hq⟩ := hq
      split at hq
      · next hc =>
        injection hq with hq
        subst hq
        obtain ⟨hu, hs, hsp, -⟩ := elT_run he
        obtain ⟨A, c, rfl, gs, g1, g2, gm⟩ := hx.os_inv
        obtain ⟨hsz, hc⟩ := hc
        have key : ∀ M : Int, (vm = none ∧ M = c ∨ ∃ k, vm = some (.int k M)) → h ≤ M → M ≤ c → ∀ w' : World, (Instr.sliceAt t (.slice A n' c) vl vh vm).run P w' = .ok (.slice (if M.toNat = l.toNat then A else A.map (·.add (l.toNat * e.2.1))) (h.toNat - l.toNat) (M.toNat - l.toNat)) w' := fun M hM q1 q2 w' => by
          have hb := run_bounds (P := P) (w := w') (len := n') (cap := c) (lo := vl) (hi := vh) (mx := vm) (l := l) (h := h) (m := M)
            (hl'.imp (fun r => ⟨r.1, r.2.2⟩) (fun ⟨k, r, _⟩ => ⟨k, r⟩))
            (by
              rcases hh' with ⟨r1, r2, r3⟩ | ⟨k, r1, r2⟩
              · refine .inl ⟨r1, r3, ?_⟩
                cases mx with
                | none => exact m1 rfl
                | some _ => exact absurd ⟨rfl, by simp [r2]⟩ hmx
              · exact .inr ⟨k, r1⟩) hM hc.1 hc.2.1 q1 q2
          simp [Instr.sliceAt, Instr.slice, run_underlying hu, hb, run_sizeOf' hs]
        have fin : ∀ M : Nat, h.toNat ≤ M → M ≤ c → Rep w av ρ (.os k (off + l.toNat * sz) sz (h.toNat - l.toNat)) (.slice (if M = l.toNat then A else A.map (·.add (l.toNat * e.2.1))) (h.toNat - l.toNat) (M - l.toNat)) := fun M q1 q2 => by
          clear hl' hh' hm' key
          refine .os gs (by omega) (by omega) (fun hp => ?_)
          obtain ⟨rfl, hcap⟩ := gm (by omega)
          rw [if_neg (by omega)]
          refine ⟨by simp [Addr.add_mid, hsz, Nat.add_assoc], ?_⟩
          have : (l.toNat + (M - l.toNat)) * sz ≤ c * sz := Nat.mul_le_mul_right _ (by omega)
          rw [Nat.add_mul] at this
          omega
        rcases hm' with ⟨r1, r2, r3⟩ | ⟨k, r1, r2⟩
        · exact ⟨_, key c (.inl ⟨r1, rfl⟩) (by omega) (by omega), by have := fin c (by omega) (by omega); simpa using this⟩
        · exact ⟨_, key m (.inr ⟨k, r1⟩) (by omega) (by omega), fin m.toNat (by omega) (by omega)⟩
      · cases hq
    | _ => simp [qSl] at hq
end
end Go.Proofs.YtogmppcfopgkdaaGreatDoor

/- The abstract machine, part 4: structs built, bytes made strings; all quiet operations. No program is named here. -/
namespace Go.Proofs.YtogmppcfopgkdaaGreatDoor
open Go.RowKit
set_option linter.unusedVariables false
set_option linter.unusedSimpArgs false

/-! ### The cells of a value -/
def cellsA : AV → Option (List AV)
  | .ag cs => some cs
  | .v (.agg _) => none
  | .v x => some [.v x]
  | .rd n cs => some [.rd n cs]
  | .os k o s n => some [.os k o s n]
  | .pt k o => some [.pt k o]
  | .rp cs => some [.rp cs]
  | .sp k => some [.sp k]
  | .fn f cs => some [.fn f cs]
  | _ => none
def okC : AV → Bool
  | .v x => x.oneCell'
  | .rd .. => true
  | .os .. => true
  | .pt .. => true
  | .rp .. => true
  | .sp .. => true
  | .fn .. => true
  | _ => false
theorem cellsA_ag (cs : List AV) : cellsA (.ag cs) = some cs := rfl
theorem cellsA_int (k : IntKind) (n : Int) : cellsA (.v (.int k n)) = some [.v (.int k n)] := rfl
theorem cellsA_bool (b : Bool) : cellsA (.v (.bool b)) = some [.v (.bool b)] := rfl
theorem cellsA_string (b : ByteArray) : cellsA (.v (.string b)) = some [.v (.string b)] := rfl
theorem cellsA_slice (a : Option Addr) (n c : Nat) : cellsA (.v (.slice a n c)) = some [.v (.slice a n c)] := rfl
theorem cellsA_rd (n : Nat) (cs : List AV) : cellsA (.rd n cs) = some [.rd n cs] := rfl
theorem cellsA_os (k o s n : Nat) : cellsA (.os k o s n) = some [.os k o s n] := rfl
theorem cellsA_pt (k o : Nat) : cellsA (.pt k o) = some [.pt k o] := rfl
theorem cellsA_rp (cs : List AV) : cellsA (.rp cs) = some [.rp cs] := rfl
theorem cellsA_sp (k : Nat) : cellsA (.sp k) = some [.sp k] := rfl

def RepC (w : World) (av : Nat → Prop) (ρ : Nat → Loc) (cs : List AV) (us : Array Value) : Prop := us.size = cs.length ∧ ∀ (j : Nat) (a : AV) (x : Value), cs[j]? = some a → us[j]? = some x → Rep w av ρ a x
section
variable {P : Program} {w : World} {av : Nat → Prop} {ρ : Nat → Loc}
theorem RepC.one {a : AV} {x : Value} (h : Rep w av ρ a x) : RepC w av ρ [a] #[x] := ⟨rfl, fun j b y hj hy => by
  rcases j with _ | j
  · simp at hj hy; subst hj; subst hy; exact h
  · simp at hj⟩
theorem cellsA_sound {a : AV} {cs : List AV} {v : Value} (h : Rep w av ρ a v) (hc : cellsA a = some cs) : RepC w av ρ cs v.cells := by
  cases a with
  | ag cs' =>
    simp only [cellsA, Option.some.injEq] at hc
    subst hc
    obtain ⟨us, rfl, hn, hr⟩ := h.ag_inv
    exact ⟨hn, hr⟩
  | v x =>
    have := h.v_eq
    subst this
    cases v <;> simp only [cellsA, Option.some.injEq] at hc <;> first
      | (subst hc; exact RepC.one h)
      | (cases hc)
  | rd n cs' =>
    simp only [cellsA, Option.some.injEq] at hc
    subst hc
    obtain ⟨A, c, u, rfl, _⟩ := h.rd_inv
    exact RepC.one h
  | os k o s n =>
    simp only [cellsA, Option.some.injEq] at hc
    subst hc
    obtain ⟨A, c, rfl, _⟩ := h.os_inv
    exact RepC.one h
  | pt k o =>
    simp only [cellsA, Option.some.injEq] at hc
    subst hc
    have := h.pt_inv
    subst this
    exact RepC.one h
  | rp cs' =>
    simp only [cellsA, Option.some.injEq] at hc
    subst hc
    obtain ⟨b, off, u, rfl, _⟩ := h.rp_inv
    exact RepC.one h
  | sp k =>
    simp only [cellsA, Option.some.injEq] at hc
    subst hc
    rcases h.sp_inv with rfl | rfl <;> exact RepC.one h
  | fn f cs' =>
    simp only [cellsA, Option.some.injEq] at hc
    subst hc
    obtain ⟨us, rfl, _⟩ := h.fn_inv
    rw [(fnV_one _ _).2]
    exact RepC.one h
  | _ => simp [cellsA] at hc
theorem okC_sound {a : AV} {v : Value} (h : Rep w av ρ a v) (hc : okC a = true) : v.oneCell' = true := by
  cases a with
  | v x => rw [h.v_eq]; exact hc
  | rd n cs' => obtain ⟨A, c, u, rfl, _⟩ := h.rd_inv; rfl
  | os k o s n => obtain ⟨A, c, rfl, _⟩ := h.os_inv; rfl
  | pt k o => rw [h.pt_inv]; rfl
  | rp cs' => obtain ⟨b, off, u, rfl, _⟩ := h.rp_inv; rfl
  | sp k => rcases h.sp_inv with rfl | rfl <;> rfl
  | fn f cs' => obtain ⟨us, rfl, _⟩ := h.fn_inv; exact (fnV_one _ _).1
  | _ => simp [okC] at hc

/-! ### Cells are set -/
def setR {α : Type} : List α → Nat → List α → List α
  | cs, _, [] => cs
  | cs, o, x :: r => setR (cs.set o x) (o + 1) r
theorem setR_nil {α : Type} (cs : List α) (o : Nat) : setR cs o [] = cs := rfl
theorem setR_cons {α : Type} (cs : List α) (o : Nat) (x : α) (r : List α) : setR cs o (x :: r) = setR (cs.set o x) (o + 1) r := rfl
theorem setR_length {α : Type} : ∀ (r cs : List α) (o : Nat), (setR cs o r).length = cs.length
  | [], _, _ => rfl
  | x :: r, cs, o => by rw [setR_cons, setR_length r]; simp
theorem setR_get {α : Type} : ∀ (r cs : List α) (o j : Nat), o + r.length ≤ cs.length → (setR cs o r)[j]? = if o ≤ j ∧ j < o + r.length then r[j - o]? else cs[j]?
  | [], cs, o, j, _ => by rw [setR_nil, if_neg (by simp only [List.length_nil]; omega)]
  | x :: r, cs, o, j, h => by
    simp at h
    rw [setR_cons, setR_get r _ _ _ (by simp; omega)]
    by_cases h1 : o + 1 ≤ j ∧ j < o + 1 + r.length
    · rw [if_pos h1, if_pos (by simp; omega)]
      rw [show j - o = (j - (o + 1)) + 1 from by omega]
      simp
    · rw [if_neg h1]
      by_cases h2 : j = o
      · subst h2
        rw [if_pos (by simp), List.getElem?_set_self (by omega)]
        simp
      · rw [List.getElem?_set_ne (fun e => h2 e.symm), if_neg (by simp; omega)]
/-- The same on values. -/
theorem fold_set (off : Nat) : ∀ (l : List Value) (k : Nat) (us : Array Value), ((l.zipIdx k).foldl (fun cs (p : Value × Nat) => cs.setIfInBounds (off + p.2) p.1) us).toList = setR us.toList (off + k) l
  | [], _, us => rfl
  | x :: l, k, us => by
    rw [List.zipIdx_cons, List.foldl_cons, fold_set off l (k + 1), setR_cons, Array.toList_setIfInBounds]
    rfl
theorem RepC.set {cs xs : List AV} {us : Array Value} {v : Value} {off : Nat} (h : RepC w av ρ cs us) (hx : RepC w av ρ xs v.cells) (hl : off + xs.length ≤ cs.length) :
    RepC w av ρ (setR cs off xs) (v.cells.zipIdx.foldl (fun cs (p : Value × Nat) => cs.setIfInBounds (off + p.2) p.1) us) := by
  have e : (v.cells.zipIdx.foldl (fun cs (p : Value × Nat) => cs.setIfInBounds (off + p.2) p.1) us).toList = setR us.toList off v.cells.toList := by
    rw [← Array.foldl_toList, Array.toList_zipIdx, fold_set]
    rfl
  have hsz : v.cells.toList.length = xs.length := by rw [Array.length_toList]; exact hx.1
  refine ⟨?_, fun j a x hj hx' => ?_⟩
  · rw [← Array.length_toList, e, setR_length, setR_length, Array.length_toList]; exact h.1
  · rw [← Array.getElem?_toList, e, setR_get _ _ _ _ (by have := h.1; rw [hsz]; simp only [Array.length_toList]; omega), hsz] at hx'
    rw [setR_get _ _ _ _ hl] at hj
    split at hj
    · next hc => rw [if_pos hc, Array.getElem?_toList] at hx'; exact hx.2 _ _ _ hj hx'
    · next hc => rw [if_neg hc, Array.getElem?_toList] at hx'; exact h.2 _ _ _ hj hx'

/-! ### Structs built -/
def bldT (P : Program) (t : TypeId) : Option (List Value × List (Nat × Nat)) :=
  match P.info? t, P.underlying t with
  | some it, some (.struct fields) =>
    match it.zero, fields.toList.mapM (fun f => (P.info? f.type).map fun i => (f.offset, i.size)) with
    | some z, some places => some (z.cells.toList, places)
    | _, _ => none
  | _, _ => none
def aFill (pl : List (Nat × Nat)) (cells : List AV) : List (Nat × Option AV) → Option (List AV)
  | [] => some cells
  | (i, x) :: r => match pl[i]?, x.bind cellsA with
    | some (off, sz), some xs => if xs.length = sz ∧ off + sz ≤ cells.length then aFill pl (setR cells off xs) r else none
    | _, _ => none
theorem aFill_nil (pl : List (Nat × Nat)) (cells : List AV) : aFill pl cells [] = some cells := rfl
theorem aFill_len (pl : List (Nat × Nat)) : ∀ {cells out : List AV} (parts : List (Nat × Option AV)), aFill pl cells parts = some out → out.length = cells.length
  | cells, out, [], h => by simp only [aFill, Option.some.injEq] at h; rw [h]
  | cells, out, (i, x) :: r, h => by
    simp only [aFill] at h
    split at h
    · split at h
      · rw [aFill_len pl r h, setR_length]
      · cases h
    · cases h
def qBuild (P : Program) (t : TypeId) (parts : List (Nat × Option AV)) : Option AV := (bldT P t).bind fun b => (aFill b.2 (b.1.map .v) parts).map .ag
theorem aFill_sound (pl : List (Nat × Nat)) (place : Nat → Option (Nat × Nat)) (hpl : ∀ (i : Nat) (p : Nat × Nat), pl[i]? = some p → place i = some p) : ∀ (parts : List (Nat × Option AV)) (vals : List (Nat × Value)) (cells out : List AV) (us : Array Value), aFill pl cells parts = some out → RepC w av ρ cells us →
    parts.length = vals.length → (∀ (j : Nat) (p : Nat × Option AV) (q : Nat × Value), parts[j]? = some p → vals[j]? = some q → p.1 = q.1 ∧ ∀ x, p.2 = some x → Rep w av ρ x q.2) →
    ∃ us', Instr.fill place us vals = some us' ∧ RepC w av ρ out us'
  | [], vals, cells, out, us, h, hr, hl, _ => by
    have : vals = [] := List.eq_nil_of_length_eq_zero (by simpa using hl.symm)
    subst this
    simp only [aFill, Option.some.injEq] at h
    subst h
    exact ⟨us, rfl, hr⟩
  | (i, x) :: r, vals, cells, out, us, h, hr, hl, hv => by
    cases vals with
    | nil => simp at hl
    | cons q vals =>
      obtain ⟨i', v⟩ := q
      obtain ⟨h1, h2⟩ := hv 0 (i, x) (i', v) rfl rfl
      simp only at h1 h2
      subst h1
      simp only [aFill] at h
      split at h
      · next off sz xs hp hx =>
        rw [Option.bind_eq_some_iff] at hx
        obtain ⟨y, rfl, hy⟩ := hx
        split at h
        · next hc =>
          have hcs := cellsA_sound (h2 y rfl) hy
          have hle : off + xs.length ≤ cells.length := by rw [hc.1]; exact hc.2
          obtain ⟨us', hf, hr'⟩ := aFill_sound pl place hpl r vals _ out _ h (RepC.set hr hcs hle) (by simpa using hl) (fun j p q hp hq => hv (j + 1) p q hp hq)
          refine ⟨us', ?_, hr'⟩
          simp only [Instr.fill]
          rw [hpl i (off, sz) hp]
          simp only
          rw [if_neg (by
            have := hcs.1; have := hr.1
            simp; omega)]
          exact hf
        · cases h
      · cases h
theorem qBuild_sound {t : TypeId} {parts : Array (Nat × Operand)} {g : Operand → Option AV} {ev : Operand → Value} {y : AV} (h : qBuild P t (parts.toList.map fun p => (p.1, g p.2)) = some y) (hg : ∀ x a, g x = some a → Rep w av ρ a (ev x)) :
    ∃ v, (∀ w', (Instr.build t (parts.map fun (i, x) => (i, ev x))).run P w' = .ok v w') ∧ Rep w av ρ y v := by
  simp only [qBuild, Option.bind_eq_some_iff, Option.map_eq_some_iff] at h
  obtain ⟨b, hb, cells, hf, rfl⟩ := h
  unfold bldT at hb
  split at hb
  · next it fields hi hu =>
    split at hb
    · next z places hz hp =>
      injection hb with hb
      subst hb
      have h0 : RepC w av ρ (z.cells.toList.map .v) z.cells := ⟨by simp, fun j a x hj hx => by
        simp at hj
        obtain ⟨y, hy, rfl⟩ := hj
        rw [hy] at hx
        injection hx with hx
        subst hx
        exact .im (.v _)⟩
      obtain ⟨us', hf', hr⟩ := aFill_sound (w := w) (av := av) (ρ := ρ) places (places.toArray[·]?) (fun i p h => by simpa using h) _ (parts.toList.map fun p => (p.1, ev p.2)) _ cells z.cells hf h0 (by simp) (fun j p q hp hq => by
        simp at hp hq
        obtain ⟨i1, o1, h1, rfl⟩ := hp
        obtain ⟨i2, o2, h2, rfl⟩ := hq
        rw [h1] at h2
        injection h2 with h2
        injection h2 with e1 e2
        subst e1; subst e2
        exact ⟨rfl, fun x hx => hg _ _ hx⟩)
      refine ⟨.agg us', fun w' => run_build w' t _ us' ?_, .ag hr.1 hr.2⟩
      simp only [Program.built, hi, hu, hz, hp]
      simpa using hf'
    · cases hb
  · cases hb

/-! ### Bytes made a string -/
def unB : List AV → Option (List UInt8)
  | [] => some []
  | .v (.int .u8 n) :: r => if 0 ≤ n ∧ n < 256 then (unB r).map (UInt8.ofNat n.toNat :: ·) else none
  | _ => none
def bytesA (l : List UInt8) : List AV := l.map fun b => .v (.int .u8 b.toNat)
theorem unB_bytesA (l : List UInt8) : unB (bytesA l) = some l := by
  induction l with
  | nil => rfl
  | cons x l ih =>
    have hx : (x.toNat : Int) < 256 := by have := x.toNat_lt; omega
    show unB (.v (.int .u8 x.toNat) :: bytesA l) = _
    simp [unB, ih, hx]
theorem unB_spec : ∀ {cs : List AV} {l : List UInt8}, unB cs = some l → cs = bytesA l
  | [], l, h => by simp only [unB, Option.some.injEq] at h; subst h; rfl
  | .v (.int .u8 n) :: r, l, h => by
    simp only [unB] at h
    split at h
    · next hc =>
      rw [Option.map_eq_some_iff] at h
      obtain ⟨l', h', rfl⟩ := h
      rw [unB_spec h']
      show _ = AV.v (.int .u8 _) :: bytesA l'
      congr 3
      rw [UInt8.toNat_ofNat']
      omega
    · cases h
  | .v (.int .i8 n) :: _, _, h => by simp [unB] at h
  | .v (.int .i16 n) :: _, _, h => by simp [unB] at h
  | .v (.int .i32 n) :: _, _, h => by simp [unB] at h
  | .v (.int .i64 n) :: _, _, h => by simp [unB] at h
  | .v (.int .u16 n) :: _, _, h => by simp [unB] at h
  | .v (.int .u32 n) :: _, _, h => by simp [unB] at h
  | .v (.int .u64 n) :: _, _, h => by simp [unB] at h
  | .v (.bool _) :: _, _, h => by simp [unB] at h
  | .v (.float ..) :: _, _, h => by simp [unB] at h
  | .v (.complex ..) :: _, _, h => by simp [unB] at h
  | .v (.string _) :: _, _, h => by simp [unB] at h
  | .v (.pointer _) :: _, _, h => by simp [unB] at h
  | .v (.slice ..) :: _, _, h => by simp [unB] at h
  | .v (.map _) :: _, _, h => by simp [unB] at h
  | .v (.chan _) :: _, _, h => by simp [unB] at h
  | .v (.func ..) :: _, _, h => by simp [unB] at h
  | .v .nilFunc :: _, _, h => by simp [unB] at h
  | .v (.iface ..) :: _, _, h => by simp [unB] at h
  | .v .nilIface :: _, _, h => by simp [unB] at h
  | .v (.agg _) :: _, _, h => by simp [unB] at h
  | .v (.tuple _) :: _, _, h => by simp [unB] at h
  | .un :: _, _, h => by simp [unB] at h
  | .rd .. :: _, _, h => by simp [unB] at h
  | .os .. :: _, _, h => by simp [unB] at h
  | .pt .. :: _, _, h => by simp [unB] at h
  | .rp .. :: _, _, h => by simp [unB] at h
  | .fn .. :: _, _, h => by simp [unB] at h
  | .sp .. :: _, _, h => by simp [unB] at h
  | .ag .. :: _, _, h => by simp [unB] at h
  | .tp .. :: _, _, h => by simp [unB] at h
/-- The cells of a slice that is read: what callees and conversions see. -/
def sliceC (hp : Hp) : AV → Option (Nat × List AV)
  | .rd n cs => some (n, cs)
  | .os k off sz n => (look hp k).bind fun cs => if off + n * sz ≤ cs.length then some (n, (cs.drop off).take (n * sz)) else none
  | .v (.slice none 0 0) => some (0, [])
  | _ => none
theorem sliceC_rd (hp : Hp) (n : Nat) (cs : List AV) : sliceC hp (.rd n cs) = some (n, cs) := rfl
theorem sliceC_nil (hp : Hp) : sliceC hp (.v (.slice none 0 0)) = some (0, []) := rfl
theorem sliceC_os {hp : Hp} {k off sz n : Nat} {cs : List AV} (h : look hp k = some cs) (hl : off + n * sz ≤ cs.length) : sliceC hp (.os k off sz n) = some (n, (cs.drop off).take (n * sz)) := by simp [sliceC, h, hl]
/-- What is read: n elements; if there are any, the cells lie at an address. -/
theorem sliceC_sound {hp : Hp} (hobj : ∀ k cs, look hp k = some cs → ObjR w av ρ (ρ k) cs) {x : AV} {v : Value} {n : Nat} {cs : List AV} (hx : Rep w av ρ x v) (h : sliceC hp x = some (n, cs)) :
    ∃ (A : Option Addr) (c : Nat), v = .slice A n c ∧ n ≤ c ∧ c ≤ 9223372036854775807 ∧ (n = 0 → cs = []) ∧ (0 < n → ∃ b off, A = some ⟨b, off, none⟩ ∧ b < w.heap.size ∧ ∀ (j : Nat) (a : AV), cs[j]? = some a → ∃ y, w.cell? ⟨b, off + j, none⟩ = some y ∧ Rep w av ρ a y) := by
  cases x with
  | rd n' cs' =>
    simp only [sliceC, Option.some.injEq, Prod.mk.injEq] at h
    obtain ⟨rfl, rfl⟩ := h
    obtain ⟨A, c, u, rfl, h1, h2, h0, hm, hr⟩ := hx.rd_inv
    refine ⟨A, c, rfl, h1, h2, h0, fun hn => ?_⟩
    obtain ⟨b, off, rfl, hb, hl, hc⟩ := hm hn
    exact ⟨b, off, rfl, hl, fun j a hj => ⟨u j, hc j (List.getElem?_eq_some_iff.1 hj).1, .im (hr j a hj)⟩⟩
  | os k off sz n' =>
    simp only [sliceC, Option.bind_eq_some_iff] at h
    obtain ⟨cs', hk, h⟩ := h
    split at h
    · next hle =>
      injection h with h
      injection h with e1 e2
      subst e1; subst e2
      obtain ⟨A, c, rfl, hs, h1, h2, hm⟩ := hx.os_inv
      refine ⟨A, c, rfl, h1, h2, fun h0 => by rw [h0]; simp, fun hn => ?_⟩
      obtain ⟨rfl, hcap⟩ := hm (by omega)
      have ho := hobj k cs' hk
      have hpos : 0 < (ρ k).cap := by
        have : 0 < c * sz := Nat.mul_pos (by omega) hs
        omega
      refine ⟨_, _, rfl, (ho.mem hpos).1, fun j a hj => ?_⟩
      rw [List.getElem?_take] at hj
      split at hj
      · rw [List.getElem?_drop] at hj
        rw [Nat.add_assoc]
        exact ho.cells _ a hj
      · cases hj
    · cases h
  | v x =>
    have e := hx.v_eq
    subst e
    unfold sliceC at h
    split at h <;> first
      | (next heq => cases heq; done)
      | (next heq => injection heq with heq; subst heq; injection h with h; injection h with e1 e2; subst e1; subst e2; exact ⟨none, 0, rfl, Nat.le_refl _, by omega, fun _ => rfl, fun h => absurd h (by omega)⟩)
      | (cases h)
  | _ => simp [sliceC] at h
def cnv (P : Program) (s d : TypeId) (a : Value) : Option Value := pr P (convert s d a)
/-- A type of byte slices, and string. -/
def bsT (P : Program) (s d : TypeId) : Bool := match P.underlying s, P.underlying d with
  | some (.slice e), some .string => match P.underlying e with
    | some (.int .u8) => true
    | _ => false
  | _, _ => false
def qConv (P : Program) (hp : Hp) (s d : TypeId) : AV → Option AV
  | .v (.slice a n c) => if bsT P s d = true then (sliceC hp (.v (.slice a n c))).bind fun q => (unB q.2).bind fun l => if l.length = q.1 then some (.v (.string (str l))) else none else none
  | .v a => (cnv P s d a).map cst
  | x => if bsT P s d = true then (sliceC hp x).bind fun q => (unB q.2).bind fun l => if l.length = q.1 then some (.v (.string (str l))) else none else none
theorem bytes_run {hp : Hp} (hobj : ∀ k cs, look hp k = some cs → ObjR w av ρ (ρ k) cs) {s d : TypeId} {x y : AV} {v : Value} (hx : Rep w av ρ x v) (hT : bsT P s d = true)
    (hq : ((sliceC hp x).bind fun q => (unB q.2).bind fun l => if l.length = q.1 then some (AV.v (.string (str l))) else none) = some y) : ∃ u, (∀ w', Ext w w' → (convert s d v).run P w' = .ok u w') ∧ Rep w av ρ y u := by
  simp only [Option.bind_eq_some_iff] at hq
  obtain ⟨⟨n, cs⟩, hc, l, hl, hq⟩ := hq
  simp only at hq
  split at hq
  · next hn =>
    injection hq with hq
    subst hq
    unfold bsT at hT
    split at hT
    · next e hs hd =>
      split at hT
      · next he =>
        obtain ⟨A, c, rfl, h1, h2, h0, hm⟩ := sliceC_sound hobj hx hc
        have hcs := unB_spec hl
        subst hcs
        refine ⟨.string (str l), fun w' hw => ?_, .im (.v _)⟩
        rcases Nat.eq_zero_or_pos n with h | h
        · have hl0 : l = [] := List.eq_nil_of_length_eq_zero (by omega)
          subst hl0
          subst h
          rw [run_convert_bytes_string w' s d e A 0 c hs he hd]
          cases A with
          | none => rfl
          | some ad => simp [Conv.bytesToString, loadCells, loadCellsFrom]; rfl
        · obtain ⟨b, off, rfl, _, hcell⟩ := hm h
          subst hn
          refine run_convert_bytes_back w' s d e ⟨b, off, none⟩ c l hs he hd (fun j hj => ?_)
          rw [Addr.add_mid]
          obtain ⟨y, hy, hr⟩ := hcell j (.v (.int .u8 (l[j].toNat : Int))) (by simp [bytesA, hj])
          rw [hr.v_eq] at hy
          exact hw _ _ _ hy
      · cases hT
    · cases hT
  · cases hq
theorem qConv_sound {hp : Hp} (hobj : ∀ k cs, look hp k = some cs → ObjR w av ρ (ρ k) cs) {s d : TypeId} {x y : AV} {v : Value} (hx : Rep w av ρ x v) (hq : qConv P hp s d x = some y) : ∃ u, (∀ w', Ext w w' → (convert s d v).run P w' = .ok u w') ∧ Rep w av ρ y u := by
  have slow : (if bsT P s d = true then (sliceC hp x).bind fun q => (unB q.2).bind fun l => if l.length = q.1 then some (AV.v (.string (str l))) else none else none) = some y → ∃ u, (∀ w', Ext w w' → (convert s d v).run P w' = .ok u w') ∧ Rep w av ρ y u := fun h => by
    split at h
    · next hT => exact bytes_run hobj hx hT h
    · cases h
  have fast : ∀ a, x = .v a → (cnv P s d a).map cst = some y → ∃ u, (∀ w', Ext w w' → (convert s d v).run P w' = .ok u w') ∧ Rep w av ρ y u := fun a e h => by
    subst e
    rw [hx.v_eq]
    rw [Option.map_eq_some_iff] at h
    obtain ⟨u, hu, rfl⟩ := h
    exact ⟨u, fun w' _ => pr_run hu w', cst_rep u⟩
  cases x with
  | v a => cases a <;> first
    | exact slow hq
    | exact fast _ rfl hq
  | _ => exact slow hq
end
end Go.Proofs.YtogmppcfopgkdaaGreatDoor

/- The abstract machine, part 5: the quiet operations in one. No program is named here. -/
namespace Go.Proofs.YtogmppcfopgkdaaGreatDoor
open Go.RowKit
set_option linter.unusedVariables false
set_option linter.unusedSimpArgs false

def bin (P : Program) (op : BinOp) (t : TypeId) (x y : Operand) (a b : Value) : Option Value := pr P (do eqGuard op t x y a b; binOp op t a b)
def una (P : Program) (op : UnOp) (a : Value) : Option Value := pr P (Op.unary op a)
def idx (P : Program) (t : TypeId) (a b : Value) : Option Value := pr P (Instr.index t a b)
def sli (P : Program) (t : TypeId) (a : Value) (l h m : Option Value) : Option Value := pr P (Instr.sliceAt t a l h m)
def lenV (P : Program) (ts : Array TypeId) (t : TypeId) (a : Value) : Option Value := pr P (Builtin.len_ ts t #[a])
def minV (P : Program) (ts : Array TypeId) (t : TypeId) (a b : Value) : Option Value := pr P (Builtin.min_ ts t #[a, b])
def maxV (P : Program) (ts : Array TypeId) (t : TypeId) (a b : Value) : Option Value := pr P (Builtin.max_ ts t #[a, b])
/-- Whether a type is a slice type. -/
def isSlT (P : Program) (t : TypeId) : Bool := match P.underlying t with
  | some (.slice _) => true
  | _ => false

def gO (st : St) : Option Operand → Option (Option AV)
  | none => some none
  | some x => (opv st x).map some
def ovO : Option AV → Option (Option Value)
  | none => some none
  | some x => (val x).map some
def qSli (P : Program) (t : TypeId) (x : AV) (l h m : Option AV) : Option AV :=
  match x with
  | .v a => (ovO l).bind fun l => (ovO h).bind fun h => (ovO m).bind fun m => (sli P t a l h m).map cst
  | x => qSlice P t x l h m
def qLen (P : Program) (ts : Array TypeId) (t : TypeId) : AV → Option AV
  | .rd n _ => if (ts[0]?).any (isSlT P) then some (.v (.int .i64 n)) else none
  | .os _ _ _ n => if (ts[0]?).any (isSlT P) then some (.v (.int .i64 n)) else none
  | .v a => (lenV P ts t a).map cst
  | _ => none
def qIdxA (P : Program) (t : TypeId) (x i : AV) : Option AV :=
  match i with
  | .v (.int _ n) => qIdx P t x n
  | _ => none
def qExt (i : Nat) : AV → Option AV
  | .tp vs => vs[i]?
  | _ => none
def qNil : AV → Option AV
  | .pt k o => some (.pt k o)
  | .rp cs => some (.rp cs)
  | .fn f cs => some (.fn f cs)
  | _ => none
def opvs (st : St) : List Operand → Option (List AV)
  | [] => some []
  | x :: r => (opv st x).bind fun y => (opvs st r).map (y :: ·)
theorem opvs_nil (st : St) : opvs st [] = some [] := rfl
theorem opvs_cons (st : St) (x : Operand) (r : List Operand) : opvs st (x :: r) = (opv st x).bind fun y => (opvs st r).map (y :: ·) := rfl
def qPick (c : AV) (a b : Option AV) : Option AV :=
  match c with
  | .v (.bool true) => a
  | .v (.bool false) => b
  | _ => none

def qBui (P : Program) (st : St) (b : Builtin) (args : List Operand) (ts : Array TypeId) (ty : TypeId) : Option AV :=
  match b, args with
  | .len, [x] => (opv st x).bind (qLen P ts ty)
  | .min, [x, y] => ((opv st x).bind val).bind fun a => ((opv st y).bind val).bind fun b => (minV P ts ty a b).map cst
  | .max, [x, y] => ((opv st x).bind val).bind fun a => ((opv st y).bind val).bind fun b => (maxV P ts ty a b).map cst
  | _, _ => none
def qCall (P : Program) (st : St) (c : Call) (ty : TypeId) : Option AV :=
  match c.callee with
  | .builtin b => qBui P st b c.args.toList c.argTypes ty
  | _ => none
/-- A function value is made. -/
def mkfA (st : St) (f : FuncId) (bs caps : List Operand) : Option AV :=
  match bs with
  | [] => if f < bnd then (opvs st caps).map (.fn f) else none
  | [x] => match caps with
    | [] => (opv st x).map fun a => .fn (f + bnd) [a]
    | _ => none
  | _ => none
theorem mkfA_cases {st : St} {f : FuncId} {bs caps : List Operand} {y : AV} (h : mkfA st f bs caps = some y) :
    (f < bnd ∧ bs = [] ∧ ∃ ys, opvs st caps = some ys ∧ y = .fn f ys) ∨ ∃ x z, bs = [x] ∧ caps = [] ∧ opv st x = some z ∧ y = .fn (f + bnd) [z] := by
  unfold mkfA at h
  split at h
  · split at h
    · next hlt =>
      rw [Option.map_eq_some_iff] at h
      obtain ⟨ys, hy, rfl⟩ := h
      exact .inl ⟨hlt, rfl, ys, hy, rfl⟩
    · cases h
  · split at h
    · rw [Option.map_eq_some_iff] at h
      obtain ⟨z, hz, rfl⟩ := h
      exact .inr ⟨_, z, rfl, rfl, hz, rfl⟩
    · cases h
  · cases h
/-- What a quiet operation yields. -/
def qv (P : Program) (st : St) (o : Op) (ty : TypeId) : Option AV :=
  match o with
  | .move x => opv st x
  | .assign x => opv st x
  | .pick c a b => (opv st c).bind fun c => qPick c (opv st a) (opv st b)
  | .nilCheck x => (opv st x).bind qNil
  | .load t x => (opv st x).bind (qLoad P st.hp t)
  | .binOp op t x y _ => ((opv st x).bind val).bind fun a => ((opv st y).bind val).bind fun b => (bin P op t x y a b).map cst
  | .unOp op _ x => ((opv st x).bind val).bind fun a => (una P op a).map cst
  | .convert s d x => (opv st x).bind (qConv P st.hp s d)
  | .slice t x lo hi mx => (opv st x).bind fun y => (gO st lo).bind fun l => (gO st hi).bind fun h => (gO st mx).bind fun m => qSli P t y l h m
  | .fieldAddr s x f => (opv st x).bind (qFld P s f)
  | .field s x f => (opv st x).bind (qPart P s f)
  | .indexAddr t x i => (opv st x).bind fun y => (opv st i).bind (qIdxA P t y)
  | .index t x i => ((opv st x).bind val).bind fun a => ((opv st i).bind val).bind fun b => (idx P t a b).map cst
  | .extract x i => (opv st x).bind (qExt i)
  | .build t parts => qBuild P t (parts.toList.map fun p => (p.1, opv st p.2))
  | .call c => qCall P st c ty
  | .makeFunc (.func f) bs caps => mkfA st f bs.toList caps.toList
  | _ => none

/-- Operations that read memory. -/
def memO : Op → Bool
  | .load .. => true
  | .convert .. => true
  | _ => false
section
variable {P : Program} {E : Env} {ρ : Nat → Loc} {st : St} {a : Act} {w : World}
theorem gO_sound (h : SR E ρ st a w) {x : Option Operand} {y : Option AV} (hx : gO st x = some y) : (y = none → x.map a.eval = none) ∧ ∀ z, y = some z → ∃ u, x.map a.eval = some u ∧ Rep w (avd E.bad ρ st.hp) ρ z u := by
  cases x with
  | none => simp only [gO, Option.some.injEq] at hx; subst hx; exact ⟨fun _ => rfl, fun z e => by cases e⟩
  | some x =>
    simp only [gO, Option.map_eq_some_iff] at hx
    obtain ⟨z, hz, rfl⟩ := hx
    exact ⟨fun e => (by cases e), fun z' e => by injection e with e; subst e; exact ⟨_, rfl, opv_sound h hz⟩⟩
theorem ovO_sound {av : Nat → Prop} {y : Option AV} {u : Option Value} {v : Option Value} (h : ovO y = some v) (h1 : y = none → u = none) (h2 : ∀ z, y = some z → ∃ x, u = some x ∧ Rep w av ρ z x) : u = v := by
  cases y with
  | none => simp only [ovO, Option.some.injEq] at h; rw [← h, h1 rfl]
  | some z =>
    simp only [ovO, Option.map_eq_some_iff] at h
    obtain ⟨x, hx, rfl⟩ := h
    obtain ⟨x', rfl, hr⟩ := h2 z rfl
    rw [val_eq hr hx]
theorem run_len_sl {w : World} {t ty : TypeId} (h : isSlT P t = true) (A : Option Addr) (n c : Nat) (ts : Array TypeId) (ht : ts[0]? = some t) : (Builtin.len_ ts ty #[.slice A n c]).run P w = .ok (.int .i64 n) w := by
  unfold isSlT at h
  split at h
  · next e hu => simp [Builtin.len_, ht, run_underlying hu, goInt]
  · cases h

theorem opvs_spec : ∀ {l : List Operand} {ys : List AV}, opvs st l = some ys → ys.length = l.length ∧ ∀ (j : Nat) (x : Operand) (y : AV), l[j]? = some x → ys[j]? = some y → opv st x = some y
  | [], ys, h => by simp only [opvs, Option.some.injEq] at h; subst h; exact ⟨rfl, fun j x y hx => by simp at hx⟩
  | x :: r, ys, h => by
    simp only [opvs, Option.bind_eq_some_iff, Option.map_eq_some_iff] at h
    obtain ⟨y, hy, l, hl, rfl⟩ := h
    obtain ⟨h1, h2⟩ := opvs_spec hl
    refine ⟨by simp [h1], fun j a b ha hb => ?_⟩
    rcases j with _ | j
    · simp at ha hb; subst ha; subst hb; exact hy
    · simp at ha hb; exact h2 j a b ha hb
theorem qv_sound (h : SR E ρ st a w) {o : Oper} {y : AV} (hq : qv P st o.op o.type = some y) : ∃ v, (∀ w', (memO o.op = true → Ext w w') → (execOp a.eval o).run P w' = .ok (.value v) w') ∧ Rep w (avd E.bad ρ st.hp) ρ y v := by
  have hobj := h.hr.obj
  unfold execOp
  unfold qv at hq
  split at hq
  · next x e => simp only [e]; exact ⟨_, fun _ _ => rfl, opv_sound h hq⟩
  · next x e => simp only [e]; exact ⟨_, fun _ _ => rfl, opv_sound h hq⟩
  · next c x z e =>
    simp only [e]
    rw [Option.bind_eq_some_iff] at hq
    obtain ⟨cv, hc, hq⟩ := hq
    have hcr := opv_sound h hc
    unfold qPick at hq
    split at hq
    · rw [Rep.v_eq hcr]; exact ⟨_, fun _ _ => by simp [asBool], opv_sound h hq⟩
    · rw [Rep.v_eq hcr]; exact ⟨_, fun _ _ => by simp [asBool], opv_sound h hq⟩
    · cases hq
  · next x e =>
    simp only [e]
    rw [Option.bind_eq_some_iff] at hq
    obtain ⟨z, hz, hq⟩ := hq
    have hr := opv_sound h hz
    unfold qNil at hq
    split at hq
    · injection hq with hq
      subst hq
      have e2 := hr.pt_inv
      rw [e2] at hr ⊢
      exact ⟨_, fun _ _ => rfl, hr⟩
    · injection hq with hq
      subst hq
      obtain ⟨b, off, u, e2, _⟩ := hr.rp_inv
      rw [e2] at hr ⊢
      exact ⟨_, fun _ _ => rfl, hr⟩
    · injection hq with hq
      subst hq
      obtain ⟨us, e2, _⟩ := hr.fn_inv
      rw [e2] at hr ⊢
      have e3 : ∀ f, ∃ g bs cs, fnV f us = .func (.func g) bs cs := fun f => by unfold fnV; split <;> exact ⟨_, _, _, rfl⟩
      obtain ⟨g, bs, cs', e3⟩ := e3 _
      rw [e3] at hr ⊢
      exact ⟨_, fun _ _ => rfl, hr⟩
    · cases hq
  · next t x e =>
    simp only [e]
    rw [Option.bind_eq_some_iff] at hq
    obtain ⟨z, hz, hq⟩ := hq
    obtain ⟨u, hu, hr⟩ := qLoad_sound h.glob hobj (opv_sound h hz) hq
    exact ⟨u, fun w' hw => by simp [hu w' (hw rfl)], hr⟩
  · next op t x z t' e =>
    simp only [e]
    simp only [Option.bind_eq_some_iff, Option.map_eq_some_iff] at hq
    obtain ⟨va, ⟨xa, h1, h2⟩, vb, ⟨xb, h3, h4⟩, u, hu, rfl⟩ := hq
    rw [val_eq (opv_sound h h1) h2, val_eq (opv_sound h h3) h4]
    exact ⟨u, fun w' _ => by have := pr_run hu w'; simp only [Sem.run_bind] at this ⊢; rw [this]; rfl, cst_rep u⟩
  · next op t x e =>
    simp only [e]
    simp only [Option.bind_eq_some_iff, Option.map_eq_some_iff] at hq
    obtain ⟨va, ⟨xa, h1, h2⟩, u, hu, rfl⟩ := hq
    rw [val_eq (opv_sound h h1) h2]
    exact ⟨u, fun w' _ => by simp [pr_run hu w'], cst_rep u⟩
  · next s d x e =>
    simp only [e]
    rw [Option.bind_eq_some_iff] at hq
    obtain ⟨z, hz, hq⟩ := hq
    obtain ⟨u, hu, hr⟩ := qConv_sound hobj (opv_sound h hz) hq
    exact ⟨u, fun w' hw => by simp [hu w' (hw rfl)], hr⟩
  · next t x lo hi mx e =>
    simp only [e]
    simp only [Option.bind_eq_some_iff] at hq
    obtain ⟨z, hz, l, hl, hh, hhh, m, hm, hq⟩ := hq
    have gl := gO_sound h hl
    have gh := gO_sound h hhh
    have gm := gO_sound h hm
    have slow : qSlice P t z l hh m = some y → ∃ v, (∀ w', (do pure (Next.value (← Instr.sliceAt t (a.eval x) (lo.map a.eval) (hi.map a.eval) (mx.map a.eval))) : Sem Next).run P w' = .ok (.value v) w') ∧ Rep w (avd E.bad ρ st.hp) ρ y v := fun hq => by
      obtain ⟨u, hu, hr⟩ := qSlice_sound (opv_sound h hz) hq gl.1 gl.2 gh.1 gh.2 gm.1 gm.2
      exact ⟨u, fun w' => by simp [hu w'], hr⟩
    unfold qSli at hq
    split at hq
    · simp only [Option.bind_eq_some_iff, Option.map_eq_some_iff] at hq
      obtain ⟨l', hl', h', hh', m', hm', u, hu, rfl⟩ := hq
      rw [Rep.v_eq (opv_sound h hz), ovO_sound hl' gl.1 gl.2, ovO_sound hh' gh.1 gh.2, ovO_sound hm' gm.1 gm.2]
      exact ⟨u, fun w' _ => by simp [pr_run hu w'], cst_rep u⟩
    · obtain ⟨v, h1, h2⟩ := slow hq
      exact ⟨v, fun w' _ => h1 w', h2⟩
  · next s x f e =>
    simp only [e]
    rw [Option.bind_eq_some_iff] at hq
    obtain ⟨z, hz, hq⟩ := hq
    obtain ⟨u, hu, hr⟩ := qFld_sound (opv_sound h hz) hq
    exact ⟨u, fun w' _ => by simp [hu w'], hr⟩
  · next s x f e =>
    simp only [e]
    rw [Option.bind_eq_some_iff] at hq
    obtain ⟨z, hz, hq⟩ := hq
    obtain ⟨u, hu, hr⟩ := qPart_sound (opv_sound h hz) hq
    exact ⟨u, fun w' _ => by simp [hu w'], hr⟩
  · next t x i e =>
    simp only [e]
    simp only [Option.bind_eq_some_iff] at hq
    obtain ⟨z, hz, zi, hzi, hq⟩ := hq
    unfold qIdxA at hq
    split at hq
    · rw [Rep.v_eq (opv_sound h hzi)]
      obtain ⟨u, hu, hr⟩ := qIdx_sound (ik := ‹IntKind›) (opv_sound h hz) hq
      exact ⟨u, fun w' _ => by simp [hu w'], hr⟩
    · cases hq
  · next t x i e =>
    simp only [e]
    simp only [Option.bind_eq_some_iff, Option.map_eq_some_iff] at hq
    obtain ⟨va, ⟨xa, h1, h2⟩, vb, ⟨xb, h3, h4⟩, u, hu, rfl⟩ := hq
    rw [val_eq (opv_sound h h1) h2, val_eq (opv_sound h h3) h4]
    exact ⟨u, fun w' _ => by simp [pr_run hu w'], cst_rep u⟩
  · next x i e =>
    simp only [e]
    rw [Option.bind_eq_some_iff] at hq
    obtain ⟨z, hz, hq⟩ := hq
    unfold qExt at hq
    split at hq
    · obtain ⟨us, e2, hn, hr⟩ := (opv_sound h hz).tp_inv
      have hlt : i < us.size := by rw [hn]; exact (List.getElem?_eq_some_iff.1 hq).1
      rw [e2]
      exact ⟨us[i], fun _ _ => by simp [Instr.extract, hlt], hr i _ _ hq (by simp [hlt])⟩
    · cases hq
  · next t parts e =>
    simp only [e]
    obtain ⟨u, hu, hr⟩ := qBuild_sound (w := w) (av := avd E.bad ρ st.hp) (ρ := ρ) (g := opv st) (ev := a.eval) hq (fun x y hx => opv_sound h hx)
    exact ⟨u, fun w' _ => by simp [hu w'], hr⟩
  · next c e =>
    simp only [e]
    obtain ⟨callee, args, ts⟩ := c
    unfold qCall at hq
    simp only at hq
    split at hq
    · next _ b =>
      obtain ⟨args⟩ := args
      unfold qBui at hq
      split at hq
      · next x _ =>
        rw [Option.bind_eq_some_iff] at hq
        obtain ⟨z, hz, hq⟩ := hq
        have hr := opv_sound h hz
        simp_all only
        unfold qLen at hq
        split at hq
        · split at hq
          · next hT =>
            injection hq with hq
            subst hq
            obtain ⟨A, c, u, e2, _⟩ := hr.rd_inv
            cases ht : ts[0]? with
            | none => simp [ht] at hT
            | some t => exact ⟨_, fun w' _ => by simp [resolve, invoke, builtin, e2, run_len_sl (P := P) (w := w') (ty := o.type) (by simpa [ht] using hT) _ _ _ ts ht], .im (.v _)⟩
          · cases hq
        · split at hq
          · next hT =>
            injection hq with hq
            subst hq
            obtain ⟨A, c, e2, _⟩ := hr.os_inv
            cases ht : ts[0]? with
            | none => simp [ht] at hT
            | some t => exact ⟨_, fun w' _ => by simp [resolve, invoke, builtin, e2, run_len_sl (P := P) (w := w') (ty := o.type) (by simpa [ht] using hT) _ _ _ ts ht], .im (.v _)⟩
          · cases hq
        · rw [Option.map_eq_some_iff] at hq
          obtain ⟨u, hu, rfl⟩ := hq
          exact ⟨u, fun w' _ => by simp [resolve, invoke, builtin, Rep.v_eq hr, pr_run hu w'], cst_rep u⟩
        · cases hq
      · next x z _ =>
        simp only [Option.bind_eq_some_iff, Option.map_eq_some_iff] at hq
        obtain ⟨va, ⟨xa, h1, h2⟩, vb, ⟨xb, h3, h4⟩, u, hu, rfl⟩ := hq
        simp_all only
        exact ⟨u, fun w' _ => by simp [resolve, invoke, builtin, val_eq (opv_sound h h1) h2, val_eq (opv_sound h h3) h4, pr_run hu w'], cst_rep u⟩
      · next x z _ =>
        simp only [Option.bind_eq_some_iff, Option.map_eq_some_iff] at hq
        obtain ⟨va, ⟨xa, h1, h2⟩, vb, ⟨xb, h3, h4⟩, u, hu, rfl⟩ := hq
        simp_all only
        exact ⟨u, fun w' _ => by simp [resolve, invoke, builtin, val_eq (opv_sound h h1) h2, val_eq (opv_sound h h3) h4, pr_run hu w'], cst_rep u⟩
      · cases hq
    · cases hq
  · next f bs caps e =>
    simp only [e]
    rcases mkfA_cases hq with ⟨hlt, hb, ys, hy, rfl⟩ | ⟨x, z, hb, hc, hy, rfl⟩
    · obtain ⟨h1, h2⟩ := opvs_spec hy
      have hb : bs = #[] := by apply Array.ext'; simpa using hb
      subst hb
      refine ⟨.func (.func f) #[] (caps.map a.eval), fun w' _ => by simp [Instr.makeFunc], .fn (fnV_lt hlt).symm (by simp [h1]) fun j y v hj hv => ?_⟩
      simp at hv
      obtain ⟨x, hx, rfl⟩ := hv
      exact opv_sound h (h2 j x y (by simpa using hx) hj)
    · have hb : bs = #[x] := by apply Array.ext'; simpa using hb
      have hc : caps = #[] := by apply Array.ext'; simpa using hc
      subst hb; subst hc
      have hr := opv_sound h hy
      refine ⟨.func (.func f) #[a.eval x] #[], fun w' _ => by simp [Instr.makeFunc], .fn (fnV_ge f _).symm rfl fun j z v hj hv => ?_⟩
      match j, hj, hv with
      | 0, hj, hv => simp at hj hv; subst hj; subst hv; exact hr
  · cases hq
end
end Go.Proofs.YtogmppcfopgkdaaGreatDoor

/- The abstract machine, part 6: objects made and changed. No program is named here. -/
namespace Go.Proofs.YtogmppcfopgkdaaGreatDoor
open Go.RowKit
set_option linter.unusedVariables false
set_option linter.unusedSimpArgs false

def killX (k : Nat) (x : AV) : AV := if mentM k x = true then .un else x
def killC (k : Nat) (x : AV) : AV := if cellM k x = true then .un else x
theorem ment_killX (k : Nat) (x : AV) : mentM k (killX k x) = false := by
  unfold killX
  split
  · rfl
  · next h => simpa using h
theorem ment_killC (k : Nat) (x : AV) : mentM k (killC k x) = false := by
  unfold killC
  split
  · rfl
  · next h => exact mentM_of_cellM (by simpa using h)
def rset (ρ : Nat → Loc) (k : Nat) (L : Loc) : Nat → Loc := fun j => if j = k then L else ρ j
theorem rset_same (ρ : Nat → Loc) (k : Nat) (L : Loc) : rset ρ k L k = L := by simp [rset]
theorem rset_ne (ρ : Nat → Loc) {k j : Nat} (L : Loc) (h : j ≠ k) : rset ρ k L j = ρ j := by simp [rset, h]
/-- The object k is now cs, at a new place: nothing speaks of the old one. -/
def St.fresh (st : St) (k : Nat) (cs : List AV) : St := ⟨turn (killX k) st.fr, hset k cs (turn (List.map (killC k)) st.hp), st.nt, st.fx⟩

section
variable {P : Program} {E : Env} {ρ : Nat → Loc} {st : St} {a : Act} {w w' : World}
theorem Rep.killX {av : Nat → Prop} {x : AV} {v : Value} (k : Nat) (h : Rep w av ρ x v) : Rep w av ρ (killX k x) v := by
  unfold Go.Proofs.YtogmppcfopgkdaaGreatDoor.killX
  split
  · exact .im (.un _)
  · exact h
theorem Rep.killC {av : Nat → Prop} {x : AV} {v : Value} (k : Nat) (h : Rep w av ρ x v) : Rep w av ρ (killC k x) v := by
  unfold Go.Proofs.YtogmppcfopgkdaaGreatDoor.killC
  split
  · exact .im (.un _)
  · exact h
/-- The block of the object k, if it has one. -/
def blockOf (ρ : Nat → Loc) (hp : Hp) (k b : Nat) : Prop := ∃ cs, look hp k = some cs ∧ 0 < (ρ k).cap ∧ (ρ k).g = b
theorem look_fresh (st : St) (k : Nat) (cs : List AV) (j : Nat) : look (st.fresh k cs).hp j = if j = k then some cs else (look st.hp j).map (List.map (killC k)) := by
  simp only [St.fresh, look_hset, look_turn]
theorem SR.fresh (h : SR E ρ st a w) (k : Nat) (hfx : k ∉ st.fx) (L : Loc) (cs : List AV) (hos : w'.os = w.os) (ht : w'.tape = w.tape) (ho : w'.output = w.output) (hs : w.heap.size ≤ w'.heap.size)
    (hblk : ∀ b, b < w.heap.size → ¬ blockOf ρ st.hp k b → w'.heap[b]? = w.heap[b]?) (hL : 0 < L.cap → blockOf ρ st.hp k L.g ∨ w.heap.size ≤ L.g)
    (hlen : cs.length ≤ L.cap) (hmem : 0 < L.cap → L.g < w'.heap.size ∧ w'.there L.g L.off L.cap)
    (hcells : ∀ (j : Nat) (x : AV), cs[j]? = some x → ∃ v, w'.cell? ⟨L.g, L.off + j, none⟩ = some v ∧ Rep w (avd E.bad ρ st.hp) ρ x v) (hm : ∀ x ∈ cs, mentM k x = false) :
    SR E (rset ρ k L) (st.fresh k cs) a w' := by
  have hown : ∀ b, b < w.heap.size → ownB (rset ρ k L) (st.fresh k cs).hp b → ownB ρ st.hp b := by
    rintro b hb ⟨j, cs', hj, hc, hg⟩
    rw [look_fresh] at hj
    split at hj
    · next e =>
      subst e
      rw [rset_same] at hc hg
      rcases hL hc with ⟨cs0, h1, h2, h3⟩ | hge
      · exact ⟨j, cs0, h1, h2, h3.trans hg⟩
      · omega
    · next e =>
      rw [rset_ne _ _ e] at hc hg
      obtain ⟨c0, h0, _⟩ := Option.map_eq_some_iff.1 hj
      exact ⟨j, c0, h0, hc, hg⟩
  have hav : ∀ b, b < w.heap.size → avd E.bad (rset ρ k L) (st.fresh k cs).hp b → avd E.bad ρ st.hp b := fun b hb h' => h'.imp id (hown b hb)
  have hcell : ∀ b o, b < w.heap.size → ¬ avd E.bad ρ st.hp b → w'.cell? ⟨b, o, none⟩ = w.cell? ⟨b, o, none⟩ := fun b o hb hn =>
    World.cell?_of_block (w := w) (a := ⟨b, o, none⟩) (hblk b hb fun ⟨cs0, h1, h2, h3⟩ => hn (.inr ⟨k, cs0, h1, h2, h3⟩))
  have hρ : ∀ j, rset ρ k L j ≠ ρ j → j = k := fun j hj => Classical.byContradiction fun e => hj (rset_ne _ _ e)
  refine ⟨fun t x hx => ?_, ⟨fun j cs' hj => ?_, ?_⟩, ?_, ?_, h.bad, ?_, h.size, h.defers, fun j hj => (rset_ne ρ L (fun e : j = k => hfx (by rw [← e]; exact hj))).trans (h.fx j hj)⟩
  · simp only [St.fresh, look_turn, Option.map_eq_some_iff] at hx
    obtain ⟨y, hy, rfl⟩ := hx
    exact ((h.fr t y hy).killX k).tr hs hcell hav (fun j hj => by rw [hρ j hj]; exact ment_killX k y)
  · rw [look_fresh] at hj
    split at hj
    · next e =>
      subst e
      injection hj with hj
      subst hj
      rw [rset_same]
      refine ⟨hlen, hmem, fun i x hx => ?_⟩
      obtain ⟨v, hv, hr⟩ := hcells i x hx
      exact ⟨v, hv, hr.tr hs hcell hav (fun i hi => by rw [hρ i hi]; exact hm x (List.mem_of_getElem? hx))⟩
    · next e =>
      obtain ⟨c0, h0, rfl⟩ := Option.map_eq_some_iff.1 hj
      rw [rset_ne _ _ e]
      have hob := h.hr.obj j c0 h0
      have h1 : ObjR w (avd E.bad ρ st.hp) ρ (ρ j) (c0.map (Go.Proofs.YtogmppcfopgkdaaGreatDoor.killC k)) := ⟨by simpa using hob.len, hob.mem, fun i x hx => by
        rw [List.getElem?_map, Option.map_eq_some_iff] at hx
        obtain ⟨y, hy, rfl⟩ := hx
        obtain ⟨v, hv, hr⟩ := hob.cells i y hy
        exact ⟨v, hv, hr.killC k⟩⟩
      refine h1.tr hs (fun hc => hblk _ (hob.mem hc).1 fun ⟨cs0, q1, q2, q3⟩ => ?_) hcell hav (fun i hi x hx => ?_)
      · exact h.hr.dis j k c0 cs0 h0 q1 e hc q2 q3.symm
      · rw [hρ i hi]
        obtain ⟨y, _, rfl⟩ := List.mem_map.1 hx
        exact ment_killC k y
  · intro j j' cs1 cs2 h1 h2 hne hc hc'
    rw [look_fresh] at h1 h2
    by_cases e : j = k
    · subst e
      rw [if_neg (fun e => hne e.symm)] at h2
      obtain ⟨c0, h0, _⟩ := Option.map_eq_some_iff.1 h2
      rw [rset_same] at hc ⊢
      rw [rset_ne _ _ (fun e => hne e.symm)] at hc' ⊢
      rcases hL hc with ⟨cs0, q1, q2, q3⟩ | hge
      · rw [← q3]; exact h.hr.dis _ _ _ _ q1 h0 hne q2 hc'
      · have := ((h.hr.obj _ _ h0).mem hc').1; omega
    · rw [if_neg e] at h1
      obtain ⟨c1, h1', _⟩ := Option.map_eq_some_iff.1 h1
      rw [rset_ne _ _ e] at hc ⊢
      by_cases e' : j' = k
      · subst e'
        rw [rset_same] at hc' ⊢
        rcases hL hc' with ⟨cs0, q1, q2, q3⟩ | hge
        · rw [← q3]; exact h.hr.dis _ _ _ _ h1' q1 hne hc q2
        · have := ((h.hr.obj _ _ h1').mem hc).1; omega
      · rw [if_neg e'] at h2
        obtain ⟨c2, h2', _⟩ := Option.map_eq_some_iff.1 h2
        rw [rset_ne _ _ e'] at hc' ⊢
        exact h.hr.dis _ _ _ _ h1' h2' hne hc hc'
  · rintro b ⟨j, cs', hj, hc, hg⟩
    rw [look_fresh] at hj
    split at hj
    · next e =>
      subst e
      rw [rset_same] at hc hg
      subst hg
      rcases hL hc with ⟨cs0, q1, q2, q3⟩ | hge
      · exact h.own _ ⟨j, cs0, q1, q2, q3⟩
      · exact .inr (Nat.le_trans h.keep.size hge)
    · next e =>
      rw [rset_ne _ _ e] at hc hg
      obtain ⟨c0, h0, _⟩ := Option.map_eq_some_iff.1 hj
      exact h.own _ ⟨j, c0, h0, hc, hg⟩
  · refine ⟨hos.trans h.keep.os, ht.trans h.keep.tape, ho.trans h.keep.output, Nat.le_trans h.keep.size hs, fun b hb hn => ?_⟩
    refine (hblk b (Nat.lt_of_lt_of_le hb h.keep.size) fun ⟨cs0, q1, q2, q3⟩ => ?_).trans (h.keep.block b hb hn)
    rcases h.own b ⟨k, cs0, q1, q2, q3⟩ with hx | hge
    · exact hn hx
    · omega
  · intro b hb hbad
    have hlt := h.bad.1 b hbad
    exact h.nb b (hown b (Nat.lt_of_lt_of_le hlt h.keep.size) hb) hbad

/-- A new object, in a new block. -/
theorem SR.made (h : SR E ρ st a w) (k : Nat) (hfx : k ∉ st.fx) (cs : List AV) (us : Array Value) (t : TypeId) {w1 : World} (hw1 : w1.heap = w.heap ∧ w1.os = w.os ∧ w1.tape = w.tape ∧ w1.output = w.output) (hr : RepC w (avd E.bad ρ st.hp) ρ cs us) (hm : ∀ x ∈ cs, mentM k x = false) :
    SR E (rset ρ k ⟨w.heap.size, 0, cs.length⟩) (st.fresh k cs) a (w1.alloc (.cells us t)) := by
  obtain ⟨e1, e2, e3, e4⟩ := hw1
  have hc : ∀ j, (w1.alloc (.cells us t)).cell? ⟨w.heap.size, j, none⟩ = us[j]? := fun j => by rw [← e1]; exact cell_alloc_new w1 us t j
  refine h.fresh k hfx _ cs e2 e3 e4 (by simp [e1]) (fun b hb _ => ?_) (fun _ => .inr (Nat.le_refl _)) (Nat.le_refl _) (fun _ => ⟨by simp [e1], fun j hj => ?_⟩) (fun j x hx => ?_) hm
  · rw [Below.heap_alloc w1 _ b (by rw [e1]; exact hb), e1]
  · refine ⟨?_, by rw [← e1]; exact frozen_alloc_new w1 us t (0 + j)⟩
    rw [Nat.zero_add, hc, Array.getElem?_eq_getElem (by rw [hr.1]; exact hj)]
    rfl
  · have hj : j < us.size := by rw [hr.1]; exact (List.getElem?_eq_some_iff.1 hx).1
    refine ⟨us[j], ?_, hr.2 j x us[j] hx (Array.getElem?_eq_getElem hj)⟩
    simp only [Nat.zero_add]
    rw [hc, Array.getElem?_eq_getElem hj]

/-! ### A store -/
def St.store (st : St) (k : Nat) (cs : List AV) : St := ⟨st.fr, hset k cs st.hp, st.nt, st.fx⟩
theorem look_store (st : St) (k : Nat) (cs : List AV) (j : Nat) : look (st.store k cs).hp j = if j = k then some cs else look st.hp j := by simp only [St.store, look_hset]
theorem SR.store (h : SR E ρ st a w) {k off : Nat} {cs xs : List AV} (hk : look st.hp k = some cs) (hle : off + xs.length ≤ cs.length) {us : Array Value} (hr : RepC w (avd E.bad ρ st.hp) ρ xs us) :
    SR E ρ (st.store k (setR cs off xs)) a (w.setCells (ρ k).g ((ρ k).off + off) us.toList) := by
  have hob := h.hr.obj k cs hk
  have hlen : us.toList.length = xs.length := by rw [Array.length_toList]; exact hr.1
  by_cases hcap : 0 < (ρ k).cap
  case neg =>
    have h0 : xs = [] := List.eq_nil_of_length_eq_zero (by have := hob.len; omega)
    subst h0
    have h1 : us.toList = [] := List.eq_nil_of_length_eq_zero hlen
    rw [h1]
    have e : ∀ j, look (st.store k (setR cs off [])).hp j = look st.hp j := fun j => by
      rw [look_store, setR_nil]
      split
      · next e => subst e; exact hk.symm
      · rfl
    have e2 : ownB ρ (st.store k (setR cs off [])).hp = ownB ρ st.hp := by funext b; simp only [ownB, e]
    have e3 : avd E.bad ρ (st.store k (setR cs off [])).hp = avd E.bad ρ st.hp := by unfold avd; rw [e2]
    refine ⟨fun t x hx => ?_, ⟨fun j cs' hj => ?_, fun j j' c c' h1 h2 => ?_⟩, ?_, h.keep, h.bad, ?_, h.size, h.defers, h.fx⟩
    · rw [e3]; exact h.fr t x hx
    · rw [e3]; exact h.hr.obj j cs' (by rwa [e] at hj)
    · rw [e] at h1 h2; exact h.hr.dis j j' c c' h1 h2
    · rw [e2]; exact h.own
    · rw [e2]; exact h.nb
  case pos =>
    have hown : ownB ρ (st.store k (setR cs off xs)).hp = ownB ρ st.hp := by
      funext b
      apply propext
      constructor
      · rintro ⟨j, c', h1, h2⟩
        rw [look_store] at h1
        split at h1
        · next e => subst e; exact ⟨j, cs, hk, h2⟩
        · exact ⟨j, c', h1, h2⟩
      · rintro ⟨j, c', h1, h2⟩
        by_cases e : j = k
        · subst e; exact ⟨j, _, by rw [look_store, if_pos rfl], h2⟩
        · exact ⟨j, c', by rw [look_store, if_neg e]; exact h1, h2⟩
    have eav : avd E.bad ρ (st.store k (setR cs off xs)).hp = avd E.bad ρ st.hp := by unfold avd; rw [hown]
    have hbl := below_setCells_or w (ρ k).g ((ρ k).off + off) us.toList
    have hsz := World.size_setCells w (ρ k).g ((ρ k).off + off) us.toList
    have hkown : ownB ρ st.hp (ρ k).g := ⟨k, cs, hk, hcap, rfl⟩
    have hcell : ∀ b o, b < w.heap.size → ¬ avd E.bad ρ st.hp b → (w.setCells (ρ k).g ((ρ k).off + off) us.toList).cell? ⟨b, o, none⟩ = w.cell? ⟨b, o, none⟩ := fun b o hb hn =>
      World.cell?_of_block (w := w) (a := ⟨b, o, none⟩) (hbl.2.2.2 b fun e => hn (.inr (by rw [e]; exact hkown)))
    have tr : ∀ {x : AV} {v : Value}, Rep w (avd E.bad ρ st.hp) ρ x v → Rep (w.setCells (ρ k).g ((ρ k).off + off) us.toList) (avd E.bad ρ st.hp) ρ x v := fun hx =>
      hx.tr (by omega) hcell (fun _ _ h => h) (fun _ hk => absurd rfl hk)
    refine ⟨fun t x hx => ?_, ⟨fun j cs' hj => ?_, fun j j' c c' h1 h2 => ?_⟩, ?_, ?_, h.bad, by rw [hown]; exact h.nb, h.size, h.defers, h.fx⟩
    · rw [eav]; exact tr (h.fr t x hx)
    · rw [eav]
      rw [look_store] at hj
      split at hj
      · next e =>
        subst e
        injection hj with hj
        subst hj
        refine ⟨by rw [setR_length]; exact hob.len, fun hc => ⟨by have := (hob.mem hc).1; omega, World.there_setCells (hob.mem hc).2 _ _ _⟩, fun i x hx => ?_⟩
        rw [setR_get _ _ _ _ hle] at hx
        split at hx
        · next hi =>
          have hiu : i - off < us.size := by rw [hr.1]; omega
          refine ⟨us[i - off], ?_, tr (hr.2 _ _ _ hx (Array.getElem?_eq_getElem hiu))⟩
          have := World.cell?_setCells_in (ρ j).g us.toList ((ρ j).off + off) w (fun i' hi' => by rw [Nat.add_assoc]; exact ((hob.mem hcap).2 (off + i') (by have := hob.len; omega)).1) (i - off) (by simpa using hiu)
          rw [show (ρ j).off + off + (i - off) = (ρ j).off + i from by omega] at this
          rw [this]
          simp
        · next hi =>
          obtain ⟨v, hv, hrep⟩ := hob.cells i x hx
          refine ⟨v, ?_, tr hrep⟩
          rw [World.cell?_setCells_out _ _ _ _ _ (fun _ _ => by simp only; omega)]
          exact hv
      · next e => exact (h.hr.obj j cs' hj).tr (by omega) (fun hc => hbl.2.2.2 _ (h.hr.dis j k cs' cs hj hk e hc hcap)) hcell (fun _ _ h => h) (fun _ hk => absurd rfl hk)
    · rw [look_store] at h1 h2
      have g : ∀ i c, (if i = k then some (setR cs off xs) else look st.hp i) = some c → ∃ c0, look st.hp i = some c0 := fun i c hi => by
        split at hi
        · next e => subst e; exact ⟨cs, hk⟩
        · exact ⟨c, hi⟩
      obtain ⟨c0, g1⟩ := g j c h1
      obtain ⟨c1, g2⟩ := g j' c' h2
      exact h.hr.dis j j' c0 c1 g1 g2
    · rw [hown]; exact h.own
    · refine ⟨hbl.1.trans h.keep.os, hbl.2.1.trans h.keep.tape, hbl.2.2.1.trans h.keep.output, by have := h.keep.size; omega, fun b hb hn => ?_⟩
      refine (hbl.2.2.2 b fun e => ?_).trans (h.keep.block b hb hn)
      subst e
      rcases h.own _ hkown with hx | hge
      · exact hn hx
      · omega
end
end Go.Proofs.YtogmppcfopgkdaaGreatDoor

/- The abstract machine, part 7: the operations that make or change objects. No program is named here. -/
namespace Go.Proofs.YtogmppcfopgkdaaGreatDoor
open Go.RowKit
set_option linter.unusedVariables false
set_option linter.unusedSimpArgs false

/-- Operations that may change what was there. -/
def dsO : Op → Bool
  | .store .. => true
  | .mapUpdate .. => true
  | .entryStore .. => true
  | .insert .. => true
  | .call ⟨.builtin .append, _, _⟩ => true
  | .call ⟨.builtin .copy, _, _⟩ => true
  | .call ⟨.builtin .clear, _, _⟩ => true
  | .call ⟨.builtin .delete, _, _⟩ => true
  | _ => false
/-- From st the operation leads to st'. -/
def StepTo (P : Program) (E : Env) (a : Act) (o : Oper) (st' : St) (w : World) : Prop :=
  ∃ w' v, ((execOp a.eval o).run P w = .ok (.value v) w' ∨ ((execOp a.eval o).run P w = .ok .skip w' ∧ v = undef)) ∧ S E st' (a.put o.dst v) w' ∧ (dsO o.op = false → Below w.heap.size w w')

def zT (P : Program) (t : TypeId) : Option (List Value) := ((P.info? t).bind (·.zero)).map (·.cells.toList)
def freeOf (k : Nat) (cs : List AV) : Bool := cs.all fun x => !mentM k x
theorem freeOf_nil (k : Nat) : freeOf k [] = true := rfl
theorem freeOf_cons (k : Nat) (x : AV) (cs : List AV) : freeOf k (x :: cs) = (!mentM k x && freeOf k cs) := rfl
theorem freeOf_append (k : Nat) (a b : List AV) : freeOf k (a ++ b) = (freeOf k a && freeOf k b) := by simp [freeOf]
theorem freeOf_map_v (k : Nat) (l : List Value) : freeOf k (l.map .v) = true := by simp [freeOf, mentM, partM, cellM]
theorem freeOf_spec {k : Nat} {cs : List AV} (h : freeOf k cs = true) : ∀ x ∈ cs, mentM k x = false := by
  simpa [freeOf] using h

/-- A new object in the temporary d. -/
def mk (st : St) (d : Nat) (cs : List AV) (x : AV) : Option St := if d < st.nt ∧ d ∉ st.fx ∧ freeOf d cs = true then some ((st.fresh d cs).put (some d) x) else none
theorem mk_eq {st : St} {d : Nat} {cs : List AV} (x : AV) (h1 : d < st.nt) (h3 : d ∉ st.fx) (h2 : freeOf d cs = true) : mk st d cs x = some ((st.fresh d cs).put (some d) x) := by simp [mk, h1, h2, h3]

def evAlloc (P : Program) (st : St) (d : Nat) (t : TypeId) : Option St := (zT P t).bind fun z => mk st d (z.map .v) (.pt d 0)
def evBox (P : Program) (st : St) (d : Nat) (x : AV) : Option St := (cellsA x).bind fun cs => mk st d cs (.pt d 0)
def evStore (P : Program) (st : St) (t : TypeId) (p x : AV) : Option St :=
  match p with
  | .pt k off => (look st.hp k).bind fun cs => (cellsA x).bind fun xs => if szT P t = some xs.length ∧ xs.all okC = true ∧ off + xs.length ≤ cs.length then some (st.store k (setR cs off xs)) else none
  | _ => none
def litPl (sz : Nat) : Nat → Nat → List (Nat × Nat)
  | _, 0 => []
  | i, n + 1 => (i * sz, sz) :: litPl sz (i + 1) n
def evLit (P : Program) (st : St) (d : Nat) (t : TypeId) (len : Nat) (parts : List (Nat × Option AV)) : Option St :=
  (elT P t).bind fun e => if len * e.2.1 ≤ 16777216 then (aFill (litPl e.2.1 0 len) (List.replicate (len * e.2.1) .un) parts).bind fun cs => mk st d cs (.os d 0 e.2.1 len) else none
/-- make([]T, n): elements of one cell. -/
def evMake (P : Program) (st : St) (d : Nat) (t : TypeId) (l c : AV) : Option St :=
  match l, c with
  | .v (.int _ l), .v (.int _ c) => (elT P t).bind fun e => match zT P e.1 with
    | some [z] => if 0 ≤ l ∧ l = c ∧ e.2.2 * l ≤ 281474976710656 ∧ l ≤ 9223372036854775807 ∧ e.2.1 = 1 then mk st d (List.replicate l.toNat (.v z)) (.os d 0 1 l.toNat) else none
    | _ => none
  | _, _ => none
/-- The source of an append. -/
def srcC (P : Program) (hp : Hp) (sz : Nat) (tx : TypeId) (x : AV) : Option (Nat × List AV) :=
  match x with
  | .v (.string s) => match P.underlying tx with
    | some .string => if sz = 1 then some (s.size, bytesA s.data.toList) else none
    | _ => none
  | x => if isSlT P tx = true then sliceC hp x else none
def evAppend (P : Program) (st : St) (d : Nat) (t tx : TypeId) (s x : AV) : Option St :=
  (elT P t).bind fun e => (srcC P st.hp e.2.1 tx x).bind fun q =>
    match s with
    | .os k off sz n => (look st.hp k).bind fun cs =>
      if sz = e.2.1 ∧ off + n * sz ≤ cs.length ∧ q.2.length = q.1 * sz ∧ q.2.all okC = true ∧ (n + q.1) * e.2.2 ≤ 140737488355328 ∧ n + q.1 ≤ 9223372036854775807 ∧ d < st.nt ∧ k ∉ st.fx ∧ freeOf k ((cs.drop off).take (n * sz) ++ q.2) = true
      then some ((st.fresh k ((cs.drop off).take (n * sz) ++ q.2)).put (some d) (.os k 0 sz (n + q.1))) else none
    | .v (.slice none 0 0) =>
      if q.2.length = q.1 * e.2.1 ∧ q.2.all okC = true ∧ q.1 * e.2.2 ≤ 140737488355328 ∧ q.1 ≤ 9223372036854775807 ∧ d < st.nt ∧ d ∉ st.fx ∧ freeOf d q.2 = true
      then some ((st.fresh d q.2).put (some d) (.os d 0 e.2.1 q.1)) else none
    | _ => none

section
variable {P : Program} {E : Env} {ρ : Nat → Loc} {st st' : St} {a : Act} {w : World}
theorem mk_sound (h : SR E ρ st a w) {d : Nat} {cs : List AV} {x : AV} (hm : mk st d cs x = some st') {us : Array Value} {t : TypeId} {v : Value} {w1 : World} (hw1 : w1.heap = w.heap ∧ w1.os = w.os ∧ w1.tape = w.tape ∧ w1.output = w.output)
    (hr : RepC w (avd E.bad ρ st.hp) ρ cs us) (hx : ∀ av, Rep (w1.alloc (.cells us t)) av (rset ρ d ⟨w.heap.size, 0, cs.length⟩) x v) : S E st' (a.put (some d) v) (w1.alloc (.cells us t)) := by
  unfold mk at hm
  split at hm
  · next hc =>
    injection hm with hm
    subst hm
    have h1 := h.made d hc.2.1 cs us t hw1 hr (freeOf_spec hc.2.2)
    exact ⟨_, h1.put (some d) (fun t e => by injection e with e; subst e; exact hc.1) (hx _)⟩
  · cases hm
theorem RepC.map_v {av : Nat → Prop} (z : List Value) : RepC w av ρ (z.map .v) z.toArray := ⟨by simp, fun j a x hj hx => by
  simp at hj hx
  obtain ⟨y, hy, rfl⟩ := hj
  rw [hy] at hx
  injection hx with hx
  subst hx
  exact .im (.v _)⟩
theorem evAlloc_sound (h : SR E ρ st a w) {o : Oper} {d : Nat} {t : TypeId} (hd : o.dst = some d) (ho : o.op = .alloc t) (hq : evAlloc P st d t = some st') : StepTo P E a o st' w := by
  simp only [evAlloc, Option.bind_eq_some_iff] at hq
  obtain ⟨z, hz, hq⟩ := hq
  simp only [zT, Option.map_eq_some_iff, Option.bind_eq_some_iff] at hz
  obtain ⟨zv, ⟨i, hi, hzv⟩, rfl⟩ := hz
  refine ⟨w.alloc (.cells zv.cells t), .pointer (some ⟨w.heap.size, 0, none⟩), .inl ?_, ?_, fun _ => (Below.refl _ _).alloc (Nat.le_refl _) _⟩
  · simp [execOp, ho, Instr.alloc, zeroValue, typeInfo, hi, hzv, newVar, newRow]
  · rw [hd]
    refine mk_sound h hq ⟨rfl, rfl, rfl, rfl⟩ ?_ (fun av => ?_)
    · have := RepC.map_v (w := w) (av := avd E.bad ρ st.hp) (ρ := ρ) zv.cells.toList
      simpa using this
    · have := Rep.pt (w := w.alloc (.cells zv.cells t)) (av := av) (ρ := rset ρ d ⟨w.heap.size, 0, (zv.cells.toList.map AV.v).length⟩) (k := d) (off := 0)
      simpa [rset_same] using this
theorem evBox_sound (h : SR E ρ st a w) {o : Oper} {d : Nat} {t : TypeId} {x : Operand} {y : AV} (hd : o.dst = some d) (ho : o.op = .box t x) (hy : opv st x = some y) (hq : evBox P st d y = some st') : StepTo P E a o st' w := by
  simp only [evBox, Option.bind_eq_some_iff] at hq
  obtain ⟨cs, hc, hq⟩ := hq
  have hr := cellsA_sound (opv_sound h hy) hc
  refine ⟨w.alloc (.cells (a.eval x).cells t), .pointer (some ⟨w.heap.size, 0, none⟩), .inl ?_, ?_, fun _ => (Below.refl _ _).alloc (Nat.le_refl _) _⟩
  · simp [execOp, ho, Instr.box, newVar, newRow]
  · rw [hd]
    refine mk_sound h hq ⟨rfl, rfl, rfl, rfl⟩ hr (fun av => ?_)
    have := Rep.pt (w := w.alloc (.cells (a.eval x).cells t)) (av := av) (ρ := rset ρ d ⟨w.heap.size, 0, cs.length⟩) (k := d) (off := 0)
    simpa [rset_same] using this
theorem evStore_sound (h : SR E ρ st a w) {o : Oper} {t : TypeId} {p x : Operand} {yp yx : AV} (hd : o.dst = none) (ho : o.op = .store t p x) (hp : opv st p = some yp) (hx : opv st x = some yx) (hq : evStore P st t yp yx = some st') : StepTo P E a o st' w := by
  unfold evStore at hq
  split at hq
  · next k off =>
    simp only [Option.bind_eq_some_iff] at hq
    obtain ⟨cs, hk, xs, hc, hq⟩ := hq
    split at hq
    · next hcond =>
      obtain ⟨h1, h2, h3⟩ := hcond
      injection hq with hq
      subst hq
      have hr := cellsA_sound (opv_sound h hx) hc
      have hob := h.hr.obj k cs hk
      refine ⟨w.setCells (ρ k).g ((ρ k).off + off) (a.eval x).cells.toList, undef, .inr ⟨?_, rfl⟩, ?_, fun hds => by rw [ho] at hds; cases hds⟩
      · have hone : ∀ v ∈ (a.eval x).cells.toList, v.oneCell' = true := fun v hv => by
          obtain ⟨j, hj⟩ := List.mem_iff_getElem?.1 hv
          have hj' : j < xs.length := by rw [← hr.1]; simpa using (List.getElem?_eq_some_iff.1 hj).1
          exact okC_sound (hr.2 j xs[j] v (List.getElem?_eq_getElem hj') (by simpa using hj)) (List.all_eq_true.1 h2 _ (List.getElem_mem hj'))
        have hth : ∀ j, j < (a.eval x).cells.toList.length → (w.cell? ⟨(ρ k).g, (ρ k).off + off + j, none⟩).isSome = true ∧ w.frozen? ⟨(ρ k).g, (ρ k).off + off + j, none⟩ = false := fun j hj => by
          rw [Array.length_toList, hr.1] at hj
          rw [Nat.add_assoc]
          exact (hob.mem (by have := hob.len; omega)).2 (off + j) (by have := hob.len; omega)
        have hrun := run_storeCells_cells (P := P) (ρ k).g ((ρ k).off + off) (a.eval x).cells.toList 0 w (fun j hj => (hth j hj).1) (fun j hj => (hth j hj).2) hone
        simp only [Nat.add_zero] at hrun
        unfold execOp
        simp only [ho, (opv_sound h hp).pt_inv]
        simp [Instr.storeAt, Instr.sureAddr, storeVar, run_sizeOf' h1, hr.1, hrun]
      · rw [hd]; exact ⟨ρ, h.store hk h3 hr⟩
    · cases hq
  · cases hq
theorem litPl_get (sz : Nat) : ∀ (n i j : Nat) (p : Nat × Nat), (litPl sz i n)[j]? = some p → p = ((i + j) * sz, sz)
  | 0, i, j, p, h => by simp [litPl] at h
  | n + 1, i, 0, p, h => by simp [litPl] at h; subst h; rfl
  | n + 1, i, j + 1, p, h => by
    simp only [litPl, List.getElem?_cons_succ] at h
    have := litPl_get sz n (i + 1) j p h
    rw [this, show i + 1 + j = i + (j + 1) from by omega]
theorem evLit_sound (h : SR E ρ st a w) {o : Oper} {d : Nat} {t : TypeId} {len : Nat} {parts : Array (Nat × Operand)} (hd : o.dst = some d) (ho : o.op = .buildSlice t len parts)
    (hq : evLit P st d t len (parts.toList.map fun p => (p.1, opv st p.2)) = some st') : StepTo P E a o st' w := by
  simp only [evLit, Option.bind_eq_some_iff] at hq
  obtain ⟨e, he, hq⟩ := hq
  split at hq
  · next hlim =>
    rw [Option.bind_eq_some_iff] at hq
    obtain ⟨cs, hf, hq⟩ := hq
    obtain ⟨hu, hs, hpos, ⟨⟨i, z, _, hi, hz, his, hib, hzs⟩, _⟩⟩ := elT_run he
    have h0 : RepC w (avd E.bad ρ st.hp) ρ (List.replicate (len * e.2.1) .un) ((Array.range (len * e.2.1)).map (z.cells[· % z.cells.size]!)) := ⟨by simp, fun j b x hj hx => by
      rw [List.getElem?_replicate] at hj
      split at hj
      · injection hj with hj; subst hj; exact .im (.un _)
      · cases hj⟩
    obtain ⟨us', hf', hr⟩ := aFill_sound (w := w) (av := avd E.bad ρ st.hp) (ρ := ρ) (litPl e.2.1 0 len) (fun i => some (i * e.2.1, e.2.1)) (fun i p hp => by rw [litPl_get _ _ _ _ _ hp, Nat.zero_add]) _ (parts.toList.map fun p => (p.1, a.eval p.2)) _ cs _ hf h0 (by simp) (fun j p q hp hq => by
      simp at hp hq
      obtain ⟨i1, o1, h1, rfl⟩ := hp
      obtain ⟨i2, o2, h2, rfl⟩ := hq
      rw [h1] at h2
      injection h2 with h2
      injection h2 with e1 e2
      subst e1; subst e2
      exact ⟨rfl, fun x hx => opv_sound h hx⟩)
    refine ⟨w.alloc (.cells us' e.1), .slice (some ⟨w.heap.size, 0, none⟩) len len, .inl ?_, ?_, fun _ => (Below.refl _ _).alloc (Nat.le_refl _) _⟩
    · have hz2 : (zeroValue e.1).run P w = .ok z w := by simp [zeroValue, typeInfo, hi, hz]
      have hl : ¬ len * e.2.1 > 2 ^ 24 := by omega
      by_cases hlen : len * e.2.1 = 0
      · have hus : Instr.fill (fun i => some (i * e.2.1, e.2.1)) #[] (parts.toList.map fun p => (p.1, a.eval p.2)) = some us' := by
          have : (Array.range (len * e.2.1)).map (z.cells[· % z.cells.size]!) = #[] := by rw [hlen, Array.range_zero']; simp
          rw [this] at hf'; exact hf'
        have hl0 : len = 0 := by
          rcases Nat.mul_eq_zero.1 hlen with h | h
          · exact h
          · omega
        subst hl0
        simp [execOp, ho, Instr.buildSlice, run_underlying hu, run_sizeOf' hs, newRow]
        rw [Array.range_zero']
        simp [hus, newRow]
      · simp [execOp, ho, Instr.buildSlice, run_underlying hu, run_sizeOf' hs, newRow, hl, hlen, hz2]
        rw [hf']
        simp [newRow]
    · rw [hd]
      refine mk_sound h hq ⟨rfl, rfl, rfl, rfl⟩ hr (fun av => ?_)
      have hlc : cs.length = len * e.2.1 := by
        have h1 := hr.1
        have : us'.size = len * e.2.1 := by
          have h2 := aFill_len _ _ hf
          rw [h1, h2]; simp
        omega
      refine .os hpos (Nat.le_refl _) ?_ (fun hp => ⟨by rw [rset_same], by rw [rset_same]; show 0 + len * e.2.1 ≤ cs.length; omega⟩)
      have : len * 1 ≤ len * e.2.1 := Nat.mul_le_mul_left _ hpos
      omega
  · cases hq
theorem evMake_sound (h : SR E ρ st a w) {o : Oper} {d : Nat} {t : TypeId} {l c : Operand} {yl yc : AV} (hd : o.dst = some d) (ho : o.op = .makeSlice t l c) (hl : opv st l = some yl) (hc : opv st c = some yc)
    (hq : evMake P st d t yl yc = some st') : StepTo P E a o st' w := by
  unfold evMake at hq
  split at hq
  · next ik l' ck c' =>
    rw [Option.bind_eq_some_iff] at hq
    obtain ⟨e, he, hq⟩ := hq
    split at hq
    · next z hz =>
      split at hq
      · next hcond =>
        obtain ⟨q1, rfl, q3, q4, q5⟩ := hcond
        obtain ⟨hu, hs, hpos, ⟨⟨i, zv, _, hi, hzv, his, hib, hzs⟩, _⟩⟩ := elT_run he
        simp only [zT, hi, Option.bind_some, hzv, Option.map_some, Option.some.injEq] at hz
        have hrun := run_make (P := P) (w := w) t e.1 i zv hu hi hzv ik ck l' l' q1 (Int.le_refl _) (by rw [hib]; exact q3) q4
        refine ⟨w.alloc (.cells (madeCells zv.cells (l'.toNat * i.size)) e.1), .slice (some ⟨w.heap.size, 0, none⟩) l'.toNat l'.toNat, .inl ?_, ?_, fun _ => (Below.refl _ _).alloc (Nat.le_refl _) _⟩
        · unfold execOp
          simp only [ho, Rep.v_eq (opv_sound h hl), Rep.v_eq (opv_sound h hc)]
          simp [hrun]
        · rw [hd]
          refine mk_sound h hq ⟨rfl, rfl, rfl, rfl⟩ ⟨by rw [size_madeCells, his, q5]; simp, fun j b x hj hx => ?_⟩ (fun av => ?_)
          · rw [List.getElem?_replicate] at hj
            split at hj
            · injection hj with hj
              subst hj
              have hzc : zv.cells = #[z] := by apply Array.ext'; simpa using hz
              simp only [madeCells, hzc] at hx
              simp at hx
              obtain ⟨y, hy, rfl⟩ := hx
              simp [Nat.mod_one]
              exact .im (.v _)
            · cases hj
          · refine .os (by omega) (Nat.le_refl _) (by omega) (fun hp => ⟨by rw [rset_same], by rw [rset_same]; simp⟩)
      · cases hq
    · cases hq
  · cases hq
/-- The values of the cells of a piece of an object. -/
theorem obj_vals {av : Nat → Prop} {L : Loc} {cs : List AV} (hob : ObjR w av ρ L cs) {off n : Nat} (hle : off + n ≤ cs.length) :
    ∃ us : List Value, us.length = n ∧ (∀ j u, us[j]? = some u → w.cell? ⟨L.g, L.off + off + j, none⟩ = some u) ∧ ∀ (j : Nat) (x : AV) (u : Value), ((cs.drop off).take n)[j]? = some x → us[j]? = some u → Rep w av ρ x u := by
  let f : Nat → Value := fun j => (w.cell? ⟨L.g, L.off + off + j, none⟩).getD undef
  have hf : ∀ j, j < n → ∃ y, cs[off + j]? = some y ∧ w.cell? ⟨L.g, L.off + off + j, none⟩ = some (f j) ∧ Rep w av ρ y (f j) := fun j hj => by
    obtain ⟨v, hv, hr⟩ := hob.cells (off + j) cs[off + j] (List.getElem?_eq_getElem (by omega))
    rw [← Nat.add_assoc] at hv
    exact ⟨_, List.getElem?_eq_getElem (by omega), by simp [f, hv], by simp [f, hv]; exact hr⟩
  refine ⟨(List.range n).map f, by simp, fun j u hu => ?_, fun j x u hx hu => ?_⟩
  · simp at hu
    obtain ⟨i, hi, rfl⟩ := hu
    obtain ⟨h1, rfl⟩ := List.getElem?_eq_some_iff.1 hi
    simp at h1 ⊢
    obtain ⟨y, _, h2, _⟩ := hf j h1
    exact h2
  · simp at hu
    obtain ⟨i, hi, rfl⟩ := hu
    obtain ⟨h1, rfl⟩ := List.getElem?_eq_some_iff.1 hi
    simp at h1 ⊢
    rw [List.getElem?_take_of_lt h1, List.getElem?_drop] at hx
    obtain ⟨y, h3, _, h4⟩ := hf j h1
    rw [hx] at h3
    injection h3 with h3
    subst h3
    exact h4
theorem srcC_sound {size : Nat} (hobj : ∀ k cs, look st.hp k = some cs → ObjR w (avd E.bad ρ st.hp) ρ (ρ k) cs) {tx : TypeId} {x : AV} {v : Value} {n : Nat} {cs : List AV} (hx : Rep w (avd E.bad ρ st.hp) ρ x v) (h : srcC P st.hp size tx x = some (n, cs)) (hl : cs.length = n * size) (hok : cs.all okC = true) : ∃ news, Src P size tx v n news w ∧ ∀ (j : Nat) (y : AV) (u : Value), cs[j]? = some y → news[j]? = some u → Rep w (avd E.bad ρ st.hp) ρ y u := by
  have slow : isSlT P tx = true → sliceC st.hp x = some (n, cs) → ∃ news, Src P size tx v n news w ∧ ∀ (j : Nat) (y : AV) (u : Value), cs[j]? = some y → news[j]? = some u → Rep w (avd E.bad ρ st.hp) ρ y u := fun hT hs => by
    unfold isSlT at hT
    split at hT
    · next e' hu =>
      obtain ⟨A, c, rfl, q1, q2, q0, qm⟩ := sliceC_sound hobj hx hs
      rcases Nat.eq_zero_or_pos n with rfl | hn
      · have := q0 rfl
        subst this
        refine ⟨[], Src.ofReads hu (Reads.zero w size A c q2) (fun u hu => by cases hu), fun j y u hj _ => by simp at hj⟩
      · obtain ⟨b, off, rfl, hb, hc⟩ := qm hn
        let f : Nat → Value := fun j => (w.cell? ⟨b, off + j, none⟩).getD undef
        have hf : ∀ j, j < cs.length → w.cell? ⟨b, off + j, none⟩ = some (f j) ∧ Rep w (avd E.bad ρ st.hp) ρ (cs.getD j .un) (f j) := fun j hj => by
          obtain ⟨y, hy, hr⟩ := hc j cs[j] (List.getElem?_eq_getElem hj)
          exact ⟨by simp [f, hy], by simp [f, hy, List.getD, List.getElem?_eq_getElem hj]; exact hr⟩
        have hget : ∀ j u, ((List.range cs.length).map f)[j]? = some u → j < cs.length ∧ u = f j := fun j u hu => by
          simp at hu
          obtain ⟨i, hi, rfl⟩ := hu
          obtain ⟨h1, rfl⟩ := List.getElem?_eq_some_iff.1 hi
          simp at h1 ⊢
          exact h1
        refine ⟨(List.range cs.length).map f, Src.ofReads hu ⟨q1, q2, by simpa using hl, fun _ => ⟨b, off, rfl, hb, fun j u hu => ?_⟩⟩ (fun u hu => ?_), fun j y u hj hu => ?_⟩
        · obtain ⟨g1, rfl⟩ := hget j u hu
          exact (hf j g1).1
        · obtain ⟨j, hj⟩ := List.mem_iff_getElem?.1 hu
          obtain ⟨g1, rfl⟩ := hget j u hj
          refine okC_sound (hf j g1).2 ?_
          rw [List.getD, List.getElem?_eq_getElem g1]
          exact List.all_eq_true.1 hok _ (List.getElem_mem g1)
        · obtain ⟨g1, rfl⟩ := hget j u hu
          have := (hf j g1).2
          rw [List.getD, hj] at this
          exact this
    · cases hT
  unfold srcC at h
  split at h
  · next s =>
    split at h
    · next hu =>
      split at h
      · next hsz =>
        subst hsz
        injection h with h
        injection h with e1 e2
        subst e1; subst e2
        rw [hx.v_eq]
        refine ⟨byteCells s, Src.ofString w hu s, fun j y u hj huu => ?_⟩
        simp [bytesA] at hj
        simp [byteCells] at huu
        obtain ⟨x1, g1, rfl⟩ := hj
        obtain ⟨x2, g2, rfl⟩ := huu
        rw [g1] at g2
        injection g2 with g2
        subst g2
        exact .im (.v _)
      · cases h
    · cases h
  · split at h
    · next hT => exact slow hT h
    · cases h
end
end Go.Proofs.YtogmppcfopgkdaaGreatDoor

/- The abstract machine, part 8: append; all operations but calls. No program is named here. -/
namespace Go.Proofs.YtogmppcfopgkdaaGreatDoor
open Go.RowKit
set_option linter.unusedVariables false
set_option linter.unusedSimpArgs false
section
variable {P : Program} {E : Env} {ρ : Nat → Loc} {st st' : St} {a : Act} {w : World}
/-- An append to a slice that reads as us: what is known of it was cs0. -/
theorem append_core (h : SR E ρ st a w) {o : Oper} {d k : Nat} {t tx : TypeId} {e : TypeId × Nat × Nat} {s x : Operand} {A : Option Addr} {n c m : Nat} {us news : List Value} {cs0 xs : List AV} (he : elT P t = some e)
    (hd : o.dst = some d) (ho : o.op = .call { callee := .builtin .append, args := #[s, x], argTypes := #[t, tx] }) (hs : a.eval s = .slice A n c) (hown : Owns w 0 e.2.1 A n c us)
    (hA : ∀ b, own A c = some b → blockOf ρ st.hp k b) (hsrc : Src P e.2.1 tx (a.eval x) m news w)
    (h0 : ∀ (j : Nat) (y : AV) (u : Value), cs0[j]? = some y → us[j]? = some u → Rep w (avd E.bad ρ st.hp) ρ y u) (h0l : cs0.length = n * e.2.1)
    (h1 : ∀ (j : Nat) (y : AV) (u : Value), xs[j]? = some y → news[j]? = some u → Rep w (avd E.bad ρ st.hp) ρ y u) (h1l : xs.length = m * e.2.1)
    (h63 : n + m ≤ 9223372036854775807) (hbytes : (n + m) * e.2.2 ≤ 140737488355328) (hdn : d < st.nt) (hfx : k ∉ st.fx) (hfree : freeOf k (cs0 ++ xs) = true) :
    StepTo P E a o ((st.fresh k (cs0 ++ xs)).put (some d) (.os k 0 e.2.1 (n + m))) w := by
  obtain ⟨hu, hsz, hpos, T⟩ := elT_run he
  obtain ⟨A', c', w', hr, hown', hg, hwhere⟩ := run_append_owns (ty := o.type) T hown hsrc h63 hbytes (Nat.zero_le _)
  have hlen : (cs0 ++ xs).length = (n + m) * e.2.1 := by rw [List.length_append, h0l, h1l, Nat.add_mul]
  have key : ∃ L : Loc, (0 < c' → A' = some ⟨L.g, L.off, none⟩ ∧ L.cap = c' * e.2.1) ∧ (c' = 0 → L.cap = 0) := by
    rcases Nat.eq_zero_or_pos c' with rfl | hc
    · exact ⟨⟨0, 0, 0⟩, fun h => absurd h (by omega), fun _ => rfl⟩
    · obtain ⟨g, off, e1, _⟩ := hown'.2.2.2 hc
      exact ⟨⟨g, off, c' * e.2.1⟩, fun _ => ⟨e1, rfl⟩, fun h => absurd h (by omega)⟩
  obtain ⟨L, hL1, hL0⟩ := key
  have hcap : L.cap = c' * e.2.1 := by
    rcases Nat.eq_zero_or_pos c' with rfl | hc
    · rw [hL0 rfl, Nat.zero_mul]
    · exact (hL1 hc).2
  have hcpos : 0 < L.cap → 0 < c' := fun hp => Nat.pos_of_ne_zero fun hz => by have := hL0 hz; omega
  have hnm : n + m ≤ c' := hown'.1
  have hmul : (n + m) * e.2.1 ≤ c' * e.2.1 := Nat.mul_le_mul_right _ hnm
  have hS := h.fresh (w' := w') k hfx L (cs0 ++ xs) hg.os hg.tape hg.output hg.size (fun b hb hn => hg.block b hb (fun e => hn (hA b e.symm))) (fun hp => by
      have hc := hcpos hp
      have e1 := (hL1 hc).1
      have hoA : own A' c' = some L.g := by rw [e1]; exact own_pos hc
      rcases hwhere with hw | hw
      · exact .inl (hA _ (by rw [← hw]; exact hoA))
      · rw [hoA] at hw; injection hw with hw; exact .inr (by omega)) (by rw [hlen, hcap]; exact hmul) (fun hp => by
      have hc := hcpos hp
      obtain ⟨g, off, e1, _, hlt, hth, _⟩ := hown'.2.2.2 hc
      have e2 := (hL1 hc).1
      rw [e2] at e1
      injection e1 with e1
      injection e1 with e3 e4
      subst e3; subst e4
      exact ⟨hlt, fun j hj => hth j (by rw [← hcap]; exact hj)⟩) (fun j y hj => by
      have hjl : j < (cs0 ++ xs).length := (List.getElem?_eq_some_iff.1 hj).1
      have hc : 0 < c' := Nat.pos_of_ne_zero fun hz => by rw [hz, Nat.zero_mul] at hmul; omega
      obtain ⟨g, off, e1, _, hlt, hth, hcell⟩ := hown'.2.2.2 hc
      have e2 := (hL1 hc).1
      rw [e2] at e1
      injection e1 with e1
      injection e1 with e3 e4
      subst e3; subst e4
      have hul : us.length = cs0.length := by rw [hown.2.2.1, h0l]
      by_cases hj0 : j < cs0.length
      · have hju : j < us.length := by omega
        refine ⟨us[j], hcell j _ (by rw [List.getElem?_append_left hju, List.getElem?_eq_getElem hju]), h0 j y us[j] (by rwa [List.getElem?_append_left hj0] at hj) (List.getElem?_eq_getElem hju)⟩
      · rw [List.getElem?_append_right (by omega)] at hj
        have hjx : j - cs0.length < xs.length := (List.getElem?_eq_some_iff.1 hj).1
        have hjn : j - cs0.length < news.length := by rw [hsrc.newsLen, ← h1l]; exact hjx
        refine ⟨news[j - cs0.length], hcell j _ (by rw [List.getElem?_append_right (by omega), hul, List.getElem?_eq_getElem hjn]), h1 _ y _ hj (List.getElem?_eq_getElem hjn)⟩) (freeOf_spec hfree)
  refine ⟨w', .slice A' (n + m) c', .inl ?_, ?_, fun hds => by rw [ho] at hds; cases hds⟩
  · unfold execOp
    simp only [ho, resolve, invoke, builtin, Sem.run_bind, Sem.run_pure, Result.andThen_ok, List.map_toArray, List.map_cons, List.map_nil, hs, hr]
  · rw [hd]
    refine ⟨_, hS.put (some d) (fun t e => by injection e with e; subst e; exact hdn) ?_⟩
    refine .os hpos hown'.1 hown'.2.1 (fun hc => ?_)
    rw [rset_same]
    exact ⟨(hL1 hc).1, by rw [hcap]; omega⟩

theorem evAppend_sound (h : SR E ρ st a w) {o : Oper} {d : Nat} {t tx : TypeId} {s x : Operand} {ys yx : AV} (hd : o.dst = some d) (ho : o.op = .call { callee := .builtin .append, args := #[s, x], argTypes := #[t, tx] })
    (hs : opv st s = some ys) (hx : opv st x = some yx) (hq : evAppend P st d t tx ys yx = some st') : StepTo P E a o st' w := by
  simp only [evAppend, Option.bind_eq_some_iff] at hq
  obtain ⟨e, he, ⟨m, xs⟩, hsc, hq⟩ := hq
  have hobj := h.hr.obj
  split at hq
  · next k off sz n =>
    simp only [Option.bind_eq_some_iff] at hq
    obtain ⟨cs, hk, hq⟩ := hq
    split at hq
    · next hc =>
      obtain ⟨rfl, c1, c2, c3, c4, c5, c6, c8, c7⟩ := hc
      injection hq with hq
      subst hq
      try simp only at c2 c3 c4 c5 c7
      obtain ⟨news, hsrc, hrs⟩ := srcC_sound hobj (opv_sound h hx) hsc c2 c3
      obtain ⟨A, c, ev, q0, q1, q2, qm⟩ := (opv_sound h hs).os_inv
      have hob := hobj k cs hk
      obtain ⟨us, u1, u2, u3⟩ := obj_vals hob c1
      have hcap : 0 < c → 0 < (ρ k).cap := fun hc => by
        have := (qm hc).2
        have : 0 < c * e.2.1 := Nat.mul_pos hc q0
        omega
      refine append_core (k := k) (us := us) (news := news) (cs0 := (cs.drop off).take (n * e.2.1)) (xs := xs) h he hd ho ev ⟨q1, q2, u1, fun hc => ?_⟩ (fun b hb => ?_) hsrc u3 (by rw [List.length_take, List.length_drop]; omega) hrs c2 c5 c4 c6 c8 c7
      · obtain ⟨rfl, q4⟩ := qm hc
        refine ⟨_, _, rfl, Nat.zero_le _, (hob.mem (hcap hc)).1, fun j hj => ?_, u2⟩
        rw [Nat.add_assoc]
        exact (hob.mem (hcap hc)).2 _ (by omega)
      · rcases Nat.eq_zero_or_pos c with rfl | hc
        · simp [own] at hb
        · obtain ⟨rfl, q4⟩ := qm hc
          rw [own_pos hc] at hb
          injection hb with hb
          exact ⟨cs, hk, hcap hc, hb⟩
    · cases hq
  · split at hq
    · next hc =>
      obtain ⟨c2, c3, c4, c5, c6, c8, c7⟩ := hc
      injection hq with hq
      subst hq
      try simp only at c2 c3 c4 c5 c7
      obtain ⟨news, hsrc, hrs⟩ := srcC_sound hobj (opv_sound h hx) hsc c2 c3
      have ev := Rep.v_eq (opv_sound h hs)
      have := append_core (k := d) (us := []) (news := news) (cs0 := []) (xs := xs) h he hd ho ev (Owns.nil w 0 _) (fun b hb => by simp [own] at hb) hsrc (fun j y u hj => by simp at hj) (by simp) hrs c2 (by omega) (by rw [Nat.zero_add]; exact c4) c6 c8 c7
      simpa using this
    · cases hq
  · cases hq

/-- All operations but calls of functions. -/
def ev (P : Program) (st : St) (o : Oper) : Option St :=
  match o.dst, o.op with
  | some d, .alloc t => evAlloc P st d t
  | some d, .box _ x => (opv st x).bind (evBox P st d)
  | none, .store t p x => (opv st p).bind fun p => (opv st x).bind (evStore P st t p)
  | some d, .buildSlice t n parts => evLit P st d t n (parts.toList.map fun p => (p.1, opv st p.2))
  | some d, .makeSlice t l c => (opv st l).bind fun l => (opv st c).bind (evMake P st d t l)
  | some d, .call ⟨.builtin .append, ⟨[s, x]⟩, ⟨[t, tx]⟩⟩ => (opv st s).bind fun s => (opv st x).bind (evAppend P st d t tx s)
  | some d, op => if d < st.nt then (qv P st op o.type).map fun x => st.put (some d) x else none
  | none, op => (qv P st op o.type).map fun _ => st
theorem ev_sound (h : SR E ρ st a w) {o : Oper} (hq : ev P st o = some st') : StepTo P E a o st' w := by
  unfold ev at hq
  split at hq
  · next d t h1 h2 => exact evAlloc_sound h h1 h2 hq
  · next d t x h1 h2 =>
    rw [Option.bind_eq_some_iff] at hq
    obtain ⟨y, hy, hq⟩ := hq
    exact evBox_sound h h1 h2 hy hq
  · next t p x h1 h2 =>
    simp only [Option.bind_eq_some_iff] at hq
    obtain ⟨yp, hp, yx, hx, hq⟩ := hq
    exact evStore_sound h h1 h2 hp hx hq
  · next d t n parts h1 h2 => exact evLit_sound h h1 h2 hq
  · next d t l c h1 h2 =>
    simp only [Option.bind_eq_some_iff] at hq
    obtain ⟨yp, hp, yx, hx, hq⟩ := hq
    exact evMake_sound h h1 h2 hp hx hq
  · next d s x t tx h1 h2 =>
    simp only [Option.bind_eq_some_iff] at hq
    obtain ⟨yp, hp, yx, hx, hq⟩ := hq
    exact evAppend_sound h h1 h2 hp hx hq
  · have h1 := ‹o.dst = some _›
    split at hq
    · next hd =>
      rw [Option.map_eq_some_iff] at hq
      obtain ⟨x, hx, rfl⟩ := hq
      obtain ⟨v, hv, hr⟩ := qv_sound h hx
      refine ⟨w, v, .inl (hv w (fun _ => Ext.refl w)), ⟨ρ, ?_⟩, fun _ => Below.refl _ _⟩
      rw [h1]
      exact h.put (some _) (fun t e => by injection e with e; subst e; exact hd) hr
    · cases hq
  · have h1 := ‹o.dst = none›
    rw [Option.map_eq_some_iff] at hq
    obtain ⟨x, hx, rfl⟩ := hq
    obtain ⟨v, hv, hr⟩ := qv_sound h hx
    refine ⟨w, v, .inl (hv w (fun _ => Ext.refl w)), ⟨ρ, ?_⟩, fun _ => Below.refl _ _⟩
    rw [h1]
    exact h
end
end Go.Proofs.YtogmppcfopgkdaaGreatDoor
