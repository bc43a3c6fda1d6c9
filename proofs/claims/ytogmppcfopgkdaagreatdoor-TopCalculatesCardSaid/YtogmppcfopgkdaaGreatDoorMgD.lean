/- The abstract machine, parts V to Z. No program is named here. -/
import Derived.Test.YtogmppcfopgkdaaGreatDoorMgC
import Derived.Shelf.Strings.Builder1
import Derived.Scope
import Derived.Laws.IdiomStrings
/- The abstract machine, part 22: drawn regions whose operations may be taken in their own order, checked once. No program is named here. -/
namespace Go.Proofs.YtogmppcfopgkdaaGreatDoor
open Go.RowKit
set_option linter.unusedVariables false
set_option linter.unusedSimpArgs false
/-- The first i of n are listed. -/
def pre (n i : Nat) : Array Bool := (List.replicate i true ++ List.replicate (n - i) false).toArray
end Go.Proofs.YtogmppcfopgkdaaGreatDoor

/- The abstract machine, part 24: a strings.Builder of one's own beside the state. No program is named here. -/
namespace Go.Proofs.YtogmppcfopgkdaaGreatDoor
open Go.RowKit
set_option linter.unusedVariables false
set_option linter.unusedSimpArgs false

/-- A builder: its number and what it holds. -/
abbrev Bo := Option (Nat × List UInt8)
/-- A builder in block b that holds l; its buffer is v. -/
def BdF (T e : TypeId) (B b : Nat) (v : Value) (l : List UInt8) (w : World) : Prop :=
  B ≤ b ∧ (∃ p, (p = .pointer none ∨ p = .pointer (some ⟨b, 0, none⟩)) ∧ w.heap[b]? = some (.cells #[p, v] T (0, 0))) ∧ w.ownsRow B e 1 v l.length (Lib.byteCells l) ∧ v.ownBlock ≠ some b ∧ (v = .slice none 0 0 ∨ ∃ A n c, v = .slice A n c ∧ 0 < c)
/-- How the run's frame is narrowed while there is a builder: its blocks are not touched. -/
def Lnk (T e : TypeId) (E : Env) (bo : Bo) (fx : List Nat) (E' : Env) : Prop :=
  match bo with
  | none => E' = E
  | some (k, l) => ∃ b v fx', fx = k :: fx' ∧ (E'.ρ0 k).g = b ∧ (E'.ρ0 k).off = 0 ∧ BdF T e E.w0.heap.size b v l E'.w0 ∧ (∀ x, E'.bad x ↔ E.bad x ∨ x = b ∨ v.ownBlock = some x) ∧ (¬ E'.X b ∧ ∀ g, v.ownBlock = some g → ¬ E'.X g) ∧
    Keeps E.w0 E'.w0 E.X ∧ (∀ x, E'.X x → E.X x ∨ E.w0.heap.size ≤ x) ∧ ((∀ b, E.bad b → b < E.w0.heap.size) ∧ Glob E.w0 ∧ ∀ b, E.X b → ¬ gblk b) ∧ E'.ds = E.ds ∧ ∀ i ∈ fx', E'.ρ0 i = E.ρ0 i
def SB (T e : TypeId) (E : Env) (st : St) (bo : Bo) (a : Act) (w : World) : Prop := ∃ E', Lnk T e E bo st.fx E' ∧ S E' st a w
/-- The state when the builder is forgotten. -/
def dropB (st : St) (bo : Bo) : St := match bo with
  | none => st
  | some _ => { st with fx := st.fx.tail }
theorem dropB_none (st : St) : dropB st none = st := rfl
theorem dropB_some (fr : List (Nat × AV)) (hp : Hp) (nt k : Nat) (fx : List Nat) (x : Nat × List UInt8) : dropB ⟨fr, hp, nt, k :: fx⟩ (some x) = ⟨fr, hp, nt, fx⟩ := rfl
attribute [go_sem] dropB_none dropB_some
def QQB (T e : TypeId) (E : Env) (Q : Exit → St → Bo → Prop) : Exit → Act → World → Prop := fun x a w => ∃ st bo, SB T e E st bo a w ∧ Q x st bo
def awB (P : Program) (T e : TypeId) (c : Code) (st : St) (bo : Bo) (Q : Exit → St → Bo → Prop) : Prop := ∀ E a w, SB T e E st bo a w → c.wp P (QQB T e E Q) a w
def awBO (P : Program) (T e : TypeId) (ops : Array Oper) (l : List Oper) (st : St) (bo : Bo) (Q : Exit → St → Bo → Prop) : Prop := ∀ E a w, SB T e E st bo a w → wpList P ops (QQB T e E Q) l a w
def thenB (K : St → Bo → Prop) (Q : Exit → St → Bo → Prop) : Exit → St → Bo → Prop
  | .normal, st, bo => K st bo
  | x, st, bo => Q x st bo
def blkB (id : Nat) (Q : Exit → St → Bo → Prop) : Exit → St → Bo → Prop
  | .exit i, st, bo => if i = id then Q .normal st bo else Q (.exit i) st bo
  | x, st, bo => Q x st bo
theorem thenB_normal (K : St → Bo → Prop) (Q : Exit → St → Bo → Prop) (st : St) (bo : Bo) : thenB K Q .normal st bo = K st bo := rfl
theorem thenB_exit (K : St → Bo → Prop) (Q : Exit → St → Bo → Prop) (i : Nat) (st : St) (bo : Bo) : thenB K Q (.exit i) st bo = Q (.exit i) st bo := rfl
theorem thenB_ret (K : St → Bo → Prop) (Q : Exit → St → Bo → Prop) (st : St) (bo : Bo) : thenB K Q .ret st bo = Q .ret st bo := rfl
theorem blkB_normal (id : Nat) (Q : Exit → St → Bo → Prop) (st : St) (bo : Bo) : blkB id Q .normal st bo = Q .normal st bo := rfl
theorem blkB_exit (id : Nat) (Q : Exit → St → Bo → Prop) (i : Nat) (st : St) (bo : Bo) : blkB id Q (.exit i) st bo = if i = id then Q .normal st bo else Q (.exit i) st bo := rfl
theorem blkB_ret (id : Nat) (Q : Exit → St → Bo → Prop) (st : St) (bo : Bo) : blkB id Q .ret st bo = Q .ret st bo := rfl
set_option linter.defProp false in
def CTB := And.intro @dropB_none <| And.intro @dropB_some <| And.intro @thenB_normal <| And.intro @thenB_exit <| And.intro @thenB_ret <| And.intro @blkB_normal <| And.intro @blkB_exit <| And.intro @blkB_ret <| trivial
structure KontB (P : Program) (T e : TypeId) (y : Code) (Q : Exit → St → Bo → Prop) (K : St → Bo → Prop) : Prop where
  go : ∀ st bo, awB P T e y st bo Q → K st bo

section
variable {P : Program} {T e : TypeId} {E : Env} {st st' : St} {bo : Bo} {a : Act} {w : World} {Q : Exit → St → Bo → Prop}
theorem SB.someSR (h : SB T e E st bo a w) : ∃ E' ρ w1, SR E' ρ st a w1 := by
  obtain ⟨E', _, ρ, h⟩ := h
  exact ⟨E', ρ, w, h⟩
theorem SR.wider {E E' : Env} {ρ : Nat → Loc} {k b : Nat} {v : Value} {l : List UInt8} {fr : List (Nat × AV)} {hp : Hp} {nt : Nat} {fx fx' : List Nat} (h : SR E' ρ ⟨fr, hp, nt, fx⟩ a w) (hfx : ∀ i ∈ fx', i ∈ fx)
    (hbad : ∀ x, E.bad x → E'.bad x) (hk : Keeps E.w0 E'.w0 E.X) (hX : ∀ x, E'.X x → E.X x ∨ E.w0.heap.size ≤ x) (hb : (∀ b, E.bad b → b < E.w0.heap.size) ∧ Glob E.w0 ∧ ∀ b, E.X b → ¬ gblk b) (hρ : E'.ds = E.ds ∧ ∀ i ∈ fx', E'.ρ0 i = E.ρ0 i) : SR E ρ ⟨fr, hp, nt, fx'⟩ a w := by
  have hav : ∀ x, avd E.bad ρ hp x → avd E'.bad ρ hp x := fun x hx => hx.imp (hbad x) id
  refine ⟨fun t x hx => (h.fr t x hx).tr (Nat.le_refl _) (fun _ _ _ _ => rfl) (fun x _ => hav x) (fun _ h => absurd rfl h), ⟨fun j cs hj => (h.hr.obj j cs hj).tr (Nat.le_refl _) (fun _ => rfl) (fun _ _ _ _ => rfl) (fun x _ => hav x) (fun _ h => absurd rfl h), h.hr.dis⟩, fun x hx => ?_, ?_, hb, fun x hx hx' => h.nb x hx (hbad x hx'), h.size, h.defers.trans hρ.1, fun i hi => (h.fx i (hfx i hi)).trans (hρ.2 i hi)⟩
  · rcases h.own x hx with h1 | h1
    · exact hX x h1
    · exact .inr (Nat.le_trans hk.size h1)
  · refine ⟨h.keep.os.trans hk.os, h.keep.tape.trans hk.tape, h.keep.output.trans hk.output, Nat.le_trans hk.size h.keep.size, fun x hx hn => ?_⟩
    refine (h.keep.block x (Nat.lt_of_lt_of_le hx hk.size) fun hX' => ?_).trans (hk.block x hx hn)
    rcases hX x hX' with h1 | h1
    · exact hn h1
    · omega
theorem SB.toS (h : SB T e E st bo a w) : S E (dropB st bo) a w := by
  obtain ⟨E', hl, ρ, h⟩ := h
  cases bo with
  | none => cases hl; exact ⟨ρ, h⟩
  | some p =>
    obtain ⟨b, v, fx', h1, h2, h3, h4, h5, h6, h7, h8, h9, h10⟩ := hl
    obtain ⟨fr, hp, nt, fx⟩ := st
    simp only at h1
    subst h1
    exact ⟨ρ, SR.wider (b := b) (v := v) (l := p.2) (k := p.1) h (fun i hi => List.mem_cons_of_mem _ hi) (fun x hx => (h5 x).2 (.inl hx)) h7 h8 h9 h10⟩
theorem SB.sub (hs : Sub st' st) (h : SB T e E st bo a w) : SB T e E st' bo a w := by
  obtain ⟨E', hl, h⟩ := h
  exact ⟨E', by rw [hs.fx]; exact hl, hs.S h⟩
theorem SB.putv (h : SB T e E st bo a w) (d : Option Nat) (hd : ∀ t, d = some t → t < st.nt) (v : Value) : SB T e E (st.put d (.v v)) bo (a.put d v) w := by
  obtain ⟨E', hl, ρ, h⟩ := h
  refine ⟨E', ?_, ρ, h.put d hd (.im (.v _))⟩
  cases d <;> exact hl
theorem aw_of_awB {c : Code} {Q : Exit → St → Prop} (T e : TypeId) (h : awB P T e c st none (fun x st bo => Q x (dropB st bo))) : aw P c st Q := fun E a w hS =>
  wp_mono (h E a w ⟨E, rfl, hS⟩) fun x a' w' ⟨st', bo', hs, hq⟩ => ⟨dropB st' bo', hs.toS, hq⟩
theorem awB_seq {x y : Code} (h : ∀ K, KontB P T e y Q K → awB P T e x st bo (thenB K Q)) : awB P T e (.seq x y) st bo Q := fun E a w hS => by
  refine wp_seq (wp_mono (h (fun st bo => awB P T e y st bo Q) ⟨fun _ _ h => h⟩ E a w hS) fun x a' w' hq => ?_)
  obtain ⟨st', bo', hs, hq⟩ := hq
  cases x <;> first
    | exact hq E a' w' hs
    | exact ⟨st', bo', hs, hq⟩
theorem awB_skip (h : Q .normal st bo) : awB P T e .skip st bo Q := fun E a w hS => wp_skip ⟨st, bo, hS, h⟩
theorem awB_exit {id : Nat} (h : Q (.exit id) st bo) : awB P T e (.exit id) st bo Q := fun E a w hS => wp_exit ⟨st, bo, hS, h⟩
theorem awB_ret (h : Q .ret st bo) : awB P T e .ret st bo Q := fun E a w hS => wp_ret ⟨st, bo, hS, h⟩
theorem awB_block {id : Nat} {c : Code} (h : awB P T e c st bo (blkB id Q)) : awB P T e (.block id c) st bo Q := fun E a w hS => by
  refine wp_block (wp_mono (h E a w hS) fun x a' w' hq => ?_)
  obtain ⟨st', bo', hs, hq⟩ := hq
  cases x with
  | exit i =>
    simp only [blkB] at hq
    simp only [Exit.inBlock]
    split
    · next hi => rw [if_pos hi] at hq; exact ⟨st', bo', hs, hq⟩
    · next hi => rw [if_neg hi] at hq; exact ⟨st', bo', hs, hq⟩
  | _ => exact ⟨st', bo', hs, hq⟩
theorem awB_cond {c : Operand} {x y : Code} {t : Bool} (hc : opv st c = some (.v (.bool t))) (ht : t = true → awB P T e x st bo Q) (hf : t = false → awB P T e y st bo Q) : awB P T e (.cond c x y) st bo Q := fun E a w hS => by
  obtain ⟨E', ρ, w1, hS'⟩ := hS.someSR
  exact wp_cond_split (Rep.v_eq (opv_sound hS' hc)) (fun h => ht h E a w hS) (fun h => hf h E a w hS)
theorem awB_loop {α : Type} {c : Code} (F : α → St) (bs : α → Bo) (I : α → Prop) (μ : α → Nat) (x0 : α) (h0 : I x0) (hs : Sub (F x0) st) (hb : bo = bs x0)
    (round : ∀ x, I x → awB P T e c (F x) (bs x) (thenB (fun st' bo' => ∃ y, I y ∧ μ y < μ x ∧ Sub (F y) st' ∧ bo' = bs y) Q)) : awB P T e (.loop c) st bo Q := fun E a w hS => by
  subst hb
  refine wp_loop_ghost (fun n a' w' => ∃ x, μ x = n ∧ I x ∧ SB T e E (F x) (bs x) a' w') (μ x0) ⟨x0, rfl, h0, hS.sub hs⟩ ?_
  rintro n a' w' ⟨x, rfl, hI, hx⟩
  refine wp_mono (round x hI E a' w' hx) fun x' a2 w2 hq => ?_
  obtain ⟨st2, bo2, h2, hq⟩ := hq
  cases x' with
  | normal =>
    obtain ⟨y, hy, hlt, hsub, rfl⟩ := hq
    exact ⟨μ y, hlt, y, rfl, hy, h2.sub hsub⟩
  | _ => exact ⟨st2, bo2, h2, hq⟩
/-- What a round hands on. -/
def LEB {α : Type} (I : α → Prop) (μ : α → Nat) (vs : α → List (Nat × AV)) (keep : List (Nat × AV)) (hs : α → Hp) (bs : α → Bo) (nt : Nat) (fx : List Nat) (x : α) : St → Bo → Prop := fun st' bo' =>
  ∃ y, I y ∧ μ y < μ x ∧ subL (vs y) st'.fr ∧ subL keep st'.fr ∧ subL (hs y) st'.hp ∧ nt = st'.nt ∧ fx = st'.fx ∧ bo' = bs y
theorem LEB_mk {α : Type} {I : α → Prop} {μ : α → Nat} {vs : α → List (Nat × AV)} {keep : List (Nat × AV)} {hs : α → Hp} {bs : α → Bo} {nt : Nat} {fx : List Nat} {x : α} {fr' : List (Nat × AV)} {hp' : Hp} {bo' : Bo} (y : α) (h1 : I y) (h2 : μ y < μ x) (h6 : bo' = bs y) (h3 : subL (vs y) fr') (h4 : subL keep fr') (h5 : subL (hs y) hp') :
    LEB I μ vs keep hs bs nt fx x ⟨fr', hp', nt, fx⟩ bo' := ⟨y, h1, h2, h3, h4, h5, rfl, rfl, h6⟩
theorem awB_loopF {α : Type} {c : Code} {fr : List (Nat × AV)} {hp : Hp} {nt : Nat} {fx : List Nat} (vs : α → List (Nat × AV)) (hs : α → Hp) (bs : α → Bo) (I : α → Prop) (μ : α → Nat) (x0 : α) (h0 : I x0) (hb : bo = bs x0) (h1 : subL (vs x0) fr) (h2 : subL (hs x0) hp)
    (round : ∀ x, I x → awB P T e c ⟨vs x ++ cutL (dsts c) fr, hs x, nt, fx⟩ (bs x) (thenB (LEB I μ vs (cutL (dsts c) fr) hs bs nt fx x) Q)) : awB P T e (.loop c) ⟨fr, hp, nt, fx⟩ bo Q :=
  awB_loop (fun x => ⟨vs x ++ cutL (dsts c) fr, hs x, nt, fx⟩) bs I μ x0 h0 ⟨fun p hp => by
      rcases List.mem_append.1 hp with h | h
      · exact subL_spec h1 p h
      · exact (cutL_spec _ _ p h).2, subL_spec h2, rfl, rfl⟩ hb fun x hx E a w hS => wp_mono (round x hx E a w hS) fun x' a' w' ⟨st', bo', hs', hq⟩ => by
    cases x' with
    | normal =>
      obtain ⟨y, q1, q2, q3, q4, q5, q6, q7, q8⟩ := hq
      refine ⟨st', bo', hs', y, q1, q2, ⟨fun p hp => ?_, subL_spec q5, q6, q7⟩, q8⟩
      rcases List.mem_append.1 hp with h | h
      · exact subL_spec q3 p h
      · exact subL_spec q4 p h
    | _ => exact ⟨st', bo', hs', hq⟩
end

section
variable {P : Program} {T e : TypeId} {st st' : St} {bo : Bo} {Q : Exit → St → Bo → Prop} {ops : Array Oper} {rest : List Oper} {o : Oper}
theorem awBO_nil (h : Q .normal st bo) : awBO P T e ops [] st bo Q := fun E a w hS => wpList_nil ⟨st, bo, hS, h⟩
theorem awB_region {id : Nat} {l : List Oper} (h : awBO P T e l.toArray l st bo Q) : awB P T e (.region id l.toArray false) st bo Q := fun E a w hS => wp_region_lit (h E a w hS)
theorem awBO_st {st2 : St} (hs : some st = some st2) {l : List Oper} (h : awBO P T e ops l st2 bo Q) : awBO P T e ops l st bo Q := by injection hs with hs; rw [hs]; exact h
theorem awBO_ev {fr fr' : List (Nat × AV)} {hp hp' : Hp} {nt : Nat} {fx : List Nat} (hg : o.guard = none) (h : ev P ⟨fr, hp, nt, fx⟩ o = some ⟨fr', hp', nt, fx⟩) (hr : awBO P T e ops rest ⟨fr', hp', nt, fx⟩ bo Q) : awBO P T e ops (o :: rest) ⟨fr, hp, nt, fx⟩ bo Q := fun E a w ⟨E', hl, ρ, hS⟩ =>
  wpList_plain hg fun K hK => wp_stepTo (ev_sound hS h) fun a' w' hs => hK _ _ (hr E a' w' ⟨E', hl, hs⟩)
theorem SB.same {E : Env} {a : Act} {w : World} {fr : List (Nat × AV)} {hp : Hp} {nt : Nat} {fx : List Nat} {t : Nat} {x : AV} (hx : look fr t = some x) (hS : SB T e E ⟨fr, hp, nt, fx⟩ bo a w) : SB T e E ⟨(t, x) :: fr, hp, nt, fx⟩ bo a w := by
  obtain ⟨E', hl, ρ, h⟩ := hS
  refine ⟨E', hl, ρ, fun t' y hy => ?_, h.hr, h.own, h.keep, h.bad, h.nb, h.size, h.defers, h.fx⟩
  rw [look_cons] at hy
  split at hy
  · next e => subst e; injection hy with hy; subst hy; exact h.fr t _ hx
  · exact h.fr t' y hy
theorem BdF.lt {B b : Nat} {v : Value} {l : List UInt8} {w : World} (h : BdF T e B b v l w) : b < w.heap.size ∧ ∀ g, v.ownBlock = some g → g < w.heap.size ∧ B ≤ g := by
  obtain ⟨h1, ⟨p, hp, hb⟩, h3, h4⟩ := h
  have hlt : ∀ {g : Nat} {x : Obj}, w.heap[g]? = some x → g < w.heap.size := fun {g x} hg => by
    rcases Nat.lt_or_ge g w.heap.size with h | h
    · exact h
    · simp [Array.getElem?_eq_none h] at hg
  refine ⟨hlt hb, fun g hg => ?_⟩
  rcases h3.2 with ⟨rfl, _⟩ | ⟨g', cap, cur, rfl, q1, q2, _⟩
  · simp [Value.ownBlock] at hg
  · simp [Value.ownBlock] at hg
    subst hg
    exact ⟨hlt q2, q1⟩
/-- It depends on its own blocks alone. -/
theorem BdF.kept {B b : Nat} {v : Value} {l : List UInt8} {w w' : World} (h : BdF T e B b v l w) (hb : w'.heap[b]? = w.heap[b]?) (hg : ∀ g, v.ownBlock = some g → w'.heap[g]? = w.heap[g]?) : BdF T e B b v l w' := by
  obtain ⟨h1, ⟨p, hp, hb'⟩, h3, h4⟩ := h
  refine ⟨h1, ⟨p, hp, hb.trans hb'⟩, ⟨h3.1, ?_⟩, h4⟩
  rcases h3.2 with h | ⟨g', cap, cur, rfl, q1, q2, q3⟩
  · exact .inl h
  · exact .inr ⟨g', cap, cur, rfl, q1, (hg g' (by simp [Value.ownBlock])).trans q2, q3⟩
theorem ownB_lt {E : Env} {ρ : Nat → Loc} {st : St} {a : Act} {w : World} (hS : SR E ρ st a w) {x : Nat} (h : ownB ρ st.hp x) : x < w.heap.size := by
  obtain ⟨k, cs, h1, h2, rfl⟩ := h
  exact ((hS.hr.obj k cs h1).mem h2).1
/-- The state carried over to a world in which only the builder's blocks were changed. -/
theorem SR.builder {E' E2 : Env} {ρ : Nat → Loc} {st : St} {a : Act} {w w' : World} {b : Nat} {v v' : Value} (hS : SR E' ρ st a w) (hk : Keeps w w' (fun x => x = b ∨ v.ownBlock = some x)) (hbb : E'.bad b) (hbv : ∀ g, v.ownBlock = some g → E'.bad g) (hgb : ¬ gblk b) (hgv : ∀ g, v.ownBlock = some g → ¬ gblk g)
    (hE : E2 = ⟨w', fun x => E'.bad x ∨ v'.ownBlock = some x, ownB ρ st.hp, ρ, E'.ds⟩) (hv : ∀ g, v'.ownBlock = some g → (v.ownBlock = some g ∨ w.heap.size ≤ g) ∧ g < w'.heap.size) : SR E2 ρ st a w' := by
  subst hE
  have hav : ∀ x, x < w.heap.size → avd (fun x => E'.bad x ∨ v'.ownBlock = some x) ρ st.hp x → avd E'.bad ρ st.hp x := fun x hx h => by
    rcases h with (h | h) | h
    · exact .inl h
    · rcases (hv x h).1 with h1 | h1
      · exact .inl (hbv x h1)
      · omega
    · exact .inr h
  have hblk : ∀ x, x < w.heap.size → ¬ E'.bad x → w'.heap[x]? = w.heap[x]? := fun x hx hn => hk.block x hx fun h => by
    rcases h with rfl | h
    · exact hn hbb
    · exact hn (hbv x h)
  have hcell : ∀ x o, x < w.heap.size → ¬ avd E'.bad ρ st.hp x → w'.cell? ⟨x, o, none⟩ = w.cell? ⟨x, o, none⟩ := fun x o hx hn => World.cell?_of_block (w := w) (a := ⟨x, o, none⟩) (hblk x hx fun h => hn (.inl h))
  refine ⟨fun t x hx => (hS.fr t x hx).tr hk.size hcell hav (fun _ h => absurd rfl h), ⟨fun j cs hj => ?_, hS.hr.dis⟩, fun x hx => .inl hx, Keeps.refl _ _, ⟨fun x hx => ?_, hS.glob.keeps hk (fun x hx => by
    rcases hx with rfl | hx
    · exact hgb
    · exact hgv x hx), fun x hx => hS.ngb hx⟩, fun x hx h => ?_, hS.size, hS.defers, fun i hi => rfl⟩
  · have hob := hS.hr.obj j cs hj
    exact hob.tr hk.size (fun hc => hblk _ (hob.mem hc).1 (hS.nb _ ⟨j, cs, hj, hc, rfl⟩)) hcell hav (fun _ h => absurd rfl h)
  · rcases hx with h | h
    · exact Nat.lt_of_lt_of_le (hS.bad.1 x h) (Nat.le_trans hS.keep.size hk.size)
    · exact (hv x h).2
  · rcases h with h | h
    · exact hS.nb x hx h
    · rcases (hv x h).1 with h1 | h1
      · exact hS.nb x hx (hbv x h1)
      · have := ownB_lt hS hx; omega
theorem awBO_new {fr : List (Nat × AV)} {hp : Hp} {nt : Nat} {fx : List Nat} {d : Nat} (hg : o.guard = none) (ho : o.op = .alloc T) (hz : zT P T = some [.pointer none, .slice none 0 0]) (hd : o.dst = some d) (hdn : d < nt) (hfx : d ∉ fx)
    (h : awBO P T e ops rest ⟨(d, .pt d 0) :: turn (killX d) fr, hset d [] (turn (List.map (killC d)) hp), nt, d :: fx⟩ (some (d, [])) Q) : awBO P T e ops (o :: rest) ⟨fr, hp, nt, fx⟩ none Q := fun E a w ⟨E0, hl, ρ, hS⟩ => by
  cases hl
  refine wpList_plain hg fun K hK => ?_
  simp only [zT, Option.map_eq_some_iff, Option.bind_eq_some_iff] at hz
  obtain ⟨zv, ⟨i, hi, hzv⟩, hc⟩ := hz
  have hc' : zv.cells = #[.pointer none, .slice none 0 0] := by apply Array.ext'; simpa using hc
  have hrun : (execOp a.eval o).run P w = .ok (.value (.pointer (some ⟨w.heap.size, 0, none⟩))) (w.alloc (.cells #[.pointer none, .slice none 0 0] T)) := by
    simp [execOp, ho, Instr.alloc, zeroValue, typeInfo, hi, hzv, newVar, newRow, hc']
  unfold Oper.wp
  rw [hrun, Oper.upon_value, hd]
  have h1 := hS.fresh (w' := w) d hfx ⟨w.heap.size, 0, 0⟩ [] rfl rfl rfl (Nat.le_refl _) (fun _ _ _ => rfl) (fun h => absurd h (by simp)) (by simp) (fun h => absurd h (by simp)) (fun j x hj => by simp at hj) (fun x hx => by cases hx)
  have hb1 : Below w.heap.size w (w.alloc (.cells #[.pointer none, .slice none 0 0] T)) := (Below.refl _ _).alloc (Nat.le_refl _) _
  have h2 := (h1.below hb1).put (some d) (fun t e => by injection e with e; subst e; exact hdn) (x := .pt d 0) (v := .pointer (some ⟨w.heap.size, 0, none⟩)) (by
    have := Rep.pt (w := w.alloc (.cells #[.pointer none, .slice none 0 0] T)) (av := avd E.bad (rset ρ d ⟨w.heap.size, 0, 0⟩) (St.fresh ⟨fr, hp, nt, fx⟩ d []).hp) (ρ := rset ρ d ⟨w.heap.size, 0, 0⟩) (k := d) (off := 0)
    simpa [rset_same] using this)
  have hsz : w.heap.size < (w.alloc (.cells #[.pointer none, .slice none 0 0] T)).heap.size := by simp
  have hown : ∀ x, ownB (rset ρ d ⟨w.heap.size, 0, 0⟩) (St.fresh ⟨fr, hp, nt, fx⟩ d []).hp x → x < w.heap.size := fun x hx => ownB_lt h1 hx
  have hav : ∀ x, x < w.heap.size → avd (fun x => E.bad x ∨ x = w.heap.size) (rset ρ d ⟨w.heap.size, 0, 0⟩) (St.fresh ⟨fr, hp, nt, fx⟩ d []).hp x → avd E.bad (rset ρ d ⟨w.heap.size, 0, 0⟩) (St.fresh ⟨fr, hp, nt, fx⟩ d []).hp x := fun x hx h => by
    rcases h with (h | h) | h
    · exact .inl h
    · omega
    · exact .inr h
  refine hK _ _ (h E _ _ ⟨⟨w.alloc (.cells #[.pointer none, .slice none 0 0] T), fun x => E.bad x ∨ x = w.heap.size, ownB (rset ρ d ⟨w.heap.size, 0, 0⟩) (St.fresh ⟨fr, hp, nt, fx⟩ d []).hp, rset ρ d ⟨w.heap.size, 0, 0⟩, E.ds⟩, ⟨w.heap.size, .slice none 0 0, fx, rfl, by simp [rset_same], by simp [rset_same], ⟨hS.keep.size, ⟨_, .inl rfl, ?_⟩, World.ownsRow_nil _ _ _ _, by simp [Value.ownBlock], .inl rfl⟩, fun x => ?_, ⟨fun hx => ?_, fun g hg => ?_⟩, h1.keep.below_trans hb1, fun x hx => ?_, hS.bad, rfl, fun i hi => ?_⟩, rset ρ d ⟨w.heap.size, 0, 0⟩, ?_⟩)
  · exact heap_alloc_new w _
  · simp [Value.ownBlock]
  · have := hown _ hx; omega
  · simp [Value.ownBlock] at hg
  · exact h1.own x hx
  · exact (rset_ne ρ _ (fun e => hfx (by rw [← e]; exact hi))).trans (hS.fx i hi)
  · have h3 : SR E (rset ρ d ⟨w.heap.size, 0, 0⟩) (St.fresh ⟨fr, hp, nt, fx⟩ d []) a w := h1
    refine ⟨fun t x hx => ?_, ⟨fun j cs hj => ?_, h2.hr.dis⟩, fun x hx => .inl hx, Keeps.refl _ _, ⟨fun x hx => ?_, hS.glob.below hb1, fun x hx => h1.ngb hx⟩, fun x hx hb => ?_, h2.size, h2.defers, fun i hi => ?_⟩
    · rw [look_cons] at hx
      split at hx
      · next e =>
        injection hx with hx
        subst hx
        have e1 : (a.put (some d) (.pointer (some ⟨w.heap.size, 0, none⟩))).tmps.getD t undef = .pointer (some ⟨w.heap.size, 0, none⟩) := by
          have := (h2.fr d (.pt d 0) (by simp [St.put, look_cons])).pt_inv
          rw [← e, this]; simp [rset_same]
        rw [e1]
        have := Rep.pt (w := w.alloc (.cells #[.pointer none, .slice none 0 0] T)) (av := avd (fun x => E.bad x ∨ x = w.heap.size) (rset ρ d ⟨w.heap.size, 0, 0⟩) (hset d [] (turn (List.map (killC d)) hp))) (ρ := rset ρ d ⟨w.heap.size, 0, 0⟩) (k := d) (off := 0)
        simpa [rset_same] using this
      · next e =>
        have e1 : (a.put (some d) (.pointer (some ⟨w.heap.size, 0, none⟩))).tmps.getD t undef = a.tmps.getD t undef := by
          simp only [Act.put]
          rw [Array.getD_eq_getD_getElem?, Array.getElem?_setIfInBounds_ne e, ← Array.getD_eq_getD_getElem?]
        rw [e1]
        exact (h1.fr t x hx).tr hb1.size (fun x o hx _ => hb1.cell (p := ⟨x, o, none⟩) hx) hav (fun _ h => absurd rfl h)
    · have hob := h1.hr.obj j cs hj
      exact hob.tr hb1.size (fun hc => hb1.block _ (hob.mem hc).1) (fun x o hx _ => hb1.cell (p := ⟨x, o, none⟩) hx) hav (fun _ h => absurd rfl h)
    · rcases hx with h | h
      · exact Nat.lt_trans (Nat.lt_of_lt_of_le (hS.bad.1 x h) hS.keep.size) hsz
      · rw [h]; exact hsz
    · rcases hb with h | h
      · exact h1.nb x hx h
      · have := hown x hx; omega
    · rfl
/-- What is asked of WriteString, WriteByte and String. -/
structure WrS (P : Program) (T e : TypeId) (f : FuncId) : Prop where
  cl : callable P f = true
  go : ∀ (B b : Nat) (v : Value) (l s : List UInt8) (w : World), BdF T e B b v l w → l.length + s.length ≤ 140737488355328 → B ≤ w.heap.size →
    Calls P f #[.pointer (some ⟨b, 0, none⟩), .string (str s)] w fun x w' => x = .returned (.tuple #[.int .i64 s.length, .nilIface]) ∧ ∃ v', BdF T e B b v' (l ++ s) w' ∧ Keeps w w' (fun x => x = b ∨ v.ownBlock = some x) ∧ ∀ g, v'.ownBlock = some g → v.ownBlock = some g ∨ w.heap.size ≤ g
structure WrT (P : Program) (T e : TypeId) (f : FuncId) : Prop where
  cl : callable P f = true
  go : ∀ (B b : Nat) (l : List UInt8) (w : World), Lib.IsBuilder T e B b (Lib.byteCells l) w → B ≤ w.heap.size →
    Calls P f #[.pointer (some ⟨b, 0, none⟩)] w fun x w' => x = .returned (.string ⟨l.toArray⟩) ∧ Below B w w'
theorem args2 {E : Env} {ρ : Nat → Loc} {a : Act} {w : World} (hS : SR E ρ st a w) {args : List Operand} {k : Nat} {v : Value} (ha : argsA st args = some [.pt k 0, .v v]) : args.toArray.map a.eval = #[.pointer (some ⟨(ρ k).g, (ρ k).off, none⟩), v] := by
  have h := argsA_rep hS ha
  obtain ⟨h1, h2⟩ := h
  generalize args.toArray.map a.eval = us at h1 h2
  obtain ⟨us⟩ := us
  match us, h1, h2 with
  | [x, y], _, h2 =>
    have e1 := (h2 0 _ x rfl rfl).pt_inv
    have e2 := (h2 1 _ y rfl rfl).v_eq
    rw [e1, e2, Nat.add_zero]
theorem args1 {E : Env} {ρ : Nat → Loc} {a : Act} {w : World} (hS : SR E ρ st a w) {args : List Operand} {k : Nat} (ha : argsA st args = some [.pt k 0]) : args.toArray.map a.eval = #[.pointer (some ⟨(ρ k).g, (ρ k).off, none⟩)] := by
  have h := argsA_rep hS ha
  obtain ⟨h1, h2⟩ := h
  generalize args.toArray.map a.eval = us at h1 h2
  obtain ⟨us⟩ := us
  match us, h1, h2 with
  | [x], _, h2 =>
    have e1 := (h2 0 _ x rfl rfl).pt_inv
    rw [e1, Nat.add_zero]
/-- Behind a writing call. -/
theorem SB.wrote {E E' : Env} {ρ : Nat → Loc} {a : Act} {w w' : World} {k b : Nat} {l l' : List UInt8} {v v' : Value} {fr : List (Nat × AV)} {hp : Hp} {nt : Nat} {fx : List Nat} {d : Nat} {r : AV} {u : Value} (hdn : d < nt) (hr : flatA r = true) (hu : Rep w (fun _ => False) ρ r u)
    (hl : fx = k :: fx.tail ∧ (E'.ρ0 k).g = b ∧ (E'.ρ0 k).off = 0 ∧ BdF T e E.w0.heap.size b v l E'.w0 ∧ (∀ x, E'.bad x ↔ E.bad x ∨ x = b ∨ v.ownBlock = some x) ∧ (¬ E'.X b ∧ ∀ g, v.ownBlock = some g → ¬ E'.X g) ∧
      Keeps E.w0 E'.w0 E.X ∧ (∀ x, E'.X x → E.X x ∨ E.w0.heap.size ≤ x) ∧ ((∀ b, E.bad b → b < E.w0.heap.size) ∧ Glob E.w0 ∧ ∀ b, E.X b → ¬ gblk b) ∧ E'.ds = E.ds ∧ ∀ i ∈ fx.tail, E'.ρ0 i = E.ρ0 i) (hS : SR E' ρ ⟨fr, hp, nt, fx⟩ a w)
    (hB : BdF T e E.w0.heap.size b v' l' w') (hk : Keeps w w' (fun x => x = b ∨ v.ownBlock = some x)) (hv : ∀ g, v'.ownBlock = some g → v.ownBlock = some g ∨ w.heap.size ≤ g) : SB T e E ⟨(d, r) :: fr, hp, nt, fx⟩ (some (k, l')) (a.put (some d) u) w' := by
  obtain ⟨h1, h2, h3, h4, h5, h6, h7, h8, h9, h10⟩ := hl
  have hS2 := SR.builder (E2 := ⟨w', fun x => E'.bad x ∨ v'.ownBlock = some x, ownB ρ hp, ρ, E'.ds⟩) (v' := v') hS hk ((h5 b).2 (.inr (.inl rfl))) (fun g hg => (h5 g).2 (.inr (.inr hg))) (fun hgb => by have := h9.2.1.lt hgb; have := h4.1; omega) (fun g hg hgb => by have := h9.2.1.lt hgb; have := (h4.lt.2 g hg).2; omega) rfl (fun g hg => ⟨hv g hg, (hB.lt.2 g hg).1⟩)
  have hρk : ρ k = E'.ρ0 k := hS.fx k (by rw [h1]; exact List.mem_cons_self ..)
  have hwid := SR.wider (E := E) (b := b) (v := v) (l := l) (k := k) (fx' := fx.tail) hS (fun i hi => by rw [h1]; exact List.mem_cons_of_mem _ hi) (fun x hx => (h5 x).2 (.inl hx)) h7 h8 h9 h10
  have hsize : E.w0.heap.size ≤ w.heap.size := hwid.keep.size
  have hown : ∀ x, ownB ρ hp x → ¬ E'.bad x := fun x hx => hS.nb x hx
  refine ⟨⟨w', fun x => E.bad x ∨ x = b ∨ v'.ownBlock = some x, ownB ρ hp, ρ, E.ds⟩, ⟨b, v', fx.tail, h1, by simp only; rw [hρk]; exact h2, by simp only; rw [hρk]; exact h3, hB, fun x => Iff.rfl, ⟨fun hx => hown _ hx ((h5 b).2 (.inr (.inl rfl))), fun g hg hx => ?_⟩, ?_, fun x hx => hwid.own x hx, h9, rfl, fun i hi => ?_⟩, ρ, ?_⟩
  · rcases hv g hg with h | h
    · exact hown g hx ((h5 g).2 (.inr (.inr h)))
    · have := ownB_lt hS hx; omega
  · refine ⟨hk.os.trans hwid.keep.os, hk.tape.trans hwid.keep.tape, hk.output.trans hwid.keep.output, Nat.le_trans hsize hk.size, fun x hx hn => ?_⟩
    refine (hk.block x (by omega) fun h => ?_).trans (hwid.keep.block x hx hn)
    rcases h with rfl | h
    · have := h4.1; omega
    · have := (h4.lt.2 x h).2; omega
  · exact hwid.fx i hi
  · have hS3 : SR ⟨w', fun x => E.bad x ∨ x = b ∨ v'.ownBlock = some x, ownB ρ hp, ρ, E.ds⟩ ρ ⟨fr, hp, nt, fx⟩ a w' :=
      SR.wider (b := b) (v := v) (l := l) (k := k) hS2 (fun i hi => hi) (fun x hx => by
        rcases hx with h | h | h
        · exact .inl ((h5 x).2 (.inl h))
        · exact .inl ((h5 x).2 (.inr (.inl h)))
        · exact .inr h) (Keeps.refl _ _) (fun x hx => .inl hx) ⟨fun x hx => by
        rcases hx with h | h | h
        · have := h9.1 x h; have := hk.size; simp only; omega
        · rw [h]; exact hB.lt.1
        · exact (hB.lt.2 x h).1, hS2.bad.2.1, hS2.bad.2.2⟩ ⟨h10.1, fun i hi => rfl⟩
    exact hS3.put (some d) (fun t e => by injection e with e; subst e; exact hdn) (hu.flat hr)
theorem awBO_ws {k : Nat} {l s : List UInt8} {fr : List (Nat × AV)} {hp : Hp} {nt : Nat} {fx : List Nat} {d : Nat} {f : FuncId} {args : List Operand} {ts : Array TypeId} (hg : o.guard = none) (ho : o.op = .call ⟨.value (.func f), args.toArray, ts⟩) (ha : argsA ⟨fr, hp, nt, fx⟩ args = some [.pt k 0, .v (.string (str s))]) (hc : WrS P T e f)
    (hl : l.length + s.length ≤ 140737488355328) (hd : o.dst = some d) (hdn : d < nt) (h : awBO P T e ops rest ⟨(d, .tp [.v (.int .i64 s.length), .v .nilIface]) :: fr, hp, nt, fx⟩ (some (k, l ++ s)) Q) : awBO P T e ops (o :: rest) ⟨fr, hp, nt, fx⟩ (some (k, l)) Q := fun E a w ⟨E', ⟨b, v, fx', q1, q2, q3, q4, q5, q6, q7, q8, q9, q10⟩, ρ, hS⟩ => by
  simp only at q1
  subst q1
  refine wpList_plain hg fun K hK => ?_
  unfold Oper.wp
  have hρk : ρ k = E'.ρ0 k := hS.fx k (List.mem_cons_self ..)
  rw [run_call ho hc.cl, Oper.upon_enter, args2 hS ha, hρk, q2, q3]
  have hBw : BdF T e E.w0.heap.size b v l w := q4.kept (hS.keep.block b q4.lt.1 q6.1) (fun g hg => hS.keep.block g (q4.lt.2 g hg).1 (q6.2 g hg))
  refine (hc.go E.w0.heap.size b v l s w hBw hl (Nat.le_trans q7.size hS.keep.size)).mono ?_
  rintro x w' ⟨rfl, v', h1, h2, h3⟩
  rw [hd]
  refine hK _ _ (h E _ w' (SB.wrote (ρ := ρ) (v := v) (w := w) hdn (by rfl) ?_ ⟨rfl, q2, q3, q4, q5, q6, q7, q8, q9, q10⟩ hS h1 h2 h3))
  refine .tp rfl fun j y u hj hu => ?_
  match j, hj, hu with
  | 0, hj, hu => simp at hj hu; subst hj; subst hu; exact .im (.v _)
  | 1, hj, hu => simp at hj hu; subst hj; subst hu; exact .im (.v _)
/-- What speaks of no memory. -/
def flats : List (Nat × AV) → List (Nat × AV)
  | [] => []
  | (i, x) :: r => if flatA x = true then (i, x) :: flats r else (i, .un) :: flats r
theorem flats_nil : flats [] = [] := rfl
theorem flats_cons (i : Nat) (x : AV) (r : List (Nat × AV)) : flats ((i, x) :: r) = if flatA x = true then (i, x) :: flats r else (i, .un) :: flats r := rfl
theorem look_flats : ∀ (l : List (Nat × AV)) (k : Nat) (x : AV), look (flats l) k = some x → flatA x = true ∧ (x = .un ∨ look l k = some x)
  | [], k, x, h => by cases h
  | (i, y) :: r, k, x, h => by
    rw [flats_cons] at h
    split at h
    · next hy =>
      rw [look_cons] at h ⊢
      split at h
      · injection h with h; subst h; exact ⟨hy, .inr (by rw [if_pos ‹_›])⟩
      · obtain ⟨h1, h2⟩ := look_flats r k x h
        exact ⟨h1, h2.imp id fun h2 => by rw [if_neg ‹_›]; exact h2⟩
    · rw [look_cons] at h ⊢
      split at h
      · injection h with h; subst h; exact ⟨rfl, .inl rfl⟩
      · obtain ⟨h1, h2⟩ := look_flats r k x h
        exact ⟨h1, h2.imp id fun h2 => by rw [if_neg ‹_›]; exact h2⟩
/-- The string is taken: all memory is forgotten. -/
theorem awBO_str {k : Nat} {l : List UInt8} {fr : List (Nat × AV)} {hp : Hp} {nt : Nat} {fx : List Nat} {d : Nat} {f : FuncId} {args : List Operand} {ts : Array TypeId} (hg : o.guard = none) (ho : o.op = .call ⟨.value (.func f), args.toArray, ts⟩) (ha : argsA ⟨fr, hp, nt, k :: fx⟩ args = some [.pt k 0]) (hc : WrT P T e f)
    (hd : o.dst = some d) (hdn : d < nt) (h : awBO P T e ops rest ⟨(d, .v (.string (str l))) :: flats fr, [], nt, fx⟩ none Q) : awBO P T e ops (o :: rest) ⟨fr, hp, nt, k :: fx⟩ (some (k, l)) Q := fun E a w ⟨E', ⟨b, v, fx', q1, q2, q3, q4, q5, q6, q7, q8, q9, q10⟩, ρ, hS⟩ => by
  simp only [List.cons.injEq, true_and] at q1
  subst q1
  refine wpList_plain hg fun K hK => ?_
  unfold Oper.wp
  have hρk : ρ k = E'.ρ0 k := hS.fx k (List.mem_cons_self ..)
  rw [run_call ho hc.cl, Oper.upon_enter, args1 hS ha, hρk, q2, q3]
  have hBw : BdF T e E.w0.heap.size b v l w := q4.kept (hS.keep.block b q4.lt.1 q6.1) (fun g hg => hS.keep.block g (q4.lt.2 g hg).1 (q6.2 g hg))
  have hwid := SR.wider (E := E) (b := b) (v := v) (l := l) (k := k) (fx' := fx) hS (fun i hi => List.mem_cons_of_mem _ hi) (fun x hx => (q5 x).2 (.inl hx)) q7 q8 q9 q10
  have hIs : Lib.IsBuilder T e E.w0.heap.size b (Lib.byteCells l) w := by
    obtain ⟨h1, ⟨p, hp, hb⟩, h3, h4⟩ := hBw
    rcases hp with rfl | rfl
    · exact .inl ⟨h1, v, hb, by rw [Lib.byteCells_length]; exact h3, h4.1⟩
    · exact .inr ⟨h1, v, hb, by rw [Lib.byteCells_length]; exact h3, h4.1⟩
  refine (hc.go E.w0.heap.size b l w hIs hwid.keep.size).mono ?_
  rintro x w' ⟨rfl, hb⟩
  rw [hd]
  refine hK _ _ (h E _ w' ⟨E, rfl, ρ, ?_⟩)
  have hS2 : SR E ρ ⟨flats fr, [], nt, fx⟩ a w' := by
    refine ⟨fun t x hx => ?_, HR.nil, fun x hx => ?_, ?_, hwid.bad, fun x hx => ?_, hwid.size, hwid.defers, hwid.fx⟩
    · obtain ⟨h1, h2⟩ := look_flats fr t x hx
      rcases h2 with rfl | h2
      · exact .im (.un _)
      · exact (hwid.fr t x h2).flat h1
    · obtain ⟨j, cs, hj, _⟩ := hx; simp [look] at hj
    · exact ⟨hb.os.trans hwid.keep.os, hb.tape.trans hwid.keep.tape, hb.output.trans hwid.keep.output, Nat.le_trans hwid.keep.size hb.size, fun x hx hn => (hb.block x hx).trans (hwid.keep.block x hx hn)⟩
    · obtain ⟨j, cs, hj, _⟩ := hx; simp [look] at hj
  exact hS2.put (some d) (fun t e => by injection e with e; subst e; exact hdn) (.im (.v _))
end
attribute [go_sem] flats_nil flats_cons
theorem flatA_v (x : Value) : flatA (.v x) = true := rfl
theorem flatA_un : flatA .un = true := rfl
theorem flatA_rd (n : Nat) (cs : List AV) : flatA (.rd n cs) = false := rfl
theorem flatA_rp (cs : List AV) : flatA (.rp cs) = false := rfl
theorem flatA_os (k o s n : Nat) : flatA (.os k o s n) = false := rfl
theorem flatA_pt (k o : Nat) : flatA (.pt k o) = false := rfl
theorem flatA_fn (f : FuncId) (cs : List AV) : flatA (.fn f cs) = false := rfl
theorem flatA_ag (cs : List AV) : flatA (.ag cs) = cs.all flatC := rfl
theorem flatA_tp (cs : List AV) : flatA (.tp cs) = cs.all flatP := rfl
theorem flatC_v (x : Value) : flatC (.v x) = true := rfl
theorem flatP_v (x : Value) : flatP (.v x) = true := rfl
theorem flatC_rd (n : Nat) (cs : List AV) : flatC (.rd n cs) = false := rfl
theorem flatP_rd (n : Nat) (cs : List AV) : flatP (.rd n cs) = false := rfl
attribute [go_sem] flatA_v flatA_un flatA_rd flatA_rp flatA_os flatA_pt flatA_fn flatA_ag flatA_tp flatC_v flatP_v flatC_rd flatP_rd
end Go.Proofs.YtogmppcfopgkdaaGreatDoor

/- The abstract machine, part 23: nil slices in objects, results with several objects. No program is named here. -/
namespace Go.Proofs.YtogmppcfopgkdaaGreatDoor
open Go.RowKit
set_option linter.unusedVariables false
set_option linter.unusedSimpArgs false
section
variable {P : Program} {Q : Exit → St → Prop} {c : Code} {fr : List (Nat × AV)} {hp : Hp} {nt : Nat} {fx : List Nat}
/-- In the object k, the cells are said otherwise. -/
theorem SR.re {E : Env} {ρ : Nat → Loc} {a : Act} {w : World} (k : Nat) {cs cs' : List AV} (hk : look hp k = some cs) (hl : cs'.length = cs.length) (hre : ∀ (j : Nat) (x y : AV) (v : Value), cs[j]? = some x → cs'[j]? = some y → Rep w (avd E.bad ρ hp) ρ x v → Rep w (avd E.bad ρ hp) ρ y v) (hS : SR E ρ ⟨fr, hp, nt, fx⟩ a w) : SR E ρ ⟨fr, hset k cs' hp, nt, fx⟩ a w := by
  have hlook : ∀ j, look (hset k cs' hp) j = if j = k then some cs' else look hp j := look_hset k _ hp
  have hown : ownB ρ (hset k cs' hp) = ownB ρ hp := by
    funext b
    apply propext
    constructor
    · rintro ⟨j, c', h1, h2⟩
      rw [hlook] at h1
      split at h1
      · next e => subst e; exact ⟨j, cs, hk, h2⟩
      · exact ⟨j, c', h1, h2⟩
    · rintro ⟨j, c', h1, h2⟩
      by_cases e : j = k
      · subst e; exact ⟨j, _, by rw [hlook, if_pos rfl], h2⟩
      · exact ⟨j, c', by rw [hlook, if_neg e]; exact h1, h2⟩
  have eav : avd E.bad ρ (hset k cs' hp) = avd E.bad ρ hp := by unfold avd; rw [hown]
  have g : ∀ i c, (if i = k then some cs' else look hp i) = some c → ∃ c0, look hp i = some c0 := fun i c hi => by
    split at hi
    · next e => subst e; exact ⟨cs, hk⟩
    · exact ⟨c, hi⟩
  refine ⟨fun t x hx => by simp only [eav]; exact hS.fr t x hx, ⟨fun j c' hj => ?_, fun j j' c1 c2 h1 h2 => ?_⟩, by simp only [hown]; exact hS.own, hS.keep, hS.bad, by simp only [hown]; exact hS.nb, hS.size, hS.defers, hS.fx⟩
  · simp only [eav]
    simp only [hlook] at hj
    split at hj
    · next e =>
      subst e
      injection hj with hj
      subst hj
      have hob := hS.hr.obj j cs hk
      refine ⟨by rw [hl]; exact hob.len, hob.mem, fun i x hx => ?_⟩
      have hi : i < cs.length := by rw [← hl]; exact (List.getElem?_eq_some_iff.1 hx).1
      obtain ⟨v, hv, hr⟩ := hob.cells i cs[i] (List.getElem?_eq_getElem hi)
      exact ⟨v, hv, hre i _ x v (List.getElem?_eq_getElem hi) hx hr⟩
    · exact hS.hr.obj j c' hj
  · simp only [hlook] at h1 h2
    obtain ⟨c0, g1⟩ := g j c1 h1
    obtain ⟨c1', g2⟩ := g j' c2 h2
    exact hS.hr.dis j j' c0 c1' g1 g2
/-- A variable (object k, one cell) that is nil: a slice of an own object K of no cells. -/
theorem S_virtO {E : Env} {a : Act} {w : World} (k K sz : Nat) (hk : look hp k = some [.v (.slice none 0 0)]) (hz : 0 < sz) (hK : K ∉ fx) (hne : k ≠ K) (hS : S E ⟨fr, hp, nt, fx⟩ a w) :
    S E ⟨turn (killX K) fr, hset k [.os K 0 sz 0] (hset K [] (turn (List.map (killC K)) hp)), nt, fx⟩ a w := by
  obtain ⟨ρ, hS⟩ := hS
  have h1 := hS.fresh (w' := w) K hK ⟨0, 0, 0⟩ [] rfl rfl rfl (Nat.le_refl _) (fun _ _ _ => rfl) (fun h => absurd h (by simp)) (by simp) (fun h => absurd h (by simp)) (fun j x hj => by simp at hj) (fun x hx => by cases hx)
  refine ⟨_, SR.re k (cs := [.v (.slice none 0 0)]) ?_ rfl (fun j x y v hx hy hr => ?_) h1⟩
  · rw [look_hset, if_neg hne, look_turn, hk]
    rfl
  · match j, hx, hy with
    | 0, hx, hy =>
      simp at hx hy
      subst hx; subst hy
      rw [hr.v_eq]
      exact .os hz (Nat.le_refl _) (by omega) (fun h => absurd h (by omega))
theorem aw_virtO (k K sz : Nat) (hk : look hp k = some [.v (.slice none 0 0)]) (hz : 0 < sz) (hK : K ∉ fx) (hne : k ≠ K) (h : aw P c ⟨turn (killX K) fr, hset k [.os K 0 sz 0] (hset K [] (turn (List.map (killC K)) hp)), nt, fx⟩ Q) : aw P c ⟨fr, hp, nt, fx⟩ Q :=
  aw_weak (fun E a w hS => S_virtO k K sz hk hz hK hne hS) h
def keepsL (hp : Hp) (keep : List Nat) : Hp → Prop
  | [] => True
  | (k, cs) :: r => (k ∈ keep ∧ (look hp k).bind (roCs hp keep) = some cs) ∧ keepsL hp keep r
theorem keepsL_spec {hp : Hp} {keep : List Nat} : ∀ {h : Hp}, keepsL hp keep h → ∀ p ∈ h, p.1 ∈ keep ∧ ∃ cs, look hp p.1 = some cs ∧ roCs hp keep cs = some p.2
  | [], _, p, hp => by cases hp
  | (k, cs) :: r, h, p, hp' => by
    rcases List.mem_cons.1 hp' with rfl | hp'
    · exact ⟨h.1.1, by obtain ⟨c, h1, h2⟩ := Option.bind_eq_some_iff.1 h.1.2; exact ⟨c, h1, h2⟩⟩
    · exact keepsL_spec h.2 p hp'
theorem retQ_mkL {st : St} {rs : List ResultVar} {r r' : AV} {h' : Hp} {ys : List AV} {e : Exit} {keep fix : List Nat} (he : e = .normal ∨ e = .ret) (h1 : resL P st rs = some ys) (h2 : roA st.hp keep (one ys) = some r') (h3 : r' = r) (h4 : keepsL st.hp keep h') (h5 : st.fx = fix) : retQ P rs r h' keep fix e st :=
  ⟨he, ⟨ys, h1, by rw [h2, h3]⟩, keepsL_spec h4, h5⟩
end
end Go.Proofs.YtogmppcfopgkdaaGreatDoor

/- The abstract machine, part 25: an own object is given up. No program is named here. -/
namespace Go.Proofs.YtogmppcfopgkdaaGreatDoor
open Go.RowKit
set_option linter.unusedVariables false
set_option linter.unusedSimpArgs false
section
variable {P : Program} {Q : Exit → St → Prop} {c : Code} {fr : List (Nat × AV)} {hp : Hp} {nt : Nat} {fx : List Nat}
/-- An own object is given up: it is data from now on. -/
theorem S_pub {E : Env} {a : Act} {w : World} (t k : Nat) {off sz n : Nat} {cs : List AV} (ht : look fr t = some (.os k off sz n)) (hk : look hp k = some cs) (hl : off + n * sz ≤ cs.length) (hd : ((cs.drop off).take (n * sz)).all dataC = true) (hS : S E ⟨fr, hp, nt, fx⟩ a w) :
    S E ⟨(t, .rd n ((cs.drop off).take (n * sz))) :: fr, cut k hp, nt, fx⟩ a w := by
  obtain ⟨ρ, hS⟩ := hS
  have hlook : ∀ j, look (cut k hp) j = if j = k then none else look hp j := look_cut k hp
  have hmem : ∀ {j : Nat} {c : List AV}, look (cut k hp) j = some c → j ≠ k ∧ look hp j = some c := fun {j c} h => by
    rw [hlook] at h
    split at h
    · cases h
    · next hne => exact ⟨hne, h⟩
  have hown : ∀ b, ownB ρ (cut k hp) b → ownB ρ hp b := fun b ⟨j, c, h1, h2⟩ => ⟨j, c, (hmem h1).2, h2⟩
  have hav : ∀ b, avd E.bad ρ (cut k hp) b → avd E.bad ρ hp b := fun b hb => hb.imp id (hown b)
  refine ⟨ρ, fun t' x hx => ?_, ⟨fun j c hj => ?_, fun j j' c c' h1 h2 => hS.hr.dis j j' c c' (hmem h1).2 (hmem h2).2⟩, fun b hb => hS.own b (hown b hb), hS.keep, hS.bad, fun b hb => hS.nb b (hown b hb), hS.size, hS.defers, hS.fx⟩
  · rw [look_cons] at hx
    split at hx
    · next e =>
      subst e
      injection hx with hx
      subst hx
      refine roC_sound (keep := keysH (cut k hp)) hS.hr.obj (fun b _ hb => hav b hb) (fun j c h1 h2 h3 h4 => ?_) (hS.fr t _ ht) (roC_os (fun h => ?_) hk hl hd)
      · have hjk : j = k := Classical.byContradiction fun hne => h2 (look_keys (cs := c) (by rw [hlook, if_neg hne]; exact h1))
        subst hjk
        rcases h4 with h4 | ⟨j', c', g1, g2, g3⟩
        · exact hS.nb _ ⟨j, c, h1, h3, rfl⟩ h4
        · exact hS.hr.dis j' j c' c (hmem g1).2 h1 (hmem g1).1 g2 h3 g3
      · obtain ⟨p, hp1, hp2⟩ := List.mem_map.1 h
        have : ∃ c, look (cut k hp) k = some c := by
          have gen : ∀ (l : Hp), p ∈ l → ∃ c, look l p.1 = some c := fun l hl => by
            induction l with
            | nil => cases hl
            | cons q r ih =>
              obtain ⟨i, y⟩ := q
              rw [look_cons]
              split
              · exact ⟨y, rfl⟩
              · next hne =>
                rcases List.mem_cons.1 hl with e | e
                · rw [e] at hne; exact absurd rfl hne
                · exact ih e
          have h3 := gen _ hp1
          rw [hp2] at h3
          exact h3
        obtain ⟨c, hc⟩ := this
        exact (hmem hc).1 rfl
    · exact (hS.fr t' x hx).tr (Nat.le_refl _) (fun _ _ _ _ => rfl) (fun b _ hb => hav b hb) (fun _ h => absurd rfl h)
  · exact (hS.hr.obj j c (hmem hj).2).tr (Nat.le_refl _) (fun _ => rfl) (fun _ _ _ _ => rfl) (fun b _ hb => hav b hb) (fun _ h => absurd rfl h)
theorem aw_pub (t k : Nat) {off sz n : Nat} {cs : List AV} (ht : look fr t = some (.os k off sz n)) (hk : look hp k = some cs) (hl : off + n * sz ≤ cs.length) (hd : ((cs.drop off).take (n * sz)).all dataC = true) (h : aw P c ⟨(t, .rd n ((cs.drop off).take (n * sz))) :: fr, cut k hp, nt, fx⟩ Q) : aw P c ⟨fr, hp, nt, fx⟩ Q :=
  aw_weak (fun E a w hS => S_pub t k ht hk hl hd hS) h
theorem awO_pub {ops : Array Oper} {l : List Oper} (t k : Nat) {off sz n : Nat} {cs : List AV} (ht : look fr t = some (.os k off sz n)) (hk : look hp k = some cs) (hl : off + n * sz ≤ cs.length) (hd : ((cs.drop off).take (n * sz)).all dataC = true) (h : awO P ops l ⟨(t, .rd n ((cs.drop off).take (n * sz))) :: fr, cut k hp, nt, fx⟩ Q) : awO P ops l ⟨fr, hp, nt, fx⟩ Q :=
  fun E a w hS => h E a w (S_pub t k ht hk hl hd hS)
end
theorem cut_nil (k : Nat) : cut k ([] : Hp) = [] := rfl
theorem cut_cons (k i : Nat) (x : List AV) (r : Hp) : cut k ((i, x) :: r) = if i = k then cut k r else (i, x) :: cut k r := rfl
attribute [go_sem] cut_nil cut_cons
end Go.Proofs.YtogmppcfopgkdaaGreatDoor

/- The abstract machine, part 26: joins. What a piece of code leaves behind is said once, whichever way it went. No program is named here. -/
namespace Go.Proofs.YtogmppcfopgkdaaGreatDoor
open Go.RowKit
set_option linter.unusedVariables false
set_option linter.unusedSimpArgs false
section
variable {P : Program} {Q : Exit → St → Prop} {x y : Code} {fr : List (Nat × AV)} {hp : Hp} {nt : Nat} {fx : List Nat}
theorem endQ_mk {fr' : List (Nat × AV)} {hp' : Hp} (h1 : subL fr' fr) (h2 : subL hp' hp) : endQ ⟨fr', hp', nt, fx⟩ .normal ⟨fr, hp, nt, fx⟩ :=
  ⟨rfl, fun k x hk => subL_spec h1 _ (look_mem hk), fun k x hk => subL_spec h2 _ (look_mem hk), rfl, rfl⟩
/-- A struct of two parts is built, with an own object that is given up. -/
theorem awO_pb2 {ops : Array Oper} {rest : List Oper} {o : Oper} {T : TypeId} {t k i j : Nat} {u : Operand} {off sz n : Nat} {cs : List AV} (ho : o.op = .build T [(i, u), (j, .tmp t)].toArray) (ht : look fr t = some (.os k off sz n)) (hk : look hp k = some cs) (hl : off + n * sz ≤ cs.length) (hd : ((cs.drop off).take (n * sz)).all dataC = true) (h : awO P ops (o :: rest) ⟨(t, .rd n ((cs.drop off).take (n * sz))) :: fr, cut k hp, nt, fx⟩ Q) : awO P ops (o :: rest) ⟨fr, hp, nt, fx⟩ Q := awO_pub t k ht hk hl hd h
/-- A struct is built; its nil slices are slices of no elements. -/
theorem awO_bnz {ops : Array Oper} {rest : List Oper} {o : Oper} {d : Nat} {t : TypeId} {pa : Array (Nat × Operand)} {z : AV} (ho : o.op = .build t pa) (hd : o.dst = some d) (hg : o.guard = none) (h : ev P ⟨fr, hp, nt, fx⟩ o = some ⟨(d, z) :: fr, hp, nt, fx⟩) (hr : awO P ops rest ⟨(d, nz z) :: fr, hp, nt, fx⟩ Q) : awO P ops (o :: rest) ⟨fr, hp, nt, fx⟩ Q := by
  refine awO_ev hg h fun E a w hS => hr E a w ?_
  obtain ⟨ρ, hS⟩ := S_nzT d (x := z) (by rw [look_cons, if_pos rfl]) hS
  refine ⟨ρ, fun t' y hy => hS.fr t' y ?_, hS.hr, hS.own, hS.keep, hS.bad, hS.nb, hS.size, hS.defers, hS.fx⟩
  simp only [look_cons] at hy ⊢
  split
  · next e => rw [if_pos e] at hy; exact hy
  · next e => rw [if_neg e] at hy; exact hy
end
/-! ### Scopes and labels, without jumps -/
/-- A slice of bools, made. -/
def fls (n : Nat) : List Bool := List.replicate n false
theorem fls_len (n : Nat) : (fls n).length = n := by simp [fls]
attribute [go_sem] fls_len
/-- Nil slices as results. -/
theorem Fn_nzr {P : Program} {f : FuncId} {args : List AV} {h : Hp} {r : AV} {h' : Hp} {fix : List Nat} (hf : Fn P f args h r h' fix) : Fn P f args h (nz r) h' fix :=
  ⟨hf.1, fun w bad ρ vs h1 h2 h3 h4 => (hf.2 w bad ρ vs h1 h2 h3 h4).mono fun e w' ⟨v, ρ', g1, g2, g3⟩ => ⟨v, ρ', g1, nz_rep g2, g3⟩⟩
/-! ### Fields of the elements of an own slice -/
theorem flat2_at1 {α : Type} {f0 f1 : α → AV} {L : List α} {k : Nat} (hk : k < L.length) : (L.flatMap fun x => [f0 x, f1 x]).drop (k * 2 + 1) = f1 L[k] :: (L.drop (k + 1)).flatMap fun x => [f0 x, f1 x] := by rw [← List.drop_drop, flat2_drop hk]; rfl
theorem flat3_at1 {α : Type} {f0 f1 f2 : α → AV} {L : List α} {k : Nat} (hk : k < L.length) : (L.flatMap fun x => [f0 x, f1 x, f2 x]).drop (k * 3 + 1) = f1 L[k] :: f2 L[k] :: (L.drop (k + 1)).flatMap fun x => [f0 x, f1 x, f2 x] := by rw [← List.drop_drop, flat3_drop hk]; rfl
theorem flat3_at2 {α : Type} {f0 f1 f2 : α → AV} {L : List α} {k : Nat} (hk : k < L.length) : (L.flatMap fun x => [f0 x, f1 x, f2 x]).drop (k * 3 + 2) = f2 L[k] :: (L.drop (k + 1)).flatMap fun x => [f0 x, f1 x, f2 x] := by rw [← List.drop_drop, flat3_drop hk]; rfl
theorem flat4_at1 {α : Type} {f0 f1 f2 f3 : α → AV} {L : List α} {k : Nat} (hk : k < L.length) : (L.flatMap fun x => [f0 x, f1 x, f2 x, f3 x]).drop (k * 4 + 1) = f1 L[k] :: f2 L[k] :: f3 L[k] :: (L.drop (k + 1)).flatMap fun x => [f0 x, f1 x, f2 x, f3 x] := by rw [← List.drop_drop, flat4_drop hk]; rfl
theorem flat4_at2 {α : Type} {f0 f1 f2 f3 : α → AV} {L : List α} {k : Nat} (hk : k < L.length) : (L.flatMap fun x => [f0 x, f1 x, f2 x, f3 x]).drop (k * 4 + 2) = f2 L[k] :: f3 L[k] :: (L.drop (k + 1)).flatMap fun x => [f0 x, f1 x, f2 x, f3 x] := by rw [← List.drop_drop, flat4_drop hk]; rfl
theorem flat4_at3 {α : Type} {f0 f1 f2 f3 : α → AV} {L : List α} {k : Nat} (hk : k < L.length) : (L.flatMap fun x => [f0 x, f1 x, f2 x, f3 x]).drop (k * 4 + 3) = f3 L[k] :: (L.drop (k + 1)).flatMap fun x => [f0 x, f1 x, f2 x, f3 x] := by rw [← List.drop_drop, flat4_drop hk]; rfl
theorem flat5_at1 {α : Type} {f0 f1 f2 f3 f4 : α → AV} {L : List α} {k : Nat} (hk : k < L.length) : (L.flatMap fun x => [f0 x, f1 x, f2 x, f3 x, f4 x]).drop (k * 5 + 1) = f1 L[k] :: f2 L[k] :: f3 L[k] :: f4 L[k] :: (L.drop (k + 1)).flatMap fun x => [f0 x, f1 x, f2 x, f3 x, f4 x] := by rw [← List.drop_drop, flat5_drop hk]; rfl
theorem flat5_at2 {α : Type} {f0 f1 f2 f3 f4 : α → AV} {L : List α} {k : Nat} (hk : k < L.length) : (L.flatMap fun x => [f0 x, f1 x, f2 x, f3 x, f4 x]).drop (k * 5 + 2) = f2 L[k] :: f3 L[k] :: f4 L[k] :: (L.drop (k + 1)).flatMap fun x => [f0 x, f1 x, f2 x, f3 x, f4 x] := by rw [← List.drop_drop, flat5_drop hk]; rfl
theorem flat5_at3 {α : Type} {f0 f1 f2 f3 f4 : α → AV} {L : List α} {k : Nat} (hk : k < L.length) : (L.flatMap fun x => [f0 x, f1 x, f2 x, f3 x, f4 x]).drop (k * 5 + 3) = f3 L[k] :: f4 L[k] :: (L.drop (k + 1)).flatMap fun x => [f0 x, f1 x, f2 x, f3 x, f4 x] := by rw [← List.drop_drop, flat5_drop hk]; rfl
theorem flat5_at4 {α : Type} {f0 f1 f2 f3 f4 : α → AV} {L : List α} {k : Nat} (hk : k < L.length) : (L.flatMap fun x => [f0 x, f1 x, f2 x, f3 x, f4 x]).drop (k * 5 + 4) = f4 L[k] :: (L.drop (k + 1)).flatMap fun x => [f0 x, f1 x, f2 x, f3 x, f4 x] := by rw [← List.drop_drop, flat5_drop hk]; rfl
theorem flat6_at1 {α : Type} {f0 f1 f2 f3 f4 f5 : α → AV} {L : List α} {k : Nat} (hk : k < L.length) : (L.flatMap fun x => [f0 x, f1 x, f2 x, f3 x, f4 x, f5 x]).drop (k * 6 + 1) = f1 L[k] :: f2 L[k] :: f3 L[k] :: f4 L[k] :: f5 L[k] :: (L.drop (k + 1)).flatMap fun x => [f0 x, f1 x, f2 x, f3 x, f4 x, f5 x] := by rw [← List.drop_drop, flat6_drop hk]; rfl
theorem flat6_at2 {α : Type} {f0 f1 f2 f3 f4 f5 : α → AV} {L : List α} {k : Nat} (hk : k < L.length) : (L.flatMap fun x => [f0 x, f1 x, f2 x, f3 x, f4 x, f5 x]).drop (k * 6 + 2) = f2 L[k] :: f3 L[k] :: f4 L[k] :: f5 L[k] :: (L.drop (k + 1)).flatMap fun x => [f0 x, f1 x, f2 x, f3 x, f4 x, f5 x] := by rw [← List.drop_drop, flat6_drop hk]; rfl
theorem flat6_at3 {α : Type} {f0 f1 f2 f3 f4 f5 : α → AV} {L : List α} {k : Nat} (hk : k < L.length) : (L.flatMap fun x => [f0 x, f1 x, f2 x, f3 x, f4 x, f5 x]).drop (k * 6 + 3) = f3 L[k] :: f4 L[k] :: f5 L[k] :: (L.drop (k + 1)).flatMap fun x => [f0 x, f1 x, f2 x, f3 x, f4 x, f5 x] := by rw [← List.drop_drop, flat6_drop hk]; rfl
theorem flat6_at4 {α : Type} {f0 f1 f2 f3 f4 f5 : α → AV} {L : List α} {k : Nat} (hk : k < L.length) : (L.flatMap fun x => [f0 x, f1 x, f2 x, f3 x, f4 x, f5 x]).drop (k * 6 + 4) = f4 L[k] :: f5 L[k] :: (L.drop (k + 1)).flatMap fun x => [f0 x, f1 x, f2 x, f3 x, f4 x, f5 x] := by rw [← List.drop_drop, flat6_drop hk]; rfl
theorem flat6_at5 {α : Type} {f0 f1 f2 f3 f4 f5 : α → AV} {L : List α} {k : Nat} (hk : k < L.length) : (L.flatMap fun x => [f0 x, f1 x, f2 x, f3 x, f4 x, f5 x]).drop (k * 6 + 5) = f5 L[k] :: (L.drop (k + 1)).flatMap fun x => [f0 x, f1 x, f2 x, f3 x, f4 x, f5 x] := by rw [← List.drop_drop, flat6_drop hk]; rfl
attribute [go_sem] flat2_at1 flat3_at1 flat3_at2 flat4_at1 flat4_at2 flat4_at3 flat5_at1 flat5_at2 flat5_at3 flat5_at4 flat6_at1 flat6_at2 flat6_at3 flat6_at4 flat6_at5
section
variable {P : Program} {ops : Array Oper} {Q : Exit → St → Prop} {st st2 : St} {listed : Array Bool} {fuel : Nat} {o : Oper}
theorem awY_st (hs : some st = some st2) (h : awY P ops fuel listed st2 Q) : awY P ops fuel listed st Q := by injection hs with hs; rw [hs]; exact h
/-- In a drawn region: a call that changes own objects, where nothing that reads can come behind it of its own accord. -/
theorem awI_m {i d : Nat} {f : FuncId} {args : List Operand} {ts : Array TypeId} {ys : List AV} {r : AV} {h h' : Hp} {fix : List Nat} (hi : ops[i]? = some o) (hds : dsI ops i = true) (hg : o.guard = none) (ho : o.op = .call ⟨.value (.func f), args.toArray, ts⟩) (ha : argsA st args = some ys) (hc : Fn P f ys h r h' fix) (hsub : subL h st.hp)
    (hr : okR (keysH h') r = true) (hcs : h'.all (fun p => p.2.all (okR (keysH h'))) = true) (hfx : st.fx.all (fun k => !(keysH h').contains k || fix.contains k) = true) (hd : o.dst = some d) (hdn : d < st.nt) (hrest : awY P ops fuel (listed.setIfInBounds i true) (st.after d r h h' fix) Q) : awI P ops fuel listed st Q i :=
  fun E a w ⟨ρ, hS⟩ => wpOp_of_wp hi (by simp [Region.wanted, hg]) (callM_step hS ho ha hc hsub hr hcs hfx hd hdn fun a' w' hs => ⟨fun h0 => (by rw [hds] at h0; cases h0), hrest E a' w' hs⟩)
end
end Go.Proofs.YtogmppcfopgkdaaGreatDoor
