/- The abstract machine: a strings.Builder and a range over a string beside the state, both known by their addresses. No program is named here. -/
import Derived.Test.YtogmppcfopgkdaaGreatDoorMgD
import Derived.Lib.OthersKept
namespace Go.Proofs.YtogmppcfopgkdaaGreatDoor
open Go.RowKit
set_option linter.unusedVariables false
set_option linter.unusedSimpArgs false

abbrev bpt (b : Nat) : AV := .v (.pointer (some ⟨b, 0, none⟩))
/-- What stands beside the state: a builder (its block, what it holds), an iterator (its block, the string, the place). -/
structure So where
  bo : Option (Nat × List UInt8)
  it : Option (Nat × List UInt8 × Nat)
def BdS (T e : TypeId) (B : Nat) (bo : Option (Nat × List UInt8)) (D : Nat → Prop) (w : World) : Prop :=
  match bo with
  | none => ∀ x, ¬ D x
  | some (b, l) => ∃ v, BdF T e B b v l w ∧ ∀ x, D x ↔ x = b ∨ v.ownBlock = some x
def ItS (B : Nat) (it : Option (Nat × List UInt8 × Nat)) (D : Nat → Prop) (w : World) : Prop :=
  match it with
  | none => ∀ x, ¬ D x
  | some (c, s, p) => B ≤ c ∧ w.heap[c]? = some (.stringIter (str s) p) ∧ ∀ x, D x ↔ x = c
def LnkS (T e : TypeId) (E : Env) (σ : So) (fx : List Nat) (E' : Env) (Db Di : Nat → Prop) : Prop :=
  BdS T e E.w0.heap.size σ.bo Db E'.w0 ∧ ItS E.w0.heap.size σ.it Di E'.w0 ∧ (∀ x, Db x → ¬ Di x) ∧ (∀ x, E'.bad x ↔ E.bad x ∨ Db x ∨ Di x) ∧ (∀ x, Db x ∨ Di x → ¬ E'.X x) ∧
    Keeps E.w0 E'.w0 E.X ∧ (∀ x, E'.X x → E.X x ∨ E.w0.heap.size ≤ x) ∧ ((∀ b, E.bad b → b < E.w0.heap.size) ∧ Glob E.w0 ∧ ∀ b, E.X b → ¬ gblk b) ∧ E'.ds = E.ds ∧ ∀ i ∈ fx, E'.ρ0 i = E.ρ0 i
def SS (T e : TypeId) (E : Env) (st : St) (σ : So) (a : Act) (w : World) : Prop := ∃ E' Db Di, LnkS T e E σ st.fx E' Db Di ∧ S E' st a w
def QQS (T e : TypeId) (E : Env) (Q : Exit → St → So → Prop) : Exit → Act → World → Prop := fun x a w => ∃ st σ, SS T e E st σ a w ∧ Q x st σ
def awS (P : Program) (T e : TypeId) (c : Code) (st : St) (σ : So) (Q : Exit → St → So → Prop) : Prop := ∀ E a w, SS T e E st σ a w → c.wp P (QQS T e E Q) a w
def awSO (P : Program) (T e : TypeId) (ops : Array Oper) (l : List Oper) (st : St) (σ : So) (Q : Exit → St → So → Prop) : Prop := ∀ E a w, SS T e E st σ a w → wpList P ops (QQS T e E Q) l a w
def thenS (K : St → So → Prop) (Q : Exit → St → So → Prop) : Exit → St → So → Prop
  | .normal, st, σ => K st σ
  | x, st, σ => Q x st σ
def blkS (id : Nat) (Q : Exit → St → So → Prop) : Exit → St → So → Prop
  | .exit i, st, σ => if i = id then Q .normal st σ else Q (.exit i) st σ
  | x, st, σ => Q x st σ
theorem thenS_normal (K : St → So → Prop) (Q : Exit → St → So → Prop) (st : St) (σ : So) : thenS K Q .normal st σ = K st σ := rfl
theorem thenS_exit (K : St → So → Prop) (Q : Exit → St → So → Prop) (i : Nat) (st : St) (σ : So) : thenS K Q (.exit i) st σ = Q (.exit i) st σ := rfl
theorem thenS_ret (K : St → So → Prop) (Q : Exit → St → So → Prop) (st : St) (σ : So) : thenS K Q .ret st σ = Q .ret st σ := rfl
theorem blkS_normal (id : Nat) (Q : Exit → St → So → Prop) (st : St) (σ : So) : blkS id Q .normal st σ = Q .normal st σ := rfl
theorem blkS_exit (id : Nat) (Q : Exit → St → So → Prop) (i : Nat) (st : St) (σ : So) : blkS id Q (.exit i) st σ = if i = id then Q .normal st σ else Q (.exit i) st σ := rfl
theorem blkS_ret (id : Nat) (Q : Exit → St → So → Prop) (st : St) (σ : So) : blkS id Q .ret st σ = Q .ret st σ := rfl
set_option linter.defProp false in
def CTS := And.intro @thenS_normal <| And.intro @thenS_exit <| And.intro @thenS_ret <| And.intro @blkS_normal <| And.intro @blkS_exit <| And.intro @blkS_ret <| trivial
structure KontS (P : Program) (T e : TypeId) (y : Code) (Q : Exit → St → So → Prop) (K : St → So → Prop) : Prop where
  go : ∀ st σ, awS P T e y st σ Q → K st σ
section
variable {P : Program} {T e : TypeId} {E : Env} {st st' : St} {σ : So} {a : Act} {w : World} {Q : Exit → St → So → Prop}
theorem BdS.lt {B : Nat} {bo : Option (Nat × List UInt8)} {D : Nat → Prop} (h : BdS T e B bo D w) {x : Nat} (hx : D x) : B ≤ x ∧ x < w.heap.size := by
  match bo, h with
  | none, h => exact absurd hx (h x)
  | some (b, l), ⟨v, h1, h2⟩ =>
    rcases (h2 x).1 hx with rfl | h3
    · exact ⟨h1.1, h1.lt.1⟩
    · exact ⟨(h1.lt.2 x h3).2, (h1.lt.2 x h3).1⟩
theorem ItS.lt {B : Nat} {it : Option (Nat × List UInt8 × Nat)} {D : Nat → Prop} (h : ItS B it D w) {x : Nat} (hx : D x) : B ≤ x ∧ x < w.heap.size := by
  match it, h with
  | none, h => exact absurd hx (h x)
  | some (c, s, p), ⟨h1, h2, h3⟩ =>
    have := (h3 x).1 hx
    subst this
    exact ⟨h1, (Array.getElem?_eq_some_iff.1 h2).1⟩
theorem BdS.kept {B : Nat} {bo : Option (Nat × List UInt8)} {D : Nat → Prop} {w' : World} (h : BdS T e B bo D w) (hk : ∀ x, D x → w'.heap[x]? = w.heap[x]?) : BdS T e B bo D w' := by
  match bo, h with
  | none, h => exact h
  | some (b, l), ⟨v, h1, h2⟩ => exact ⟨v, h1.kept (hk b ((h2 b).2 (.inl rfl))) (fun g hg => hk g ((h2 g).2 (.inr hg))), h2⟩
theorem ItS.kept {B : Nat} {it : Option (Nat × List UInt8 × Nat)} {D : Nat → Prop} {w' : World} (h : ItS B it D w) (hk : ∀ x, D x → w'.heap[x]? = w.heap[x]?) : ItS B it D w' := by
  match it, h with
  | none, h => exact h
  | some (c, s, p), ⟨h1, h2, h3⟩ => exact ⟨h1, (hk c ((h3 c).2 rfl)).trans h2, h3⟩
theorem SS.someSR (h : SS T e E st σ a w) : ∃ E' ρ w1, SR E' ρ st a w1 := by
  obtain ⟨E', _, _, _, ρ, h⟩ := h
  exact ⟨E', ρ, w, h⟩
theorem LnkS.wide {E' : Env} {ρ : Nat → Loc} {Db Di : Nat → Prop} (hl : LnkS T e E σ st.fx E' Db Di) (h : SR E' ρ st a w) : SR E ρ st a w := by
  obtain ⟨h1, h2, h3, h4, h5, h6, h7, h8, h9⟩ := hl
  obtain ⟨fr, hp, nt, fx⟩ := st
  exact SR.wider (b := 0) (v := default) (l := []) (k := 0) h (fun i hi => hi) (fun x hx => (h4 x).2 (.inl hx)) h6 h7 h8 h9
theorem SS.toS (h : SS T e E st σ a w) : S E st a w := by
  obtain ⟨E', Db, Di, hl, ρ, h⟩ := h
  exact ⟨ρ, hl.wide h⟩
theorem SS.of (h : S E st a w) : SS T e E st ⟨none, none⟩ a w := by
  obtain ⟨ρ, h⟩ := h
  exact ⟨E, fun _ => False, fun _ => False, ⟨fun _ h => h, fun _ h => h, fun _ h => absurd h id, fun x => ⟨.inl, fun h => h.elim id (fun h => h.elim False.elim False.elim)⟩, fun x h => h.elim False.elim False.elim, Keeps.refl _ _, fun x hx => .inl hx, h.bad, rfl, fun _ _ => rfl⟩, ρ, h⟩
theorem SS.sub (hs : Sub st' st) (h : SS T e E st σ a w) : SS T e E st' σ a w := by
  obtain ⟨E', Db, Di, hl, h⟩ := h
  exact ⟨E', Db, Di, by rw [hs.fx]; exact hl, hs.S h⟩
theorem SS.putv (h : SS T e E st σ a w) (d : Option Nat) (hd : ∀ t, d = some t → t < st.nt) (v : Value) : SS T e E (st.put d (.v v)) σ (a.put d v) w := by
  obtain ⟨E', Db, Di, hl, ρ, h⟩ := h
  refine ⟨E', Db, Di, ?_, ρ, h.put d hd (.im (.v _))⟩
  cases d <;> exact hl
/-- What is beside the state, in the world as it is now. -/
theorem LnkS.now {E' : Env} {ρ : Nat → Loc} {Db Di : Nat → Prop} {fx : List Nat} (hl : LnkS T e E σ fx E' Db Di) (h : SR E' ρ st a w) : BdS T e E.w0.heap.size σ.bo Db w ∧ ItS E.w0.heap.size σ.it Di w := by
  obtain ⟨h1, h2, h3, h4, h5, h6, h7, h8, h9⟩ := hl
  exact ⟨h1.kept fun x hx => h.keep.block x (h1.lt hx).2 (h5 x (.inl hx)), h2.kept fun x hx => h.keep.block x (h2.lt hx).2 (h5 x (.inr hx))⟩
/-- Only what is beside the state has changed. -/
theorem LnkS.upd {E' : Env} {ρ : Nat → Loc} {Db Di Db' Di' : Nat → Prop} {σ' : So} {w' : World} (hl : LnkS T e E σ st.fx E' Db Di) (hS : SR E' ρ st a w) (hk : Keeps w w' (fun x => Db x ∨ Di x))
    (q1 : BdS T e E.w0.heap.size σ'.bo Db' w') (q2 : ItS E.w0.heap.size σ'.it Di' w') (q3 : ∀ x, Db' x → ¬ Di' x) (q4 : ∀ x, Db' x ∨ Di' x → (Db x ∨ Di x) ∨ w.heap.size ≤ x) : ∃ E2, LnkS T e E σ' st.fx E2 Db' Di' ∧ SR E2 ρ st a w' := by
  have hwid := hl.wide hS
  obtain ⟨h1, h2, h3, h4, h5, h6, h7, h8, h9⟩ := hl
  have hlow : ∀ x, Db x ∨ Di x → E.w0.heap.size ≤ x := fun x hx => hx.elim (fun h => (h1.lt h).1) (fun h => (h2.lt h).1)
  have hbad : ∀ x, Db x ∨ Di x → E'.bad x := fun x hx => (h4 x).2 (.inr hx)
  have hblk : ∀ x, x < w.heap.size → ¬ E'.bad x → w'.heap[x]? = w.heap[x]? := fun x hx hn => hk.block x hx fun h => hn (hbad x h)
  have hcell : ∀ x o, x < w.heap.size → ¬ avd E'.bad ρ st.hp x → w'.cell? ⟨x, o, none⟩ = w.cell? ⟨x, o, none⟩ := fun x o hx hn => World.cell?_of_block (w := w) (a := ⟨x, o, none⟩) (hblk x hx fun h => hn (.inl h))
  have hav : ∀ x, x < w.heap.size → avd (fun x => E.bad x ∨ Db' x ∨ Di' x) ρ st.hp x → avd E'.bad ρ st.hp x := fun x hx h => by
    rcases h with (h | h) | h
    · exact .inl ((h4 x).2 (.inl h))
    · rcases q4 x h with h | h
      · exact .inl (hbad x h)
      · omega
    · exact .inr h
  have hown : ∀ x, ownB ρ st.hp x → ¬ (Db' x ∨ Di' x) := fun x hx h => by
    rcases q4 x h with h | h
    · exact hS.nb x hx (hbad x h)
    · have := ownB_lt hS hx; omega
  refine ⟨⟨w', fun x => E.bad x ∨ Db' x ∨ Di' x, ownB ρ st.hp, ρ, E.ds⟩, ⟨q1, q2, q3, fun x => Iff.rfl, fun x hx hx' => hown x hx' hx, ?_, fun x hx => hwid.own x hx, h8, rfl, fun i hi => hwid.fx i hi⟩, ?_⟩
  · refine ⟨hk.os.trans hwid.keep.os, hk.tape.trans hwid.keep.tape, hk.output.trans hwid.keep.output, Nat.le_trans hwid.keep.size hk.size, fun x hx hn => ?_⟩
    refine (hk.block x (Nat.lt_of_lt_of_le hx hwid.keep.size) fun h => ?_).trans (hwid.keep.block x hx hn)
    have := hlow x h
    omega
  · refine ⟨fun t x hx => (hS.fr t x hx).tr hk.size hcell hav (fun _ h => absurd rfl h), ⟨fun j cs hj => ?_, hS.hr.dis⟩, fun x hx => .inl hx, Keeps.refl _ _, ⟨fun x hx => ?_, hS.glob.keeps hk (fun x hx hg => ?_), fun x hx => hS.ngb hx⟩, fun x hx h => ?_, hS.size, hS.defers.trans h9.1, fun i hi => rfl⟩
    · have hob := hS.hr.obj j cs hj
      exact hob.tr hk.size (fun hc => hblk _ (hob.mem hc).1 (hS.nb _ ⟨j, cs, hj, hc, rfl⟩)) hcell hav (fun _ h => absurd rfl h)
    · rcases hx with h | h | h
      · exact Nat.lt_of_lt_of_le (h8.1 x h) (Nat.le_trans hwid.keep.size hk.size)
      · exact (q1.lt h).2
      · exact (q2.lt h).2
    · have := hlow x hx
      have := h8.2.1.lt hg
      omega
    · rcases h with h | h
      · exact hS.nb x hx ((h4 x).2 (.inl h))
      · exact hown x hx h
theorem aw_of_awS {c : Code} {Q : Exit → St → Prop} (T e : TypeId) (h : awS P T e c st ⟨none, none⟩ (fun x st _ => Q x st)) : aw P c st Q := fun E a w hS =>
  wp_mono (h E a w (SS.of hS)) fun x a' w' ⟨st', σ', hs, hq⟩ => ⟨st', hs.toS, hq⟩
theorem awS_seq {x y : Code} (h : ∀ K, KontS P T e y Q K → awS P T e x st σ (thenS K Q)) : awS P T e (.seq x y) st σ Q := fun E a w hS => by
  refine wp_seq (wp_mono (h (fun st σ => awS P T e y st σ Q) ⟨fun _ _ h => h⟩ E a w hS) fun x a' w' hq => ?_)
  obtain ⟨st', σ', hs, hq⟩ := hq
  cases x <;> first
    | exact hq E a' w' hs
    | exact ⟨st', σ', hs, hq⟩
theorem awS_skip (h : Q .normal st σ) : awS P T e .skip st σ Q := fun E a w hS => wp_skip ⟨st, σ, hS, h⟩
theorem awS_exit {id : Nat} (h : Q (.exit id) st σ) : awS P T e (.exit id) st σ Q := fun E a w hS => wp_exit ⟨st, σ, hS, h⟩
theorem awS_ret (h : Q .ret st σ) : awS P T e .ret st σ Q := fun E a w hS => wp_ret ⟨st, σ, hS, h⟩
theorem awS_block {id : Nat} {c : Code} (h : awS P T e c st σ (blkS id Q)) : awS P T e (.block id c) st σ Q := fun E a w hS => by
  refine wp_block (wp_mono (h E a w hS) fun x a' w' hq => ?_)
  obtain ⟨st', σ', hs, hq⟩ := hq
  cases x with
  | exit i =>
    simp only [blkS] at hq
    simp only [Exit.inBlock]
    split
    · next hi => rw [if_pos hi] at hq; exact ⟨st', σ', hs, hq⟩
    · next hi => rw [if_neg hi] at hq; exact ⟨st', σ', hs, hq⟩
  | _ => exact ⟨st', σ', hs, hq⟩
theorem awS_cond {c : Operand} {x y : Code} {t : Bool} (hc : opv st c = some (.v (.bool t))) (ht : t = true → awS P T e x st σ Q) (hf : t = false → awS P T e y st σ Q) : awS P T e (.cond c x y) st σ Q := fun E a w hS => by
  obtain ⟨E', ρ, w1, hS'⟩ := hS.someSR
  exact wp_cond_split (Rep.v_eq (opv_sound hS' hc)) (fun h => ht h E a w hS) (fun h => hf h E a w hS)
theorem awS_cond_true {c : Operand} {x y : Code} (hc : opv st c = some (.v (.bool true))) (h : awS P T e x st σ Q) : awS P T e (.cond c x y) st σ Q := awS_cond hc (fun _ => h) (fun h => by cases h)
theorem awS_cond_false {c : Operand} {x y : Code} (hc : opv st c = some (.v (.bool false))) (h : awS P T e y st σ Q) : awS P T e (.cond c x y) st σ Q := awS_cond hc (fun h => by cases h) (fun _ => h)
theorem awS_loop {α : Type} {c : Code} (F : α → St) (bs : α → So) (I : α → Prop) (μ : α → Nat) (x0 : α) (h0 : I x0) (hs : Sub (F x0) st) (hb : σ = bs x0)
    (round : ∀ x, I x → awS P T e c (F x) (bs x) (thenS (fun st' σ' => ∃ y, I y ∧ μ y < μ x ∧ Sub (F y) st' ∧ σ' = bs y) Q)) : awS P T e (.loop c) st σ Q := fun E a w hS => by
  subst hb
  refine wp_loop_ghost (fun n a' w' => ∃ x, μ x = n ∧ I x ∧ SS T e E (F x) (bs x) a' w') (μ x0) ⟨x0, rfl, h0, hS.sub hs⟩ ?_
  rintro n a' w' ⟨x, rfl, hI, hx⟩
  refine wp_mono (round x hI E a' w' hx) fun x' a2 w2 hq => ?_
  obtain ⟨st2, σ2, h2, hq⟩ := hq
  cases x' with
  | normal =>
    obtain ⟨y, hy, hlt, hsub, rfl⟩ := hq
    exact ⟨μ y, hlt, y, rfl, hy, h2.sub hsub⟩
  | _ => exact ⟨st2, σ2, h2, hq⟩
/-- What a round hands on. -/
def LES {α : Type} (I : α → Prop) (μ : α → Nat) (vs : α → List (Nat × AV)) (keep : List (Nat × AV)) (hs : α → Hp) (bs : α → So) (nt : Nat) (fx : List Nat) (x : α) : St → So → Prop := fun st' σ' =>
  ∃ y, I y ∧ μ y < μ x ∧ subL (vs y) st'.fr ∧ subL keep st'.fr ∧ subL (hs y) st'.hp ∧ nt = st'.nt ∧ fx = st'.fx ∧ σ' = bs y
theorem LES_mk {α : Type} {I : α → Prop} {μ : α → Nat} {vs : α → List (Nat × AV)} {keep : List (Nat × AV)} {hs : α → Hp} {bs : α → So} {nt : Nat} {fx : List Nat} {x : α} {fr' : List (Nat × AV)} {hp' : Hp} {σ' : So} (y : α) (h1 : I y) (h2 : μ y < μ x) (h6 : σ' = bs y) (h3 : subL (vs y) fr') (h4 : subL keep fr') (h5 : subL (hs y) hp') :
    LES I μ vs keep hs bs nt fx x ⟨fr', hp', nt, fx⟩ σ' := ⟨y, h1, h2, h3, h4, h5, rfl, rfl, h6⟩
theorem awS_loopF {α : Type} {c : Code} {fr : List (Nat × AV)} {hp : Hp} {nt : Nat} {fx : List Nat} (vs : α → List (Nat × AV)) (hs : α → Hp) (bs : α → So) (I : α → Prop) (μ : α → Nat) (x0 : α) (h0 : I x0) (hb : σ = bs x0) (h1 : subL (vs x0) fr) (h2 : subL (hs x0) hp)
    (round : ∀ x, I x → awS P T e c ⟨vs x ++ cutL (dsts c) fr, hs x, nt, fx⟩ (bs x) (thenS (LES I μ vs (cutL (dsts c) fr) hs bs nt fx x) Q)) : awS P T e (.loop c) ⟨fr, hp, nt, fx⟩ σ Q :=
  awS_loop (fun x => ⟨vs x ++ cutL (dsts c) fr, hs x, nt, fx⟩) bs I μ x0 h0 ⟨fun p hp => by
      rcases List.mem_append.1 hp with h | h
      · exact subL_spec h1 p h
      · exact (cutL_spec _ _ p h).2, subL_spec h2, rfl, rfl⟩ hb fun x hx E a w hS => wp_mono (round x hx E a w hS) fun x' a' w' ⟨st', σ', hs', hq⟩ => by
    cases x' with
    | normal =>
      obtain ⟨y, q1, q2, q3, q4, q5, q6, q7, q8⟩ := hq
      refine ⟨st', σ', hs', y, q1, q2, ⟨fun p hp => ?_, subL_spec q5, q6, q7⟩, q8⟩
      rcases List.mem_append.1 hp with h | h
      · exact subL_spec q3 p h
      · exact subL_spec q4 p h
    | _ => exact ⟨st', σ', hs', hq⟩
end

section
variable {P : Program} {T e : TypeId} {st st' : St} {σ : So} {Q : Exit → St → So → Prop} {ops : Array Oper} {rest : List Oper} {o : Oper}
theorem awSO_nil (h : Q .normal st σ) : awSO P T e ops [] st σ Q := fun E a w hS => wpList_nil ⟨st, σ, hS, h⟩
theorem awS_region {id : Nat} {l : List Oper} (h : awSO P T e l.toArray l st σ Q) : awS P T e (.region id l.toArray false) st σ Q := fun E a w hS => wp_region_lit (h E a w hS)
theorem awSO_ev {fr fr' : List (Nat × AV)} {hp hp' : Hp} {nt : Nat} {fx : List Nat} (hg : o.guard = none) (h : ev P ⟨fr, hp, nt, fx⟩ o = some ⟨fr', hp', nt, fx⟩) (hr : awSO P T e ops rest ⟨fr', hp', nt, fx⟩ σ Q) : awSO P T e ops (o :: rest) ⟨fr, hp, nt, fx⟩ σ Q := fun E a w ⟨E', Db, Di, hl, ρ, hS⟩ =>
  wpList_plain hg fun K hK => wp_stepTo (ev_sound hS h) fun a' w' hs => hK _ _ (hr E a' w' ⟨E', Db, Di, hl, hs⟩)
theorem SS.same {E : Env} {a : Act} {w : World} {fr : List (Nat × AV)} {hp : Hp} {nt : Nat} {fx : List Nat} {t : Nat} {x : AV} (hx : look fr t = some x) (hS : SS T e E ⟨fr, hp, nt, fx⟩ σ a w) : SS T e E ⟨(t, x) :: fr, hp, nt, fx⟩ σ a w := by
  obtain ⟨E', Db, Di, hl, ρ, h⟩ := hS
  refine ⟨E', Db, Di, hl, ρ, fun t' y hy => ?_, h.hr, h.own, h.keep, h.bad, h.nb, h.size, h.defers, h.fx⟩
  rw [look_cons] at hy
  split at hy
  · next e => subst e; injection hy with hy; subst hy; exact h.fr t _ hx
  · exact h.fr t' y hy
theorem awSO_guard {fr : List (Nat × AV)} {hp : Hp} {nt : Nat} {fx : List Nat} {j t : Nat} {b c : Bool} (hg : o.guard = some (j, b)) (hj : (ops[j]?).bind (·.dst) = some t) (hc : look fr t = some (.v (.bool c))) (h1 : c = b → awSO P T e ops (o :: rest) ⟨(t, .v (.bool b)) :: fr, hp, nt, fx⟩ σ Q) (h2 : c = !b → awSO P T e ops (o :: rest) ⟨(t, .v (.bool !b)) :: fr, hp, nt, fx⟩ σ Q) :
    awSO P T e ops (o :: rest) ⟨fr, hp, nt, fx⟩ σ Q := fun E a w hS => by
  by_cases e1 : c = b
  · subst e1; exact h1 rfl E a w (hS.same hc)
  · have e2 : c = !b := by cases c <;> cases b <;> simp_all
    subst e2; exact h2 rfl E a w (hS.same hc)
theorem awSO_y {fr fr' : List (Nat × AV)} {hp hp' : Hp} {nt : Nat} {fx : List Nat} {j t : Nat} {b : Bool} (hg : o.guard = some (j, b)) (hj : (ops[j]?).bind (·.dst) = some t) (ht : t < nt) (hc : look fr t = some (.v (.bool b))) (h : ev P ⟨fr, hp, nt, fx⟩ o = some ⟨fr', hp', nt, fx⟩) (hr : awSO P T e ops rest ⟨fr', hp', nt, fx⟩ σ Q) :
    awSO P T e ops (o :: rest) ⟨fr, hp, nt, fx⟩ σ Q := fun E a w ⟨E', Db, Di, hl, ρ, hS⟩ => by
  refine wpList_step fun K hK => ?_
  rw [wanted_of hS hg hj ht hc, if_pos (by simp)]
  exact wp_stepTo (ev_sound hS h) fun a' w' hs => hK _ _ (hr E a' w' ⟨E', Db, Di, hl, hs⟩)
theorem awSO_n {fr : List (Nat × AV)} {hp : Hp} {nt : Nat} {fx : List Nat} {j t d : Nat} {b c : Bool} (hg : o.guard = some (j, b)) (hj : (ops[j]?).bind (·.dst) = some t) (ht : t < nt) (hc : look fr t = some (.v (.bool c))) (hne : (c == b) = false) (hd : o.dst = some d) (hdn : d < nt) (hr : awSO P T e ops rest ⟨(d, .v undef) :: fr, hp, nt, fx⟩ σ Q) :
    awSO P T e ops (o :: rest) ⟨fr, hp, nt, fx⟩ σ Q := fun E a w hS => by
  refine wpList_step fun K hK => ?_
  obtain ⟨E', ρ, w1, hS'⟩ := hS.someSR
  rw [wanted_of hS' hg hj ht hc, hne, if_neg (by simp), hd]
  exact hK _ _ (hr E _ w (hS.putv (some d) (fun t e => by injection e with e; subst e; exact hdn) undef))
theorem awSO_u {fr : List (Nat × AV)} {hp : Hp} {nt : Nat} {fx : List Nat} {j t d : Nat} {b : Bool} (hg : o.guard = some (j, b)) (hj : (ops[j]?).bind (·.dst) = some t) (hc : look fr t = some (.v undef)) (hd : o.dst = some d) (hdn : d < nt) (hr : awSO P T e ops rest ⟨(d, .v undef) :: fr, hp, nt, fx⟩ σ Q) :
    awSO P T e ops (o :: rest) ⟨fr, hp, nt, fx⟩ σ Q := fun E a w hS => by
  refine wpList_step fun K hK => ?_
  obtain ⟨E', ρ, w1, hS'⟩ := hS.someSR
  rw [wanted_undef hS' hg hj hc, if_neg (by simp), hd]
  exact hK _ _ (hr E _ w (hS.putv (some d) (fun t e => by injection e with e; subst e; exact hdn) undef))
theorem awSO_un {dst : Option Nat} {op : Op} {ty : TypeId} {ps : String} {af : Array Edge} {fr : List (Nat × AV)} {hp : Hp} {nt : Nat} {fx : List Nat} {j t : Nat} {b : Bool} (hj : (ops[j]?).bind (·.dst) = some t) (ht : t < nt) (hc : look fr t = some (.v (.bool b)))
    (h : awSO P T e ops (⟨dst, op, ty, ps, af, none⟩ :: rest) ⟨fr, hp, nt, fx⟩ σ Q) : awSO P T e ops (⟨dst, op, ty, ps, af, some (j, b)⟩ :: rest) ⟨fr, hp, nt, fx⟩ σ Q := fun E a w hS => by
  have h1 := h E a w hS
  obtain ⟨E', ρ, w1, hS'⟩ := hS.someSR
  have hw := wanted_of (ops := ops) (o := ⟨dst, op, ty, ps, af, some (j, b)⟩) hS' rfl hj ht hc
  simp only [wpList, hw, beq_self_eq_true] at h1 ⊢
  exact h1
/-! ### Calls -/
theorem awSO_c {fr : List (Nat × AV)} {hp : Hp} {nt : Nat} {fx : List Nat} {d : Nat} {f : FuncId} {args : List Operand} {ts : Array TypeId} {ys : List AV} {r : AV} (hg : o.guard = none) (ho : o.op = .call ⟨.value (.func f), args.toArray, ts⟩) (ha : argsA ⟨fr, hp, nt, fx⟩ args = some ys) (hc : Ab P f ys r) (hi : ys.all immA = true) (hr : immA r = true)
    (hd : o.dst = some d) (hdn : d < nt) (h : awSO P T e ops rest ⟨(d, r) :: fr, hp, nt, fx⟩ σ Q) : awSO P T e ops (o :: rest) ⟨fr, hp, nt, fx⟩ σ Q := fun E a w ⟨E', Db, Di, hl, ρ, hS⟩ =>
  wpList_plain hg fun K hK => call_step hS ho ha hc hi hr (fun e he => by rw [hd] at he; injection he with he; subst he; exact hdn) fun a' w' hs _ => hK _ _ (h E a' w' ⟨E', Db, Di, hl, by rw [hd] at hs; exact hs⟩)
theorem awSO_range {s : List UInt8} {bo : Option (Nat × List UInt8)} {fr : List (Nat × AV)} {hp : Hp} {nt : Nat} {fx : List Nat} {d : Nat} {t : TypeId} {x : Operand} (hg : o.guard = none) (ho : o.op = .range t x) (ht : P.underlying t = some .string) (hx : opv ⟨fr, hp, nt, fx⟩ x = some (.v (.string (str s)))) (hd : o.dst = some d) (hdn : d < nt)
    (h : ∀ c, awSO P T e ops rest ⟨(d, bpt c) :: fr, hp, nt, fx⟩ ⟨bo, some (c, s, 0)⟩ Q) : awSO P T e ops (o :: rest) ⟨fr, hp, nt, fx⟩ ⟨bo, none⟩ Q := fun E a w ⟨E', Db, Di, hl, ρ, hS⟩ => by
  refine wpList_plain hg fun K hK => ?_
  have hev : a.eval x = .string (str s) := Rep.v_eq (opv_sound hS hx)
  have hrun : (execOp a.eval o).run P w = .ok (.value (.pointer (some ⟨w.heap.size, 0, none⟩))) (w.iter (str s) 0) := by
    simp [execOp, ho, hev, run_range_string w t (str s) ht]
  unfold Oper.wp
  rw [hrun, Oper.upon_value, hd]
  have hnow := hl.now hS
  have hsz := (hl.wide hS).keep.size
  obtain ⟨E2, hl2, hS2⟩ := hl.upd (σ' := ⟨bo, some (w.heap.size, s, 0)⟩) (Db' := Db) (Di' := fun x => x = w.heap.size) hS ((Keeps.refl w _).alloc (.stringIter (str s) 0))
    (hnow.1.kept fun x hx => Below.heap_alloc w _ x (hnow.1.lt hx).2)
    ⟨hsz, heap_alloc_new w _, fun x => Iff.rfl⟩
    (fun x hx hx' => by have := (hnow.1.lt hx).2; omega)
    (fun x hx => by
      rcases hx with hx | rfl
      · exact .inl (.inl hx)
      · exact .inr (Nat.le_refl _))
  exact hK _ _ (h w.heap.size E _ _ ⟨E2, _, _, hl2, ρ, hS2.put (some d) (fun t e => by injection e with e; subst e; exact hdn) (.im (.v _))⟩)
theorem awSO_next {c p : Nat} {s : List UInt8} {bo : Option (Nat × List UInt8)} {fr : List (Nat × AV)} {hp : Hp} {nt : Nat} {fx : List Nat} {d : Nat} {x : Operand} (hg : o.guard = none) (ho : o.op = .next x true) (hx : opv ⟨fr, hp, nt, fx⟩ x = some (bpt c)) (hd : o.dst = some d) (hdn : d < nt)
    (h1 : p < s.length → awSO P T e ops rest ⟨(d, .tp [.v (.bool true), .v (.int .i64 p), .v (.int .i32 (Utf8.decode (str s) p).1)]) :: fr, hp, nt, fx⟩ ⟨bo, some (c, s, p + (Utf8.decode (str s) p).2)⟩ Q)
    (h2 : s.length ≤ p → awSO P T e ops rest ⟨(d, .tp [.v (.bool false)]) :: fr, hp, nt, fx⟩ ⟨bo, some (c, s, p)⟩ Q) : awSO P T e ops (o :: rest) ⟨fr, hp, nt, fx⟩ ⟨bo, some (c, s, p)⟩ Q := fun E a w ⟨E', Db, Di, hl, ρ, hS⟩ => by
  refine wpList_plain hg fun K hK => ?_
  have hev : a.eval x = .pointer (some ⟨c, 0, none⟩) := Rep.v_eq (opv_sound hS hx)
  have hnow := hl.now hS
  obtain ⟨hB, hc, hDc, hDi⟩ := hnow
  have hdis := hl.2.2.1
  by_cases hp : p < s.length
  · have hrun : (execOp a.eval o).run P w = .ok (.value (.tuple #[.bool true, .int .i64 p, .int .i32 (Utf8.decode (str s) p).1])) (w.iterAt c (str s) (p + (Utf8.decode (str s) p).2)) := by
      simp [execOp, ho, hev, Lib.run_next_any_at w c (str s) p o.type hDc (by rw [str_size]; exact hp)]
    unfold Oper.wp
    rw [hrun, Oper.upon_value, hd]
    have hk : Keeps w (w.iterAt c (str s) (p + (Utf8.decode (str s) p).2)) (fun x => Db x ∨ Di x) := ⟨rfl, rfl, rfl, by rw [Lib.iterAt_size]; exact Nat.le_refl _, fun x hx hn => Lib.iterAt_other w c x _ _ fun e => hn (.inr ((hDi x).2 e))⟩
    obtain ⟨E2, hl2, hS2⟩ := hl.upd (σ' := ⟨bo, some (c, s, p + (Utf8.decode (str s) p).2)⟩) (Db' := Db) (Di' := Di) hS hk
      (hB.kept fun x hx => Lib.iterAt_other w c x _ _ fun e => hdis x hx ((hDi x).2 e))
      ⟨hc, Lib.iterAt_heap w c _ _ _ hDc, hDi⟩ hdis (fun x hx => .inl hx)
    refine hK _ _ (h1 hp E _ _ ⟨E2, _, _, hl2, ρ, hS2.put (some d) (fun t e => by injection e with e; subst e; exact hdn) ?_⟩)
    refine .tp rfl fun j y u hj hu => ?_
    match j, hj, hu with
    | 0, hj, hu => simp at hj hu; subst hj; subst hu; exact .im (.v _)
    | 1, hj, hu => simp at hj hu; subst hj; subst hu; exact .im (.v _)
    | 2, hj, hu => simp at hj hu; subst hj; subst hu; exact .im (.v _)
  · have hrun : (execOp a.eval o).run P w = .ok (.value (.tuple #[.bool false])) w := by
      simp [execOp, ho, hev, Lib.run_next_end_at w c (str s) p o.type hDc (by rw [str_size]; exact hp)]
    unfold Oper.wp
    rw [hrun, Oper.upon_value, hd]
    refine hK _ _ (h2 (by omega) E _ _ ⟨E', _, _, hl, ρ, hS.put (some d) (fun t e => by injection e with e; subst e; exact hdn) ?_⟩)
    refine .tp rfl fun j y u hj hu => ?_
    match j, hj, hu with
    | 0, hj, hu => simp at hj hu; subst hj; subst hu; exact .im (.v _)
end
/-! ### Runes -/
theorem decode_bytes (s : ByteArray) (i : Nat) : ∀ k, 0 < k → k < (Utf8.decode s i).2 → i + k < s.size ∧ 128 ≤ (s.get! (i + k)).toNat := by
  intro k h0 hk
  have key : ∀ j, (decide (i + j < s.size) && (s.get! (i + j)).toNat / 64 == 2) = true → i + j < s.size ∧ 128 ≤ (s.get! (i + j)).toNat := by
    intro j hj
    simp only [Bool.and_eq_true, decide_eq_true_eq, beq_iff_eq] at hj
    exact ⟨hj.1, by omega⟩
  simp only [Utf8.decode] at hk
  split at hk
  · simp only at hk; omega
  split at hk
  · next h =>
    simp only [Bool.and_eq_true] at h
    have h1 := key 1 (by simpa only [Bool.and_eq_true] using h.2)
    have : k < 2 := by split at hk <;> simp only at hk <;> omega
    obtain rfl : k = 1 := by omega
    exact h1
  split at hk
  · next h =>
    simp only [Bool.and_eq_true] at h
    have h1 := key 1 (by simpa only [Bool.and_eq_true] using h.1.2)
    have h2 := key 2 (by simpa only [Bool.and_eq_true] using h.2)
    have : k < 3 := by split at hk <;> simp only at hk <;> omega
    rcases (by omega : k = 1 ∨ k = 2) with rfl | rfl
    · exact h1
    · exact h2
  split at hk
  · next h =>
    simp only [Bool.and_eq_true] at h
    have h1 := key 1 (by simpa only [Bool.and_eq_true] using h.1.1.2)
    have h2 := key 2 (by simpa only [Bool.and_eq_true] using h.1.2)
    have h3 := key 3 (by simpa only [Bool.and_eq_true] using h.2)
    have : k < 4 := by split at hk <;> simp only at hk <;> omega
    rcases (by omega : k = 1 ∨ k = 2 ∨ k = 3) with rfl | rfl | rfl
    · exact h1
    · exact h2
    · exact h3
  · simp only at hk; omega
theorem str_get! (s : List UInt8) (j : Nat) (h : j < s.length) : (str s).get! j = s[j] := by
  have h' : j < (str s).size := by rw [str_size]; exact h
  rw [← str_get s j h', ← get_at (str s) j h', Nat.add_zero]
/-- A rune is its byte, or stands for bytes from 128 on. -/
theorem rune_cases (s : List UInt8) (p : Nat) (h : p < s.length) : (s[p].toNat < 128 ∧ Utf8.decode (str s) p = (s[p].toNat, 1)) ∨ (128 ≤ s[p].toNat ∧ 128 ≤ (Utf8.decode (str s) p).1 ∧ 1 ≤ (Utf8.decode (str s) p).2 ∧ (Utf8.decode (str s) p).1 ≤ 2147483647 ∧ p + (Utf8.decode (str s) p).2 ≤ s.length ∧
    ∀ j, p ≤ j → j < p + (Utf8.decode (str s) p).2 → 128 ≤ (s[j]?.getD 0).toNat) := by
  have h' : p < (str s).size := by rw [str_size]; exact h
  have e := str_get s p h'
  rcases Nat.lt_or_ge s[p].toNat 128 with h1 | h1
  · exact .inl ⟨h1, by rw [decode_ascii (str s) p h' (by rw [e]; exact h1), e]⟩
  · have h2 := decode_high (str s) p h' (by rw [e]; exact h1)
    have h3 := decode_bytes (str s) p
    refine .inr ⟨h1, h2.1, h2.2, decode_le _ _, ?_, fun j hj hj' => ?_⟩
    · rcases Nat.lt_or_ge 1 (Utf8.decode (str s) p).2 with h4 | h4
      · have := (h3 ((Utf8.decode (str s) p).2 - 1) (by omega) (by omega)).1
        rw [str_size] at this
        omega
      · omega
    · rcases Nat.lt_or_ge p j with h4 | h4
      · have := h3 (j - p) (by omega) (by omega)
        rw [show p + (j - p) = j from by omega, str_size] at this
        rw [List.getElem?_eq_getElem this.1, Option.getD_some, ← str_get! s j this.1]
        exact this.2
      · obtain rfl : j = p := by omega
        rw [List.getElem?_eq_getElem h]
        exact h1
end Go.Proofs.YtogmppcfopgkdaaGreatDoor
