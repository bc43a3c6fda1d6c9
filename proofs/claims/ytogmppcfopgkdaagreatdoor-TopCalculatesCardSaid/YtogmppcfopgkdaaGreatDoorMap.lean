/- The abstract machine: a map from strings to strings beside the state, known by its address. No program is named here. -/
import Derived.Test.YtogmppcfopgkdaaGreatDoorRng
import Derived.Lib.OthersKept
import Derived.Maps.OwnSet
import Derived.Sort.KeysCollected
namespace Go.Proofs.YtogmppcfopgkdaaGreatDoor
open Go.RowKit Go.Maps
set_option linter.unusedVariables false
set_option linter.unusedSimpArgs false

/-! ### Maps as lists -/
abbrev Mp := List (List UInt8 × List UInt8)
def encM (p : List UInt8 × List UInt8) : Lit × DataW Unit := (.string p.1, .lit (.string p.2))
def mpD (m : Mp) : DataW Unit := .map (m.map encM)
def insM (x : List UInt8 × List UInt8) : Mp → Mp
  | [] => [x]
  | y :: r => if bytesBefore x.1 y.1 = true then x :: y :: r else y :: insM x r
def putM (k v : List UInt8) (m : Mp) : Mp := insM (k, v) (m.filter fun p => !(p.1 == k))
def getM (m : Mp) (k : List UInt8) : List UInt8 := match m.find? fun p => p.1 == k with
  | some p => p.2
  | none => []
def hasM (m : Mp) (k : List UInt8) : Bool := m.any fun p => p.1 == k
theorem insM_enc (x : List UInt8 × List UInt8) : ∀ m : Mp, DataW.insert (encM x) (m.map encM) = (insM x m).map encM
  | [] => rfl
  | y :: r => by
    simp only [List.map_cons, DataW.insert, insM]
    have : (encM x).1.before (encM y).1 = bytesBefore x.1 y.1 := rfl
    rw [this]
    split
    · rfl
    · rw [List.map_cons, insM_enc x r]
theorem mpD_put (k v : List UInt8) (m : Mp) : (mpD m).put (.string k) (.lit (.string v)) = mpD (putM k v m) := by
  have : (m.map encM).filter (fun p => !p.1.sameKey (.string k)) = (m.filter fun p => !(p.1 == k)).map encM := by
    rw [List.filter_map]; rfl
  show DataW.map (DataW.insert (encM (k, v)) _) = _
  rw [this, insM_enc]
  rfl
theorem mpD_at (k : List UInt8) (m : Mp) : (mpD m).atKey (.string k) (.lit (.string [])) = .lit (.string (getM m k)) := by
  have : (m.map encM).find? (fun p => p.1.sameKey (.string k)) = (m.find? fun p => p.1 == k).map encM := by
    rw [List.find?_map]; rfl
  unfold mpD DataW.atKey getM
  simp only
  rw [this]
  cases m.find? fun p => p.1 == k <;> rfl
theorem mpD_has (k : List UInt8) (m : Mp) : Maps.has (mpD m) (.string k) = hasM m k := by
  show ((m.map encM).any fun p => p.1.sameKey (.string k)) = _
  rw [List.any_map]; rfl
theorem mpD_keys (m : Mp) : strKeys (mpD m) = m.map (·.1) := by
  show (m.map encM).map (fun p => strOf p.1) = _
  rw [List.map_map]; rfl
theorem insM_perm (x : List UInt8 × List UInt8) : ∀ m : Mp, (insM x m).Perm (x :: m)
  | [] => .refl _
  | y :: r => by
    unfold insM
    split
    · exact .refl _
    · exact ((insM_perm x r).cons y).trans (.swap _ _ _)
theorem mem_putM {k v : List UInt8} {m : Mp} {p : List UInt8 × List UInt8} : p ∈ putM k v m ↔ p = (k, v) ∨ (p ∈ m ∧ p.1 ≠ k) := by
  unfold putM
  rw [(insM_perm _ _).mem_iff, List.mem_cons, List.mem_filter]
  simp
theorem putM_len (k v : List UInt8) (m : Mp) : (putM k v m).length ≤ m.length + 1 := by
  unfold putM
  rw [(insM_perm _ _).length_eq, List.length_cons]
  have := List.length_filter_le (fun p : List UInt8 × List UInt8 => !(p.1 == k)) m
  omega

/-- The block b is the map m. -/
def OwnsM (P : Program) (tk tv : TypeId) (w : World) (b : Nat) (m : Mp) : Prop := w.ownsMap P tk (plainElem P tv) b m.length (mpD m)
theorem ownsM_of {P : Program} {tk tv : TypeId} {w : World} {b n : Nat} {m : Mp} (h : w.ownsMap P tk (plainElem P tv) b n (mpD m)) : OwnsM P tk tv w b m := by
  obtain ⟨es, clock, hb, F, hs, hD⟩ := h
  refine ⟨es, clock, hb, F, ?_, hD⟩
  have h1 : m.map encM = (es.toList.map (WideElems.rg P tk (plainElem P tv))).foldr DataW.insert [] := by
    have := hD
    unfold mpD at this
    injection this
  have h2 := congrArg List.length h1
  rw [length_sorted, List.length_map, List.length_map] at h2
  simp at h2
  omega
theorem OwnsM.lt {P : Program} {tk tv : TypeId} {w : World} {b : Nat} {m : Mp} (h : OwnsM P tk tv w b m) : b < w.heap.size := World.ownsMap.lt h
theorem OwnsM.kept {P : Program} {tk tv : TypeId} {w w' : World} {b : Nat} {m : Mp} (h : OwnsM P tk tv w b m) (hk : w'.heap[b]? = w.heap[b]?) : OwnsM P tk tv w' b m := by
  obtain ⟨es, clock, hb, r⟩ := h
  exact ⟨es, clock, hk.trans hb, r⟩
abbrev mref (b : Nat) : AV := .v (.map (some b))
/-- The map that stands beside the state: its block, its content. -/
abbrev Mo := Option (Nat × Mp)
/-- The program's types: the map's, its keys', its values'. -/
structure MT where
  tm : TypeId
  tk : TypeId
  tv : TypeId
def MapS (P : Program) (T : MT) (E : Env) (σ : Mo) (D : Nat → Prop) (w : World) : Prop :=
  match σ with
  | none => ∀ x, ¬ D x
  | some (b, m) => (E.X b ∨ E.w0.heap.size ≤ b) ∧ OwnsM P T.tk T.tv w b m ∧ ∀ x, D x ↔ x = b
def LnkM (P : Program) (T : MT) (E : Env) (σ : Mo) (fx : List Nat) (E' : Env) (D : Nat → Prop) : Prop :=
  MapS P T E σ D E'.w0 ∧ (∀ x, E'.bad x ↔ E.bad x ∨ D x) ∧ (∀ x, D x → ¬ E'.X x) ∧
    Keeps E.w0 E'.w0 E.X ∧ (∀ x, E'.X x → E.X x ∨ E.w0.heap.size ≤ x) ∧ ((∀ b, E.bad b → b < E.w0.heap.size) ∧ Glob E.w0 ∧ ∀ b, E.X b → ¬ gblk b) ∧ E'.ds = E.ds ∧ ∀ i ∈ fx, E'.ρ0 i = E.ρ0 i
def SM (P : Program) (T : MT) (E : Env) (st : St) (σ : Mo) (a : Act) (w : World) : Prop := ∃ E' D, LnkM P T E σ st.fx E' D ∧ S E' st a w
def QQM (P : Program) (T : MT) (E : Env) (Q : Exit → St → Mo → Prop) : Exit → Act → World → Prop := fun x a w => ∃ st σ, SM P T E st σ a w ∧ Q x st σ
def awM (P : Program) (T : MT) (c : Code) (st : St) (σ : Mo) (Q : Exit → St → Mo → Prop) : Prop := ∀ E a w, SM P T E st σ a w → c.wp P (QQM P T E Q) a w
def awMO (P : Program) (T : MT) (ops : Array Oper) (l : List Oper) (st : St) (σ : Mo) (Q : Exit → St → Mo → Prop) : Prop := ∀ E a w, SM P T E st σ a w → wpList P ops (QQM P T E Q) l a w
def thenM (K : St → Mo → Prop) (Q : Exit → St → Mo → Prop) : Exit → St → Mo → Prop
  | .normal, st, σ => K st σ
  | x, st, σ => Q x st σ
def blkM (id : Nat) (Q : Exit → St → Mo → Prop) : Exit → St → Mo → Prop
  | .exit i, st, σ => if i = id then Q .normal st σ else Q (.exit i) st σ
  | x, st, σ => Q x st σ
theorem thenM_normal (K : St → Mo → Prop) (Q : Exit → St → Mo → Prop) (st : St) (σ : Mo) : thenM K Q .normal st σ = K st σ := rfl
theorem thenM_exit (K : St → Mo → Prop) (Q : Exit → St → Mo → Prop) (i : Nat) (st : St) (σ : Mo) : thenM K Q (.exit i) st σ = Q (.exit i) st σ := rfl
theorem thenM_ret (K : St → Mo → Prop) (Q : Exit → St → Mo → Prop) (st : St) (σ : Mo) : thenM K Q .ret st σ = Q .ret st σ := rfl
theorem blkM_normal (id : Nat) (Q : Exit → St → Mo → Prop) (st : St) (σ : Mo) : blkM id Q .normal st σ = Q .normal st σ := rfl
theorem blkM_exit (id : Nat) (Q : Exit → St → Mo → Prop) (i : Nat) (st : St) (σ : Mo) : blkM id Q (.exit i) st σ = if i = id then Q .normal st σ else Q (.exit i) st σ := rfl
theorem blkM_ret (id : Nat) (Q : Exit → St → Mo → Prop) (st : St) (σ : Mo) : blkM id Q .ret st σ = Q .ret st σ := rfl
set_option linter.defProp false in
def CTM := And.intro @thenM_normal <| And.intro @thenM_exit <| And.intro @thenM_ret <| And.intro @blkM_normal <| And.intro @blkM_exit <| And.intro @blkM_ret <| trivial
structure KontM (P : Program) (T : MT) (y : Code) (Q : Exit → St → Mo → Prop) (K : St → Mo → Prop) : Prop where
  go : ∀ st σ, awM P T y st σ Q → K st σ
section
variable {P : Program} {T : MT} {E : Env} {st st' : St} {σ : Mo} {a : Act} {w : World} {Q : Exit → St → Mo → Prop}
theorem MapS.lt {D : Nat → Prop} (h : MapS P T E σ D w) {x : Nat} (hx : D x) : (E.X x ∨ E.w0.heap.size ≤ x) ∧ x < w.heap.size := by
  match σ, h with
  | none, h => exact absurd hx (h x)
  | some (b, m), ⟨h1, h2, h3⟩ =>
    have := (h3 x).1 hx
    subst this
    exact ⟨h1, h2.lt⟩
theorem MapS.kept {D : Nat → Prop} {w' : World} (h : MapS P T E σ D w) (hk : ∀ x, D x → w'.heap[x]? = w.heap[x]?) : MapS P T E σ D w' := by
  match σ, h with
  | none, h => exact h
  | some (b, m), ⟨h1, h2, h3⟩ => exact ⟨h1, h2.kept (hk b ((h3 b).2 rfl)), h3⟩
theorem SM.someSR (h : SM P T E st σ a w) : ∃ E' ρ w1, SR E' ρ st a w1 := by
  obtain ⟨E', _, _, ρ, h⟩ := h
  exact ⟨E', ρ, w, h⟩
theorem LnkM.wide {E' : Env} {ρ : Nat → Loc} {D : Nat → Prop} (hl : LnkM P T E σ st.fx E' D) (h : SR E' ρ st a w) : SR E ρ st a w := by
  obtain ⟨h1, h4, h5, h6, h7, h8, h9⟩ := hl
  obtain ⟨fr, hp, nt, fx⟩ := st
  exact SR.wider (b := 0) (v := default) (l := []) (k := 0) h (fun i hi => hi) (fun x hx => (h4 x).2 (.inl hx)) h6 h7 h8 h9
theorem SM.toS (h : SM P T E st σ a w) : S E st a w := by
  obtain ⟨E', D, hl, ρ, h⟩ := h
  exact ⟨ρ, hl.wide h⟩
theorem SM.of (h : S E st a w) : SM P T E st none a w := by
  obtain ⟨ρ, h⟩ := h
  exact ⟨E, fun _ => False, ⟨fun _ h => h, fun x => ⟨.inl, fun h => h.elim id False.elim⟩, fun x h => h.elim, Keeps.refl _ _, fun x hx => .inl hx, h.bad, rfl, fun _ _ => rfl⟩, ρ, h⟩
theorem SM.sub (hs : Sub st' st) (h : SM P T E st σ a w) : SM P T E st' σ a w := by
  obtain ⟨E', D, hl, h⟩ := h
  exact ⟨E', D, by rw [hs.fx]; exact hl, hs.S h⟩
theorem SM.putv (h : SM P T E st σ a w) (d : Option Nat) (hd : ∀ t, d = some t → t < st.nt) (v : Value) : SM P T E (st.put d (.v v)) σ (a.put d v) w := by
  obtain ⟨E', D, hl, ρ, h⟩ := h
  refine ⟨E', D, ?_, ρ, h.put d hd (.im (.v _))⟩
  cases d <;> exact hl
/-- The map, in the world as it is now. -/
theorem LnkM.now {E' : Env} {ρ : Nat → Loc} {D : Nat → Prop} {fx : List Nat} (hl : LnkM P T E σ fx E' D) (h : SR E' ρ st a w) : MapS P T E σ D w := by
  obtain ⟨h1, h4, h5, h6, h7, h8, h9⟩ := hl
  exact h1.kept fun x hx => h.keep.block x (h1.lt hx).2 (h5 x hx)
/-- Only what is beside the state has changed. -/
theorem LnkM.upd {E' : Env} {ρ : Nat → Loc} {D D' : Nat → Prop} {σ' : Mo} {w' : World} (hl : LnkM P T E σ st.fx E' D) (hS : SR E' ρ st a w) (hk : Keeps w w' D)
    (q1 : MapS P T E σ' D' w') (q4 : ∀ x, D' x → D x ∨ w.heap.size ≤ x) : ∃ E2, LnkM P T E σ' st.fx E2 D' ∧ SR E2 ρ st a w' := by
  have hwid := hl.wide hS
  obtain ⟨h1, h4, h5, h6, h7, h8, h9⟩ := hl
  have hlow : ∀ x, D x → E.X x ∨ E.w0.heap.size ≤ x := fun x hx => (h1.lt hx).1
  have hbad : ∀ x, D x → E'.bad x := fun x hx => (h4 x).2 (.inr hx)
  have hblk : ∀ x, x < w.heap.size → ¬ E'.bad x → w'.heap[x]? = w.heap[x]? := fun x hx hn => hk.block x hx fun h => hn (hbad x h)
  have hcell : ∀ x o, x < w.heap.size → ¬ avd E'.bad ρ st.hp x → w'.cell? ⟨x, o, none⟩ = w.cell? ⟨x, o, none⟩ := fun x o hx hn => World.cell?_of_block (w := w) (a := ⟨x, o, none⟩) (hblk x hx fun h => hn (.inl h))
  have hav : ∀ x, x < w.heap.size → avd (fun x => E.bad x ∨ D' x) ρ st.hp x → avd E'.bad ρ st.hp x := fun x hx h => by
    rcases h with (h | h) | h
    · exact .inl ((h4 x).2 (.inl h))
    · rcases q4 x h with h | h
      · exact .inl (hbad x h)
      · omega
    · exact .inr h
  have hown : ∀ x, ownB ρ st.hp x → ¬ D' x := fun x hx h => by
    rcases q4 x h with h | h
    · exact hS.nb x hx (hbad x h)
    · have := ownB_lt hS hx; omega
  refine ⟨⟨w', fun x => E.bad x ∨ D' x, ownB ρ st.hp, ρ, E.ds⟩, ⟨q1, fun x => Iff.rfl, fun x hx hx' => hown x hx' hx, ?_, fun x hx => hwid.own x hx, h8, rfl, fun i hi => hwid.fx i hi⟩, ?_⟩
  · refine ⟨hk.os.trans hwid.keep.os, hk.tape.trans hwid.keep.tape, hk.output.trans hwid.keep.output, Nat.le_trans hwid.keep.size hk.size, fun x hx hn => ?_⟩
    refine (hk.block x (Nat.lt_of_lt_of_le hx hwid.keep.size) fun h => ?_).trans (hwid.keep.block x hx hn)
    rcases hlow x h with h | h
    · exact hn h
    · omega
  · refine ⟨fun t x hx => (hS.fr t x hx).tr hk.size hcell hav (fun _ h => absurd rfl h), ⟨fun j cs hj => ?_, hS.hr.dis⟩, fun x hx => .inl hx, Keeps.refl _ _, ⟨fun x hx => ?_, hS.glob.keeps hk (fun x hx hg => ?_), fun x hx => hS.ngb hx⟩, fun x hx h => ?_, hS.size, hS.defers.trans h9.1, fun i hi => rfl⟩
    · have hob := hS.hr.obj j cs hj
      exact hob.tr hk.size (fun hc => hblk _ (hob.mem hc).1 (hS.nb _ ⟨j, cs, hj, hc, rfl⟩)) hcell hav (fun _ h => absurd rfl h)
    · rcases hx with h | h
      · exact Nat.lt_of_lt_of_le (h8.1 x h) (Nat.le_trans hwid.keep.size hk.size)
      · exact (q1.lt h).2
    · rcases hlow x hx with h | h
      · exact h8.2.2 x h hg
      · have := h8.2.1.lt hg
        omega
    · rcases h with h | h
      · exact hS.nb x hx ((h4 x).2 (.inl h))
      · exact hown x hx h
theorem aw_of_awM {c : Code} {Q : Exit → St → Prop} (T : MT) (h : awM P T c st none (fun x st _ => Q x st)) : aw P c st Q := fun E a w hS =>
  wp_mono (h E a w (SM.of hS)) fun x a' w' ⟨st', σ', hs, hq⟩ => ⟨st', hs.toS, hq⟩
theorem awM_seq {x y : Code} (h : ∀ K, KontM P T y Q K → awM P T x st σ (thenM K Q)) : awM P T (.seq x y) st σ Q := fun E a w hS => by
  refine wp_seq (wp_mono (h (fun st σ => awM P T y st σ Q) ⟨fun _ _ h => h⟩ E a w hS) fun x a' w' hq => ?_)
  obtain ⟨st', σ', hs, hq⟩ := hq
  cases x <;> first
    | exact hq E a' w' hs
    | exact ⟨st', σ', hs, hq⟩
theorem awM_skip (h : Q .normal st σ) : awM P T .skip st σ Q := fun E a w hS => wp_skip ⟨st, σ, hS, h⟩
theorem awM_exit {id : Nat} (h : Q (.exit id) st σ) : awM P T (.exit id) st σ Q := fun E a w hS => wp_exit ⟨st, σ, hS, h⟩
theorem awM_ret (h : Q .ret st σ) : awM P T .ret st σ Q := fun E a w hS => wp_ret ⟨st, σ, hS, h⟩
theorem awM_block {id : Nat} {c : Code} (h : awM P T c st σ (blkM id Q)) : awM P T (.block id c) st σ Q := fun E a w hS => by
  refine wp_block (wp_mono (h E a w hS) fun x a' w' hq => ?_)
  obtain ⟨st', σ', hs, hq⟩ := hq
  cases x with
  | exit i =>
    simp only [blkM] at hq
    simp only [Exit.inBlock]
    split
    · next hi => rw [if_pos hi] at hq; exact ⟨st', σ', hs, hq⟩
    · next hi => rw [if_neg hi] at hq; exact ⟨st', σ', hs, hq⟩
  | _ => exact ⟨st', σ', hs, hq⟩
theorem awM_cond {c : Operand} {x y : Code} {t : Bool} (hc : opv st c = some (.v (.bool t))) (ht : t = true → awM P T x st σ Q) (hf : t = false → awM P T y st σ Q) : awM P T (.cond c x y) st σ Q := fun E a w hS => by
  obtain ⟨E', ρ, w1, hS'⟩ := hS.someSR
  exact wp_cond_split (Rep.v_eq (opv_sound hS' hc)) (fun h => ht h E a w hS) (fun h => hf h E a w hS)
theorem awM_cond_true {c : Operand} {x y : Code} (hc : opv st c = some (.v (.bool true))) (h : awM P T x st σ Q) : awM P T (.cond c x y) st σ Q := awM_cond hc (fun _ => h) (fun h => by cases h)
theorem awM_cond_false {c : Operand} {x y : Code} (hc : opv st c = some (.v (.bool false))) (h : awM P T y st σ Q) : awM P T (.cond c x y) st σ Q := awM_cond hc (fun h => by cases h) (fun _ => h)
theorem awM_loop {α : Type} {c : Code} (F : α → St) (bs : α → Mo) (I : α → Prop) (μ : α → Nat) (x0 : α) (h0 : I x0) (hs : Sub (F x0) st) (hb : σ = bs x0)
    (round : ∀ x, I x → awM P T c (F x) (bs x) (thenM (fun st' σ' => ∃ y, I y ∧ μ y < μ x ∧ Sub (F y) st' ∧ σ' = bs y) Q)) : awM P T (.loop c) st σ Q := fun E a w hS => by
  subst hb
  refine wp_loop_ghost (fun n a' w' => ∃ x, μ x = n ∧ I x ∧ SM P T E (F x) (bs x) a' w') (μ x0) ⟨x0, rfl, h0, hS.sub hs⟩ ?_
  rintro n a' w' ⟨x, rfl, hI, hx⟩
  refine wp_mono (round x hI E a' w' hx) fun x' a2 w2 hq => ?_
  obtain ⟨st2, σ2, h2, hq⟩ := hq
  cases x' with
  | normal =>
    obtain ⟨y, hy, hlt, hsub, rfl⟩ := hq
    exact ⟨μ y, hlt, y, rfl, hy, h2.sub hsub⟩
  | _ => exact ⟨st2, σ2, h2, hq⟩
/-- What a round hands on. -/
def LEM {α : Type} (I : α → Prop) (μ : α → Nat) (vs : α → List (Nat × AV)) (keep : List (Nat × AV)) (hs : α → Hp) (bs : α → Mo) (nt : Nat) (fx : List Nat) (x : α) : St → Mo → Prop := fun st' σ' =>
  ∃ y, I y ∧ μ y < μ x ∧ subL (vs y) st'.fr ∧ subL keep st'.fr ∧ subL (hs y) st'.hp ∧ nt = st'.nt ∧ fx = st'.fx ∧ σ' = bs y
theorem LEM_mk {α : Type} {I : α → Prop} {μ : α → Nat} {vs : α → List (Nat × AV)} {keep : List (Nat × AV)} {hs : α → Hp} {bs : α → Mo} {nt : Nat} {fx : List Nat} {x : α} {fr' : List (Nat × AV)} {hp' : Hp} {σ' : Mo} (y : α) (h1 : I y) (h2 : μ y < μ x) (h6 : σ' = bs y) (h3 : subL (vs y) fr') (h4 : subL keep fr') (h5 : subL (hs y) hp') :
    LEM I μ vs keep hs bs nt fx x ⟨fr', hp', nt, fx⟩ σ' := ⟨y, h1, h2, h3, h4, h5, rfl, rfl, h6⟩
theorem awM_loopF {α : Type} {c : Code} {fr : List (Nat × AV)} {hp : Hp} {nt : Nat} {fx : List Nat} (vs : α → List (Nat × AV)) (hs : α → Hp) (bs : α → Mo) (I : α → Prop) (μ : α → Nat) (x0 : α) (h0 : I x0) (hb : σ = bs x0) (h1 : subL (vs x0) fr) (h2 : subL (hs x0) hp)
    (round : ∀ x, I x → awM P T c ⟨vs x ++ cutL (dsts c) fr, hs x, nt, fx⟩ (bs x) (thenM (LEM I μ vs (cutL (dsts c) fr) hs bs nt fx x) Q)) : awM P T (.loop c) ⟨fr, hp, nt, fx⟩ σ Q :=
  awM_loop (fun x => ⟨vs x ++ cutL (dsts c) fr, hs x, nt, fx⟩) bs I μ x0 h0 ⟨fun p hp => by
      rcases List.mem_append.1 hp with h | h
      · exact subL_spec h1 p h
      · exact (cutL_spec _ _ p h).2, subL_spec h2, rfl, rfl⟩ hb fun x hx E a w hS => wp_mono (round x hx E a w hS) fun x' a' w' ⟨st', σ', hs', hq⟩ => by
    cases x' with
    | normal =>
      obtain ⟨y, q1, q2, q3, q4, q5, q6, q7, q8⟩ := hq
      refine ⟨st', σ', hs', y, q1, q2, ⟨fun p hp => ?_, subL_spec q5, q6, q7⟩, q8⟩
      rcases List.mem_append.1 hp with h | h
      · exact subL_spec q3 p h
      · exact subL_spec q4 p h
    | _ => exact ⟨st', σ', hs', hq⟩
end

section
variable {P : Program} {T : MT} {st st' : St} {σ : Mo} {Q : Exit → St → Mo → Prop} {ops : Array Oper} {rest : List Oper} {o : Oper}
theorem awMO_nil (h : Q .normal st σ) : awMO P T ops [] st σ Q := fun E a w hS => wpList_nil ⟨st, σ, hS, h⟩
theorem awM_region {id : Nat} {l : List Oper} (h : awMO P T l.toArray l st σ Q) : awM P T (.region id l.toArray false) st σ Q := fun E a w hS => wp_region_lit (h E a w hS)
theorem awMO_st {st2 : St} (hs : some st = some st2) {l : List Oper} (h : awMO P T ops l st2 σ Q) : awMO P T ops l st σ Q := by injection hs with hs; rw [hs]; exact h
theorem awM_st {st2 : St} {c : Code} (hs : some st = some st2) (h : awM P T c st2 σ Q) : awM P T c st σ Q := by injection hs with hs; rw [hs]; exact h
theorem awMO_ev {fr fr' : List (Nat × AV)} {hp hp' : Hp} {nt : Nat} {fx : List Nat} (hg : o.guard = none) (h : ev P ⟨fr, hp, nt, fx⟩ o = some ⟨fr', hp', nt, fx⟩) (hr : awMO P T ops rest ⟨fr', hp', nt, fx⟩ σ Q) : awMO P T ops (o :: rest) ⟨fr, hp, nt, fx⟩ σ Q := fun E a w ⟨E', D, hl, ρ, hS⟩ =>
  wpList_plain hg fun K hK => wp_stepTo (ev_sound hS h) fun a' w' hs => hK _ _ (hr E a' w' ⟨E', D, hl, hs⟩)
theorem SM.same {E : Env} {a : Act} {w : World} {fr : List (Nat × AV)} {hp : Hp} {nt : Nat} {fx : List Nat} {t : Nat} {x : AV} (hx : look fr t = some x) (hS : SM P T E ⟨fr, hp, nt, fx⟩ σ a w) : SM P T E ⟨(t, x) :: fr, hp, nt, fx⟩ σ a w := by
  obtain ⟨E', D, hl, ρ, h⟩ := hS
  refine ⟨E', D, hl, ρ, fun t' y hy => ?_, h.hr, h.own, h.keep, h.bad, h.nb, h.size, h.defers, h.fx⟩
  rw [look_cons] at hy
  split at hy
  · next e => subst e; injection hy with hy; subst hy; exact h.fr t _ hx
  · exact h.fr t' y hy
theorem awMO_guard {fr : List (Nat × AV)} {hp : Hp} {nt : Nat} {fx : List Nat} {j t : Nat} {b c : Bool} (hg : o.guard = some (j, b)) (hj : (ops[j]?).bind (·.dst) = some t) (hc : look fr t = some (.v (.bool c))) (h1 : c = b → awMO P T ops (o :: rest) ⟨(t, .v (.bool b)) :: fr, hp, nt, fx⟩ σ Q) (h2 : c = !b → awMO P T ops (o :: rest) ⟨(t, .v (.bool !b)) :: fr, hp, nt, fx⟩ σ Q) :
    awMO P T ops (o :: rest) ⟨fr, hp, nt, fx⟩ σ Q := fun E a w hS => by
  by_cases e1 : c = b
  · subst e1; exact h1 rfl E a w (hS.same hc)
  · have e2 : c = !b := by cases c <;> cases b <;> simp_all
    subst e2; exact h2 rfl E a w (hS.same hc)
theorem awMO_y {fr fr' : List (Nat × AV)} {hp hp' : Hp} {nt : Nat} {fx : List Nat} {j t : Nat} {b : Bool} (hg : o.guard = some (j, b)) (hj : (ops[j]?).bind (·.dst) = some t) (ht : t < nt) (hc : look fr t = some (.v (.bool b))) (h : ev P ⟨fr, hp, nt, fx⟩ o = some ⟨fr', hp', nt, fx⟩) (hr : awMO P T ops rest ⟨fr', hp', nt, fx⟩ σ Q) :
    awMO P T ops (o :: rest) ⟨fr, hp, nt, fx⟩ σ Q := fun E a w ⟨E', D, hl, ρ, hS⟩ => by
  refine wpList_step fun K hK => ?_
  rw [wanted_of hS hg hj ht hc, if_pos (by simp)]
  exact wp_stepTo (ev_sound hS h) fun a' w' hs => hK _ _ (hr E a' w' ⟨E', D, hl, hs⟩)
theorem awMO_n {fr : List (Nat × AV)} {hp : Hp} {nt : Nat} {fx : List Nat} {j t d : Nat} {b c : Bool} (hg : o.guard = some (j, b)) (hj : (ops[j]?).bind (·.dst) = some t) (ht : t < nt) (hc : look fr t = some (.v (.bool c))) (hne : (c == b) = false) (hd : o.dst = some d) (hdn : d < nt) (hr : awMO P T ops rest ⟨(d, .v undef) :: fr, hp, nt, fx⟩ σ Q) :
    awMO P T ops (o :: rest) ⟨fr, hp, nt, fx⟩ σ Q := fun E a w hS => by
  refine wpList_step fun K hK => ?_
  obtain ⟨E', ρ, w1, hS'⟩ := hS.someSR
  rw [wanted_of hS' hg hj ht hc, hne, if_neg (by simp), hd]
  exact hK _ _ (hr E _ w (hS.putv (some d) (fun t e => by injection e with e; subst e; exact hdn) undef))
theorem awMO_c {fr : List (Nat × AV)} {hp : Hp} {nt : Nat} {fx : List Nat} {d : Nat} {f : FuncId} {args : List Operand} {ts : Array TypeId} {ys : List AV} {r : AV} (hg : o.guard = none) (ho : o.op = .call ⟨.value (.func f), args.toArray, ts⟩) (ha : argsA ⟨fr, hp, nt, fx⟩ args = some ys) (hc : Ab P f ys r) (hi : ys.all immA = true) (hr : immA r = true)
    (hd : o.dst = some d) (hdn : d < nt) (h : awMO P T ops rest ⟨(d, r) :: fr, hp, nt, fx⟩ σ Q) : awMO P T ops (o :: rest) ⟨fr, hp, nt, fx⟩ σ Q := fun E a w ⟨E', D, hl, ρ, hS⟩ =>
  wpList_plain hg fun K hK => call_step hS ho ha hc hi hr (fun e he => by rw [hd] at he; injection he with he; subst he; exact hdn) fun a' w' hs _ => hK _ _ (h E a' w' ⟨E', D, hl, by rw [hd] at hs; exact hs⟩)
theorem awMO_m {f : FuncId} {args : List Operand} {ts : Array TypeId} {ys : List AV} {r : AV} {h h' : Hp} {fix : List Nat} {d : Nat} (hg : o.guard = none) (ho : o.op = .call ⟨.value (.func f), args.toArray, ts⟩) (ha : argsA st args = some ys) (hc : Fn P f ys h r h' fix) (hsub : subL h st.hp)
    (hr : okR (keysH h') r = true) (hcs : h'.all (fun p => p.2.all (okR (keysH h'))) = true) (hfx : st.fx.all (fun k => !(keysH h').contains k || fix.contains k) = true) (hd : o.dst = some d) (hdn : d < st.nt) (hrest : awMO P T ops rest (st.after d r h h' fix) σ Q) : awMO P T ops (o :: rest) st σ Q := fun E a w ⟨E', D, hl, ρ, hS⟩ =>
  wpList_plain hg fun K hK => callM_step hS ho ha hc hsub hr hcs hfx hd hdn fun a' w' hs => hK _ _ (hrest E a' w' ⟨E', D, hl, hs⟩)
end
/-! ### Contracts of functions that use the map -/
/-- What is known of the types. -/
structure MTok (P : Program) (T : MT) : Prop where
  um : P.underlying T.tm = some (.map T.tk T.tv)
  uk : P.underlying T.tk = some .string
  uv : P.underlying T.tv = some .string
  z : ∀ w, (zeroValue T.tv).run P w = .ok (.string ByteArray.empty) w
/-- As Fn, with the map m in block b, which is m' then. -/
def FnM (P : Program) (T : MT) (f : FuncId) (args : List AV) (h : Hp) (b : Nat) (m : Mp) (r : AV) (h' : Hp) (m' : Mp) (fix : List Nat) : Prop :=
  callable P f = true ∧ ∀ (w : World) (bad : Nat → Prop) (ρ : Nat → Loc) (vs : Array Value), ((∀ b, bad b → b < w.heap.size) ∧ Glob w ∧ ∀ b, ownB ρ h b → ¬ gblk b) → (∀ b, ownB ρ h b → ¬ bad b) → HR bad ρ h w → RepC w (avd bad ρ h) ρ args vs → bad b → ¬ gblk b → OwnsM P T.tk T.tv w b m →
    Calls P f vs w fun e w' => ∃ v ρ', e = .returned v ∧ Rep w' (avd bad ρ' h') ρ' r v ∧ HR bad ρ' h' w' ∧ Keeps w w' (fun x => ownB ρ h x ∨ x = b) ∧ (∀ x, ownB ρ' h' x → (ownB ρ h x ∨ w.heap.size ≤ x) ∧ ¬ bad x) ∧ (∀ k ∈ fix, ρ' k = ρ k) ∧ OwnsM P T.tk T.tv w' b m'
def retM (P : Program) (rs : List ResultVar) (r : AV) (h' : Hp) (b : Nat) (m' : Mp) (keep fix : List Nat) : Exit → St → Mo → Prop := fun e st σ => retQ P rs r h' keep fix e st ∧ σ = some (b, m')
theorem FnM_of_awM {P : Program} {T : MT} {f : FuncId} {fn : Func} {c : Code} {args : List AV} {h h' : Hp} {b : Nat} {m m' : Mp} {r : AV} {fix keep : List Nat} (hf : P.funcs[f]? = some fn) (hb : fn.body = some c) (hn : (fn.name == "runtime.NumGoroutine") = false) (hsz : args.length ≤ fn.ntmps)
    (haw : awM P T c ⟨num 0 args, h, fn.ntmps, fix⟩ (some (b, m)) (retM P fn.results.toList r h' b m' keep fix)) : FnM P T f args h b m r h' m' fix := by
  refine ⟨by simp [callable, hf, hn, hb], fun w bad ρ vs hbad hnb hHR hargs hbb hgb hown => ?_⟩
  refine calls_of_wp hf hb ?_
  have hS := S_start (nt := fn.ntmps) (fix := fix) hHR hbad hnb hargs hsz
  have hSM : SM P T ⟨w, bad, fun x => ownB ρ h x ∨ x = b, ρ, []⟩ ⟨num 0 args, h, fn.ntmps, fix⟩ (some (b, m)) { tmps := vs ++ Array.replicate (fn.ntmps - vs.size) undef, defers := [] } w :=
    ⟨⟨w, bad, ownB ρ h, ρ, []⟩, fun x => x = b, ⟨⟨.inl (.inr rfl), hown, fun x => Iff.rfl⟩, fun x => ⟨.inl, fun h => h.elim id (fun e => by rw [e]; exact hbb)⟩, fun x e hx => hnb x hx (by rw [e]; exact hbb), Keeps.refl _ _, fun x hx => .inl (.inl hx), ⟨hbad.1, hbad.2.1, fun x hx => hx.elim (hbad.2.2 x) (fun e => by rw [e]; exact hgb)⟩, rfl, fun _ _ => rfl⟩, hS⟩
  refine wp_mono (haw _ _ w hSM) fun e a' w' hq => ?_
  obtain ⟨st, σ, ⟨E2, D2, hl, ρ', hs2⟩, hq, rfl⟩ := hq
  have hw := hl.wide hs2
  have hmap := hl.now hs2
  obtain ⟨_, h4, _, _, _, _, hds, _⟩ := hl
  have hbE : E2.bad = bad := by
    funext x
    refine propext ((h4 x).trans ⟨fun h => h.elim id (fun h => ?_), .inl⟩)
    rw [(hmap.2.2 x).1 h]; exact hbb
  obtain ⟨he, ⟨ys, hres, hro⟩, hh', hfx⟩ := hq
  obtain ⟨v, hv, hrep⟩ := results_sound hs2 hres
  have hsr := hs2.hr
  have hsn := hs2.nb
  rw [hbE] at hrep hsr hsn
  have hk : ∀ k cs, look h' k = some cs → k ∈ keep ∧ ∃ cs0, look st.hp k = some cs0 ∧ roCs st.hp keep cs0 = some cs := fun k cs hk => hh' (k, cs) (look_mem hk)
  have hown' : ∀ b, ownB ρ' h' b → ownB ρ' st.hp b := fun b ⟨k, cs, h1, h2⟩ => by
    obtain ⟨_, cs0, h3, _⟩ := hk k cs h1
    exact ⟨k, cs0, h3, h2⟩
  have hav : ∀ b, b < w'.heap.size → avd bad ρ' h' b → avd bad ρ' st.hp b := fun b _ hb => hb.imp id (hown' b)
  have hpub : ∀ k cs, look st.hp k = some cs → k ∉ keep → 0 < (ρ' k).cap → ¬ avd bad ρ' h' (ρ' k).g := fun k cs h1 h2 h3 h4 => by
    rcases h4 with h4 | ⟨k', cs', g1, g2, g3⟩
    · exact hsn _ ⟨k, cs, h1, h3, rfl⟩ h4
    · obtain ⟨q1, cs0, q2, _⟩ := hk k' cs' g1
      exact hsr.dis k' k cs0 cs q2 h1 (fun e => h2 (by rw [← e]; exact q1)) g2 h3 g3
  have fin : a'.defers = [] ∧ ∃ v, (results fn a'.tmps).run P w' = .ok v w' ∧ ∃ v' ρ', Ending.returned v = .returned v' ∧ Rep w' (avd bad ρ' h') ρ' r v' ∧ HR bad ρ' h' w' ∧ Keeps w w' (fun x => ownB ρ h x ∨ x = b) ∧ (∀ b, ownB ρ' h' b → (ownB ρ h b ∨ w.heap.size ≤ b) ∧ ¬ bad b) ∧ (∀ k ∈ fix, ρ' k = ρ k) ∧ OwnsM P T.tk T.tv w' b m' := by
    refine ⟨hs2.defers.trans hds, v, hv, v, ρ', rfl, roA_sound hsr.obj hav hpub hrep hro, ⟨fun k cs h1 => ?_, fun k k' cs cs' h1 h2 => ?_⟩, hw.keep, fun x hx => ⟨?_, hsn x (hown' x hx)⟩, fun k hk => hw.fx k (by rw [hfx]; exact hk), hmap.2.1⟩
    · obtain ⟨_, cs0, h2, h3⟩ := hk k cs h1
      have hob := hsr.obj k cs0 h2
      obtain ⟨r1, r2⟩ := roCs_spec h3
      refine ⟨by have := hob.len; omega, hob.mem, fun j x hj => ?_⟩
      have hj' : j < cs0.length := by rw [← r1]; exact (List.getElem?_eq_some_iff.1 hj).1
      obtain ⟨u, hu, hr⟩ := hob.cells j cs0[j] (List.getElem?_eq_getElem hj')
      exact ⟨u, hu, roC_sound hsr.obj hav hpub hr (r2 j _ x (List.getElem?_eq_getElem hj') hj)⟩
    · obtain ⟨_, c1, g1, _⟩ := hk k cs h1
      obtain ⟨_, c2, g2, _⟩ := hk k' cs' h2
      exact hsr.dis k k' c1 c2 g1 g2
    · rcases hw.own x (hown' x hx) with (h | h) | h
      · exact .inl h
      · exact absurd (by rw [h]; exact hbb) (hsn x (hown' x hx))
      · exact .inr h
  rcases he with rfl | rfl
  · exact fin
  · exact fin
section
variable {P : Program} {T : MT} {st : St} {Q : Exit → St → Mo → Prop} {ops : Array Oper} {rest : List Oper} {o : Oper} {b : Nat} {m : Mp}
theorem callMM_run {E : Env} {a : Act} {w : World} {f : FuncId} {vs : Array Value} {ys : List AV} {r : AV} {h h' : Hp} {m' : Mp} {fix : List Nat} {d : Nat} {K : Act → World → Prop} {Q' : Exit → Act → World → Prop} {E' : Env} {D : Nat → Prop} {ρ : Nat → Loc} (hl : LnkM P T E (some (b, m)) st.fx E' D) (hS : SR E' ρ st a w)
    (hrun : (execOp a.eval o).run P w = .ok (.enter f vs) w) (hargs : RepC w (avd E'.bad ρ st.hp) ρ ys vs) (hc : FnM P T f ys h b m r h' m' fix) (hsub : subL h st.hp)
    (hr : okR (keysH h') r = true) (hcs : h'.all (fun p => p.2.all (okR (keysH h'))) = true) (hfx : st.fx.all (fun k => !(keysH h').contains k || fix.contains k) = true) (hd : o.dst = some d) (hdn : d < st.nt)
    (hK : ∀ a' w', SM P T E (st.after d r h h' fix) (some (b, m')) a' w' → K a' w') : o.wp P a w K Q' := by
  have hmap := hl.now hS
  have hwid := hl.wide hS
  have hbD : D b := (hmap.2.2 b).2 rfl
  have hbE : E'.bad b := (hl.2.1 b).2 (.inr hbD)
  have hblt : b < w.heap.size := hmap.2.1.lt
  have hgb : ¬ gblk b := fun hg => by
    rcases hmap.1 with h | h
    · exact hl.2.2.2.2.2.1.2.2 b h hg
    · have := hl.2.2.2.2.2.1.2.1.lt hg; omega
  unfold Oper.wp
  rw [hrun, Oper.upon_enter]
  have hlh : ∀ k cs, look h k = some cs → look st.hp k = some cs := fun k cs hk => subL_spec hsub _ (look_mem hk)
  have ownh : ∀ b, ownB ρ h b → ownB ρ st.hp b := fun b ⟨k, cs, h1, h2⟩ => ⟨k, cs, hlh k cs h1, h2⟩
  have hav : ∀ b, avd (fun b => avd E'.bad ρ st.hp b ∧ ¬ ownB ρ h b) ρ h b → avd E'.bad ρ st.hp b := fun b hb => hb.elim (fun h1 => h1.1) (fun h1 => .inr (ownh b h1))
  refine (hc.2 w (fun b => avd E'.bad ρ st.hp b ∧ ¬ ownB ρ h b) ρ _ ⟨fun b hb => ?_, hS.glob, fun b hb => hS.ngb (ownh b hb)⟩ (fun b hb hb' => hb'.2 hb) ⟨fun k cs hk => ?_, fun k k' cs cs' h1 h2 => hS.hr.dis k k' cs cs' (hlh _ _ h1) (hlh _ _ h2)⟩ ⟨hargs.1, fun j y v hj hv => ?_⟩ ⟨.inl hbE, fun h => hS.nb b (ownh b h) hbE⟩ hgb hmap.2.1).mono ?_
  · rcases hb.1 with hb | ⟨k, cs, h1, h2, rfl⟩
    · exact Nat.lt_of_lt_of_le (hS.bad.1 b hb) hS.keep.size
    · exact ((hS.hr.obj k cs h1).mem h2).1
  · exact (hS.hr.obj k cs (hlh k cs hk)).tr (Nat.le_refl _) (fun _ => rfl) (fun _ _ _ _ => rfl) (fun b _ hb => hav b hb) (fun _ hk => absurd rfl hk)
  · exact (hargs.2 j y v hj hv).tr (Nat.le_refl _) (fun _ _ _ _ => rfl) (fun b _ hb => hav b hb) (fun _ hk => absurd rfl hk)
  · rintro e w' ⟨v, ρ', rfl, hrep, hhr, hkeep, hown, hfix, hmap'⟩
    -- the world in which the map is as it was
    obtain ⟨ob, hob⟩ : ∃ ob, w.heap[b]? = some ob := ⟨_, Array.getElem?_eq_getElem hblt⟩
    have hb' : b < w'.heap.size := Nat.lt_of_lt_of_le hblt hkeep.size
    have hset : ∀ x, ({ w' with heap := w'.heap.setIfInBounds b ob } : World).heap[x]? = if x = b then some ob else w'.heap[x]? := fun x => by
      simp only [Array.getElem?_setIfInBounds]
      by_cases e : b = x
      · subst e; simp [hb']
      · rw [if_neg e, if_neg (fun h => e h.symm)]
    have hsz : ({ w' with heap := w'.heap.setIfInBounds b ob } : World).heap.size = w'.heap.size := by simp
    generalize hw2 : ({ w' with heap := w'.heap.setIfInBounds b ob } : World) = w2 at hset hsz
    have hos : w2.os = w'.os ∧ w2.tape = w'.tape ∧ w2.output = w'.output := by subst hw2; exact ⟨rfl, rfl, rfl⟩
    have hnb : ∀ x, ¬ avd (fun b => avd E'.bad ρ st.hp b ∧ ¬ ownB ρ h b) ρ' h' x → x ≠ b := fun x hx e => hx (.inl (by rw [e]; exact ⟨.inl hbE, fun h => hS.nb b (ownh b h) hbE⟩))
    have hcell : ∀ x o, x < w'.heap.size → ¬ avd (fun b => avd E'.bad ρ st.hp b ∧ ¬ ownB ρ h b) ρ' h' x → w2.cell? ⟨x, o, none⟩ = w'.cell? ⟨x, o, none⟩ := fun x o hx hn => World.cell?_of_block (w := w') (a := ⟨x, o, none⟩) (by rw [hset, if_neg (hnb x hn)])
    have hkeep2 : Keeps w w2 (ownB ρ h) := ⟨hos.1.trans hkeep.os, hos.2.1.trans hkeep.tape, hos.2.2.trans hkeep.output, by rw [hsz]; exact hkeep.size, fun x hx hn => by
      rw [hset]
      split
      · next e => rw [e, hob]
      · next e => exact hkeep.block x hx fun h => h.elim hn e⟩
    have hafter := hS.after (w' := w2) (v := v) (h' := h') hdn hsub (hrep.tr (by rw [hsz]; exact Nat.le_refl _) hcell (fun _ _ h => h) (fun _ hk => absurd rfl hk)) ⟨fun k cs hk => (hhr.obj k cs hk).tr (by rw [hsz]; exact Nat.le_refl _) (fun hc0 => by
      rw [hset, if_neg]
      intro e
      exact (hown _ ⟨k, cs, hk, hc0, rfl⟩).2 (by rw [e]; exact ⟨.inl hbE, fun h => hS.nb b (ownh b h) hbE⟩)) hcell (fun _ _ h => h) (fun _ hk => absurd rfl hk), hhr.dis⟩ hkeep2 (fun x hx => hown x hx) hfix hr hcs hfx
    have hl2 : LnkM P T E (some (b, m)) (st.after d r h h' fix).fx E' D := by
      obtain ⟨q1, q2, q3, q4, q5, q6, q7, q8⟩ := hl
      exact ⟨q1, q2, q3, q4, q5, q6, q7, q8⟩
    have hk3 : Keeps w2 w' D := ⟨hos.1.symm, hos.2.1.symm, hos.2.2.symm, by rw [hsz]; exact Nat.le_refl _, fun x hx hn => by
      rw [hset, if_neg]
      intro e
      exact hn ((hmap.2.2 x).2 e)⟩
    obtain ⟨E2, hl3, hS3⟩ := hl2.upd (σ' := some (b, m')) (D' := D) hafter hk3 ⟨hmap.1, hmap', hmap.2.2⟩ (fun x hx => .inl hx)
    refine hK _ _ ⟨E2, D, hl3, ?_⟩
    rw [hd]
    exact ⟨_, hS3⟩
theorem awMO_cM {f : FuncId} {args : List Operand} {ts : Array TypeId} {ys : List AV} {r : AV} {h h' : Hp} {m' : Mp} {fix : List Nat} {d : Nat} (hg : o.guard = none) (ho : o.op = .call ⟨.value (.func f), args.toArray, ts⟩) (ha : argsA st args = some ys) (hc : FnM P T f ys h b m r h' m' fix) (hsub : subL h st.hp)
    (hr : okR (keysH h') r = true) (hcs : h'.all (fun p => p.2.all (okR (keysH h'))) = true) (hfx : st.fx.all (fun k => !(keysH h').contains k || fix.contains k) = true) (hd : o.dst = some d) (hdn : d < st.nt) (hrest : awMO P T ops rest (st.after d r h h' fix) (some (b, m')) Q) : awMO P T ops (o :: rest) st (some (b, m)) Q := fun E a w ⟨E', D, hl, ρ, hS⟩ =>
  wpList_plain hg fun K hK => callMM_run hl hS (run_call ho hc.1 a w) (argsA_rep hS ha) hc hsub hr hcs hfx hd hdn fun a' w' hs => hK _ _ (hrest E a' w' hs)
theorem awMO_kM {f : FuncId} {c : Operand} {caps : List AV} {args : List Operand} {ts : Array TypeId} {ys : List AV} {r : AV} {h h' : Hp} {m' : Mp} {fix : List Nat} {d : Nat} (hg : o.guard = none) (ho : o.op = .call ⟨.value c, args.toArray, ts⟩) (hv : opv st c = some (.fn f caps)) (hlt : f < bnd) (ha : argsA st args = some ys) (hc : FnM P T f (ys ++ caps) h b m r h' m' fix) (hsub : subL h st.hp)
    (hr : okR (keysH h') r = true) (hcs : h'.all (fun p => p.2.all (okR (keysH h'))) = true) (hfx : st.fx.all (fun k => !(keysH h').contains k || fix.contains k) = true) (hd : o.dst = some d) (hdn : d < st.nt) (hrest : awMO P T ops rest (st.after d r h h' fix) (some (b, m')) Q) : awMO P T ops (o :: rest) st (some (b, m)) Q := fun E a w ⟨E', D, hl, ρ, hS⟩ =>
  wpList_plain hg fun K hK => by
    obtain ⟨us, e, hu⟩ := (opv_sound hS hv).fn_inv
    rw [fnV_lt hlt] at e
    exact callMM_run hl hS (run_callC ho hc.1 a w e) ((argsA_rep hS ha).app hu) hc hsub hr hcs hfx hd hdn fun a' w' hs => hK _ _ (hrest E a' w' hs)
/-! ### The map's operations -/
theorem awMO_mk {fr : List (Nat × AV)} {hp : Hp} {nt : Nat} {fx : List Nat} {d : Nat} {t : TypeId} (hg : o.guard = none) (ho : o.op = .makeMap t none) (hd : o.dst = some d) (hdn : d < nt)
    (h : ∀ b, awMO P T ops rest ⟨(d, mref b) :: fr, hp, nt, fx⟩ (some (b, [])) Q) : awMO P T ops (o :: rest) ⟨fr, hp, nt, fx⟩ none Q := fun E a w ⟨E', D, hl, ρ, hS⟩ => by
  refine wpList_plain hg fun K hK => ?_
  have hrun : (execOp a.eval o).run P w = .ok (.value (.map (some w.heap.size))) (w.alloc (.map #[] 0)) := by
    simp [execOp, ho, run_makeMap]
  unfold Oper.wp
  rw [hrun, Oper.upon_value, hd]
  have hsz := (hl.wide hS).keep.size
  have hnd : ∀ x, ¬ D x := hl.1
  obtain ⟨E2, hl2, hS2⟩ := hl.upd (σ' := some (w.heap.size, [])) (D' := fun x => x = w.heap.size) hS ((Keeps.refl w _).alloc (.map #[] 0))
    ⟨.inr hsz, World.ownsMap_made w P T.tk _, fun x => Iff.rfl⟩ (fun x hx => .inr (by rw [hx]; exact Nat.le_refl _))
  exact hK _ _ (h w.heap.size E _ _ ⟨E2, _, hl2, ρ, hS2.put (some d) (fun t e => by injection e with e; subst e; exact hdn) (.im (.v _))⟩)
theorem str_data (s : List UInt8) : (str s).data.toList = s := by simp [str]
theorem keyS (hT : MTok P T) {k : List UInt8} (hk : k.length ≤ 1000000) : keyOf P T.tk (.string (str k)) = some (.string k) := by
  rw [WideMaps.keyOf_string_mk hT.uk (by rw [str_size]; unfold maxLen; omega), str_data]
theorem elemS (hT : MTok P T) {v : List UInt8} (hv : v.length ≤ 1000000) : plainElem (H := Unit) P T.tv (.string (str v)) = some (.lit (.string v), []) := by
  rw [plainElem_string hT.uv (by rw [str_size]; unfold maxLen; omega), str_data]
theorem elemS_inv (hT : MTok P T) {x : Value} {v : List UInt8} {ps : List MemPlace} (h : plainElem (H := Unit) P T.tv x = some (.lit (.string v), ps)) : x = .string (str v) := by
  unfold plainElem at h
  rw [hT.uv] at h
  cases x with
  | string s =>
    simp only at h
    split at h
    · injection h with h
      injection h with h1 h2
      injection h1 with h1
      injection h1 with h1
      subst h1
      simp [str]
    · cases h
  | _ => simp at h
theorem awMO_upd {d : Option Nat} {t : TypeId} {x y z : Operand} {k v : List UInt8} (hT : MTok P T) (hg : o.guard = none) (ho : o.op = .mapUpdate t x y z) (ht : t = T.tm) (hx : opv st x = some (mref b)) (hy : opv st y = some (.v (.string (str k)))) (hz : opv st z = some (.v (.string (str v)))) (hk : k.length ≤ 1000000) (hv : v.length ≤ 1000000) (hm : m.length ≤ 1000000)
    (hd : o.dst = none) (h : awMO P T ops rest st (some (b, putM k v m)) Q) : awMO P T ops (o :: rest) st (some (b, m)) Q := fun E a w ⟨E', D, hl, ρ, hS⟩ => by
  subst ht
  refine wpList_plain hg fun K hK => ?_
  have hmap := hl.now hS
  have e1 : a.eval x = .map (some b) := Rep.v_eq (opv_sound hS hx)
  have e2 : a.eval y = .string (str k) := Rep.v_eq (opv_sound hS hy)
  have e3 : a.eval z = .string (str v) := Rep.v_eq (opv_sound hS hz)
  obtain ⟨w', hrun, r1, r2⟩ := World.ownsMap.update hmap.2.1 (string_keyed hT.uk) hT.um (show m.length < maxLen by unfold maxLen; omega) (keyS hT hk) (elemS hT hv)
  rw [mpD_put] at r1
  have hrun' : (execOp a.eval o).run P w = .ok .skip w' := by
    simp [execOp, ho, e1, e2, e3, hrun, Result.andThen]
  unfold Oper.wp
  rw [hrun', Oper.upon_skip, hd]
  have hk2 : Keeps w w' D := ⟨r2.os, r2.tape, r2.output, r2.size, fun x hx hn => r2.block x hx (fun e => hn ((hmap.2.2 x).2 (by injection e)))⟩
  obtain ⟨E2, hl2, hS2⟩ := hl.upd (σ' := some (b, putM k v m)) (D' := D) hS hk2 ⟨hmap.1, ownsM_of r1, hmap.2.2⟩ (fun x hx => .inl hx)
  exact hK _ _ (h E a w' ⟨E2, D, hl2, ρ, hS2⟩)
theorem awMO_look {fr : List (Nat × AV)} {hp : Hp} {nt : Nat} {fx : List Nat} {d : Nat} {t : TypeId} {x y : Operand} {k : List UInt8} (hT : MTok P T) (hg : o.guard = none) (ho : o.op = .lookup t x y false) (ht : t = T.tm) (hx : opv ⟨fr, hp, nt, fx⟩ x = some (mref b)) (hy : opv ⟨fr, hp, nt, fx⟩ y = some (.v (.string (str k)))) (hk : k.length ≤ 1000000)
    (hd : o.dst = some d) (hdn : d < nt) (h : awMO P T ops rest ⟨(d, .v (.string (str (getM m k)))) :: fr, hp, nt, fx⟩ (some (b, m)) Q) : awMO P T ops (o :: rest) ⟨fr, hp, nt, fx⟩ (some (b, m)) Q := fun E a w ⟨E', D, hl, ρ, hS⟩ => by
  subst ht
  refine wpList_plain hg fun K hK => ?_
  have hmap := hl.now hS
  have e1 : a.eval x = .map (some b) := Rep.v_eq (opv_sound hS hx)
  have e2 : a.eval y = .string (str k) := Rep.v_eq (opv_sound hS hy)
  obtain ⟨v, ps, hrun, hv⟩ := World.ownsMap.lookup hmap.2.1 (string_keyed hT.uk) hT.um (hT.z w) (plainElem_string hT.uv (s := ByteArray.empty) (by decide)) (keyS hT hk)
  rw [show (ByteArray.empty.data.toList) = ([] : List UInt8) from rfl, mpD_at] at hv
  have := elemS_inv hT hv
  subst this
  have hrun' : (execOp a.eval o).run P w = .ok (.value (.string (str (getM m k)))) w := by
    simp [execOp, ho, e1, e2, hrun, Result.andThen]
  unfold Oper.wp
  rw [hrun', Oper.upon_value, hd]
  exact hK _ _ (h E _ w ⟨E', D, hl, ρ, hS.put (some d) (fun t e => by injection e with e; subst e; exact hdn) (.im (.v _))⟩)
theorem awMO_lookk {fr : List (Nat × AV)} {hp : Hp} {nt : Nat} {fx : List Nat} {d : Nat} {t : TypeId} {x y : Operand} {k : List UInt8} (hT : MTok P T) (hg : o.guard = none) (ho : o.op = .lookup t x y true) (ht : t = T.tm) (hx : opv ⟨fr, hp, nt, fx⟩ x = some (mref b)) (hy : opv ⟨fr, hp, nt, fx⟩ y = some (.v (.string (str k)))) (hk : k.length ≤ 1000000)
    (hd : o.dst = some d) (hdn : d < nt) (h : awMO P T ops rest ⟨(d, .tp [.v (.string (str (getM m k))), .v (.bool (hasM m k))]) :: fr, hp, nt, fx⟩ (some (b, m)) Q) : awMO P T ops (o :: rest) ⟨fr, hp, nt, fx⟩ (some (b, m)) Q := fun E a w ⟨E', D, hl, ρ, hS⟩ => by
  subst ht
  refine wpList_plain hg fun K hK => ?_
  have hmap := hl.now hS
  have e1 : a.eval x = .map (some b) := Rep.v_eq (opv_sound hS hx)
  have e2 : a.eval y = .string (str k) := Rep.v_eq (opv_sound hS hy)
  obtain ⟨v, ps, hrun, hv⟩ := World.ownsMap.look_ok hmap.2.1 (string_keyed hT.uk) hT.um (hT.z w) (plainElem_string hT.uv (s := ByteArray.empty) (by decide)) (keyS hT hk)
  rw [show (ByteArray.empty.data.toList) = ([] : List UInt8) from rfl, mpD_at] at hv
  rw [mpD_has] at hrun
  have := elemS_inv hT hv
  subst this
  have hrun' : (execOp a.eval o).run P w = .ok (.value (.tuple #[.string (str (getM m k)), .bool (hasM m k)])) w := by
    simp [execOp, ho, e1, e2, hrun, Result.andThen]
  unfold Oper.wp
  rw [hrun', Oper.upon_value, hd]
  refine hK _ _ (h E _ w ⟨E', D, hl, ρ, hS.put (some d) (fun t e => by injection e with e; subst e; exact hdn) (.tp rfl fun j y u hj hu => ?_)⟩)
  match j, hj, hu with
  | 0, hj, hu => simp at hj hu; subst hj; subst hu; exact .im (.v _)
  | 1, hj, hu => simp at hj hu; subst hj; subst hu; exact .im (.v _)
end
/-! ### Drawn regions -/
def awMY (P : Program) (T : MT) (ops : Array Oper) (fuel : Nat) (listed : Array Bool) (st : St) (σ : Mo) (Q : Exit → St → Mo → Prop) : Prop := ∀ E a w, SM P T E st σ a w → wpAnyB P ops (QQM P T E Q) fuel listed a w
def NPM (Q : Exit → St → Mo → Prop) : Prop := ∀ c st σ, ¬ Q (.panic c) st σ
theorem NPM_then {K : St → Mo → Prop} {Q : Exit → St → Mo → Prop} (h : NPM Q) : NPM (thenM K Q) := h
theorem NPM_blk {id : Nat} {Q : Exit → St → Mo → Prop} (h : NPM Q) : NPM (blkM id Q) := h
theorem NPM_ret {P : Program} {rs : List ResultVar} {r : AV} {h' : Hp} {b : Nat} {m' : Mp} {keep fix : List Nat} : NPM (retM P rs r h' b m' keep fix) := fun c st σ h => NP_ret c st h.1
theorem NPM_of {Q : Exit → St → Prop} (h : NP Q) : NPM (fun x st _ => Q x st) := fun c st _ => h c st
theorem npm {Q : Exit → St → Mo → Prop} (h : NPM Q := by repeat (first | (with_reducible exact NPM_ret) | (with_reducible apply NPM_then) | (with_reducible apply NPM_blk) | (exact NPM_of NP_ret))) : NPM Q := h
section
variable {P : Program} {T : MT} {st st' : St} {σ : Mo} {Q : Exit → St → Mo → Prop} {ops : Array Oper} {listed : Array Bool} {fuel : Nat} {o : Oper} {b : Nat} {m : Mp}
theorem awM_draw {id : Nat} (hm : P.follows .mixedOrders = true) (h : awMY P T ops ops.size (Array.replicate ops.size false) st σ Q) : awM P T (.region id ops true) st σ Q := fun E a w ⟨E', D, hl, ρ, hS⟩ =>
  wp_region_any hm (wpAny_of_B _ _ _ _ (h E a _ ⟨E', D, hl, ρ, hS.below ⟨rfl, rfl, rfl, Nat.le_refl _, fun _ _ => rfl⟩⟩))
theorem awMY_done (hr : Region.ready .any ops listed = []) (h : Q .normal st σ) : awMY P T ops fuel listed st σ Q := fun E a w hS => by
  cases fuel with
  | zero => exact ⟨hr, st, σ, hS, h⟩
  | succ n => exact ⟨fun _ => ⟨st, σ, hS, h⟩, by rw [hr]; simp⟩
theorem awMY_first {i : Nat} {o : Oper} {y : AV} (hn : NPM Q) (ht : takeB ops listed i = true) (hi : ops[i]? = some o) (hd : ∀ d, o.dst = some d → d < st.nt)
    (hy : ∀ E ρ a w, SR E ρ st a w → ∃ v, YB P ops o v a w ∧ Rep w (avd E.bad ρ st.hp) ρ y v) (h : awMY P T ops fuel (listed.setIfInBounds i true) (st.put o.dst y) σ Q) : awMY P T ops (fuel + 1) listed st σ Q := fun E a w ⟨E', D, hl, ρ, hS⟩ => by
  obtain ⟨v, hv, hr⟩ := hy E' ρ a w hS
  simp only [takeB, hi, Bool.and_eq_true, Bool.or_eq_true, Bool.not_eq_true', beq_iff_eq] at ht
  obtain ⟨⟨⟨⟨h1, h2⟩, h3⟩, h4⟩, h5⟩ := ht
  refine wpAnyB_first hi (Region.noSelect_spec h2) (fun c a' w' hq => ?_) (growX ops i 1 listed) (fun hm => ?_) fuel listed a w (Region.free_spec hi h3) (by simpa using h1) (fun hm => ?_) hv (h E _ w ⟨E', D, ?_, ρ, hS.put o.dst hd hr⟩)
  · obtain ⟨s, σ, _, hq⟩ := hq; exact (hn c s σ hq).elim
  · rcases h5 with h5 | h5
    · rw [h5] at hm; cases hm
    · exact (avoidsB_spec h4 h5).1
  · rcases h5 with h5 | h5
    · rw [h5] at hm; cases hm
    · exact (avoidsB_spec h4 h5).2
  · cases o.dst <;> exact hl
theorem awMY_q (i : Nat) (hs : stepB ops listed i = true) (hn : NPM Q) (hi : ops[i]? = some o) (hg : o.guard = none) (he : ev P st o = some st') (h : awMY P T ops fuel (listed.setIfInBounds i true) st' σ Q) : awMY P T ops (fuel + 1) listed st σ Q := by
  obtain ⟨h1, h2⟩ := stepB_spec hs hi
  obtain ⟨y, hy, rfl, hd⟩ := ev_quiet h2 he
  exact awMY_first hn h1 hi hd (fun E ρ a w hS => YB.of_qv hS (by simp [Region.wanted, hg]) hy) h
def awMI (P : Program) (T : MT) (ops : Array Oper) (fuel : Nat) (listed : Array Bool) (st : St) (σ : Mo) (Q : Exit → St → Mo → Prop) (i : Nat) : Prop := ∀ E a w, SM P T E st σ a w →
  wpOp P ops (QQM P T E Q) i (fun a' w' => (dsI ops i = false → Below w.heap.size w w') ∧ wpAnyB P ops (QQM P T E Q) fuel (listed.setIfInBounds i true) a' w') a w
theorem awMY_p (i : Nat) (h0 : (Region.ready .any ops listed)[0]? = some i) (hr : Region.ready .any ops listed = [i]) (h : awMI P T ops fuel listed st σ Q i) : awMY P T ops (fuel + 1) listed st σ Q := fun E a w hS =>
  ⟨fun h0 => (by rw [hr] at h0; cases h0), fun j hj => by
    rw [hr] at hj
    have : j = i := by simpa using hj
    subst this
    exact h E a w hS⟩
theorem awMY_st {st2 : St} (hs : some st = some st2) (h : awMY P T ops fuel listed st2 σ Q) : awMY P T ops fuel listed st σ Q := by injection hs with hs; rw [hs]; exact h
theorem awMI_c {i d : Nat} {f : FuncId} {args : List Operand} {ts : Array TypeId} {ys : List AV} {r : AV} {fr : List (Nat × AV)} {hp : Hp} {nt : Nat} {fx : List Nat} (hi : ops[i]? = some o) (hg : o.guard = none) (ho : o.op = .call ⟨.value (.func f), args.toArray, ts⟩) (ha : argsA ⟨fr, hp, nt, fx⟩ args = some ys) (hc : Ab P f ys r) (him : ys.all immA = true) (hir : immA r = true)
    (hd : o.dst = some d) (hdn : d < nt) (h : awMY P T ops fuel (listed.setIfInBounds i true) ⟨(d, r) :: fr, hp, nt, fx⟩ σ Q) : awMI P T ops fuel listed ⟨fr, hp, nt, fx⟩ σ Q i :=
  fun E a w ⟨E', D, hl, ρ, hS⟩ => wpOp_of_wp hi (by simp [Region.wanted, hg]) (call_step hS ho ha hc him hir (fun e he => by rw [hd] at he; injection he with he; subst he; exact hdn) fun a' w' hs hb => ⟨fun _ => hb, h E a' w' ⟨E', D, hl, by rw [hd] at hs; exact hs⟩⟩)
theorem awMI_cM {i d : Nat} {f : FuncId} {args : List Operand} {ts : Array TypeId} {ys : List AV} {r : AV} {h h' : Hp} {m' : Mp} {fix : List Nat} (hi : ops[i]? = some o) (hds : dsI ops i = true) (hg : o.guard = none) (ho : o.op = .call ⟨.value (.func f), args.toArray, ts⟩) (ha : argsA st args = some ys) (hc : FnM P T f ys h b m r h' m' fix) (hsub : subL h st.hp)
    (hr : okR (keysH h') r = true) (hcs : h'.all (fun p => p.2.all (okR (keysH h'))) = true) (hfx : st.fx.all (fun k => !(keysH h').contains k || fix.contains k) = true) (hd : o.dst = some d) (hdn : d < st.nt) (hrest : awMY P T ops fuel (listed.setIfInBounds i true) (st.after d r h h' fix) (some (b, m')) Q) : awMI P T ops fuel listed st (some (b, m)) Q i :=
  fun E a w ⟨E', D, hl, ρ, hS⟩ => wpOp_of_wp hi (by simp [Region.wanted, hg]) (callMM_run hl hS (run_call ho hc.1 a w) (argsA_rep hS ha) hc hsub hr hcs hfx hd hdn fun a' w' hs => ⟨fun h0 => (by rw [hds] at h0; cases h0), hrest E a' w' hs⟩)
theorem awMI_kM {i d : Nat} {f : FuncId} {c : Operand} {caps : List AV} {args : List Operand} {ts : Array TypeId} {ys : List AV} {r : AV} {h h' : Hp} {m' : Mp} {fix : List Nat} (hi : ops[i]? = some o) (hds : dsI ops i = true) (hg : o.guard = none) (ho : o.op = .call ⟨.value c, args.toArray, ts⟩) (hv : opv st c = some (.fn f caps)) (hlt : f < bnd) (ha : argsA st args = some ys) (hc : FnM P T f (ys ++ caps) h b m r h' m' fix) (hsub : subL h st.hp)
    (hr : okR (keysH h') r = true) (hcs : h'.all (fun p => p.2.all (okR (keysH h'))) = true) (hfx : st.fx.all (fun k => !(keysH h').contains k || fix.contains k) = true) (hd : o.dst = some d) (hdn : d < st.nt) (hrest : awMY P T ops fuel (listed.setIfInBounds i true) (st.after d r h h' fix) (some (b, m')) Q) : awMI P T ops fuel listed st (some (b, m)) Q i :=
  fun E a w ⟨E', D, hl, ρ, hS⟩ => wpOp_of_wp hi (by simp [Region.wanted, hg]) (by
    obtain ⟨us, e, hu⟩ := (opv_sound hS hv).fn_inv
    rw [fnV_lt hlt] at e
    exact callMM_run hl hS (run_callC ho hc.1 a w e) ((argsA_rep hS ha).app hu) hc hsub hr hcs hfx hd hdn fun a' w' hs => ⟨fun h0 => (by rw [hds] at h0; cases h0), hrest E a' w' hs⟩)
end
theorem retM_mk {P : Program} {rs : List ResultVar} {r : AV} {h' : Hp} {b : Nat} {m m' : Mp} {keep fix : List Nat} {e : Exit} {st : St} (h : retQ P rs r h' keep fix e st) (hm : m = m') : retM P rs r h' b m' keep fix e st (some (b, m)) := ⟨h, by rw [hm]⟩
end Go.Proofs.YtogmppcfopgkdaaGreatDoor
