/- The abstract machine, part 2: what an operation that changes nothing yields. No program is named here. -/
import Derived.Test.YtcplbbbjmalfjaaMachA
namespace Go.Proofs.Ytcplbbbjmalfjaa
open Go.RowKit
set_option linter.unusedVariables false
set_option linter.unusedSimpArgs false

/-! ### Runs that touch no memory -/
def pr (P : Program) {α : Type} : Sem α → Option α
  | .pure a => some a
  | .program k => pr P (k P)
  | _ => none
theorem pr_run {P : Program} {α : Type} : ∀ {s : Sem α} {x : α}, pr P s = some x → ∀ w, s.run P w = .ok x w
  | .pure a, x, h, w => by simp only [pr, Option.some.injEq] at h; subst h; rfl
  | .program k, x, h, w => by simp only [pr] at h; exact pr_run (s := k P) h w
  | .load .., _, h, _ => by simp [pr] at h
  | .store .., _, h, _ => by simp [pr] at h
  | .new .., _, h, _ => by simp [pr] at h
  | .shape .., _, h, _ => by simp [pr] at h
  | .freeze .., _, h, _ => by simp [pr] at h
  | .frozen .., _, h, _ => by simp [pr] at h
  | .getObj .., _, h, _ => by simp [pr] at h
  | .setObj .., _, h, _ => by simp [pr] at h
  | .choose .., _, h, _ => by simp [pr] at h
  | .sys .., _, h, _ => by simp [pr] at h
  | .mark .., _, h, _ => by simp [pr] at h
  | .halt .., _, h, _ => by simp [pr] at h
theorem pr_pure (P : Program) {α : Type} (x : α) : pr P (Pure.pure x : Sem α) = some x := rfl
theorem pr_bind (P : Program) {α β : Type} (s : Sem α) (f : α → Sem β) : pr P (s >>= f) = (pr P s).bind fun x => pr P (f x) := by
  show pr P (s.bind f) = _
  induction s <;> simp_all [pr, Sem.bind]

/-! ### Operands -/
def cst : Value → AV
  | .agg cs => .ag (cs.toList.map .v)
  | x => .v x
theorem cst_int (k : IntKind) (n : Int) : cst (.int k n) = .v (.int k n) := rfl
theorem cst_bool (b : Bool) : cst (.bool b) = .v (.bool b) := rfl
theorem cst_string (b : ByteArray) : cst (.string b) = .v (.string b) := rfl
theorem cst_slice (a : Option Addr) (n c : Nat) : cst (.slice a n c) = .v (.slice a n c) := rfl
theorem cst_agg (cs : Array Value) : cst (.agg cs) = .ag (cs.toList.map .v) := rfl
theorem cst_rep {w : World} {av : Nat → Prop} {ρ : Nat → Loc} (x : Value) : Rep w av ρ (cst x) x := by
  cases x <;> first
    | exact .im (.v _)
    | (refine .ag (by simp) fun j a x hj hx => ?_
       simp at hj
       obtain ⟨y, hy, rfl⟩ := hj
       rw [hy] at hx
       injection hx with hx
       subst hx
       exact .im (.v _))
def opv (st : St) : Operand → Option AV
  | .tmp t => look st.fr t
  | .const c => some (cst c)
  | .func f => some (.v (.func (.func f) #[] #[]))
  | .global _ => none
theorem opv_tmp (st : St) (t : Nat) : opv st (.tmp t) = look st.fr t := rfl
theorem opv_const (st : St) (c : Value) : opv st (.const c) = some (cst c) := rfl
theorem opv_sound {E : Env} {ρ : Nat → Loc} {st : St} {a : Act} {w : World} (h : SR E ρ st a w) {x : Operand} {y : AV} (hx : opv st x = some y) : Rep w (avd E.bad ρ st.hp) ρ y (a.eval x) := by
  cases x with
  | tmp t => exact h.fr t y hx
  | const c => simp only [opv, Option.some.injEq] at hx; subst hx; exact cst_rep c
  | func f => simp only [opv, Option.some.injEq] at hx; subst hx; exact .im (.v _)
  | global g => simp [opv] at hx

/-! ### Values that are known whole -/
def cellVs : List AV → Option (List Value)
  | [] => some []
  | .v x :: r => (cellVs r).map (x :: ·)
  | _ => none
def val : AV → Option Value
  | .v x => some x
  | .ag cs => (cellVs cs).map fun l => .agg l.toArray
  | _ => none
theorem cellVs_nil : cellVs [] = some [] := rfl
theorem cellVs_cons (x : Value) (r : List AV) : cellVs (.v x :: r) = (cellVs r).map (x :: ·) := rfl
theorem val_v (x : Value) : val (.v x) = some x := rfl
theorem val_ag (cs : List AV) : val (.ag cs) = (cellVs cs).map fun l => .agg l.toArray := rfl
section
variable {w : World} {av : Nat → Prop} {ρ : Nat → Loc}
theorem Rep.v_eq {x y : Value} (h : Rep w av ρ (.v x) y) : y = x := by
  cases h with
  | im h => cases h; rfl
theorem cellVs_spec : ∀ {cs : List AV} {l : List Value}, cellVs cs = some l → cs = l.map .v
  | [], l, h => by simp [cellVs] at h; subst h; rfl
  | .v x :: r, l, h => by
    simp only [cellVs, Option.map_eq_some_iff] at h
    obtain ⟨l', h', rfl⟩ := h
    rw [cellVs_spec h']
    rfl
  | .un :: _, _, h => by simp [cellVs] at h
  | .rd .. :: _, _, h => by simp [cellVs] at h
  | .os .. :: _, _, h => by simp [cellVs] at h
  | .pt .. :: _, _, h => by simp [cellVs] at h
  | .rp .. :: _, _, h => by simp [cellVs] at h
  | .ag .. :: _, _, h => by simp [cellVs] at h
  | .tp .. :: _, _, h => by simp [cellVs] at h
  | .fn .. :: _, _, h => by simp [cellVs] at h
  | .sp .. :: _, _, h => by simp [cellVs] at h
theorem Rep.ag_inv {cs : List AV} {y : Value} (h : Rep w av ρ (.ag cs) y) : ∃ us : Array Value, y = .agg us ∧ us.size = cs.length ∧ ∀ (j : Nat) (a : AV) (x : Value), cs[j]? = some a → us[j]? = some x → Rep w av ρ a x := by
  cases h with
  | im h => cases h
  | ag hn h => exact ⟨_, rfl, hn, h⟩
theorem Rep.tp_inv {cs : List AV} {y : Value} (h : Rep w av ρ (.tp cs) y) : ∃ us : Array Value, y = .tuple us ∧ us.size = cs.length ∧ ∀ (j : Nat) (a : AV) (x : Value), cs[j]? = some a → us[j]? = some x → Rep w av ρ a x := by
  cases h with
  | im h => cases h
  | tp hn h => exact ⟨_, rfl, hn, h⟩
theorem Rep.fn_inv {f : FuncId} {cs : List AV} {y : Value} (h : Rep w av ρ (.fn f cs) y) : ∃ us : Array Value, y = .func (.func f) #[] us ∧ us.size = cs.length ∧ ∀ (j : Nat) (a : AV) (x : Value), cs[j]? = some a → us[j]? = some x → Rep w av ρ a x := by
  cases h with
  | im h => cases h
  | fn hn h => exact ⟨_, rfl, hn, h⟩
theorem Rep.sp_inv {k : Nat} {y : Value} (h : Rep w av ρ (.sp k) y) : y = .pointer none ∨ y = .pointer (some ⟨(ρ k).g, (ρ k).off, none⟩) := by
  cases h with
  | im h => cases h
  | sp h => exact h
theorem Rep.pt_inv {k off : Nat} {y : Value} (h : Rep w av ρ (.pt k off) y) : y = .pointer (some ⟨(ρ k).g, (ρ k).off + off, none⟩) := by
  cases h with
  | im h => cases h
  | pt => rfl
theorem Rep.rp_inv {cs : List AV} {y : Value} (h : Rep w av ρ (.rp cs) y) : ∃ b off, ∃ u : Nat → Value, y = .pointer (some ⟨b, off, none⟩) ∧ ¬ av b ∧ b < w.heap.size ∧ (∀ j, j < cs.length → w.cell? ⟨b, off + j, none⟩ = some (u j)) ∧ ∀ j a, cs[j]? = some a → RepI w av a (u j) := by
  cases h with
  | im h => cases h
  | rp u hb hl hc hr => exact ⟨_, _, u, rfl, hb, hl, hc, hr⟩
theorem Rep.rd_inv {n : Nat} {cs : List AV} {y : Value} (h : Rep w av ρ (.rd n cs) y) : ∃ (A : Option Addr) (c : Nat) (u : Nat → Value), y = .slice A n c ∧ n ≤ c ∧ c ≤ 9223372036854775807 ∧ (n = 0 → cs = []) ∧
    (0 < n → ∃ b off, A = some ⟨b, off, none⟩ ∧ ¬ av b ∧ b < w.heap.size ∧ ∀ j, j < cs.length → w.cell? ⟨b, off + j, none⟩ = some (u j)) ∧ ∀ j a, cs[j]? = some a → RepI w av a (u j) := by
  cases h with
  | im h => cases h with
    | rd u h1 h2 h0 hm hr => exact ⟨_, _, u, rfl, h1, h2, h0, hm, hr⟩
theorem Rep.os_inv {k off sz n : Nat} {y : Value} (h : Rep w av ρ (.os k off sz n) y) : ∃ (A : Option Addr) (c : Nat), y = .slice A n c ∧ 0 < sz ∧ n ≤ c ∧ c ≤ 9223372036854775807 ∧
    (0 < c → A = some ⟨(ρ k).g, (ρ k).off + off, none⟩ ∧ off + c * sz ≤ (ρ k).cap) := by
  cases h with
  | im h => cases h
  | os hs h1 h2 h => exact ⟨_, _, rfl, hs, h1, h2, h⟩
theorem val_eq {a : AV} {x y : Value} (h : Rep w av ρ a y) (hv : val a = some x) : y = x := by
  cases a with
  | v z => simp only [val, Option.some.injEq] at hv; subst hv; exact h.v_eq
  | ag cs =>
    simp only [val, Option.map_eq_some_iff] at hv
    obtain ⟨l, hl, rfl⟩ := hv
    have := cellVs_spec hl
    subst this
    obtain ⟨us, rfl, hn, hr⟩ := h.ag_inv
    congr 1
    apply Array.ext'
    apply List.ext_getElem?
    intro j
    rcases Nat.lt_or_ge j l.length with hj | hj
    · have hj' : j < us.size := by simpa [hn] using hj
      have := (hr j (.v l[j]) us[j] (by simp [hj]) (by simp [hj'])).v_eq
      simp [hj', hj, this]
    · rw [List.getElem?_eq_none (by simpa [hn] using hj), List.getElem?_eq_none (by simpa using hj)]
  | _ => simp [val] at hv
end

/-! ### Facts on types -/
def rowT (P : Program) (t : TypeId) : Option Bool := (P.underlying t).map (·.isRow)
def szT (P : Program) (t : TypeId) : Option Nat := (P.info? t).map (·.size)
/-- A field: its offset and its type. -/
def fldT (P : Program) (s : TypeId) (f : Nat) : Option (Nat × TypeId) :=
  match P.underlying s with
  | some (.struct fs) => (fs[f]?).bind fun fd => match szT P fd.type with
    | some (n + 1) => some (fd.offset, fd.type)
    | _ => none
  | _ => none
/-- A slice type's elements: their type, size and bytes. -/
def elT (P : Program) (t : TypeId) : Option (TypeId × Nat × Nat) :=
  match P.underlying t with
  | some (.slice e) => (P.info? e).bind fun i => if 0 < i.size ∧ i.zero.map (·.cells.size) = some i.size then some (e, i.size, i.bytes) else none
  | _ => none
/-- An array type's length, elements' type and size. -/
def arT (P : Program) (t : TypeId) : Option (Nat × TypeId × Nat) :=
  match P.underlying t with
  | some (.array n e) => (szT P e).map fun s => (n, e, s)
  | _ => none

/-- All cells of w are in w' as they were. -/
def Ext (w w' : World) : Prop := ∀ b o x, w.cell? ⟨b, o, none⟩ = some x → w'.cell? ⟨b, o, none⟩ = some x
theorem Ext.refl (w : World) : Ext w w := fun _ _ _ h => h
theorem Ext.of_below {w w' : World} (h : Below w.heap.size w w') : Ext w w' := fun b o x hx => by
  have hl := World.block_lt_of_cell? w ⟨b, o, none⟩ hx
  rw [h.cell (p := ⟨b, o, none⟩) hl]
  exact hx
section
variable {P : Program} {w : World}
theorem run_sizeOf' {t : TypeId} {n : Nat} (h : szT P t = some n) : (sizeOf t).run P w = .ok n w := by
  unfold szT at h
  cases hq : P.info? t with
  | none => simp [hq] at h
  | some i => simp [hq] at h; subst h; simp [sizeOf, typeInfo, hq]
theorem run_isAgg' {t : TypeId} {b : Bool} (h : rowT P t = some b) : (isAgg t).run P w = .ok b w := by
  unfold rowT at h
  cases hq : P.underlying t with
  | none => simp [hq] at h
  | some d =>
    simp [hq] at h
    subst h
    unfold isAgg
    rw [Sem.run_bind, run_underlying hq w]
    cases d <;> rfl

/-- The variable of type t at the beginning of these cells. -/
def qCells (P : Program) (t : TypeId) (cs : List AV) : Option AV :=
  match rowT P t with
  | some false => cs[0]?
  | some true => match szT P t with
    | some n => if n ≤ cs.length then some (.ag (cs.take n)) else none
    | none => none
  | none => none
theorem qCells_one {t : TypeId} (h : rowT P t = some false) (cs : List AV) : qCells P t cs = cs[0]? := by simp [qCells, h]
theorem qCells_row {t : TypeId} {n : Nat} (h : rowT P t = some true) (hn : szT P t = some n) (cs : List AV) : qCells P t cs = if n ≤ cs.length then some (.ag (cs.take n)) else none := by simp [qCells, h, hn]

theorem qCells_sound {av : Nat → Prop} {ρ : Nat → Loc} {t : TypeId} {cs : List AV} {y : AV} {b off : Nat} (h : qCells P t cs = some y)
    (hc : ∀ j a, cs[j]? = some a → ∃ x, w.cell? ⟨b, off + j, none⟩ = some x ∧ Rep w av ρ a x) : ∃ v, (∀ w', Ext w w' → (loadVar t ⟨b, off, none⟩).run P w' = .ok v w') ∧ Rep w av ρ y v := by
  unfold qCells at h
  cases hr : rowT P t with
  | none => simp [hr] at h
  | some r =>
    rw [hr] at h
    cases r with
    | false =>
      simp only at h
      obtain ⟨x, hx, hrep⟩ := hc 0 y h
      refine ⟨x, fun w' hw => ?_, hrep⟩
      rw [Nat.add_zero] at hx
      simp [loadVar, run_isAgg' hr, run_load, hw _ _ _ hx]
    | true =>
      simp only at h
      cases hs : szT P t with
      | none => simp [hs] at h
      | some n =>
        rw [hs] at h
        simp only at h
        split at h
        · next hle =>
          injection h with h
          subst h
          have hex : ∀ j, j < n → ∃ x, w.cell? ⟨b, off + j, none⟩ = some x ∧ ∃ a, cs[j]? = some a ∧ Rep w av ρ a x := fun j hj => by
            obtain ⟨x, hx, hrep⟩ := hc j cs[j] (List.getElem?_eq_getElem (by omega))
            exact ⟨x, hx, _, List.getElem?_eq_getElem (by omega), hrep⟩
          let f : Nat → Value := fun j => (w.cell? ⟨b, off + j, none⟩).getD undef
          have hf : ∀ j, j < n → w.cell? ⟨b, off + j, none⟩ = some (f j) := fun j hj => by
            obtain ⟨x, hx, _⟩ := hex j hj
            simp [f, hx]
          have hl : ∀ w', Ext w w' → (loadCells ⟨b, off, none⟩ n).run P w' = .ok ((List.range n).map f).toArray w' := fun w' hw => by
            have := run_loadCells_list (P := P) w' ⟨b, off, none⟩ ((List.range n).map f) (fun j v hv => by
              rw [Addr.add_mid]
              simp at hv
              obtain ⟨a, ha, rfl⟩ := hv
              obtain ⟨h1, rfl⟩ := List.getElem?_eq_some_iff.1 ha
              simp at h1 ⊢
              exact hw _ _ _ (hf j h1))
            simpa using this
          refine ⟨.agg ((List.range n).map f).toArray, fun w' hw => ?_, .ag (by simp; omega) fun j a x hj hx => ?_⟩
          · simp [loadVar, run_isAgg' hr, run_sizeOf' hs, hl w' hw]
          · have hjn : j < n := by
              have := (List.getElem?_eq_some_iff.1 hj).1
              simp at this; omega
            obtain ⟨x', hx', a', ha', hrep⟩ := hex j hjn
            rw [List.getElem?_take_of_lt hjn] at hj
            rw [hj] at ha'
            injection ha' with ha'
            subst ha'
            simp [hjn, f, hx'] at hx
            subst hx
            exact hrep
        · cases h
end
end Go.Proofs.Ytcplbbbjmalfjaa
