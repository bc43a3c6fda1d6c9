/- The abstract machine, part 7: the operations that make or change objects. No program is named here. -/
import Derived.Test.YtcplbbbjmalfjaaMachF
namespace Go.Proofs.Ytcplbbbjmalfjaa
open Go.RowKit
set_option linter.unusedVariables false
set_option linter.unusedSimpArgs false

/-- Operations that may change what was there. -/
def dsO : Op → Bool
  | .store .. => true
  | .mapUpdate .. => true
  | .entryStore .. => true
  | .insert .. => true
  | .call ⟨.builtin .append, _, _⟩ => true
  | .call ⟨.builtin .copy, _, _⟩ => true
  | .call ⟨.builtin .clear, _, _⟩ => true
  | .call ⟨.builtin .delete, _, _⟩ => true
  | _ => false
/-- From st the operation leads to st'. -/
def StepTo (P : Program) (E : Env) (a : Act) (o : Oper) (st' : St) (w : World) : Prop :=
  ∃ w' v, ((execOp a.eval o).run P w = .ok (.value v) w' ∨ ((execOp a.eval o).run P w = .ok .skip w' ∧ v = undef)) ∧ S E st' (a.put o.dst v) w' ∧ (dsO o.op = false → Below w.heap.size w w')

def zT (P : Program) (t : TypeId) : Option (List Value) := ((P.info? t).bind (·.zero)).map (·.cells.toList)
def freeOf (k : Nat) (cs : List AV) : Bool := cs.all fun x => !mentM k x
theorem freeOf_nil (k : Nat) : freeOf k [] = true := rfl
theorem freeOf_cons (k : Nat) (x : AV) (cs : List AV) : freeOf k (x :: cs) = (!mentM k x && freeOf k cs) := rfl
theorem freeOf_append (k : Nat) (a b : List AV) : freeOf k (a ++ b) = (freeOf k a && freeOf k b) := by simp [freeOf]
theorem freeOf_map_v (k : Nat) (l : List Value) : freeOf k (l.map .v) = true := by simp [freeOf, mentM, partM, cellM]
theorem freeOf_take {k n : Nat} {cs : List AV} (h : freeOf k cs = true) : freeOf k (cs.take n) = true := by
  simp only [freeOf, List.all_eq_true] at *
  exact fun x hx => h x (List.mem_of_mem_take hx)
theorem freeOf_spec {k : Nat} {cs : List AV} (h : freeOf k cs = true) : ∀ x ∈ cs, mentM k x = false := by
  simpa [freeOf] using h

/-- A new object in the temporary d. -/
def mk (st : St) (d : Nat) (cs : List AV) (x : AV) : Option St := if d < st.nt ∧ d ∉ st.fx ∧ freeOf d cs = true then some ((st.fresh d cs).put (some d) x) else none
theorem mk_eq {st : St} {d : Nat} {cs : List AV} (x : AV) (h1 : d < st.nt) (h3 : d ∉ st.fx) (h2 : freeOf d cs = true) : mk st d cs x = some ((st.fresh d cs).put (some d) x) := by simp [mk, h1, h2, h3]

def evAlloc (P : Program) (st : St) (d : Nat) (t : TypeId) : Option St := (zT P t).bind fun z => mk st d (z.map .v) (.pt d 0)
def evBox (P : Program) (st : St) (d : Nat) (x : AV) : Option St := (cellsA x).bind fun cs => mk st d cs (.pt d 0)
def evStore (P : Program) (st : St) (t : TypeId) (p x : AV) : Option St :=
  match p with
  | .pt k off => (look st.hp k).bind fun cs => (cellsA x).bind fun xs => if szT P t = some xs.length ∧ xs.all okC = true ∧ off + xs.length ≤ cs.length then some (st.store k (setR cs off xs)) else none
  | _ => none
theorem evStore_eq {P : Program} {st : St} {t : TypeId} {k off : Nat} {x : AV} {cs xs : List AV} (h1 : look st.hp k = some cs) (h2 : cellsA x = some xs) (h3 : szT P t = some xs.length) (h4 : xs.all okC = true) (h5 : off + xs.length ≤ cs.length) :
    evStore P st t (.pt k off) x = some (st.store k (setR cs off xs)) := by
  unfold evStore
  simp only [h1, h2, Option.bind_some]
  rw [if_pos ⟨h3, h4, h5⟩]
def litPl (sz : Nat) : Nat → Nat → List (Nat × Nat)
  | _, 0 => []
  | i, n + 1 => (i * sz, sz) :: litPl sz (i + 1) n
def evLit (P : Program) (st : St) (d : Nat) (t : TypeId) (len : Nat) (parts : List (Nat × Option AV)) : Option St :=
  (elT P t).bind fun e => if len * e.2.1 ≤ 16777216 then (aFill (litPl e.2.1 0 len) (List.replicate (len * e.2.1) .un) parts).bind fun cs => mk st d cs (.os d 0 e.2.1 len) else none
/-- make([]T, n): elements of one cell. -/
def evMake (P : Program) (st : St) (d : Nat) (t : TypeId) (l c : AV) : Option St :=
  match l, c with
  | .v (.int _ l), .v (.int _ c) => (elT P t).bind fun e => match zT P e.1 with
    | some [z] => if 0 ≤ l ∧ l = c ∧ e.2.2 * l ≤ 281474976710656 ∧ l ≤ 9223372036854775807 ∧ e.2.1 = 1 then mk st d (List.replicate l.toNat (.v z)) (.os d 0 1 l.toNat) else none
    | _ => none
  | _, _ => none
/-- The source of an append. -/
def srcC (P : Program) (hp : Hp) (sz : Nat) (tx : TypeId) (x : AV) : Option (Nat × List AV) :=
  match x with
  | .v (.string s) => match P.underlying tx with
    | some .string => if sz = 1 then some (s.size, bytesA s.data.toList) else none
    | _ => none
  | x => if isSlT P tx = true then sliceC hp x else none
def evAppend (P : Program) (st : St) (d : Nat) (t tx : TypeId) (s x : AV) : Option St :=
  (elT P t).bind fun e => (srcC P st.hp e.2.1 tx x).bind fun q =>
    match s with
    | .os k off sz n => (look st.hp k).bind fun cs =>
      if sz = e.2.1 ∧ off + n * sz ≤ cs.length ∧ q.2.length = q.1 * sz ∧ q.2.all okC = true ∧ (n + q.1) * e.2.2 ≤ 140737488355328 ∧ n + q.1 ≤ 9223372036854775807 ∧ d < st.nt ∧ k ∉ st.fx ∧ freeOf k ((cs.drop off).take (n * sz) ++ q.2) = true
      then some ((st.fresh k ((cs.drop off).take (n * sz) ++ q.2)).put (some d) (.os k 0 sz (n + q.1))) else none
    | .v (.slice none 0 0) =>
      if q.2.length = q.1 * e.2.1 ∧ q.2.all okC = true ∧ q.1 * e.2.2 ≤ 140737488355328 ∧ q.1 ≤ 9223372036854775807 ∧ d < st.nt ∧ d ∉ st.fx ∧ freeOf d q.2 = true
      then some ((st.fresh d q.2).put (some d) (.os d 0 e.2.1 q.1)) else none
    | _ => none

section
variable {P : Program} {E : Env} {ρ : Nat → Loc} {st st' : St} {a : Act} {w : World}
theorem mk_sound (h : SR E ρ st a w) {d : Nat} {cs : List AV} {x : AV} (hm : mk st d cs x = some st') {us : Array Value} {t : TypeId} {v : Value} {w1 : World} (hw1 : w1.heap = w.heap ∧ w1.os = w.os ∧ w1.tape = w.tape ∧ w1.output = w.output)
    (hr : RepC w (avd E.bad ρ st.hp) ρ cs us) (hx : ∀ av, Rep (w1.alloc (.cells us t)) av (rset ρ d ⟨w.heap.size, 0, cs.length⟩) x v) : S E st' (a.put (some d) v) (w1.alloc (.cells us t)) := by
  unfold mk at hm
  split at hm
  · next hc =>
    injection hm with hm
    subst hm
    have h1 := h.made d hc.2.1 cs us t hw1 hr (freeOf_spec hc.2.2)
    exact ⟨_, h1.put (some d) (fun t e => by injection e with e; subst e; exact hc.1) (hx _)⟩
  · cases hm
theorem RepC.map_v {av : Nat → Prop} (z : List Value) : RepC w av ρ (z.map .v) z.toArray := ⟨by simp, fun j a x hj hx => by
  simp at hj hx
  obtain ⟨y, hy, rfl⟩ := hj
  rw [hy] at hx
  injection hx with hx
  subst hx
  exact .im (.v _)⟩
theorem evAlloc_sound (h : SR E ρ st a w) {o : Oper} {d : Nat} {t : TypeId} (hd : o.dst = some d) (ho : o.op = .alloc t) (hq : evAlloc P st d t = some st') : StepTo P E a o st' w := by
  simp only [evAlloc, Option.bind_eq_some_iff] at hq
  obtain ⟨z, hz, hq⟩ := hq
  simp only [zT, Option.map_eq_some_iff, Option.bind_eq_some_iff] at hz
  obtain ⟨zv, ⟨i, hi, hzv⟩, rfl⟩ := hz
  refine ⟨w.alloc (.cells zv.cells t), .pointer (some ⟨w.heap.size, 0, none⟩), .inl ?_, ?_, fun _ => (Below.refl _ _).alloc (Nat.le_refl _) _⟩
  · simp [execOp, ho, Instr.alloc, zeroValue, typeInfo, hi, hzv, newVar, newRow]
  · rw [hd]
    refine mk_sound h hq ⟨rfl, rfl, rfl, rfl⟩ ?_ (fun av => ?_)
    · have := RepC.map_v (w := w) (av := avd E.bad ρ st.hp) (ρ := ρ) zv.cells.toList
      simpa using this
    · have := Rep.pt (w := w.alloc (.cells zv.cells t)) (av := av) (ρ := rset ρ d ⟨w.heap.size, 0, (zv.cells.toList.map AV.v).length⟩) (k := d) (off := 0)
      simpa [rset_same] using this
theorem evBox_sound (h : SR E ρ st a w) {o : Oper} {d : Nat} {t : TypeId} {x : Operand} {y : AV} (hd : o.dst = some d) (ho : o.op = .box t x) (hy : opv st x = some y) (hq : evBox P st d y = some st') : StepTo P E a o st' w := by
  simp only [evBox, Option.bind_eq_some_iff] at hq
  obtain ⟨cs, hc, hq⟩ := hq
  have hr := cellsA_sound (opv_sound h hy) hc
  refine ⟨w.alloc (.cells (a.eval x).cells t), .pointer (some ⟨w.heap.size, 0, none⟩), .inl ?_, ?_, fun _ => (Below.refl _ _).alloc (Nat.le_refl _) _⟩
  · simp [execOp, ho, Instr.box, newVar, newRow]
  · rw [hd]
    refine mk_sound h hq ⟨rfl, rfl, rfl, rfl⟩ hr (fun av => ?_)
    have := Rep.pt (w := w.alloc (.cells (a.eval x).cells t)) (av := av) (ρ := rset ρ d ⟨w.heap.size, 0, cs.length⟩) (k := d) (off := 0)
    simpa [rset_same] using this
theorem evStore_sound (h : SR E ρ st a w) {o : Oper} {t : TypeId} {p x : Operand} {yp yx : AV} (hd : o.dst = none) (ho : o.op = .store t p x) (hp : opv st p = some yp) (hx : opv st x = some yx) (hq : evStore P st t yp yx = some st') : StepTo P E a o st' w := by
  unfold evStore at hq
  split at hq
  · next k off =>
    simp only [Option.bind_eq_some_iff] at hq
    obtain ⟨cs, hk, xs, hc, hq⟩ := hq
    split at hq
    · next hcond =>
      obtain ⟨h1, h2, h3⟩ := hcond
      injection hq with hq
      subst hq
      have hr := cellsA_sound (opv_sound h hx) hc
      have hob := h.hr.obj k cs hk
      refine ⟨w.setCells (ρ k).g ((ρ k).off + off) (a.eval x).cells.toList, undef, .inr ⟨?_, rfl⟩, ?_, fun hds => by rw [ho] at hds; cases hds⟩
      · have hone : ∀ v ∈ (a.eval x).cells.toList, v.oneCell' = true := fun v hv => by
          obtain ⟨j, hj⟩ := List.mem_iff_getElem?.1 hv
          have hj' : j < xs.length := by rw [← hr.1]; simpa using (List.getElem?_eq_some_iff.1 hj).1
          exact okC_sound (hr.2 j xs[j] v (List.getElem?_eq_getElem hj') (by simpa using hj)) (List.all_eq_true.1 h2 _ (List.getElem_mem hj'))
        have hth : ∀ j, j < (a.eval x).cells.toList.length → (w.cell? ⟨(ρ k).g, (ρ k).off + off + j, none⟩).isSome = true ∧ w.frozen? ⟨(ρ k).g, (ρ k).off + off + j, none⟩ = false := fun j hj => by
          rw [Array.length_toList, hr.1] at hj
          rw [Nat.add_assoc]
          exact (hob.mem (by have := hob.len; omega)).2 (off + j) (by have := hob.len; omega)
        have hrun := run_storeCells_cells (P := P) (ρ k).g ((ρ k).off + off) (a.eval x).cells.toList 0 w (fun j hj => (hth j hj).1) (fun j hj => (hth j hj).2) hone
        simp only [Nat.add_zero] at hrun
        unfold execOp
        simp only [ho, (opv_sound h hp).pt_inv]
        simp [Instr.storeAt, Instr.sureAddr, storeVar, run_sizeOf' h1, hr.1, hrun]
      · rw [hd]; exact ⟨ρ, h.store hk h3 hr⟩
    · cases hq
  · cases hq
theorem litPl_get (sz : Nat) : ∀ (n i j : Nat) (p : Nat × Nat), (litPl sz i n)[j]? = some p → p = ((i + j) * sz, sz)
  | 0, i, j, p, h => by simp [litPl] at h
  | n + 1, i, 0, p, h => by simp [litPl] at h; subst h; rfl
  | n + 1, i, j + 1, p, h => by
    simp only [litPl, List.getElem?_cons_succ] at h
    have := litPl_get sz n (i + 1) j p h
    rw [this, show i + 1 + j = i + (j + 1) from by omega]
theorem evLit_sound (h : SR E ρ st a w) {o : Oper} {d : Nat} {t : TypeId} {len : Nat} {parts : Array (Nat × Operand)} (hd : o.dst = some d) (ho : o.op = .buildSlice t len parts)
    (hq : evLit P st d t len (parts.toList.map fun p => (p.1, opv st p.2)) = some st') : StepTo P E a o st' w := by
  simp only [evLit, Option.bind_eq_some_iff] at hq
  obtain ⟨e, he, hq⟩ := hq
  split at hq
  · next hlim =>
    rw [Option.bind_eq_some_iff] at hq
    obtain ⟨cs, hf, hq⟩ := hq
    obtain ⟨hu, hs, hpos, ⟨⟨i, z, _, hi, hz, his, hib, hzs⟩, _⟩⟩ := elT_run he
    have h0 : RepC w (avd E.bad ρ st.hp) ρ (List.replicate (len * e.2.1) .un) ((Array.range (len * e.2.1)).map (z.cells[· % z.cells.size]!)) := ⟨by simp, fun j b x hj hx => by
      rw [List.getElem?_replicate] at hj
      split at hj
      · injection hj with hj; subst hj; exact .im (.un _)
      · cases hj⟩
    obtain ⟨us', hf', hr⟩ := aFill_sound (w := w) (av := avd E.bad ρ st.hp) (ρ := ρ) (litPl e.2.1 0 len) (fun i => some (i * e.2.1, e.2.1)) (fun i p hp => by rw [litPl_get _ _ _ _ _ hp, Nat.zero_add]) _ (parts.toList.map fun p => (p.1, a.eval p.2)) _ cs _ hf h0 (by simp) (fun j p q hp hq => by
      simp at hp hq
      obtain ⟨i1, o1, h1, rfl⟩ := hp
      obtain ⟨i2, o2, h2, rfl⟩ := hq
      rw [h1] at h2
      injection h2 with h2
      injection h2 with e1 e2
      subst e1; subst e2
      exact ⟨rfl, fun x hx => opv_sound h hx⟩)
    refine ⟨w.alloc (.cells us' e.1), .slice (some ⟨w.heap.size, 0, none⟩) len len, .inl ?_, ?_, fun _ => (Below.refl _ _).alloc (Nat.le_refl _) _⟩
    · have hz2 : (zeroValue e.1).run P w = .ok z w := by simp [zeroValue, typeInfo, hi, hz]
      have hl : ¬ len * e.2.1 > 2 ^ 24 := by omega
      by_cases hlen : len * e.2.1 = 0
      · have hus : Instr.fill (fun i => some (i * e.2.1, e.2.1)) #[] (parts.toList.map fun p => (p.1, a.eval p.2)) = some us' := by
          have : (Array.range (len * e.2.1)).map (z.cells[· % z.cells.size]!) = #[] := by rw [hlen, Array.range_zero']; simp
          rw [this] at hf'; exact hf'
        have hl0 : len = 0 := by
          rcases Nat.mul_eq_zero.1 hlen with h | h
          · exact h
          · omega
        subst hl0
        simp [execOp, ho, Instr.buildSlice, run_underlying hu, run_sizeOf' hs, newRow]
        rw [Array.range_zero']
        simp [hus, newRow]
      · simp [execOp, ho, Instr.buildSlice, run_underlying hu, run_sizeOf' hs, newRow, hl, hlen, hz2]
        rw [hf']
        simp [newRow]
    · rw [hd]
      refine mk_sound h hq ⟨rfl, rfl, rfl, rfl⟩ hr (fun av => ?_)
      have hlc : cs.length = len * e.2.1 := by
        have h1 := hr.1
        have : us'.size = len * e.2.1 := by
          have h2 := aFill_len _ _ hf
          rw [h1, h2]; simp
        omega
      refine .os hpos (Nat.le_refl _) ?_ (fun hp => ⟨by rw [rset_same], by rw [rset_same]; show 0 + len * e.2.1 ≤ cs.length; omega⟩)
      have : len * 1 ≤ len * e.2.1 := Nat.mul_le_mul_left _ hpos
      omega
  · cases hq
theorem evMake_sound (h : SR E ρ st a w) {o : Oper} {d : Nat} {t : TypeId} {l c : Operand} {yl yc : AV} (hd : o.dst = some d) (ho : o.op = .makeSlice t l c) (hl : opv st l = some yl) (hc : opv st c = some yc)
    (hq : evMake P st d t yl yc = some st') : StepTo P E a o st' w := by
  unfold evMake at hq
  split at hq
  · next ik l' ck c' =>
    rw [Option.bind_eq_some_iff] at hq
    obtain ⟨e, he, hq⟩ := hq
    split at hq
    · next z hz =>
      split at hq
      · next hcond =>
        obtain ⟨q1, rfl, q3, q4, q5⟩ := hcond
        obtain ⟨hu, hs, hpos, ⟨⟨i, zv, _, hi, hzv, his, hib, hzs⟩, _⟩⟩ := elT_run he
        simp only [zT, hi, Option.bind_some, hzv, Option.map_some, Option.some.injEq] at hz
        have hrun := run_make (P := P) (w := w) t e.1 i zv hu hi hzv ik ck l' l' q1 (Int.le_refl _) (by rw [hib]; exact q3) q4
        refine ⟨w.alloc (.cells (madeCells zv.cells (l'.toNat * i.size)) e.1), .slice (some ⟨w.heap.size, 0, none⟩) l'.toNat l'.toNat, .inl ?_, ?_, fun _ => (Below.refl _ _).alloc (Nat.le_refl _) _⟩
        · unfold execOp
          simp only [ho, Rep.v_eq (opv_sound h hl), Rep.v_eq (opv_sound h hc)]
          simp [hrun]
        · rw [hd]
          refine mk_sound h hq ⟨rfl, rfl, rfl, rfl⟩ ⟨by rw [size_madeCells, his, q5]; simp, fun j b x hj hx => ?_⟩ (fun av => ?_)
          · rw [List.getElem?_replicate] at hj
            split at hj
            · injection hj with hj
              subst hj
              have hzc : zv.cells = #[z] := by apply Array.ext'; simpa using hz
              simp only [madeCells, hzc] at hx
              simp at hx
              obtain ⟨y, hy, rfl⟩ := hx
              simp [Nat.mod_one]
              exact .im (.v _)
            · cases hj
          · refine .os (by omega) (Nat.le_refl _) (by omega) (fun hp => ⟨by rw [rset_same], by rw [rset_same]; simp⟩)
      · cases hq
    · cases hq
  · cases hq
/-- The values of the cells of a piece of an object. -/
theorem obj_vals {av : Nat → Prop} {L : Loc} {cs : List AV} (hob : ObjR w av ρ L cs) {off n : Nat} (hle : off + n ≤ cs.length) :
    ∃ us : List Value, us.length = n ∧ (∀ j u, us[j]? = some u → w.cell? ⟨L.g, L.off + off + j, none⟩ = some u) ∧ ∀ (j : Nat) (x : AV) (u : Value), ((cs.drop off).take n)[j]? = some x → us[j]? = some u → Rep w av ρ x u := by
  let f : Nat → Value := fun j => (w.cell? ⟨L.g, L.off + off + j, none⟩).getD undef
  have hf : ∀ j, j < n → ∃ y, cs[off + j]? = some y ∧ w.cell? ⟨L.g, L.off + off + j, none⟩ = some (f j) ∧ Rep w av ρ y (f j) := fun j hj => by
    obtain ⟨v, hv, hr⟩ := hob.cells (off + j) cs[off + j] (List.getElem?_eq_getElem (by omega))
    rw [← Nat.add_assoc] at hv
    exact ⟨_, List.getElem?_eq_getElem (by omega), by simp [f, hv], by simp [f, hv]; exact hr⟩
  refine ⟨(List.range n).map f, by simp, fun j u hu => ?_, fun j x u hx hu => ?_⟩
  · simp at hu
    obtain ⟨i, hi, rfl⟩ := hu
    obtain ⟨h1, rfl⟩ := List.getElem?_eq_some_iff.1 hi
    simp at h1 ⊢
    obtain ⟨y, _, h2, _⟩ := hf j h1
    exact h2
  · simp at hu
    obtain ⟨i, hi, rfl⟩ := hu
    obtain ⟨h1, rfl⟩ := List.getElem?_eq_some_iff.1 hi
    simp at h1 ⊢
    rw [List.getElem?_take_of_lt h1, List.getElem?_drop] at hx
    obtain ⟨y, h3, _, h4⟩ := hf j h1
    rw [hx] at h3
    injection h3 with h3
    subst h3
    exact h4
theorem srcC_sound {size : Nat} (hobj : ∀ k cs, look st.hp k = some cs → ObjR w (avd E.bad ρ st.hp) ρ (ρ k) cs) {tx : TypeId} {x : AV} {v : Value} {n : Nat} {cs : List AV} (hx : Rep w (avd E.bad ρ st.hp) ρ x v) (h : srcC P st.hp size tx x = some (n, cs)) (hl : cs.length = n * size) (hok : cs.all okC = true) : ∃ news, Src P size tx v n news w ∧ ∀ (j : Nat) (y : AV) (u : Value), cs[j]? = some y → news[j]? = some u → Rep w (avd E.bad ρ st.hp) ρ y u := by
  have slow : isSlT P tx = true → sliceC st.hp x = some (n, cs) → ∃ news, Src P size tx v n news w ∧ ∀ (j : Nat) (y : AV) (u : Value), cs[j]? = some y → news[j]? = some u → Rep w (avd E.bad ρ st.hp) ρ y u := fun hT hs => by
    unfold isSlT at hT
    split at hT
    · next e' hu =>
      obtain ⟨A, c, rfl, q1, q2, q0, qm⟩ := sliceC_sound hobj hx hs
      rcases Nat.eq_zero_or_pos n with rfl | hn
      · have := q0 rfl
        subst this
        refine ⟨[], Src.ofReads hu (Reads.zero w size A c q2) (fun u hu => by cases hu), fun j y u hj _ => by simp at hj⟩
      · obtain ⟨b, off, rfl, hb, hc⟩ := qm hn
        let f : Nat → Value := fun j => (w.cell? ⟨b, off + j, none⟩).getD undef
        have hf : ∀ j, j < cs.length → w.cell? ⟨b, off + j, none⟩ = some (f j) ∧ Rep w (avd E.bad ρ st.hp) ρ (cs.getD j .un) (f j) := fun j hj => by
          obtain ⟨y, hy, hr⟩ := hc j cs[j] (List.getElem?_eq_getElem hj)
          exact ⟨by simp [f, hy], by simp [f, hy, List.getD, List.getElem?_eq_getElem hj]; exact hr⟩
        have hget : ∀ j u, ((List.range cs.length).map f)[j]? = some u → j < cs.length ∧ u = f j := fun j u hu => by
          simp at hu
          obtain ⟨i, hi, rfl⟩ := hu
          obtain ⟨h1, rfl⟩ := List.getElem?_eq_some_iff.1 hi
          simp at h1 ⊢
          exact h1
        refine ⟨(List.range cs.length).map f, Src.ofReads hu ⟨q1, q2, by simpa using hl, fun _ => ⟨b, off, rfl, hb, fun j u hu => ?_⟩⟩ (fun u hu => ?_), fun j y u hj hu => ?_⟩
        · obtain ⟨g1, rfl⟩ := hget j u hu
          exact (hf j g1).1
        · obtain ⟨j, hj⟩ := List.mem_iff_getElem?.1 hu
          obtain ⟨g1, rfl⟩ := hget j u hj
          refine okC_sound (hf j g1).2 ?_
          rw [List.getD, List.getElem?_eq_getElem g1]
          exact List.all_eq_true.1 hok _ (List.getElem_mem g1)
        · obtain ⟨g1, rfl⟩ := hget j u hu
          have := (hf j g1).2
          rw [List.getD, hj] at this
          exact this
    · cases hT
  unfold srcC at h
  split at h
  · next s =>
    split at h
    · next hu =>
      split at h
      · next hsz =>
        subst hsz
        injection h with h
        injection h with e1 e2
        subst e1; subst e2
        rw [hx.v_eq]
        refine ⟨byteCells s, Src.ofString w hu s, fun j y u hj huu => ?_⟩
        simp [bytesA] at hj
        simp [byteCells] at huu
        obtain ⟨x1, g1, rfl⟩ := hj
        obtain ⟨x2, g2, rfl⟩ := huu
        rw [g1] at g2
        injection g2 with g2
        subst g2
        exact .im (.v _)
      · cases h
    · cases h
  · split at h
    · next hT => exact slow hT h
    · cases h
end
end Go.Proofs.Ytcplbbbjmalfjaa
