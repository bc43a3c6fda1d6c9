/- The abstract machine, part 3: addresses, parts, slices; the quiet operations. No program is named here. -/
import Derived.Test.YtcplbbbjmalfjaaMachB
namespace Go.Proofs.Ytcplbbbjmalfjaa
open Go.RowKit
set_option linter.unusedVariables false
set_option linter.unusedSimpArgs false

section
variable {P : Program} {w : World} {bad : Nat → Prop} {ρ : Nat → Loc} {hp : Hp}
/-! ### Loads -/
def qLoad (P : Program) (hp : Hp) (t : TypeId) : AV → Option AV
  | .pt k off => (look hp k).bind fun cs => qCells P t (cs.drop off)
  | .rp cs => qCells P t cs
  | _ => none
theorem qLoad_pt (t : TypeId) (k off : Nat) : qLoad P hp t (.pt k off) = (look hp k).bind fun cs => qCells P t (cs.drop off) := rfl
theorem qLoad_rp (t : TypeId) (cs : List AV) : qLoad P hp t (.rp cs) = qCells P t cs := rfl
theorem qLoad_sound {av : Nat → Prop} (h : ∀ k cs, look hp k = some cs → ObjR w av ρ (ρ k) cs) {t : TypeId} {p y : AV} {v : Value} (hx : Rep w av ρ p v) (hq : qLoad P hp t p = some y) :
    ∃ u, (∀ w', Ext w w' → (Instr.loadAt t v).run P w' = .ok u w') ∧ Rep w av ρ y u := by
  cases p with
  | pt k off =>
    rw [qLoad_pt, Option.bind_eq_some_iff] at hq
    obtain ⟨cs, hk, hq⟩ := hq
    rw [hx.pt_inv]
    obtain ⟨u, hu, hr⟩ := qCells_sound (w := w) (av := av) (ρ := ρ) (b := (ρ k).g) (off := (ρ k).off + off) hq (fun j a hj => by
      rw [List.getElem?_drop] at hj
      rw [Nat.add_assoc]
      exact (h k cs hk).cells (off + j) a hj)
    exact ⟨u, fun w' hw => by simp [Instr.loadAt, Instr.sureAddr, hu w' hw], hr⟩
  | rp cs =>
    rw [qLoad_rp] at hq
    obtain ⟨b, off, u, rfl, hb, hl, hc, hr⟩ := hx.rp_inv
    obtain ⟨v, hv, hrep⟩ := qCells_sound (w := w) (av := av) (ρ := ρ) (b := b) (off := off) hq (fun j a hj => ⟨u j, hc j (List.getElem?_eq_some_iff.1 hj).1, .im (hr j a hj)⟩)
    exact ⟨v, fun w' hw => by simp [Instr.loadAt, Instr.sureAddr, hv w' hw], hrep⟩
  | _ => simp [qLoad] at hq

/-! ### The address of a field -/
def qFld (P : Program) (s : TypeId) (f : Nat) : AV → Option AV
  | .pt k off => (fldT P s f).map fun o => .pt k (off + o.1)
  | .rp cs => (fldT P s f).map fun o => .rp (cs.drop o.1)
  | _ => none
theorem qFld_pt (s : TypeId) (f k off : Nat) : qFld P s f (.pt k off) = (fldT P s f).map fun o => .pt k (off + o.1) := rfl
theorem qFld_rp (s : TypeId) (f : Nat) (cs : List AV) : qFld P s f (.rp cs) = (fldT P s f).map fun o => .rp (cs.drop o.1) := rfl
theorem fldT_run {s : TypeId} {f : Nat} {o : Nat × TypeId} (h : fldT P s f = some o) : ∃ fs fd n, P.underlying s = some (.struct fs) ∧ fs[f]? = some fd ∧ szT P fd.type = some (n + 1) ∧ o = (fd.offset, fd.type) := by
  unfold fldT at h
  split at h
  · next fs hu =>
    rw [Option.bind_eq_some_iff] at h
    obtain ⟨fd, hf, h⟩ := h
    split at h
    · next n hn => injection h with h; exact ⟨fs, fd, n, hu, hf, hn, h.symm⟩
    · cases h
  · cases h
theorem run_fieldAt' {w : World} {s : TypeId} {f : Nat} {o : Nat × TypeId} (h : fldT P s f = some o) (b off : Nat) : (Instr.fieldAt s (.pointer (some ⟨b, off, none⟩)) f).run P w = .ok (.pointer (some ⟨b, off + o.1, none⟩)) w := by
  obtain ⟨fs, fd, n, hu, hf, hn, rfl⟩ := fldT_run h
  simp [Instr.fieldAt, run_underlying hu, hf, Instr.sureAddr, fieldPlace, run_sizeOf' hn, Addr.add_mid]
theorem RepI.dropc {av : Nat → Prop} {cs : List AV} {u : Nat → Value} (hr : ∀ j a, cs[j]? = some a → RepI w av a (u j)) (o : Nat) : ∀ j a, (cs.drop o)[j]? = some a → RepI w av a (u (o + j)) := fun j a hj => by
  rw [List.getElem?_drop] at hj
  exact hr (o + j) a hj
theorem Rep.rp_drop {av : Nat → Prop} {cs : List AV} {b off : Nat} {u : Nat → Value} (hb : ¬ av b) (hl : b < w.heap.size) (hc : ∀ j, j < cs.length → w.cell? ⟨b, off + j, none⟩ = some (u j)) (hr : ∀ j a, cs[j]? = some a → RepI w av a (u j)) (o : Nat) :
    Rep w av ρ (.rp (cs.drop o)) (.pointer (some ⟨b, off + o, none⟩)) :=
  .rp (fun j => u (o + j)) hb hl (fun j hj => by rw [Nat.add_assoc]; exact hc (o + j) (by simp at hj; omega)) (RepI.dropc hr o)
theorem qFld_sound {av : Nat → Prop} {s : TypeId} {f : Nat} {p y : AV} {v : Value} (hx : Rep w av ρ p v) (hq : qFld P s f p = some y) : ∃ u, (∀ w', (Instr.fieldAt s v f).run P w' = .ok u w') ∧ Rep w av ρ y u := by
  cases p with
  | pt k off =>
    rw [qFld_pt, Option.map_eq_some_iff] at hq
    obtain ⟨o, ho, rfl⟩ := hq
    rw [hx.pt_inv]
    refine ⟨_, fun w' => run_fieldAt' ho _ _, ?_⟩
    rw [Nat.add_assoc]
    exact .pt
  | rp cs =>
    rw [qFld_rp, Option.map_eq_some_iff] at hq
    obtain ⟨o, ho, rfl⟩ := hq
    obtain ⟨b, off, u, rfl, hb, hl, hc, hr⟩ := hx.rp_inv
    exact ⟨_, fun w' => run_fieldAt' ho _ _, Rep.rp_drop hb hl hc hr _⟩
  | _ => simp [qFld] at hq

/-! ### A part of a struct -/
def qPart (P : Program) (s : TypeId) (f : Nat) : AV → Option AV
  | .ag cs => (fldT P s f).bind fun o => qCells P o.2 (cs.drop o.1)
  | _ => none
theorem qPart_ag (s : TypeId) (f : Nat) (cs : List AV) : qPart P s f (.ag cs) = (fldT P s f).bind fun o => qCells P o.2 (cs.drop o.1) := rfl
theorem qPart_sound {av : Nat → Prop} {s : TypeId} {f : Nat} {p y : AV} {v : Value} (hx : Rep w av ρ p v) (hq : qPart P s f p = some y) : ∃ u, (∀ w', (Instr.field s v f).run P w' = .ok u w') ∧ Rep w av ρ y u := by
  cases p with
  | ag cs =>
    rw [qPart_ag, Option.bind_eq_some_iff] at hq
    obtain ⟨o, ho, hq⟩ := hq
    obtain ⟨fs, fd, n, hu, hf, hn, rfl⟩ := fldT_run ho
    obtain ⟨us, rfl, hsz, hr⟩ := hx.ag_inv
    simp only at hq
    unfold qCells at hq
    cases hrow : rowT P fd.type with
    | none => simp [hrow] at hq
    | some r =>
      rw [hrow] at hq
      cases r with
      | false =>
        simp only [List.getElem?_drop, Nat.add_zero] at hq
        have hlt : fd.offset < us.size := by rw [hsz]; exact (List.getElem?_eq_some_iff.1 hq).1
        refine ⟨us[fd.offset], fun w' => ?_, hr _ _ _ hq (by simp [hlt])⟩
        simp [Instr.field, run_underlying hu, hf, asAgg, part, run_isAgg' hrow, hlt]
      | true =>
        simp only [hn] at hq
        split at hq
        · next hle =>
          injection hq with hq
          subst hq
          simp at hle
          refine ⟨.agg (us.extract fd.offset (fd.offset + (n + 1))), fun w' => ?_, .ag (by simp; omega) fun j a x hj hx => ?_⟩
          · simp [Instr.field, run_underlying hu, hf, asAgg, part, run_isAgg' hrow, run_sizeOf' hn]
          · rw [List.getElem?_take] at hj
            split at hj
            · rw [List.getElem?_drop] at hj
              rw [Array.getElem?_extract] at hx
              split at hx
              · exact hr _ _ _ hj hx
              · cases hx
            · cases hj
        · cases hq
  | _ => simp [qPart] at hq

/-! ### The address of an element -/
def qIdx (P : Program) (t : TypeId) (x : AV) (i : Int) : Option AV :=
  match x with
  | .rd n cs => (elT P t).bind fun e => if 0 ≤ i ∧ i < n then some (.rp (cs.drop (i.toNat * e.2.1))) else none
  | .os k off sz n => (elT P t).bind fun e => if sz = e.2.1 ∧ 0 ≤ i ∧ i < n then some (.pt k (off + i.toNat * sz)) else none
  | .pt k off => (arT P t).bind fun e => if 0 ≤ i ∧ i < e.1 then some (.pt k (off + i.toNat * e.2.2)) else none
  | .rp cs => (arT P t).bind fun e => if 0 ≤ i ∧ i < e.1 then some (.rp (cs.drop (i.toNat * e.2.2))) else none
  | _ => none
theorem qIdx_rd {t : TypeId} {e : TypeId × Nat × Nat} (h : elT P t = some e) {n : Nat} (cs : List AV) {i : Int} (h0 : 0 ≤ i) (h1 : i < n) : qIdx P t (.rd n cs) i = some (.rp (cs.drop (i.toNat * e.2.1))) := by simp [qIdx, h, h0, h1]
theorem qIdx_os {t : TypeId} {e : TypeId × Nat × Nat} (h : elT P t = some e) {k off sz n : Nat} {i : Int} (hs : sz = e.2.1) (h0 : 0 ≤ i) (h1 : i < n) : qIdx P t (.os k off sz n) i = some (.pt k (off + i.toNat * sz)) := by simp [qIdx, h, h0, h1, hs]
theorem qIdx_pt {t : TypeId} {e : Nat × TypeId × Nat} (h : arT P t = some e) {k off : Nat} {i : Int} (h0 : 0 ≤ i) (h1 : i < e.1) : qIdx P t (.pt k off) i = some (.pt k (off + i.toNat * e.2.2)) := by simp [qIdx, h, h0, h1]
theorem elT_run {t : TypeId} {e : TypeId × Nat × Nat} (h : elT P t = some e) : P.underlying t = some (.slice e.1) ∧ szT P e.1 = some e.2.1 ∧ 0 < e.2.1 ∧ SlTy P t e.1 e.2.1 e.2.2 := by
  unfold elT at h
  split at h
  · next e' hu =>
    rw [Option.bind_eq_some_iff] at h
    obtain ⟨i, hi, h⟩ := h
    split at h
    · next hp =>
      injection h with h
      subst h
      obtain ⟨z, hz, hzs⟩ := Option.map_eq_some_iff.1 hp.2
      exact ⟨hu, by simp [szT, hi], hp.1, ⟨⟨i, z, hu, hi, hz, rfl, rfl, hzs⟩, hp.1⟩⟩
    · cases h
  · cases h
theorem arT_run {t : TypeId} {e : Nat × TypeId × Nat} (h : arT P t = some e) : P.underlying t = some (.array e.1 e.2.1) ∧ szT P e.2.1 = some e.2.2 := by
  unfold arT at h
  split at h
  · next n e' hu =>
    rw [Option.map_eq_some_iff] at h
    obtain ⟨s, hs, rfl⟩ := h
    exact ⟨hu, hs⟩
  · cases h
theorem qIdx_sound {av : Nat → Prop} {t : TypeId} {x y : AV} {v : Value} {ik : IntKind} {i : Int} (hx : Rep w av ρ x v) (hq : qIdx P t x i = some y) : ∃ u, (∀ w', (Instr.indexAt t v (.int ik i)).run P w' = .ok u w') ∧ Rep w av ρ y u := by
  cases x with
  | rd n cs =>
    simp only [qIdx, Option.bind_eq_some_iff] at hq
    obtain ⟨e, he, hq⟩ := hq
    split at hq
    · next hi =>
      injection hq with hq
      subst hq
      obtain ⟨hu, hs, -⟩ := elT_run he
      obtain ⟨A, c, u, rfl, h1, h2, h0, hm, hr⟩ := hx.rd_inv
      obtain ⟨b, off, rfl, hb, hl, hc⟩ := hm (by omega)
      refine ⟨_, fun w' => ?_, Rep.rp_drop hb hl hc hr (i.toNat * e.2.1)⟩
      simp [Instr.indexAt, asIntOf, run_underlying hu, hi.1, hi.2, run_sizeOf' hs, Addr.add_mid]
    · cases hq
  | os k off sz n =>
    simp only [qIdx, Option.bind_eq_some_iff] at hq
    obtain ⟨e, he, hq⟩ := hq
    split at hq
    · next hi =>
      injection hq with hq
      subst hq
      obtain ⟨hu, hs, -⟩ := elT_run he
      obtain ⟨A, c, rfl, hsz, h1, h2, h⟩ := hx.os_inv
      obtain ⟨rfl, hcap⟩ := h (by omega)
      refine ⟨.pointer (some ⟨(ρ k).g, (ρ k).off + (off + i.toNat * sz), none⟩), fun w' => ?_, .pt⟩
      rw [hi.1]
      simp [Instr.indexAt, asIntOf, run_underlying hu, hi.2.1, hi.2.2, run_sizeOf' hs, Addr.add_mid, Nat.add_assoc]
    · cases hq
  | pt k off =>
    simp only [qIdx, Option.bind_eq_some_iff] at hq
    obtain ⟨e, he, hq⟩ := hq
    split at hq
    · next hi =>
      injection hq with hq
      subst hq
      obtain ⟨hu, hs⟩ := arT_run he
      rw [hx.pt_inv]
      refine ⟨.pointer (some ⟨(ρ k).g, (ρ k).off + (off + i.toNat * e.2.2), none⟩), fun w' => ?_, .pt⟩
      simp [Instr.indexAt, Instr.sureAddr, asIntOf, run_underlying hu, hi.1, hi.2, run_sizeOf' hs, Addr.add_mid, Nat.add_assoc]
    · cases hq
  | rp cs =>
    simp only [qIdx, Option.bind_eq_some_iff] at hq
    obtain ⟨e, he, hq⟩ := hq
    split at hq
    · next hi =>
      injection hq with hq
      subst hq
      obtain ⟨hu, hs⟩ := arT_run he
      obtain ⟨b, off, u, rfl, hb, hl, hc, hr⟩ := hx.rp_inv
      refine ⟨_, fun w' => ?_, Rep.rp_drop hb hl hc hr (i.toNat * e.2.2)⟩
      simp [Instr.indexAt, Instr.sureAddr, asIntOf, run_underlying hu, hi.1, hi.2, run_sizeOf' hs, Addr.add_mid]
    · cases hq
  | _ => simp [qIdx] at hq

/-! ### Slices of slices -/
def ib (x : Option AV) (d : Int) : Option Int :=
  match x with
  | none => some d
  | some (.v (.int _ n)) => some n
  | _ => none
theorem ib_none (d : Int) : ib none d = some d := rfl
theorem ib_some (k : IntKind) (n d : Int) : ib (some (.v (.int k n))) d = some n := rfl
/-- x[l:h], x[l:h:m]: the bounds are within the length. -/
def qSl (P : Program) (t : TypeId) (x : AV) (l h m : Int) : Option AV :=
  match x with
  | .rd n cs => (elT P t).bind fun e => if 0 ≤ l ∧ l ≤ h ∧ h ≤ m ∧ m ≤ n then some (.rd (h.toNat - l.toNat) ((cs.drop (l.toNat * e.2.1)).take ((h.toNat - l.toNat) * e.2.1))) else none
  | .os k off sz n => (elT P t).bind fun e => if sz = e.2.1 ∧ 0 ≤ l ∧ l ≤ h ∧ h ≤ m ∧ m ≤ n then some (.os k (off + l.toNat * sz) sz (h.toNat - l.toNat)) else none
  | _ => none
def lenA : AV → Option Nat
  | .rd n _ => some n
  | .os _ _ _ n => some n
  | .v (.slice none 0 0) => some 0
  | _ => none
def qSlice (P : Program) (t : TypeId) (x : AV) (lo hi mx : Option AV) : Option AV :=
  (lenA x).bind fun n => (ib lo 0).bind fun l => (ib hi n).bind fun h => (ib mx n).bind fun m => if mx.isSome ∧ hi.isNone then none else qSl P t x l h m
theorem run_bounds {w : World} {len cap : Nat} {lo hi mx : Option Value} {l h m : Int} (hl : lo = none ∧ l = 0 ∨ ∃ k, lo = some (.int k l)) (hh : hi = none ∧ h = len ∧ mx = none ∨ ∃ k, hi = some (.int k h)) (hm : mx = none ∧ m = cap ∨ ∃ k, mx = some (.int k m))
    (h0 : 0 ≤ l) (h1 : l ≤ h) (h2 : h ≤ m) (h3 : m ≤ cap) : (Instr.sliceBounds true len cap lo hi mx).run P w = .ok (l.toNat, h.toNat, m.toNat) w := by
  have em : (m.toNat : Int) = m := Int.toNat_of_nonneg (by omega)
  have eh : (h.toNat : Int) = h := Int.toNat_of_nonneg (by omega)
  have p1 : 0 ≤ h := by omega
  have p2 : 0 ≤ m := by omega
  rcases hm with ⟨rfl, rfl⟩ | ⟨km, rfl⟩ <;> rcases hh with ⟨rfl, rfl, hh⟩ | ⟨kh, rfl⟩ <;> rcases hl with ⟨rfl, rfl⟩ | ⟨kl, rfl⟩ <;> first
    | (cases hh; done)
    | simp [Instr.sliceBounds, run_sliceBound, *]
theorem ib_spec {av : Nat → Prop} {x : Option AV} {v : Option Value} {d n : Int} (h : ib x d = some n) (hn : x = none → v = none) (hs : ∀ y, x = some y → ∃ u, v = some u ∧ Rep w av ρ y u) : (v = none ∧ x = none ∧ n = d) ∨ ∃ k, v = some (.int k n) ∧ x.isSome := by
  cases x with
  | none => simp only [ib, Option.some.injEq] at h; exact .inl ⟨hn rfl, rfl, h.symm⟩
  | some y =>
    obtain ⟨u, rfl, hr⟩ := hs y rfl
    cases y with
    | v z =>
      cases z with
      | int k m =>
        simp only [ib, Option.some.injEq] at h
        subst h
        rw [hr.v_eq]
        exact .inr ⟨k, rfl, rfl⟩
      | _ => simp [ib] at h
    | _ => simp [ib] at h
theorem qSlice_sound {av : Nat → Prop} {t : TypeId} {x y : AV} {v : Value} {lo hi mx : Option AV} {vl vh vm : Option Value} (hx : Rep w av ρ x v) (hq : qSlice P t x lo hi mx = some y)
    (l1 : lo = none → vl = none) (l2 : ∀ y, lo = some y → ∃ u, vl = some u ∧ Rep w av ρ y u) (h1 : hi = none → vh = none) (h2 : ∀ y, hi = some y → ∃ u, vh = some u ∧ Rep w av ρ y u)
    (m1 : mx = none → vm = none) (m2 : ∀ y, mx = some y → ∃ u, vm = some u ∧ Rep w av ρ y u) : ∃ u, (∀ w', (Instr.sliceAt t v vl vh vm).run P w' = .ok u w') ∧ Rep w av ρ y u := by
  simp only [qSlice, Option.bind_eq_some_iff] at hq
  obtain ⟨n, hn, l, hl, h, hh, m, hm, hq⟩ := hq
  split at hq
  · cases hq
  · next hmx =>
    have hl' := ib_spec (w := w) (av := av) (ρ := ρ) hl l1 l2
    have hh' := ib_spec (w := w) (av := av) (ρ := ρ) hh h1 h2
    have hm' := ib_spec (w := w) (av := av) (ρ := ρ) hm m1 m2
    have ho : ∀ c : Nat, (vm = none → m ≤ (n : Int)) → True := fun _ _ => trivial
    cases x with
    | rd n' cs =>
      simp only [lenA, Option.some.injEq] at hn
      subst hn
      simp only [qSl, Option.bind_eq_some_iff] at hq
      obtain ⟨e, he, hq⟩ := hq
      split at hq
      · next hc =>
        injection hq with hq
        subst hq
        obtain ⟨hu, hs, hsp, -⟩ := elT_run he
        obtain ⟨A, c, u, rfl, g1, g2, g0, gm, gr⟩ := hx.rd_inv
        have key : ∀ M : Int, (vm = none ∧ M = c ∨ ∃ k, vm = some (.int k M)) → h ≤ M → M ≤ c → ∀ w' : World, (Instr.sliceAt t (.slice A n' c) vl vh vm).run P w' = .ok (.slice (if M.toNat = l.toNat then A else A.map (·.add (l.toNat * e.2.1))) (h.toNat - l.toNat) (M.toNat - l.toNat)) w' := fun M hM q1 q2 w' => by
          have hb := run_bounds (P := P) (w := w') (len := n') (cap := c) (lo := vl) (hi := vh) (mx := vm) (l := l) (h := h) (m := M)
            (hl'.imp (fun r => ⟨r.1, r.2.2⟩) (fun ⟨k, r, _⟩ => ⟨k, r⟩))
            (by
              rcases hh' with ⟨r1, r2, r3⟩ | ⟨k, r1, r2⟩
              · refine .inl ⟨r1, r3, ?_⟩
                cases mx with
                | none => exact m1 rfl
                | some _ => exact absurd ⟨rfl, by simp [r2]⟩ hmx
              · exact .inr ⟨k, r1⟩) hM hc.1 hc.2.1 q1 q2
          simp [Instr.sliceAt, Instr.slice, run_underlying hu, hb, run_sizeOf' hs]
        have fin : ∀ M : Nat, h.toNat ≤ M → M ≤ c → RepI w av (.rd (h.toNat - l.toNat) ((cs.drop (l.toNat * e.2.1)).take ((h.toNat - l.toNat) * e.2.1))) (.slice (if M = l.toNat then A else A.map (·.add (l.toNat * e.2.1))) (h.toNat - l.toNat) (M - l.toNat)) := fun M q1 q2 => by
          clear hl' hh' hm' key
          refine .rd (fun j => u (l.toNat * e.2.1 + j)) (by omega) (by omega) (fun h0 => by rw [h0]; simp) (fun hp => ?_) (fun j a hj => ?_)
          · have hn0 : 0 < n' := by omega
            obtain ⟨b, off, rfl, hb, hlt, hcell⟩ := gm hn0
            clear gm
            have hne : ¬ M = l.toNat := by omega
            rw [if_neg hne]
            refine ⟨b, off + l.toNat * e.2.1, by simp [Addr.add_mid], hb, hlt, fun j hj => ?_⟩
            rw [Nat.add_assoc]
            exact hcell _ (by simp at hj; omega)
          · rw [List.getElem?_take] at hj
            split at hj
            · rw [List.getElem?_drop] at hj; exact gr _ a hj
            · cases hj
        rcases hm' with ⟨r1, r2, r3⟩ | ⟨k, r1, r2⟩
        · exact ⟨_, key c (.inl ⟨r1, rfl⟩) (by omega) (by omega), .im (by have := fin c (by omega) (by omega); simpa using this)⟩
        · exact ⟨_, key m (.inr ⟨k, r1⟩) (by omega) (by omega), .im (fin m.toNat (by omega) (by omega))⟩
      · cases hq
    | os k off sz n' =>
      simp only [lenA, Option.some.injEq] at hn
      subst hn
      simp only [qSl, Option.bind_eq_some_iff] at hq
      obtain ⟨e, he, hq⟩ := hq
      split at hq
      · next hc =>
        injection hq with hq
        subst hq
        obtain ⟨hu, hs, hsp, -⟩ := elT_run he
        obtain ⟨A, c, rfl, gs, g1, g2, gm⟩ := hx.os_inv
        obtain ⟨hsz, hc⟩ := hc
        have key : ∀ M : Int, (vm = none ∧ M = c ∨ ∃ k, vm = some (.int k M)) → h ≤ M → M ≤ c → ∀ w' : World, (Instr.sliceAt t (.slice A n' c) vl vh vm).run P w' = .ok (.slice (if M.toNat = l.toNat then A else A.map (·.add (l.toNat * e.2.1))) (h.toNat - l.toNat) (M.toNat - l.toNat)) w' := fun M hM q1 q2 w' => by
          have hb := run_bounds (P := P) (w := w') (len := n') (cap := c) (lo := vl) (hi := vh) (mx := vm) (l := l) (h := h) (m := M)
            (hl'.imp (fun r => ⟨r.1, r.2.2⟩) (fun ⟨k, r, _⟩ => ⟨k, r⟩))
            (by
              rcases hh' with ⟨r1, r2, r3⟩ | ⟨k, r1, r2⟩
              · refine .inl ⟨r1, r3, ?_⟩
                cases mx with
                | none => exact m1 rfl
                | some _ => exact absurd ⟨rfl, by simp [r2]⟩ hmx
              · exact .inr ⟨k, r1⟩) hM hc.1 hc.2.1 q1 q2
          simp [Instr.sliceAt, Instr.slice, run_underlying hu, hb, run_sizeOf' hs]
        have fin : ∀ M : Nat, h.toNat ≤ M → M ≤ c → Rep w av ρ (.os k (off + l.toNat * sz) sz (h.toNat - l.toNat)) (.slice (if M = l.toNat then A else A.map (·.add (l.toNat * e.2.1))) (h.toNat - l.toNat) (M - l.toNat)) := fun M q1 q2 => by
          clear hl' hh' hm' key
          refine .os gs (by omega) (by omega) (fun hp => ?_)
          obtain ⟨rfl, hcap⟩ := gm (by omega)
          rw [if_neg (by omega)]
          refine ⟨by simp [Addr.add_mid, hsz, Nat.add_assoc], ?_⟩
          have : (l.toNat + (M - l.toNat)) * sz ≤ c * sz := Nat.mul_le_mul_right _ (by omega)
          rw [Nat.add_mul] at this
          omega
        rcases hm' with ⟨r1, r2, r3⟩ | ⟨k, r1, r2⟩
        · exact ⟨_, key c (.inl ⟨r1, rfl⟩) (by omega) (by omega), by have := fin c (by omega) (by omega); simpa using this⟩
        · exact ⟨_, key m (.inr ⟨k, r1⟩) (by omega) (by omega), fin m.toNat (by omega) (by omega)⟩
      · cases hq
    | _ => simp [qSl] at hq
end
end Go.Proofs.Ytcplbbbjmalfjaa
