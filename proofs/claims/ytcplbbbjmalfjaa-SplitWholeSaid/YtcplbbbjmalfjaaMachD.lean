/- The abstract machine, part 4: structs built, bytes made strings; all quiet operations. No program is named here. -/
import Derived.Test.YtcplbbbjmalfjaaMachC
namespace Go.Proofs.Ytcplbbbjmalfjaa
open Go.RowKit
set_option linter.unusedVariables false
set_option linter.unusedSimpArgs false

/-! ### The cells of a value -/
def cellsA : AV → Option (List AV)
  | .ag cs => some cs
  | .v (.agg _) => none
  | .v x => some [.v x]
  | .rd n cs => some [.rd n cs]
  | .os k o s n => some [.os k o s n]
  | .pt k o => some [.pt k o]
  | .rp cs => some [.rp cs]
  | .sp k => some [.sp k]
  | _ => none
def okC : AV → Bool
  | .v x => x.oneCell'
  | .rd .. => true
  | .os .. => true
  | .pt .. => true
  | .rp .. => true
  | .sp .. => true
  | _ => false
theorem cellsA_ag (cs : List AV) : cellsA (.ag cs) = some cs := rfl
theorem cellsA_int (k : IntKind) (n : Int) : cellsA (.v (.int k n)) = some [.v (.int k n)] := rfl
theorem cellsA_bool (b : Bool) : cellsA (.v (.bool b)) = some [.v (.bool b)] := rfl
theorem cellsA_string (b : ByteArray) : cellsA (.v (.string b)) = some [.v (.string b)] := rfl
theorem cellsA_slice (a : Option Addr) (n c : Nat) : cellsA (.v (.slice a n c)) = some [.v (.slice a n c)] := rfl
theorem cellsA_rd (n : Nat) (cs : List AV) : cellsA (.rd n cs) = some [.rd n cs] := rfl
theorem cellsA_os (k o s n : Nat) : cellsA (.os k o s n) = some [.os k o s n] := rfl
theorem cellsA_pt (k o : Nat) : cellsA (.pt k o) = some [.pt k o] := rfl
theorem cellsA_rp (cs : List AV) : cellsA (.rp cs) = some [.rp cs] := rfl
theorem cellsA_sp (k : Nat) : cellsA (.sp k) = some [.sp k] := rfl

def RepC (w : World) (av : Nat → Prop) (ρ : Nat → Loc) (cs : List AV) (us : Array Value) : Prop := us.size = cs.length ∧ ∀ (j : Nat) (a : AV) (x : Value), cs[j]? = some a → us[j]? = some x → Rep w av ρ a x
section
variable {P : Program} {w : World} {av : Nat → Prop} {ρ : Nat → Loc}
theorem RepC.one {a : AV} {x : Value} (h : Rep w av ρ a x) : RepC w av ρ [a] #[x] := ⟨rfl, fun j b y hj hy => by
  rcases j with _ | j
  · simp at hj hy; subst hj; subst hy; exact h
  · simp at hj⟩
theorem cellsA_sound {a : AV} {cs : List AV} {v : Value} (h : Rep w av ρ a v) (hc : cellsA a = some cs) : RepC w av ρ cs v.cells := by
  cases a with
  | ag cs' =>
    simp only [cellsA, Option.some.injEq] at hc
    subst hc
    obtain ⟨us, rfl, hn, hr⟩ := h.ag_inv
    exact ⟨hn, hr⟩
  | v x =>
    have := h.v_eq
    subst this
    cases v <;> simp only [cellsA, Option.some.injEq] at hc <;> first
      | (subst hc; exact RepC.one h)
      | (cases hc)
  | rd n cs' =>
    simp only [cellsA, Option.some.injEq] at hc
    subst hc
    obtain ⟨A, c, u, rfl, _⟩ := h.rd_inv
    exact RepC.one h
  | os k o s n =>
    simp only [cellsA, Option.some.injEq] at hc
    subst hc
    obtain ⟨A, c, rfl, _⟩ := h.os_inv
    exact RepC.one h
  | pt k o =>
    simp only [cellsA, Option.some.injEq] at hc
    subst hc
    have := h.pt_inv
    subst this
    exact RepC.one h
  | rp cs' =>
    simp only [cellsA, Option.some.injEq] at hc
    subst hc
    obtain ⟨b, off, u, rfl, _⟩ := h.rp_inv
    exact RepC.one h
  | sp k =>
    simp only [cellsA, Option.some.injEq] at hc
    subst hc
    rcases h.sp_inv with rfl | rfl <;> exact RepC.one h
  | _ => simp [cellsA] at hc
theorem okC_sound {a : AV} {v : Value} (h : Rep w av ρ a v) (hc : okC a = true) : v.oneCell' = true := by
  cases a with
  | v x => rw [h.v_eq]; exact hc
  | rd n cs' => obtain ⟨A, c, u, rfl, _⟩ := h.rd_inv; rfl
  | os k o s n => obtain ⟨A, c, rfl, _⟩ := h.os_inv; rfl
  | pt k o => rw [h.pt_inv]; rfl
  | rp cs' => obtain ⟨b, off, u, rfl, _⟩ := h.rp_inv; rfl
  | sp k => rcases h.sp_inv with rfl | rfl <;> rfl
  | _ => simp [okC] at hc

/-! ### Cells are set -/
def setR {α : Type} : List α → Nat → List α → List α
  | cs, _, [] => cs
  | cs, o, x :: r => setR (cs.set o x) (o + 1) r
theorem setR_nil {α : Type} (cs : List α) (o : Nat) : setR cs o [] = cs := rfl
theorem setR_cons {α : Type} (cs : List α) (o : Nat) (x : α) (r : List α) : setR cs o (x :: r) = setR (cs.set o x) (o + 1) r := rfl
theorem setR_length {α : Type} : ∀ (r cs : List α) (o : Nat), (setR cs o r).length = cs.length
  | [], _, _ => rfl
  | x :: r, cs, o => by rw [setR_cons, setR_length r]; simp
theorem setR_get {α : Type} : ∀ (r cs : List α) (o j : Nat), o + r.length ≤ cs.length → (setR cs o r)[j]? = if o ≤ j ∧ j < o + r.length then r[j - o]? else cs[j]?
  | [], cs, o, j, _ => by rw [setR_nil, if_neg (by simp only [List.length_nil]; omega)]
  | x :: r, cs, o, j, h => by
    simp at h
    rw [setR_cons, setR_get r _ _ _ (by simp; omega)]
    by_cases h1 : o + 1 ≤ j ∧ j < o + 1 + r.length
    · rw [if_pos h1, if_pos (by simp; omega)]
      rw [show j - o = (j - (o + 1)) + 1 from by omega]
      simp
    · rw [if_neg h1]
      by_cases h2 : j = o
      · subst h2
        rw [if_pos (by simp), List.getElem?_set_self (by omega)]
        simp
      · rw [List.getElem?_set_ne (fun e => h2 e.symm), if_neg (by simp; omega)]
/-- The same on values. -/
theorem fold_set (off : Nat) : ∀ (l : List Value) (k : Nat) (us : Array Value), ((l.zipIdx k).foldl (fun cs (p : Value × Nat) => cs.setIfInBounds (off + p.2) p.1) us).toList = setR us.toList (off + k) l
  | [], _, us => rfl
  | x :: l, k, us => by
    rw [List.zipIdx_cons, List.foldl_cons, fold_set off l (k + 1), setR_cons, Array.toList_setIfInBounds]
    rfl
theorem RepC.set {cs xs : List AV} {us : Array Value} {v : Value} {off : Nat} (h : RepC w av ρ cs us) (hx : RepC w av ρ xs v.cells) (hl : off + xs.length ≤ cs.length) :
    RepC w av ρ (setR cs off xs) (v.cells.zipIdx.foldl (fun cs (p : Value × Nat) => cs.setIfInBounds (off + p.2) p.1) us) := by
  have e : (v.cells.zipIdx.foldl (fun cs (p : Value × Nat) => cs.setIfInBounds (off + p.2) p.1) us).toList = setR us.toList off v.cells.toList := by
    rw [← Array.foldl_toList, Array.toList_zipIdx, fold_set]
    rfl
  have hsz : v.cells.toList.length = xs.length := by rw [Array.length_toList]; exact hx.1
  refine ⟨?_, fun j a x hj hx' => ?_⟩
  · rw [← Array.length_toList, e, setR_length, setR_length, Array.length_toList]; exact h.1
  · rw [← Array.getElem?_toList, e, setR_get _ _ _ _ (by have := h.1; rw [hsz]; simp only [Array.length_toList]; omega), hsz] at hx'
    rw [setR_get _ _ _ _ hl] at hj
    split at hj
    · next hc => rw [if_pos hc, Array.getElem?_toList] at hx'; exact hx.2 _ _ _ hj hx'
    · next hc => rw [if_neg hc, Array.getElem?_toList] at hx'; exact h.2 _ _ _ hj hx'

/-! ### Structs built -/
def bldT (P : Program) (t : TypeId) : Option (List Value × List (Nat × Nat)) :=
  match P.info? t, P.underlying t with
  | some it, some (.struct fields) =>
    match it.zero, fields.toList.mapM (fun f => (P.info? f.type).map fun i => (f.offset, i.size)) with
    | some z, some places => some (z.cells.toList, places)
    | _, _ => none
  | _, _ => none
def aFill (pl : List (Nat × Nat)) (cells : List AV) : List (Nat × Option AV) → Option (List AV)
  | [] => some cells
  | (i, x) :: r => match pl[i]?, x.bind cellsA with
    | some (off, sz), some xs => if xs.length = sz ∧ off + sz ≤ cells.length then aFill pl (setR cells off xs) r else none
    | _, _ => none
theorem aFill_nil (pl : List (Nat × Nat)) (cells : List AV) : aFill pl cells [] = some cells := rfl
theorem aFill_cons {pl : List (Nat × Nat)} {cells : List AV} {i : Nat} {x : Option AV} {r : List (Nat × Option AV)} {p : Nat × Nat} {xs : List AV} (h1 : pl[i]? = some p) (h2 : x.bind cellsA = some xs) (h3 : xs.length = p.2) (h4 : p.1 + p.2 ≤ cells.length) :
    aFill pl cells ((i, x) :: r) = aFill pl (setR cells p.1 xs) r := by simp [aFill, h1, h2, h3, h4]
theorem aFill_len (pl : List (Nat × Nat)) : ∀ {cells out : List AV} (parts : List (Nat × Option AV)), aFill pl cells parts = some out → out.length = cells.length
  | cells, out, [], h => by simp only [aFill, Option.some.injEq] at h; rw [h]
  | cells, out, (i, x) :: r, h => by
    simp only [aFill] at h
    split at h
    · split at h
      · rw [aFill_len pl r h, setR_length]
      · cases h
    · cases h
def qBuild (P : Program) (t : TypeId) (parts : List (Nat × Option AV)) : Option AV := (bldT P t).bind fun b => (aFill b.2 (b.1.map .v) parts).map .ag
theorem aFill_sound (pl : List (Nat × Nat)) (place : Nat → Option (Nat × Nat)) (hpl : ∀ (i : Nat) (p : Nat × Nat), pl[i]? = some p → place i = some p) : ∀ (parts : List (Nat × Option AV)) (vals : List (Nat × Value)) (cells out : List AV) (us : Array Value), aFill pl cells parts = some out → RepC w av ρ cells us →
    parts.length = vals.length → (∀ (j : Nat) (p : Nat × Option AV) (q : Nat × Value), parts[j]? = some p → vals[j]? = some q → p.1 = q.1 ∧ ∀ x, p.2 = some x → Rep w av ρ x q.2) →
    ∃ us', Instr.fill place us vals = some us' ∧ RepC w av ρ out us'
  | [], vals, cells, out, us, h, hr, hl, _ => by
    have : vals = [] := List.eq_nil_of_length_eq_zero (by simpa using hl.symm)
    subst this
    simp only [aFill, Option.some.injEq] at h
    subst h
    exact ⟨us, rfl, hr⟩
  | (i, x) :: r, vals, cells, out, us, h, hr, hl, hv => by
    cases vals with
    | nil => simp at hl
    | cons q vals =>
      obtain ⟨i', v⟩ := q
      obtain ⟨h1, h2⟩ := hv 0 (i, x) (i', v) rfl rfl
      simp only at h1 h2
      subst h1
      simp only [aFill] at h
      split at h
      · next off sz xs hp hx =>
        rw [Option.bind_eq_some_iff] at hx
        obtain ⟨y, rfl, hy⟩ := hx
        split at h
        · next hc =>
          have hcs := cellsA_sound (h2 y rfl) hy
          have hle : off + xs.length ≤ cells.length := by rw [hc.1]; exact hc.2
          obtain ⟨us', hf, hr'⟩ := aFill_sound pl place hpl r vals _ out _ h (RepC.set hr hcs hle) (by simpa using hl) (fun j p q hp hq => hv (j + 1) p q hp hq)
          refine ⟨us', ?_, hr'⟩
          simp only [Instr.fill]
          rw [hpl i (off, sz) hp]
          simp only
          rw [if_neg (by
            have := hcs.1; have := hr.1
            simp; omega)]
          exact hf
        · cases h
      · cases h
theorem qBuild_sound {t : TypeId} {parts : Array (Nat × Operand)} {g : Operand → Option AV} {ev : Operand → Value} {y : AV} (h : qBuild P t (parts.toList.map fun p => (p.1, g p.2)) = some y) (hg : ∀ x a, g x = some a → Rep w av ρ a (ev x)) :
    ∃ v, (∀ w', (Instr.build t (parts.map fun (i, x) => (i, ev x))).run P w' = .ok v w') ∧ Rep w av ρ y v := by
  simp only [qBuild, Option.bind_eq_some_iff, Option.map_eq_some_iff] at h
  obtain ⟨b, hb, cells, hf, rfl⟩ := h
  unfold bldT at hb
  split at hb
  · next it fields hi hu =>
    split at hb
    · next z places hz hp =>
      injection hb with hb
      subst hb
      have h0 : RepC w av ρ (z.cells.toList.map .v) z.cells := ⟨by simp, fun j a x hj hx => by
        simp at hj
        obtain ⟨y, hy, rfl⟩ := hj
        rw [hy] at hx
        injection hx with hx
        subst hx
        exact .im (.v _)⟩
      obtain ⟨us', hf', hr⟩ := aFill_sound (w := w) (av := av) (ρ := ρ) places (places.toArray[·]?) (fun i p h => by simpa using h) _ (parts.toList.map fun p => (p.1, ev p.2)) _ cells z.cells hf h0 (by simp) (fun j p q hp hq => by
        simp at hp hq
        obtain ⟨i1, o1, h1, rfl⟩ := hp
        obtain ⟨i2, o2, h2, rfl⟩ := hq
        rw [h1] at h2
        injection h2 with h2
        injection h2 with e1 e2
        subst e1; subst e2
        exact ⟨rfl, fun x hx => hg _ _ hx⟩)
      refine ⟨.agg us', fun w' => run_build w' t _ us' ?_, .ag hr.1 hr.2⟩
      simp only [Program.built, hi, hu, hz, hp]
      simpa using hf'
    · cases hb
  · cases hb

/-! ### Bytes made a string -/
def unB : List AV → Option (List UInt8)
  | [] => some []
  | .v (.int .u8 n) :: r => if 0 ≤ n ∧ n < 256 then (unB r).map (UInt8.ofNat n.toNat :: ·) else none
  | _ => none
def bytesA (l : List UInt8) : List AV := l.map fun b => .v (.int .u8 b.toNat)
theorem unB_bytesA (l : List UInt8) : unB (bytesA l) = some l := by
  induction l with
  | nil => rfl
  | cons x l ih =>
    have hx : (x.toNat : Int) < 256 := by have := x.toNat_lt; omega
    show unB (.v (.int .u8 x.toNat) :: bytesA l) = _
    simp [unB, ih, hx]
theorem unB_spec : ∀ {cs : List AV} {l : List UInt8}, unB cs = some l → cs = bytesA l
  | [], l, h => by simp only [unB, Option.some.injEq] at h; subst h; rfl
  | .v (.int .u8 n) :: r, l, h => by
    simp only [unB] at h
    split at h
    · next hc =>
      rw [Option.map_eq_some_iff] at h
      obtain ⟨l', h', rfl⟩ := h
      rw [unB_spec h']
      show _ = AV.v (.int .u8 _) :: bytesA l'
      congr 3
      rw [UInt8.toNat_ofNat']
      omega
    · cases h
  | .v (.int .i8 n) :: _, _, h => by simp [unB] at h
  | .v (.int .i16 n) :: _, _, h => by simp [unB] at h
  | .v (.int .i32 n) :: _, _, h => by simp [unB] at h
  | .v (.int .i64 n) :: _, _, h => by simp [unB] at h
  | .v (.int .u16 n) :: _, _, h => by simp [unB] at h
  | .v (.int .u32 n) :: _, _, h => by simp [unB] at h
  | .v (.int .u64 n) :: _, _, h => by simp [unB] at h
  | .v (.bool _) :: _, _, h => by simp [unB] at h
  | .v (.float ..) :: _, _, h => by simp [unB] at h
  | .v (.complex ..) :: _, _, h => by simp [unB] at h
  | .v (.string _) :: _, _, h => by simp [unB] at h
  | .v (.pointer _) :: _, _, h => by simp [unB] at h
  | .v (.slice ..) :: _, _, h => by simp [unB] at h
  | .v (.map _) :: _, _, h => by simp [unB] at h
  | .v (.chan _) :: _, _, h => by simp [unB] at h
  | .v (.func ..) :: _, _, h => by simp [unB] at h
  | .v .nilFunc :: _, _, h => by simp [unB] at h
  | .v (.iface ..) :: _, _, h => by simp [unB] at h
  | .v .nilIface :: _, _, h => by simp [unB] at h
  | .v (.agg _) :: _, _, h => by simp [unB] at h
  | .v (.tuple _) :: _, _, h => by simp [unB] at h
  | .un :: _, _, h => by simp [unB] at h
  | .rd .. :: _, _, h => by simp [unB] at h
  | .os .. :: _, _, h => by simp [unB] at h
  | .pt .. :: _, _, h => by simp [unB] at h
  | .rp .. :: _, _, h => by simp [unB] at h
  | .fn .. :: _, _, h => by simp [unB] at h
  | .sp .. :: _, _, h => by simp [unB] at h
  | .ag .. :: _, _, h => by simp [unB] at h
  | .tp .. :: _, _, h => by simp [unB] at h
/-- The cells of a slice that is read: what callees and conversions see. -/
def sliceC (hp : Hp) : AV → Option (Nat × List AV)
  | .rd n cs => some (n, cs)
  | .os k off sz n => (look hp k).bind fun cs => if off + n * sz ≤ cs.length then some (n, (cs.drop off).take (n * sz)) else none
  | .v (.slice none 0 0) => some (0, [])
  | _ => none
theorem sliceC_rd (hp : Hp) (n : Nat) (cs : List AV) : sliceC hp (.rd n cs) = some (n, cs) := rfl
theorem sliceC_nil (hp : Hp) : sliceC hp (.v (.slice none 0 0)) = some (0, []) := rfl
theorem sliceC_os {hp : Hp} {k off sz n : Nat} {cs : List AV} (h : look hp k = some cs) (hl : off + n * sz ≤ cs.length) : sliceC hp (.os k off sz n) = some (n, (cs.drop off).take (n * sz)) := by simp [sliceC, h, hl]
/-- What is read: n elements; if there are any, the cells lie at an address. -/
theorem sliceC_sound {hp : Hp} (hobj : ∀ k cs, look hp k = some cs → ObjR w av ρ (ρ k) cs) {x : AV} {v : Value} {n : Nat} {cs : List AV} (hx : Rep w av ρ x v) (h : sliceC hp x = some (n, cs)) :
    ∃ (A : Option Addr) (c : Nat), v = .slice A n c ∧ n ≤ c ∧ c ≤ 9223372036854775807 ∧ (n = 0 → cs = []) ∧ (0 < n → ∃ b off, A = some ⟨b, off, none⟩ ∧ b < w.heap.size ∧ ∀ (j : Nat) (a : AV), cs[j]? = some a → ∃ y, w.cell? ⟨b, off + j, none⟩ = some y ∧ Rep w av ρ a y) := by
  cases x with
  | rd n' cs' =>
    simp only [sliceC, Option.some.injEq, Prod.mk.injEq] at h
    obtain ⟨rfl, rfl⟩ := h
    obtain ⟨A, c, u, rfl, h1, h2, h0, hm, hr⟩ := hx.rd_inv
    refine ⟨A, c, rfl, h1, h2, h0, fun hn => ?_⟩
    obtain ⟨b, off, rfl, hb, hl, hc⟩ := hm hn
    exact ⟨b, off, rfl, hl, fun j a hj => ⟨u j, hc j (List.getElem?_eq_some_iff.1 hj).1, .im (hr j a hj)⟩⟩
  | os k off sz n' =>
    simp only [sliceC, Option.bind_eq_some_iff] at h
    obtain ⟨cs', hk, h⟩ := h
    split at h
    · next hle =>
      injection h with h
      injection h with e1 e2
      subst e1; subst e2
      obtain ⟨A, c, rfl, hs, h1, h2, hm⟩ := hx.os_inv
      refine ⟨A, c, rfl, h1, h2, fun h0 => by rw [h0]; simp, fun hn => ?_⟩
      obtain ⟨rfl, hcap⟩ := hm (by omega)
      have ho := hobj k cs' hk
      have hpos : 0 < (ρ k).cap := by
        have : 0 < c * sz := Nat.mul_pos (by omega) hs
        omega
      refine ⟨_, _, rfl, (ho.mem hpos).1, fun j a hj => ?_⟩
      rw [List.getElem?_take] at hj
      split at hj
      · rw [List.getElem?_drop] at hj
        rw [Nat.add_assoc]
        exact ho.cells _ a hj
      · cases hj
    · cases h
  | v x =>
    have e := hx.v_eq
    subst e
    unfold sliceC at h
    split at h <;> first
      | (next heq => cases heq; done)
      | (next heq => injection heq with heq; subst heq; injection h with h; injection h with e1 e2; subst e1; subst e2; exact ⟨none, 0, rfl, Nat.le_refl _, by omega, fun _ => rfl, fun h => absurd h (by omega)⟩)
      | (cases h)
  | _ => simp [sliceC] at h
def cnv (P : Program) (s d : TypeId) (a : Value) : Option Value := pr P (convert s d a)
/-- A type of byte slices, and string. -/
def bsT (P : Program) (s d : TypeId) : Bool := match P.underlying s, P.underlying d with
  | some (.slice e), some .string => match P.underlying e with
    | some (.int .u8) => true
    | _ => false
  | _, _ => false
def qConv (P : Program) (hp : Hp) (s d : TypeId) : AV → Option AV
  | .v (.slice a n c) => if bsT P s d = true then (sliceC hp (.v (.slice a n c))).bind fun q => (unB q.2).bind fun l => if l.length = q.1 then some (.v (.string (str l))) else none else none
  | .v a => (cnv P s d a).map cst
  | x => if bsT P s d = true then (sliceC hp x).bind fun q => (unB q.2).bind fun l => if l.length = q.1 then some (.v (.string (str l))) else none else none
theorem bytes_run {hp : Hp} (hobj : ∀ k cs, look hp k = some cs → ObjR w av ρ (ρ k) cs) {s d : TypeId} {x y : AV} {v : Value} (hx : Rep w av ρ x v) (hT : bsT P s d = true)
    (hq : ((sliceC hp x).bind fun q => (unB q.2).bind fun l => if l.length = q.1 then some (AV.v (.string (str l))) else none) = some y) : ∃ u, (∀ w', Ext w w' → (convert s d v).run P w' = .ok u w') ∧ Rep w av ρ y u := by
  simp only [Option.bind_eq_some_iff] at hq
  obtain ⟨⟨n, cs⟩, hc, l, hl, hq⟩ := hq
  simp only at hq
  split at hq
  · next hn =>
    injection hq with hq
    subst hq
    unfold bsT at hT
    split at hT
    · next e hs hd =>
      split at hT
      · next he =>
        obtain ⟨A, c, rfl, h1, h2, h0, hm⟩ := sliceC_sound hobj hx hc
        have hcs := unB_spec hl
        subst hcs
        refine ⟨.string (str l), fun w' hw => ?_, .im (.v _)⟩
        rcases Nat.eq_zero_or_pos n with h | h
        · have hl0 : l = [] := List.eq_nil_of_length_eq_zero (by omega)
          subst hl0
          subst h
          rw [run_convert_bytes_string w' s d e A 0 c hs he hd]
          cases A with
          | none => rfl
          | some ad => simp [Conv.bytesToString, loadCells, loadCellsFrom]; rfl
        · obtain ⟨b, off, rfl, _, hcell⟩ := hm h
          subst hn
          refine run_convert_bytes_back w' s d e ⟨b, off, none⟩ c l hs he hd (fun j hj => ?_)
          rw [Addr.add_mid]
          obtain ⟨y, hy, hr⟩ := hcell j (.v (.int .u8 (l[j].toNat : Int))) (by simp [bytesA, hj])
          rw [hr.v_eq] at hy
          exact hw _ _ _ hy
      · cases hT
    · cases hT
  · cases hq
theorem qConv_sound {hp : Hp} (hobj : ∀ k cs, look hp k = some cs → ObjR w av ρ (ρ k) cs) {s d : TypeId} {x y : AV} {v : Value} (hx : Rep w av ρ x v) (hq : qConv P hp s d x = some y) : ∃ u, (∀ w', Ext w w' → (convert s d v).run P w' = .ok u w') ∧ Rep w av ρ y u := by
  have slow : (if bsT P s d = true then (sliceC hp x).bind fun q => (unB q.2).bind fun l => if l.length = q.1 then some (AV.v (.string (str l))) else none else none) = some y → ∃ u, (∀ w', Ext w w' → (convert s d v).run P w' = .ok u w') ∧ Rep w av ρ y u := fun h => by
    split at h
    · next hT => exact bytes_run hobj hx hT h
    · cases h
  have fast : ∀ a, x = .v a → (cnv P s d a).map cst = some y → ∃ u, (∀ w', Ext w w' → (convert s d v).run P w' = .ok u w') ∧ Rep w av ρ y u := fun a e h => by
    subst e
    rw [hx.v_eq]
    rw [Option.map_eq_some_iff] at h
    obtain ⟨u, hu, rfl⟩ := h
    exact ⟨u, fun w' _ => pr_run hu w', cst_rep u⟩
  cases x with
  | v a => cases a <;> first
    | exact slow hq
    | exact fast _ rfl hq
  | _ => exact slow hq
end
end Go.Proofs.Ytcplbbbjmalfjaa
