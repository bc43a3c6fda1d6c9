/- Base words and lemmas for every proof of this seat: slices that read as lists, frames, and the step from a walk to a law's row. No program is named here. -/
import Derived.WalkKit
import Derived.ProofKit
import Derived.OpenShut
import Derived.WalkSpells
import Derived.WalkLawsBesides
import Derived.Outline
import Derived.ShutString
import Derived.ChangeOld
import Derived.ChangeSame
import Derived.Below
import Derived.IntWalk
import Derived.BigQuiet
import Derived.Lib.Hide
import Derived.Lib.SmallJoins
import Derived.Laws.OwnMore
import Derived.Deep.AppendLies
import Derived.Deep.AppendSrc
import Derived.Deep.MidRow
import Derived.Laws.IdiomCopy
import Derived.Deep.Draws
import Derived.Deep.Slices
import Derived.Deep.Fields
import Derived.Deep.QuietTactic
import Derived.Deep.DeepFit
import Derived.Maps.AppendAt
import Derived.OwnWalk
import Derived.RegionTactic
import Derived.JoinedCond
namespace Go.Proofs.YtogmppcfopgkdaaGreatDoor
open Go.ChangeShapes Go.WideShapes Go.ChangeAt Go.RowKit
set_option linter.unusedVariables false
set_option linter.unusedSimpArgs false

/-! ### Frames -/
theorem below_drewN {B : Nat} {a w : World} (h : Below B a w) (n : Nat) : Below B a (w.drewN n) := ⟨h.os, h.tape, h.output, h.size, h.block⟩
def str (l : List UInt8) : ByteArray := ⟨l.toArray⟩
theorem str_size (l : List UInt8) : (str l).size = l.length := by simp [str]; rfl
theorem str_extract (l : List UInt8) (a b : Nat) : (str l).extract a b = str ((l.drop a).take (b - a)) := ByteArray.extract_mk l a b
theorem str_from (l : List UInt8) (a : Nat) : str ((l.drop a).take (l.length - a)) = str (l.drop a) := by rw [List.take_of_length_le (by simp)]
theorem str_append (a b : List UInt8) : str a ++ str b = str (a ++ b) := ByteArray.mk_append_mk a b
theorem str_append_mk (l : List UInt8) (x : Array UInt8) : str l ++ ByteArray.mk x = str (l ++ x.toList) := by
  have := ByteArray.mk_append_mk l x.toList
  simpa [str] using this
theorem mk_append_str (l : List UInt8) (x : Array UInt8) : ByteArray.mk x ++ str l = str (x.toList ++ l) := by
  have := ByteArray.mk_append_mk x.toList l
  simpa [str] using this
theorem str_toList (l : List UInt8) : (str l).toList = l := by rw [ByteArray.toList_eq]; simp [str]
theorem mk_toList (x : Array UInt8) : (ByteArray.mk x).toList = x.toList := by rw [ByteArray.toList_eq]
theorem str_get (l : List UInt8) (i : Nat) (h : i < (str l).size) : (str l)[i] = l[i]'(by rwa [str_size] at h) := by
  show (str l).data[i] = _
  simp [str]
theorem str_eta (s : ByteArray) : s = str s.data.toList := by simp [str]
attribute [go_sem] str_size str_extract str_from str_append str_append_mk mk_append_str str_toList mk_toList str_get

/-! ### A block that is known whole (a struct in a variable) -/
def Blk (w : World) (g : Nat) (t : TypeId) (cs : Array Value) : Prop := w.heap[g]? = some (.cells cs t (0, 0))
section
variable {w w' : World} {g : Nat} {t : TypeId} {cs : Array Value}
theorem Blk.lt (h : Blk w g t cs) : g < w.heap.size := by
  rcases Nat.lt_or_ge g w.heap.size with hlt | hge
  · exact hlt
  · unfold Blk at h; rw [Array.getElem?_eq_none hge] at h; cases h
theorem Blk.cell (h : Blk w g t cs) (i : Nat) : w.cell? ⟨g, i, none⟩ = cs[i]? := by
  unfold Blk at h
  simp [World.cell?, h]
theorem Blk.frozen (h : Blk w g t cs) (i : Nat) : w.frozen? ⟨g, i, none⟩ = false := by
  unfold Blk at h
  simp [World.frozen?, h]
theorem Blk.new (w : World) (t : TypeId) (cs : Array Value) : Blk (w.alloc (.cells cs t)) w.heap.size t cs := heap_alloc_new w _
theorem Blk.drewN (h : Blk w g t cs) (n : Nat) : Blk (w.drewN n) g t cs := h
theorem Blk.alloc (h : Blk w g t cs) (o : Obj) : Blk (w.alloc o) g t cs := (Below.heap_alloc w o g h.lt).trans h
theorem Blk.below {B : Nat} (h : Blk w g t cs) (hb : Below B w w') (hg : g < B) : Blk w' g t cs := (hb.block g hg).trans h
theorem Blk.grown {row : Option Nat} (h : Blk w g t cs) (hb : w.grownBy w' row) (hg : row ≠ some g) : Blk w' g t cs := (hb.block g h.lt (fun e => hg e.symm)).trans h
theorem Blk.drew (h : Blk w g t cs) : Blk w.drew g t cs := h
theorem Blk.frozenAll (h : Blk w g t cs) : ∀ i, w.frozen? ⟨g, i, none⟩ = false := fun i => h.frozen i
end
section
variable {w : World} {g : Nat} {t : TypeId}
theorem Blk.c1 {a : Value} (h : Blk w g t #[a]) : w.cell? ⟨g, 0, none⟩ = some a ∧ w.frozen? ⟨g, 0, none⟩ = false := ⟨h.cell 0, h.frozen 0⟩
theorem Blk.c2 {a b : Value} (h : Blk w g t #[a, b]) : w.cell? ⟨g, 0, none⟩ = some a ∧ w.cell? ⟨g, 1, none⟩ = some b ∧ ∀ i, w.frozen? ⟨g, i, none⟩ = false := ⟨h.cell 0, h.cell 1, h.frozenAll⟩
theorem Blk.c3 {a b c : Value} (h : Blk w g t #[a, b, c]) : w.cell? ⟨g, 0, none⟩ = some a ∧ w.cell? ⟨g, 1, none⟩ = some b ∧ w.cell? ⟨g, 2, none⟩ = some c ∧ ∀ i, w.frozen? ⟨g, i, none⟩ = false := ⟨h.cell 0, h.cell 1, h.cell 2, h.frozenAll⟩
theorem Blk.c4 {a b c d : Value} (h : Blk w g t #[a, b, c, d]) : w.cell? ⟨g, 0, none⟩ = some a ∧ w.cell? ⟨g, 1, none⟩ = some b ∧ w.cell? ⟨g, 2, none⟩ = some c ∧ w.cell? ⟨g, 3, none⟩ = some d ∧ ∀ i, w.frozen? ⟨g, i, none⟩ = false :=
  ⟨h.cell 0, h.cell 1, h.cell 2, h.cell 3, h.frozenAll⟩
theorem Blk.c5 {a b c d e : Value} (h : Blk w g t #[a, b, c, d, e]) : w.cell? ⟨g, 0, none⟩ = some a ∧ w.cell? ⟨g, 1, none⟩ = some b ∧ w.cell? ⟨g, 2, none⟩ = some c ∧ w.cell? ⟨g, 3, none⟩ = some d ∧ w.cell? ⟨g, 4, none⟩ = some e ∧ ∀ i, w.frozen? ⟨g, i, none⟩ = false :=
  ⟨h.cell 0, h.cell 1, h.cell 2, h.cell 3, h.cell 4, h.frozenAll⟩
theorem Blk.c6 {a b c d e f : Value} (h : Blk w g t #[a, b, c, d, e, f]) : w.cell? ⟨g, 0, none⟩ = some a ∧ w.cell? ⟨g, 1, none⟩ = some b ∧ w.cell? ⟨g, 2, none⟩ = some c ∧ w.cell? ⟨g, 3, none⟩ = some d ∧ w.cell? ⟨g, 4, none⟩ = some e ∧ w.cell? ⟨g, 5, none⟩ = some f ∧ ∀ i, w.frozen? ⟨g, i, none⟩ = false :=
  ⟨h.cell 0, h.cell 1, h.cell 2, h.cell 3, h.cell 4, h.cell 5, h.frozenAll⟩
end

/-! ### A slice that reads as a list of cells -/
theorem add_of_add (a : Addr) (i j : Nat) : (a.add i).add j = a.add (i + j) := by
  unfold Addr.add
  by_cases hi : i = 0 <;> by_cases hj : j = 0 <;> simp [hi, hj, Nat.add_assoc]

/-- The slice value '.slice A n c' holds the cells xs ('size' cells an element) and lies in the heap of w. -/
def Reads (w : World) (size : Nat) (A : Option Addr) (n c : Nat) (xs : List Value) : Prop :=
  n ≤ c ∧ c ≤ 9223372036854775807 ∧ xs.length = n * size ∧ (0 < n → ∃ b off, A = some ⟨b, off, none⟩ ∧ b < w.heap.size ∧ ∀ j u, xs[j]? = some u → w.cell? ⟨b, off + j, none⟩ = some u)

section
variable {w w' : World} {B size n c : Nat} {A : Option Addr} {xs : List Value}
theorem Reads.nil (w : World) (size : Nat) : Reads w size none 0 0 [] := ⟨by simp, by simp, by simp, fun h => absurd h (by omega)⟩
theorem Reads.keep (h : Reads w size A n c xs) (hs : w.heap.size ≤ w'.heap.size) (hk : ∀ p : Addr, p.block < w.heap.size → w'.cell? p = w.cell? p) : Reads w' size A n c xs :=
  ⟨h.1, h.2.1, h.2.2.1, fun hn => by
    obtain ⟨b, off, e, hb, hc⟩ := h.2.2.2 hn
    exact ⟨b, off, e, by omega, fun j u hu => (hk _ hb).trans (hc j u hu)⟩⟩
theorem Reads.below (h : Reads w size A n c xs) (hb : Below w.heap.size w w') : Reads w' size A n c xs := h.keep hb.size fun _ hp => hb.cell hp
theorem Reads.at1 {k : Nat} (h : Reads w 1 A n c xs) (hk : k < n) : ∃ b off u, A = some ⟨b, off, none⟩ ∧ b < w.heap.size ∧ xs[k]? = some u ∧ w.cell? ⟨b, off + k, none⟩ = some u := by
  obtain ⟨b, off, e, hb, hc⟩ := h.2.2.2 (by omega)
  have hl : k < xs.length := by have := h.2.2.1; omega
  exact ⟨b, off, xs[k], e, hb, List.getElem?_eq_getElem hl, hc k _ (List.getElem?_eq_getElem hl)⟩
end


theorem cell_alloc_new (w : World) (cs : Array Value) (t : TypeId) (j : Nat) : (w.alloc (.cells cs t)).cell? ⟨w.heap.size, j, none⟩ = cs[j]? := by
  have h : (w.alloc (.cells cs t)).heap[w.heap.size]? = some (.cells cs t (0, 0)) := heap_alloc_new w _
  simp only [World.cell?]
  rw [h]
  simp
theorem frozen_alloc_new (w : World) (cs : Array Value) (t : TypeId) (j : Nat) : (w.alloc (.cells cs t)).frozen? ⟨w.heap.size, j, none⟩ = false := by
  have h : (w.alloc (.cells cs t)).heap[w.heap.size]? = some (.cells cs t (0, 0)) := heap_alloc_new w _
  simp only [World.frozen?]
  rw [h]
  simp
theorem World.size_setCells (w : World) (b o : Nat) (vs : List Value) : (w.setCells b o vs).heap.size = w.heap.size := by
  induction vs generalizing o w with
  | nil => rfl
  | cons v vs ih => simp [World.setCells, ih, World.setCell]
theorem below_setCells_or (w : World) (b o : Nat) (vs : List Value) : (w.setCells b o vs).os = w.os ∧ (w.setCells b o vs).tape = w.tape ∧ (w.setCells b o vs).output = w.output ∧ ∀ k, k ≠ b → (w.setCells b o vs).heap[k]? = w.heap[k]? := by
  induction vs generalizing o w with
  | nil => exact ⟨rfl, rfl, rfl, fun _ _ => rfl⟩
  | cons v vs ih =>
    obtain ⟨h1, h2, h3, h4⟩ := ih (w.setCell ⟨b, o, none⟩ v) (o + 1)
    exact ⟨h1, h2, h3, fun k hk => (h4 k hk).trans (Below.heap_setCell w _ v k hk)⟩

/-! ### A slice of the call's own: appended to, stored into -/
/-- The block into which an append or a store may write. -/
def own (A : Option Addr) (c : Nat) : Option Nat := if c = 0 then none else A.map (·.block)
theorem own_zero (A : Option Addr) : own A 0 = none := by simp [own]
theorem own_pos {b off c : Nat} (h : 0 < c) : own (some ⟨b, off, none⟩) c = some b := by simp [own]; omega

/-- '.slice A n c' holds the cells xs; its c places are cells of one block from B on that may be written. -/
def Owns (w : World) (B size : Nat) (A : Option Addr) (n c : Nat) (xs : List Value) : Prop :=
  n ≤ c ∧ c ≤ 9223372036854775807 ∧ xs.length = n * size ∧ (0 < c → ∃ g off, A = some ⟨g, off, none⟩ ∧ B ≤ g ∧ g < w.heap.size ∧
    (∀ j, j < c * size → (w.cell? ⟨g, off + j, none⟩).isSome = true ∧ w.frozen? ⟨g, off + j, none⟩ = false) ∧ ∀ j u, xs[j]? = some u → w.cell? ⟨g, off + j, none⟩ = some u)

section
variable {w w' : World} {B size n c : Nat} {A : Option Addr} {xs : List Value}
theorem Owns.nil (w : World) (B size : Nat) : Owns w B size none 0 0 [] := ⟨by simp, by simp, by simp, fun h => absurd h (by omega)⟩
theorem Owns.zero (w : World) (B size : Nat) (A : Option Addr) : Owns w B size A 0 0 [] := ⟨by simp, by simp, by simp, fun h => absurd h (by omega)⟩
theorem Owns.keep (h : Owns w B size A n c xs) (hs : w.heap.size ≤ w'.heap.size) (hk : ∀ g, own A c = some g → w'.heap[g]? = w.heap[g]?) : Owns w' B size A n c xs :=
  ⟨h.1, h.2.1, h.2.2.1, fun hn => by
    obtain ⟨g, off, rfl, hb, hlt, hcc, hc⟩ := h.2.2.2 hn
    have e := hk g (own_pos hn)
    refine ⟨g, off, rfl, hb, by omega, fun j hj => ?_, fun j u hu => ?_⟩
    · rw [World.cell?_of_block (w := w) (a := ⟨g, off + j, none⟩) e, World.frozen?_of_block (w := w) (a := ⟨g, off + j, none⟩) e]; exact hcc j hj
    · rw [World.cell?_of_block (w := w) (a := ⟨g, off + j, none⟩) e]; exact hc j u hu⟩
theorem Owns.lt (h : Owns w B size A n c xs) {g : Nat} (hg : own A c = some g) : B ≤ g ∧ g < w.heap.size := by
  rcases Nat.eq_zero_or_pos c with rfl | hc
  · simp [own] at hg
  · obtain ⟨g', off, rfl, hb, hlt, _⟩ := h.2.2.2 hc
    rw [own_pos hc] at hg
    injection hg with hg
    subst hg
    exact ⟨hb, hlt⟩
theorem Owns.grown {row : Option Nat} (h : Owns w B size A n c xs) (hg : w.grownBy w' row) (hne : ∀ g, own A c = some g → row ≠ some g) : Owns w' B size A n c xs :=
  h.keep hg.size fun g hgg => hg.block g (h.lt hgg).2 (fun e => hne g hgg e.symm)
theorem Owns.below (h : Owns w B size A n c xs) (hb : Below w.heap.size w w') : Owns w' B size A n c xs := h.keep hb.size fun g hg => hb.block g (h.lt hg).2
theorem Owns.mono {B' : Nat} (h : Owns w B size A n c xs) (hB : B' ≤ B) : Owns w B' size A n c xs :=
  ⟨h.1, h.2.1, h.2.2.1, fun hn => by
    obtain ⟨g, off, rfl, hb, r⟩ := h.2.2.2 hn
    exact ⟨g, off, rfl, by omega, r⟩⟩
theorem Reads.grown {row : Option Nat} {B' : Nat} (h : Reads w size A n c xs) (hB : 0 < n → ∀ b off, A = some ⟨b, off, none⟩ → b < B') (hg : w.grownBy w' row) (hr : ∀ g, row = some g → B' ≤ g) : Reads w' size A n c xs :=
  ⟨h.1, h.2.1, h.2.2.1, fun hn => by
    obtain ⟨b, off, rfl, hlt, hc⟩ := h.2.2.2 hn
    have := hB hn b off rfl
    exact ⟨b, off, rfl, by have := hg.size; omega, fun j u hu => (World.cell?_of_block (w := w) (a := ⟨b, off + j, none⟩) (hg.block b hlt (fun e => by have := hr b e.symm; omega))).trans (hc j u hu)⟩⟩
end


/-- The slice lies in blocks from B on (if it has an element). -/
def Fresh (B : Nat) (A : Option Addr) (n : Nat) : Prop := 0 < n → ∀ b off, A = some ⟨b, off, none⟩ → B ≤ b
theorem Fresh.zero (B : Nat) (A : Option Addr) : Fresh B A 0 := fun h => absurd h (by omega)
theorem Fresh.mono {B B' n : Nat} {A : Option Addr} (h : Fresh B A n) (hB : B' ≤ B) : Fresh B' A n := fun hn b off e => Nat.le_trans hB (h hn b off e)
theorem Owns.fresh {w : World} {B size n c : Nat} {A : Option Addr} {xs : List Value} (h : Owns w B size A n c xs) : Fresh B A n := fun hn b off e => by
  have hc : 0 < c := by have := h.1; omega
  subst e
  exact (h.lt (own_pos hc)).1
theorem Reads.lt {w : World} {size n c : Nat} {A : Option Addr} {xs : List Value} (h : Reads w size A n c xs) (hn : 0 < n) {b off : Nat} (e : A = some ⟨b, off, none⟩) : b < w.heap.size := by
  obtain ⟨b', off', e', hlt, _⟩ := h.2.2.2 hn
  rw [e] at e'
  injection e' with e'; injection e' with e1 _; subst e1; exact hlt
theorem grownBy_setCell (w : World) (p : Addr) (u : Value) : w.grownBy (w.setCell p u) (some p.block) :=
  ⟨rfl, rfl, rfl, by simp [World.setCell], fun k _ hne => Below.heap_setCell w p u k (fun e => hne (by rw [e]))⟩
theorem Owns.setCell {w : World} {B size n c : Nat} {A : Option Addr} {xs : List Value} (h : Owns w B size A n c xs) {p : Addr} (u : Value) (hp : p.block < B) : Owns (w.setCell p u) B size A n c xs :=
  h.grown (grownBy_setCell w p u) fun g hg e => by injection e with e; have := (h.lt hg).1; omega
theorem Reads.setCell {w : World} {size n c : Nat} {A : Option Addr} {xs : List Value} (h : Reads w size A n c xs) {p : Addr} (u : Value) (hp : 0 < n → ∀ b off, A = some ⟨b, off, none⟩ → b ≠ p.block) : Reads (w.setCell p u) size A n c xs :=
  ⟨h.1, h.2.1, h.2.2.1, fun hn => by
    obtain ⟨b, off, rfl, hlt, hc⟩ := h.2.2.2 hn
    exact ⟨b, off, rfl, by simpa [World.setCell] using hlt, fun j u' hu => (World.cell?_of_block (w := w) (a := ⟨b, off + j, none⟩) (Below.heap_setCell w p u b (hp hn b off rfl))).trans (hc j u' hu)⟩⟩
theorem Reads.drew {w : World} {size n c : Nat} {A : Option Addr} {xs : List Value} (h : Reads w size A n c xs) : Reads w.drew size A n c xs := h
theorem Reads.drewN {w : World} {size n c : Nat} {A : Option Addr} {xs : List Value} (h : Reads w size A n c xs) (k : Nat) : Reads (w.drewN k) size A n c xs := h
theorem Owns.blk {w : World} {B size n c : Nat} {A : Option Addr} {xs : List Value} (h : Owns w B size A n c xs) (hc : 0 < c) {b off : Nat} (e : A = some ⟨b, off, none⟩) : B ≤ b := by
  subst e; exact (h.lt (own_pos hc)).1
theorem Reads.zero (w : World) (size : Nat) (A : Option Addr) (c : Nat) (hc : c ≤ 9223372036854775807) : Reads w size A 0 c [] := ⟨by simp, hc, by simp, fun h => absurd h (by omega)⟩
theorem Owns.drew {w : World} {B size n c : Nat} {A : Option Addr} {xs : List Value} (h : Owns w B size A n c xs) : Owns w.drew B size A n c xs := h
theorem Owns.drewN {w : World} {B size n c : Nat} {A : Option Addr} {xs : List Value} (h : Owns w B size A n c xs) (k : Nat) : Owns (w.drewN k) B size A n c xs := h
/-- The facts on a slice type t with elements of type e: 'size' cells and 'bytes' bytes each. -/
structure SlTy (P : Program) (t e : TypeId) (size bytes : Nat) : Prop where
  ex : ∃ i z, P.underlying t = some (.slice e) ∧ P.info? e = some i ∧ i.zero = some z ∧ i.size = size ∧ i.bytes = bytes ∧ z.cells.size = size
  pos : 0 < size
section
variable {P : Program} {w : World}
theorem Src.ofReads {size : Nat} {tx e' : TypeId} (hk : P.underlying tx = some (.slice e')) {A : Option Addr} {n c : Nat} {news : List Value} (h : Reads w size A n c news) (h1 : ∀ u ∈ news, u.oneCell' = true) : Src P size tx (.slice A n c) n news w := by
  rcases Nat.eq_zero_or_pos n with rfl | hn
  · obtain rfl : news = [] := List.eq_nil_of_length_eq_zero (by simpa using h.2.2.1)
    rcases A with _ | ad
    · exact Src.ofNil w hk c
    · exact Src.ofSlice w hk ad 0 c [] (by simp) (fun j u hu => by simp at hu) h1
  · obtain ⟨b, off, rfl, _, hc⟩ := h.2.2.2 hn
    exact Src.ofSlice w hk _ n c news h.2.2.1 (fun j u hu => by
      unfold Addr.add
      split
      · next h0 => subst h0; simpa using hc 0 u hu
      · exact hc j u hu) h1

theorem run_append_owns {t tx ty e : TypeId} {size bytes : Nat} (T : SlTy P t e size bytes) {B n c m : Nat} {A : Option Addr} {xs news : List Value} {x : Value} (hown : Owns w B size A n c xs) (hsrc : Src P size tx x m news w)
    (h63 : n + m ≤ 9223372036854775807) (hbytes : (n + m) * bytes ≤ 140737488355328) (hB : B ≤ w.heap.size) :
    ∃ A' c' w', (Builtin.append_ #[t, tx] ty #[.slice A n c, x]).run P w = .ok (.slice A' (n + m) c') w' ∧ Owns w' B size A' (n + m) c' (xs ++ news) ∧ w.grownBy w' (own A c) ∧
      (own A' c' = own A c ∨ own A' c' = some w.heap.size) := by
  obtain ⟨⟨i, z, ht, hi, hz, rfl, rfl, hzs⟩, hpos⟩ := T
  have hlen : (xs ++ news).length = (n + m) * i.size := by rw [List.length_append, hown.2.2.1, hsrc.newsLen, Nat.add_mul]
  by_cases hroom : n + m ≤ c
  · rcases Nat.eq_zero_or_pos c with rfl | hc
    · obtain ⟨rfl, rfl⟩ : n = 0 ∧ m = 0 := by omega
      obtain rfl : xs = [] := List.eq_nil_of_length_eq_zero (by simpa using hown.2.2.1)
      obtain rfl : news = [] := List.eq_nil_of_length_eq_zero (by simpa using hsrc.newsLen)
      refine ⟨A, 0, w, ?_, Owns.zero _ _ _ _, ⟨rfl, rfl, rfl, Nat.le_refl _, fun _ _ _ => rfl⟩, .inl rfl⟩
      have hcl := hsrc.cells
      rcases A with _ | ad <;> rcases hsrc.kind with ⟨e', hk⟩ | hk <;> simp [Builtin.append_, run_underlying ht, run_underlying hk, sizeOf, typeInfo, hi, hsrc.len, hcl, storeCells]
    · obtain ⟨g, off, rfl, hBg, hlt, hcc, hcell⟩ := hown.2.2.2 hc
      have hmul : n * i.size + news.length ≤ c * i.size := by rw [hsrc.newsLen, ← Nat.add_mul]; exact Nat.mul_le_mul_right _ hroom
      have hr := run_append_room_src (P := P) w t tx ty e i ht hi g off n c x m news hsrc hroom (fun j hj => by rw [Nat.add_assoc]; exact (hcc _ (by omega)).1) (fun j hj => by rw [Nat.add_assoc]; exact (hcc _ (by omega)).2)
      refine ⟨_, _, _, hr, ⟨hroom, hown.2.1, hlen, fun _ => ⟨g, off, rfl, hBg, ?_, fun j hj => ⟨?_, ?_⟩, fun j u hu => ?_⟩⟩, ?_, .inl rfl⟩
      · have := World.size_setCells w g (off + n * i.size) news
        omega
      · exact World.isSome_setCells g news _ w _ (hcc j hj).1
      · rw [World.frozen?_setCells]; exact (hcc j hj).2
      · by_cases hjn : j < xs.length
        · rw [World.cell?_setCells_out g news _ w _ (fun _ _ => by left; show off + j < off + n * i.size; rw [hown.2.2.1] at hjn; omega)]
          exact hcell j u (by rwa [List.getElem?_append_left hjn] at hu)
        · rw [List.getElem?_append_right (by omega)] at hu
          have hjl : j - xs.length < news.length := (List.getElem?_eq_some_iff.1 hu).1
          have hin := World.cell?_setCells_in g news (off + n * i.size) w (fun j hj => by rw [Nat.add_assoc]; exact (hcc _ (by omega)).1) (j - xs.length) hjl
          have e1 : off + n * i.size + (j - xs.length) = off + j := by rw [hown.2.2.1] at hjn ⊢; omega
          rw [e1] at hin
          rw [hin, ← hu, List.getElem?_eq_getElem hjl]
      · rw [own_pos hc]
        have hbl := below_setCells_or w g (off + n * i.size) news
        exact ⟨hbl.1, hbl.2.1, hbl.2.2.1, by rw [World.size_setCells]; exact Nat.le_refl _, fun k hk hne => hbl.2.2.2 k (fun e => hne (by rw [e]))⟩
  · have hold : (Builtin.firstCells i.size n (.slice A n c)).run P w.drew = .ok xs.toArray w.drew := by
      rcases Nat.eq_zero_or_pos n with rfl | hn
      · obtain rfl : xs = [] := List.eq_nil_of_length_eq_zero (by simpa using hown.2.2.1)
        rcases A with _ | ad
        · exact run_firstCells_none _ _ _ _ _
        · exact run_firstCells_some _ _ _ _ _ _ _ (by simp) (fun j u hu => by simp at hu)
      · obtain ⟨g, off, rfl, _, _, _, hcell⟩ := hown.2.2.2 (by have := hown.1; omega)
        exact run_firstCells_some _ _ _ _ _ _ _ hown.2.2.1 (fun j u hu => by
          show w.cell? _ = _
          unfold Addr.add
          split
          · next h0 => subst h0; simpa using hcell 0 u hu
          · exact hcell j u hu)
    have hr := run_append_grow_src (P := P) w t tx ty e i z ht hi hz A n c xs hold x m news hsrc (by omega) (by omega) (growslice_fits (by omega) hbytes)
    have hge := grownCap_ge w (n + m) c e
    have hcm : grownCap w (n + m) c e ≤ maxLen := grownCap_le_maxLen w (n + m) c e (by simp only [maxLen]; omega)
    refine ⟨_, _, _, hr, ⟨hge, by simp only [maxLen] at hcm; omega, hlen, fun _ => ⟨w.heap.size, 0, rfl, hB, by simp, fun j hj => ⟨?_, ?_⟩, fun j u hu => ?_⟩⟩, ⟨rfl, rfl, rfl, by simp, fun k hk _ => Below.heap_alloc w.drew _ k hk⟩, .inr (by rw [own_pos (by omega)])⟩
    · rw [show (⟨w.heap.size, 0 + j, none⟩ : Addr) = ⟨w.drew.heap.size, j, none⟩ from by simp]
      rw [cell_alloc_new]
      have hsz : j < ((xs ++ news).toArray ++ Builtin.zeroCells z.cells (grownCap w (n + m) c e - (n + m))).size := by
        rw [Array.size_append, List.size_toArray, size_zeroCells, hzs, hlen, ← Nat.add_mul, show n + m + (grownCap w (n + m) c e - (n + m)) = grownCap w (n + m) c e from by omega]
        exact hj
      rw [Array.getElem?_eq_getElem hsz]
      rfl
    · have := frozen_alloc_new w.drew ((xs ++ news).toArray ++ Builtin.zeroCells z.cells (grownCap w (n + m) c e - (n + m))) e (0 + j)
      simpa using this
    · rw [show (⟨w.heap.size, 0 + j, none⟩ : Addr) = ⟨w.drew.heap.size, j, none⟩ from by simp]
      rw [cell_alloc_new]
      rw [Array.getElem?_append_left (by rw [List.size_toArray]; exact (List.getElem?_eq_some_iff.1 hu).1)]
      simpa using hu
end


theorem Reads.app {B : Nat} {w w' : World} {A A' : Option Addr} {c c' n n' size size' : Nat} {xs ys : List Value} (h : Reads w size A n c xs) (hA : ∀ b off, A = some ⟨b, off, none⟩ → b < B) (hown : Owns w B size' A' n' c' ys) (hg : w.grownBy w' (own A' c')) : Reads w' size A n c xs :=
  ⟨h.1, h.2.1, h.2.2.1, fun hn => by
    obtain ⟨b, off, rfl, hlt, hc⟩ := h.2.2.2 hn
    have h1 := hA b off rfl
    exact ⟨b, off, rfl, by have := hg.size; omega, fun j u hu => (World.cell?_of_block (w := w) (a := ⟨b, off + j, none⟩) (hg.block b hlt (fun e => by have := (hown.lt e.symm).1; omega))).trans (hc j u hu)⟩⟩


/-! ### Lists of integers in memory -/
theorem Reads.new (w : World) (t : TypeId) (cs : Array Value) (n : Nat) (hn : cs.size = n) (h63 : n ≤ 9223372036854775807) : Reads (w.alloc (.cells cs t)) 1 (some ⟨w.heap.size, 0, none⟩) n n cs.toList :=
  ⟨Nat.le_refl _, h63, by simp [hn], fun _ => ⟨w.heap.size, 0, rfl, by simp, fun j u hu => by rw [Nat.zero_add, cell_alloc_new]; simpa using hu⟩⟩
theorem Reads.alloc {w : World} {size n c : Nat} {A : Option Addr} {xs : List Value} (h : Reads w size A n c xs) (o : Obj) : Reads (w.alloc o) size A n c xs := h.below ((Below.refl _ _).alloc (Nat.le_refl _) o)

/-! ### Arguments opened -/

/-! ### Frames: only the blocks of S, and what is new, may have changed -/
structure Keeps (w w' : World) (S : Nat → Prop) : Prop where
  os : w'.os = w.os
  tape : w'.tape = w.tape
  output : w'.output = w.output
  size : w.heap.size ≤ w'.heap.size
  block : ∀ k, k < w.heap.size → ¬ S k → w'.heap[k]? = w.heap[k]?
section
variable {w w1 w2 : World} {S : Nat → Prop}
theorem Keeps.refl (w : World) (S : Nat → Prop) : Keeps w w S := ⟨rfl, rfl, rfl, Nat.le_refl _, fun _ _ _ => rfl⟩
theorem Keeps.trans (h : Keeps w w1 S) (k : Keeps w1 w2 (fun b => S b ∨ w.heap.size ≤ b)) : Keeps w w2 S :=
  ⟨k.os.trans h.os, k.tape.trans h.tape, k.output.trans h.output, Nat.le_trans h.size k.size, fun i hi hn => (k.block i (Nat.lt_of_lt_of_le hi h.size) (fun e => e.elim hn (fun e => by omega))).trans (h.block i hi hn)⟩
theorem Keeps.mono {S' : Nat → Prop} (h : Keeps w w1 S) (hS : ∀ k, k < w.heap.size → S k → S' k) : Keeps w w1 S' := ⟨h.os, h.tape, h.output, h.size, fun i hi hn => h.block i hi (fun e => hn (hS i hi e))⟩
theorem Keeps.setCell (h : Keeps w w1 S) {p : Addr} (hp : S p.block ∨ w.heap.size ≤ p.block) (u : Value) : Keeps w (w1.setCell p u) S :=
  ⟨h.os, h.tape, h.output, by simpa [World.setCell] using h.size, fun i hi hn => (Below.heap_setCell w1 p u i (fun e => by subst e; exact hp.elim hn (fun e => by omega))).trans (h.block i hi hn)⟩
theorem Keeps.alloc (h : Keeps w w1 S) (o : Obj) : Keeps w (w1.alloc o) S :=
  ⟨h.os, h.tape, h.output, Nat.le_trans h.size (by simp), fun i hi hn => (Below.heap_alloc w1 o i (Nat.lt_of_lt_of_le hi h.size)).trans (h.block i hi hn)⟩
theorem Keeps.drew (h : Keeps w w1 S) : Keeps w w1.drew S := ⟨h.os, h.tape, h.output, h.size, h.block⟩
theorem Keeps.drewN (h : Keeps w w1 S) (n : Nat) : Keeps w (w1.drewN n) S := ⟨h.os, h.tape, h.output, h.size, h.block⟩
theorem Keeps.grown {row : Option Nat} (h : Keeps w w1 S) (hg : w1.grownBy w2 row) (hr : ∀ k, row = some k → S k ∨ w.heap.size ≤ k) : Keeps w w2 S :=
  ⟨hg.os.trans h.os, hg.tape.trans h.tape, hg.output.trans h.output, Nat.le_trans h.size hg.size, fun i hi hn => (hg.block i (Nat.lt_of_lt_of_le hi h.size) (fun e => (hr i e.symm).elim hn (fun e => by omega))).trans (h.block i hi hn)⟩
theorem Keeps.below {B : Nat} (h : Keeps w w1 S) (hS : ∀ k, S k → B ≤ k) (hB : B ≤ w.heap.size) : Below B w w1 :=
  ⟨h.os, h.tape, h.output, h.size, fun k hk => h.block k (by omega) (fun e => by have := hS k e; omega)⟩
theorem Keeps.of_below (h : Below w.heap.size w w1) (S : Nat → Prop) : Keeps w w1 S := ⟨h.os, h.tape, h.output, h.size, fun k hk _ => h.block k hk⟩
theorem Blk.keeps {g : Nat} {t : TypeId} {cs : Array Value} (h : Blk w g t cs) (k : Keeps w w1 S) (hg : ¬ S g) : Blk w1 g t cs := (k.block g h.lt hg).trans h
theorem Owns.keeps {B size n c : Nat} {A : Option Addr} {xs : List Value} (h : Owns w B size A n c xs) (k : Keeps w w1 S) (hg : ∀ g, own A c = some g → ¬ S g) : Owns w1 B size A n c xs :=
  h.keep k.size fun g hgg => k.block g (h.lt hgg).2 (hg g hgg)
theorem Reads.keeps {size n c : Nat} {A : Option Addr} {xs : List Value} (h : Reads w size A n c xs) (k : Keeps w w1 S) (hg : 0 < n → ∀ b off, A = some ⟨b, off, none⟩ → ¬ S b) : Reads w1 size A n c xs :=
  ⟨h.1, h.2.1, h.2.2.1, fun hn => by
    obtain ⟨b, off, rfl, hlt, hc⟩ := h.2.2.2 hn
    exact ⟨b, off, rfl, Nat.lt_of_lt_of_le hlt k.size, fun j u hu => (World.cell?_of_block (w := w) (a := ⟨b, off + j, none⟩) (k.block b hlt (hg hn b off rfl))).trans (hc j u hu)⟩⟩
end

/-! ### The step from a walk to a law's row -/
section
variable {H : Type} {enc : TypeId × Value → H} {P : Program}
theorem trodAll_below (hl : laidOutB P = true) {W W' : World} (hb : Below W.heap.size W W') : ∀ (ts : List TypeId) (vs : List Value) (ds : List (DataW H)) (ps : List MemPlace),
    (∀ t ∈ ts, P.readableRec t = true ∧ t < P.types.size) → DataW.TrodAll enc P W 0 (fun _ => true) true ts vs ds ps →
    DataW.TrodAll enc P W' 0 (fun b => decide (b < W.heap.size)) true ts vs ds ps := by
  intro ts
  induction ts with
  | nil =>
    intro vs ds ps _ h
    obtain ⟨rfl, rfl, rfl⟩ := trodAll_nil h
    exact trodAll_mk0
  | cons t ts ih =>
    intro vs ds ps ht h
    obtain ⟨v, vs', d, ds', p, q, rfl, rfl, rfl, h0, h1⟩ := trodAll_cons h
    have lt0 : ∀ x ∈ p, x.block < W.heap.size := by obtain ⟨m, hm⟩ := h0; exact DataW.trod_lt m _ _ _ hm
    exact trodAll_cons_mk (Below.trod hl (ht t (by simp)).1 (ht t (by simp)).2 h0 hb lt0) (ih vs' ds' q (fun x hx => ht x (by simp [hx])) h1)

theorem trodAll_length {W : World} {sp : Nat → Bool} : ∀ (ts : List TypeId) (vs : List Value) (ds : List (DataW H)) (ps : List MemPlace), DataW.TrodAll enc P W 0 sp true ts vs ds ps → ds.length = ts.length := by
  intro ts
  induction ts with
  | nil =>
    intro vs ds ps h
    obtain ⟨rfl, rfl, rfl⟩ := trodAll_nil h
    rfl
  | cons t ts ih =>
    intro vs ds ps h
    obtain ⟨v, vs', d, ds', p, q, rfl, rfl, rfl, h0, h1⟩ := trodAll_cons h
    simp [ih _ _ _ h1]

theorem law_post {f : Func} {s : ChangeSpec} {W W' : World} {args : Array Value} {ds gs : List (DataW H)} {before : List MemPlace} {tb : TypeId}
    (hl : laidOutB P = true) (hres : f.resultTypes = #[tb]) (hbool : P.underlying tb = some .bool) (hvars : s.vars = [])
    (hts : (f.params.toList.all fun t => P.readableRec t && decide (t < P.types.size)) = true)
    (hs : ∀ ds : List (DataW H), ds.length = f.params.size → s.fn H ds = { results := [.lit (.bool true)], args := ds })
    (hW : DataW.Whole enc P f.params.toList s.vars false W args.toList ds gs before) (hb : Below W.heap.size W W') :
    s.post enc P f false true false false W args (.bool true) W' := by
  have hW' := hW
  obtain ⟨p, q, hA, hV, rfl, hfz, hnd⟩ := hW
  rw [hvars] at hV
  obtain ⟨rfl, rfl⟩ := trodVars_none hV
  have hlen : ds.length = f.params.size := by rw [trodAll_length _ _ _ _ hA]; simp
  have e : s.fn H (ds ++ []) = { results := [.lit (.bool true)], args := ds } := by rw [List.append_nil]; exact hs ds hlen
  refine ⟨ds, [], _, [], p, [], hW', ?_, ?_, ?_, hb.frame _, fun h => by cases h⟩
  · rw [e, hres]
    exact trodAll_mk1 (shut_bool hbool _)
  · rw [e]
    refine trodAll_below hl hb _ _ _ _ (fun t ht => ?_) hA
    have := List.all_eq_true.1 hts t ht
    simpa using this
  · rw [e, hvars]
    rfl

end
end Go.Proofs.YtogmppcfopgkdaaGreatDoor
