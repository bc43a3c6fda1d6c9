/- The abstract machine, parts V to Z. No program is named here. -/
import Derived.Test.YtgbhjlkenfmadaaGreatDoorMgC
import Derived.Shelf.Strings.Builder1
import Derived.Scope
import Derived.Laws.IdiomStrings
/- The abstract machine, part 22: drawn regions whose operations may be taken in their own order, checked once. No program is named here. -/
namespace Go.Proofs.YtgbhjlkenfmadaaGreatDoor
open Go.RowKit
set_option linter.unusedVariables false
set_option linter.unusedSimpArgs false
/-- The first i of n are listed. -/
def pre (n i : Nat) : Array Bool := (List.replicate i true ++ List.replicate (n - i) false).toArray
end Go.Proofs.YtgbhjlkenfmadaaGreatDoor

/- The abstract machine, part 24: a strings.Builder of one's own beside the state. No program is named here. -/
namespace Go.Proofs.YtgbhjlkenfmadaaGreatDoor
open Go.RowKit
set_option linter.unusedVariables false
set_option linter.unusedSimpArgs false

/-- A builder: its number and what it holds. -/
abbrev Bo := Option (Nat × List UInt8)
/-- A builder in block b that holds l; its buffer is v. -/
def BdF (T e : TypeId) (B b : Nat) (v : Value) (l : List UInt8) (w : World) : Prop :=
  B ≤ b ∧ (∃ p, (p = .pointer none ∨ p = .pointer (some ⟨b, 0, none⟩)) ∧ w.heap[b]? = some (.cells #[p, v] T (0, 0))) ∧ w.ownsRow B e 1 v l.length (Lib.byteCells l) ∧ v.ownBlock ≠ some b ∧ (v = .slice none 0 0 ∨ ∃ A n c, v = .slice A n c ∧ 0 < c)
/-- How the run's frame is narrowed while there is a builder: its blocks are not touched. -/
def Lnk (T e : TypeId) (E : Env) (bo : Bo) (fx : List Nat) (E' : Env) : Prop :=
  match bo with
  | none => E' = E
  | some (k, l) => ∃ b v fx', fx = k :: fx' ∧ (E'.ρ0 k).g = b ∧ (E'.ρ0 k).off = 0 ∧ BdF T e E.w0.heap.size b v l E'.w0 ∧ (∀ x, E'.bad x ↔ E.bad x ∨ x = b ∨ v.ownBlock = some x) ∧ (¬ E'.X b ∧ ∀ g, v.ownBlock = some g → ¬ E'.X g) ∧
    Keeps E.w0 E'.w0 E.X ∧ (∀ x, E'.X x → E.X x ∨ E.w0.heap.size ≤ x) ∧ ((∀ b, E.bad b → b < E.w0.heap.size) ∧ Glob E.w0 ∧ ∀ b, E.X b → ¬ gblk b) ∧ ∀ i ∈ fx', E'.ρ0 i = E.ρ0 i
def SB (T e : TypeId) (E : Env) (st : St) (bo : Bo) (a : Act) (w : World) : Prop := ∃ E', Lnk T e E bo st.fx E' ∧ S E' st a w
/-- The state when the builder is forgotten. -/
def dropB (st : St) (bo : Bo) : St := match bo with
  | none => st
  | some _ => { st with fx := st.fx.tail }
theorem dropB_none (st : St) : dropB st none = st := rfl
theorem dropB_some (fr : List (Nat × AV)) (hp : Hp) (nt k : Nat) (fx : List Nat) (x : Nat × List UInt8) : dropB ⟨fr, hp, nt, k :: fx⟩ (some x) = ⟨fr, hp, nt, fx⟩ := rfl
attribute [go_sem] dropB_none dropB_some
section
variable {P : Program} {T e : TypeId} {E : Env} {st st' : St} {bo : Bo} {a : Act} {w : World} {Q : Exit → St → Bo → Prop}
theorem SB.someSR (h : SB T e E st bo a w) : ∃ E' ρ w1, SR E' ρ st a w1 := by
  obtain ⟨E', _, ρ, h⟩ := h
  exact ⟨E', ρ, w, h⟩
theorem SR.wider {E E' : Env} {ρ : Nat → Loc} {k b : Nat} {v : Value} {l : List UInt8} {fr : List (Nat × AV)} {hp : Hp} {nt : Nat} {fx fx' : List Nat} (h : SR E' ρ ⟨fr, hp, nt, fx⟩ a w) (hfx : ∀ i ∈ fx', i ∈ fx)
    (hbad : ∀ x, E.bad x → E'.bad x) (hk : Keeps E.w0 E'.w0 E.X) (hX : ∀ x, E'.X x → E.X x ∨ E.w0.heap.size ≤ x) (hb : (∀ b, E.bad b → b < E.w0.heap.size) ∧ Glob E.w0 ∧ ∀ b, E.X b → ¬ gblk b) (hρ : ∀ i ∈ fx', E'.ρ0 i = E.ρ0 i) : SR E ρ ⟨fr, hp, nt, fx'⟩ a w := by
  have hav : ∀ x, avd E.bad ρ hp x → avd E'.bad ρ hp x := fun x hx => hx.imp (hbad x) id
  refine ⟨fun t x hx => (h.fr t x hx).tr (Nat.le_refl _) (fun _ _ _ _ => rfl) (fun x _ => hav x) (fun _ h => absurd rfl h), ⟨fun j cs hj => (h.hr.obj j cs hj).tr (Nat.le_refl _) (fun _ => rfl) (fun _ _ _ _ => rfl) (fun x _ => hav x) (fun _ h => absurd rfl h), h.hr.dis⟩, fun x hx => ?_, ?_, hb, fun x hx hx' => h.nb x hx (hbad x hx'), h.size, h.defers, fun i hi => (h.fx i (hfx i hi)).trans (hρ i hi)⟩
  · rcases h.own x hx with h1 | h1
    · exact hX x h1
    · exact .inr (Nat.le_trans hk.size h1)
  · refine ⟨h.keep.os.trans hk.os, h.keep.tape.trans hk.tape, h.keep.output.trans hk.output, Nat.le_trans hk.size h.keep.size, fun x hx hn => ?_⟩
    refine (h.keep.block x (Nat.lt_of_lt_of_le hx hk.size) fun hX' => ?_).trans (hk.block x hx hn)
    rcases hX x hX' with h1 | h1
    · exact hn h1
    · omega
theorem SB.toS (h : SB T e E st bo a w) : S E (dropB st bo) a w := by
  obtain ⟨E', hl, ρ, h⟩ := h
  cases bo with
  | none => cases hl; exact ⟨ρ, h⟩
  | some p =>
    obtain ⟨b, v, fx', h1, h2, h3, h4, h5, h6, h7, h8, h9, h10⟩ := hl
    obtain ⟨fr, hp, nt, fx⟩ := st
    simp only at h1
    subst h1
    exact ⟨ρ, SR.wider (b := b) (v := v) (l := p.2) (k := p.1) h (fun i hi => List.mem_cons_of_mem _ hi) (fun x hx => (h5 x).2 (.inl hx)) h7 h8 h9 h10⟩
theorem SB.sub (hs : Sub st' st) (h : SB T e E st bo a w) : SB T e E st' bo a w := by
  obtain ⟨E', hl, h⟩ := h
  exact ⟨E', by rw [hs.fx]; exact hl, hs.S h⟩
end

section
variable {P : Program} {T e : TypeId} {st st' : St} {bo : Bo} {Q : Exit → St → Bo → Prop} {ops : Array Oper} {rest : List Oper} {o : Oper}
theorem SB.same {E : Env} {a : Act} {w : World} {fr : List (Nat × AV)} {hp : Hp} {nt : Nat} {fx : List Nat} {t : Nat} {x : AV} (hx : look fr t = some x) (hS : SB T e E ⟨fr, hp, nt, fx⟩ bo a w) : SB T e E ⟨(t, x) :: fr, hp, nt, fx⟩ bo a w := by
  obtain ⟨E', hl, ρ, h⟩ := hS
  refine ⟨E', hl, ρ, fun t' y hy => ?_, h.hr, h.own, h.keep, h.bad, h.nb, h.size, h.defers, h.fx⟩
  rw [look_cons] at hy
  split at hy
  · next e => subst e; injection hy with hy; subst hy; exact h.fr t _ hx
  · exact h.fr t' y hy
theorem BdF.lt {B b : Nat} {v : Value} {l : List UInt8} {w : World} (h : BdF T e B b v l w) : b < w.heap.size ∧ ∀ g, v.ownBlock = some g → g < w.heap.size ∧ B ≤ g := by
  obtain ⟨h1, ⟨p, hp, hb⟩, h3, h4⟩ := h
  have hlt : ∀ {g : Nat} {x : Obj}, w.heap[g]? = some x → g < w.heap.size := fun {g x} hg => by
    rcases Nat.lt_or_ge g w.heap.size with h | h
    · exact h
    · simp [Array.getElem?_eq_none h] at hg
  refine ⟨hlt hb, fun g hg => ?_⟩
  rcases h3.2 with ⟨rfl, _⟩ | ⟨g', cap, cur, rfl, q1, q2, _⟩
  · simp [Value.ownBlock] at hg
  · simp [Value.ownBlock] at hg
    subst hg
    exact ⟨hlt q2, q1⟩
/-- It depends on its own blocks alone. -/
theorem BdF.kept {B b : Nat} {v : Value} {l : List UInt8} {w w' : World} (h : BdF T e B b v l w) (hb : w'.heap[b]? = w.heap[b]?) (hg : ∀ g, v.ownBlock = some g → w'.heap[g]? = w.heap[g]?) : BdF T e B b v l w' := by
  obtain ⟨h1, ⟨p, hp, hb'⟩, h3, h4⟩ := h
  refine ⟨h1, ⟨p, hp, hb.trans hb'⟩, ⟨h3.1, ?_⟩, h4⟩
  rcases h3.2 with h | ⟨g', cap, cur, rfl, q1, q2, q3⟩
  · exact .inl h
  · exact .inr ⟨g', cap, cur, rfl, q1, (hg g' (by simp [Value.ownBlock])).trans q2, q3⟩
theorem ownB_lt {E : Env} {ρ : Nat → Loc} {st : St} {a : Act} {w : World} (hS : SR E ρ st a w) {x : Nat} (h : ownB ρ st.hp x) : x < w.heap.size := by
  obtain ⟨k, cs, h1, h2, rfl⟩ := h
  exact ((hS.hr.obj k cs h1).mem h2).1
/-- What is asked of WriteString, WriteByte and String. -/
structure WrS (P : Program) (T e : TypeId) (f : FuncId) : Prop where
  cl : callable P f = true
  go : ∀ (B b : Nat) (v : Value) (l s : List UInt8) (w : World), BdF T e B b v l w → l.length + s.length ≤ 140737488355328 → B ≤ w.heap.size →
    Calls P f #[.pointer (some ⟨b, 0, none⟩), .string (str s)] w fun x w' => x = .returned (.tuple #[.int .i64 s.length, .nilIface]) ∧ ∃ v', BdF T e B b v' (l ++ s) w' ∧ Keeps w w' (fun x => x = b ∨ v.ownBlock = some x) ∧ ∀ g, v'.ownBlock = some g → v.ownBlock = some g ∨ w.heap.size ≤ g
/-- What speaks of no memory. -/
def flats : List (Nat × AV) → List (Nat × AV)
  | [] => []
  | (i, x) :: r => if flatA x = true then (i, x) :: flats r else (i, .un) :: flats r
theorem flats_nil : flats [] = [] := rfl
theorem flats_cons (i : Nat) (x : AV) (r : List (Nat × AV)) : flats ((i, x) :: r) = if flatA x = true then (i, x) :: flats r else (i, .un) :: flats r := rfl
end
attribute [go_sem] flats_nil flats_cons
theorem flatA_v (x : Value) : flatA (.v x) = true := rfl
theorem flatA_un : flatA .un = true := rfl
theorem flatA_rd (n : Nat) (cs : List AV) : flatA (.rd n cs) = false := rfl
theorem flatA_rp (cs : List AV) : flatA (.rp cs) = false := rfl
theorem flatA_os (k o s n : Nat) : flatA (.os k o s n) = false := rfl
theorem flatA_pt (k o : Nat) : flatA (.pt k o) = false := rfl
theorem flatA_fn (f : FuncId) (cs : List AV) : flatA (.fn f cs) = false := rfl
theorem flatA_ag (cs : List AV) : flatA (.ag cs) = cs.all flatC := rfl
theorem flatA_tp (cs : List AV) : flatA (.tp cs) = cs.all flatP := rfl
theorem flatC_v (x : Value) : flatC (.v x) = true := rfl
theorem flatP_v (x : Value) : flatP (.v x) = true := rfl
theorem flatC_rd (n : Nat) (cs : List AV) : flatC (.rd n cs) = false := rfl
theorem flatP_rd (n : Nat) (cs : List AV) : flatP (.rd n cs) = false := rfl
attribute [go_sem] flatA_v flatA_un flatA_rd flatA_rp flatA_os flatA_pt flatA_fn flatA_ag flatA_tp flatC_v flatP_v flatC_rd flatP_rd
end Go.Proofs.YtgbhjlkenfmadaaGreatDoor

/- The abstract machine, part 23: nil slices in objects, results with several objects. No program is named here. -/
namespace Go.Proofs.YtgbhjlkenfmadaaGreatDoor
open Go.RowKit
set_option linter.unusedVariables false
set_option linter.unusedSimpArgs false
section
variable {P : Program} {Q : Exit → St → Prop} {c : Code} {fr : List (Nat × AV)} {hp : Hp} {nt : Nat} {fx : List Nat}
/-- In the object k, the cells are said otherwise. -/
theorem SR.re {E : Env} {ρ : Nat → Loc} {a : Act} {w : World} (k : Nat) {cs cs' : List AV} (hk : look hp k = some cs) (hl : cs'.length = cs.length) (hre : ∀ (j : Nat) (x y : AV) (v : Value), cs[j]? = some x → cs'[j]? = some y → Rep w (avd E.bad ρ hp) ρ x v → Rep w (avd E.bad ρ hp) ρ y v) (hS : SR E ρ ⟨fr, hp, nt, fx⟩ a w) : SR E ρ ⟨fr, hset k cs' hp, nt, fx⟩ a w := by
  have hlook : ∀ j, look (hset k cs' hp) j = if j = k then some cs' else look hp j := look_hset k _ hp
  have hown : ownB ρ (hset k cs' hp) = ownB ρ hp := by
    funext b
    apply propext
    constructor
    · rintro ⟨j, c', h1, h2⟩
      rw [hlook] at h1
      split at h1
      · next e => subst e; exact ⟨j, cs, hk, h2⟩
      · exact ⟨j, c', h1, h2⟩
    · rintro ⟨j, c', h1, h2⟩
      by_cases e : j = k
      · subst e; exact ⟨j, _, by rw [hlook, if_pos rfl], h2⟩
      · exact ⟨j, c', by rw [hlook, if_neg e]; exact h1, h2⟩
  have eav : avd E.bad ρ (hset k cs' hp) = avd E.bad ρ hp := by unfold avd; rw [hown]
  have g : ∀ i c, (if i = k then some cs' else look hp i) = some c → ∃ c0, look hp i = some c0 := fun i c hi => by
    split at hi
    · next e => subst e; exact ⟨cs, hk⟩
    · exact ⟨c, hi⟩
  refine ⟨fun t x hx => by simp only [eav]; exact hS.fr t x hx, ⟨fun j c' hj => ?_, fun j j' c1 c2 h1 h2 => ?_⟩, by simp only [hown]; exact hS.own, hS.keep, hS.bad, by simp only [hown]; exact hS.nb, hS.size, hS.defers, hS.fx⟩
  · simp only [eav]
    simp only [hlook] at hj
    split at hj
    · next e =>
      subst e
      injection hj with hj
      subst hj
      have hob := hS.hr.obj j cs hk
      refine ⟨by rw [hl]; exact hob.len, hob.mem, fun i x hx => ?_⟩
      have hi : i < cs.length := by rw [← hl]; exact (List.getElem?_eq_some_iff.1 hx).1
      obtain ⟨v, hv, hr⟩ := hob.cells i cs[i] (List.getElem?_eq_getElem hi)
      exact ⟨v, hv, hre i _ x v (List.getElem?_eq_getElem hi) hx hr⟩
    · exact hS.hr.obj j c' hj
  · simp only [hlook] at h1 h2
    obtain ⟨c0, g1⟩ := g j c1 h1
    obtain ⟨c1', g2⟩ := g j' c2 h2
    exact hS.hr.dis j j' c0 c1' g1 g2
end
end Go.Proofs.YtgbhjlkenfmadaaGreatDoor

/- The abstract machine, part 25: an own object is given up. No program is named here. -/
namespace Go.Proofs.YtgbhjlkenfmadaaGreatDoor
open Go.RowKit
set_option linter.unusedVariables false
set_option linter.unusedSimpArgs false
section
variable {P : Program} {Q : Exit → St → Prop} {c : Code} {fr : List (Nat × AV)} {hp : Hp} {nt : Nat} {fx : List Nat}
/-- An own object is given up: it is data from now on. -/
theorem S_pub {E : Env} {a : Act} {w : World} (t k : Nat) {off sz n : Nat} {cs : List AV} (ht : look fr t = some (.os k off sz n)) (hk : look hp k = some cs) (hl : off + n * sz ≤ cs.length) (hd : ((cs.drop off).take (n * sz)).all dataC = true) (hS : S E ⟨fr, hp, nt, fx⟩ a w) :
    S E ⟨(t, .rd n ((cs.drop off).take (n * sz))) :: fr, cut k hp, nt, fx⟩ a w := by
  obtain ⟨ρ, hS⟩ := hS
  have hlook : ∀ j, look (cut k hp) j = if j = k then none else look hp j := look_cut k hp
  have hmem : ∀ {j : Nat} {c : List AV}, look (cut k hp) j = some c → j ≠ k ∧ look hp j = some c := fun {j c} h => by
    rw [hlook] at h
    split at h
    · cases h
    · next hne => exact ⟨hne, h⟩
  have hown : ∀ b, ownB ρ (cut k hp) b → ownB ρ hp b := fun b ⟨j, c, h1, h2⟩ => ⟨j, c, (hmem h1).2, h2⟩
  have hav : ∀ b, avd E.bad ρ (cut k hp) b → avd E.bad ρ hp b := fun b hb => hb.imp id (hown b)
  refine ⟨ρ, fun t' x hx => ?_, ⟨fun j c hj => ?_, fun j j' c c' h1 h2 => hS.hr.dis j j' c c' (hmem h1).2 (hmem h2).2⟩, fun b hb => hS.own b (hown b hb), hS.keep, hS.bad, fun b hb => hS.nb b (hown b hb), hS.size, hS.defers, hS.fx⟩
  · rw [look_cons] at hx
    split at hx
    · next e =>
      subst e
      injection hx with hx
      subst hx
      refine roC_sound (keep := keysH (cut k hp)) hS.hr.obj (fun b _ hb => hav b hb) (fun j c h1 h2 h3 h4 => ?_) (hS.fr t _ ht) (roC_os (fun h => ?_) hk hl hd)
      · have hjk : j = k := Classical.byContradiction fun hne => h2 (look_keys (cs := c) (by rw [hlook, if_neg hne]; exact h1))
        subst hjk
        rcases h4 with h4 | ⟨j', c', g1, g2, g3⟩
        · exact hS.nb _ ⟨j, c, h1, h3, rfl⟩ h4
        · exact hS.hr.dis j' j c' c (hmem g1).2 h1 (hmem g1).1 g2 h3 g3
      · obtain ⟨p, hp1, hp2⟩ := List.mem_map.1 h
        have : ∃ c, look (cut k hp) k = some c := by
          have gen : ∀ (l : Hp), p ∈ l → ∃ c, look l p.1 = some c := fun l hl => by
            induction l with
            | nil => cases hl
            | cons q r ih =>
              obtain ⟨i, y⟩ := q
              rw [look_cons]
              split
              · exact ⟨y, rfl⟩
              · next hne =>
                rcases List.mem_cons.1 hl with e | e
                · rw [e] at hne; exact absurd rfl hne
                · exact ih e
          have h3 := gen _ hp1
          rw [hp2] at h3
          exact h3
        obtain ⟨c, hc⟩ := this
        exact (hmem hc).1 rfl
    · exact (hS.fr t' x hx).tr (Nat.le_refl _) (fun _ _ _ _ => rfl) (fun b _ hb => hav b hb) (fun _ h => absurd rfl h)
  · exact (hS.hr.obj j c (hmem hj).2).tr (Nat.le_refl _) (fun _ => rfl) (fun _ _ _ _ => rfl) (fun b _ hb => hav b hb) (fun _ h => absurd rfl h)
theorem awO_pub {ops : Array Oper} {l : List Oper} (t k : Nat) {off sz n : Nat} {cs : List AV} (ht : look fr t = some (.os k off sz n)) (hk : look hp k = some cs) (hl : off + n * sz ≤ cs.length) (hd : ((cs.drop off).take (n * sz)).all dataC = true) (h : awO P ops l ⟨(t, .rd n ((cs.drop off).take (n * sz))) :: fr, cut k hp, nt, fx⟩ Q) : awO P ops l ⟨fr, hp, nt, fx⟩ Q :=
  fun E a w hS => h E a w (S_pub t k ht hk hl hd hS)
end
theorem cut_nil (k : Nat) : cut k ([] : Hp) = [] := rfl
theorem cut_cons (k i : Nat) (x : List AV) (r : Hp) : cut k ((i, x) :: r) = if i = k then cut k r else (i, x) :: cut k r := rfl
attribute [go_sem] cut_nil cut_cons
end Go.Proofs.YtgbhjlkenfmadaaGreatDoor

/- The abstract machine, part 26: joins. What a piece of code leaves behind is said once, whichever way it went. No program is named here. -/
namespace Go.Proofs.YtgbhjlkenfmadaaGreatDoor
open Go.RowKit
set_option linter.unusedVariables false
set_option linter.unusedSimpArgs false
section
variable {P : Program} {Q : Exit → St → Prop} {x y : Code} {fr : List (Nat × AV)} {hp : Hp} {nt : Nat} {fx : List Nat}
/-- A struct of two parts is built, with an own object that is given up. -/
theorem awO_pb2 {ops : Array Oper} {rest : List Oper} {o : Oper} {T : TypeId} {t k i j : Nat} {u : Operand} {off sz n : Nat} {cs : List AV} (ho : o.op = .build T [(i, u), (j, .tmp t)].toArray) (ht : look fr t = some (.os k off sz n)) (hk : look hp k = some cs) (hl : off + n * sz ≤ cs.length) (hd : ((cs.drop off).take (n * sz)).all dataC = true) (h : awO P ops (o :: rest) ⟨(t, .rd n ((cs.drop off).take (n * sz))) :: fr, cut k hp, nt, fx⟩ Q) : awO P ops (o :: rest) ⟨fr, hp, nt, fx⟩ Q := awO_pub t k ht hk hl hd h
end
/-! ### Scopes and labels, without jumps -/
/-- A slice of bools, made. -/
def fls (n : Nat) : List Bool := List.replicate n false
theorem fls_len (n : Nat) : (fls n).length = n := by simp [fls]
attribute [go_sem] fls_len
theorem flat2_at1 {α : Type} {f0 f1 : α → AV} {L : List α} {k : Nat} (hk : k < L.length) : (L.flatMap fun x => [f0 x, f1 x]).drop (k * 2 + 1) = f1 L[k] :: (L.drop (k + 1)).flatMap fun x => [f0 x, f1 x] := by rw [← List.drop_drop, flat2_drop hk]; rfl
theorem flat3_at1 {α : Type} {f0 f1 f2 : α → AV} {L : List α} {k : Nat} (hk : k < L.length) : (L.flatMap fun x => [f0 x, f1 x, f2 x]).drop (k * 3 + 1) = f1 L[k] :: f2 L[k] :: (L.drop (k + 1)).flatMap fun x => [f0 x, f1 x, f2 x] := by rw [← List.drop_drop, flat3_drop hk]; rfl
theorem flat3_at2 {α : Type} {f0 f1 f2 : α → AV} {L : List α} {k : Nat} (hk : k < L.length) : (L.flatMap fun x => [f0 x, f1 x, f2 x]).drop (k * 3 + 2) = f2 L[k] :: (L.drop (k + 1)).flatMap fun x => [f0 x, f1 x, f2 x] := by rw [← List.drop_drop, flat3_drop hk]; rfl
theorem flat4_at1 {α : Type} {f0 f1 f2 f3 : α → AV} {L : List α} {k : Nat} (hk : k < L.length) : (L.flatMap fun x => [f0 x, f1 x, f2 x, f3 x]).drop (k * 4 + 1) = f1 L[k] :: f2 L[k] :: f3 L[k] :: (L.drop (k + 1)).flatMap fun x => [f0 x, f1 x, f2 x, f3 x] := by rw [← List.drop_drop, flat4_drop hk]; rfl
theorem flat4_at2 {α : Type} {f0 f1 f2 f3 : α → AV} {L : List α} {k : Nat} (hk : k < L.length) : (L.flatMap fun x => [f0 x, f1 x, f2 x, f3 x]).drop (k * 4 + 2) = f2 L[k] :: f3 L[k] :: (L.drop (k + 1)).flatMap fun x => [f0 x, f1 x, f2 x, f3 x] := by rw [← List.drop_drop, flat4_drop hk]; rfl
theorem flat4_at3 {α : Type} {f0 f1 f2 f3 : α → AV} {L : List α} {k : Nat} (hk : k < L.length) : (L.flatMap fun x => [f0 x, f1 x, f2 x, f3 x]).drop (k * 4 + 3) = f3 L[k] :: (L.drop (k + 1)).flatMap fun x => [f0 x, f1 x, f2 x, f3 x] := by rw [← List.drop_drop, flat4_drop hk]; rfl
theorem flat5_at1 {α : Type} {f0 f1 f2 f3 f4 : α → AV} {L : List α} {k : Nat} (hk : k < L.length) : (L.flatMap fun x => [f0 x, f1 x, f2 x, f3 x, f4 x]).drop (k * 5 + 1) = f1 L[k] :: f2 L[k] :: f3 L[k] :: f4 L[k] :: (L.drop (k + 1)).flatMap fun x => [f0 x, f1 x, f2 x, f3 x, f4 x] := by rw [← List.drop_drop, flat5_drop hk]; rfl
theorem flat5_at2 {α : Type} {f0 f1 f2 f3 f4 : α → AV} {L : List α} {k : Nat} (hk : k < L.length) : (L.flatMap fun x => [f0 x, f1 x, f2 x, f3 x, f4 x]).drop (k * 5 + 2) = f2 L[k] :: f3 L[k] :: f4 L[k] :: (L.drop (k + 1)).flatMap fun x => [f0 x, f1 x, f2 x, f3 x, f4 x] := by rw [← List.drop_drop, flat5_drop hk]; rfl
theorem flat5_at3 {α : Type} {f0 f1 f2 f3 f4 : α → AV} {L : List α} {k : Nat} (hk : k < L.length) : (L.flatMap fun x => [f0 x, f1 x, f2 x, f3 x, f4 x]).drop (k * 5 + 3) = f3 L[k] :: f4 L[k] :: (L.drop (k + 1)).flatMap fun x => [f0 x, f1 x, f2 x, f3 x, f4 x] := by rw [← List.drop_drop, flat5_drop hk]; rfl
theorem flat5_at4 {α : Type} {f0 f1 f2 f3 f4 : α → AV} {L : List α} {k : Nat} (hk : k < L.length) : (L.flatMap fun x => [f0 x, f1 x, f2 x, f3 x, f4 x]).drop (k * 5 + 4) = f4 L[k] :: (L.drop (k + 1)).flatMap fun x => [f0 x, f1 x, f2 x, f3 x, f4 x] := by rw [← List.drop_drop, flat5_drop hk]; rfl
theorem flat6_at1 {α : Type} {f0 f1 f2 f3 f4 f5 : α → AV} {L : List α} {k : Nat} (hk : k < L.length) : (L.flatMap fun x => [f0 x, f1 x, f2 x, f3 x, f4 x, f5 x]).drop (k * 6 + 1) = f1 L[k] :: f2 L[k] :: f3 L[k] :: f4 L[k] :: f5 L[k] :: (L.drop (k + 1)).flatMap fun x => [f0 x, f1 x, f2 x, f3 x, f4 x, f5 x] := by rw [← List.drop_drop, flat6_drop hk]; rfl
theorem flat6_at2 {α : Type} {f0 f1 f2 f3 f4 f5 : α → AV} {L : List α} {k : Nat} (hk : k < L.length) : (L.flatMap fun x => [f0 x, f1 x, f2 x, f3 x, f4 x, f5 x]).drop (k * 6 + 2) = f2 L[k] :: f3 L[k] :: f4 L[k] :: f5 L[k] :: (L.drop (k + 1)).flatMap fun x => [f0 x, f1 x, f2 x, f3 x, f4 x, f5 x] := by rw [← List.drop_drop, flat6_drop hk]; rfl
theorem flat6_at3 {α : Type} {f0 f1 f2 f3 f4 f5 : α → AV} {L : List α} {k : Nat} (hk : k < L.length) : (L.flatMap fun x => [f0 x, f1 x, f2 x, f3 x, f4 x, f5 x]).drop (k * 6 + 3) = f3 L[k] :: f4 L[k] :: f5 L[k] :: (L.drop (k + 1)).flatMap fun x => [f0 x, f1 x, f2 x, f3 x, f4 x, f5 x] := by rw [← List.drop_drop, flat6_drop hk]; rfl
theorem flat6_at4 {α : Type} {f0 f1 f2 f3 f4 f5 : α → AV} {L : List α} {k : Nat} (hk : k < L.length) : (L.flatMap fun x => [f0 x, f1 x, f2 x, f3 x, f4 x, f5 x]).drop (k * 6 + 4) = f4 L[k] :: f5 L[k] :: (L.drop (k + 1)).flatMap fun x => [f0 x, f1 x, f2 x, f3 x, f4 x, f5 x] := by rw [← List.drop_drop, flat6_drop hk]; rfl
theorem flat6_at5 {α : Type} {f0 f1 f2 f3 f4 f5 : α → AV} {L : List α} {k : Nat} (hk : k < L.length) : (L.flatMap fun x => [f0 x, f1 x, f2 x, f3 x, f4 x, f5 x]).drop (k * 6 + 5) = f5 L[k] :: (L.drop (k + 1)).flatMap fun x => [f0 x, f1 x, f2 x, f3 x, f4 x, f5 x] := by rw [← List.drop_drop, flat6_drop hk]; rfl
attribute [go_sem] flat2_at1 flat3_at1 flat3_at2 flat4_at1 flat4_at2 flat4_at3 flat5_at1 flat5_at2 flat5_at3 flat5_at4 flat6_at1 flat6_at2 flat6_at3 flat6_at4 flat6_at5
end Go.Proofs.YtgbhjlkenfmadaaGreatDoor
