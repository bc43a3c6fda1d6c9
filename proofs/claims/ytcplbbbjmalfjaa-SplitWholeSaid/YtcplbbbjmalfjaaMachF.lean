/- The abstract machine, part 6: objects made and changed. No program is named here. -/
import Derived.Test.YtcplbbbjmalfjaaMachE
namespace Go.Proofs.Ytcplbbbjmalfjaa
open Go.RowKit
set_option linter.unusedVariables false
set_option linter.unusedSimpArgs false

def killX (k : Nat) (x : AV) : AV := if mentM k x = true then .un else x
def killC (k : Nat) (x : AV) : AV := if cellM k x = true then .un else x
theorem ment_killX (k : Nat) (x : AV) : mentM k (killX k x) = false := by
  unfold killX
  split
  · rfl
  · next h => simpa using h
theorem ment_killC (k : Nat) (x : AV) : mentM k (killC k x) = false := by
  unfold killC
  split
  · rfl
  · next h => exact mentM_of_cellM (by simpa using h)
def rset (ρ : Nat → Loc) (k : Nat) (L : Loc) : Nat → Loc := fun j => if j = k then L else ρ j
theorem rset_same (ρ : Nat → Loc) (k : Nat) (L : Loc) : rset ρ k L k = L := by simp [rset]
theorem rset_ne (ρ : Nat → Loc) {k j : Nat} (L : Loc) (h : j ≠ k) : rset ρ k L j = ρ j := by simp [rset, h]
/-- The object k is now cs, at a new place: nothing speaks of the old one. -/
def St.fresh (st : St) (k : Nat) (cs : List AV) : St := ⟨turn (killX k) st.fr, hset k cs (turn (List.map (killC k)) st.hp), st.nt, st.fx⟩

section
variable {P : Program} {E : Env} {ρ : Nat → Loc} {st : St} {a : Act} {w w' : World}
theorem Rep.killX {av : Nat → Prop} {x : AV} {v : Value} (k : Nat) (h : Rep w av ρ x v) : Rep w av ρ (killX k x) v := by
  unfold Go.Proofs.Ytcplbbbjmalfjaa.killX
  split
  · exact .im (.un _)
  · exact h
theorem Rep.killC {av : Nat → Prop} {x : AV} {v : Value} (k : Nat) (h : Rep w av ρ x v) : Rep w av ρ (killC k x) v := by
  unfold Go.Proofs.Ytcplbbbjmalfjaa.killC
  split
  · exact .im (.un _)
  · exact h
/-- The block of the object k, if it has one. -/
def blockOf (ρ : Nat → Loc) (hp : Hp) (k b : Nat) : Prop := ∃ cs, look hp k = some cs ∧ 0 < (ρ k).cap ∧ (ρ k).g = b
theorem look_fresh (st : St) (k : Nat) (cs : List AV) (j : Nat) : look (st.fresh k cs).hp j = if j = k then some cs else (look st.hp j).map (List.map (killC k)) := by
  simp only [St.fresh, look_hset, look_turn]
theorem SR.fresh (h : SR E ρ st a w) (k : Nat) (hfx : k ∉ st.fx) (L : Loc) (cs : List AV) (hos : w'.os = w.os) (ht : w'.tape = w.tape) (ho : w'.output = w.output) (hs : w.heap.size ≤ w'.heap.size)
    (hblk : ∀ b, b < w.heap.size → ¬ blockOf ρ st.hp k b → w'.heap[b]? = w.heap[b]?) (hL : 0 < L.cap → blockOf ρ st.hp k L.g ∨ w.heap.size ≤ L.g)
    (hlen : cs.length ≤ L.cap) (hmem : 0 < L.cap → L.g < w'.heap.size ∧ w'.there L.g L.off L.cap)
    (hcells : ∀ (j : Nat) (x : AV), cs[j]? = some x → ∃ v, w'.cell? ⟨L.g, L.off + j, none⟩ = some v ∧ Rep w (avd E.bad ρ st.hp) ρ x v) (hm : ∀ x ∈ cs, mentM k x = false) :
    SR E (rset ρ k L) (st.fresh k cs) a w' := by
  have hown : ∀ b, b < w.heap.size → ownB (rset ρ k L) (st.fresh k cs).hp b → ownB ρ st.hp b := by
    rintro b hb ⟨j, cs', hj, hc, hg⟩
    rw [look_fresh] at hj
    split at hj
    · next e =>
      subst e
      rw [rset_same] at hc hg
      rcases hL hc with ⟨cs0, h1, h2, h3⟩ | hge
      · exact ⟨j, cs0, h1, h2, h3.trans hg⟩
      · omega
    · next e =>
      rw [rset_ne _ _ e] at hc hg
      obtain ⟨c0, h0, _⟩ := Option.map_eq_some_iff.1 hj
      exact ⟨j, c0, h0, hc, hg⟩
  have hav : ∀ b, b < w.heap.size → avd E.bad (rset ρ k L) (st.fresh k cs).hp b → avd E.bad ρ st.hp b := fun b hb h' => h'.imp id (hown b hb)
  have hcell : ∀ b o, b < w.heap.size → ¬ avd E.bad ρ st.hp b → w'.cell? ⟨b, o, none⟩ = w.cell? ⟨b, o, none⟩ := fun b o hb hn =>
    World.cell?_of_block (w := w) (a := ⟨b, o, none⟩) (hblk b hb fun ⟨cs0, h1, h2, h3⟩ => hn (.inr ⟨k, cs0, h1, h2, h3⟩))
  have hρ : ∀ j, rset ρ k L j ≠ ρ j → j = k := fun j hj => Classical.byContradiction fun e => hj (rset_ne _ _ e)
  refine ⟨fun t x hx => ?_, ⟨fun j cs' hj => ?_, ?_⟩, ?_, ?_, h.bad, ?_, h.size, h.defers, fun j hj => (rset_ne ρ L (fun e : j = k => hfx (by rw [← e]; exact hj))).trans (h.fx j hj)⟩
  · simp only [St.fresh, look_turn, Option.map_eq_some_iff] at hx
    obtain ⟨y, hy, rfl⟩ := hx
    exact ((h.fr t y hy).killX k).tr hs hcell hav (fun j hj => by rw [hρ j hj]; exact ment_killX k y)
  · rw [look_fresh] at hj
    split at hj
    · next e =>
      subst e
      injection hj with hj
      subst hj
      rw [rset_same]
      refine ⟨hlen, hmem, fun i x hx => ?_⟩
      obtain ⟨v, hv, hr⟩ := hcells i x hx
      exact ⟨v, hv, hr.tr hs hcell hav (fun i hi => by rw [hρ i hi]; exact hm x (List.mem_of_getElem? hx))⟩
    · next e =>
      obtain ⟨c0, h0, rfl⟩ := Option.map_eq_some_iff.1 hj
      rw [rset_ne _ _ e]
      have hob := h.hr.obj j c0 h0
      have h1 : ObjR w (avd E.bad ρ st.hp) ρ (ρ j) (c0.map (Go.Proofs.Ytcplbbbjmalfjaa.killC k)) := ⟨by simpa using hob.len, hob.mem, fun i x hx => by
        rw [List.getElem?_map, Option.map_eq_some_iff] at hx
        obtain ⟨y, hy, rfl⟩ := hx
        obtain ⟨v, hv, hr⟩ := hob.cells i y hy
        exact ⟨v, hv, hr.killC k⟩⟩
      refine h1.tr hs (fun hc => hblk _ (hob.mem hc).1 fun ⟨cs0, q1, q2, q3⟩ => ?_) hcell hav (fun i hi x hx => ?_)
      · exact h.hr.dis j k c0 cs0 h0 q1 e hc q2 q3.symm
      · rw [hρ i hi]
        obtain ⟨y, _, rfl⟩ := List.mem_map.1 hx
        exact ment_killC k y
  · intro j j' cs1 cs2 h1 h2 hne hc hc'
    rw [look_fresh] at h1 h2
    by_cases e : j = k
    · subst e
      rw [if_neg (fun e => hne e.symm)] at h2
      obtain ⟨c0, h0, _⟩ := Option.map_eq_some_iff.1 h2
      rw [rset_same] at hc ⊢
      rw [rset_ne _ _ (fun e => hne e.symm)] at hc' ⊢
      rcases hL hc with ⟨cs0, q1, q2, q3⟩ | hge
      · rw [← q3]; exact h.hr.dis _ _ _ _ q1 h0 hne q2 hc'
      · have := ((h.hr.obj _ _ h0).mem hc').1; omega
    · rw [if_neg e] at h1
      obtain ⟨c1, h1', _⟩ := Option.map_eq_some_iff.1 h1
      rw [rset_ne _ _ e] at hc ⊢
      by_cases e' : j' = k
      · subst e'
        rw [rset_same] at hc' ⊢
        rcases hL hc' with ⟨cs0, q1, q2, q3⟩ | hge
        · rw [← q3]; exact h.hr.dis _ _ _ _ h1' q1 hne hc q2
        · have := ((h.hr.obj _ _ h1').mem hc).1; omega
      · rw [if_neg e'] at h2
        obtain ⟨c2, h2', _⟩ := Option.map_eq_some_iff.1 h2
        rw [rset_ne _ _ e'] at hc' ⊢
        exact h.hr.dis _ _ _ _ h1' h2' hne hc hc'
  · rintro b ⟨j, cs', hj, hc, hg⟩
    rw [look_fresh] at hj
    split at hj
    · next e =>
      subst e
      rw [rset_same] at hc hg
      subst hg
      rcases hL hc with ⟨cs0, q1, q2, q3⟩ | hge
      · exact h.own _ ⟨j, cs0, q1, q2, q3⟩
      · exact .inr (Nat.le_trans h.keep.size hge)
    · next e =>
      rw [rset_ne _ _ e] at hc hg
      obtain ⟨c0, h0, _⟩ := Option.map_eq_some_iff.1 hj
      exact h.own _ ⟨j, c0, h0, hc, hg⟩
  · refine ⟨hos.trans h.keep.os, ht.trans h.keep.tape, ho.trans h.keep.output, Nat.le_trans h.keep.size hs, fun b hb hn => ?_⟩
    refine (hblk b (Nat.lt_of_lt_of_le hb h.keep.size) fun ⟨cs0, q1, q2, q3⟩ => ?_).trans (h.keep.block b hb hn)
    rcases h.own b ⟨k, cs0, q1, q2, q3⟩ with hx | hge
    · exact hn hx
    · omega
  · intro b hb hbad
    have hlt := h.bad b hbad
    exact h.nb b (hown b (Nat.lt_of_lt_of_le hlt h.keep.size) hb) hbad

/-- A new object, in a new block. -/
theorem SR.made (h : SR E ρ st a w) (k : Nat) (hfx : k ∉ st.fx) (cs : List AV) (us : Array Value) (t : TypeId) {w1 : World} (hw1 : w1.heap = w.heap ∧ w1.os = w.os ∧ w1.tape = w.tape ∧ w1.output = w.output) (hr : RepC w (avd E.bad ρ st.hp) ρ cs us) (hm : ∀ x ∈ cs, mentM k x = false) :
    SR E (rset ρ k ⟨w.heap.size, 0, cs.length⟩) (st.fresh k cs) a (w1.alloc (.cells us t)) := by
  obtain ⟨e1, e2, e3, e4⟩ := hw1
  have hc : ∀ j, (w1.alloc (.cells us t)).cell? ⟨w.heap.size, j, none⟩ = us[j]? := fun j => by rw [← e1]; exact cell_alloc_new w1 us t j
  refine h.fresh k hfx _ cs e2 e3 e4 (by simp [e1]) (fun b hb _ => ?_) (fun _ => .inr (Nat.le_refl _)) (Nat.le_refl _) (fun _ => ⟨by simp [e1], fun j hj => ?_⟩) (fun j x hx => ?_) hm
  · rw [Below.heap_alloc w1 _ b (by rw [e1]; exact hb), e1]
  · refine ⟨?_, by rw [← e1]; exact frozen_alloc_new w1 us t (0 + j)⟩
    rw [Nat.zero_add, hc, Array.getElem?_eq_getElem (by rw [hr.1]; exact hj)]
    rfl
  · have hj : j < us.size := by rw [hr.1]; exact (List.getElem?_eq_some_iff.1 hx).1
    refine ⟨us[j], ?_, hr.2 j x us[j] hx (Array.getElem?_eq_getElem hj)⟩
    simp only [Nat.zero_add]
    rw [hc, Array.getElem?_eq_getElem hj]

/-! ### A store -/
def St.store (st : St) (k : Nat) (cs : List AV) : St := ⟨st.fr, hset k cs st.hp, st.nt, st.fx⟩
theorem look_store (st : St) (k : Nat) (cs : List AV) (j : Nat) : look (st.store k cs).hp j = if j = k then some cs else look st.hp j := by simp only [St.store, look_hset]
theorem SR.store (h : SR E ρ st a w) {k off : Nat} {cs xs : List AV} (hk : look st.hp k = some cs) (hle : off + xs.length ≤ cs.length) {us : Array Value} (hr : RepC w (avd E.bad ρ st.hp) ρ xs us) :
    SR E ρ (st.store k (setR cs off xs)) a (w.setCells (ρ k).g ((ρ k).off + off) us.toList) := by
  have hob := h.hr.obj k cs hk
  have hlen : us.toList.length = xs.length := by rw [Array.length_toList]; exact hr.1
  by_cases hcap : 0 < (ρ k).cap
  case neg =>
    have h0 : xs = [] := List.eq_nil_of_length_eq_zero (by have := hob.len; omega)
    subst h0
    have h1 : us.toList = [] := List.eq_nil_of_length_eq_zero hlen
    rw [h1]
    have e : ∀ j, look (st.store k (setR cs off [])).hp j = look st.hp j := fun j => by
      rw [look_store, setR_nil]
      split
      · next e => subst e; exact hk.symm
      · rfl
    have e2 : ownB ρ (st.store k (setR cs off [])).hp = ownB ρ st.hp := by funext b; simp only [ownB, e]
    have e3 : avd E.bad ρ (st.store k (setR cs off [])).hp = avd E.bad ρ st.hp := by unfold avd; rw [e2]
    refine ⟨fun t x hx => ?_, ⟨fun j cs' hj => ?_, fun j j' c c' h1 h2 => ?_⟩, ?_, h.keep, h.bad, ?_, h.size, h.defers, h.fx⟩
    · rw [e3]; exact h.fr t x hx
    · rw [e3]; exact h.hr.obj j cs' (by rwa [e] at hj)
    · rw [e] at h1 h2; exact h.hr.dis j j' c c' h1 h2
    · rw [e2]; exact h.own
    · rw [e2]; exact h.nb
  case pos =>
    have hown : ownB ρ (st.store k (setR cs off xs)).hp = ownB ρ st.hp := by
      funext b
      apply propext
      constructor
      · rintro ⟨j, c', h1, h2⟩
        rw [look_store] at h1
        split at h1
        · next e => subst e; exact ⟨j, cs, hk, h2⟩
        · exact ⟨j, c', h1, h2⟩
      · rintro ⟨j, c', h1, h2⟩
        by_cases e : j = k
        · subst e; exact ⟨j, _, by rw [look_store, if_pos rfl], h2⟩
        · exact ⟨j, c', by rw [look_store, if_neg e]; exact h1, h2⟩
    have eav : avd E.bad ρ (st.store k (setR cs off xs)).hp = avd E.bad ρ st.hp := by unfold avd; rw [hown]
    have hbl := below_setCells_or w (ρ k).g ((ρ k).off + off) us.toList
    have hsz := World.size_setCells w (ρ k).g ((ρ k).off + off) us.toList
    have hkown : ownB ρ st.hp (ρ k).g := ⟨k, cs, hk, hcap, rfl⟩
    have hcell : ∀ b o, b < w.heap.size → ¬ avd E.bad ρ st.hp b → (w.setCells (ρ k).g ((ρ k).off + off) us.toList).cell? ⟨b, o, none⟩ = w.cell? ⟨b, o, none⟩ := fun b o hb hn =>
      World.cell?_of_block (w := w) (a := ⟨b, o, none⟩) (hbl.2.2.2 b fun e => hn (.inr (by rw [e]; exact hkown)))
    have tr : ∀ {x : AV} {v : Value}, Rep w (avd E.bad ρ st.hp) ρ x v → Rep (w.setCells (ρ k).g ((ρ k).off + off) us.toList) (avd E.bad ρ st.hp) ρ x v := fun hx =>
      hx.tr (by omega) hcell (fun _ _ h => h) (fun _ hk => absurd rfl hk)
    refine ⟨fun t x hx => ?_, ⟨fun j cs' hj => ?_, fun j j' c c' h1 h2 => ?_⟩, ?_, ?_, h.bad, by rw [hown]; exact h.nb, h.size, h.defers, h.fx⟩
    · rw [eav]; exact tr (h.fr t x hx)
    · rw [eav]
      rw [look_store] at hj
      split at hj
      · next e =>
        subst e
        injection hj with hj
        subst hj
        refine ⟨by rw [setR_length]; exact hob.len, fun hc => ⟨by have := (hob.mem hc).1; omega, World.there_setCells (hob.mem hc).2 _ _ _⟩, fun i x hx => ?_⟩
        rw [setR_get _ _ _ _ hle] at hx
        split at hx
        · next hi =>
          have hiu : i - off < us.size := by rw [hr.1]; omega
          refine ⟨us[i - off], ?_, tr (hr.2 _ _ _ hx (Array.getElem?_eq_getElem hiu))⟩
          have := World.cell?_setCells_in (ρ j).g us.toList ((ρ j).off + off) w (fun i' hi' => by rw [Nat.add_assoc]; exact ((hob.mem hcap).2 (off + i') (by have := hob.len; omega)).1) (i - off) (by simpa using hiu)
          rw [show (ρ j).off + off + (i - off) = (ρ j).off + i from by omega] at this
          rw [this]
          simp
        · next hi =>
          obtain ⟨v, hv, hrep⟩ := hob.cells i x hx
          refine ⟨v, ?_, tr hrep⟩
          rw [World.cell?_setCells_out _ _ _ _ _ (fun _ _ => by simp only; omega)]
          exact hv
      · next e => exact (h.hr.obj j cs' hj).tr (by omega) (fun hc => hbl.2.2.2 _ (h.hr.dis j k cs' cs hj hk e hc hcap)) hcell (fun _ _ h => h) (fun _ hk => absurd rfl hk)
    · rw [look_store] at h1 h2
      have g : ∀ i c, (if i = k then some (setR cs off xs) else look st.hp i) = some c → ∃ c0, look st.hp i = some c0 := fun i c hi => by
        split at hi
        · next e => subst e; exact ⟨cs, hk⟩
        · exact ⟨c, hi⟩
      obtain ⟨c0, g1⟩ := g j c h1
      obtain ⟨c1, g2⟩ := g j' c' h2
      exact h.hr.dis j j' c0 c1 g1 g2
    · rw [hown]; exact h.own
    · refine ⟨hbl.1.trans h.keep.os, hbl.2.1.trans h.keep.tape, hbl.2.2.1.trans h.keep.output, by have := h.keep.size; omega, fun b hb hn => ?_⟩
      refine (hbl.2.2.2 b fun e => ?_).trans (h.keep.block b hb hn)
      subst e
      rcases h.own _ hkown with hx | hge
      · exact hn hx
      · omega
end
end Go.Proofs.Ytcplbbbjmalfjaa
