/- The abstract machine, parts P to U. No program is named here. -/
import Derived.Test.YtogmppcfopgkdaaGreatDoorMgB
import Derived.SizedLaws
/- The abstract machine, part 16: calls that change own objects; a nil slice as an own one. No program is named here. -/
namespace Go.Proofs.YtogmppcfopgkdaaGreatDoor
open Go.RowKit
set_option linter.unusedVariables false
set_option linter.unusedSimpArgs false
def keysH (h : Hp) : List Nat := h.map (·.1)
theorem keysH_nil : keysH [] = [] := rfl
theorem keysH_cons (k : Nat) (cs : List AV) (h : Hp) : keysH ((k, cs) :: h) = k :: keysH h := rfl
theorem look_keys {h : Hp} {k : Nat} {cs : List AV} (hk : look h k = some cs) : k ∈ keysH h := List.mem_map.2 ⟨(k, cs), look_mem hk, rfl⟩
def okRC (ks : List Nat) : AV → Bool
  | .os k _ _ _ => ks.contains k
  | .pt k _ => ks.contains k
  | .ag _ => false
  | .tp _ => false
  | .fn _ _ => false
  | .sp k => ks.contains k
  | _ => true
def okRP (ks : List Nat) : AV → Bool
  | .ag cs => cs.all (okRC ks)
  | x => okRC ks x
/-- Only these own objects are spoken of. -/
def okR (ks : List Nat) : AV → Bool
  | .tp vs => vs.all (okRP ks)
  | x => okRP ks x
theorem okRC_ment {ks : List Nat} {x : AV} (h : okRC ks x = true) {k : Nat} (hk : k ∉ ks) : cellM k x = false := by
  cases x <;> simp_all [okRC, cellM] <;> (intro e; subst e; exact hk h)
theorem okRP_ment {ks : List Nat} {x : AV} (h : okRP ks x = true) {k : Nat} (hk : k ∉ ks) : partM k x = false := by
  cases x with
  | ag cs =>
    simp only [okRP, List.all_eq_true] at h
    simp only [partM, List.any_eq_false]
    exact fun y hy => by simpa using okRC_ment (h y hy) hk
  | fn f cs => simp [okRP, okRC] at h
  | _ => exact okRC_ment (x := _) (by simpa [okRP] using h) hk
theorem okR_ment {ks : List Nat} {x : AV} (h : okR ks x = true) {k : Nat} (hk : k ∉ ks) : mentM k x = false := by
  cases x with
  | tp vs =>
    simp only [okR, List.all_eq_true] at h
    simp only [mentM, List.any_eq_false]
    exact fun y hy => by simpa using okRP_ment (h y hy) hk
  | ag cs => exact okRP_ment (x := .ag cs) h hk
  | _ => exact okRP_ment (x := _) (by simpa [okR] using h) hk
def killsX (ks : List Nat) (x : AV) : AV := if ks.any (fun k => mentM k x) = true then .un else x
def killsC (ks : List Nat) (x : AV) : AV := if ks.any (fun k => cellM k x) = true then .un else x
def cuts (ks js : List Nat) : Hp → Hp
  | [] => []
  | (i, x) :: r => if ks.contains i = true then cuts ks js r else (i, x.map (killsC js)) :: cuts ks js r
/-- Behind a call that has changed the objects h into h' (those of 'fix' lie where they lay). -/
def St.after (st : St) (d : Nat) (r : AV) (h h' : Hp) (fix : List Nat) : St :=
  ⟨(d, r) :: turn (killsX ((keysH h ++ keysH h').filter fun k => !fix.contains k)) st.fr, h' ++ cuts (keysH h ++ keysH h') ((keysH h ++ keysH h').filter fun k => !fix.contains k) st.hp, st.nt, st.fx⟩
theorem look_append {α : Type} (a b : List (Nat × α)) (k : Nat) : look (a ++ b) k = (look a k).or (look b k) := by
  induction a with
  | nil => simp [look]
  | cons p r ih =>
    obtain ⟨i, x⟩ := p
    rw [List.cons_append, look_cons, look_cons, ih]
    split <;> rfl
theorem look_cuts (ks js : List Nat) (h : Hp) (k : Nat) : look (cuts ks js h) k = if k ∈ ks then none else (look h k).map (List.map (killsC js)) := by
  induction h with
  | nil => simp [cuts, look]
  | cons p r ih =>
    obtain ⟨i, x⟩ := p
    rw [cuts]
    split
    · next hc =>
      rw [ih, look_cons]
      split
      · rfl
      · next hk =>
        rw [if_neg]
        intro e
        subst e
        exact hk (by simpa using hc)
    · next hc =>
      rw [look_cons, look_cons, ih]
      split
      · next e =>
        subst e
        rw [if_neg (by simpa using hc)]
        rfl
      · rfl
theorem ment_killsX {ks : List Nat} {k : Nat} (hk : k ∈ ks) (x : AV) : mentM k (killsX ks x) = false := by
  unfold killsX
  split
  · rfl
  · next h =>
    simp only [List.any_eq_true, not_exists, not_and] at h
    simpa using h k hk
theorem ment_killsC {ks : List Nat} {k : Nat} (hk : k ∈ ks) (x : AV) : mentM k (killsC ks x) = false := by
  unfold killsC
  split
  · rfl
  · next h =>
    simp only [List.any_eq_true, not_exists, not_and] at h
    exact mentM_of_cellM (by simpa using h k hk)
section
variable {P : Program} {E : Env} {ρ : Nat → Loc} {st : St} {a : Act} {w w' : World} {o : Oper}
theorem SR.after (hS : SR E ρ st a w) {h h' : Hp} {fix : List Nat} {r : AV} {v : Value} {ρ' : Nat → Loc} {d : Nat} (hd : d < st.nt) (hsub : subL h st.hp)
    (hrep : Rep w' (avd (fun b => avd E.bad ρ st.hp b ∧ ¬ ownB ρ h b) ρ' h') ρ' r v) (hhr : HR (fun b => avd E.bad ρ st.hp b ∧ ¬ ownB ρ h b) ρ' h' w') (hkeep : Keeps w w' (ownB ρ h))
    (hown : ∀ b, ownB ρ' h' b → (ownB ρ h b ∨ w.heap.size ≤ b) ∧ ¬ (avd E.bad ρ st.hp b ∧ ¬ ownB ρ h b)) (hfix : ∀ k ∈ fix, ρ' k = ρ k)
    (hr : okR (keysH h') r = true) (hc : h'.all (fun p => p.2.all (okR (keysH h'))) = true) (hfx : st.fx.all (fun k => !(keysH h').contains k || fix.contains k) = true) :
    SR E (fun k => if k ∈ keysH h' then ρ' k else ρ k) (st.after d r h h' fix) (a.put (some d) v) w' := by
  have hlh : ∀ k cs, look h k = some cs → look st.hp k = some cs := fun k cs hk => subL_spec hsub _ (look_mem hk)
  have ownh : ∀ b, ownB ρ h b → ownB ρ st.hp b := fun b ⟨k, cs, h1, h2⟩ => ⟨k, cs, hlh k cs h1, h2⟩
  have hρ' : ∀ k, k ∈ keysH h' → (if k ∈ keysH h' then ρ' k else ρ k) = ρ' k := fun k hk => if_pos hk
  have hlook : ∀ k, look (st.after d r h h' fix).hp k = (look h' k).or (if k ∈ keysH h ++ keysH h' then none else (look st.hp k).map (List.map (killsC ((keysH h ++ keysH h').filter fun k => !fix.contains k)))) := fun k => by
    simp only [St.after, look_append, look_cuts]
  -- the blocks that are owned now
  have own2 : ∀ b, ownB (fun k => if k ∈ keysH h' then ρ' k else ρ k) (st.after d r h h' fix).hp b → ownB ρ' h' b ∨ (ownB ρ st.hp b ∧ ¬ ownB ρ h b) := by
    rintro b ⟨k, cs, hk, hcap, hg⟩
    rw [hlook] at hk
    cases hh : look h' k with
    | some cs' =>
      have hm := look_keys hh
      simp only [hm, if_true] at hcap hg
      exact .inl ⟨k, cs', hh, hcap, hg⟩
    | none =>
      rw [hh, Option.none_or] at hk
      split at hk
      · cases hk
      · next hn =>
        obtain ⟨c0, h0, _⟩ := Option.map_eq_some_iff.1 hk
        have hn' : k ∉ keysH h' := fun e => hn (List.mem_append_right _ e)
        simp only [hn', if_false] at hcap hg
        refine .inr ⟨⟨k, c0, h0, hcap, hg⟩, ?_⟩
        rintro ⟨j, cj, g1, g2, g3⟩
        exact hS.hr.dis j k cj c0 (hlh j cj g1) h0 (fun e => hn (List.mem_append_left _ (by rw [← e]; exact look_keys g1))) g2 hcap (g3.trans hg.symm)
  have av2 : ∀ b, avd E.bad (fun k => if k ∈ keysH h' then ρ' k else ρ k) (st.after d r h h' fix).hp b → avd (fun b => avd E.bad ρ st.hp b ∧ ¬ ownB ρ h b) ρ' h' b := by
    rintro b (hb | hb)
    · exact .inl ⟨.inl hb, fun e => hS.nb b (ownh b e) hb⟩
    · rcases own2 b hb with h1 | ⟨h1, h2⟩
      · exact .inr h1
      · exact .inl ⟨.inr h1, h2⟩
  have av1 : ∀ b, b < w.heap.size → avd E.bad (fun k => if k ∈ keysH h' then ρ' k else ρ k) (st.after d r h h' fix).hp b → avd E.bad ρ st.hp b := by
    rintro b hlt (hb | hb)
    · exact .inl hb
    · rcases own2 b hb with h1 | ⟨h1, _⟩
      · rcases (hown b h1).1 with h2 | h2
        · exact .inr (ownh b h2)
        · omega
      · exact .inr h1
  have hcell : ∀ b q, b < w.heap.size → ¬ avd E.bad ρ st.hp b → w'.cell? ⟨b, q, none⟩ = w.cell? ⟨b, q, none⟩ := fun b q hlt hn =>
    World.cell?_of_block (w := w) (a := ⟨b, q, none⟩) (hkeep.block b hlt fun e => hn (.inr (ownh b e)))
  have hch : ∀ k, (if k ∈ keysH h' then ρ' k else ρ k) ≠ ρ k → k ∈ keysH h' ∧ k ∉ fix := fun k hk => by
    by_cases e : k ∈ keysH h'
    · rw [if_pos e] at hk; exact ⟨e, fun hf => hk (hfix k hf)⟩
    · rw [if_neg e] at hk; exact absurd rfl hk
  have trN : ∀ {x : AV} {u : Value}, Rep w' (avd (fun b => avd E.bad ρ st.hp b ∧ ¬ ownB ρ h b) ρ' h') ρ' x u → okR (keysH h') x = true →
      Rep w' (avd E.bad (fun k => if k ∈ keysH h' then ρ' k else ρ k) (st.after d r h h' fix).hp) (fun k => if k ∈ keysH h' then ρ' k else ρ k) x u := fun hx hok =>
    hx.tr (Nat.le_refl _) (fun _ _ _ _ => rfl) (fun b _ hb => av2 b hb) (fun k hk => by
      by_cases e : k ∈ keysH h'
      · rw [if_pos e] at hk; exact absurd rfl hk
      · exact okR_ment hok e)
  have hr2 : SR E (fun k => if k ∈ keysH h' then ρ' k else ρ k) ⟨turn (killsX ((keysH h ++ keysH h').filter fun k => !fix.contains k)) st.fr, (st.after d r h h' fix).hp, st.nt, st.fx⟩ a w' := by
    refine ⟨fun t x hx => ?_, ⟨fun k cs hk => ?_, ?_⟩, fun b hb => ?_, ?_, hS.bad, fun b hb hbad => ?_, hS.size, hS.defers, fun k hk => ?_⟩
    · simp only [look_turn, Option.map_eq_some_iff] at hx
      obtain ⟨y, hy, rfl⟩ := hx
      have hy' : Rep w (avd E.bad ρ st.hp) ρ (killsX ((keysH h ++ keysH h').filter fun k => !fix.contains k) y) (a.tmps.getD t undef) := by
        unfold killsX
        split
        · exact .im (.un _)
        · exact hS.fr t y hy
      refine hy'.tr hkeep.size hcell av1 (fun k hk => ment_killsX ?_ y)
      obtain ⟨h1, h2⟩ := hch k hk
      simp [h1, h2]
    · rw [hlook] at hk
      cases hh : look h' k with
      | some cs' =>
        rw [hh, Option.some_or] at hk
        injection hk with hk
        subst hk
        have hm := look_keys hh
        simp only [hm, if_true]
        have hob := hhr.obj k cs' hh
        refine ⟨hob.len, hob.mem, fun j x hj => ?_⟩
        obtain ⟨u, hu, hru⟩ := hob.cells j x hj
        have := List.all_eq_true.1 hc _ (look_mem hh)
        exact ⟨u, hu, trN hru (List.all_eq_true.1 this x (List.mem_of_getElem? hj))⟩
      | none =>
        rw [hh, Option.none_or] at hk
        split at hk
        · cases hk
        · next hn =>
          obtain ⟨c0, h0, rfl⟩ := Option.map_eq_some_iff.1 hk
          have hn' : k ∉ keysH h' := fun e => hn (List.mem_append_right _ e)
          simp only [hn', if_false]
          have hob := hS.hr.obj k c0 h0
          have h1 : ObjR w (avd E.bad ρ st.hp) ρ (ρ k) (c0.map (killsC ((keysH h ++ keysH h').filter fun k => !fix.contains k))) := ⟨by simpa using hob.len, hob.mem, fun i x hx => by
            rw [List.getElem?_map, Option.map_eq_some_iff] at hx
            obtain ⟨y, hy, rfl⟩ := hx
            obtain ⟨u, hu, hru⟩ := hob.cells i y hy
            refine ⟨u, hu, ?_⟩
            unfold killsC
            split
            · exact .im (.un _)
            · exact hru⟩
          refine h1.tr hkeep.size (fun hcap => hkeep.block _ (hob.mem hcap).1 ?_) hcell av1 (fun j hj x hx => ?_)
          · rintro ⟨j, cj, g1, g2, g3⟩
            exact hS.hr.dis j k cj c0 (hlh j cj g1) h0 (fun e => hn (List.mem_append_left _ (by rw [← e]; exact look_keys g1))) g2 hcap g3
          · obtain ⟨y, _, rfl⟩ := List.mem_map.1 hx
            obtain ⟨h1, h2⟩ := hch j hj
            exact ment_killsC (by simp [h1, h2]) y
    · intro k k' cs cs' h1 h2 hne hc1 hc2
      rw [hlook] at h1 h2
      have sort : ∀ i ci, (look h' i).or (if i ∈ keysH h ++ keysH h' then none else (look st.hp i).map (List.map (killsC ((keysH h ++ keysH h').filter fun k => !fix.contains k)))) = some ci → (∃ c0, look h' i = some c0 ∧ i ∈ keysH h') ∨ ∃ c0, look st.hp i = some c0 ∧ i ∉ keysH h ∧ i ∉ keysH h' := fun i ci hi => by
        cases hh : look h' i with
        | some c0 => exact .inl ⟨c0, rfl, look_keys hh⟩
        | none =>
          rw [hh, Option.none_or] at hi
          split at hi
          · cases hi
          · next hn =>
            obtain ⟨c0, h0, _⟩ := Option.map_eq_some_iff.1 hi
            exact .inr ⟨c0, h0, fun e => hn (List.mem_append_left _ e), fun e => hn (List.mem_append_right _ e)⟩
      have cross : ∀ i j ci cj, look h' i = some ci → i ∈ keysH h' → look st.hp j = some cj → j ∉ keysH h → 0 < (ρ' i).cap → 0 < (ρ j).cap → (ρ' i).g ≠ (ρ j).g := fun i j ci cj hi _ hj hjn hci hcj e => by
        have hb := hown (ρ' i).g ⟨i, ci, hi, hci, rfl⟩
        rcases hb.1 with ⟨l, cl, g1, g2, g3⟩ | hge
        · exact hS.hr.dis l j cl cj (hlh l cl g1) hj (fun e' => hjn (by rw [← e']; exact look_keys g1)) g2 hcj (g3.trans e)
        · have := ((hS.hr.obj j cj hj).mem hcj).1; omega
      rcases sort k cs h1 with ⟨c0, g1, g2⟩ | ⟨c0, g1, g2, g3⟩ <;> rcases sort k' cs' h2 with ⟨c1, q1, q2⟩ | ⟨c1, q1, q2, q3⟩
      · simp only [g2, q2, if_true] at hc1 hc2 ⊢
        exact hhr.dis k k' c0 c1 g1 q1 hne hc1 hc2
      · simp only [g2, q3, if_true, if_false] at hc1 hc2 ⊢
        exact cross k k' c0 c1 g1 g2 q1 q2 hc1 hc2
      · simp only [g3, q2, if_true, if_false] at hc1 hc2 ⊢
        exact (cross k' k c1 c0 q1 q2 g1 g2 hc2 hc1).symm
      · simp only [g3, q3, if_false] at hc1 hc2 ⊢
        exact hS.hr.dis k k' c0 c1 g1 q1 hne hc1 hc2
    · rcases own2 b hb with h1 | ⟨h1, _⟩
      · rcases (hown b h1).1 with h2 | h2
        · exact hS.own b (ownh b h2)
        · exact .inr (Nat.le_trans hS.keep.size h2)
      · exact hS.own b h1
    · refine ⟨hkeep.os.trans hS.keep.os, hkeep.tape.trans hS.keep.tape, hkeep.output.trans hS.keep.output, Nat.le_trans hS.keep.size hkeep.size, fun b hb hn => ?_⟩
      refine (hkeep.block b (Nat.lt_of_lt_of_le hb hS.keep.size) fun e => ?_).trans (hS.keep.block b hb hn)
      rcases hS.own b (ownh b e) with hx | hge
      · exact hn hx
      · omega
    · rcases own2 b hb with h1 | ⟨h1, _⟩
      · exact (hown b h1).2 ⟨.inl hbad, fun e => hS.nb b (ownh b e) hbad⟩
      · exact hS.nb b h1 hbad
    · have := List.all_eq_true.1 hfx k hk
      simp only [Bool.or_eq_true, Bool.not_eq_true'] at this
      by_cases e : k ∈ keysH h'
      · simp only [e, if_true]
        rcases this with h1 | h1
        · simp [e] at h1
        · rw [hfix k (by simpa using h1)]; exact hS.fx k hk
      · simp only [e, if_false]; exact hS.fx k hk
  exact hr2.put (some d) (fun t e => by injection e with e; subst e; exact hd) (trN hrep hr)
theorem callM_run {f : FuncId} {vs : Array Value} {ys : List AV} {r : AV} {h h' : Hp} {fix : List Nat} {d : Nat} {K : Act → World → Prop} {Q' : Exit → Act → World → Prop} (hS : SR E ρ st a w) (hrun : (execOp a.eval o).run P w = .ok (.enter f vs) w) (hargs : RepC w (avd E.bad ρ st.hp) ρ ys vs) (hc : Fn P f ys h r h' fix) (hsub : subL h st.hp)
    (hr : okR (keysH h') r = true) (hcs : h'.all (fun p => p.2.all (okR (keysH h'))) = true) (hfx : st.fx.all (fun k => !(keysH h').contains k || fix.contains k) = true) (hd : o.dst = some d) (hdn : d < st.nt)
    (hK : ∀ a' w', S E (st.after d r h h' fix) a' w' → K a' w') : o.wp P a w K Q' := by
  unfold Oper.wp
  rw [hrun, Oper.upon_enter]
  have hlh : ∀ k cs, look h k = some cs → look st.hp k = some cs := fun k cs hk => subL_spec hsub _ (look_mem hk)
  have ownh : ∀ b, ownB ρ h b → ownB ρ st.hp b := fun b ⟨k, cs, h1, h2⟩ => ⟨k, cs, hlh k cs h1, h2⟩
  have hav : ∀ b, avd (fun b => avd E.bad ρ st.hp b ∧ ¬ ownB ρ h b) ρ h b → avd E.bad ρ st.hp b := fun b hb => hb.elim (fun h1 => h1.1) (fun h1 => .inr (ownh b h1))
  refine (hc.2 w (fun b => avd E.bad ρ st.hp b ∧ ¬ ownB ρ h b) ρ _ ⟨fun b hb => ?_, hS.glob, fun b hb => hS.ngb (ownh b hb)⟩ (fun b hb hb' => hb'.2 hb) ⟨fun k cs hk => ?_, fun k k' cs cs' h1 h2 => hS.hr.dis k k' cs cs' (hlh _ _ h1) (hlh _ _ h2)⟩ ⟨hargs.1, fun j y v hj hv => ?_⟩).mono ?_
  · rcases hb.1 with hb | ⟨k, cs, h1, h2, rfl⟩
    · exact Nat.lt_of_lt_of_le (hS.bad.1 b hb) hS.keep.size
    · exact ((hS.hr.obj k cs h1).mem h2).1
  · exact (hS.hr.obj k cs (hlh k cs hk)).tr (Nat.le_refl _) (fun _ => rfl) (fun _ _ _ _ => rfl) (fun b _ hb => hav b hb) (fun _ hk => absurd rfl hk)
  · exact (hargs.2 j y v hj hv).tr (Nat.le_refl _) (fun _ _ _ _ => rfl) (fun b _ hb => hav b hb) (fun _ hk => absurd rfl hk)
  · rintro e w' ⟨v, ρ', rfl, hrep, hhr, hkeep, hown, hfix⟩
    have := hS.after hdn hsub hrep hhr hkeep hown hfix hr hcs hfx
    refine hK _ _ ⟨fun k => if k ∈ keysH h' then ρ' k else ρ k, ?_⟩
    rw [hd]
    exact this
theorem callM_step {f : FuncId} {args : List Operand} {ts : Array TypeId} {ys : List AV} {r : AV} {h h' : Hp} {fix : List Nat} {d : Nat} {K : Act → World → Prop} {Q' : Exit → Act → World → Prop} (hS : SR E ρ st a w) (ho : o.op = .call ⟨.value (.func f), args.toArray, ts⟩) (ha : argsA st args = some ys) (hc : Fn P f ys h r h' fix) (hsub : subL h st.hp)
    (hr : okR (keysH h') r = true) (hcs : h'.all (fun p => p.2.all (okR (keysH h'))) = true) (hfx : st.fx.all (fun k => !(keysH h').contains k || fix.contains k) = true) (hd : o.dst = some d) (hdn : d < st.nt)
    (hK : ∀ a' w', S E (st.after d r h h' fix) a' w' → K a' w') : o.wp P a w K Q' := by
  exact callM_run hS (run_call ho hc.1 a w) (argsA_rep hS ha) hc hsub hr hcs hfx hd hdn hK
end
section
variable {P : Program} {st : St} {Q : Exit → St → Prop} {ops : Array Oper} {rest : List Oper} {o : Oper} {listed : Array Bool} {fuel : Nat}
theorem awO_m {f : FuncId} {args : List Operand} {ts : Array TypeId} {ys : List AV} {r : AV} {h h' : Hp} {fix : List Nat} {d : Nat} (hg : o.guard = none) (ho : o.op = .call ⟨.value (.func f), args.toArray, ts⟩) (ha : argsA st args = some ys) (hc : Fn P f ys h r h' fix) (hsub : subL h st.hp)
    (hr : okR (keysH h') r = true) (hcs : h'.all (fun p => p.2.all (okR (keysH h'))) = true) (hfx : st.fx.all (fun k => !(keysH h').contains k || fix.contains k) = true) (hd : o.dst = some d) (hdn : d < st.nt) (hrest : awO P ops rest (st.after d r h h' fix) Q) : awO P ops (o :: rest) st Q := fun E a w ⟨ρ, hS⟩ =>
  wpList_plain hg fun K hK => callM_step hS ho ha hc hsub hr hcs hfx hd hdn fun a' w' hs => hK _ _ (hrest E a' w' hs)
theorem RepC.app {w : World} {av : Nat → Prop} {ρ : Nat → Loc} {cs ds : List AV} {us vs : Array Value} (h1 : RepC w av ρ cs us) (h2 : RepC w av ρ ds vs) : RepC w av ρ (cs ++ ds) (us ++ vs) := by
  refine ⟨by simp [h1.1, h2.1], fun j y v hj hv => ?_⟩
  by_cases h : j < cs.length
  · rw [List.getElem?_append_left h] at hj
    rw [Array.getElem?_append_left (by rw [h1.1]; exact h)] at hv
    exact h1.2 j y v hj hv
  · rw [List.getElem?_append_right (by omega)] at hj
    rw [Array.getElem?_append_right (by rw [h1.1]; omega), h1.1] at hv
    exact h2.2 _ y v hj hv
theorem bok {f : Nat} (h : f < 1000000 := by decide) : f < bnd := h
theorem run_callC {f : FuncId} {c : Operand} {args : Array Operand} {ts : Array TypeId} {us : Array Value} (ho : o.op = .call ⟨.value c, args, ts⟩) (hc : callable P f = true) (a : Act) (w : World) (hv : a.eval c = .func (.func f) #[] us) : (execOp a.eval o).run P w = .ok (.enter f (args.map a.eval ++ us)) w := by
  unfold callable at hc
  split at hc
  · next fn hf =>
    simp only [Bool.and_eq_true, Bool.not_eq_true'] at hc
    obtain ⟨h1, h2⟩ := hc
    have h3 : ¬ fn.body = none := by cases hb : fn.body <;> simp_all
    have h4 : ¬ fn.name = "runtime.NumGoroutine" := by simpa using h1
    unfold execOp
    simp only [ho, resolve, hv, Deferred.ofValue, invoke]
    simp [callFunc, hf, h4, h3]
  · cases hc
/-- A function value that has captured is called. -/
theorem awO_k {f : FuncId} {c : Operand} {caps : List AV} {args : List Operand} {ts : Array TypeId} {ys : List AV} {r : AV} {h h' : Hp} {fix : List Nat} {d : Nat} (hg : o.guard = none) (ho : o.op = .call ⟨.value c, args.toArray, ts⟩) (hv : opv st c = some (.fn f caps)) (hlt : f < bnd) (ha : argsA st args = some ys) (hc : Fn P f (ys ++ caps) h r h' fix) (hsub : subL h st.hp)
    (hr : okR (keysH h') r = true) (hcs : h'.all (fun p => p.2.all (okR (keysH h'))) = true) (hfx : st.fx.all (fun k => !(keysH h').contains k || fix.contains k) = true) (hd : o.dst = some d) (hdn : d < st.nt) (hrest : awO P ops rest (st.after d r h h' fix) Q) : awO P ops (o :: rest) st Q := fun E a w ⟨ρ, hS⟩ =>
  wpList_plain hg fun K hK => by
    obtain ⟨us, e, hu⟩ := (opv_sound hS hv).fn_inv
    rw [fnV_lt hlt] at e
    exact callM_run hS (run_callC ho hc.1 a w e) ((argsA_rep hS ha).app hu) hc hsub hr hcs hfx hd hdn fun a' w' hs => hK _ _ (hrest E a' w' hs)
theorem run_callB {f : FuncId} {c : Operand} {args : Array Operand} {ts : Array TypeId} {us : Array Value} (ho : o.op = .call ⟨.value c, args, ts⟩) (hc : callable P f = true) (a : Act) (w : World) (hv : a.eval c = .func (.func f) us #[]) : (execOp a.eval o).run P w = .ok (.enter f (us ++ args.map a.eval)) w := by
  unfold callable at hc
  split at hc
  · next fn hf =>
    simp only [Bool.and_eq_true, Bool.not_eq_true'] at hc
    obtain ⟨h1, h2⟩ := hc
    have h3 : ¬ fn.body = none := by cases hb : fn.body <;> simp_all
    have h4 : ¬ fn.name = "runtime.NumGoroutine" := by simpa using h1
    unfold execOp
    simp only [ho, resolve, hv, Deferred.ofValue, invoke]
    simp [callFunc, hf, h4, h3]
  · cases hc
/-- A method value is called. -/
theorem awO_kb {f : FuncId} {c : Operand} {bs : List AV} {args : List Operand} {ts : Array TypeId} {ys : List AV} {r : AV} {h h' : Hp} {fix : List Nat} {d : Nat} (hg : o.guard = none) (ho : o.op = .call ⟨.value c, args.toArray, ts⟩) (hv : opv st c = some (.fn (f + bnd) bs)) (ha : argsA st args = some ys) (hc : Fn P f (bs ++ ys) h r h' fix) (hsub : subL h st.hp)
    (hr : okR (keysH h') r = true) (hcs : h'.all (fun p => p.2.all (okR (keysH h'))) = true) (hfx : st.fx.all (fun k => !(keysH h').contains k || fix.contains k) = true) (hd : o.dst = some d) (hdn : d < st.nt) (hrest : awO P ops rest (st.after d r h h' fix) Q) : awO P ops (o :: rest) st Q := fun E a w ⟨ρ, hS⟩ =>
  wpList_plain hg fun K hK => by
    obtain ⟨us, e, hu⟩ := (opv_sound hS hv).fn_inv
    rw [fnV_ge] at e
    exact callM_run hS (run_callB ho hc.1 a w e) (RepC.app hu (argsA_rep hS ha)) hc hsub hr hcs hfx hd hdn fun a' w' hs => hK _ _ (hrest E a' w' hs)
/-- A nil slice is an own object of no cells. -/
theorem S_virt {E : Env} {a : Act} {w : World} {fr : List (Nat × AV)} {hp : Hp} {nt : Nat} {fx : List Nat} (t k sz : Nat) (ht : look fr t = some (.v (.slice none 0 0))) (hz : 0 < sz) (hk : k ∉ fx) (hS : S E ⟨fr, hp, nt, fx⟩ a w) :
    S E ⟨(t, .os k 0 sz 0) :: turn (killX k) fr, hset k [] (turn (List.map (killC k)) hp), nt, fx⟩ a w := by
  obtain ⟨ρ, hS⟩ := hS
  have h1 := hS.fresh (w' := w) k hk ⟨0, 0, 0⟩ [] rfl rfl rfl (Nat.le_refl _) (fun _ _ _ => rfl) (fun h => absurd h (by simp)) (by simp) (fun h => absurd h (by simp)) (fun j x hj => by simp at hj) (fun x hx => by cases hx)
  refine ⟨_, fun t' x hx => ?_, h1.hr, h1.own, h1.keep, h1.bad, h1.nb, h1.size, h1.defers, h1.fx⟩
  rw [look_cons] at hx
  split at hx
  · next e =>
    subst e
    injection hx with hx
    subst hx
    rw [Rep.v_eq (hS.fr t _ ht)]
    exact .os hz (Nat.le_refl _) (by omega) (fun h => absurd h (by omega))
  · exact h1.fr t' x hx
theorem aw_virt {c : Code} {fr : List (Nat × AV)} {hp : Hp} {nt : Nat} {fx : List Nat} (t k sz : Nat) (ht : look fr t = some (.v (.slice none 0 0))) (hz : 0 < sz) (hk : k ∉ fx) (h : aw P c ⟨(t, .os k 0 sz 0) :: turn (killX k) fr, hset k [] (turn (List.map (killC k)) hp), nt, fx⟩ Q) : aw P c ⟨fr, hp, nt, fx⟩ Q :=
  aw_weak (fun E a w hS => S_virt t k sz ht hz hk hS) h
end
end Go.Proofs.YtogmppcfopgkdaaGreatDoor

/- The abstract machine, part 17: further evaluation lemmas. No program is named here. -/
namespace Go.Proofs.YtogmppcfopgkdaaGreatDoor
open Go.RowKit
set_option linter.unusedVariables false
set_option linter.unusedSimpArgs false
section
variable {P : Program} {t : TypeId} {x y : Operand}
theorem bin_seql0 (a : List UInt8) : bin P .eql t x y (.string (str a)) (.string (str [])) = some (.bool (decide (a.length = 0))) := by
  rw [bin_seql]; congr 2; rw [decide_eq_decide]; exact List.length_eq_zero_iff.symm
theorem bin_sneq0 (a : List UInt8) : bin P .neq t x y (.string (str a)) (.string (str [])) = some (.bool (decide (0 < a.length))) := by
  rw [bin_sneq, ← decide_not]; congr 2; rw [decide_eq_decide]; exact List.length_pos_iff.symm
end
theorem toNat_subk {m : Nat} {k : Int} (h : 0 ≤ k) : ((m : Int) - k).toNat = m - k.toNat := by omega
theorem toNat_addk {m : Nat} {k : Int} (h : 0 ≤ k) : ((m : Int) + k).toNat = m + k.toNat := by omega
attribute [go_sem] toNat_subk toNat_addk
attribute [go_sem high] bin_seql0 bin_sneq0
section
variable {P : Program} {Q : Exit → St → Prop}
/-- Less may be said at the end. -/
def wk (Q : Exit → St → Prop) : Exit → St → Prop := fun e st => ∃ st', (∀ E a w, S E st a w → S E st' a w) ∧ Q e st'
theorem wk_id {e : Exit} {st : St} (h : Q e st) : wk Q e st := ⟨st, fun _ _ _ h => h, h⟩
theorem wk_to {e : Exit} {st : St} (st' : St) (hs : ∀ E a w, S E st a w → S E st' a w) (h : wk Q e st') : wk Q e st := by
  obtain ⟨s2, h1, h2⟩ := h
  exact ⟨s2, fun E a w hS => h1 E a w (hs E a w hS), h2⟩
theorem aw_wk {c : Code} {st : St} (h : aw P c st (wk Q)) : aw P c st Q := fun E a w hS => by
  refine Code.wp_mono ?_ (h E a w hS)
  rintro e a' w' ⟨st1, h1, st2, h2, h3⟩
  exact ⟨st2, h2 E a' w' h1, h3⟩
theorem NP_wk {Q : Exit → St → Prop} (h : NP Q) : NP (wk Q) := fun c st ⟨st', _, h'⟩ => h c st' h'
end
section
variable {P : Program} {Q : Exit → St → Prop} {st : St} {ops : Array Oper} {rest : List Oper} {o : Oper}
def slN : AV → Option Nat
  | .rd n _ => some n
  | .os _ _ _ n => some n
  | _ => none
theorem slN_rd (n : Nat) (cs : List AV) : slN (.rd n cs) = some n := rfl
theorem slN_os (k o s n : Nat) : slN (.os k o s n) = some n := rfl
theorem isSl_spec {t : TypeId} (h : isSlT P t = true) : ∃ e, P.underlying t = some (.slice e) := by
  unfold isSlT at h
  split at h
  · next e he => exact ⟨e, he⟩
  · cases h
theorem retQ_mk1 {rs : List ResultVar} {r r' : AV} {ys : List AV} {e : Exit} {k : Nat} {cs cs' c0 : List AV} {keep fix : List Nat} (he : e = .normal ∨ e = .ret) (h1 : resL P st rs = some ys) (h2 : roA st.hp keep (one ys) = some r') (h5 : look st.hp k = some c0) (h6 : roCs st.hp keep c0 = some cs') (h3 : r' = r) (h7 : cs' = cs) (hk : k ∈ keep) (h4 : st.fx = fix) : retQ P rs r [(k, cs)] keep fix e st := by
  subst h3; subst h7
  refine ⟨he, ⟨ys, h1, h2⟩, fun p hp => ?_, h4⟩
  rw [List.mem_singleton] at hp
  subst hp
  exact ⟨hk, c0, h5, h6⟩
theorem roCs_data {hp : Hp} {keep : List Nat} {cs : List AV} (h : cs.all dataC = true) : roCs hp keep cs = some cs := by
  induction cs with
  | nil => rfl
  | cons x r ih =>
    rw [List.all_cons, Bool.and_eq_true] at h
    rw [roCs_cons, ih h.2]
    cases x <;> simp_all [dataC, roC]
/-! ### Lists that are maps -/
theorem drop_map {α : Type} {f : α → AV} {L : List α} {k : Nat} : List.drop k (List.map f L) = List.map f (List.drop k L) := List.map_drop.symm
theorem take_map {α : Type} {f : α → AV} {L : List α} {k : Nat} : List.take k (List.map f L) = List.map f (List.take k L) := List.map_take.symm
theorem map_drop0 {α : Type} {f : α → AV} {L : List α} {k : Nat} (h : k < L.length) : (List.map f (List.drop k L))[0]? = some (f L[k]) := by simp [h]
theorem map_at {α : Type} {f : α → AV} {L : List α} {k : Nat} (h : k < L.length) : (List.map f L)[k]? = some (f L[k]) := by simp [h]
theorem all_map {α : Type} {f : α → AV} {p : AV → Bool} {L : List α} : (List.map f L).all p = L.all (fun x => p (f x)) := by simp [Function.comp_def]
theorem all_true {α : Type} {L : List α} : L.all (fun _ => true) = true := by simp
theorem freeOf_map {α : Type} {f : α → AV} {k : Nat} {L : List α} : freeOf k (List.map f L) = L.all (fun x => !mentM k (f x)) := by simp [freeOf, Function.comp_def]
theorem map_killC {k : Nat} {cs : List AV} (h : cs.all dataC = true) : cs.map (killC k) = cs := by
  have : ∀ x ∈ cs, killC k x = x := fun x hx => by
    have := List.all_eq_true.1 h x hx
    cases x <;> simp_all [dataC, cellM, killC]
  exact (List.map_congr_left this).trans (List.map_id' cs)
theorem take_all {l : List AV} {k : Nat} (h : l.length ≤ k) : l.take k = l := List.take_of_length_le h
end
attribute [go_sem] slN_rd slN_os roCs_nil roCs_cons roCs_data drop_map take_map map_at all_map all_true List.all_append freeOf_append freeOf_map map_killC take_all
/-! ### Behind a call that changes objects -/
theorem after_def (fr : List (Nat × AV)) (hp : Hp) (nt : Nat) (fx : List Nat) (d : Nat) (r : AV) (h h' : Hp) (fix : List Nat) : St.after ⟨fr, hp, nt, fx⟩ d r h h' fix = ⟨(d, r) :: turn (killsX ((keysH h ++ keysH h').filter fun k => !fix.contains k)) fr, h' ++ cuts (keysH h ++ keysH h') ((keysH h ++ keysH h').filter fun k => !fix.contains k) hp, nt, fx⟩ := rfl
theorem killsX_def (ks : List Nat) (x : AV) : killsX ks x = if ks.any (fun k => mentM k x) = true then .un else x := rfl
theorem killsC_def (ks : List Nat) (x : AV) : killsC ks x = if ks.any (fun k => cellM k x) = true then .un else x := rfl
theorem cuts_nil (ks js : List Nat) : cuts ks js [] = [] := rfl
theorem cuts_cons (ks js : List Nat) (i : Nat) (x : List AV) (r : Hp) : cuts ks js ((i, x) :: r) = if ks.contains i = true then cuts ks js r else (i, x.map (killsC js)) :: cuts ks js r := rfl
theorem okR_v (ks : List Nat) (x : Value) : okR ks (.v x) = true := rfl
theorem okR_un (ks : List Nat) : okR ks .un = true := rfl
theorem okR_rd (ks : List Nat) (n : Nat) (cs : List AV) : okR ks (.rd n cs) = true := rfl
theorem okR_rp (ks : List Nat) (cs : List AV) : okR ks (.rp cs) = true := rfl
theorem okR_os (ks : List Nat) (k o s n : Nat) : okR ks (.os k o s n) = ks.contains k := rfl
theorem okR_pt (ks : List Nat) (k o : Nat) : okR ks (.pt k o) = ks.contains k := rfl
theorem okR_ag (ks : List Nat) (cs : List AV) : okR ks (.ag cs) = cs.all (okRC ks) := rfl
theorem okR_tp (ks : List Nat) (cs : List AV) : okR ks (.tp cs) = cs.all (okRP ks) := rfl
theorem okRP_v (ks : List Nat) (x : Value) : okRP ks (.v x) = true := rfl
theorem okRP_un (ks : List Nat) : okRP ks .un = true := rfl
theorem okRP_rd (ks : List Nat) (n : Nat) (cs : List AV) : okRP ks (.rd n cs) = true := rfl
theorem okRP_os (ks : List Nat) (k o s n : Nat) : okRP ks (.os k o s n) = ks.contains k := rfl
theorem okRP_pt (ks : List Nat) (k o : Nat) : okRP ks (.pt k o) = ks.contains k := rfl
theorem okRP_ag (ks : List Nat) (cs : List AV) : okRP ks (.ag cs) = cs.all (okRC ks) := rfl
theorem okRC_v (ks : List Nat) (x : Value) : okRC ks (.v x) = true := rfl
theorem okRC_un (ks : List Nat) : okRC ks .un = true := rfl
theorem okRC_rd (ks : List Nat) (n : Nat) (cs : List AV) : okRC ks (.rd n cs) = true := rfl
theorem okRC_os (ks : List Nat) (k o s n : Nat) : okRC ks (.os k o s n) = ks.contains k := rfl
theorem okRC_pt (ks : List Nat) (k o : Nat) : okRC ks (.pt k o) = ks.contains k := rfl
theorem map_killsC {ks : List Nat} {cs : List AV} (h : cs.all dataC = true) : cs.map (killsC ks) = cs := by
  have : ∀ x ∈ cs, killsC ks x = x := fun x hx => by
    have := List.all_eq_true.1 h x hx
    cases x <;> simp_all [dataC, cellM, killsC]
  exact (List.map_congr_left this).trans (List.map_id' cs)
attribute [go_sem] after_def killsX_def killsC_def cuts_nil cuts_cons okR_v okR_un okR_rd okR_rp okR_os okR_pt okR_ag okR_tp okRP_v okRP_un okRP_rd okRP_os okRP_pt okRP_ag okRC_v okRC_un okRC_rd okRC_os okRC_pt map_killsC keysH_nil keysH_cons subL_nil subL_cons List.contains_cons List.contains_nil List.filter_cons List.filter_nil List.all_cons List.all_nil
theorem unB_u8 (b : UInt8) (r : List AV) : unB (.v (.int .u8 b.toNat) :: r) = (unB r).map (b :: ·) := by
  rw [unB_one r (by omega) (by have := b.toNat_lt; omega)]
  simp
attribute [go_sem high] unB_u8
attribute [go_sem high] map_drop0
/-! ### Slots are forgotten -/
def without {α : Type} (l : List Nat) : List (Nat × α) → List (Nat × α)
  | [] => []
  | (i, x) :: r => if l.contains i = true then without l r else (i, x) :: without l r
theorem without_nil {α : Type} (l : List Nat) : without l ([] : List (Nat × α)) = [] := rfl
theorem without_cons {α : Type} (l : List Nat) (i : Nat) (x : α) (r : List (Nat × α)) : without l ((i, x) :: r) = if l.contains i = true then without l r else (i, x) :: without l r := rfl
attribute [go_sem] without_nil without_cons
end Go.Proofs.YtogmppcfopgkdaaGreatDoor

/- The abstract machine, part 18: data handed in; from a contract to a law's row. No program is named here. -/
namespace Go.Proofs.YtogmppcfopgkdaaGreatDoor
open Go.ChangeShapes Go.WideShapes Go.ChangeAt Go.RowKit
set_option linter.unusedVariables false
set_option linter.unusedSimpArgs false

/-- The shape of a type: scalars, slices of elements of sz cells, structs and arrays ('ag' of a list of fields: 'nil', 'cons'). -/
inductive Sh where
  | int (k : IntKind)
  | bool
  | str
  | sl (sz : Nat) (e : Sh)
  | ag (f : Sh)
  | nil
  | cons (s r : Sh)
section
variable {H : Type}
def toInt : DataW H → Int
  | .lit (.int _ n) => n
  | _ => 0
def toBool : DataW H → Bool
  | .lit (.bool b) => b
  | _ => false
def toBytes : DataW H → List UInt8
  | .lit (.string l) => l
  | _ => []
def toList : DataW H → List (DataW H)
  | .slice l _ => l
  | _ => []
def toParts : DataW H → List (DataW H)
  | .agg l => l
  | _ => []
def hd : List (DataW H) → DataW H
  | [] => .nil
  | d :: _ => d
/-- The cells of data of a shape. -/
def avL : Sh → List (DataW H) → List AV
  | .int k, ds => [.v (.int k (toInt (hd ds)))]
  | .bool, ds => [.v (.bool (toBool (hd ds)))]
  | .str, ds => [.v (.string (str (toBytes (hd ds))))]
  | .sl _ e, ds => [.rd (toList (hd ds)).length ((toList (hd ds)).flatMap fun d => avL e [d])]
  | .ag f, ds => avL f (toParts (hd ds))
  | .nil, _ => []
  | .cons s r, ds => avL s [hd ds] ++ avL r ds.tail
def szS : Sh → Nat
  | .int _ => 1
  | .bool => 1
  | .str => 1
  | .sl _ _ => 1
  | .ag f => szS f
  | .nil => 0
  | .cons s r => szS s + szS r
/-- What is known of its sizes. -/
def Szd : Sh → List (DataW H) → Prop
  | .int k, ds => (Lit.int k (toInt (hd ds))).wf = true
  | .bool, _ => True
  | .str, ds => (toBytes (hd ds)).length ≤ 140737488351232
  | .sl _ e, ds => (toList (hd ds)).length ≤ 140737488351232 ∧ ∀ d ∈ toList (hd ds), Szd e [d]
  | .ag f, ds => Szd f (toParts (hd ds))
  | .nil, _ => True
  | .cons s r, ds => Szd s [hd ds] ∧ Szd r ds.tail
theorem avL_length : ∀ (s : Sh) (ds : List (DataW H)), (avL s ds).length = szS s
  | .int _, _ => rfl
  | .bool, _ => rfl
  | .str, _ => rfl
  | .sl _ _, _ => rfl
  | .ag f, ds => avL_length f _
  | .nil, _ => rfl
  | .cons s r, ds => by simp only [avL, szS, List.length_append, avL_length s, avL_length r]
/-- The types, at these places, are of the shape. -/
def okS (P : Program) : Sh → Nat → List (TypeId × Nat) → Bool
  | .int k, o, [(t, o')] => o' == o && (match P.underlying t with | some (.int k') => decide (k' = k) | _ => false) && P.cellsOf t == 1
  | .bool, o, [(t, o')] => o' == o && (match P.underlying t with | some .bool => true | _ => false) && P.cellsOf t == 1
  | .str, o, [(t, o')] => o' == o && (match P.underlying t with | some .string => true | _ => false) && P.cellsOf t == 1
  | .sl sz e, o, [(t, o')] => o' == o && (match P.underlying t with | some (.slice e') => okS P e 0 [(e', 0)] && P.cellsOf e' == szS e && sz == szS e && decide (0 < sz) && decide (0 < P.bytesOf e') | _ => false) && P.cellsOf t == 1
  | .ag f, o, [(t, o')] => o' == o && (match P.underlying t with
    | some (.struct fs) => okS P f 0 (fs.toList.map fun f => (f.type, f.offset))
    | some (.array n e) => okS P f 0 ((List.range n).map fun i => (e, i * P.cellsOf e))
    | _ => false) && P.cellsOf t == szS f
  | .nil, _, [] => true
  | .cons s r, o, p :: l => okS P s o [p] && okS P r (o + szS s) l
  | _, _, _ => false
end
theorem flatMap_get {α β : Type} {f : α → List β} {sz : Nat} (hf : ∀ x, (f x).length = sz) : ∀ (l : List α) (j : Nat) (y : β), (l.flatMap f)[j]? = some y → ∃ x, l[j / sz]? = some x ∧ (f x)[j % sz]? = some y ∧ j / sz < l.length
  | [], j, y, h => by simp at h
  | x :: l, j, y, h => by
    rw [List.flatMap_cons] at h
    by_cases hj : j < sz
    · rw [List.getElem?_append_left (by rw [hf]; exact hj)] at h
      refine ⟨x, ?_, ?_, ?_⟩
      · rw [Nat.div_eq_of_lt hj]; rfl
      · rw [Nat.mod_eq_of_lt hj]; exact h
      · rw [Nat.div_eq_of_lt hj]; simp
    · rw [List.getElem?_append_right (by rw [hf]; omega), hf] at h
      obtain ⟨x', h1, h2, h3⟩ := flatMap_get hf l (j - sz) y h
      have hsz : 0 < sz := by
        rcases Nat.eq_zero_or_pos sz with h0 | h0
        · have h4 := hf x'
          rw [h0] at h4
          rw [List.eq_nil_of_length_eq_zero h4] at h2
          simp at h2
        · exact h0
      have e1 : j / sz = (j - sz) / sz + 1 := by
        rw [Nat.div_eq_sub_div hsz (by omega)]
      have e2 : j % sz = (j - sz) % sz := by
        rw [Nat.mod_eq_sub_mod (by omega)]
      refine ⟨x', ?_, ?_, ?_⟩
      · rw [e1]; simpa using h1
      · rw [e2]; exact h2
      · rw [e1]; simp; exact h3
section
variable {H : Type} {enc : TypeId × Value → H} {P : Program} {w : World} {base : Nat} {spare : Nat → Bool} {held : Bool}
theorem weights_all {e : TypeId} : ∀ {l : List (DataW H)} {d : DataW H}, d ∈ l → ∀ m ∈ d.weights P e, m ∈ DataW.weightsAll P e l
  | d' :: l, d, h, m, hm => by
    simp only [DataW.weightsAll, List.mem_append]
    rcases List.mem_cons.1 h with rfl | h
    · exact .inl hm
    · exact .inr (weights_all h m hm)
theorem take1 {α : Type} {l : List α} {o : Nat} {x : α} (h : (l.drop o).take 1 = [x]) : l[o]? = some x := by
  have := congrArg (fun l : List α => l[0]?) h
  simp only [List.getElem?_take, List.getElem?_drop] at this
  simpa using this
theorem trod_av : ∀ (s : Sh) (o : Nat) (l : List (TypeId × Nat)) (cs : List Value) (ds : List (DataW H)), okS P s o l = true → ds.length = l.length →
    (∀ (i : Nat) (t : TypeId) (off : Nat), l[i]? = some (t, off) → ∃ n ps d, ds[i]? = some d ∧ DataW.trod enc P w base spare held n t ((cs.drop off).take (P.cellsOf t)) = some (d, ps) ∧ ∀ m ∈ d.weights P t, m ≤ reachBytes) →
    Szd s ds ∧ ∀ (j : Nat) (a : AV) (x : Value), (avL s ds)[j]? = some a → cs[o + j]? = some x → RepI w (fun _ => False) a x := by
  intro s
  induction s with
  | int k =>
    intro o l cs ds hok hl hr
    match l, ds, hl with
    | [(t, o')], [d], _ =>
      simp only [okS, Bool.and_eq_true, beq_iff_eq] at hok
      obtain ⟨⟨rfl, hT⟩, hc⟩ := hok
      split at hT
      · next k' hu =>
        simp only [decide_eq_true_eq] at hT
        subst hT
        obtain ⟨n, ps, d', hd, h, _⟩ := hr 0 t o' rfl
        simp only [List.getElem?_cons_zero, Option.some.injEq] at hd
        subst hd
        obtain ⟨z, hz, hx, hwf⟩ := DataW.trod_int hu h
        injection hx with hx _
        subst hx
        refine ⟨hwf, fun j a x hj hx => ?_⟩
        rw [hc] at hz
        have := take1 hz
        rcases j with _ | j
        · simp only [avL, List.getElem?_cons_zero, Option.some.injEq] at hj
          subst hj
          rw [Nat.add_zero, this] at hx
          injection hx with hx
          subst hx
          exact .v _
        · simp [avL] at hj
      · cases hT
    | [], _, _ => simp [okS] at hok
    | _ :: _ :: _, _, _ => simp [okS] at hok
  | bool =>
    intro o l cs ds hok hl hr
    match l, ds, hl with
    | [(t, o')], [d], _ =>
      simp only [okS, Bool.and_eq_true, beq_iff_eq] at hok
      obtain ⟨⟨rfl, hT⟩, hc⟩ := hok
      split at hT
      · next hu =>
        obtain ⟨n, ps, d', hd, h, _⟩ := hr 0 t o' rfl
        simp only [List.getElem?_cons_zero, Option.some.injEq] at hd
        subst hd
        obtain ⟨z, hz, hx⟩ := DataW.trod_bool hu h
        injection hx with hx _
        subst hx
        refine ⟨trivial, fun j a x hj hx => ?_⟩
        rw [hc] at hz
        have := take1 hz
        rcases j with _ | j
        · simp only [avL, List.getElem?_cons_zero, Option.some.injEq] at hj
          subst hj
          rw [Nat.add_zero, this] at hx
          injection hx with hx
          subst hx
          exact .v _
        · simp [avL] at hj
      · cases hT
    | [], _, _ => simp [okS] at hok
    | _ :: _ :: _, _, _ => simp [okS] at hok
  | str =>
    intro o l cs ds hok hl hr
    match l, ds, hl with
    | [(t, o')], [d], _ =>
      simp only [okS, Bool.and_eq_true, beq_iff_eq] at hok
      obtain ⟨⟨rfl, hT⟩, hc⟩ := hok
      split at hT
      · next hu =>
        obtain ⟨n, ps, d', hd, h, hwt⟩ := hr 0 t o' rfl
        simp only [List.getElem?_cons_zero, Option.some.injEq] at hd
        subst hd
        obtain ⟨z, hz, hx, _⟩ := DataW.trod_string hu h
        injection hx with hx _
        subst hx
        refine ⟨hwt _ (by simp [DataW.weights, hd, toBytes]), fun j a x hj hx => ?_⟩
        rw [hc] at hz
        have := take1 hz
        rcases j with _ | j
        · simp only [avL, List.getElem?_cons_zero, Option.some.injEq] at hj
          subst hj
          rw [Nat.add_zero, this] at hx
          injection hx with hx
          subst hx
          simp only [hd, toBytes, ← str_eta]
          exact .v _
        · simp [avL] at hj
      · cases hT
    | [], _, _ => simp [okS] at hok
    | _ :: _ :: _, _, _ => simp [okS] at hok
  | sl sz e ih =>
    intro o l cs ds hok hl hr
    match l, ds, hl with
    | [(t, o')], [d], _ =>
      simp only [okS, Bool.and_eq_true, beq_iff_eq] at hok
      obtain ⟨⟨rfl, hT⟩, hc⟩ := hok
      split at hT
      · next e' hu =>
        simp only [Bool.and_eq_true, beq_iff_eq, decide_eq_true_eq] at hT
        obtain ⟨⟨⟨⟨hoke, hce⟩, rfl⟩, hpos⟩, hbytes⟩ := hT
        obtain ⟨n, ps, d', hd, h, hwt⟩ := hr 0 t o' rfl
        simp only [List.getElem?_cons_zero, Option.some.injEq] at hd
        subst hd
        rcases DataW.trod_slice hu h with ⟨hz, hx⟩ | ⟨a, len, cap, elems, rest, n', _, hz, hx, hb, hlc, hm, hlen, hel, _, _⟩
        · injection hx with hx _
          subst hx
          refine ⟨⟨by simp [hd, toList], fun d hd => by simp [Go.Proofs.YtogmppcfopgkdaaGreatDoor.hd, toList] at hd⟩, fun j a x hj hx => ?_⟩
          rw [hc] at hz
          have := take1 hz
          rcases j with _ | j
          · simp only [avL, List.getElem?_cons_zero, Option.some.injEq, hd, toList] at hj
            subst hj
            rw [Nat.add_zero, this] at hx
            injection hx with hx
            subst hx
            exact .rd (fun _ => undef) (Nat.le_refl _) (by simp) (fun _ => rfl) (fun h => absurd h (by simp)) (fun j a hj => by simp at hj)
          · simp [avL] at hj
        · injection hx with hx _
          subst hx
          have hex : ∀ i x, elems[i]? = some x → ∃ cs', w.cells? base (a.add (i * szS e)) (szS e) = some cs' ∧ DataW.trod enc P w base spare held n' e' cs' = some x := fun i x hi => by
            have hil : i < len := by rw [← hlen]; exact (List.getElem?_eq_some_iff.1 hi).1
            have := hel i hil
            rw [hi, Option.bind_eq_some_iff, hce] at this
            exact this
          have hsub : ∀ i x, elems[i]? = some x → ∀ cs', w.cells? base (a.add (i * szS e)) (szS e) = some cs' → DataW.trod enc P w base spare held n' e' cs' = some x →
              Szd e [x.1] ∧ ∀ (j : Nat) (b : AV) (y : Value), (avL e [x.1])[j]? = some b → cs'[j]? = some y → RepI w (fun _ => False) b y := fun i x hi cs' h1 h2 => by
            have hlen' : cs'.length = szS e := (World.cells?_some h1).2.1
            have := ih 0 [(e', 0)] cs' [x.1] hoke rfl (fun i' t' off' hi' => by
              rcases i' with _ | i'
              · simp only [List.getElem?_cons_zero, Option.some.injEq, Prod.mk.injEq] at hi'
                obtain ⟨rfl, rfl⟩ := hi'
                refine ⟨n', x.2, x.1, rfl, ?_, fun m hm => ?_⟩
                · rw [List.drop_zero, List.take_of_length_le (by rw [hce]; omega)]; exact h2
                · refine hwt m ?_
                  simp only [DataW.weights, hu, List.mem_cons, List.mem_append]
                  exact .inr (.inl (weights_all (List.mem_map.2 ⟨x, List.mem_of_getElem? hi, rfl⟩) m hm))
              · simp at hi')
            simpa using this
          refine ⟨⟨?_, fun d hd => ?_⟩, fun j a' x hj hx => ?_⟩
          · have := hwt ((elems.map (·.1)).length * P.bytesOf e' + (rest.map (·.1)).length * P.bytesOf e') (by simp only [DataW.weights, hu, List.mem_cons]; exact .inl (by rw [Nat.add_mul]))
            have h2 : (elems.map (·.1)).length * 1 ≤ (elems.map (·.1)).length * P.bytesOf e' := Nat.mul_le_mul_left _ hbytes
            have h3 : reachBytes = 140737488351232 := rfl
            simp only [Go.Proofs.YtogmppcfopgkdaaGreatDoor.hd, toList]
            omega
          · simp only [Go.Proofs.YtogmppcfopgkdaaGreatDoor.hd, toList] at hd
            obtain ⟨x, hx, rfl⟩ := List.mem_map.1 hd
            obtain ⟨i, hi⟩ := List.mem_iff_getElem?.1 hx
            obtain ⟨cs', h1, h2⟩ := hex i x hi
            exact (hsub i x hi cs' h1 h2).1
          · rw [hc] at hz
            have hv := take1 hz
            rcases j with _ | j
            · simp only [avL, List.getElem?_cons_zero, Option.some.injEq, hd, toList, List.length_map] at hj
              subst hj
              rw [Nat.add_zero, hv] at hx
              injection hx with hx
              subst hx
              rw [hlen]
              let u : Nat → Value := fun j => (w.cell? (a.add j)).getD undef
              have hcell : ∀ (j : Nat) (b : AV), ((elems.map (·.1)).flatMap fun d => avL e [d])[j]? = some b → w.cell? (a.add j) = some (u j) ∧ RepI w (fun _ => False) b (u j) := fun j b hj => by
                obtain ⟨x', g1, g2, g3⟩ := flatMap_get (sz := szS e) (fun d => avL_length e [d]) _ j b hj
                rw [List.getElem?_map, Option.map_eq_some_iff] at g1
                obtain ⟨x, hi, rfl⟩ := g1
                obtain ⟨cs', h1, h2⟩ := hex _ x hi
                have hmod : j % szS e < szS e := Nat.mod_lt _ hpos
                have h3 := (World.cells?_some h1).2.2 (j % szS e) hmod
                have hlt : j % szS e < cs'.length := by rw [(World.cells?_some h1).2.1]; exact hmod
                have e1 : (a.add (j / szS e * szS e)).add (j % szS e) = a.add j := by rw [add_of_add, Nat.div_add_mod']
                rw [e1, List.getElem?_eq_getElem hlt] at h3
                have := (hsub _ x hi cs' h1 h2).2 (j % szS e) b cs'[j % szS e] g2 (List.getElem?_eq_getElem hlt)
                simp only [u, h3, Option.getD_some]
                exact ⟨trivial, this⟩
              have hcount : ((elems.map (·.1)).flatMap fun d => avL e [d]).length = len * szS e := by
                have : ∀ (l : List (DataW H)), (l.flatMap fun d => avL e [d]).length = l.length * szS e := fun l => by
                  induction l with
                  | nil => simp
                  | cons d l ih => rw [List.flatMap_cons, List.length_append, avL_length, ih, List.length_cons, Nat.add_mul]; omega
                rw [this, List.length_map, hlen]
              refine .rd u hlc (by simpa [maxLen] using hm) (fun h0 => ?_) (fun hn => ?_) (fun j b hj => (hcell j b hj).2)
              · refine List.eq_nil_of_length_eq_zero ?_
                rw [hcount, h0, Nat.zero_mul]
              · have h0 := (hcell 0 _ (List.getElem?_eq_getElem (by rw [hcount]; exact Nat.mul_pos hn hpos))).1
                have e0 : a.add 0 = a := by simp [Addr.add]
                rw [e0] at h0
                have hs := World.cell?_spot h0
                have hblk := World.block_lt_of_cell? w a h0
                obtain ⟨b, off, sp⟩ := a
                simp only at hs
                subst hs
                refine ⟨b, off, rfl, fun h => h, hblk, fun j hj => ?_⟩
                have := (hcell j _ (List.getElem?_eq_getElem hj)).1
                rw [Addr.add_mid] at this
                exact this
            · simp [avL] at hj
      · cases hT
    | [], _, _ => simp [okS] at hok
    | _ :: _ :: _, _, _ => simp [okS] at hok
  | ag f ih =>
    intro o l cs ds hok hl hr
    match l, ds, hl with
    | [(t, o')], [d], _ =>
      simp only [okS, Bool.and_eq_true, beq_iff_eq] at hok
      obtain ⟨⟨rfl, hT⟩, hc⟩ := hok
      obtain ⟨n, ps, d', hd, h, hwt⟩ := hr 0 t o' rfl
      simp only [List.getElem?_cons_zero, Option.some.injEq] at hd
      subst hd
      rw [hc] at h
      have key : ∀ (l' : List (TypeId × Nat)) (parts : List (DataW H)), d = .agg parts → ((cs.drop o').take (szS f)).length = szS f → okS P f 0 l' = true → parts.length = l'.length →
          (∀ (i : Nat) (t : TypeId) (off : Nat), l'[i]? = some (t, off) → ∃ n ps d, parts[i]? = some d ∧ DataW.trod enc P w base spare held n t ((((cs.drop o').take (szS f)).drop off).take (P.cellsOf t)) = some (d, ps) ∧ ∀ m ∈ d.weights P t, m ≤ reachBytes) →
          Szd (.ag f) [d] ∧ ∀ (j : Nat) (a : AV) (x : Value), (avL (.ag f) [d])[j]? = some a → cs[o' + j]? = some x → RepI w (fun _ => False) a x := fun l' parts e1 hlen hok' hl' hr' => by
        subst e1
        obtain ⟨g1, g2⟩ := ih 0 l' ((cs.drop o').take (szS f)) parts hok' hl' hr'
        refine ⟨g1, fun j a x hj hx => g2 j a x hj ?_⟩
        have hjl : j < szS f := by
          have := (List.getElem?_eq_some_iff.1 hj).1
          rw [avL_length] at this
          exact this
        rw [Nat.zero_add, List.getElem?_take_of_lt hjl, List.getElem?_drop]
        exact hx
      split at hT
      · next fs hu =>
        obtain ⟨xs, n', _, hx, hlen, hxl, hf⟩ := DataW.trod_struct hu h
        injection hx with hx _
        refine key _ _ hx (by rw [hlen, hc]) hT (by simp [hxl]) (fun i t' off hi => ?_)
        rw [List.getElem?_map, Option.map_eq_some_iff] at hi
        obtain ⟨fd, hfd, e2⟩ := hi
        injection e2 with e2 e3
        subst e2; subst e3
        have h2 := hf i fd (by simpa using hfd)
        have hil : i < xs.length := by rw [hxl]; simpa using (List.getElem?_eq_some_iff.1 hfd).1
        rw [List.getElem?_eq_getElem hil] at h2
        refine ⟨n', xs[i].2, xs[i].1, by simp [hil], h2, fun m hm => hwt m ?_⟩
        subst hx
        simp only [DataW.weights, hu]
        exact DataW.weights_mem_each (t := fd.type) (d := xs[i].1) (j := i) (by simpa using ⟨fd, by simpa using hfd, rfl⟩) (by simp [hil]) m hm
      · next n0 e hu =>
        obtain ⟨xs, n', _, hx, hlen, hxl, hf⟩ := DataW.trod_array hu h
        injection hx with hx _
        refine key _ _ hx (by rw [hlen, hc]) hT (by simp [hxl]) (fun i t' off hi => ?_)
        rw [List.getElem?_map, Option.map_eq_some_iff] at hi
        obtain ⟨i', hi', e2⟩ := hi
        obtain ⟨hil, rfl⟩ := List.getElem?_eq_some_iff.1 hi'
        simp only [List.getElem_range] at e2
        injection e2 with e2 e3
        subst e2; subst e3
        simp only [List.length_range] at hil
        have h2 := hf i hil
        rw [List.getElem?_eq_getElem (by omega)] at h2
        refine ⟨n', xs[i].2, xs[i].1, by simp [hxl, hil], h2, fun m hm => hwt m ?_⟩
        subst hx
        simp only [DataW.weights, hu]
        exact weights_all (List.mem_map.2 ⟨xs[i], List.getElem_mem _, rfl⟩) m hm
      · cases hT
    | [], _, _ => simp [okS] at hok
    | _ :: _ :: _, _, _ => simp [okS] at hok
  | nil =>
    intro o l cs ds hok hl hr
    exact ⟨trivial, fun j a x hj => by simp [avL] at hj⟩
  | cons s r ih1 ih2 =>
    intro o l cs ds hok hl hr
    match l, ds, hl with
    | p :: l, d :: ds, hl =>
      simp only [okS, Bool.and_eq_true] at hok
      have g1 := ih1 o [p] cs [d] hok.1 rfl (fun i t off hi => by
        rcases i with _ | i
        · exact hr 0 t off hi
        · simp at hi)
      have g2 := ih2 (o + szS s) l cs ds hok.2 (by simpa using hl) (fun i t off hi => hr (i + 1) t off hi)
      refine ⟨⟨g1.1, g2.1⟩, fun j a x hj hx => ?_⟩
      simp only [avL, hd, List.tail_cons] at hj
      by_cases hjl : j < szS s
      · rw [List.getElem?_append_left (by rw [avL_length]; exact hjl)] at hj
        exact g1.2 j a x hj hx
      · rw [List.getElem?_append_right (by rw [avL_length]; omega), avL_length] at hj
        refine g2.2 _ a x hj ?_
        rw [← hx]
        congr 1
        omega
    | [], _, _ => simp [okS] at hok
end

/-! ### A law -/
section
variable {H : Type}
/-- An argument. -/
def avA : Sh → DataW H → AV
  | .ag f, d => .ag (avL f (toParts d))
  | s, d => (avL s [d])[0]?.getD .un
def avAs : List Sh → List (DataW H) → List AV
  | s :: ss, ds => avA s (hd ds) :: avAs ss ds.tail
  | [], _ => []
def Szds : List Sh → List (DataW H) → Prop
  | s :: ss, ds => Szd s [hd ds] ∧ Szds ss ds.tail
  | [], _ => True
def okArgs (P : Program) : List Sh → List TypeId → Bool
  | s :: ss, t :: ts => (match s with | .nil => false | .cons _ _ => false | _ => true) && okS P s 0 [(t, 0)] && okArgs P ss ts
  | [], [] => true
  | _, _ => false
end
section
variable {H : Type} {enc : TypeId × Value → H} {P : Program} {w : World} {base b0 : Nat} {spare : Nat → Bool} {held : Bool}
theorem arg_rep {s : Sh} {t : TypeId} {v : Value} {d : DataW H} {ps : List MemPlace} (hs : (match s with | .nil => false | .cons _ _ => false | _ => true) = true) (hok : okS P s 0 [(t, 0)] = true) (hv : Value.okWide P w .any b0 t v)
    (h : DataW.Trod enc P w base spare held t v d ps) (hw : ∀ m ∈ d.weights P t, m ≤ reachBytes) (ρ : Nat → Loc) : Szd s [d] ∧ Rep w (fun _ => False) ρ (avA s d) v := by
  obtain ⟨fuel, h⟩ := h
  have hlen : ∀ us : Array Value, v = .agg us → us.size = P.cellsOf t → Szd s [d] ∧ ∀ (j : Nat) (a : AV) (x : Value), (avL s [d])[j]? = some a → us[j]? = some x → RepI w (fun _ => False) a x := fun us e hz => by
    subst e
    have := trod_av (enc := enc) (w := w) (base := base) (spare := spare) (held := held) s 0 [(t, 0)] us.toList [d] hok rfl (fun i t' off hi => by
      rcases i with _ | i
      · simp only [List.getElem?_cons_zero, Option.some.injEq, Prod.mk.injEq] at hi
        obtain ⟨rfl, rfl⟩ := hi
        refine ⟨fuel, ps, d, rfl, ?_, hw⟩
        rw [List.drop_zero, List.take_of_length_le (by simp; omega)]
        exact h
      · simp at hi)
    exact ⟨this.1, fun j a x hj hx => this.2 j a x hj (by simpa using hx)⟩
  have hone : v.cells.toList = [v] → P.cellsOf t = 1 → szS s = 1 → Szd s [d] ∧ RepI w (fun _ => False) ((avL s [d])[0]?.getD .un) v := fun e hz hs1 => by
    rw [e] at h
    have := trod_av (enc := enc) (w := w) (base := base) (spare := spare) (held := held) s 0 [(t, 0)] [v] [d] hok rfl (fun i t' off hi => by
      rcases i with _ | i
      · simp only [List.getElem?_cons_zero, Option.some.injEq, Prod.mk.injEq] at hi
        obtain ⟨rfl, rfl⟩ := hi
        refine ⟨fuel, ps, d, rfl, ?_, hw⟩
        rw [List.drop_zero, hz]
        exact h
      · simp at hi)
    refine ⟨this.1, ?_⟩
    have hl := avL_length s [d]
    rw [hs1] at hl
    rw [List.getElem?_eq_getElem (by omega), Option.getD_some]
    exact this.2 0 _ v (List.getElem?_eq_getElem (by omega)) rfl
  cases s with
  | int k =>
    simp only [okS, Bool.and_eq_true, beq_iff_eq] at hok
    obtain ⟨⟨_, hT⟩, hc⟩ := id hok
    split at hT
    · next k' hu => obtain ⟨z, rfl⟩ := okWide_int hu hv; exact ⟨(hone rfl hc rfl).1, .im (hone rfl hc rfl).2⟩
    · cases hT
  | bool =>
    simp only [okS, Bool.and_eq_true, beq_iff_eq] at hok
    obtain ⟨⟨_, hT⟩, hc⟩ := id hok
    split at hT
    · next hu => obtain ⟨z, rfl⟩ := okWide_bool hu hv; exact ⟨(hone rfl hc rfl).1, .im (hone rfl hc rfl).2⟩
    · cases hT
  | str =>
    simp only [okS, Bool.and_eq_true, beq_iff_eq] at hok
    obtain ⟨⟨_, hT⟩, hc⟩ := id hok
    split at hT
    · next hu => obtain ⟨z, rfl⟩ := okWide_string hu hv; exact ⟨(hone rfl hc rfl).1, .im (hone rfl hc rfl).2⟩
    · cases hT
  | sl sz e =>
    simp only [okS, Bool.and_eq_true, beq_iff_eq] at hok
    obtain ⟨⟨_, hT⟩, hc⟩ := id hok
    split at hT
    · next e' hu => obtain ⟨z1, z2, z3, rfl⟩ := okWide_slice hu hv; exact ⟨(hone rfl hc rfl).1, .im (hone rfl hc rfl).2⟩
    · cases hT
  | ag f =>
    simp only [okS, Bool.and_eq_true, beq_iff_eq] at hok
    obtain ⟨⟨_, hT⟩, hc⟩ := id hok
    have hagg : ∃ us : Array Value, v = .agg us ∧ us.size = P.cellsOf t := by
      split at hT
      · next fs hu => exact okWide_struct hu hv
      · next n e hu =>
        simp only [Value.okWide, hu] at hv
        obtain ⟨us, h1, h2, _⟩ := hv
        exact ⟨us, h1, h2⟩
      · cases hT
    obtain ⟨us, rfl, hz⟩ := hagg
    obtain ⟨g1, g2⟩ := hlen us rfl hz
    refine ⟨g1, .ag ?_ fun j a x hj hx => .im (g2 j a x hj hx)⟩
    rw [hz, hc, avL_length]
  | nil => cases hs
  | cons s r => cases hs
theorem args_rep : ∀ {ss : List Sh} {ts : List TypeId} {vs : List Value} {ds : List (DataW H)} {ps : List MemPlace} (hok : okArgs P ss ts = true) (hv : ∀ (j : Nat) t v, ts[j]? = some t → vs[j]? = some v → Value.okWide P w .any b0 t v)
    (h : DataW.TrodAll enc P w base spare held ts vs ds ps) (hw : ∀ m ∈ DataW.weightsEach P ts ds, m ≤ reachBytes) (ρ : Nat → Loc),
    Szds ss ds ∧ vs.length = (avAs ss ds).length ∧ ∀ (j : Nat) (a : AV) (x : Value), (avAs ss ds)[j]? = some a → vs[j]? = some x → Rep w (fun _ => False) ρ a x
  | [], [], vs, ds, ps, hok, hv, h, hw, ρ => by
    match vs, ds, h with
    | [], [], _ => exact ⟨trivial, rfl, fun j a x hj => by simp [avAs] at hj⟩
  | s :: ss, t :: ts, vs, ds, ps, hok, hv, h, hw, ρ => by
    match vs, ds, h with
    | v :: vs, d :: ds, ⟨p, q, h1, h2, _⟩ =>
      simp only [okArgs, Bool.and_eq_true] at hok
      simp only [DataW.weightsEach, List.mem_append] at hw
      obtain ⟨g1, g2⟩ := arg_rep (b0 := b0) hok.1.1 hok.1.2 (hv 0 t v rfl rfl) h1 (fun m hm => hw m (.inl hm)) ρ
      obtain ⟨q1, q2, q3⟩ := args_rep hok.2 (fun j t v ht hv' => hv (j + 1) t v ht hv') h2 (fun m hm => hw m (.inr hm)) ρ
      refine ⟨⟨g1, q1⟩, by simp [avAs, q2], fun j a x hj hx => ?_⟩
      rcases j with _ | j
      · simp only [avAs, hd, List.getElem?_cons_zero, Option.some.injEq] at hj hx
        subst hj; subst hx
        exact g2
      · simp only [avAs, List.tail_cons, List.getElem?_cons_succ] at hj hx
        exact q3 j a x hj hx
  | [], _ :: _, _, _, _, hok, _, _, _, _ => by simp [okArgs] at hok
  | _ :: _, [], _, _, _, hok, _, _, _, _ => by simp [okArgs] at hok
end
end Go.Proofs.YtogmppcfopgkdaaGreatDoor

/- The abstract machine, part 19: drawn regions in which several operations may come first. No program is named here. -/
namespace Go.Proofs.YtogmppcfopgkdaaGreatDoor
open Go.RowKit
set_option linter.unusedVariables false
set_option linter.unusedSimpArgs false
/-- The operation i comes next. -/
def awI (P : Program) (ops : Array Oper) (fuel : Nat) (listed : Array Bool) (st : St) (Q : Exit → St → Prop) (i : Nat) : Prop := ∀ E a w, S E st a w →
  wpOp P ops (QQ E Q) i (fun a' w' => (dsI ops i = false → Below w.heap.size w w') ∧ wpAnyB P ops (QQ E Q) fuel (listed.setIfInBounds i true) a' w') a w
structure SubK (s t : St) : Prop where
  fr : ∀ k x, look s.fr k = some x → look t.fr k = some x
  hp : ∀ k x, look s.hp k = some x → look t.hp k = some x
  nt : s.nt = t.nt
  fx : s.fx = t.fx
theorem SubK.S {s t : St} (h : SubK s t) {E : Env} {a : Act} {w : World} (hs : S E t a w) : S E s a w := by
  obtain ⟨ρ, hs⟩ := hs
  have hown : ∀ b, ownB ρ s.hp b → ownB ρ t.hp b := fun b ⟨k, cs, h1, h2⟩ => ⟨k, cs, h.hp k cs h1, h2⟩
  have hav : ∀ b, avd E.bad ρ s.hp b → avd E.bad ρ t.hp b := fun b hb => hb.imp id (hown b)
  refine ⟨ρ, fun k x hk => ?_, ⟨fun k cs hk => ?_, fun k k' cs cs' h1 h2 => hs.hr.dis k k' cs cs' (h.hp _ _ h1) (h.hp _ _ h2)⟩, fun b hb => hs.own b (hown b hb), hs.keep, hs.bad, fun b hb => hs.nb b (hown b hb), by rw [h.nt]; exact hs.size, hs.defers, by rw [h.fx]; exact hs.fx⟩
  · exact (hs.fr k x (h.fr k x hk)).tr (Nat.le_refl _) (fun _ _ _ _ => rfl) (fun b _ hb => hav b hb) (fun k hk => absurd rfl hk)
  · exact (hs.hr.obj k cs (h.hp k cs hk)).tr (Nat.le_refl _) (fun _ => rfl) (fun _ _ _ _ => rfl) (fun b _ hb => hav b hb) (fun k hk => absurd rfl hk)
/-- The region ends in a state in which M is known. -/
def endQ (M : St) : Exit → St → Prop := fun e st => e = .normal ∧ SubK M st
theorem endQ_rfl {st : St} : endQ st .normal st := ⟨rfl, fun _ _ h => h, fun _ _ h => h, rfl, rfl⟩
theorem look_cutL : ∀ (l : List (Nat × AV)) (ws : List Nat) (k : Nat) (x : AV), look l k = some x → k ∉ ws → (k, x) ∈ cutL ws l
  | [], _, _, _, h, _ => by simp [look] at h
  | (i, y) :: r, ws, k, x, h, hk => by
    rw [look_cons] at h
    rw [cutL_cons]
    split at h
    · next e =>
      subst e
      injection h with h
      subst h
      rw [if_neg (by simpa using hk)]
      exact List.mem_cons_self ..
    · next e =>
      split
      · exact look_cutL r ws k x h hk
      · exact List.mem_cons_of_mem _ (look_cutL r (i :: ws) k x h (by simp only [List.mem_cons, not_or]; exact ⟨fun h' => e h'.symm, hk⟩))
theorem endQ_sub {fr fr' : List (Nat × AV)} {hp hp' : Hp} {nt : Nat} {fx : List Nat} (h1 : subL (cutL [] fr) fr') (h2 : subL hp hp') : endQ ⟨fr, hp, nt, fx⟩ .normal ⟨fr', hp', nt, fx⟩ :=
  ⟨rfl, fun k x hk => subL_spec h1 _ (look_cutL fr [] k x hk (by simp)), fun k x hk => subL_spec h2 _ (look_mem hk), rfl, rfl⟩
theorem NP_end {M : St} : NP (endQ M) := fun c st h => by cases h.1
theorem wpOp_mono2 {P : Program} {ops : Array Oper} {Q Q' : Exit → Act → World → Prop} {i : Nat} {a : Act} {w : World} {K K' : Act → World → Prop} (h : ∀ a w, K a w → K' a w) (hq : ∀ e a w, Q e a w → Q' e a w)
    (hh : wpOp P ops Q i K a w) : wpOp P ops Q' i K' a w := by
  have hl : LetsOut Q → LetsOut Q' := fun ⟨a, w, h⟩ => ⟨a, w, hq _ _ _ h⟩
  unfold wpOp at *
  split
  · exact h _ _ (by simpa [*] using hh)
  · rename_i o ho
    simp only [ho] at hh
    split
    · rename_i hw
      simp only [hw, if_true] at hh
      refine hh.imp (fun hh => ?_) (fun hh => ⟨hh.1, hl hh.2⟩)
      unfold Oper.wp at *
      generalize (execOp a.eval o).run P w = r at *
      cases r with
      | ok n w' =>
        cases n <;> simp only [Oper.upon] at hh ⊢ <;>
          first
            | exact h _ _ hh
            | exact Calls.mono hh (fun e w'' he => by cases e <;> first | exact h _ _ he | exact hq _ _ _ he | exact hl he)
            | exact Rows.mono hh (fun _ _ he => h _ _ he)
      | halt x w' => cases x <;> simp only [Oper.upon] at hh ⊢ <;> exact hq _ _ _ hh
    · rename_i hw; simp only [hw] at hh; exact h _ _ hh
/-- The first that may come is i. -/
def awP (P : Program) (ops : Array Oper) (fuel : Nat) (listed : Array Bool) (st : St) (Q : Exit → St → Prop) (i : Nat) : Prop := awY P ops fuel listed st Q
section
variable {P : Program} {ops : Array Oper} {Q : Exit → St → Prop} {st st' : St} {listed : Array Bool} {fuel : Nat} {o : Oper}
theorem awY_p (i : Nat) (h0 : (Region.ready .any ops listed)[0]? = some i) (h : awP P ops fuel listed st Q i) : awY P ops fuel listed st Q := h
theorem awY_end {M : St} (h : awY P ops fuel listed st (endQ M)) (hM : Q .normal M) : awY P ops fuel listed st Q := fun E a w hS => by
  have key : ∀ (fuel : Nat) (listed : Array Bool) (a : Act) (w : World), wpAnyB P ops (QQ E (endQ M)) fuel listed a w → wpAnyB P ops (QQ E Q) fuel listed a w := by
    have hq : ∀ e a w, QQ E (endQ M) e a w → QQ E Q e a w := fun e a w ⟨st', hs, he, hsub⟩ => by
      subst he
      exact ⟨M, hsub.S hs, hM⟩
    intro fuel
    induction fuel with
    | zero => exact fun listed a w h => ⟨h.1, hq _ _ _ h.2⟩
    | succ n ih => exact fun listed a w h => ⟨fun h0 => hq _ _ _ (h.1 h0), fun i hi => wpOp_mono2 (fun a' w' h' => ⟨h'.1, ih _ a' w' h'.2⟩) hq (h.2 i hi)⟩
  exact key fuel listed a w (h E a w hS)
/-- Two may come first: either way leads to M. -/
theorem awP_2 {i : Nat} (j : Nat) (M : St) (hr : Region.ready .any ops listed = [i, j]) (h1 : awI P ops fuel listed st (endQ M) i) (h2 : awI P ops fuel listed st (endQ M) j) (hM : Q .normal M) : awP P ops (fuel + 1) listed st Q i := by
  refine awY_end (M := M) (fun E a w hS => ⟨fun h0 => (by rw [hr] at h0; cases h0), fun k hk => ?_⟩) hM
  rw [hr] at hk
  simp only [List.mem_cons, List.not_mem_nil, or_false] at hk
  rcases hk with rfl | rfl
  · exact h1 E a w hS
  · exact h2 E a w hS
theorem awI_ev {i : Nat} (hi : ops[i]? = some o) (hg : o.guard = none) (he : ev P st o = some st') (h : awY P ops fuel (listed.setIfInBounds i true) st' Q) : awI P ops fuel listed st Q i :=
  fun E a w ⟨ρ, hS⟩ => wpOp_of_step hi (by simp [Region.wanted, hg]) (ev_sound hS he) fun a' w' hs hb => ⟨fun hd => hb (dsI_op hd hi), h E a' w' hs⟩
theorem awI_c {i d : Nat} {f : FuncId} {args : List Operand} {ts : Array TypeId} {ys : List AV} {r : AV} (hi : ops[i]? = some o) (hg : o.guard = none) (ho : o.op = .call ⟨.value (.func f), args.toArray, ts⟩) (ha : argsA st args = some ys) (hc : Ab P f ys r) (him : ys.all immA = true) (hir : immA r = true)
    (hd : o.dst = some d) (hdn : d < st.nt) (h : awY P ops fuel (listed.setIfInBounds i true) (st.put (some d) r) Q) : awI P ops fuel listed st Q i :=
  fun E a w ⟨ρ, hS⟩ => wpOp_of_wp hi (by simp [Region.wanted, hg]) (call_step hS ho ha hc him hir (fun e he => by rw [hd] at he; injection he with he; subst he; exact hdn) fun a' w' hs hb => ⟨fun _ => hb, h E a' w' (by rw [hd] at hs; exact hs)⟩)
end
end Go.Proofs.YtogmppcfopgkdaaGreatDoor

/- The abstract machine, part 20: guarded calls, and what came later. No program is named here. -/
namespace Go.Proofs.YtogmppcfopgkdaaGreatDoor
open Go.RowKit
set_option linter.unusedVariables false
set_option linter.unusedSimpArgs false
section
variable {P : Program} {Q : Exit → St → Prop} {ops : Array Oper} {rest : List Oper}
/-- A guard that is known to hold goes. -/
theorem awO_un {dst : Option Nat} {op : Op} {ty : TypeId} {ps : String} {af : Array Edge} {fr : List (Nat × AV)} {hp : Hp} {nt : Nat} {fx : List Nat} {j t : Nat} {b : Bool} (hj : (ops[j]?).bind (·.dst) = some t) (ht : t < nt) (hc : look fr t = some (.v (.bool b)))
    (h : awO P ops (⟨dst, op, ty, ps, af, none⟩ :: rest) ⟨fr, hp, nt, fx⟩ Q) : awO P ops (⟨dst, op, ty, ps, af, some (j, b)⟩ :: rest) ⟨fr, hp, nt, fx⟩ Q := fun E a w ⟨ρ, hS⟩ => by
  have h1 := h E a w ⟨ρ, hS⟩
  have hw := wanted_of (ops := ops) (o := ⟨dst, op, ty, ps, af, some (j, b)⟩) hS rfl hj ht hc
  simp only [wpList, hw, beq_self_eq_true] at h1 ⊢
  exact h1
end
/-! ### A nil slice is a slice of no elements -/
def nzC : AV → AV
  | .v (.slice none 0 0) => .rd 0 []
  | x => x
def nzP : AV → AV
  | .ag cs => .ag (cs.map nzC)
  | x => nzC x
def nz : AV → AV
  | .tp cs => .tp (cs.map nzP)
  | x => nzP x
section
variable {w : World} {av : Nat → Prop} {ρ : Nat → Loc}
theorem nilrd : RepI w av (.rd 0 []) (.slice none 0 0) := .rd (fun _ => undef) (Nat.le_refl _) (by omega) (fun _ => rfl) (fun h => absurd h (by omega)) (fun j a hj => by simp at hj)
theorem nzC_rep {a : AV} {v : Value} (h : Rep w av ρ a v) : Rep w av ρ (nzC a) v := by
  unfold nzC
  split
  · rw [h.v_eq]; exact .im nilrd
  · exact h
theorem nzP_rep {a : AV} {v : Value} (h : Rep w av ρ a v) : Rep w av ρ (nzP a) v := by
  unfold nzP
  split
  · obtain ⟨us, rfl, hn, hr⟩ := h.ag_inv
    refine .ag (by simpa using hn) fun j a x hj hx => ?_
    rw [List.getElem?_map, Option.map_eq_some_iff] at hj
    obtain ⟨b, hb, rfl⟩ := hj
    exact nzC_rep (hr j b x hb hx)
  · exact nzC_rep h
theorem nz_rep {a : AV} {v : Value} (h : Rep w av ρ a v) : Rep w av ρ (nz a) v := by
  unfold nz
  split
  · obtain ⟨us, rfl, hn, hr⟩ := h.tp_inv
    refine .tp (by simpa using hn) fun j a x hj hx => ?_
    rw [List.getElem?_map, Option.map_eq_some_iff] at hj
    obtain ⟨b, hb, rfl⟩ := hj
    exact nzP_rep (hr j b x hb hx)
  · exact nzP_rep h
end
/-- Nil slices as arguments. -/
theorem Fn_nz {P : Program} {f : FuncId} {args : List AV} {h : Hp} {r : AV} {h' : Hp} {fix : List Nat} (hf : Fn P f (args.map nz) h r h' fix) : Fn P f args h r h' fix :=
  ⟨hf.1, fun w bad ρ vs h1 h2 h3 h4 => hf.2 w bad ρ vs h1 h2 h3 ⟨by simpa using h4.1, fun j a x hj hx => by
    rw [List.getElem?_map, Option.map_eq_some_iff] at hj
    obtain ⟨b, hb, rfl⟩ := hj
    exact nz_rep (h4.2 j b x hb hx)⟩⟩
section
variable {P : Program} {Q : Exit → St → Prop} {c : Code} {fr : List (Nat × AV)} {hp : Hp} {nt : Nat} {fx : List Nat}
theorem S_nzT {E : Env} {a : Act} {w : World} (t : Nat) {x : AV} (ht : look fr t = some x) (hS : S E ⟨fr, hp, nt, fx⟩ a w) : S E ⟨(t, nz x) :: fr, hp, nt, fx⟩ a w := by
  obtain ⟨ρ, hS⟩ := hS
  refine ⟨ρ, fun t' y hy => ?_, hS.hr, hS.own, hS.keep, hS.bad, hS.nb, hS.size, hS.defers, hS.fx⟩
  rw [look_cons] at hy
  split at hy
  · next e => subst e; injection hy with hy; subst hy; exact nz_rep (hS.fr t _ ht)
  · exact hS.fr t' y hy
/-- In the object k, nil slices are slices of no elements. -/
theorem S_nzO {E : Env} {a : Act} {w : World} (k : Nat) {cs : List AV} (hk : look hp k = some cs) (hS : S E ⟨fr, hp, nt, fx⟩ a w) : S E ⟨fr, hset k (cs.map nzC) hp, nt, fx⟩ a w := by
  obtain ⟨ρ, hS⟩ := hS
  have hlook : ∀ j, look (hset k (cs.map nzC) hp) j = if j = k then some (cs.map nzC) else look hp j := look_hset k _ hp
  have hown : ownB ρ (hset k (cs.map nzC) hp) = ownB ρ hp := by
    funext b
    apply propext
    constructor
    · rintro ⟨j, c', h1, h2⟩
      rw [hlook] at h1
      split at h1
      · next e => subst e; exact ⟨j, cs, hk, h2⟩
      · exact ⟨j, c', h1, h2⟩
    · rintro ⟨j, c', h1, h2⟩
      by_cases e : j = k
      · subst e; exact ⟨j, _, by rw [hlook, if_pos rfl], h2⟩
      · exact ⟨j, c', by rw [hlook, if_neg e]; exact h1, h2⟩
  have eav : avd E.bad ρ (hset k (cs.map nzC) hp) = avd E.bad ρ hp := by unfold avd; rw [hown]
  have g : ∀ i c, (if i = k then some (cs.map nzC) else look hp i) = some c → ∃ c0, look hp i = some c0 := fun i c hi => by
    split at hi
    · next e => subst e; exact ⟨cs, hk⟩
    · exact ⟨c, hi⟩
  refine ⟨ρ, fun t x hx => by simp only [eav]; exact hS.fr t x hx, ⟨fun j c' hj => ?_, fun j j' c1 c2 h1 h2 => ?_⟩, by simp only [hown]; exact hS.own, hS.keep, hS.bad, by simp only [hown]; exact hS.nb, hS.size, hS.defers, hS.fx⟩
  · simp only [eav]
    simp only [hlook] at hj
    split at hj
    · next e =>
      subst e
      injection hj with hj
      subst hj
      have hob := hS.hr.obj j cs hk
      refine ⟨by simpa using hob.len, hob.mem, fun i x hx => ?_⟩
      rw [List.getElem?_map, Option.map_eq_some_iff] at hx
      obtain ⟨y, hy, rfl⟩ := hx
      obtain ⟨v, hv, hr⟩ := hob.cells i y hy
      exact ⟨v, hv, nzC_rep hr⟩
    · exact hS.hr.obj j c' hj
  · simp only [hlook] at h1 h2
    obtain ⟨c0, g1⟩ := g j c1 h1
    obtain ⟨c1', g2⟩ := g j' c2 h2
    exact hS.hr.dis j j' c0 c1' g1 g2
end
theorem nzC_nil : nzC (.v (.slice none 0 0)) = .rd 0 [] := rfl
theorem nzC_int (k : IntKind) (n : Int) : nzC (.v (.int k n)) = .v (.int k n) := rfl
theorem nzC_bool (b : Bool) : nzC (.v (.bool b)) = .v (.bool b) := rfl
theorem nzC_string (b : ByteArray) : nzC (.v (.string b)) = .v (.string b) := rfl
theorem nzC_rd (n : Nat) (cs : List AV) : nzC (.rd n cs) = .rd n cs := rfl
theorem nzC_os (k o s n : Nat) : nzC (.os k o s n) = .os k o s n := rfl
theorem nz_nil : nz (.v (.slice none 0 0)) = .rd 0 [] := rfl
theorem nz_ag (cs : List AV) : nz (.ag cs) = .ag (cs.map nzC) := rfl
attribute [go_sem] nzC_nil nzC_int nzC_bool nzC_string nzC_rd nzC_os nz_nil nz_ag
/-! ### Guarded calls in drawn regions -/
section
variable {P : Program} {ops : Array Oper} {Q : Exit → St → Prop} {st st' : St} {listed : Array Bool} {fuel : Nat} {o : Oper}
theorem awI_cy {i d j t : Nat} {b : Bool} {f : FuncId} {args : List Operand} {ts : Array TypeId} {ys : List AV} {r : AV} (hi : ops[i]? = some o) (hg : o.guard = some (j, b)) (hj : (ops[j]?).bind (·.dst) = some t) (ht : t < st.nt) (hcc : look st.fr t = some (.v (.bool b))) (ho : o.op = .call ⟨.value (.func f), args.toArray, ts⟩) (ha : argsA st args = some ys) (hc : Ab P f ys r) (him : ys.all immA = true) (hir : immA r = true)
    (hd : o.dst = some d) (hdn : d < st.nt) (h : awY P ops fuel (listed.setIfInBounds i true) (st.put (some d) r) Q) : awI P ops fuel listed st Q i :=
  fun E a w ⟨ρ, hS⟩ => wpOp_of_wp hi (by rw [wanted_of hS hg hj ht hcc]; simp) (call_step hS ho ha hc him hir (fun e he => by rw [hd] at he; injection he with he; subst he; exact hdn) fun a' w' hs hb => ⟨fun _ => hb, h E a' w' (by rw [hd] at hs; exact hs)⟩)
/-- The one that must come next. -/
theorem awP_1 {i : Nat} (hr : Region.ready .any ops listed = [i]) (h : awI P ops fuel listed st Q i) : awP P ops (fuel + 1) listed st Q i := fun E a w hS => by
  refine ⟨fun h0 => (by rw [hr] at h0; cases h0), fun k hk => ?_⟩
  rw [hr] at hk
  have : k = i := by simpa using hk
  subst this
  exact h E a w hS
theorem awP_3 {i : Nat} (j k : Nat) (M : St) (hr : Region.ready .any ops listed = [i, j, k]) (h1 : awI P ops fuel listed st (endQ M) i) (h2 : awI P ops fuel listed st (endQ M) j) (h3 : awI P ops fuel listed st (endQ M) k) (hM : Q .normal M) : awP P ops (fuel + 1) listed st Q i := by
  refine awY_end (M := M) (fun E a w hS => ⟨fun h0 => (by rw [hr] at h0; cases h0), fun l hl => ?_⟩) hM
  rw [hr] at hl
  simp only [List.mem_cons, List.not_mem_nil, or_false] at hl
  rcases hl with rfl | rfl | rfl
  · exact h1 E a w hS
  · exact h2 E a w hS
  · exact h3 E a w hS
end
/-! ### Slices of structs -/
theorem flat2_len {α : Type} {f0 f1 : α → AV} {L : List α} : (L.flatMap fun x => [f0 x, f1 x]).length = L.length * 2 := by
  induction L with
  | nil => rfl
  | cons y L ih => rw [List.flatMap_cons, List.length_append, ih]; simp only [List.length_cons, List.length_nil]; omega
theorem flat2_drop {α : Type} {f0 f1 : α → AV} {L : List α} {k : Nat} (hk : k < L.length) : (L.flatMap fun x => [f0 x, f1 x]).drop (k * 2) = f0 L[k] :: f1 L[k] :: (L.drop (k + 1)).flatMap fun x => [f0 x, f1 x] := by
  induction L generalizing k with
  | nil => simp at hk
  | cons y L ih =>
    cases k with
    | zero => simp
    | succ k =>
      rw [List.flatMap_cons, List.drop_append, List.drop_eq_nil_of_le (by simp; omega)]
      have e : (k + 1) * 2 - ([f0 y, f1 y] : List AV).length = k * 2 := by simp; omega
      rw [e, ih (by simpa using hk)]
      simp
theorem flat3_len {α : Type} {f0 f1 f2 : α → AV} {L : List α} : (L.flatMap fun x => [f0 x, f1 x, f2 x]).length = L.length * 3 := by
  induction L with
  | nil => rfl
  | cons y L ih => rw [List.flatMap_cons, List.length_append, ih]; simp only [List.length_cons, List.length_nil]; omega
theorem flat3_drop {α : Type} {f0 f1 f2 : α → AV} {L : List α} {k : Nat} (hk : k < L.length) : (L.flatMap fun x => [f0 x, f1 x, f2 x]).drop (k * 3) = f0 L[k] :: f1 L[k] :: f2 L[k] :: (L.drop (k + 1)).flatMap fun x => [f0 x, f1 x, f2 x] := by
  induction L generalizing k with
  | nil => simp at hk
  | cons y L ih =>
    cases k with
    | zero => simp
    | succ k =>
      rw [List.flatMap_cons, List.drop_append, List.drop_eq_nil_of_le (by simp; omega)]
      have e : (k + 1) * 3 - ([f0 y, f1 y, f2 y] : List AV).length = k * 3 := by simp; omega
      rw [e, ih (by simpa using hk)]
      simp
theorem flat4_len {α : Type} {f0 f1 f2 f3 : α → AV} {L : List α} : (L.flatMap fun x => [f0 x, f1 x, f2 x, f3 x]).length = L.length * 4 := by
  induction L with
  | nil => rfl
  | cons y L ih => rw [List.flatMap_cons, List.length_append, ih]; simp only [List.length_cons, List.length_nil]; omega
theorem flat4_drop {α : Type} {f0 f1 f2 f3 : α → AV} {L : List α} {k : Nat} (hk : k < L.length) : (L.flatMap fun x => [f0 x, f1 x, f2 x, f3 x]).drop (k * 4) = f0 L[k] :: f1 L[k] :: f2 L[k] :: f3 L[k] :: (L.drop (k + 1)).flatMap fun x => [f0 x, f1 x, f2 x, f3 x] := by
  induction L generalizing k with
  | nil => simp at hk
  | cons y L ih =>
    cases k with
    | zero => simp
    | succ k =>
      rw [List.flatMap_cons, List.drop_append, List.drop_eq_nil_of_le (by simp; omega)]
      have e : (k + 1) * 4 - ([f0 y, f1 y, f2 y, f3 y] : List AV).length = k * 4 := by simp; omega
      rw [e, ih (by simpa using hk)]
      simp
theorem flat5_len {α : Type} {f0 f1 f2 f3 f4 : α → AV} {L : List α} : (L.flatMap fun x => [f0 x, f1 x, f2 x, f3 x, f4 x]).length = L.length * 5 := by
  induction L with
  | nil => rfl
  | cons y L ih => rw [List.flatMap_cons, List.length_append, ih]; simp only [List.length_cons, List.length_nil]; omega
theorem flat5_drop {α : Type} {f0 f1 f2 f3 f4 : α → AV} {L : List α} {k : Nat} (hk : k < L.length) : (L.flatMap fun x => [f0 x, f1 x, f2 x, f3 x, f4 x]).drop (k * 5) = f0 L[k] :: f1 L[k] :: f2 L[k] :: f3 L[k] :: f4 L[k] :: (L.drop (k + 1)).flatMap fun x => [f0 x, f1 x, f2 x, f3 x, f4 x] := by
  induction L generalizing k with
  | nil => simp at hk
  | cons y L ih =>
    cases k with
    | zero => simp
    | succ k =>
      rw [List.flatMap_cons, List.drop_append, List.drop_eq_nil_of_le (by simp; omega)]
      have e : (k + 1) * 5 - ([f0 y, f1 y, f2 y, f3 y, f4 y] : List AV).length = k * 5 := by simp; omega
      rw [e, ih (by simpa using hk)]
      simp
theorem flat6_len {α : Type} {f0 f1 f2 f3 f4 f5 : α → AV} {L : List α} : (L.flatMap fun x => [f0 x, f1 x, f2 x, f3 x, f4 x, f5 x]).length = L.length * 6 := by
  induction L with
  | nil => rfl
  | cons y L ih => rw [List.flatMap_cons, List.length_append, ih]; simp only [List.length_cons, List.length_nil]; omega
theorem flat6_drop {α : Type} {f0 f1 f2 f3 f4 f5 : α → AV} {L : List α} {k : Nat} (hk : k < L.length) : (L.flatMap fun x => [f0 x, f1 x, f2 x, f3 x, f4 x, f5 x]).drop (k * 6) = f0 L[k] :: f1 L[k] :: f2 L[k] :: f3 L[k] :: f4 L[k] :: f5 L[k] :: (L.drop (k + 1)).flatMap fun x => [f0 x, f1 x, f2 x, f3 x, f4 x, f5 x] := by
  induction L generalizing k with
  | nil => simp at hk
  | cons y L ih =>
    cases k with
    | zero => simp
    | succ k =>
      rw [List.flatMap_cons, List.drop_append, List.drop_eq_nil_of_le (by simp; omega)]
      have e : (k + 1) * 6 - ([f0 y, f1 y, f2 y, f3 y, f4 y, f5 y] : List AV).length = k * 6 := by simp; omega
      rw [e, ih (by simpa using hk)]
      simp
attribute [go_sem] flat2_len flat2_drop flat3_len flat3_drop flat4_len flat4_drop flat5_len flat5_drop flat6_len flat6_drop
theorem flat_all {α : Type} {f : α → List AV} {L : List α} {p : AV → Bool} : (L.flatMap f).all p = L.all fun x => (f x).all p := by simp [List.all_flatMap]
theorem freeOf_flat {α : Type} {f : α → List AV} {L : List α} {k : Nat} : freeOf k (L.flatMap f) = L.all fun x => freeOf k (f x) := by simp [freeOf, List.all_flatMap]
theorem lenV_nil {P : Program} {t : TypeId} (ty : TypeId) (h : isSlT P t = true) : lenV P #[t] ty (.slice none 0 0) = some (.int .i64 0) := by
  obtain ⟨e, h⟩ := isSl_spec h
  simp [lenV, Builtin.len_, pr_bind, pr_underlying h, pr_pure, goInt]
attribute [go_sem] flat_all freeOf_flat lenV_nil
end Go.Proofs.YtogmppcfopgkdaaGreatDoor

/- The abstract machine, part 21: the side proofs of a walk, each under a name. No program is named here. -/
namespace Go.Proofs.YtogmppcfopgkdaaGreatDoor
open Go.RowKit
set_option linter.unusedVariables false
set_option linter.unusedSimpArgs false
section
variable {α : Type} {x : Option α} {y : α}
theorem sv (h : x = some y := by (simp (disch := first | omega | (refine id ?_; simp only [go_sem, List.length_cons, List.length_nil, List.length_map, List.all_cons, List.all_nil, List.drop_zero, List.drop_succ_cons, List.not_mem_nil, Bool.and_self, Bool.not_false, not_false_eq_true, implies_true, List.mem_cons, or_false, or_self, Nat.reduceAdd, Nat.reduceMul, Nat.reduceLeDiff, Nat.reduceEqDiff, Nat.reduceBEq, Bool.and_true]; done) | (refine id ?_; simp only [List.length_cons, List.length_nil, List.length_map, List.length_append, List.length_drop, List.length_take, List.length_replicate, flat2_len, flat3_len, flat4_len, flat5_len, flat6_len]; omega)) only [go_sem, Option.bind_some, Option.map_some, Option.bind_none, List.map_cons, List.map_nil, List.drop_succ_cons, List.drop_zero, List.take_succ_cons, List.take_zero, List.getElem?_cons_zero, List.getElem?_cons_succ, List.length_cons, List.length_nil, List.cons_append, List.nil_append, List.append_nil, List.set_cons_zero, List.set_cons_succ, List.any_cons, List.any_nil, List.replicate_succ, List.replicate_zero, Nat.add_zero, Nat.zero_add, Nat.sub_zero, Nat.mul_one, Nat.one_mul, Nat.zero_mul, Nat.mul_zero, Int.toNat_natCast, Int.toNat_zero, Int.toNat_one, Int.reduceToNat, Bool.or_false, Bool.false_or, Bool.and_self, Bool.and_true, Bool.true_and, Bool.false_eq_true, Nat.reduceBEq, ↓reduceIte, Nat.reduceAdd, Nat.reduceMul, Nat.reduceLeDiff, Nat.reduceEqDiff, List.not_mem_nil, List.mem_cons, or_false, false_or, or_true, true_or, eq_self, decide_true, decide_false, Int.cast_ofNat_Int, Int.reduceEq, Int.reduceLT, Int.reduceLE, Int.reduceAdd, Int.reduceSub, Int.reduceNeg, Bool.not_true, Bool.not_false, Bool.or_true, Bool.true_or, Bool.and_false, Bool.false_and, List.cons.injEq, reduceCtorEq, and_false, false_and, and_true, true_and]) <;> with_reducible rfl) : x = some y := h
theorem svr (h : x = some y := by (simp (disch := first | omega | (refine id ?_; simp only [go_sem, List.length_cons, List.length_nil, List.length_map, List.all_cons, List.all_nil, List.drop_zero, List.drop_succ_cons, List.not_mem_nil, Bool.and_self, Bool.not_false, not_false_eq_true, implies_true, List.mem_cons, or_false, or_self, Nat.reduceAdd, Nat.reduceMul, Nat.reduceLeDiff, Nat.reduceEqDiff, Nat.reduceBEq, Bool.and_true]; done) | (refine id ?_; simp only [List.length_cons, List.length_nil, List.length_map, List.length_append, List.length_drop, List.length_take, List.length_replicate, flat2_len, flat3_len, flat4_len, flat5_len, flat6_len]; omega)) only [go_sem, Option.bind_some, Option.map_some, Option.bind_none, List.map_cons, List.map_nil, List.drop_succ_cons, List.drop_zero, List.take_succ_cons, List.take_zero, List.getElem?_cons_zero, List.getElem?_cons_succ, List.length_cons, List.length_nil, List.cons_append, List.nil_append, List.append_nil, List.set_cons_zero, List.set_cons_succ, List.any_cons, List.any_nil, List.replicate_succ, List.replicate_zero, Nat.add_zero, Nat.zero_add, Nat.sub_zero, Nat.mul_one, Nat.one_mul, Nat.zero_mul, Nat.mul_zero, Int.toNat_natCast, Int.toNat_zero, Int.toNat_one, Int.reduceToNat, Bool.or_false, Bool.false_or, Bool.and_self, Bool.and_true, Bool.true_and, Bool.false_eq_true, Nat.reduceBEq, ↓reduceIte, Nat.reduceAdd, Nat.reduceMul, Nat.reduceLeDiff, Nat.reduceEqDiff, List.not_mem_nil, List.mem_cons, or_false, false_or, or_true, true_or, eq_self, decide_true, decide_false, Int.cast_ofNat_Int, Int.reduceEq, Int.reduceLT, Int.reduceLE, Int.reduceAdd, Int.reduceSub, Int.reduceNeg, Bool.not_true, Bool.not_false, Bool.or_true, Bool.true_or, Bool.and_false, Bool.false_and, List.cons.injEq, reduceCtorEq, and_false, false_and, and_true, true_and]) <;> rfl) : x = some y := h
theorem svs (h : some y = x := by ((simp (disch := first | omega | (refine id ?_; simp only [go_sem, List.length_cons, List.length_nil, List.length_map, List.all_cons, List.all_nil, List.drop_zero, List.drop_succ_cons, List.not_mem_nil, Bool.and_self, Bool.not_false, not_false_eq_true, implies_true, List.mem_cons, or_false, or_self, Nat.reduceAdd, Nat.reduceMul, Nat.reduceLeDiff, Nat.reduceEqDiff, Nat.reduceBEq, Bool.and_true]; done) | (refine id ?_; simp only [List.length_cons, List.length_nil, List.length_map, List.length_append, List.length_drop, List.length_take, List.length_replicate, flat2_len, flat3_len, flat4_len, flat5_len, flat6_len]; omega)) only [go_sem, Option.bind_some, Option.map_some, Option.bind_none, List.map_cons, List.map_nil, List.drop_succ_cons, List.drop_zero, List.take_succ_cons, List.take_zero, List.getElem?_cons_zero, List.getElem?_cons_succ, List.length_cons, List.length_nil, List.cons_append, List.nil_append, List.append_nil, List.set_cons_zero, List.set_cons_succ, List.any_cons, List.any_nil, List.replicate_succ, List.replicate_zero, Nat.add_zero, Nat.zero_add, Nat.sub_zero, Nat.mul_one, Nat.one_mul, Nat.zero_mul, Nat.mul_zero, Int.toNat_natCast, Int.toNat_zero, Int.toNat_one, Int.reduceToNat, Bool.or_false, Bool.or_true, Bool.true_or, Bool.and_true, Bool.true_and, Bool.not_true, Bool.not_false, and_self, and_true, Bool.false_or, Bool.and_self, Bool.and_true, Bool.true_and, Bool.false_eq_true, Nat.reduceBEq, ↓reduceIte, Nat.reduceAdd, Nat.reduceMul, Nat.reduceLeDiff, Nat.reduceEqDiff, List.not_mem_nil, List.mem_cons, or_false, false_or, or_true, true_or, eq_self, decide_true, decide_false, Int.cast_ofNat_Int, Int.reduceEq, Int.reduceLT, Int.reduceLE, Int.reduceAdd, Int.reduceSub, Int.reduceNeg, Bool.not_true, Bool.not_false, Bool.or_true, Bool.true_or, Bool.and_false, Bool.false_and, List.cons.injEq, reduceCtorEq, and_false, false_and, and_true, true_and]) ) <;> with_reducible rfl) : some y = x := h
theorem svl {c : Bool} {x : Option AV} (h : x = some (.v (.bool c)) := by ((simp (disch := first | omega | (refine id ?_; simp only [go_sem, List.length_cons, List.length_nil, List.length_map, List.all_cons, List.all_nil, List.drop_zero, List.drop_succ_cons, List.not_mem_nil, Bool.and_self, Bool.not_false, not_false_eq_true, implies_true, List.mem_cons, or_false, or_self, Nat.reduceAdd, Nat.reduceMul, Nat.reduceLeDiff, Nat.reduceEqDiff, Nat.reduceBEq, Bool.and_true]; done) | (refine id ?_; simp only [List.length_cons, List.length_nil, List.length_map, List.length_append, List.length_drop, List.length_take, List.length_replicate, flat2_len, flat3_len, flat4_len, flat5_len, flat6_len]; omega)) only [go_sem, Option.bind_some, Option.map_some, Option.bind_none, List.map_cons, List.map_nil, List.drop_succ_cons, List.drop_zero, List.take_succ_cons, List.take_zero, List.getElem?_cons_zero, List.getElem?_cons_succ, List.length_cons, List.length_nil, List.cons_append, List.nil_append, List.append_nil, List.set_cons_zero, List.set_cons_succ, List.any_cons, List.any_nil, List.replicate_succ, List.replicate_zero, Nat.add_zero, Nat.zero_add, Nat.sub_zero, Nat.mul_one, Nat.one_mul, Nat.zero_mul, Nat.mul_zero, Int.toNat_natCast, Int.toNat_zero, Int.toNat_one, Int.reduceToNat, Bool.or_false, Bool.false_or, Bool.and_self, Bool.and_true, Bool.true_and, Bool.false_eq_true, Nat.reduceBEq, ↓reduceIte, Nat.reduceAdd, Nat.reduceMul, Nat.reduceLeDiff, Nat.reduceEqDiff, List.not_mem_nil, List.mem_cons, or_false, false_or, or_true, true_or, eq_self, decide_true, decide_false, Int.cast_ofNat_Int, Int.reduceEq, Int.reduceLT, Int.reduceLE, Int.reduceAdd, Int.reduceSub, Int.reduceNeg, Bool.not_true, Bool.not_false, Bool.or_true, Bool.true_or, Bool.and_false, Bool.false_and, List.cons.injEq, reduceCtorEq, and_false, false_and, and_true, true_and]); (fail_if_success (with_reducible exact (rfl : some (AV.v (Value.bool true)) = _))); (fail_if_success (with_reducible exact (rfl : some (AV.v (Value.bool false)) = _))); with_reducible rfl)) : x = some (.v (.bool c)) := h
theorem svg (h : x = some y := by (simp only [List.getElem?_toArray, List.getElem?_cons_zero, List.getElem?_cons_succ]; with_reducible rfl)) : x = some y := h
end
theorem svp {p : Prop} (h : p := by (simp (disch := first | omega | (refine id ?_; simp only [go_sem, List.length_cons, List.length_nil, List.length_map, List.all_cons, List.all_nil, List.drop_zero, List.drop_succ_cons, List.not_mem_nil, Bool.and_self, Bool.not_false, not_false_eq_true, implies_true, List.mem_cons, or_false, or_self, Nat.reduceAdd, Nat.reduceMul, Nat.reduceLeDiff, Nat.reduceEqDiff, Nat.reduceBEq, Bool.and_true]; done) | (refine id ?_; simp only [List.length_cons, List.length_nil, List.length_map, List.length_append, List.length_drop, List.length_take, List.length_replicate, flat2_len, flat3_len, flat4_len, flat5_len, flat6_len]; omega)) only [go_sem, Option.bind_some, Option.map_some, Option.bind_none, List.map_cons, List.map_nil, List.drop_succ_cons, List.drop_zero, List.take_succ_cons, List.take_zero, List.getElem?_cons_zero, List.getElem?_cons_succ, List.length_cons, List.length_nil, List.cons_append, List.nil_append, List.append_nil, List.set_cons_zero, List.set_cons_succ, List.any_cons, List.any_nil, List.replicate_succ, List.replicate_zero, Nat.add_zero, Nat.zero_add, Nat.sub_zero, Nat.mul_one, Nat.one_mul, Nat.zero_mul, Nat.mul_zero, Int.toNat_natCast, Int.toNat_zero, Int.toNat_one, Int.reduceToNat, Bool.or_false, Bool.false_or, Bool.and_self, Bool.and_true, Bool.true_and, Bool.false_eq_true, Nat.reduceBEq, ↓reduceIte, Nat.reduceAdd, Nat.reduceMul, Nat.reduceLeDiff, Nat.reduceEqDiff, List.not_mem_nil, List.mem_cons, or_false, false_or, or_true, true_or, eq_self, decide_true, decide_false, Int.cast_ofNat_Int, Int.reduceEq, Int.reduceLT, Int.reduceLE, Int.reduceAdd, Int.reduceSub, Int.reduceNeg, Bool.not_true, Bool.not_false, Bool.or_true, Bool.true_or, Bool.and_false, Bool.false_and, List.cons.injEq, reduceCtorEq, and_false, false_and, and_true, true_and])) : p := h
theorem svq {p : Prop} (h : p := by ((simp (disch := first | omega | (refine id ?_; simp only [go_sem, List.length_cons, List.length_nil, List.length_map, List.all_cons, List.all_nil, List.drop_zero, List.drop_succ_cons, List.not_mem_nil, Bool.and_self, Bool.not_false, not_false_eq_true, implies_true, List.mem_cons, or_false, or_self, Nat.reduceAdd, Nat.reduceMul, Nat.reduceLeDiff, Nat.reduceEqDiff, Nat.reduceBEq, Bool.and_true]; done) | (refine id ?_; simp only [List.length_cons, List.length_nil, List.length_map, List.length_append, List.length_drop, List.length_take, List.length_replicate, flat2_len, flat3_len, flat4_len, flat5_len, flat6_len]; omega)) only [go_sem, Option.bind_some, Option.map_some, Option.bind_none, List.map_cons, List.map_nil, List.drop_succ_cons, List.drop_zero, List.take_succ_cons, List.take_zero, List.getElem?_cons_zero, List.getElem?_cons_succ, List.length_cons, List.length_nil, List.cons_append, List.nil_append, List.append_nil, List.set_cons_zero, List.set_cons_succ, List.any_cons, List.any_nil, List.replicate_succ, List.replicate_zero, Nat.add_zero, Nat.zero_add, Nat.sub_zero, Nat.mul_one, Nat.one_mul, Nat.zero_mul, Nat.mul_zero, Int.toNat_natCast, Int.toNat_zero, Int.toNat_one, Int.reduceToNat, Bool.or_false, Bool.or_true, Bool.true_or, Bool.and_true, Bool.true_and, Bool.not_true, Bool.not_false, and_self, and_true, Bool.false_or, Bool.and_self, Bool.and_true, Bool.true_and, Bool.false_eq_true, Nat.reduceBEq, ↓reduceIte, Nat.reduceAdd, Nat.reduceMul, Nat.reduceLeDiff, Nat.reduceEqDiff, List.not_mem_nil, List.mem_cons, or_false, false_or, or_true, true_or, eq_self, decide_true, decide_false, Int.cast_ofNat_Int, Int.reduceEq, Int.reduceLT, Int.reduceLE, Int.reduceAdd, Int.reduceSub, Int.reduceNeg, Bool.not_true, Bool.not_false, Bool.or_true, Bool.true_or, Bool.and_false, Bool.false_and, List.cons.injEq, reduceCtorEq, and_false, false_and, and_true, true_and]) )) : p := h
theorem nd {p : Prop} (h : p := by (first | decide | (simp only []; omega) | omega)) : p := h
theorem np {Q : Exit → St → Prop} (h : NP Q := by repeat (first | (with_reducible exact NP_ret) | (with_reducible apply NP_then) | (with_reducible apply NP_blk) | (with_reducible apply NP_wk) | (with_reducible apply NP_end))) : NP Q := h
theorem sN {p : Prop} (h : p := by ((try ((simp only [LP, look_cons, look_nil, and_true, true_and, ↓reduceIte, Nat.reduceEqDiff, Option.some.injEq, AV.v.injEq, Value.int.injEq, Int.natCast_add, Int.cast_ofNat_Int]) )) <;> (try omega) <;> (try (simp; done)))) : p := h
theorem sE {p : Prop} (h : p := by ((simp only [LP, List.append_assoc, List.nil_append, List.cons_append, List.append_nil, List.contains_cons, List.contains_nil, Nat.reduceBEq, Bool.or_false, Bool.or_true, Bool.true_or, Bool.false_or, ↓reduceIte, Bool.false_eq_true]) <;> (simp only [LP, look_cons, look_nil, and_true, true_and, ↓reduceIte, Nat.reduceEqDiff, Option.some.injEq, AV.v.injEq, Value.int.injEq, Int.natCast_add, Int.cast_ofNat_Int]) <;> (try omega) <;> (try (simp; done)))) : p := h
section
variable {P : Program} {Q : Exit → St → Prop} {st st2 : St} {ops : Array Oper} {l : List Oper} {c : Code} {listed : Array Bool} {i j : Nat}
theorem awO_st (hs : some st = some st2) (h : awO P ops l st2 Q) : awO P ops l st Q := by injection hs with hs; rw [hs]; exact h
theorem aw_st (hs : some st = some st2) (h : aw P c st2 Q) : aw P c st Q := by injection hs with hs; rw [hs]; exact h
theorem sQ (h : stepB ops listed i = true := by (first | exact (show stepB _ _ 0 = true by decide +kernel) | exact (show stepB _ _ 1 = true by decide +kernel) | exact (show stepB _ _ 2 = true by decide +kernel) | exact (show stepB _ _ 3 = true by decide +kernel) | exact (show stepB _ _ 4 = true by decide +kernel) | exact (show stepB _ _ 5 = true by decide +kernel) | exact (show stepB _ _ 6 = true by decide +kernel) | exact (show stepB _ _ 7 = true by decide +kernel) | exact (show stepB _ _ 8 = true by decide +kernel) | exact (show stepB _ _ 9 = true by decide +kernel) | exact (show stepB _ _ 10 = true by decide +kernel) | exact (show stepB _ _ 11 = true by decide +kernel) | exact (show stepB _ _ 12 = true by decide +kernel) | exact (show stepB _ _ 13 = true by decide +kernel) | exact (show stepB _ _ 14 = true by decide +kernel) | exact (show stepB _ _ 15 = true by decide +kernel) | exact (show stepB _ _ 16 = true by decide +kernel) | exact (show stepB _ _ 17 = true by decide +kernel) | exact (show stepB _ _ 18 = true by decide +kernel) | exact (show stepB _ _ 19 = true by decide +kernel) | exact (show stepB _ _ 20 = true by decide +kernel) | exact (show stepB _ _ 21 = true by decide +kernel) | exact (show stepB _ _ 22 = true by decide +kernel) | exact (show stepB _ _ 23 = true by decide +kernel) | exact (show stepB _ _ 24 = true by decide +kernel) | exact (show stepB _ _ 25 = true by decide +kernel) | exact (show stepB _ _ 26 = true by decide +kernel) | exact (show stepB _ _ 27 = true by decide +kernel) | exact (show stepB _ _ 28 = true by decide +kernel) | exact (show stepB _ _ 29 = true by decide +kernel) | exact (show stepB _ _ 30 = true by decide +kernel) | exact (show stepB _ _ 31 = true by decide +kernel) | exact (show stepB _ _ 32 = true by decide +kernel) | exact (show stepB _ _ 33 = true by decide +kernel) | exact (show stepB _ _ 34 = true by decide +kernel) | exact (show stepB _ _ 35 = true by decide +kernel) | exact (show stepB _ _ 36 = true by decide +kernel) | exact (show stepB _ _ 37 = true by decide +kernel) | exact (show stepB _ _ 38 = true by decide +kernel) | exact (show stepB _ _ 39 = true by decide +kernel))) : stepB ops listed i = true := h
theorem sR (h : (Region.ready .any ops listed).contains i = true := by (first | exact (show List.contains _ 0 = true by decide +kernel) | exact (show List.contains _ 1 = true by decide +kernel) | exact (show List.contains _ 2 = true by decide +kernel) | exact (show List.contains _ 3 = true by decide +kernel) | exact (show List.contains _ 4 = true by decide +kernel) | exact (show List.contains _ 5 = true by decide +kernel) | exact (show List.contains _ 6 = true by decide +kernel) | exact (show List.contains _ 7 = true by decide +kernel) | exact (show List.contains _ 8 = true by decide +kernel) | exact (show List.contains _ 9 = true by decide +kernel) | exact (show List.contains _ 10 = true by decide +kernel) | exact (show List.contains _ 11 = true by decide +kernel) | exact (show List.contains _ 12 = true by decide +kernel) | exact (show List.contains _ 13 = true by decide +kernel) | exact (show List.contains _ 14 = true by decide +kernel) | exact (show List.contains _ 15 = true by decide +kernel) | exact (show List.contains _ 16 = true by decide +kernel) | exact (show List.contains _ 17 = true by decide +kernel) | exact (show List.contains _ 18 = true by decide +kernel) | exact (show List.contains _ 19 = true by decide +kernel) | exact (show List.contains _ 20 = true by decide +kernel) | exact (show List.contains _ 21 = true by decide +kernel) | exact (show List.contains _ 22 = true by decide +kernel) | exact (show List.contains _ 23 = true by decide +kernel) | exact (show List.contains _ 24 = true by decide +kernel) | exact (show List.contains _ 25 = true by decide +kernel) | exact (show List.contains _ 26 = true by decide +kernel) | exact (show List.contains _ 27 = true by decide +kernel) | exact (show List.contains _ 28 = true by decide +kernel) | exact (show List.contains _ 29 = true by decide +kernel) | exact (show List.contains _ 30 = true by decide +kernel) | exact (show List.contains _ 31 = true by decide +kernel) | exact (show List.contains _ 32 = true by decide +kernel) | exact (show List.contains _ 33 = true by decide +kernel) | exact (show List.contains _ 34 = true by decide +kernel) | exact (show List.contains _ 35 = true by decide +kernel) | exact (show List.contains _ 36 = true by decide +kernel) | exact (show List.contains _ 37 = true by decide +kernel) | exact (show List.contains _ 38 = true by decide +kernel) | exact (show List.contains _ 39 = true by decide +kernel))) : (Region.ready .any ops listed).contains i = true := h
theorem sH (h : (Region.ready .any ops listed)[0]? = some i := by (first | exact (show _ = some 0 by decide +kernel) | exact (show _ = some 1 by decide +kernel) | exact (show _ = some 2 by decide +kernel) | exact (show _ = some 3 by decide +kernel) | exact (show _ = some 4 by decide +kernel) | exact (show _ = some 5 by decide +kernel) | exact (show _ = some 6 by decide +kernel) | exact (show _ = some 7 by decide +kernel) | exact (show _ = some 8 by decide +kernel) | exact (show _ = some 9 by decide +kernel) | exact (show _ = some 10 by decide +kernel) | exact (show _ = some 11 by decide +kernel) | exact (show _ = some 12 by decide +kernel) | exact (show _ = some 13 by decide +kernel) | exact (show _ = some 14 by decide +kernel) | exact (show _ = some 15 by decide +kernel) | exact (show _ = some 16 by decide +kernel) | exact (show _ = some 17 by decide +kernel) | exact (show _ = some 18 by decide +kernel) | exact (show _ = some 19 by decide +kernel) | exact (show _ = some 20 by decide +kernel) | exact (show _ = some 21 by decide +kernel) | exact (show _ = some 22 by decide +kernel) | exact (show _ = some 23 by decide +kernel) | exact (show _ = some 24 by decide +kernel) | exact (show _ = some 25 by decide +kernel) | exact (show _ = some 26 by decide +kernel) | exact (show _ = some 27 by decide +kernel) | exact (show _ = some 28 by decide +kernel) | exact (show _ = some 29 by decide +kernel) | exact (show _ = some 30 by decide +kernel) | exact (show _ = some 31 by decide +kernel) | exact (show _ = some 32 by decide +kernel) | exact (show _ = some 33 by decide +kernel) | exact (show _ = some 34 by decide +kernel) | exact (show _ = some 35 by decide +kernel) | exact (show _ = some 36 by decide +kernel) | exact (show _ = some 37 by decide +kernel) | exact (show _ = some 38 by decide +kernel) | exact (show _ = some 39 by decide +kernel))) : (Region.ready .any ops listed)[0]? = some i := h
theorem sP (h : Region.ready .any ops listed = [i, j] := by (first | exact (show _ = [_, 0] by decide +kernel) | exact (show _ = [_, 1] by decide +kernel) | exact (show _ = [_, 2] by decide +kernel) | exact (show _ = [_, 3] by decide +kernel) | exact (show _ = [_, 4] by decide +kernel) | exact (show _ = [_, 5] by decide +kernel) | exact (show _ = [_, 6] by decide +kernel) | exact (show _ = [_, 7] by decide +kernel) | exact (show _ = [_, 8] by decide +kernel) | exact (show _ = [_, 9] by decide +kernel) | exact (show _ = [_, 10] by decide +kernel) | exact (show _ = [_, 11] by decide +kernel) | exact (show _ = [_, 12] by decide +kernel) | exact (show _ = [_, 13] by decide +kernel) | exact (show _ = [_, 14] by decide +kernel) | exact (show _ = [_, 15] by decide +kernel) | exact (show _ = [_, 16] by decide +kernel) | exact (show _ = [_, 17] by decide +kernel) | exact (show _ = [_, 18] by decide +kernel) | exact (show _ = [_, 19] by decide +kernel) | exact (show _ = [_, 20] by decide +kernel) | exact (show _ = [_, 21] by decide +kernel) | exact (show _ = [_, 22] by decide +kernel) | exact (show _ = [_, 23] by decide +kernel) | exact (show _ = [_, 24] by decide +kernel) | exact (show _ = [_, 25] by decide +kernel) | exact (show _ = [_, 26] by decide +kernel) | exact (show _ = [_, 27] by decide +kernel) | exact (show _ = [_, 28] by decide +kernel) | exact (show _ = [_, 29] by decide +kernel) | exact (show _ = [_, 30] by decide +kernel) | exact (show _ = [_, 31] by decide +kernel) | exact (show _ = [_, 32] by decide +kernel) | exact (show _ = [_, 33] by decide +kernel) | exact (show _ = [_, 34] by decide +kernel) | exact (show _ = [_, 35] by decide +kernel) | exact (show _ = [_, 36] by decide +kernel) | exact (show _ = [_, 37] by decide +kernel) | exact (show _ = [_, 38] by decide +kernel) | exact (show _ = [_, 39] by decide +kernel))) : Region.ready .any ops listed = [i, j] := h
end
theorem pN {p q : Prop} (h : p = q := by (try simp only [decide_eq_true_eq, decide_eq_false_iff_not, Bool.not_true, Bool.not_false, Bool.not_eq_true', Bool.not_eq_false', Bool.not_not, beq_eq_false_iff_ne, ne_eq, beq_iff_eq, decide_eq_decide]) <;> exact Eq.refl _) : p = q := h
theorem nB {b c : Bool} (h : (!b) = c := by first | exact (rfl : (!true) = false) | exact (rfl : (!false) = true)) : (!b) = c := h
theorem rI {p q : Prop} (h : p ∨ q := by first | exact .inr rfl | exact .inl rfl) : p ∨ q := h
section
variable {P : Program} {Q : Exit → St → Prop} {ops : Array Oper} {rest : List Oper} {o : Oper}
theorem awO_guardN {fr : List (Nat × AV)} {hp : Hp} {nt : Nat} {fx : List Nat} {j t : Nat} {b b' c : Bool} {p q : Prop} (hg : o.guard = some (j, b)) (hj : (ops[j]?).bind (·.dst) = some t) (hc : look fr t = some (.v (.bool c))) (hb : (!b) = b') (hp' : (c = b) = p) (hq : (c = b') = q)
    (h1 : p → awO P ops (o :: rest) ⟨(t, .v (.bool b)) :: fr, hp, nt, fx⟩ Q) (h2 : q → awO P ops (o :: rest) ⟨(t, .v (.bool b')) :: fr, hp, nt, fx⟩ Q) : awO P ops (o :: rest) ⟨fr, hp, nt, fx⟩ Q := by
  subst hb; subst hp'; subst hq; exact awO_guard hg hj hc h1 h2
theorem aw_condN {st : St} {c : Operand} {x y : Code} {t : Bool} {p q : Prop} (hc : opv st c = some (.v (.bool t))) (hp : (t = true) = p) (hq : (t = false) = q) (ht : p → aw P x st Q) (hf : q → aw P y st Q) : aw P (.cond c x y) st Q := by
  subst hp; subst hq; exact aw_cond hc ht hf
end
/-! ### Whole walks under a name: contracts by assumption, what is left by rfl -/
theorem wkA {G : Prop} (h : G := by
  repeat' (first
 | ((with_reducible apply awO_ev); (· rfl); (· exact sv))
 | ((with_reducible apply aw_seq); intro _ _)
 | (with_reducible apply aw_region)
 | (with_reducible apply aw_block)
 | ((first | (with_reducible apply awO_nil) | (with_reducible apply aw_exit) | (with_reducible apply aw_skip) | (with_reducible apply aw_ret)); (try simp only [CT, ↓reduceIte, Nat.reduceEqDiff]))
 | ((with_reducible apply awO_y); (· rfl); (· rfl); (· decide); (· exact sv); (· exact sv))
 | ((with_reducible apply awO_n); (· rfl); (· rfl); (· decide); (· exact sv); (· rfl); (· rfl); (· decide))
 | ((with_reducible apply awO_u); (· rfl); (· rfl); (· exact svr); (· rfl); (· decide))
 | ((with_reducible apply aw_cond_true); (· exact sv))
 | ((with_reducible apply aw_cond_false); (· exact sv))
 | ((with_reducible apply awO_un); (· rfl); (· decide); (· exact sv))
 | (refine Kont.go ‹Kont _ _ _ _› _ ?_)
 | ((with_reducible apply awO_c); (· rfl); (· rfl); (· exact sv); (· (first | assumption)); (· rfl); (· rfl); (· rfl); (· decide))
 | ((with_reducible apply awO_f); (· rfl); (· rfl); (· exact sv); (· exact sv); (· (first | assumption)); (· rfl); (· rfl); (· decide))
 | ((with_reducible apply awO_m); (· rfl); (· rfl); (· exact sv); (· (first | assumption)); (· exact svq); (· exact svq); (· exact svq); (· exact svq); (· rfl); (· exact nd); (with_reducible apply awO_st); (· exact svs))
 | ((with_reducible apply aw_draw); (· decide +kernel); (simp only [List.size_toArray, List.length_cons, List.length_nil, Nat.reduceAdd]))
 | ((with_reducible apply awY_done); (· decide +kernel); (try simp only [CT, ↓reduceIte, Nat.reduceEqDiff]))
 | ((with_reducible apply awY_q); (· exact sQ); (· exact np); (· exact svg); (· rfl); (· exact sv))
 | ((with_reducible apply endQ_rfl))
 | ((with_reducible apply awI_ev); (· exact svg); (· rfl); (· exact sv))
 | ((with_reducible apply awI_c); (· exact svg); (· rfl); (· rfl); (· exact sv); (· (first | assumption)); (· rfl); (· rfl); (· rfl); (· exact nd); simp only [put_some])
 | ((first | ((with_reducible apply awO_guard); (· rfl); (· rfl); (· exact sv)) | ((with_reducible apply aw_cond); (· exact sv))); all_goals (intro hg; (try simp only [Bool.not_true, Bool.not_false]); (try simp only [decide_eq_true_eq, decide_eq_false_iff_not, Bool.not_true, Bool.not_false, Bool.not_eq_true', Bool.not_eq_false', Bool.not_not, beq_eq_false_iff_ne, ne_eq, beq_iff_eq, decide_eq_decide] at hg); try (exfalso; omega)))
 | ((with_reducible apply retQ_mk); (· (first | exact .inr rfl | exact .inl rfl)); (· exact sv); (· exact sv); rotate_left; (· rfl))
 | ((try with_reducible apply wk_id); (with_reducible apply retQ_mk1); (· (first | exact .inr rfl | exact .inl rfl)); (· exact sv); (· exact sv); (· exact sv); (· exact sv); rotate_left; rotate_left; (· simp); (· rfl))
 | ((with_reducible apply awY_p); (· exact sH); (first | ((with_reducible apply awP_1); (· decide +kernel)) | ((with_reducible apply awP_2); (· exact sP)))))
  all_goals first | rfl | contradiction | (exfalso; omega)) : G := h
theorem wkB {G : Prop} (h : G := by
  repeat' (first
 | ((with_reducible apply awO_ev); (· rfl); (· exact sv))
 | ((with_reducible apply aw_seq); intro _ _)
 | (with_reducible apply aw_region)
 | (with_reducible apply aw_block)
 | ((first | (with_reducible apply awO_nil) | (with_reducible apply aw_exit) | (with_reducible apply aw_skip) | (with_reducible apply aw_ret)); (try simp only [CT, ↓reduceIte, Nat.reduceEqDiff]))
 | ((with_reducible apply awO_y); (· rfl); (· rfl); (· decide); (· exact sv); (· exact sv))
 | ((with_reducible apply awO_n); (· rfl); (· rfl); (· decide); (· exact sv); (· rfl); (· rfl); (· decide))
 | ((with_reducible apply aw_cond_true); (· exact sv))
 | ((with_reducible apply aw_cond_false); (· exact sv))
 | (refine Kont.go ‹Kont _ _ _ _› _ ?_)
 | ((with_reducible apply awO_c); (· rfl); (· rfl); (· exact sv); (· (first | assumption)); (· rfl); (· rfl); (· rfl); (· decide))
 | ((first | ((with_reducible apply awO_guard); (· rfl); (· rfl); (· exact sv)) | ((with_reducible apply aw_cond); (· exact sv))); all_goals (intro hg; (try simp only [Bool.not_true, Bool.not_false]); (try simp only [decide_eq_true_eq, decide_eq_false_iff_not, Bool.not_true, Bool.not_false, Bool.not_eq_true', Bool.not_eq_false', Bool.not_not, beq_eq_false_iff_ne, ne_eq, beq_iff_eq, decide_eq_decide] at hg); try (exfalso; omega)))
 | ((with_reducible apply retQ_mk); (· (first | exact .inr rfl | exact .inl rfl)); (· exact sv); (· exact sv); rotate_left; (· rfl)))
  all_goals first | rfl | contradiction | (exfalso; omega)) : G := h
theorem wkC {G : Prop} (h : G := by
  repeat' (first
 | ((with_reducible apply awO_pb2); (· rfl); (· exact sv); (· exact sv); (· (first | decide | omega | (simp only [flat2_len, flat3_len, flat4_len, flat5_len, flat6_len]; omega) | (simp only [elC_len, List.length_append, List.length_map, List.length_cons, List.length_nil]; omega) | (simp; done) | (simp; omega))); (· (first | rfl | exact svq)); (with_reducible apply awO_st); (· exact svs))
 | ((with_reducible apply awO_pb4); (· rfl); (· exact sv); (· exact sv); (· (first | decide | omega | (simp only [flat2_len, flat3_len, flat4_len, flat5_len, flat6_len]; omega) | (simp only [elC_len, List.length_append, List.length_map, List.length_cons, List.length_nil]; omega) | (simp; done) | (simp; omega))); (· (first | rfl | exact svq)); (with_reducible apply awO_st); (· exact svs))
 | ((with_reducible apply awO_bnz); (· rfl); (· rfl); (· rfl); (· exact sv); (with_reducible apply awO_st); (· exact svs))
 | ((with_reducible apply awO_mki); (· rfl); (· rfl); (· exact svp); (· exact sv); (· exact sv); (· rfl); (· exact nd))
 | ((with_reducible apply awO_panic); (· rfl); (· rfl); (· exact sv); (· exact ⟨_, _, rfl⟩); (try simp only [CT, CTP, ↓reduceIte, Nat.reduceEqDiff]))
 | ((with_reducible apply awO_ev); (· rfl); (· exact sv))
 | ((with_reducible apply aw_seq); intro _ _)
 | (with_reducible apply aw_region)
 | (with_reducible apply aw_block)
 | ((first | (with_reducible apply awO_nil) | (with_reducible apply aw_exit) | (with_reducible apply aw_skip) | (with_reducible apply aw_ret)); (try simp only [CT, ↓reduceIte, Nat.reduceEqDiff]))
 | ((with_reducible apply aw_cond_true); (· exact sv))
 | ((with_reducible apply aw_cond_false); (· exact sv))
 | (refine Kont.go ‹Kont _ _ _ _› _ ?_)
 | ((with_reducible apply awO_c); (· rfl); (· rfl); (· exact sv); (· (first | assumption)); (· rfl); (· rfl); (· rfl); (· decide))
 | ((with_reducible apply awO_m); (· rfl); (· rfl); (· exact sv); (· (first | assumption)); (· exact svq); (· exact svq); (· exact svq); (· exact svq); (· rfl); (· exact nd); (with_reducible apply awO_st); (· exact svs))
 | ((with_reducible apply awO_pan); (· rfl); (· rfl); (· exact sv); (· (first | assumption)); (· exact svq); (· rfl); (· exact nd); (try simp only [CT, CTP, ↓reduceIte, Nat.reduceEqDiff]))
 | ((first | ((with_reducible apply awO_guard); (· rfl); (· rfl); (· exact sv)) | ((with_reducible apply aw_cond); (· exact sv))); all_goals (intro hg; (try simp only [Bool.not_true, Bool.not_false]); (try simp only [decide_eq_true_eq, decide_eq_false_iff_not, Bool.not_true, Bool.not_false, Bool.not_eq_true', Bool.not_eq_false', Bool.not_not, beq_eq_false_iff_ne, ne_eq, beq_iff_eq, decide_eq_decide] at hg); try (exfalso; omega)))
 | ((try with_reducible apply wk_id); (with_reducible apply retQ_mk1); (· (first | exact .inr rfl | exact .inl rfl)); (· exact sv); (· exact sv); (· exact sv); (· exact sv); rotate_left; rotate_left; (· simp); (· rfl)))
  all_goals first | rfl | contradiction | (exfalso; omega)) : G := h
theorem wkD {G : Prop} (h : G := by
  repeat' (first
 | ((with_reducible apply awO_ev); (· rfl); (· exact sv))
 | ((with_reducible apply aw_seq); intro _ _)
 | (with_reducible apply aw_region)
 | (with_reducible apply aw_block)
 | ((first | (with_reducible apply awO_nil) | (with_reducible apply aw_exit) | (with_reducible apply aw_skip) | (with_reducible apply aw_ret)); (try simp only [CT, ↓reduceIte, Nat.reduceEqDiff]))
 | ((with_reducible apply aw_cond_true); (· exact sv))
 | ((with_reducible apply aw_cond_false); (· exact sv))
 | (refine Kont.go ‹Kont _ _ _ _› _ ?_)
 | ((with_reducible apply awO_m); (· rfl); (· rfl); (· exact sv); (· (first | assumption)); (· exact svq); (· exact svq); (· exact svq); (· exact svq); (· rfl); (· exact nd); (with_reducible apply awO_st); (· exact svs))
 | ((with_reducible apply awO_mkf); (· rfl); (· rfl); (· rfl); (· exact bok); (· exact sv); (· exact nd))
 | ((with_reducible apply awO_k); (· rfl); (· rfl); (· exact sv); (· first | exact bok | exact bok (by assumption)); (· exact sv); (· (first | assumption)); (· exact svq); (· exact svq); (· exact svq); (· exact svq); (· rfl); (· exact nd); (with_reducible apply awO_st); (· exact svs))
 | ((with_reducible apply awO_kb); (· rfl); (· rfl); (· exact sv); (· exact sv); (· (first | assumption)); (· exact svq); (· exact svq); (· exact svq); (· exact svq); (· rfl); (· exact nd); (with_reducible apply awO_st); (· exact svs))
 | ((first | ((with_reducible apply awO_guard); (· rfl); (· rfl); (· exact sv)) | ((with_reducible apply aw_cond); (· exact sv))); all_goals (intro hg; (try simp only [Bool.not_true, Bool.not_false]); (try simp only [decide_eq_true_eq, decide_eq_false_iff_not, Bool.not_true, Bool.not_false, Bool.not_eq_true', Bool.not_eq_false', Bool.not_not, beq_eq_false_iff_ne, ne_eq, beq_iff_eq, decide_eq_decide] at hg); try (exfalso; omega)))
 | ((with_reducible apply retQ_mk); (· (first | exact .inr rfl | exact .inl rfl)); (· exact sv); (· exact sv); rotate_left; (· rfl))
 | ((try with_reducible apply wk_id); (with_reducible apply retQ_mk1); (· (first | exact .inr rfl | exact .inl rfl)); (· exact sv); (· exact sv); (· exact sv); (· exact sv); rotate_left; rotate_left; (· simp); (· rfl)))
  all_goals first | rfl | contradiction | (exfalso; omega)) : G := h
theorem wkE {G : Prop} (h : G := by
  repeat' (first
 | ((with_reducible apply (awMO_look mtok)); (· rfl); (· rfl); (· rfl); (· exact sv); (· exact sv); (· omega); (· rfl); (· exact nd))
 | ((with_reducible apply awMO_mkf); (· rfl); (· rfl); (· rfl); (· exact bok); (· exact sv); (· exact nd))
 | ((with_reducible apply awMO_ev); (· rfl); (· exact sv))
 | ((with_reducible apply awM_seq); intro _ _)
 | ((with_reducible apply awM_region))
 | ((with_reducible apply awM_block))
 | ((with_reducible apply awMO_nil); (try simp only [CTM, ↓reduceIte, Nat.reduceEqDiff]))
 | ((with_reducible apply awM_exit); (try simp only [CTM, ↓reduceIte, Nat.reduceEqDiff]))
 | ((with_reducible apply awM_skip); (try simp only [CTM, ↓reduceIte, Nat.reduceEqDiff]))
 | ((with_reducible apply awM_ret); (try simp only [CTM, ↓reduceIte, Nat.reduceEqDiff]))
 | ((with_reducible apply awM_cond_true); (· exact sv))
 | ((with_reducible apply awM_cond_false); (· exact sv))
 | (refine KontM.go ‹KontM _ _ _ _ _› _ _ ?_)
 | ((with_reducible apply awMO_c); (· rfl); (· rfl); (· exact sv); (· (first | assumption)); (· rfl); (· rfl); (· rfl); (· decide))
 | ((with_reducible apply awMO_cM); (· rfl); (· rfl); (· exact sv); (· (first | assumption)); (· exact svq); (· exact svq); (· exact svq); (· exact svq); (· rfl); (· exact nd); (with_reducible apply awMO_st); (· exact svs))
 | ((with_reducible apply awMO_kM); (· rfl); (· rfl); (· exact sv); (· first | exact bok | exact bok (by assumption)); (· exact sv); (· (first | assumption)); (· exact svq); (· exact svq); (· exact svq); (· exact svq); (· rfl); (· exact nd); (with_reducible apply awMO_st); (· exact svs))
 | ((with_reducible apply awM_draw); (· decide +kernel); (simp only [List.size_toArray, List.length_cons, List.length_nil, Nat.reduceAdd]))
 | ((with_reducible apply awMY_done); (· decide +kernel); (try simp only [CTM, ↓reduceIte, Nat.reduceEqDiff]))
 | ((with_reducible apply awMY_q); (· exact sQ); (· exact npm); (· exact svg); (· rfl); (· exact sv))
 | ((with_reducible apply awMY_p); (· exact sH); (· decide +kernel))
 | ((with_reducible apply awMI_c); (· exact svg); (· rfl); (· rfl); (· exact sv); (· (first | assumption)); (· rfl); (· rfl); (· rfl); (· exact nd))
 | ((with_reducible apply awMI_cM); (· exact svg); (· decide +kernel); (· rfl); (· rfl); (· exact sv); (· (first | assumption)); (· exact svq); (· exact svq); (· exact svq); (· exact svq); (· rfl); (· exact nd); (with_reducible apply awMY_st); (· exact svs))
 | ((with_reducible apply awMI_kM); (· exact svg); (· decide +kernel); (· rfl); (· rfl); (· exact sv); (· first | exact bok | exact bok (by assumption)); (· exact sv); (· (first | assumption)); (· exact svq); (· exact svq); (· exact svq); (· exact svq); (· rfl); (· exact nd); (with_reducible apply awMY_st); (· exact svs))
 | ((with_reducible apply awM_cond); (· exact sv); all_goals (intro hg; (try simp only [decide_eq_true_eq, decide_eq_false_iff_not, Bool.not_true, Bool.not_false, Bool.not_eq_true', Bool.not_eq_false', Bool.not_not, beq_eq_false_iff_ne, ne_eq, beq_iff_eq, decide_eq_decide] at hg); try (exfalso; omega)))
 | (with_reducible apply retM_mk)
 | ((with_reducible apply retQ_mk); (· (first | exact .inr rfl | exact .inl rfl)); (· exact sv); (· exact sv); rotate_left; (· rfl))
 | ((try with_reducible apply wk_id); (with_reducible apply retQ_mk1); (· (first | exact .inr rfl | exact .inl rfl)); (· exact sv); (· exact sv); (· exact sv); (· exact sv); rotate_left; rotate_left; (· simp); (· rfl)))
  all_goals first | rfl | contradiction | (exfalso; omega)) : G := h
theorem wq14 {G : Prop} (h : G := by
  repeat' (first
 | ((with_reducible apply awO_ev); (· rfl); (· exact sv))
 | ((with_reducible apply aw_seq); intro _ _)
 | (with_reducible apply aw_region)
 | (with_reducible apply aw_block)
 | ((first | (with_reducible apply awO_nil) | (with_reducible apply aw_exit) | (with_reducible apply aw_skip) | (with_reducible apply aw_ret)); (try simp only [CT, ↓reduceIte, Nat.reduceEqDiff]))
 | ((with_reducible apply awO_y); (· rfl); (· rfl); (· decide); (· exact sv); (· exact sv))
 | ((with_reducible apply awO_n); (· rfl); (· rfl); (· decide); (· exact sv); (· rfl); (· rfl); (· decide))
 | ((with_reducible apply aw_cond_true); (· exact sv))
 | ((with_reducible apply aw_cond_false); (· exact sv))
 | (refine Kont.go ‹Kont _ _ _ _› _ ?_)
 | ((with_reducible apply awO_c); (· rfl); (· rfl); (· exact sv); (· (first | exact c1 _)); (· rfl); (· rfl); (· rfl); (· decide))
 | ((with_reducible apply retQ_mk); (· (first | exact .inr rfl | exact .inl rfl)); (· exact sv); (· exact sv); rotate_left; (· rfl)))
  all_goals rfl) : G := h
theorem wq2 {G : Prop} (h : G := by
  repeat' (first
 | ((with_reducible apply awSO_next); (· rfl); (· rfl); (· exact sv); (· rfl); (· exact nd); all_goals (intro hg; try (exfalso; omega)))
 | ((with_reducible apply awSO_ev); (· rfl); (· exact sv))
 | ((with_reducible apply awS_seq); intro _ _)
 | ((with_reducible apply awS_region))
 | ((with_reducible apply awS_block))
 | ((with_reducible apply awSO_nil); (try simp only [CTS, ↓reduceIte, Nat.reduceEqDiff]))
 | ((with_reducible apply awS_skip); (try simp only [CTS, ↓reduceIte, Nat.reduceEqDiff]))
 | ((with_reducible apply awS_ret); (try simp only [CTS, ↓reduceIte, Nat.reduceEqDiff]))
 | ((with_reducible apply awSO_y); (· rfl); (· rfl); (· decide); (· exact sv); (· exact sv))
 | ((with_reducible apply awSO_n); (· rfl); (· rfl); (· decide); (· exact sv); (· rfl); (· rfl); (· decide))
 | ((with_reducible apply awSO_un); (· rfl); (· decide); (· exact sv))
 | ((with_reducible apply awS_cond_true); (· exact sv))
 | ((with_reducible apply awS_cond_false); (· exact sv))
 | (refine KontS.go ‹KontS _ _ _ _ _ _› _ _ ?_)
 | ((with_reducible apply awSO_c); (· rfl); (· rfl); (· exact sv); (· (first | exact c1 | exact c2)); (· rfl); (· rfl); (· rfl); (· decide))
 | ((with_reducible apply awSO_guard); (· rfl); (· rfl); (· exact sv); all_goals (intro hg; (try simp only [Bool.not_true, Bool.not_false]); (try simp only [decide_eq_true_eq, decide_eq_false_iff_not, Bool.not_true, Bool.not_false, Bool.not_eq_true', Bool.not_eq_false', Bool.not_not, beq_eq_false_iff_ne, ne_eq, beq_iff_eq, decide_eq_decide] at hg); try (exfalso; omega)))
 | ((with_reducible apply awS_cond); (· exact sv); all_goals (intro hg; (try simp only [decide_eq_true_eq, decide_eq_false_iff_not, Bool.not_true, Bool.not_false, Bool.not_eq_true', Bool.not_eq_false', Bool.not_not, beq_eq_false_iff_ne, ne_eq, beq_iff_eq, decide_eq_decide] at hg); try (exfalso; omega)))
 | ((with_reducible apply retQ_mk); (· (first | exact .inr rfl | exact .inl rfl)); (· exact sv); (· exact sv); rotate_left; (· rfl)))
  all_goals rfl) : G := h
theorem wq17 {G : Prop} (h : G := by
  repeat' (first
 | ((with_reducible apply awO_ev); (· rfl); (· exact sv))
 | ((with_reducible apply aw_seq); intro _ _)
 | (with_reducible apply aw_region)
 | ((first | (with_reducible apply awO_nil) | (with_reducible apply aw_exit) | (with_reducible apply aw_skip) | (with_reducible apply aw_ret)); (try simp only [CT, ↓reduceIte, Nat.reduceEqDiff]))
 | ((with_reducible apply awO_y); (· rfl); (· rfl); (· decide); (· exact sv); (· exact sv))
 | ((with_reducible apply awO_n); (· rfl); (· rfl); (· decide); (· exact sv); (· rfl); (· rfl); (· decide))
 | ((with_reducible apply awO_un); (· rfl); (· decide); (· exact sv))
 | (refine Kont.go ‹Kont _ _ _ _› _ ?_)
 | ((with_reducible apply awO_c); (· rfl); (· rfl); (· exact sv); (· (first | exact c1 | exact c2)); (· rfl); (· rfl); (· rfl); (· decide))
 | ((first | ((with_reducible apply awO_guard); (· rfl); (· rfl); (· exact sv)) | ((with_reducible apply aw_cond); (· exact sv))); all_goals (intro hg; (try simp only [Bool.not_true, Bool.not_false]); (try simp only [decide_eq_true_eq, decide_eq_false_iff_not, Bool.not_true, Bool.not_false, Bool.not_eq_true', Bool.not_eq_false', Bool.not_not, beq_eq_false_iff_ne, ne_eq, beq_iff_eq, decide_eq_decide] at hg); try (exfalso; omega)))
 | ((with_reducible apply retQ_mk); (· (first | exact .inr rfl | exact .inl rfl)); (· exact sv); (· exact sv); rotate_left; (· rfl)))
  all_goals simp [delB, hs]) : G := h
theorem wq25 {G : Prop} (h : G := by
  repeat' (first
 | ((with_reducible apply awO_ev); (· rfl); (· exact sv))
 | ((with_reducible apply aw_seq); intro _ _)
 | (with_reducible apply aw_region)
 | ((first | (with_reducible apply awO_nil) | (with_reducible apply aw_exit) | (with_reducible apply aw_skip) | (with_reducible apply aw_ret)); (try simp only [CT, ↓reduceIte, Nat.reduceEqDiff]))
 | ((with_reducible apply awO_y); (· rfl); (· rfl); (· decide); (· exact sv); (· exact sv))
 | ((with_reducible apply awO_n); (· rfl); (· rfl); (· decide); (· exact sv); (· rfl); (· rfl); (· decide))
 | ((with_reducible apply aw_cond_true); (· exact sv))
 | (refine Kont.go ‹Kont _ _ _ _› _ ?_)
 | ((first | ((with_reducible apply awO_guard); (· rfl); (· rfl); (· exact sv)) | ((with_reducible apply aw_cond); (· exact sv))); all_goals (intro hg; (try simp only [Bool.not_true, Bool.not_false]); (try simp only [decide_eq_true_eq, decide_eq_false_iff_not, Bool.not_true, Bool.not_false, Bool.not_eq_true', Bool.not_eq_false', Bool.not_not, beq_eq_false_iff_ne, ne_eq, beq_iff_eq, decide_eq_decide] at hg); try (exfalso; omega)))
 | ((with_reducible apply retQ_mk); (· (first | exact .inr rfl | exact .inl rfl)); (· exact sv); (· exact sv); rotate_left; (· rfl)))
  all_goals first | rfl | (exfalso; revert hg; decide)) : G := h
theorem wq9 {G : Prop} (h : G := by
  repeat' (first
 | ((with_reducible apply awO_ev); (· rfl); (· exact sv))
 | ((with_reducible apply aw_seq); intro _ _)
 | (with_reducible apply aw_region)
 | (with_reducible apply aw_block)
 | ((first | (with_reducible apply awO_nil) | (with_reducible apply aw_exit) | (with_reducible apply aw_skip) | (with_reducible apply aw_ret)); (try simp only [CT, ↓reduceIte, Nat.reduceEqDiff]))
 | ((with_reducible apply aw_cond_false); (· exact sv))
 | (refine Kont.go ‹Kont _ _ _ _› _ ?_)
 | ((with_reducible apply awO_c); (· rfl); (· rfl); (· exact sv); (· (first | exact c9)); (· rfl); (· rfl); (· rfl); (· decide))
 | ((first | ((with_reducible apply awO_guard); (· rfl); (· rfl); (· exact sv)) | ((with_reducible apply aw_cond); (· exact sv))); all_goals (intro hg; (try simp only [Bool.not_true, Bool.not_false]); (try simp only [decide_eq_true_eq, decide_eq_false_iff_not, Bool.not_true, Bool.not_false, Bool.not_eq_true', Bool.not_eq_false', Bool.not_not, beq_eq_false_iff_ne, ne_eq, beq_iff_eq, decide_eq_decide] at hg); try (exfalso; omega))))
  all_goals
    refine LE_mk (i + 1) ?_ ?_ sN sN sN
    · exact hil
    · omega) : G := h
theorem wq15 {G : Prop} (h : G := by
  repeat' (first
 | ((with_reducible apply awMO_ev); (· rfl); (· exact sv))
 | ((with_reducible apply awM_seq); intro _ _)
 | ((with_reducible apply awM_region))
 | ((with_reducible apply awM_block))
 | ((with_reducible apply awMO_nil); (try simp only [CTM, ↓reduceIte, Nat.reduceEqDiff]))
 | ((with_reducible apply awM_skip); (try simp only [CTM, ↓reduceIte, Nat.reduceEqDiff]))
 | (refine KontM.go ‹KontM _ _ _ _ _› _ _ ?_)
 | ((with_reducible apply awMO_kM); (· rfl); (· rfl); (· exact sv); (· first | exact bok | exact bok (by assumption)); (· exact sv); (· (first | exact c2)); (· exact svq); (· exact svq); (· exact svq); (· exact svq); (· rfl); (· exact nd); (with_reducible apply awMO_st); (· exact svs))
 | ((with_reducible apply awM_cond); (· exact sv); all_goals (intro hg; (try simp only [decide_eq_true_eq, decide_eq_false_iff_not, Bool.not_true, Bool.not_false, Bool.not_eq_true', Bool.not_eq_false', Bool.not_not, beq_eq_false_iff_ne, ne_eq, beq_iff_eq, decide_eq_decide] at hg); try (exfalso; omega))))
  all_goals
    refine LEM_mk (j + 1) ?_ ?_ ?_ sN sN sN
    · exact hjl
    · omega
    · rfl) : G := h
theorem wq27 {G : Prop} (h : G := by
  repeat' (first
 | ((with_reducible apply awO_ev); (· rfl); (· exact sv))
 | (with_reducible apply aw_region)
 | ((first | (with_reducible apply awO_nil) | (with_reducible apply aw_exit) | (with_reducible apply aw_skip) | (with_reducible apply aw_ret)); (try simp only [CT, ↓reduceIte, Nat.reduceEqDiff]))
 | ((with_reducible apply endQ_sub); (· exact sE); (· exact sN)))
  all_goals exact endQ_mk ⟨rfl, rfl, rfl, trivial⟩ ⟨rfl, rfl, trivial⟩) : G := h
theorem wq28 {G : Prop} (h : G := by
  repeat' (first
 | ((with_reducible apply awO_ev); (· rfl); (· exact sv))
 | ((first | (with_reducible apply awO_nil) | (with_reducible apply aw_exit) | (with_reducible apply aw_skip) | (with_reducible apply aw_ret)); (try simp only [CT, ↓reduceIte, Nat.reduceEqDiff]))
 | ((with_reducible apply awO_y); (· rfl); (· rfl); (· decide); (· exact sv); (· exact sv))
 | ((with_reducible apply endQ_sub); (· exact sE); (· exact sN)))
  all_goals exact endQ_mk ⟨rfl, rfl, rfl, trivial⟩ ⟨rfl, rfl, rfl, trivial⟩) : G := h
theorem wq3 {G : Prop} (h : G := by
  repeat' (first
 | ((with_reducible apply awO_ev); (· rfl); (· exact sv))
 | ((with_reducible apply aw_seq); intro _ _)
 | (with_reducible apply aw_region)
 | (with_reducible apply aw_block)
 | ((first | (with_reducible apply awO_nil) | (with_reducible apply aw_exit) | (with_reducible apply aw_skip) | (with_reducible apply aw_ret)); (try simp only [CT, ↓reduceIte, Nat.reduceEqDiff]))
 | ((with_reducible apply awO_y); (· rfl); (· rfl); (· decide); (· exact sv); (· exact sv))
 | ((with_reducible apply awO_n); (· rfl); (· rfl); (· decide); (· exact sv); (· rfl); (· rfl); (· decide))
 | ((with_reducible apply aw_cond_false); (· exact sv))
 | ((with_reducible apply awO_un); (· rfl); (· decide); (· exact sv))
 | (refine Kont.go ‹Kont _ _ _ _› _ ?_)
 | ((first | ((with_reducible apply awO_guard); (· rfl); (· rfl); (· exact sv)) | ((with_reducible apply aw_cond); (· exact sv))); all_goals (intro hg; (try simp only [Bool.not_true, Bool.not_false]); (try simp only [decide_eq_true_eq, decide_eq_false_iff_not, Bool.not_true, Bool.not_false, Bool.not_eq_true', Bool.not_eq_false', Bool.not_not, beq_eq_false_iff_ne, ne_eq, beq_iff_eq, decide_eq_decide] at hg); try (exfalso; omega))))
  all_goals first
    | contradiction
    | (refine LE_mk (j + 1) ?_ ?_ sN sN sN
       · exact ⟨hj18, hJ⟩
       · omega)) : G := h
theorem wq10 {G : Prop} (h : G := by
  repeat' (first
 | ((with_reducible apply awO_ev); (· rfl); (· exact sv))
 | ((with_reducible apply aw_seq); intro _ _)
 | (with_reducible apply aw_region)
 | ((first | (with_reducible apply awO_nil) | (with_reducible apply aw_exit) | (with_reducible apply aw_skip) | (with_reducible apply aw_ret)); (try simp only [CT, ↓reduceIte, Nat.reduceEqDiff]))
 | ((with_reducible apply aw_cond_false); (· exact sv))
 | (refine Kont.go ‹Kont _ _ _ _› _ ?_))
  all_goals first | exact ⟨.inl rfl, rfl, trivial⟩ | exact ⟨.inl trivial, trivial, trivial⟩) : G := h
theorem wq29 {G : Prop} (h : G := by
  repeat' (first
 | ((with_reducible apply awO_ev); (· rfl); (· exact sv))
 | ((with_reducible apply aw_seq); intro _ _)
 | (with_reducible apply aw_region)
 | (with_reducible apply aw_block)
 | ((first | (with_reducible apply awO_nil) | (with_reducible apply aw_exit) | (with_reducible apply aw_skip) | (with_reducible apply aw_ret)); (try simp only [CT, ↓reduceIte, Nat.reduceEqDiff]))
 | ((with_reducible apply aw_cond_true); (· exact sv))
 | (refine Kont.go ‹Kont _ _ _ _› _ ?_)
      | fail)
  refine LE_mk 1 ?_ ?_ ?_ sN ?_
  · omega
  · omega
  · exact ⟨rfl, rfl, trivial⟩
  · exact ⟨rfl, rfl, trivial⟩) : G := h
theorem wq30 {G : Prop} (h : G := by
  repeat' (first
 | ((with_reducible apply awO_ev); (· rfl); (· exact sv))
 | ((with_reducible apply aw_seq); intro _ _)
 | (with_reducible apply aw_region)
 | (with_reducible apply aw_block)
 | ((first | (with_reducible apply awO_nil) | (with_reducible apply aw_exit) | (with_reducible apply aw_skip) | (with_reducible apply aw_ret)); (try simp only [CT, ↓reduceIte, Nat.reduceEqDiff]))
 | ((with_reducible apply aw_cond_true); (· exact sv))
 | (refine Kont.go ‹Kont _ _ _ _› _ ?_)
      | fail)
  refine LE_mk 2 ?_ ?_ ?_ sN ?_
  · omega
  · omega
  · exact ⟨rfl, rfl, trivial⟩
  · exact ⟨rfl, rfl, trivial⟩) : G := h
theorem wq1 {G : Prop} (h : G := by
  repeat' (first
 | ((with_reducible apply awSO_next); (· rfl); (· rfl); (· exact sv); (· rfl); (· exact nd); all_goals (intro hg; try (exfalso; omega)))
 | ((with_reducible apply awSO_ev); (· rfl); (· exact sv))
 | ((with_reducible apply awS_seq); intro _ _)
 | ((with_reducible apply awS_region))
 | ((with_reducible apply awS_block))
 | ((with_reducible apply awSO_nil); (try simp only [CTS, ↓reduceIte, Nat.reduceEqDiff]))
 | ((with_reducible apply awS_exit); (try simp only [CTS, ↓reduceIte, Nat.reduceEqDiff]))
 | ((with_reducible apply awS_skip); (try simp only [CTS, ↓reduceIte, Nat.reduceEqDiff]))
 | ((with_reducible apply awSO_y); (· rfl); (· rfl); (· decide); (· exact sv); (· exact sv))
 | ((with_reducible apply awSO_n); (· rfl); (· rfl); (· decide); (· exact sv); (· rfl); (· rfl); (· decide))
 | ((with_reducible apply awSO_u); (· rfl); (· rfl); (· exact svr); (· rfl); (· decide))
 | ((with_reducible apply awSO_un); (· rfl); (· decide); (· exact sv))
 | ((with_reducible apply awS_cond_true); (· exact sv))
 | (refine KontS.go ‹KontS _ _ _ _ _ _› _ _ ?_)
 | ((with_reducible apply awSO_c); (· rfl); (· rfl); (· exact sv); (· (first | exact c1 | exact c2)); (· rfl); (· rfl); (· rfl); (· decide))
 | ((with_reducible apply awSO_guard); (· rfl); (· rfl); (· exact sv); all_goals (intro hg; (try simp only [Bool.not_true, Bool.not_false]); (try simp only [decide_eq_true_eq, decide_eq_false_iff_not, Bool.not_true, Bool.not_false, Bool.not_eq_true', Bool.not_eq_false', Bool.not_not, beq_eq_false_iff_ne, ne_eq, beq_iff_eq, decide_eq_decide] at hg); try (exfalso; omega)))
 | ((with_reducible apply awS_cond); (· exact sv); all_goals (intro hg; (try simp only [decide_eq_true_eq, decide_eq_false_iff_not, Bool.not_true, Bool.not_false, Bool.not_eq_true', Bool.not_eq_false', Bool.not_not, beq_eq_false_iff_ne, ne_eq, beq_iff_eq, decide_eq_decide] at hg); try (exfalso; omega))))
  all_goals
    refine LES_mk (p + 1) ⟨hpl, h1⟩ (by omega) ?_ sN sN trivial
    simp only [e2]) : G := h
theorem wq13 {G : Prop} (h : G := by
  repeat' (first
 | ((with_reducible apply awO_ev); (· rfl); (· exact sv))
 | ((with_reducible apply aw_seq); intro _ _)
 | (with_reducible apply aw_region)
 | (with_reducible apply aw_block)
 | ((first | (with_reducible apply awO_nil) | (with_reducible apply aw_exit) | (with_reducible apply aw_skip) | (with_reducible apply aw_ret)); (try simp only [CT, ↓reduceIte, Nat.reduceEqDiff]))
 | ((with_reducible apply awO_y); (· rfl); (· rfl); (· decide); (· exact sv); (· exact sv))
 | ((with_reducible apply awO_n); (· rfl); (· rfl); (· decide); (· exact sv); (· rfl); (· rfl); (· decide))
 | ((with_reducible apply aw_cond_true); (· exact sv))
 | (refine Kont.go ‹Kont _ _ _ _› _ ?_)
 | ((with_reducible apply awO_c); (· rfl); (· rfl); (· exact sv); (· (first | exact c4)); (· rfl); (· rfl); (· rfl); (· decide))
 | ((first | ((with_reducible apply awO_guard); (· rfl); (· rfl); (· exact sv)) | ((with_reducible apply aw_cond); (· exact sv))); all_goals (intro hg; (try simp only [Bool.not_true, Bool.not_false]); (try simp only [decide_eq_true_eq, decide_eq_false_iff_not, Bool.not_true, Bool.not_false, Bool.not_eq_true', Bool.not_eq_false', Bool.not_not, beq_eq_false_iff_ne, ne_eq, beq_iff_eq, decide_eq_decide] at hg); try (exfalso; omega))))
  all_goals
    refine LE_mk ((i + 1, n, true)) ?_ ?_ sN sN sN
    · exact ⟨hlt, hn0, hn1, hI⟩
    · show _ - (i + 1) < _ - i
      omega) : G := h
theorem wq23 {G : Prop} (h : G := by
  repeat' (first
 | ((with_reducible apply awO_ev); (· rfl); (· exact sv))
 | ((with_reducible apply aw_seq); intro _ _)
 | (with_reducible apply aw_region)
 | ((first | (with_reducible apply awO_nil) | (with_reducible apply aw_exit) | (with_reducible apply aw_skip) | (with_reducible apply aw_ret)); (try simp only [CT, ↓reduceIte, Nat.reduceEqDiff]))
 | ((with_reducible apply awO_y); (· rfl); (· rfl); (· decide); (· exact sv); (· exact sv))
 | ((with_reducible apply awO_n); (· rfl); (· rfl); (· decide); (· exact sv); (· rfl); (· rfl); (· decide))
 | (refine Kont.go ‹Kont _ _ _ _› _ ?_)
 | ((first | ((with_reducible apply awO_guard); (· rfl); (· rfl); (· exact sv)) | ((with_reducible apply aw_cond); (· exact sv))); all_goals (intro hg; (try simp only [Bool.not_true, Bool.not_false]); (try simp only [decide_eq_true_eq, decide_eq_false_iff_not, Bool.not_true, Bool.not_false, Bool.not_eq_true', Bool.not_eq_false', Bool.not_not, beq_eq_false_iff_ne, ne_eq, beq_iff_eq, decide_eq_decide] at hg); try (exfalso; omega)))
 | ((with_reducible apply retQ_mk); (· (first | exact .inr rfl | exact .inl rfl)); (· exact sv); (· exact sv); rotate_left; (· rfl)))
  all_goals first | rfl | (exfalso; omega) | (congr 2; simp only [decide_eq_true_eq, decide_eq_false_iff_not]; omega)) : G := h
theorem wq5 {G : Prop} (h : G := by
  repeat' (first
 | ((with_reducible apply awO_ev); (· rfl); (· exact sv))
 | ((with_reducible apply aw_seq); intro _ _)
 | (with_reducible apply aw_region)
 | (with_reducible apply aw_block)
 | ((first | (with_reducible apply awO_nil) | (with_reducible apply aw_exit) | (with_reducible apply aw_skip) | (with_reducible apply aw_ret)); (try simp only [CT, ↓reduceIte, Nat.reduceEqDiff]))
 | ((with_reducible apply awO_y); (· rfl); (· rfl); (· decide); (· exact sv); (· exact sv))
 | ((with_reducible apply awO_n); (· rfl); (· rfl); (· decide); (· exact sv); (· rfl); (· rfl); (· decide))
 | ((with_reducible apply aw_cond_true); (· exact sv))
 | (refine Kont.go ‹Kont _ _ _ _› _ ?_)
 | ((with_reducible apply aw_draw); (· decide +kernel); (simp only [List.size_toArray, List.length_cons, List.length_nil, Nat.reduceAdd]))
 | ((with_reducible apply awY_done); (· decide +kernel); (try simp only [CT, ↓reduceIte, Nat.reduceEqDiff]))
 | ((with_reducible apply awY_q); (· exact sQ); (· exact np); (· exact svg); (· rfl); (· exact sv))
 | ((with_reducible apply awI_c); (· exact svg); (· rfl); (· rfl); (· exact sv); (· (first | exact c4 | exact c5)); (· rfl); (· rfl); (· rfl); (· exact nd); simp only [put_some])
 | ((first | ((with_reducible apply awO_guard); (· rfl); (· rfl); (· exact sv)) | ((with_reducible apply aw_cond); (· exact sv))); all_goals (intro hg; (try simp only [Bool.not_true, Bool.not_false]); (try simp only [decide_eq_true_eq, decide_eq_false_iff_not, Bool.not_true, Bool.not_false, Bool.not_eq_true', Bool.not_eq_false', Bool.not_not, beq_eq_false_iff_ne, ne_eq, beq_iff_eq, decide_eq_decide] at hg); try (exfalso; omega)))
 | ((with_reducible apply awY_p); (· exact sH); (first | ((with_reducible apply awP_1); (· decide +kernel)) | ((with_reducible apply awP_2); (· exact sP)))))
  all_goals
    refine LE_mk ((i + 1, n, true)) ?_ ?_ sN sN sN
    · exact ⟨hlt, hn0, hn1, hI⟩
    · show _ - (i + 1) < _ - i
      omega) : G := h
theorem wq20 {G : Prop} (h : G := by
  repeat' (first
 | ((with_reducible apply awO_ev); (· rfl); (· exact sv))
 | ((with_reducible apply aw_seq); intro _ _)
 | (with_reducible apply aw_region)
 | (with_reducible apply aw_block)
 | ((first | (with_reducible apply awO_nil) | (with_reducible apply aw_exit) | (with_reducible apply aw_skip) | (with_reducible apply aw_ret)); (try simp only [CT, ↓reduceIte, Nat.reduceEqDiff]))
 | ((with_reducible apply awO_y); (· rfl); (· rfl); (· decide); (· exact sv); (· exact sv))
 | (refine Kont.go ‹Kont _ _ _ _› _ ?_)
 | ((first | ((with_reducible apply awO_guard); (· rfl); (· rfl); (· exact sv)) | ((with_reducible apply aw_cond); (· exact sv))); all_goals (intro hg; (try simp only [Bool.not_true, Bool.not_false]); (try simp only [decide_eq_true_eq, decide_eq_false_iff_not, Bool.not_true, Bool.not_false, Bool.not_eq_true', Bool.not_eq_false', Bool.not_not, beq_eq_false_iff_ne, ne_eq, beq_iff_eq, decide_eq_decide] at hg); try (exfalso; omega))))
  refine LE_mk (i + 1) ?_ ?_ ?_ sN ?_
  · omega
  · omega
  · refine ⟨rfl, ?_, trivial⟩
    show some _ = some _
    rw [e1]
  · refine ⟨?_, trivial⟩
    show some _ = some _
    rw [e1]) : G := h
theorem wq21 {G : Prop} (h : G := by
  repeat' (first
 | ((with_reducible apply awO_ev); (· rfl); (· exact sv))
 | ((with_reducible apply aw_seq); intro _ _)
 | (with_reducible apply aw_region)
 | (with_reducible apply aw_block)
 | ((first | (with_reducible apply awO_nil) | (with_reducible apply aw_exit) | (with_reducible apply aw_skip) | (with_reducible apply aw_ret)); (try simp only [CT, ↓reduceIte, Nat.reduceEqDiff]))
 | ((with_reducible apply awO_n); (· rfl); (· rfl); (· decide); (· exact sv); (· rfl); (· rfl); (· decide))
 | ((with_reducible apply aw_cond_true); (· exact sv))
 | ((with_reducible apply aw_cond_false); (· exact sv))
 | (refine Kont.go ‹Kont _ _ _ _› _ ?_)
 | ((with_reducible apply aw_draw); (· decide +kernel); (simp only [List.size_toArray, List.length_cons, List.length_nil, Nat.reduceAdd]))
 | ((with_reducible apply awY_done); (· decide +kernel); (try simp only [CT, ↓reduceIte, Nat.reduceEqDiff]))
 | ((with_reducible apply awY_q); (· exact sQ); (· exact np); (· exact svg); (· rfl); (· exact sv))
 | ((first | ((with_reducible apply awO_guard); (· rfl); (· rfl); (· exact sv)) | ((with_reducible apply aw_cond); (· exact sv))); all_goals (intro hg; (try simp only [Bool.not_true, Bool.not_false]); (try simp only [decide_eq_true_eq, decide_eq_false_iff_not, Bool.not_true, Bool.not_false, Bool.not_eq_true', Bool.not_eq_false', Bool.not_not, beq_eq_false_iff_ne, ne_eq, beq_iff_eq, decide_eq_decide] at hg); try (exfalso; omega))))
  all_goals (refine wk_id ?_; refine retQ_mkL (by first | exact .inr rfl | exact .inl rfl) rfl rfl rfl ?_ rfl)
  all_goals exact ⟨⟨by simp, rfl⟩, ⟨by simp, ro_by _ _ _⟩, ⟨by simp, ro_pt _ _ _⟩, trivial⟩) : G := h
theorem wq22 {G : Prop} (h : G := by
  repeat' (first
 | ((with_reducible apply awO_ev); (· rfl); (· exact sv))
 | ((with_reducible apply aw_seq); intro _ _)
 | (with_reducible apply aw_region)
 | (with_reducible apply aw_block)
 | ((first | (with_reducible apply awO_nil) | (with_reducible apply aw_exit) | (with_reducible apply aw_skip) | (with_reducible apply aw_ret)); (try simp only [CT, ↓reduceIte, Nat.reduceEqDiff]))
 | (refine Kont.go ‹Kont _ _ _ _› _ ?_)
 | ((with_reducible apply awO_m); (· rfl); (· rfl); (· exact sv); (· (first | exact c1)); (· exact svq); (· exact svq); (· exact svq); (· exact svq); (· rfl); (· exact nd); (with_reducible apply awO_st); (· exact svs))
 | ((with_reducible apply aw_draw); (· decide +kernel); (simp only [List.size_toArray, List.length_cons, List.length_nil, Nat.reduceAdd]))
 | ((with_reducible apply awY_done); (· decide +kernel); (try simp only [CT, ↓reduceIte, Nat.reduceEqDiff]))
 | ((with_reducible apply awY_q); (· exact sQ); (· exact np); (· exact svg); (· rfl); (· exact sv))
 | ((first | ((with_reducible apply awO_guard); (· rfl); (· rfl); (· exact sv)) | ((with_reducible apply aw_cond); (· exact sv))); all_goals (intro hg; (try simp only [Bool.not_true, Bool.not_false]); (try simp only [decide_eq_true_eq, decide_eq_false_iff_not, Bool.not_true, Bool.not_false, Bool.not_eq_true', Bool.not_eq_false', Bool.not_not, beq_eq_false_iff_ne, ne_eq, beq_iff_eq, decide_eq_decide] at hg); try (exfalso; omega))))
  all_goals first | (exfalso; omega) | (refine wk_id ?_; refine retQ_mkL (by first | exact .inr rfl | exact .inl rfl) rfl rfl rfl ?_ rfl)
  all_goals exact ⟨⟨by simp, rfl⟩, ⟨by simp, ro_by _ _ _⟩, ⟨by simp, ro_pt _ _ _⟩, trivial⟩) : G := h
theorem wq6 {G : Prop} (h : G := by
  repeat' (first
 | ((with_reducible apply awO_pb2); (· rfl); (· exact sv); (· exact sv); (· (first | decide | omega | (simp only [flat2_len, flat3_len, flat4_len, flat5_len, flat6_len]; omega) | (simp only [elC_len, List.length_append, List.length_map, List.length_cons, List.length_nil]; omega) | (simp; done) | (simp; omega))); (· (first | rfl | exact svq)); (with_reducible apply awO_st); (· exact svs))
 | ((with_reducible apply awO_bnz); (· rfl); (· rfl); (· rfl); (· exact sv); (with_reducible apply awO_st); (· exact svs))
 | ((with_reducible apply awO_ev); (· rfl); (· exact sv))
 | ((with_reducible apply aw_seq); intro _ _)
 | (with_reducible apply aw_region)
 | (with_reducible apply aw_block)
 | ((first | (with_reducible apply awO_nil) | (with_reducible apply aw_exit) | (with_reducible apply aw_skip) | (with_reducible apply aw_ret)); (try simp only [CT, ↓reduceIte, Nat.reduceEqDiff]))
 | (refine Kont.go ‹Kont _ _ _ _› _ ?_)
 | ((with_reducible apply awO_m); (· rfl); (· rfl); (· exact sv); (· (first | exact o1 | exact o2 | exact o3)); (· exact svq); (· exact svq); (· exact svq); (· exact svq); (· rfl); (· exact nd); (with_reducible apply awO_st); (· exact svs))
 | ((first | ((with_reducible apply awO_guard); (· rfl); (· rfl); (· exact sv)) | ((with_reducible apply aw_cond); (· exact sv))); all_goals (intro hg; (try simp only [Bool.not_true, Bool.not_false]); (try simp only [decide_eq_true_eq, decide_eq_false_iff_not, Bool.not_true, Bool.not_false, Bool.not_eq_true', Bool.not_eq_false', Bool.not_not, beq_eq_false_iff_ne, ne_eq, beq_iff_eq, decide_eq_decide] at hg); try (exfalso; omega))))
  all_goals
    refine LE_mk (m, .mk (oprF t).2 0 [] [.mk op1 n1 nm1 ks1, .mk op2 n2 nm2 ks2], t2) ?_ ?_ sN sN ?_
    · exact ⟨by omega, k4, by show 6 * (s.length - t2.pos) + 3 < m; omega, hI⟩
    · show m < m + 1; omega
    · refine ⟨?_, rfl, rfl, trivial⟩
      show some _ = some (exC _)
      rw [exC_mk, exCs_cons, exCs_cons, exCs_nil, exC_mk, exC_mk]
      rfl) : G := h
theorem wq24 {G : Prop} (h : G := by
  repeat' (first
 | ((with_reducible apply (awMO_upd mtok)); (· rfl); (· rfl); (· rfl); (· exact sv); (· exact sv); (· exact sv); (· omega); (· omega); (· omega); (· rfl))
 | ((with_reducible apply awMO_ev); (· rfl); (· exact sv))
 | ((with_reducible apply awM_seq); intro _ _)
 | ((with_reducible apply awM_region))
 | ((with_reducible apply awM_block))
 | ((with_reducible apply awMO_nil); (try simp only [CTM, ↓reduceIte, Nat.reduceEqDiff]))
 | ((with_reducible apply awM_skip); (try simp only [CTM, ↓reduceIte, Nat.reduceEqDiff]))
 | (refine KontM.go ‹KontM _ _ _ _ _› _ _ ?_)
 | ((with_reducible apply awM_cond); (· exact sv); all_goals (intro hg; (try simp only [decide_eq_true_eq, decide_eq_false_iff_not, Bool.not_true, Bool.not_false, Bool.not_eq_true', Bool.not_eq_false', Bool.not_not, beq_eq_false_iff_ne, ne_eq, beq_iff_eq, decide_eq_decide] at hg); try (exfalso; omega))))
  all_goals try exact none
  all_goals first
    | (exfalso; rw [hq] at hg; cases hg; done)
    | (refine LEM_mk (j + 1) ?_ ?_ ?_ ?_ sN ?_
       · exact hjl
       · omega
       · rw [e2]
       · exact ⟨rfl, rfl, trivial⟩
       · refine ⟨?_, rfl, rfl, trivial⟩
         show some _ = some _
         rw [e1]
         simp only [bnC, List.flatMap_append, List.flatMap_cons, List.flatMap_nil, List.append_nil])) : G := h
theorem wq11 {G : Prop} (h : G := by
  repeat' (first
 | ((with_reducible apply awO_ev); (· rfl); (· exact sv))
 | (with_reducible apply aw_region)
 | ((first | (with_reducible apply awO_nil) | (with_reducible apply aw_exit) | (with_reducible apply aw_skip) | (with_reducible apply aw_ret)); (try simp only [CT, ↓reduceIte, Nat.reduceEqDiff])))
  all_goals first | rfl | exact ⟨_, _, rfl⟩ | exact ⟨rfl, ⟨rfl, rfl, rfl, trivial⟩, ⟨rfl, rfl, rfl, trivial⟩, rfl, rfl⟩ | exact ⟨trivial, ⟨rfl, rfl, rfl, trivial⟩, ⟨rfl, rfl, rfl, trivial⟩, trivial, trivial⟩ | exact ⟨rfl, ⟨rfl, rfl, rfl, rfl, trivial⟩, ⟨rfl, rfl, rfl, trivial⟩, rfl, rfl⟩ | exact ⟨trivial, ⟨rfl, rfl, rfl, rfl, trivial⟩, ⟨rfl, rfl, rfl, trivial⟩, trivial, trivial⟩ | (refine ⟨?_, sN, sN, ?_, ?_⟩ <;> first | trivial | rfl)) : G := h
theorem wq16 {G : Prop} (h : G := by
  repeat' (first
 | ((with_reducible apply awBO_new); (· rfl); (· rfl); (· exact zBld); (· rfl); (· exact nd); (· decide); (with_reducible apply awBO_st); (· exact svs))
 | ((with_reducible apply awBO_ev); (· rfl); (· exact sv))
 | ((with_reducible apply awB_seq); intro _ _)
 | ((with_reducible apply awB_region))
 | ((with_reducible apply awB_block))
 | ((with_reducible apply awBO_nil); (try simp only [CTB, ↓reduceIte, Nat.reduceEqDiff]))
 | (refine KontB.go ‹KontB _ _ _ _ _ _› _ _ ?_))
  refine awB_loopF (fun i : Nat => [(8, ai i)]) (fun _ => []) (fun i => some (3, cat (L.take i))) (fun i => i ≤ L.length) (fun i => L.length - i) 0 (by omega) rfl ?_ ?_ ?_
  · (simp only [LP, look_cons, look_nil, and_true, true_and, ↓reduceIte, Nat.reduceEqDiff, Option.some.injEq, AV.v.injEq, Value.int.injEq, Int.natCast_add, Int.cast_ofNat_Int])
  · (simp only [LP, look_cons, look_nil, and_true, true_and, ↓reduceIte, Nat.reduceEqDiff, Option.some.injEq, AV.v.injEq, Value.int.injEq, Int.natCast_add, Int.cast_ofNat_Int])
  intro i hi
  (simp only [LP, List.append_assoc, List.nil_append, List.cons_append, List.append_nil, List.contains_cons, List.contains_nil, Nat.reduceBEq, Bool.or_false, Bool.or_true, Bool.true_or, Bool.false_or, ↓reduceIte, Bool.false_eq_true])
  have hlt := cat_take_len L i
  by_cases hil : i < L.length
  · have e := cat_take_succ hil
    have hlt2 := cat_take_len L (i + 1)
    rw [e, List.length_append] at hlt2
    repeat' (first
 | ((with_reducible apply awBO_ws); (· rfl); (· rfl); (· exact sv); (· exact ws_wrs); (· (first | omega | (simp only [List.length_append, List.length_take, List.length_drop, List.length_cons, List.length_nil]; omega))); (· rfl); (· exact nd))
 | ((with_reducible apply awBO_ev); (· rfl); (· exact sv))
 | ((with_reducible apply awB_seq); intro _ _)
 | ((with_reducible apply awB_region))
 | ((with_reducible apply awB_block))
 | ((with_reducible apply awBO_nil); (try simp only [CTB, ↓reduceIte, Nat.reduceEqDiff]))
 | ((with_reducible apply awB_skip); (try simp only [CTB, ↓reduceIte, Nat.reduceEqDiff]))
 | (refine KontB.go ‹KontB _ _ _ _ _ _› _ _ ?_)
 | ((with_reducible apply awB_cond); (· exact sv); all_goals (intro hg; (try simp only [decide_eq_true_eq, decide_eq_false_iff_not, Bool.not_true, Bool.not_false, Bool.not_eq_true', Bool.not_eq_false', Bool.not_not, beq_eq_false_iff_ne, ne_eq, beq_iff_eq, decide_eq_decide] at hg); try (exfalso; omega))))
    refine LEB_mk (i + 1) ?_ ?_ ?_ sN sN sN
    · omega
    · omega
    · rw [e]
  · have e : cat (L.take i) = cat L := by rw [List.take_of_length_le (by omega)]
    repeat' (first
 | ((with_reducible apply awBO_str); (· rfl); (· rfl); (· exact sv); (· exact str_wrt); (· rfl); (· exact nd); (with_reducible apply awBO_st); (· exact svs))
 | ((with_reducible apply awBO_ev); (· rfl); (· exact sv))
 | ((with_reducible apply awB_seq); intro _ _)
 | ((with_reducible apply awB_region))
 | ((with_reducible apply awBO_nil); (try simp only [CTB, ↓reduceIte, Nat.reduceEqDiff]))
 | ((with_reducible apply awB_exit); (try simp only [CTB, ↓reduceIte, Nat.reduceEqDiff]))
 | ((with_reducible apply awB_ret); (try simp only [CTB, ↓reduceIte, Nat.reduceEqDiff]))
 | (refine KontB.go ‹KontB _ _ _ _ _ _› _ _ ?_)
 | ((with_reducible apply awB_cond); (· exact sv); all_goals (intro hg; (try simp only [decide_eq_true_eq, decide_eq_false_iff_not, Bool.not_true, Bool.not_false, Bool.not_eq_true', Bool.not_eq_false', Bool.not_not, beq_eq_false_iff_ne, ne_eq, beq_iff_eq, decide_eq_decide] at hg); try (exfalso; omega)))
 | ((with_reducible apply retQ_mk); (· (first | exact .inr rfl | exact .inl rfl)); (· exact sv); (· exact sv); rotate_left; (· rfl)))
    all_goals rw [e]) : G := h
theorem wq7 {G : Prop} (h : G := by
  repeat' (first
 | ((with_reducible apply awO_ev); (· rfl); (· exact sv))
 | ((with_reducible apply aw_seq); intro _ _)
 | (with_reducible apply aw_region)
 | (with_reducible apply aw_block)
 | ((first | (with_reducible apply awO_nil) | (with_reducible apply aw_exit) | (with_reducible apply aw_skip) | (with_reducible apply aw_ret)); (try simp only [CT, ↓reduceIte, Nat.reduceEqDiff]))
 | ((with_reducible apply awO_y); (· rfl); (· rfl); (· decide); (· exact sv); (· exact sv))
 | ((with_reducible apply awO_n); (· rfl); (· rfl); (· decide); (· exact sv); (· rfl); (· rfl); (· decide))
 | ((with_reducible apply aw_cond_true); (· exact sv))
 | ((with_reducible apply aw_cond_false); (· exact sv))
 | (refine Kont.go ‹Kont _ _ _ _› _ ?_)
 | ((with_reducible apply awO_c); (· rfl); (· rfl); (· exact sv); (· (first | exact d1)); (· rfl); (· rfl); (· rfl); (· decide))
 | ((first | ((with_reducible apply awO_guard); (· rfl); (· rfl); (· exact sv)) | ((with_reducible apply aw_cond); (· exact sv))); all_goals (intro hg; (try simp only [Bool.not_true, Bool.not_false]); (try simp only [decide_eq_true_eq, decide_eq_false_iff_not, Bool.not_true, Bool.not_false, Bool.not_eq_true', Bool.not_eq_false', Bool.not_not, beq_eq_false_iff_ne, ne_eq, beq_iff_eq, decide_eq_decide] at hg); try (exfalso; omega)))
 | ((with_reducible apply retQ_mk); (· (first | exact .inr rfl | exact .inl rfl)); (· exact sv); (· exact sv); rotate_left; (· rfl)))
  all_goals try (exfalso; revert hg; simp; done)
  refine aw_loopF (fun i : Nat => [(85, ai i)]) (fun _ => []) (fun i => i ≤ ks.length) (fun i => ks.length - i) 0 (Nat.zero_le _) ?_ ?_ ?_
  · exact ⟨rfl, trivial⟩
  · exact trivial
  rintro i hi
  (simp only [LP, List.append_assoc, List.nil_append, List.cons_append, List.append_nil, List.contains_cons, List.contains_nil, Nat.reduceBEq, Bool.or_false, Bool.or_true, Bool.true_or, Bool.false_or, ↓reduceIte, Bool.false_eq_true])
  by_cases hil : i < ks.length
  rotate_left
  · exact wkA
  have g1 := szEs_get ks i hil
  have g2 := dpEs_get ks i hil
  have c9 := ih ks[i] (b + 1) (b + 1) (by omega) (hkw _ (List.getElem_mem hil)) (by omega) (by omega)
  simp only [exA, exC_eta] at c9
  exact wq9) : G := h
theorem wq8 {G : Prop} (h : G := by
  repeat' (first
 | ((with_reducible apply awO_ev); (· rfl); (· exact sv))
 | ((with_reducible apply aw_seq); intro _ _)
 | (with_reducible apply aw_region)
 | (with_reducible apply aw_block)
 | ((first | (with_reducible apply awO_nil) | (with_reducible apply aw_exit) | (with_reducible apply aw_skip) | (with_reducible apply aw_ret)); (try simp only [CT, ↓reduceIte, Nat.reduceEqDiff]))
 | ((with_reducible apply awO_y); (· rfl); (· rfl); (· decide); (· exact sv); (· exact sv))
 | ((with_reducible apply awO_n); (· rfl); (· rfl); (· decide); (· exact sv); (· rfl); (· rfl); (· decide))
 | ((with_reducible apply aw_cond_true); (· exact sv))
 | ((with_reducible apply aw_cond_false); (· exact sv))
 | ((with_reducible apply awO_un); (· rfl); (· decide); (· exact sv))
 | (refine Kont.go ‹Kont _ _ _ _› _ ?_)
 | ((with_reducible apply awO_c); (· rfl); (· rfl); (· exact sv); (· (first | exact d1 | exact c8)); (· rfl); (· rfl); (· rfl); (· decide))
 | ((first | ((with_reducible apply awO_guard); (· rfl); (· rfl); (· exact sv)) | ((with_reducible apply aw_cond); (· exact sv))); all_goals (intro hg; (try simp only [Bool.not_true, Bool.not_false]); (try simp only [decide_eq_true_eq, decide_eq_false_iff_not, Bool.not_true, Bool.not_false, Bool.not_eq_true', Bool.not_eq_false', Bool.not_not, beq_eq_false_iff_ne, ne_eq, beq_iff_eq, decide_eq_decide] at hg); try (exfalso; omega)))
 | ((with_reducible apply retQ_mk); (· (first | exact .inr rfl | exact .inl rfl)); (· exact sv); (· exact sv); rotate_left; (· rfl)))
  all_goals try (exfalso; revert hg; simp [hnp]; done)
  refine aw_loopF (fun i : Nat => [(85, ai i)]) (fun _ => []) (fun i => i ≤ ks.length) (fun i => ks.length - i) 0 (Nat.zero_le _) ?_ ?_ ?_
  · exact ⟨rfl, trivial⟩
  · exact trivial
  rintro i hi
  (simp only [LP, List.append_assoc, List.nil_append, List.cons_append, List.append_nil, List.contains_cons, List.contains_nil, Nat.reduceBEq, Bool.or_false, Bool.or_true, Bool.true_or, Bool.false_or, ↓reduceIte, Bool.false_eq_true])
  by_cases hil : i < ks.length
  rotate_left
  · exact wkA
  have g1 := szEs_get ks i hil
  have g2 := dpEs_get ks i hil
  have c9 := ih ks[i] (b + 1) (b + 1) (by omega) (hkw _ (List.getElem_mem hil)) (by omega) (by omega)
  simp only [exA, exC_eta] at c9
  exact wq9) : G := h
theorem wq18 {G : Prop} (h : G := by
  repeat' (first
 | ((with_reducible apply awO_ev); (· rfl); (· exact sv))
 | ((with_reducible apply aw_seq); intro _ _)
 | (with_reducible apply aw_region)
 | (with_reducible apply aw_block)
 | ((first | (with_reducible apply awO_nil) | (with_reducible apply aw_exit) | (with_reducible apply aw_skip) | (with_reducible apply aw_ret)); (try simp only [CT, ↓reduceIte, Nat.reduceEqDiff]))
 | ((with_reducible apply awO_y); (· rfl); (· rfl); (· decide); (· exact sv); (· exact sv))
 | (refine Kont.go ‹Kont _ _ _ _› _ ?_)
 | ((first | ((with_reducible apply awO_guard); (· rfl); (· rfl); (· exact sv)) | ((with_reducible apply aw_cond); (· exact sv))); all_goals (intro hg; (try simp only [Bool.not_true, Bool.not_false]); (try simp only [decide_eq_true_eq, decide_eq_false_iff_not, Bool.not_true, Bool.not_false, Bool.not_eq_true', Bool.not_eq_false', Bool.not_not, beq_eq_false_iff_ne, ne_eq, beq_iff_eq, decide_eq_decide] at hg); try (exfalso; omega))))
  refine aw_loopF (fun j : Nat => [(40, ai j), (3, .os 100 0 2 ((elems (L.take i)).length + j))]) (fun j => [(100, elC (elems (L.take i) ++ (L[i].t.take j).map fun c => ⟨[c], L[i].k⟩)), (5, [az L[i].t, ai L[i].k])]) (fun j => j ≤ L[i].t.length) (fun j => L[i].t.length - j) 0 (by omega) ?_ ?_ ?_
  · exact ⟨rfl, rfl, trivial⟩
  · refine ⟨?_, rfl, trivial⟩
    show some _ = some _
    simp
  intro j hj
  (simp only [LP, List.append_assoc, List.nil_append, List.cons_append, List.append_nil, List.contains_cons, List.contains_nil, Nat.reduceBEq, Bool.or_false, Bool.or_true, Bool.true_or, Bool.false_or, ↓reduceIte, Bool.false_eq_true])
  by_cases hjl : j < L[i].t.length
  · omega
  · have e3 : L[i].t.take j = L[i].t := List.take_of_length_le (by omega)
    have e4 : j = L[i].t.length := by omega
    rw [e3]
    repeat' (first
 | ((with_reducible apply awO_ev); (· rfl); (· exact sv))
 | ((with_reducible apply aw_seq); intro _ _)
 | (with_reducible apply aw_region)
 | ((first | (with_reducible apply awO_nil) | (with_reducible apply aw_exit) | (with_reducible apply aw_skip) | (with_reducible apply aw_ret)); (try simp only [CT, ↓reduceIte, Nat.reduceEqDiff]))
 | (refine Kont.go ‹Kont _ _ _ _› _ ?_)
 | ((first | ((with_reducible apply awO_guard); (· rfl); (· rfl); (· exact sv)) | ((with_reducible apply aw_cond); (· exact sv))); all_goals (intro hg; (try simp only [Bool.not_true, Bool.not_false]); (try simp only [decide_eq_true_eq, decide_eq_false_iff_not, Bool.not_true, Bool.not_false, Bool.not_eq_true', Bool.not_eq_false', Bool.not_not, beq_eq_false_iff_ne, ne_eq, beq_iff_eq, decide_eq_decide] at hg); try (exfalso; omega))))
    refine LE_mk (i + 1) ?_ ?_ ?_ sN ?_
    · omega
    · omega
    · refine ⟨rfl, ?_, trivial⟩
      show some _ = some _
      rw [e1, List.length_append, List.length_map, e4]
    · refine ⟨?_, trivial⟩
      show some _ = some _
      rw [e1]) : G := h
theorem wq26 {G : Prop} (h : G := by
  repeat' (first
 | ((with_reducible apply awO_ev); (· rfl); (· exact sv))
 | ((with_reducible apply aw_seq); intro _ _)
 | (with_reducible apply aw_region)
 | (with_reducible apply aw_block)
 | ((first | (with_reducible apply awO_nil) | (with_reducible apply aw_exit) | (with_reducible apply aw_skip) | (with_reducible apply aw_ret)); (try simp only [CT, ↓reduceIte, Nat.reduceEqDiff]))
 | ((with_reducible apply awO_y); (· rfl); (· rfl); (· decide); (· exact sv); (· exact sv))
 | ((with_reducible apply awO_n); (· rfl); (· rfl); (· decide); (· exact sv); (· rfl); (· rfl); (· decide))
 | ((with_reducible apply aw_cond_false); (· exact sv))
 | (refine Kont.go ‹Kont _ _ _ _› _ ?_)
 | ((first | ((with_reducible apply awO_guard); (· rfl); (· rfl); (· exact sv)) | ((with_reducible apply aw_cond); (· exact sv))); all_goals (intro hg; (try simp only [Bool.not_true, Bool.not_false]); (try simp only [decide_eq_true_eq, decide_eq_false_iff_not, Bool.not_true, Bool.not_false, Bool.not_eq_true', Bool.not_eq_false', Bool.not_not, beq_eq_false_iff_ne, ne_eq, beq_iff_eq, decide_eq_decide] at hg); try (exfalso; omega))))
  refine aw_loopF (fun j : Nat => [(6, ai j), (3, .os 100 0 2 (C.length + j))]) (fun j => [(100, chC (C ++ (L[i].t.take j).map fun c => ⟨c, !decide (L[i].k = 1)⟩)), (5, [az L[i].t, ai L[i].k])]) (fun j => j ≤ L[i].t.length) (fun j => L[i].t.length - j) 0 (by omega) ?_ ?_ ?_
  · exact ⟨rfl, rfl, trivial⟩
  · refine ⟨?_, rfl, trivial⟩
    show some _ = some _
    simp
  intro j hj
  (simp only [LP, List.append_assoc, List.nil_append, List.cons_append, List.append_nil, List.contains_cons, List.contains_nil, Nat.reduceBEq, Bool.or_false, Bool.or_true, Bool.true_or, Bool.false_or, ↓reduceIte, Bool.false_eq_true])
  by_cases hjl : j < L[i].t.length
  · have e3 := cx_take_succ hjl (!decide (L[i].k = 1))
    repeat' (first
 | ((with_reducible apply awO_ev); (· rfl); (· exact sv))
 | ((with_reducible apply aw_seq); intro _ _)
 | (with_reducible apply aw_region)
 | (with_reducible apply aw_block)
 | ((first | (with_reducible apply awO_nil) | (with_reducible apply aw_exit) | (with_reducible apply aw_skip) | (with_reducible apply aw_ret)); (try simp only [CT, ↓reduceIte, Nat.reduceEqDiff]))
 | (refine Kont.go ‹Kont _ _ _ _› _ ?_)
 | ((with_reducible apply aw_draw); (· decide +kernel); (simp only [List.size_toArray, List.length_cons, List.length_nil, Nat.reduceAdd]))
 | ((with_reducible apply awY_done); (· decide +kernel); (try simp only [CT, ↓reduceIte, Nat.reduceEqDiff]))
 | ((with_reducible apply awY_q); (· exact sQ); (· exact np); (· exact svg); (· rfl); (· exact sv))
 | ((with_reducible apply awI_ev); (· exact svg); (· rfl); (· exact sv))
 | ((first | ((with_reducible apply awO_guard); (· rfl); (· rfl); (· exact sv)) | ((with_reducible apply aw_cond); (· exact sv))); all_goals (intro hg; (try simp only [Bool.not_true, Bool.not_false]); (try simp only [decide_eq_true_eq, decide_eq_false_iff_not, Bool.not_true, Bool.not_false, Bool.not_eq_true', Bool.not_eq_false', Bool.not_not, beq_eq_false_iff_ne, ne_eq, beq_iff_eq, decide_eq_decide] at hg); try (exfalso; omega)))
 | ((with_reducible apply awY_p); (· exact sH); (first | ((with_reducible apply awP_1); (· decide +kernel)) | ((with_reducible apply awP_2); (· exact sP)))))
    refine LE_mk (j + 1) ?_ ?_ ?_ sN ?_
    · omega
    · omega
    · exact ⟨rfl, rfl, trivial⟩
    · refine ⟨?_, rfl, trivial⟩
      show some _ = some _
      rw [e3, ← List.append_assoc, chC_append (_ ++ _)]; rfl
  · have e3 : L[i].t.take j = L[i].t := List.take_of_length_le (by omega)
    have e4 : j = L[i].t.length := by omega
    rw [e3]
    repeat' (first
 | ((with_reducible apply awO_ev); (· rfl); (· exact sv))
 | ((with_reducible apply aw_seq); intro _ _)
 | (with_reducible apply aw_region)
 | ((first | (with_reducible apply awO_nil) | (with_reducible apply aw_exit) | (with_reducible apply aw_skip) | (with_reducible apply aw_ret)); (try simp only [CT, ↓reduceIte, Nat.reduceEqDiff]))
 | (refine Kont.go ‹Kont _ _ _ _› _ ?_)
 | ((first | ((with_reducible apply awO_guard); (· rfl); (· rfl); (· exact sv)) | ((with_reducible apply aw_cond); (· exact sv))); all_goals (intro hg; (try simp only [Bool.not_true, Bool.not_false]); (try simp only [decide_eq_true_eq, decide_eq_false_iff_not, Bool.not_true, Bool.not_false, Bool.not_eq_true', Bool.not_eq_false', Bool.not_not, beq_eq_false_iff_ne, ne_eq, beq_iff_eq, decide_eq_decide] at hg); try (exfalso; omega))))
    refine LE_mk (i + 1) ?_ ?_ ?_ sN ?_
    · omega
    · omega
    · refine ⟨rfl, ?_, trivial⟩
      show some _ = some _
      rw [e1, List.length_append, List.length_map, e4]
    · refine ⟨?_, trivial⟩
      show some _ = some _
      rw [e1]) : G := h
theorem wq19 {G : Prop} (h : G := by
  repeat' (first
 | ((with_reducible apply awO_ev); (· rfl); (· exact sv))
 | ((with_reducible apply aw_seq); intro _ _)
 | (with_reducible apply aw_region)
 | (with_reducible apply aw_block)
 | ((first | (with_reducible apply awO_nil) | (with_reducible apply aw_exit) | (with_reducible apply aw_skip) | (with_reducible apply aw_ret)); (try simp only [CT, ↓reduceIte, Nat.reduceEqDiff]))
 | ((with_reducible apply awO_n); (· rfl); (· rfl); (· decide); (· exact sv); (· rfl); (· rfl); (· decide))
 | ((with_reducible apply aw_cond_false); (· exact sv))
 | (refine Kont.go ‹Kont _ _ _ _› _ ?_)
 | ((first | ((with_reducible apply awO_guard); (· rfl); (· rfl); (· exact sv)) | ((with_reducible apply aw_cond); (· exact sv))); all_goals (intro hg; (try simp only [Bool.not_true, Bool.not_false]); (try simp only [decide_eq_true_eq, decide_eq_false_iff_not, Bool.not_true, Bool.not_false, Bool.not_eq_true', Bool.not_eq_false', Bool.not_not, beq_eq_false_iff_ne, ne_eq, beq_iff_eq, decide_eq_decide] at hg); try (exfalso; omega))))
  refine aw_loopF (fun j : Nat => [(40, ai j), (3, .os 100 0 2 ((elems (L.take i)).length + j))]) (fun j => [(100, elC (elems (L.take i) ++ (L[i].t.take j).map fun c => ⟨[c], L[i].k⟩)), (5, [az L[i].t, ai L[i].k])]) (fun j => j ≤ L[i].t.length) (fun j => L[i].t.length - j) 0 (by omega) ?_ ?_ ?_
  · exact ⟨rfl, rfl, trivial⟩
  · refine ⟨?_, rfl, trivial⟩
    show some _ = some _
    simp
  intro j hj
  (simp only [LP, List.append_assoc, List.nil_append, List.cons_append, List.append_nil, List.contains_cons, List.contains_nil, Nat.reduceBEq, Bool.or_false, Bool.or_true, Bool.true_or, Bool.false_or, ↓reduceIte, Bool.false_eq_true])
  by_cases hjl : j < L[i].t.length
  · have e3 := byt_take_succ hjl L[i].k
    have e4 := one_byte hjl
    repeat' (first
 | ((with_reducible apply awO_ev); (· rfl); (· exact sv))
 | ((with_reducible apply aw_seq); intro _ _)
 | (with_reducible apply aw_region)
 | (with_reducible apply aw_block)
 | ((first | (with_reducible apply awO_nil) | (with_reducible apply aw_exit) | (with_reducible apply aw_skip) | (with_reducible apply aw_ret)); (try simp only [CT, ↓reduceIte, Nat.reduceEqDiff]))
 | (refine Kont.go ‹Kont _ _ _ _› _ ?_)
 | ((with_reducible apply aw_draw); (· decide +kernel); (simp only [List.size_toArray, List.length_cons, List.length_nil, Nat.reduceAdd]))
 | ((with_reducible apply awY_done); (· decide +kernel); (try simp only [CT, ↓reduceIte, Nat.reduceEqDiff]))
 | ((with_reducible apply awY_q); (· exact sQ); (· exact np); (· exact svg); (· rfl); (· exact sv))
 | ((with_reducible apply awI_ev); (· exact svg); (· rfl); (· exact sv))
 | ((first | ((with_reducible apply awO_guard); (· rfl); (· rfl); (· exact sv)) | ((with_reducible apply aw_cond); (· exact sv))); all_goals (intro hg; (try simp only [Bool.not_true, Bool.not_false]); (try simp only [decide_eq_true_eq, decide_eq_false_iff_not, Bool.not_true, Bool.not_false, Bool.not_eq_true', Bool.not_eq_false', Bool.not_not, beq_eq_false_iff_ne, ne_eq, beq_iff_eq, decide_eq_decide] at hg); try (exfalso; omega)))
 | ((with_reducible apply awY_p); (· exact sH); (first | ((with_reducible apply awP_1); (· decide +kernel)) | ((with_reducible apply awP_2); (· exact sP)))))
    refine LE_mk (j + 1) ?_ ?_ ?_ sN ?_
    · omega
    · omega
    · exact ⟨rfl, rfl, trivial⟩
    · refine ⟨?_, rfl, trivial⟩
      show some _ = some _
      rw [e3, e4, ← List.append_assoc, elC_append (_ ++ _)]; rfl
  · have e3 : L[i].t.take j = L[i].t := List.take_of_length_le (by omega)
    have e4 : j = L[i].t.length := by omega
    rw [e3]
    repeat' (first
 | ((with_reducible apply awO_ev); (· rfl); (· exact sv))
 | ((with_reducible apply aw_seq); intro _ _)
 | (with_reducible apply aw_region)
 | ((first | (with_reducible apply awO_nil) | (with_reducible apply aw_exit) | (with_reducible apply aw_skip) | (with_reducible apply aw_ret)); (try simp only [CT, ↓reduceIte, Nat.reduceEqDiff]))
 | (refine Kont.go ‹Kont _ _ _ _› _ ?_)
 | ((first | ((with_reducible apply awO_guard); (· rfl); (· rfl); (· exact sv)) | ((with_reducible apply aw_cond); (· exact sv))); all_goals (intro hg; (try simp only [Bool.not_true, Bool.not_false]); (try simp only [decide_eq_true_eq, decide_eq_false_iff_not, Bool.not_true, Bool.not_false, Bool.not_eq_true', Bool.not_eq_false', Bool.not_not, beq_eq_false_iff_ne, ne_eq, beq_iff_eq, decide_eq_decide] at hg); try (exfalso; omega))))
    refine LE_mk (i + 1) ?_ ?_ ?_ sN ?_
    · omega
    · omega
    · refine ⟨rfl, ?_, trivial⟩
      show some _ = some _
      rw [e1, List.length_append, List.length_map, e4]
    · refine ⟨?_, trivial⟩
      show some _ = some _
      rw [e1]) : G := h
theorem wq12 {G : Prop} (h : G := by
  repeat' (first
 | ((with_reducible apply awO_ev); (· rfl); (· exact sv))
 | ((with_reducible apply aw_seq); intro _ _)
 | (with_reducible apply aw_region)
 | (with_reducible apply aw_block)
 | ((first | (with_reducible apply awO_nil) | (with_reducible apply aw_exit) | (with_reducible apply aw_skip) | (with_reducible apply aw_ret)); (try simp only [CT, ↓reduceIte, Nat.reduceEqDiff]))
 | ((with_reducible apply awO_y); (· rfl); (· rfl); (· decide); (· exact sv); (· exact sv))
 | ((with_reducible apply awO_n); (· rfl); (· rfl); (· decide); (· exact sv); (· rfl); (· rfl); (· decide))
 | ((with_reducible apply aw_cond_true); (· exact sv))
 | ((with_reducible apply awO_un); (· rfl); (· decide); (· exact sv))
 | (refine Kont.go ‹Kont _ _ _ _› _ ?_)
 | ((with_reducible apply awO_c); (· rfl); (· rfl); (· exact sv); (· (first | exact c1 | exact c2 | exact c3)); (· rfl); (· rfl); (· rfl); (· decide))
 | ((with_reducible apply aw_draw); (· decide +kernel); (simp only [List.size_toArray, List.length_cons, List.length_nil, Nat.reduceAdd]))
 | ((with_reducible apply awY_done); (· decide +kernel); (try simp only [CT, ↓reduceIte, Nat.reduceEqDiff]))
 | ((with_reducible apply awY_q); (· exact sQ); (· exact np); (· exact svg); (· rfl); (· exact sv))
 | ((first | ((with_reducible apply awO_guard); (· rfl); (· rfl); (· exact sv)) | ((with_reducible apply aw_cond); (· exact sv))); all_goals (intro hg; (try simp only [Bool.not_true, Bool.not_false]); (try simp only [decide_eq_true_eq, decide_eq_false_iff_not, Bool.not_true, Bool.not_false, Bool.not_eq_true', Bool.not_eq_false', Bool.not_not, beq_eq_false_iff_ne, ne_eq, beq_iff_eq, decide_eq_decide] at hg); try (exfalso; omega))))
  refine aw_loopF (fun x : Nat × Int × Bool => [(8, ai x.1), (6, a64 x.2.1), (7, ab x.2.2)]) (fun _ => []) (fun x => x.1 ≤ (s.drop 2).length ∧ 0 ≤ x.2.1 ∧ x.2.1 ≤ 9223372036854775808 ∧ mgL 16 ((s.drop 2).drop x.1) x.2.1 x.2.2 = R) (fun x => (s.drop 2).length - x.1) (0, 0, false) ⟨Nat.zero_le _, by decide, by decide, hR⟩ ?_ ?_ ?_
  · exact ⟨rfl, rfl, rfl, trivial⟩
  · trivial
  rintro ⟨i, n, large⟩ ⟨hi, hn0, hn1, hI⟩
  simp only at hi hn0 hn1 hI
  clear hR
  (simp only [LP, List.append_assoc, List.nil_append, List.cons_append, List.append_nil, List.contains_cons, List.contains_nil, Nat.reduceBEq, Bool.or_false, Bool.or_true, Bool.true_or, Bool.false_or, ↓reduceIte, Bool.false_eq_true])
  by_cases hil : i < (s.drop 2).length
  rotate_left
  · rw [List.drop_eq_nil_of_le (by omega)] at hI
    cases large with
    | true =>
      have hI : (0, 14) = R := hI
      subst hI
      exact wkA
    | false =>
      have hI : (n, 0) = R := hI
      subst hI
      exact wkA
  have hlt : i < (s.drop 2).length := hil
  rw [List.drop_eq_getElem_cons hlt, mgL] at hI
  have hd := dgC_lt (s.drop 2)[i]
  have c4 := cdigit_ab (s.drop 2)[i]
  generalize hg : dgC (s.drop 2)[i] = d at *
  by_cases hc : 16 ≤ d
  · rw [if_pos hc] at hI
    subst hI
    exact wkA
  rw [if_neg hc] at hI
  have hq : (9223372036854775808 - d) / 16 = (9223372036854775808 - d).tdiv 16 := by
    rw [Int.tdiv_eq_ediv_of_nonneg (by omega)]
  have hq2 : (9223372036854775808 - d) / 16 ≤ 9223372036854775808 := by omega
  cases large with
  | true =>
    rw [if_pos (.inl rfl)] at hI
    exact wq13
  | false =>
    by_cases hl2 : (9223372036854775808 - d) / 16 < n
    · rw [if_pos (.inr hl2)] at hI
      exact wq13
    · rw [if_neg (by simpa using hl2)] at hI
      have hb1 : n * 16 + d ≤ 9223372036854775808 := by omega
      repeat' (first
 | ((with_reducible apply awO_ev); (· rfl); (· exact sv))
 | ((with_reducible apply aw_seq); intro _ _)
 | (with_reducible apply aw_region)
 | (with_reducible apply aw_block)
 | ((first | (with_reducible apply awO_nil) | (with_reducible apply aw_exit) | (with_reducible apply aw_skip) | (with_reducible apply aw_ret)); (try simp only [CT, ↓reduceIte, Nat.reduceEqDiff]))
 | ((with_reducible apply awO_y); (· rfl); (· rfl); (· decide); (· exact sv); (· exact sv))
 | (refine Kont.go ‹Kont _ _ _ _› _ ?_)
 | ((with_reducible apply awO_c); (· rfl); (· rfl); (· exact sv); (· (first | exact c4)); (· rfl); (· rfl); (· rfl); (· decide))
 | ((first | ((with_reducible apply awO_guard); (· rfl); (· rfl); (· exact sv)) | ((with_reducible apply aw_cond); (· exact sv))); all_goals (intro hg; (try simp only [Bool.not_true, Bool.not_false]); (try simp only [decide_eq_true_eq, decide_eq_false_iff_not, Bool.not_true, Bool.not_false, Bool.not_eq_true', Bool.not_eq_false', Bool.not_not, beq_eq_false_iff_ne, ne_eq, beq_iff_eq, decide_eq_decide] at hg); try (exfalso; omega))))
      all_goals
        refine LE_mk ((i + 1, n * 16 + d, false)) ?_ ?_ sN sN sN
        · exact ⟨hlt, by show 0 ≤ n * 16 + d; omega, hb1, hI⟩
        · show _ - (i + 1) < _ - i
          omega) : G := h
theorem wq4 {G : Prop} (h : G := by
  repeat' (first
 | ((with_reducible apply awO_ev); (· rfl); (· exact sv))
 | ((with_reducible apply aw_seq); intro _ _)
 | (with_reducible apply aw_region)
 | (with_reducible apply aw_block)
 | ((first | (with_reducible apply awO_nil) | (with_reducible apply aw_exit) | (with_reducible apply aw_skip) | (with_reducible apply aw_ret)); (try simp only [CT, ↓reduceIte, Nat.reduceEqDiff]))
 | ((with_reducible apply awO_y); (· rfl); (· rfl); (· decide); (· exact sv); (· exact sv))
 | ((with_reducible apply awO_n); (· rfl); (· rfl); (· decide); (· exact sv); (· rfl); (· rfl); (· decide))
 | ((with_reducible apply aw_cond_true); (· exact sv))
 | ((with_reducible apply awO_un); (· rfl); (· decide); (· exact sv))
 | (refine Kont.go ‹Kont _ _ _ _› _ ?_)
 | ((with_reducible apply awO_c); (· rfl); (· rfl); (· exact sv); (· (first | exact c1 | exact c2)); (· rfl); (· rfl); (· rfl); (· decide))
 | ((with_reducible apply aw_draw); (· decide +kernel); (simp only [List.size_toArray, List.length_cons, List.length_nil, Nat.reduceAdd]))
 | ((with_reducible apply awY_done); (· decide +kernel); (try simp only [CT, ↓reduceIte, Nat.reduceEqDiff]))
 | ((with_reducible apply awY_q); (· exact sQ); (· exact np); (· exact svg); (· rfl); (· exact sv))
 | ((first | ((with_reducible apply awO_guard); (· rfl); (· rfl); (· exact sv)) | ((with_reducible apply aw_cond); (· exact sv))); all_goals (intro hg; (try simp only [Bool.not_true, Bool.not_false]); (try simp only [decide_eq_true_eq, decide_eq_false_iff_not, Bool.not_true, Bool.not_false, Bool.not_eq_true', Bool.not_eq_false', Bool.not_not, beq_eq_false_iff_ne, ne_eq, beq_iff_eq, decide_eq_decide] at hg); try (exfalso; omega))))
  refine aw_loopF (fun x : Nat × Int × Bool => [(8, ai x.1), (6, ai x.2.1), (7, ab x.2.2)]) (fun _ => []) (fun x => x.1 ≤ (s.drop 2).length ∧ 0 ≤ x.2.1 ∧ x.2.1 ≤ 9223372036854775807 ∧ vlL 16 ((s.drop 2).drop x.1) x.2.1 x.2.2 = R) (fun x => (s.drop 2).length - x.1) (0, 0, false) ⟨Nat.zero_le _, by decide, by decide, hR⟩ ?_ ?_ ?_
  · exact ⟨rfl, rfl, rfl, trivial⟩
  · trivial
  rintro ⟨i, n, large⟩ ⟨hi, hn0, hn1, hI⟩
  simp only at hi hn0 hn1 hI
  clear hR
  (simp only [LP, List.append_assoc, List.nil_append, List.cons_append, List.append_nil, List.contains_cons, List.contains_nil, Nat.reduceBEq, Bool.or_false, Bool.or_true, Bool.true_or, Bool.false_or, ↓reduceIte, Bool.false_eq_true])
  by_cases hil : i < (s.drop 2).length
  rotate_left
  · rw [List.drop_eq_nil_of_le (by omega)] at hI
    cases large with
    | true =>
      have hI : (0, 14) = R := hI
      subst hI
      exact wkA
    | false =>
      have hI : (n, 0) = R := hI
      subst hI
      exact wkA
  have hlt : i < ((s.drop 2)).length := hil
  rw [List.drop_eq_getElem_cons hlt, vlL] at hI
  have hd := dgZ_lt ((s.drop 2))[i]
  have c4 := lower_ab ((s.drop 2))[i]
  have c5 : Ab Tryz.prog 56 [az hexL, au (((s.drop 2))[i] ||| lowB ((s.drop 2))[i])] (ai (dgZ ((s.drop 2))[i])) := by
    have := indexByte_ab hexL (((s.drop 2))[i] ||| lowB ((s.drop 2))[i])
    unfold dgZ
    rw [idxZ_eq]
    exact this
  generalize hg : dgZ ((s.drop 2))[i] = d at *
  by_cases hc : d < 0 ∨ 16 ≤ d
  · rw [if_pos hc] at hI
    subst hI
    exact wkA
  rw [if_neg hc] at hI
  have hq : (9223372036854775807 - d) / 16 = (9223372036854775807 - d).tdiv 16 := by
    rw [Int.tdiv_eq_ediv_of_nonneg (by omega)]
  have hq2 : (9223372036854775807 - d) / 16 ≤ 9223372036854775807 := by omega
  cases large with
  | true =>
    rw [if_pos (.inl rfl)] at hI
    exact wq5
  | false =>
    by_cases hl2 : (9223372036854775807 - d) / 16 < n
    · rw [if_pos (.inr hl2)] at hI
      exact wq5
    · rw [if_neg (by simpa using hl2)] at hI
      have hb1 : n * 16 + d ≤ 9223372036854775807 := by omega
      repeat' (first
 | ((with_reducible apply awO_ev); (· rfl); (· exact sv))
 | ((with_reducible apply aw_seq); intro _ _)
 | (with_reducible apply aw_region)
 | (with_reducible apply aw_block)
 | ((first | (with_reducible apply awO_nil) | (with_reducible apply aw_exit) | (with_reducible apply aw_skip) | (with_reducible apply aw_ret)); (try simp only [CT, ↓reduceIte, Nat.reduceEqDiff]))
 | ((with_reducible apply awO_y); (· rfl); (· rfl); (· decide); (· exact sv); (· exact sv))
 | (refine Kont.go ‹Kont _ _ _ _› _ ?_)
 | ((with_reducible apply aw_draw); (· decide +kernel); (simp only [List.size_toArray, List.length_cons, List.length_nil, Nat.reduceAdd]))
 | ((with_reducible apply awY_done); (· decide +kernel); (try simp only [CT, ↓reduceIte, Nat.reduceEqDiff]))
 | ((with_reducible apply awY_q); (· exact sQ); (· exact np); (· exact svg); (· rfl); (· exact sv))
 | ((with_reducible apply awI_c); (· exact svg); (· rfl); (· rfl); (· exact sv); (· (first | exact c4 | exact c5)); (· rfl); (· rfl); (· rfl); (· exact nd); simp only [put_some])
 | ((first | ((with_reducible apply awO_guard); (· rfl); (· rfl); (· exact sv)) | ((with_reducible apply aw_cond); (· exact sv))); all_goals (intro hg; (try simp only [Bool.not_true, Bool.not_false]); (try simp only [decide_eq_true_eq, decide_eq_false_iff_not, Bool.not_true, Bool.not_false, Bool.not_eq_true', Bool.not_eq_false', Bool.not_not, beq_eq_false_iff_ne, ne_eq, beq_iff_eq, decide_eq_decide] at hg); try (exfalso; omega)))
 | ((with_reducible apply awY_p); (· exact sH); (first | ((with_reducible apply awP_1); (· decide +kernel)) | ((with_reducible apply awP_2); (· exact sP)))))
      all_goals
        refine LE_mk ((i + 1, n * 16 + d, false)) ?_ ?_ sN sN sN
        · exact ⟨hlt, by show 0 ≤ n * 16 + d; omega, hb1, hI⟩
        · show _ - (i + 1) < _ - i
          omega) : G := h
end Go.Proofs.YtogmppcfopgkdaaGreatDoor
