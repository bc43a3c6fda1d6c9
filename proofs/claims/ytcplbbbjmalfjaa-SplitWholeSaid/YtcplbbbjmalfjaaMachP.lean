/- The abstract machine, part 16: calls that change own objects; a nil slice as an own one. No program is named here. -/
import Derived.Test.YtcplbbbjmalfjaaMachO
namespace Go.Proofs.Ytcplbbbjmalfjaa
open Go.RowKit
set_option linter.unusedVariables false
set_option linter.unusedSimpArgs false
def keysH (h : Hp) : List Nat := h.map (·.1)
theorem keysH_nil : keysH [] = [] := rfl
theorem keysH_cons (k : Nat) (cs : List AV) (h : Hp) : keysH ((k, cs) :: h) = k :: keysH h := rfl
theorem look_keys {h : Hp} {k : Nat} {cs : List AV} (hk : look h k = some cs) : k ∈ keysH h := List.mem_map.2 ⟨(k, cs), look_mem hk, rfl⟩
def okRC (ks : List Nat) : AV → Bool
  | .os k _ _ _ => ks.contains k
  | .pt k _ => ks.contains k
  | .ag _ => false
  | .tp _ => false
  | .fn _ _ => false
  | .sp k => ks.contains k
  | _ => true
def okRP (ks : List Nat) : AV → Bool
  | .ag cs => cs.all (okRC ks)
  | x => okRC ks x
/-- Only these own objects are spoken of. -/
def okR (ks : List Nat) : AV → Bool
  | .tp vs => vs.all (okRP ks)
  | x => okRP ks x
theorem okRC_ment {ks : List Nat} {x : AV} (h : okRC ks x = true) {k : Nat} (hk : k ∉ ks) : cellM k x = false := by
  cases x <;> simp_all [okRC, cellM] <;> (intro e; subst e; exact hk h)
theorem okRP_ment {ks : List Nat} {x : AV} (h : okRP ks x = true) {k : Nat} (hk : k ∉ ks) : partM k x = false := by
  cases x with
  | ag cs =>
    simp only [okRP, List.all_eq_true] at h
    simp only [partM, List.any_eq_false]
    exact fun y hy => by simpa using okRC_ment (h y hy) hk
  | fn f cs => simp [okRP, okRC] at h
  | _ => exact okRC_ment (x := _) (by simpa [okRP] using h) hk
theorem okR_ment {ks : List Nat} {x : AV} (h : okR ks x = true) {k : Nat} (hk : k ∉ ks) : mentM k x = false := by
  cases x with
  | tp vs =>
    simp only [okR, List.all_eq_true] at h
    simp only [mentM, List.any_eq_false]
    exact fun y hy => by simpa using okRP_ment (h y hy) hk
  | ag cs => exact okRP_ment (x := .ag cs) h hk
  | _ => exact okRP_ment (x := _) (by simpa [okR] using h) hk
def killsX (ks : List Nat) (x : AV) : AV := if ks.any (fun k => mentM k x) = true then .un else x
def killsC (ks : List Nat) (x : AV) : AV := if ks.any (fun k => cellM k x) = true then .un else x
def cuts (ks : List Nat) : Hp → Hp
  | [] => []
  | (i, x) :: r => if ks.contains i = true then cuts ks r else (i, x.map (killsC ks)) :: cuts ks r
/-- Behind a call that has changed the objects h into h' (those of 'fix' lie where they lay). -/
def St.after (st : St) (d : Nat) (r : AV) (h h' : Hp) (fix : List Nat) : St :=
  ⟨(d, r) :: turn (killsX ((keysH h ++ keysH h').filter fun k => !fix.contains k)) st.fr, h' ++ cuts (keysH h ++ keysH h') st.hp, st.nt, st.fx⟩
theorem look_append {α : Type} (a b : List (Nat × α)) (k : Nat) : look (a ++ b) k = (look a k).or (look b k) := by
  induction a with
  | nil => simp [look]
  | cons p r ih =>
    obtain ⟨i, x⟩ := p
    rw [List.cons_append, look_cons, look_cons, ih]
    split <;> rfl
theorem look_cuts (ks : List Nat) (h : Hp) (k : Nat) : look (cuts ks h) k = if k ∈ ks then none else (look h k).map (List.map (killsC ks)) := by
  induction h with
  | nil => simp [cuts, look]
  | cons p r ih =>
    obtain ⟨i, x⟩ := p
    rw [cuts]
    split
    · next hc =>
      rw [ih, look_cons]
      split
      · rfl
      · next hk =>
        rw [if_neg]
        intro e
        subst e
        exact hk (by simpa using hc)
    · next hc =>
      rw [look_cons, look_cons, ih]
      split
      · next e =>
        subst e
        rw [if_neg (by simpa using hc)]
        rfl
      · rfl
theorem ment_killsX {ks : List Nat} {k : Nat} (hk : k ∈ ks) (x : AV) : mentM k (killsX ks x) = false := by
  unfold killsX
  split
  · rfl
  · next h =>
    simp only [List.any_eq_true, not_exists, not_and] at h
    simpa using h k hk
theorem ment_killsC {ks : List Nat} {k : Nat} (hk : k ∈ ks) (x : AV) : mentM k (killsC ks x) = false := by
  unfold killsC
  split
  · rfl
  · next h =>
    simp only [List.any_eq_true, not_exists, not_and] at h
    exact mentM_of_cellM (by simpa using h k hk)
section
variable {P : Program} {E : Env} {ρ : Nat → Loc} {st : St} {a : Act} {w w' : World} {o : Oper}
theorem SR.after (hS : SR E ρ st a w) {h h' : Hp} {fix : List Nat} {r : AV} {v : Value} {ρ' : Nat → Loc} {d : Nat} (hd : d < st.nt) (hsub : subL h st.hp)
    (hrep : Rep w' (avd (fun b => avd E.bad ρ st.hp b ∧ ¬ ownB ρ h b) ρ' h') ρ' r v) (hhr : HR (fun b => avd E.bad ρ st.hp b ∧ ¬ ownB ρ h b) ρ' h' w') (hkeep : Keeps w w' (ownB ρ h))
    (hown : ∀ b, ownB ρ' h' b → (ownB ρ h b ∨ w.heap.size ≤ b) ∧ ¬ (avd E.bad ρ st.hp b ∧ ¬ ownB ρ h b)) (hfix : ∀ k ∈ fix, ρ' k = ρ k)
    (hr : okR (keysH h') r = true) (hc : h'.all (fun p => p.2.all (okR (keysH h'))) = true) (hfx : st.fx.all (fun k => !(keysH h').contains k || fix.contains k) = true) :
    SR E (fun k => if k ∈ keysH h' then ρ' k else ρ k) (st.after d r h h' fix) (a.put (some d) v) w' := by
  have hlh : ∀ k cs, look h k = some cs → look st.hp k = some cs := fun k cs hk => subL_spec hsub _ (look_mem hk)
  have ownh : ∀ b, ownB ρ h b → ownB ρ st.hp b := fun b ⟨k, cs, h1, h2⟩ => ⟨k, cs, hlh k cs h1, h2⟩
  have hρ' : ∀ k, k ∈ keysH h' → (if k ∈ keysH h' then ρ' k else ρ k) = ρ' k := fun k hk => if_pos hk
  have hlook : ∀ k, look (st.after d r h h' fix).hp k = (look h' k).or (if k ∈ keysH h ++ keysH h' then none else (look st.hp k).map (List.map (killsC (keysH h ++ keysH h')))) := fun k => by
    simp only [St.after, look_append, look_cuts]
  -- the blocks that are owned now
  have own2 : ∀ b, ownB (fun k => if k ∈ keysH h' then ρ' k else ρ k) (st.after d r h h' fix).hp b → ownB ρ' h' b ∨ (ownB ρ st.hp b ∧ ¬ ownB ρ h b) := by
    rintro b ⟨k, cs, hk, hcap, hg⟩
    rw [hlook] at hk
    cases hh : look h' k with
    | some cs' =>
      have hm := look_keys hh
      simp only [hm, if_true] at hcap hg
      exact .inl ⟨k, cs', hh, hcap, hg⟩
    | none =>
      rw [hh, Option.none_or] at hk
      split at hk
      · cases hk
      · next hn =>
        obtain ⟨c0, h0, _⟩ := Option.map_eq_some_iff.1 hk
        have hn' : k ∉ keysH h' := fun e => hn (List.mem_append_right _ e)
        simp only [hn', if_false] at hcap hg
        refine .inr ⟨⟨k, c0, h0, hcap, hg⟩, ?_⟩
        rintro ⟨j, cj, g1, g2, g3⟩
        exact hS.hr.dis j k cj c0 (hlh j cj g1) h0 (fun e => hn (List.mem_append_left _ (by rw [← e]; exact look_keys g1))) g2 hcap (g3.trans hg.symm)
  have av2 : ∀ b, avd E.bad (fun k => if k ∈ keysH h' then ρ' k else ρ k) (st.after d r h h' fix).hp b → avd (fun b => avd E.bad ρ st.hp b ∧ ¬ ownB ρ h b) ρ' h' b := by
    rintro b (hb | hb)
    · exact .inl ⟨.inl hb, fun e => hS.nb b (ownh b e) hb⟩
    · rcases own2 b hb with h1 | ⟨h1, h2⟩
      · exact .inr h1
      · exact .inl ⟨.inr h1, h2⟩
  have av1 : ∀ b, b < w.heap.size → avd E.bad (fun k => if k ∈ keysH h' then ρ' k else ρ k) (st.after d r h h' fix).hp b → avd E.bad ρ st.hp b := by
    rintro b hlt (hb | hb)
    · exact .inl hb
    · rcases own2 b hb with h1 | ⟨h1, _⟩
      · rcases (hown b h1).1 with h2 | h2
        · exact .inr (ownh b h2)
        · omega
      · exact .inr h1
  have hcell : ∀ b q, b < w.heap.size → ¬ avd E.bad ρ st.hp b → w'.cell? ⟨b, q, none⟩ = w.cell? ⟨b, q, none⟩ := fun b q hlt hn =>
    World.cell?_of_block (w := w) (a := ⟨b, q, none⟩) (hkeep.block b hlt fun e => hn (.inr (ownh b e)))
  have hch : ∀ k, (if k ∈ keysH h' then ρ' k else ρ k) ≠ ρ k → k ∈ keysH h' ∧ k ∉ fix := fun k hk => by
    by_cases e : k ∈ keysH h'
    · rw [if_pos e] at hk; exact ⟨e, fun hf => hk (hfix k hf)⟩
    · rw [if_neg e] at hk; exact absurd rfl hk
  have trN : ∀ {x : AV} {u : Value}, Rep w' (avd (fun b => avd E.bad ρ st.hp b ∧ ¬ ownB ρ h b) ρ' h') ρ' x u → okR (keysH h') x = true →
      Rep w' (avd E.bad (fun k => if k ∈ keysH h' then ρ' k else ρ k) (st.after d r h h' fix).hp) (fun k => if k ∈ keysH h' then ρ' k else ρ k) x u := fun hx hok =>
    hx.tr (Nat.le_refl _) (fun _ _ _ _ => rfl) (fun b _ hb => av2 b hb) (fun k hk => by
      by_cases e : k ∈ keysH h'
      · rw [if_pos e] at hk; exact absurd rfl hk
      · exact okR_ment hok e)
  have hr2 : SR E (fun k => if k ∈ keysH h' then ρ' k else ρ k) ⟨turn (killsX ((keysH h ++ keysH h').filter fun k => !fix.contains k)) st.fr, (st.after d r h h' fix).hp, st.nt, st.fx⟩ a w' := by
    refine ⟨fun t x hx => ?_, ⟨fun k cs hk => ?_, ?_⟩, fun b hb => ?_, ?_, hS.bad, fun b hb hbad => ?_, hS.size, hS.defers, fun k hk => ?_⟩
    · simp only [look_turn, Option.map_eq_some_iff] at hx
      obtain ⟨y, hy, rfl⟩ := hx
      have hy' : Rep w (avd E.bad ρ st.hp) ρ (killsX ((keysH h ++ keysH h').filter fun k => !fix.contains k) y) (a.tmps.getD t undef) := by
        unfold killsX
        split
        · exact .im (.un _)
        · exact hS.fr t y hy
      refine hy'.tr hkeep.size hcell av1 (fun k hk => ment_killsX ?_ y)
      obtain ⟨h1, h2⟩ := hch k hk
      simp [h1, h2]
    · rw [hlook] at hk
      cases hh : look h' k with
      | some cs' =>
        rw [hh, Option.some_or] at hk
        injection hk with hk
        subst hk
        have hm := look_keys hh
        simp only [hm, if_true]
        have hob := hhr.obj k cs' hh
        refine ⟨hob.len, hob.mem, fun j x hj => ?_⟩
        obtain ⟨u, hu, hru⟩ := hob.cells j x hj
        have := List.all_eq_true.1 hc _ (look_mem hh)
        exact ⟨u, hu, trN hru (List.all_eq_true.1 this x (List.mem_of_getElem? hj))⟩
      | none =>
        rw [hh, Option.none_or] at hk
        split at hk
        · cases hk
        · next hn =>
          obtain ⟨c0, h0, rfl⟩ := Option.map_eq_some_iff.1 hk
          have hn' : k ∉ keysH h' := fun e => hn (List.mem_append_right _ e)
          simp only [hn', if_false]
          have hob := hS.hr.obj k c0 h0
          have h1 : ObjR w (avd E.bad ρ st.hp) ρ (ρ k) (c0.map (killsC (keysH h ++ keysH h'))) := ⟨by simpa using hob.len, hob.mem, fun i x hx => by
            rw [List.getElem?_map, Option.map_eq_some_iff] at hx
            obtain ⟨y, hy, rfl⟩ := hx
            obtain ⟨u, hu, hru⟩ := hob.cells i y hy
            refine ⟨u, hu, ?_⟩
            unfold killsC
            split
            · exact .im (.un _)
            · exact hru⟩
          refine h1.tr hkeep.size (fun hcap => hkeep.block _ (hob.mem hcap).1 ?_) hcell av1 (fun j hj x hx => ?_)
          · rintro ⟨j, cj, g1, g2, g3⟩
            exact hS.hr.dis j k cj c0 (hlh j cj g1) h0 (fun e => hn (List.mem_append_left _ (by rw [← e]; exact look_keys g1))) g2 hcap g3
          · obtain ⟨y, _, rfl⟩ := List.mem_map.1 hx
            exact ment_killsC (List.mem_append_right _ (hch j hj).1) y
    · intro k k' cs cs' h1 h2 hne hc1 hc2
      rw [hlook] at h1 h2
      have sort : ∀ i ci, (look h' i).or (if i ∈ keysH h ++ keysH h' then none else (look st.hp i).map (List.map (killsC (keysH h ++ keysH h')))) = some ci → (∃ c0, look h' i = some c0 ∧ i ∈ keysH h') ∨ ∃ c0, look st.hp i = some c0 ∧ i ∉ keysH h ∧ i ∉ keysH h' := fun i ci hi => by
        cases hh : look h' i with
        | some c0 => exact .inl ⟨c0, rfl, look_keys hh⟩
        | none =>
          rw [hh, Option.none_or] at hi
          split at hi
          · cases hi
          · next hn =>
            obtain ⟨c0, h0, _⟩ := Option.map_eq_some_iff.1 hi
            exact .inr ⟨c0, h0, fun e => hn (List.mem_append_left _ e), fun e => hn (List.mem_append_right _ e)⟩
      have cross : ∀ i j ci cj, look h' i = some ci → i ∈ keysH h' → look st.hp j = some cj → j ∉ keysH h → 0 < (ρ' i).cap → 0 < (ρ j).cap → (ρ' i).g ≠ (ρ j).g := fun i j ci cj hi _ hj hjn hci hcj e => by
        have hb := hown (ρ' i).g ⟨i, ci, hi, hci, rfl⟩
        rcases hb.1 with ⟨l, cl, g1, g2, g3⟩ | hge
        · exact hS.hr.dis l j cl cj (hlh l cl g1) hj (fun e' => hjn (by rw [← e']; exact look_keys g1)) g2 hcj (g3.trans e)
        · have := ((hS.hr.obj j cj hj).mem hcj).1; omega
      rcases sort k cs h1 with ⟨c0, g1, g2⟩ | ⟨c0, g1, g2, g3⟩ <;> rcases sort k' cs' h2 with ⟨c1, q1, q2⟩ | ⟨c1, q1, q2, q3⟩
      · simp only [g2, q2, if_true] at hc1 hc2 ⊢
        exact hhr.dis k k' c0 c1 g1 q1 hne hc1 hc2
      · simp only [g2, q3, if_true, if_false] at hc1 hc2 ⊢
        exact cross k k' c0 c1 g1 g2 q1 q2 hc1 hc2
      · simp only [g3, q2, if_true, if_false] at hc1 hc2 ⊢
        exact (cross k' k c1 c0 q1 q2 g1 g2 hc2 hc1).symm
      · simp only [g3, q3, if_false] at hc1 hc2 ⊢
        exact hS.hr.dis k k' c0 c1 g1 q1 hne hc1 hc2
    · rcases own2 b hb with h1 | ⟨h1, _⟩
      · rcases (hown b h1).1 with h2 | h2
        · exact hS.own b (ownh b h2)
        · exact .inr (Nat.le_trans hS.keep.size h2)
      · exact hS.own b h1
    · refine ⟨hkeep.os.trans hS.keep.os, hkeep.tape.trans hS.keep.tape, hkeep.output.trans hS.keep.output, Nat.le_trans hS.keep.size hkeep.size, fun b hb hn => ?_⟩
      refine (hkeep.block b (Nat.lt_of_lt_of_le hb hS.keep.size) fun e => ?_).trans (hS.keep.block b hb hn)
      rcases hS.own b (ownh b e) with hx | hge
      · exact hn hx
      · omega
    · rcases own2 b hb with h1 | ⟨h1, _⟩
      · exact (hown b h1).2 ⟨.inl hbad, fun e => hS.nb b (ownh b e) hbad⟩
      · exact hS.nb b h1 hbad
    · have := List.all_eq_true.1 hfx k hk
      simp only [Bool.or_eq_true, Bool.not_eq_true'] at this
      by_cases e : k ∈ keysH h'
      · simp only [e, if_true]
        rcases this with h1 | h1
        · simp [e] at h1
        · rw [hfix k (by simpa using h1)]; exact hS.fx k hk
      · simp only [e, if_false]; exact hS.fx k hk
  exact hr2.put (some d) (fun t e => by injection e with e; subst e; exact hd) (trN hrep hr)
theorem callM_run {f : FuncId} {vs : Array Value} {ys : List AV} {r : AV} {h h' : Hp} {fix : List Nat} {d : Nat} {K : Act → World → Prop} {Q' : Exit → Act → World → Prop} (hS : SR E ρ st a w) (hrun : (execOp a.eval o).run P w = .ok (.enter f vs) w) (hargs : RepC w (avd E.bad ρ st.hp) ρ ys vs) (hc : Fn P f ys h r h' fix) (hsub : subL h st.hp)
    (hr : okR (keysH h') r = true) (hcs : h'.all (fun p => p.2.all (okR (keysH h'))) = true) (hfx : st.fx.all (fun k => !(keysH h').contains k || fix.contains k) = true) (hd : o.dst = some d) (hdn : d < st.nt)
    (hK : ∀ a' w', S E (st.after d r h h' fix) a' w' → K a' w') : o.wp P a w K Q' := by
  unfold Oper.wp
  rw [hrun, Oper.upon_enter]
  have hlh : ∀ k cs, look h k = some cs → look st.hp k = some cs := fun k cs hk => subL_spec hsub _ (look_mem hk)
  have ownh : ∀ b, ownB ρ h b → ownB ρ st.hp b := fun b ⟨k, cs, h1, h2⟩ => ⟨k, cs, hlh k cs h1, h2⟩
  have hav : ∀ b, avd (fun b => avd E.bad ρ st.hp b ∧ ¬ ownB ρ h b) ρ h b → avd E.bad ρ st.hp b := fun b hb => hb.elim (fun h1 => h1.1) (fun h1 => .inr (ownh b h1))
  refine (hc.2 w (fun b => avd E.bad ρ st.hp b ∧ ¬ ownB ρ h b) ρ _ (fun b hb => ?_) (fun b hb hb' => hb'.2 hb) ⟨fun k cs hk => ?_, fun k k' cs cs' h1 h2 => hS.hr.dis k k' cs cs' (hlh _ _ h1) (hlh _ _ h2)⟩ ⟨hargs.1, fun j y v hj hv => ?_⟩).mono ?_
  · rcases hb.1 with hb | ⟨k, cs, h1, h2, rfl⟩
    · exact Nat.lt_of_lt_of_le (hS.bad b hb) hS.keep.size
    · exact ((hS.hr.obj k cs h1).mem h2).1
  · exact (hS.hr.obj k cs (hlh k cs hk)).tr (Nat.le_refl _) (fun _ => rfl) (fun _ _ _ _ => rfl) (fun b _ hb => hav b hb) (fun _ hk => absurd rfl hk)
  · exact (hargs.2 j y v hj hv).tr (Nat.le_refl _) (fun _ _ _ _ => rfl) (fun b _ hb => hav b hb) (fun _ hk => absurd rfl hk)
  · rintro e w' ⟨v, ρ', rfl, hrep, hhr, hkeep, hown, hfix⟩
    have := hS.after hdn hsub hrep hhr hkeep hown hfix hr hcs hfx
    refine hK _ _ ⟨fun k => if k ∈ keysH h' then ρ' k else ρ k, ?_⟩
    rw [hd]
    exact this
theorem callM_step {f : FuncId} {args : List Operand} {ts : Array TypeId} {ys : List AV} {r : AV} {h h' : Hp} {fix : List Nat} {d : Nat} {K : Act → World → Prop} {Q' : Exit → Act → World → Prop} (hS : SR E ρ st a w) (ho : o.op = .call ⟨.value (.func f), args.toArray, ts⟩) (ha : argsA st args = some ys) (hc : Fn P f ys h r h' fix) (hsub : subL h st.hp)
    (hr : okR (keysH h') r = true) (hcs : h'.all (fun p => p.2.all (okR (keysH h'))) = true) (hfx : st.fx.all (fun k => !(keysH h').contains k || fix.contains k) = true) (hd : o.dst = some d) (hdn : d < st.nt)
    (hK : ∀ a' w', S E (st.after d r h h' fix) a' w' → K a' w') : o.wp P a w K Q' := by
  exact callM_run hS (run_call ho hc.1 a w) (argsA_rep hS ha) hc hsub hr hcs hfx hd hdn hK
end
section
variable {P : Program} {st : St} {Q : Exit → St → Prop} {ops : Array Oper} {rest : List Oper} {o : Oper} {listed : Array Bool} {fuel : Nat}
theorem awO_m {f : FuncId} {args : List Operand} {ts : Array TypeId} {ys : List AV} {r : AV} {h h' : Hp} {fix : List Nat} {d : Nat} (hg : o.guard = none) (ho : o.op = .call ⟨.value (.func f), args.toArray, ts⟩) (ha : argsA st args = some ys) (hc : Fn P f ys h r h' fix) (hsub : subL h st.hp)
    (hr : okR (keysH h') r = true) (hcs : h'.all (fun p => p.2.all (okR (keysH h'))) = true) (hfx : st.fx.all (fun k => !(keysH h').contains k || fix.contains k) = true) (hd : o.dst = some d) (hdn : d < st.nt) (hrest : awO P ops rest (st.after d r h h' fix) Q) : awO P ops (o :: rest) st Q := fun E a w ⟨ρ, hS⟩ =>
  wpList_plain hg fun K hK => callM_step hS ho ha hc hsub hr hcs hfx hd hdn fun a' w' hs => hK _ _ (hrest E a' w' hs)
theorem RepC.app {w : World} {av : Nat → Prop} {ρ : Nat → Loc} {cs ds : List AV} {us vs : Array Value} (h1 : RepC w av ρ cs us) (h2 : RepC w av ρ ds vs) : RepC w av ρ (cs ++ ds) (us ++ vs) := by
  refine ⟨by simp [h1.1, h2.1], fun j y v hj hv => ?_⟩
  by_cases h : j < cs.length
  · rw [List.getElem?_append_left h] at hj
    rw [Array.getElem?_append_left (by rw [h1.1]; exact h)] at hv
    exact h1.2 j y v hj hv
  · rw [List.getElem?_append_right (by omega)] at hj
    rw [Array.getElem?_append_right (by rw [h1.1]; omega), h1.1] at hv
    exact h2.2 _ y v hj hv
theorem run_callC {f : FuncId} {c : Operand} {args : Array Operand} {ts : Array TypeId} {us : Array Value} (ho : o.op = .call ⟨.value c, args, ts⟩) (hc : callable P f = true) (a : Act) (w : World) (hv : a.eval c = .func (.func f) #[] us) : (execOp a.eval o).run P w = .ok (.enter f (args.map a.eval ++ us)) w := by
  unfold callable at hc
  split at hc
  · next fn hf =>
    simp only [Bool.and_eq_true, Bool.not_eq_true'] at hc
    obtain ⟨h1, h2⟩ := hc
    have h3 : ¬ fn.body = none := by cases hb : fn.body <;> simp_all
    have h4 : ¬ fn.name = "runtime.NumGoroutine" := by simpa using h1
    unfold execOp
    simp only [ho, resolve, hv, Deferred.ofValue, invoke]
    simp [callFunc, hf, h4, h3]
  · cases hc
/-- A function value that has captured is called. -/
theorem awO_k {f : FuncId} {c : Operand} {caps : List AV} {args : List Operand} {ts : Array TypeId} {ys : List AV} {r : AV} {h h' : Hp} {fix : List Nat} {d : Nat} (hg : o.guard = none) (ho : o.op = .call ⟨.value c, args.toArray, ts⟩) (hv : opv st c = some (.fn f caps)) (ha : argsA st args = some ys) (hc : Fn P f (ys ++ caps) h r h' fix) (hsub : subL h st.hp)
    (hr : okR (keysH h') r = true) (hcs : h'.all (fun p => p.2.all (okR (keysH h'))) = true) (hfx : st.fx.all (fun k => !(keysH h').contains k || fix.contains k) = true) (hd : o.dst = some d) (hdn : d < st.nt) (hrest : awO P ops rest (st.after d r h h' fix) Q) : awO P ops (o :: rest) st Q := fun E a w ⟨ρ, hS⟩ =>
  wpList_plain hg fun K hK => by
    obtain ⟨us, e, hu⟩ := (opv_sound hS hv).fn_inv
    exact callM_run hS (run_callC ho hc.1 a w e) ((argsA_rep hS ha).app hu) hc hsub hr hcs hfx hd hdn fun a' w' hs => hK _ _ (hrest E a' w' hs)
/-- A nil slice is an own object of no cells. -/
theorem S_virt {E : Env} {a : Act} {w : World} {fr : List (Nat × AV)} {hp : Hp} {nt : Nat} {fx : List Nat} (t k sz : Nat) (ht : look fr t = some (.v (.slice none 0 0))) (hz : 0 < sz) (hk : k ∉ fx) (hS : S E ⟨fr, hp, nt, fx⟩ a w) :
    S E ⟨(t, .os k 0 sz 0) :: turn (killX k) fr, hset k [] (turn (List.map (killC k)) hp), nt, fx⟩ a w := by
  obtain ⟨ρ, hS⟩ := hS
  have h1 := hS.fresh (w' := w) k hk ⟨0, 0, 0⟩ [] rfl rfl rfl (Nat.le_refl _) (fun _ _ _ => rfl) (fun h => absurd h (by simp)) (by simp) (fun h => absurd h (by simp)) (fun j x hj => by simp at hj) (fun x hx => by cases hx)
  refine ⟨_, fun t' x hx => ?_, h1.hr, h1.own, h1.keep, h1.bad, h1.nb, h1.size, h1.defers, h1.fx⟩
  rw [look_cons] at hx
  split at hx
  · next e =>
    subst e
    injection hx with hx
    subst hx
    rw [Rep.v_eq (hS.fr t _ ht)]
    exact .os hz (Nat.le_refl _) (by omega) (fun h => absurd h (by omega))
  · exact h1.fr t' x hx
theorem aw_virt {c : Code} {fr : List (Nat × AV)} {hp : Hp} {nt : Nat} {fx : List Nat} (t k sz : Nat) (ht : look fr t = some (.v (.slice none 0 0))) (hz : 0 < sz) (hk : k ∉ fx) (h : aw P c ⟨(t, .os k 0 sz 0) :: turn (killX k) fr, hset k [] (turn (List.map (killC k)) hp), nt, fx⟩ Q) : aw P c ⟨fr, hp, nt, fx⟩ Q :=
  aw_weak (fun E a w hS => S_virt t k sz ht hz hk hS) h
end
end Go.Proofs.Ytcplbbbjmalfjaa
