/- Contracts with a literal handed in; the end of a call that was walked on the world itself. No program is named here. -/
import Derived.Test.YtapmolfpkhfpgaaIsA
namespace Go.Proofs.Ytapmolfpkhfpgaa
open Go.RowKit
set_option linter.unusedVariables false
set_option linter.unusedSimpArgs false
/-- A contract that asks besides: the object d lies at the head of a block that bears no mark. -/
def FnX (P : Program) (f : FuncId) (d : Nat) (args : List AV) (h : Hp) (r : AV) (h' : Hp) : Prop :=
  callable P f = true ∧ ∀ (w : World) (bad : Nat → Prop) (ρ : Nat → Loc) (vs : Array Value), ((∀ b, bad b → b < w.heap.size) ∧ Glob w ∧ ∀ b, ownB ρ h b → ¬ gblk b) → (∀ b, ownB ρ h b → ¬ bad b) → ((ρ d).off = 0 ∧ ∀ j, w.frozen? ⟨(ρ d).g, j, none⟩ = false) → HR bad ρ h w → RepC w (avd bad ρ h) ρ args vs →
    Calls P f vs w fun e w' => ∃ v ρ', e = .returned v ∧ Rep w' (avd bad ρ' h') ρ' r v ∧ HR bad ρ' h' w' ∧ Keeps w w' (ownB ρ h) ∧ (∀ b, ownB ρ' h' b → (ownB ρ h b ∨ w.heap.size ≤ b) ∧ ¬ bad b)
theorem Fn.toX {P : Program} {f : FuncId} {d : Nat} {args : List AV} {h h' : Hp} {r : AV} {fix : List Nat} (hf : Fn P f args h r h' fix) : FnX P f d args h r h' :=
  ⟨hf.1, fun w bad ρ vs h1 h2 _ h3 h4 => (hf.2 w bad ρ vs h1 h2 h3 h4).mono fun e w' ⟨v, ρ', e1, e2, e3, e4, e5, _⟩ => ⟨v, ρ', e1, e2, e3, e4, e5⟩⟩
theorem HR.sub {bad : Nat → Prop} {ρ : Nat → Loc} {hp hp' : Hp} {w : World} (h : HR bad ρ hp w) (hs : ∀ k cs, look hp' k = some cs → look hp k = some cs) : HR bad ρ hp' w := by
  have hav : ∀ b, avd bad ρ hp' b → avd bad ρ hp b := fun b hb => hb.imp id fun ⟨k, cs, h1, h2⟩ => ⟨k, cs, hs k cs h1, h2⟩
  exact ⟨fun k cs hk => (h.obj k cs (hs k cs hk)).tr (Nat.le_refl _) (fun _ => rfl) (fun _ _ _ _ => rfl) (fun b _ hb => hav b hb) (fun _ hk => absurd rfl hk), fun k k' cs cs' h1 h2 => h.dis k k' cs cs' (hs _ _ h1) (hs _ _ h2)⟩
theorem done_fresh {w w' : World} {bad : Nat → Prop} {ρ : Nat → Loc} {h : Hp} {k : Nat} {L : Loc} {cs : List AV} {v : Value} {r : AV} (hbad : (∀ b, bad b → b < w.heap.size) ∧ Glob w ∧ ∀ b, ownB ρ h b → ¬ gblk b) (hnb : ∀ b, ownB ρ h b → ¬ bad b) (hHR : HR bad ρ h w)
    (hos : w'.os = w.os) (ht : w'.tape = w.tape) (ho : w'.output = w.output) (hs : w.heap.size ≤ w'.heap.size) (hblk : ∀ b, b < w.heap.size → ¬ blockOf ρ h k b → w'.heap[b]? = w.heap[b]?) (hL : 0 < L.cap → blockOf ρ h k L.g ∨ w.heap.size ≤ L.g)
    (hlen : cs.length ≤ L.cap) (hmem : 0 < L.cap → L.g < w'.heap.size ∧ w'.there L.g L.off L.cap) (hcells : ∀ (j : Nat) (x : AV), cs[j]? = some x → ∃ v, w'.cell? ⟨L.g, L.off + j, none⟩ = some v ∧ Rep w (avd bad ρ h) ρ x v) (hm : ∀ x ∈ cs, mentM k x = false)
    (hr : Rep w' (avd bad (rset ρ k L) [(k, cs)]) (rset ρ k L) r v) :
    ∃ v' ρ', Ending.returned v = .returned v' ∧ Rep w' (avd bad ρ' [(k, cs)]) ρ' r v' ∧ HR bad ρ' [(k, cs)] w' ∧ Keeps w w' (ownB ρ h) ∧ (∀ b, ownB ρ' [(k, cs)] b → (ownB ρ h b ∨ w.heap.size ≤ b) ∧ ¬ bad b) := by
  have h0 : SR ⟨w, bad, ownB ρ h, ρ⟩ ρ ⟨[], h, 0, []⟩ ⟨#[], []⟩ w := ⟨fun t x hx => by simp [look] at hx, hHR, fun b hb => .inl hb, Keeps.refl _ _, hbad, hnb, rfl, rfl, fun _ h => by cases h⟩
  have h1 := h0.fresh (w' := w') k (by simp) L cs hos ht ho hs hblk hL hlen hmem hcells hm
  have hsub : ∀ j c, look [(k, cs)] j = some c → look (St.fresh ⟨[], h, 0, []⟩ k cs).hp j = some c := fun j c hj => by
    rw [look_fresh]
    rw [look_cons] at hj
    split at hj
    · next e => rw [if_pos (by first | exact e | exact e.symm)]; exact hj
    · simp [look] at hj
  have hown : ∀ b, ownB (rset ρ k L) [(k, cs)] b → ownB (rset ρ k L) (St.fresh ⟨[], h, 0, []⟩ k cs).hp b := fun b ⟨j, c, q1, q2⟩ => ⟨j, c, hsub j c q1, q2⟩
  exact ⟨v, rset ρ k L, rfl, hr, h1.hr.sub hsub, h1.keep, fun b hb => ⟨h1.own b (hown b hb), h1.nb b (hown b hb)⟩⟩
theorem setCells_frame (b : Nat) : ∀ (vs : List Value) (o : Nat) (w : World), (w.setCells b o vs).os = w.os ∧ (w.setCells b o vs).tape = w.tape ∧ (w.setCells b o vs).output = w.output ∧ (w.setCells b o vs).heap.size = w.heap.size ∧ ∀ b', b' ≠ b → (w.setCells b o vs).heap[b']? = w.heap[b']?
  | [], o, w => ⟨rfl, rfl, rfl, rfl, fun _ _ => rfl⟩
  | v :: r, o, w => by
    obtain ⟨h1, h2, h3, h4, h5⟩ := setCells_frame b r (o + 1) (w.setCell ⟨b, o, none⟩ v)
    rw [World.setCells]
    refine ⟨h1.trans rfl, h2.trans rfl, h3.trans rfl, h4.trans (by simp [World.setCell]), fun b' hb => (h5 b' hb).trans (Below.heap_setCell w ⟨b, o, none⟩ v b' hb)⟩
section
variable {P : Program} {E : Env} {ρ : Nat → Loc} {st st' : St} {a : Act} {w w' : World} {o : Oper}
theorem evLit_run (h : SR E ρ st a w) {o : Oper} {d : Nat} {t : TypeId} {len : Nat} {parts : Array (Nat × Operand)} (hd : o.dst = some d) (ho : o.op = .buildSlice t len parts)
    (hq : evLit P st d t len (parts.toList.map fun p => (p.1, opv st p.2)) = some st') : ∃ us' t', (execOp a.eval o).run P w = .ok (.value (.slice (some ⟨w.heap.size, 0, none⟩) len len)) (w.alloc (.cells us' t')) := by
  simp only [evLit, Option.bind_eq_some_iff] at hq
  obtain ⟨e, he, hq⟩ := hq
  split at hq
  · next hlim =>
    rw [Option.bind_eq_some_iff] at hq
    obtain ⟨cs, hf, hq⟩ := hq
    obtain ⟨hu, hs, hpos, ⟨⟨i, z, _, hi, hz, his, hib, hzs⟩, _⟩⟩ := elT_run he
    have h0 : RepC w (avd E.bad ρ st.hp) ρ (List.replicate (len * e.2.1) .un) ((Array.range (len * e.2.1)).map (z.cells[· % z.cells.size]!)) := ⟨by simp, fun j b x hj hx => by
      rw [List.getElem?_replicate] at hj
      split at hj
      · injection hj with hj; subst hj; exact .im (.un _)
      · cases hj⟩
    obtain ⟨us', hf', hr⟩ := aFill_sound (w := w) (av := avd E.bad ρ st.hp) (ρ := ρ) (litPl e.2.1 0 len) (fun i => some (i * e.2.1, e.2.1)) (fun i p hp => by rw [litPl_get _ _ _ _ _ hp, Nat.zero_add]) _ (parts.toList.map fun p => (p.1, a.eval p.2)) _ cs _ hf h0 (by simp) (fun j p q hp hq => by
      simp at hp hq
      obtain ⟨i1, o1, h1, rfl⟩ := hp
      obtain ⟨i2, o2, h2, rfl⟩ := hq
      rw [h1] at h2
      injection h2 with h2
      injection h2 with e1 e2
      subst e1; subst e2
      exact ⟨rfl, fun x hx => opv_sound h hx⟩)
    refine ⟨us', e.1, ?_⟩
    · have hz2 : (zeroValue e.1).run P w = .ok z w := by simp [zeroValue, typeInfo, hi, hz]
      have hl : ¬ len * e.2.1 > 2 ^ 24 := by omega
      by_cases hlen : len * e.2.1 = 0
      · have hus : Instr.fill (fun i => some (i * e.2.1, e.2.1)) #[] (parts.toList.map fun p => (p.1, a.eval p.2)) = some us' := by
          have : (Array.range (len * e.2.1)).map (z.cells[· % z.cells.size]!) = #[] := by rw [hlen, Array.range_zero']; simp
          rw [this] at hf'; exact hf'
        have hl0 : len = 0 := by
          rcases Nat.mul_eq_zero.1 hlen with h | h
          · exact h
          · omega
        subst hl0
        simp [execOp, ho, Instr.buildSlice, run_underlying hu, run_sizeOf' hs, newRow]
        rw [Array.range_zero']
        simp [hus, newRow]
      · simp [execOp, ho, Instr.buildSlice, run_underlying hu, run_sizeOf' hs, newRow, hl, hlen, hz2]
        rw [hf']
        simp [newRow]
  · cases hq
theorem callX_run {f : FuncId} {d0 : Nat} {vs : Array Value} {ys : List AV} {r : AV} {h h' : Hp} {d : Nat} {K : Act → World → Prop} {Q' : Exit → Act → World → Prop} (hS : SR E ρ st a w) (hrun : (execOp a.eval o).run P w = .ok (.enter f vs) w) (hargs : RepC w (avd E.bad ρ st.hp) ρ ys vs) (hc : FnX P f d0 ys h r h') (hX : (ρ d0).off = 0 ∧ ∀ j, w.frozen? ⟨(ρ d0).g, j, none⟩ = false) (hsub : subL h st.hp)
    (hr : okR (keysH h') r = true) (hcs : h'.all (fun p => p.2.all (okR (keysH h'))) = true) (hfx : st.fx.all (fun k => !(keysH h').contains k || ([] : List Nat).contains k) = true) (hd : o.dst = some d) (hdn : d < st.nt)
    (hK : ∀ a' w', S E (st.after d r h h' []) a' w' → K a' w') : o.wp P a w K Q' := by
  unfold Oper.wp
  rw [hrun, Oper.upon_enter]
  have hlh : ∀ k cs, look h k = some cs → look st.hp k = some cs := fun k cs hk => subL_spec hsub _ (look_mem hk)
  have ownh : ∀ b, ownB ρ h b → ownB ρ st.hp b := fun b ⟨k, cs, h1, h2⟩ => ⟨k, cs, hlh k cs h1, h2⟩
  have hav : ∀ b, avd (fun b => avd E.bad ρ st.hp b ∧ ¬ ownB ρ h b) ρ h b → avd E.bad ρ st.hp b := fun b hb => hb.elim (fun h1 => h1.1) (fun h1 => .inr (ownh b h1))
  refine (hc.2 w (fun b => avd E.bad ρ st.hp b ∧ ¬ ownB ρ h b) ρ _ ⟨fun b hb => ?_, hS.glob, fun b hb => hS.ngb (ownh b hb)⟩ (fun b hb hb' => hb'.2 hb) hX ⟨fun k cs hk => ?_, fun k k' cs cs' h1 h2 => hS.hr.dis k k' cs cs' (hlh _ _ h1) (hlh _ _ h2)⟩ ⟨hargs.1, fun j y v hj hv => ?_⟩).mono ?_
  · rcases hb.1 with hb | ⟨k, cs, h1, h2, rfl⟩
    · exact Nat.lt_of_lt_of_le (hS.bad.1 b hb) hS.keep.size
    · exact ((hS.hr.obj k cs h1).mem h2).1
  · exact (hS.hr.obj k cs (hlh k cs hk)).tr (Nat.le_refl _) (fun _ => rfl) (fun _ _ _ _ => rfl) (fun b _ hb => hav b hb) (fun _ hk => absurd rfl hk)
  · exact (hargs.2 j y v hj hv).tr (Nat.le_refl _) (fun _ _ _ _ => rfl) (fun b _ hb => hav b hb) (fun _ hk => absurd rfl hk)
  · rintro e w' ⟨v, ρ', rfl, hrep, hhr, hkeep, hown⟩
    have := hS.after hdn hsub hrep hhr hkeep hown (fix := []) (fun _ h => by cases h) hr hcs hfx
    refine hK _ _ ⟨fun k => if k ∈ keysH h' then ρ' k else ρ k, ?_⟩
    rw [hd]
    exact this
end
/-- A literal is built and handed to a call at once. -/
theorem awO_litX {P : Program} {st st1 : St} {Q : Exit → St → Prop} {ops : Array Oper} {rest : List Oper} {o1 o2 : Oper} {d d2 n : Nat} {t : TypeId} {parts : Array (Nat × Operand)} {f : FuncId} {args : List Operand} {ts : Array TypeId} {ys : List AV} {r : AV} {h h' : Hp} {sz : Nat} (hg1 : o1.guard = none) (hd1 : o1.dst = some d) (hdl : d < st.nt) (ho1 : o1.op = .buildSlice t (n + 1) parts) (he : ev P st o1 = some st1) (hlk : look st1.fr d = some (.os d 0 sz (n + 1)))
    (hg : o2.guard = none) (ho : o2.op = .call ⟨.value (.func f), args.toArray, ts⟩) (ha : argsA st1 args = some ys) (hc : FnX P f d ys h r h') (hsub : subL h st1.hp) (hr : okR (keysH h') r = true) (hcs : h'.all (fun p => p.2.all (okR (keysH h'))) = true) (hfx : st1.fx.all (fun k => !(keysH h').contains k || ([] : List Nat).contains k) = true)
    (hd : o2.dst = some d2) (hdn : d2 < st1.nt) (hrest : awO P ops rest (st1.after d2 r h h' []) Q) : awO P ops (o1 :: o2 :: rest) st Q := fun E a w ⟨ρ, hS⟩ => by
  refine wpList_plain hg1 fun K hK => ?_
  have hst := ev_sound hS he
  have he2 : evLit P st d t (n + 1) (parts.toList.map fun p => (p.1, opv st p.2)) = some st1 := by
    obtain ⟨dst, op, ty, ps, af, g⟩ := o1
    simp only at hg1 hd1 ho1
    subst hg1; subst hd1; subst ho1
    exact he
  obtain ⟨us, t', hrun⟩ := evLit_run hS hd1 ho1 he2
  obtain ⟨w1, v, hr1, ⟨ρ1, hS1⟩, -⟩ := hst
  rw [hrun] at hr1
  rcases hr1 with hr1 | ⟨hr1, _⟩
  · injection hr1 with e1 e2
    injection e1 with e1
    subst e1; subst e2
    unfold Oper.wp
    rw [hrun]
    refine hK _ _ (wpList_plain hg fun K2 hK2 => ?_)
    have hX : (ρ1 d).off = 0 ∧ ∀ j, (w.alloc (.cells us t')).frozen? ⟨(ρ1 d).g, j, none⟩ = false := by
      obtain ⟨A, c, ev, q0, q1, q2, qm⟩ := (hS1.fr d _ hlk).os_inv
      have hv : (a.put o1.dst (.slice (some ⟨w.heap.size, 0, none⟩) (n + 1) (n + 1))).tmps.getD d undef = .slice (some ⟨w.heap.size, 0, none⟩) (n + 1) (n + 1) := by
        have hsz : d < a.tmps.size := by rw [hS.size]; exact hdl
        rw [hd1]
        simp [Act.put, hsz]
      rw [hv] at ev
      injection ev with ev1 ev2 ev3
      subst ev3
      have := (qm (by omega)).1
      rw [← ev1] at this
      injection this with this
      injection this with g1 g2
      refine ⟨by omega, fun j => ?_⟩
      rw [← g1]
      exact frozen_alloc_new w us t' j
    exact callX_run hS1 (run_call ho hc.1 _ _) (argsA_rep hS1 ha) hc hX hsub hr hcs hfx hd hdn fun a' w' hs => hK2 _ _ (hrest E a' w' hs)
  · cases hr1
end Go.Proofs.Ytapmolfpkhfpgaa
