/- The abstract machine: calls that end in a panic. No program is named here. -/
import Derived.Test.YtogmppcfopgkdaaGreatDoorMgD
import Derived.Recover
import Derived.RangeFuncNested
import Derived.RangeFuncCalls
import Derived.RangeFuncLeaves
import Derived.RangeFuncRecord
namespace Go.Proofs.YtogmppcfopgkdaaGreatDoor
open Go.RowKit
set_option linter.unusedVariables false
set_option linter.unusedSimpArgs false

abbrev pnc (x : Value) : List PanicEntry := [{ v := x, recovered := false }]
/-- The function f, called with args where the own objects are h, ends in a panic with x; of the own objects nothing is known behind it; all else is as it was. -/
def Pan (P : Program) (f : FuncId) (args : List AV) (h : Hp) (x : Value) : Prop :=
  callable P f = true ∧ ∀ (w : World) (bad : Nat → Prop) (ρ : Nat → Loc) (vs : Array Value), ((∀ b, bad b → b < w.heap.size) ∧ Glob w ∧ ∀ b, ownB ρ h b → ¬ gblk b) → (∀ b, ownB ρ h b → ¬ bad b) → HR bad ρ h w → RepC w (avd bad ρ h) ρ args vs →
    Calls P f vs w fun e w' => e = .panicked (pnc x) ∧ Keeps w w' (ownB ρ h)
section
variable {P : Program} {E : Env} {ρ : Nat → Loc} {st : St} {a : Act} {w w' : World} {o : Oper} {Q : Exit → St → Prop} {ops : Array Oper} {rest : List Oper}
/-- The frame without the temporary d. -/
theorem SR.unput {fr : List (Nat × AV)} {hp : Hp} {nt : Nat} {fx : List Nat} {d : Nat} {v : Value} (h : SR E ρ ⟨fr, hp, nt, fx⟩ (a.put (some d) v) w) : SR E ρ ⟨cut d fr, hp, nt, fx⟩ a w := by
  refine ⟨fun t x hx => ?_, h.hr, h.own, h.keep, h.bad, h.nb, by simpa [Act.put] using h.size, h.defers, h.fx⟩
  rw [look_cut] at hx
  split at hx
  · cases hx
  next h1 =>
  have := h.fr t x hx
  simp only [Act.put] at this
  rwa [Array.getD_eq_getD_getElem?, Array.getElem?_setIfInBounds_ne (fun e => h1 e.symm), ← Array.getD_eq_getD_getElem?] at this
/-- Behind a panic of a callee that had the own objects h. -/
def St.gone (st : St) (d : Nat) (h : Hp) : St := ⟨cut d (st.after d .un h [] []).fr, (st.after d .un h [] []).hp, st.nt, st.fx⟩
theorem callP_run {f : FuncId} {vs : Array Value} {ys : List AV} {h : Hp} {d : Nat} {x : Value} {K : Act → World → Prop} {Q' : Exit → Act → World → Prop} (hS : SR E ρ st a w) (hrun : (execOp a.eval o).run P w = .ok (.enter f vs) w) (hargs : RepC w (avd E.bad ρ st.hp) ρ ys vs) (hc : Pan P f ys h x) (hsub : subL h st.hp) (hdn : d < st.nt)
    (hQ : ∀ w', S E (st.gone d h) a w' → Q' (.panic (pnc x)) a w') : o.wp P a w K Q' := by
  unfold Oper.wp
  rw [hrun, Oper.upon_enter]
  have hlh : ∀ k cs, look h k = some cs → look st.hp k = some cs := fun k cs hk => subL_spec hsub _ (look_mem hk)
  have ownh : ∀ b, ownB ρ h b → ownB ρ st.hp b := fun b ⟨k, cs, h1, h2⟩ => ⟨k, cs, hlh k cs h1, h2⟩
  have hav : ∀ b, avd (fun b => avd E.bad ρ st.hp b ∧ ¬ ownB ρ h b) ρ h b → avd E.bad ρ st.hp b := fun b hb => hb.elim (fun h1 => h1.1) (fun h1 => .inr (ownh b h1))
  refine (hc.2 w (fun b => avd E.bad ρ st.hp b ∧ ¬ ownB ρ h b) ρ _ ⟨fun b hb => ?_, hS.glob, fun b hb => hS.ngb (ownh b hb)⟩ (fun b hb hb' => hb'.2 hb) ⟨fun k cs hk => ?_, fun k k' cs cs' h1 h2 => hS.hr.dis k k' cs cs' (hlh _ _ h1) (hlh _ _ h2)⟩ ⟨hargs.1, fun j y v hj hv => ?_⟩).mono ?_
  · rcases hb.1 with hb | ⟨k, cs, h1, h2, rfl⟩
    · exact Nat.lt_of_lt_of_le (hS.bad.1 b hb) hS.keep.size
    · exact ((hS.hr.obj k cs h1).mem h2).1
  · exact (hS.hr.obj k cs (hlh k cs hk)).tr (Nat.le_refl _) (fun _ => rfl) (fun _ _ _ _ => rfl) (fun b _ hb => hav b hb) (fun _ hk => absurd rfl hk)
  · exact (hargs.2 j y v hj hv).tr (Nat.le_refl _) (fun _ _ _ _ => rfl) (fun b _ hb => hav b hb) (fun _ hk => absurd rfl hk)
  · rintro e w' ⟨rfl, hkeep⟩
    have := hS.after (v := undef) (r := .un) (h' := []) (fix := []) (ρ' := ρ) hdn hsub (.im (.un _)) HR.nil hkeep (fun b hb => by obtain ⟨k, cs, hk, _⟩ := hb; cases hk) (fun k hk => by cases hk) rfl rfl (by simp [keysH])
    refine hQ w' ⟨fun k => if k ∈ keysH ([] : Hp) then ρ k else ρ k, ?_⟩
    exact SR.unput (fr := (st.after d .un h [] []).fr) (hp := (st.after d .un h [] []).hp) (v := undef) this
theorem awO_pan {f : FuncId} {args : List Operand} {ts : Array TypeId} {ys : List AV} {h : Hp} {d : Nat} {x : Value} (hg : o.guard = none) (ho : o.op = .call ⟨.value (.func f), args.toArray, ts⟩) (ha : argsA st args = some ys) (hc : Pan P f ys h x) (hsub : subL h st.hp)
    (hd : o.dst = some d) (hdn : d < st.nt) (hq : Q (.panic (pnc x)) (st.gone d h)) : awO P ops (o :: rest) st Q := fun E a w ⟨ρ, hS⟩ =>
  wpList_plain hg fun K hK => callP_run hS (run_call ho hc.1 a w) (argsA_rep hS ha) hc hsub hdn fun w' hs => ⟨_, hs, hq⟩
/-- The statement panic. -/
theorem awO_panic {x : Operand} {v : Value} (hg : o.guard = none) (ho : o.op = .panic x) (hx : opv st x = some (.v v)) (hi : ∃ t y, v = .iface t y) (hq : Q (.panic (pnc v)) st) : awO P ops (o :: rest) st Q := fun E a w ⟨ρ, hS⟩ =>
  wpList_plain hg fun K hK => by
    have hev : a.eval x = v := Rep.v_eq (opv_sound hS hx)
    obtain ⟨t, y, rfl⟩ := hi
    unfold Oper.wp
    have hrun : (execOp a.eval o).run P w = .halt (.panic (.iface t y)) w := by
      have hp : Sem.run P (Instr.panic (.iface t y)) w = .halt (.panic (.iface t y)) w := rfl
      simp [execOp, ho, hev, hp, Result.andThen]
    rw [hrun, Oper.upon_panic]
    exact ⟨st, ⟨ρ, hS⟩, hq⟩
end
/-- What is asked of a body that ends in a panic. -/
def panQ (x : Value) : Exit → St → Prop := fun e _ => e = .panic (pnc x)
theorem Pan_of_aw {P : Program} {f : FuncId} {fn : Func} {c : Code} {args : List AV} {h : Hp} {x : Value} (hf : P.funcs[f]? = some fn) (hb : fn.body = some c) (hn : (fn.name == "runtime.NumGoroutine") = false) (hsz : args.length ≤ fn.ntmps)
    (haw : aw P c ⟨num 0 args, h, fn.ntmps, []⟩ (panQ x)) : Pan P f args h x := by
  refine ⟨by simp [callable, hf, hn, hb], fun w bad ρ vs hbad hnb hHR hargs => ?_⟩
  refine calls_of_wp hf hb ?_
  have hS : S ⟨w, bad, ownB ρ h, ρ, []⟩ ⟨num 0 args, h, fn.ntmps, []⟩ { tmps := vs ++ Array.replicate (fn.ntmps - vs.size) undef, defers := [] } w := S_start hHR hbad hnb hargs hsz
  refine wp_mono (haw _ _ w hS) fun e a' w' hq => ?_
  obtain ⟨st, ⟨ρ', hs⟩, rfl⟩ := hq
  exact ⟨hs.defers, rfl, hs.keep⟩
/-! ### Interfaces -/
def notIf (P : Program) (t : TypeId) : Bool := match P.underlying t with
  | some (.interface _) => false
  | some _ => true
  | none => false
section
variable {P : Program} {Q : Exit → St → Prop} {ops : Array Oper} {rest : List Oper} {o : Oper}
theorem awO_mki {fr : List (Nat × AV)} {hp : Hp} {nt : Nat} {fx : List Nat} {d : Nat} {t : TypeId} {x : Operand} {y : AV} {v : Value} (hg : o.guard = none) (ho : o.op = .makeInterface t x) (ht : notIf P t = true) (hx : opv ⟨fr, hp, nt, fx⟩ x = some y) (hv : val y = some v)
    (hd : o.dst = some d) (hdn : d < nt) (h : awO P ops rest ⟨(d, .v (.iface t v)) :: fr, hp, nt, fx⟩ Q) : awO P ops (o :: rest) ⟨fr, hp, nt, fx⟩ Q := fun E a w ⟨ρ, hS⟩ =>
  wpList_plain hg fun K hK => by
    have hev : a.eval x = v := val_eq (opv_sound hS hx) hv
    have hrun : (execOp a.eval o).run P w = .ok (.value (.iface t v)) w := by
      unfold notIf at ht
      have hm : (Instr.makeInterface t v).run P w = .ok (.iface t v) w := by
        unfold Instr.makeInterface
        cases hu : P.underlying t with
        | none => rw [hu] at ht; cases ht
        | some ds =>
          rw [hu] at ht
          cases ds <;> first
            | (exfalso; cases ht; done)
            | (simp [underlying, typeInfo, hu])
      simp [execOp, ho, hev, hm, Result.andThen]
    unfold Oper.wp
    rw [hrun, Oper.upon_value, hd]
    exact hK _ _ (h E _ w ⟨ρ, hS.put (some d) (fun t e => by injection e with e; subst e; exact hdn) (.im (.v _))⟩)
theorem awO_tas {fr : List (Nat × AV)} {hp : Hp} {nt : Nat} {fx : List Nat} {d : Nat} {t0 t : TypeId} {x : Operand} {v : Value} (hg : o.guard = none) (ho : o.op = .typeAssert x t0 t true) (ht : notIf P t = true) (hx : opv ⟨fr, hp, nt, fx⟩ x = some (.v (.iface t v)))
    (hd : o.dst = some d) (hdn : d < nt) (h : awO P ops rest ⟨(d, .tp [cst v, .v (.bool true)]) :: fr, hp, nt, fx⟩ Q) : awO P ops (o :: rest) ⟨fr, hp, nt, fx⟩ Q := fun E a w ⟨ρ, hS⟩ =>
  wpList_plain hg fun K hK => by
    have hev : a.eval x = .iface t v := Rep.v_eq (opv_sound hS hx)
    have hrun : (execOp a.eval o).run P w = .ok (.value (.tuple #[v, .bool true])) w := by
      unfold notIf at ht
      have hm : (Instr.typeAssert (.iface t v) t0 t true).run P w = .ok (.tuple #[v, .bool true]) w := by
        unfold Instr.typeAssert
        cases hu : P.underlying t with
        | none => rw [hu] at ht; cases ht
        | some ds =>
          rw [hu] at ht
          cases ds <;> first
            | (exfalso; cases ht; done)
            | (simp [underlying, typeInfo, hu])
      simp [execOp, ho, hev, hm, Result.andThen]
    unfold Oper.wp
    rw [hrun, Oper.upon_value, hd]
    refine hK _ _ (h E _ w ⟨ρ, hS.put (some d) (fun t e => by injection e with e; subst e; exact hdn) (.tp rfl fun j y u hj hu => ?_)⟩)
    match j, hj, hu with
    | 0, hj, hu => simp at hj hu; subst hj; subst hu; exact cst_rep v
    | 1, hj, hu => simp at hj hu; subst hj; subst hu; exact .im (.v _)
end
theorem awO_pb4 {P : Program} {Q : Exit → St → Prop} {ops : Array Oper} {rest : List Oper} {o : Oper} {fr : List (Nat × AV)} {hp : Hp} {nt : Nat} {fx : List Nat} {T : TypeId} {t k i1 i2 i3 j : Nat} {u1 u2 u3 : Operand} {off sz n : Nat} {cs : List AV} (ho : o.op = .build T [(i1, u1), (i2, u2), (i3, u3), (j, .tmp t)].toArray) (ht : look fr t = some (.os k off sz n)) (hk : look hp k = some cs) (hl : off + n * sz ≤ cs.length) (hd : ((cs.drop off).take (n * sz)).all dataC = true) (h : awO P ops (o :: rest) ⟨(t, .rd n ((cs.drop off).take (n * sz))) :: fr, cut k hp, nt, fx⟩ Q) : awO P ops (o :: rest) ⟨fr, hp, nt, fx⟩ Q := awO_pub t k ht hk hl hd h
theorem thenQ_panic (K : St → Prop) (Q : Exit → St → Prop) (c : List PanicEntry) (st : St) : thenQ K Q (.panic c) st = Q (.panic c) st := rfl
theorem blkQ_panic (id : Nat) (Q : Exit → St → Prop) (c : List PanicEntry) (st : St) : blkQ id Q (.panic c) st = Q (.panic c) st := rfl
set_option linter.defProp false in
def CTP := And.intro @thenQ_panic <| And.intro @blkQ_panic <| trivial
end Go.Proofs.YtogmppcfopgkdaaGreatDoor
/- The abstract machine: functions that defer a call which recovers. No program is named here. -/
namespace Go.Proofs.YtogmppcfopgkdaaGreatDoor
open Go.RowKit
set_option linter.unusedVariables false
set_option linter.unusedSimpArgs false

/-- The deferred function g, called where its caller's mode is u: it returns, the caller's mode is u' then. -/
def FnD (P : Program) (g : FuncId) (args : List AV) (h : Hp) (u : FrameMode) (h' : Hp) (fix : List Nat) (u' : FrameMode) : Prop :=
  callable P g = true ∧ ∀ (w : World) (bad : Nat → Prop) (ρ : Nat → Loc) (vs : Array Value), ((∀ b, bad b → b < w.heap.size) ∧ Glob w ∧ ∀ b, ownB ρ h b → ¬ gblk b) → (∀ b, ownB ρ h b → ¬ bad b) → HR bad ρ h w → RepC w (avd bad ρ h) ρ args vs →
    CallsD P g vs u w fun e u2 w' => (∃ v, e = .returned v) ∧ u2 = u' ∧ ∃ ρ', HR bad ρ' h' w' ∧ Keeps w w' (ownB ρ h) ∧ (∀ b, ownB ρ' h' b → (ownB ρ h b ∨ w.heap.size ≤ b) ∧ ¬ bad b) ∧ ∀ k ∈ fix, ρ' k = ρ k
theorem recD_pan (x : Value) (c : Frame) (cs : List Frame) (h : c.mode = .panicking (pnc x)) : recoverD (c :: cs) = some (x, { c with mode := .panicking [{ v := x, recovered := true }] } :: cs) := by
  simp [recoverD, h]
theorem recD_ret (c : Frame) (cs : List Frame) (h : c.mode = .returning) : recoverD (c :: cs) = none := by
  simp [recoverD, h]
theorem FnD_of_aw {P : Program} {g : FuncId} {fn : Func} {rest : Code} {args : List AV} {h h' : Hp} {u u' : FrameMode} {x : Value} {fix : List Nat} {i0 d1 d2 : Nat} {oR oA : Oper} {ts : Array TypeId} (hf : P.funcs[g]? = some fn) (hb : fn.body = some (.seq (.region i0 [oR, oA].toArray false) rest)) (hn : (fn.name == "runtime.NumGoroutine") = false) (hres : fn.results.toList = [])
    (hsz : args.length ≤ d1) (h12 : d1 < fn.ntmps) (h22 : d2 < fn.ntmps) (hR : oR.op = .call ⟨.builtin .recover, #[], ts⟩ ∧ oR.guard = none ∧ oR.dst = some d1) (hA : oA.op = .assign (.tmp d1) ∧ oA.guard = none ∧ oA.dst = some d2)
    (hrec : ∀ c cs, c.mode = u → (recoverD (c :: cs) = some (x, { c with mode := u' } :: cs)) ∨ (recoverD (c :: cs) = none ∧ x = .nilIface ∧ u' = u))
    (haw : aw P rest ⟨(d2, .v x) :: (d1, .v x) :: num 0 args, h, fn.ntmps, fix⟩ (fun e st => (e = .normal ∨ e = .ret) ∧ st.fx = fix ∧ subL h' st.hp)) : FnD P g args h u h' fix u' := by
  refine ⟨by simp [callable, hf, hn, hb], fun w bad ρ vs hbad hnb hHR hargs => ?_⟩
  refine callsD_of_wpS hf hb fun c₀ cs hm => ?_
  obtain ⟨hR1, hR2, hR3⟩ := hR
  obtain ⟨hA1, hA2, hA3⟩ := hA
  have hS0 : S ⟨w, bad, ownB ρ h, ρ, []⟩ ⟨num 0 args, h, fn.ntmps, fix⟩ { tmps := vs ++ Array.replicate (fn.ntmps - vs.size) undef, defers := [] } w := S_start hHR hbad hnb hargs (by omega)
  generalize { tmps := vs ++ Array.replicate (fn.ntmps - vs.size) undef, defers := [] : Act } = a at hS0
  obtain ⟨ρ1, hS0⟩ := hS0
  have hS1 := hS0.put (some d1) (fun t e => by injection e with e; subst e; exact h12) (.im (.v x))
  have hev : (a.put (some d1) x).eval (.tmp d1) = x := Rep.v_eq (hS1.fr d1 (.v x) (by simp [St.put, look_cons]))
  have hS2 := hS1.put (some d2) (fun t e => by injection e with e; subst e; exact h22) (.im (.v x))
  refine wpS_seq (wpS_region ?_)
  have key : ∀ cs', cs' = { c₀ with mode := u' } :: cs → rest.wpS P (bodyPostS P fn c₀ cs (fun e u2 w' => (∃ v, e = .returned v) ∧ u2 = u' ∧ ∃ ρ', HR bad ρ' h' w' ∧ Keeps w w' (ownB ρ h) ∧ (∀ b, ownB ρ' h' b → (ownB ρ h b ∨ w.heap.size ≤ b) ∧ ¬ bad b) ∧ ∀ k ∈ fix, ρ' k = ρ k)) ((a.put (some d1) x).put (some d2) x) cs' w := by
    rintro cs' rfl
    refine wpS_of_wp (wp_mono (haw _ _ w ⟨ρ1, hS2⟩) fun e a' w' hq => ?_)
    obtain ⟨st, ⟨ρ', hs⟩, he, hfx, hsub⟩ := hq
    have hl : ∀ k c, look h' k = some c → look st.hp k = some c := fun k c hk => subL_spec hsub _ (look_mem hk)
    have hown : ∀ b, ownB ρ' h' b → ownB ρ' st.hp b := fun b ⟨k, c, h1, h2⟩ => ⟨k, c, hl k c h1, h2⟩
    obtain ⟨v, hv, _⟩ := results_sound (ys := []) hs (by rw [hres]; rfl)
    have fin : a'.defers = [] ∧ ∃ u2, { c₀ with mode := u' } :: cs = { c₀ with mode := u2 } :: cs ∧ ∃ v, (results fn a'.tmps).run P w' = .ok v w' ∧ ((∃ v', Ending.returned v = .returned v') ∧ u2 = u' ∧ ∃ ρ', HR bad ρ' h' w' ∧ Keeps w w' (ownB ρ h) ∧ (∀ b, ownB ρ' h' b → (ownB ρ h b ∨ w.heap.size ≤ b) ∧ ¬ bad b) ∧ ∀ k ∈ fix, ρ' k = ρ k) := by
      refine ⟨hs.defers, u', rfl, v, hv, ⟨v, rfl⟩, rfl, ρ', ⟨fun k c hk => ?_, fun k k' c c' h1 h2 => hs.hr.dis k k' c c' (hl _ _ h1) (hl _ _ h2)⟩, hs.keep, fun b hb => ⟨hs.own b (hown b hb), hs.nb b (hown b hb)⟩, fun k hk => hs.fx k (by rw [hfx]; exact hk)⟩
      exact (hs.hr.obj k c (hl k c hk)).tr (Nat.le_refl _) (fun _ => rfl) (fun _ _ _ _ => rfl) (fun b _ hb => hb.imp id (hown b)) (fun k hk => absurd rfl hk)
    rcases he with rfl | rfl
    · exact fin
    · exact fin
  have hrun1 : (execOp a.eval oR).run P w = .ok .recover w := by
    simp [execOp, hR1, resolve, invoke, builtin]
  have hrun2 : (execOp (a.put (some d1) x).eval oA).run P w = .ok (.value x) w := by
    simp only [execOp, hA1, hev, Sem.run_pure]
  have hw1 : Region.wanted oR (yielded [oR, oA].toArray a.tmps) = true := by simp [Region.wanted, hR2]
  have hw2 : Region.wanted oA (yielded [oR, oA].toArray (a.put (some d1) x).tmps) = true := by simp [Region.wanted, hA2]
  show wpOpsS P [oR, oA].toArray _ [0, 1] a (c₀ :: cs) w
  rcases hrec c₀ cs hm with hr | ⟨hr, rfl, rfl⟩
  · simp only [wpOpsS, List.getElem?_toArray, List.getElem?_cons_zero, List.getElem?_cons_succ, hw1, hrun1, hr, if_true, hR3, hw2, hrun2, Oper.upon_value, hA3]
    exact key _ rfl
  · simp only [wpOpsS, List.getElem?_toArray, List.getElem?_cons_zero, List.getElem?_cons_succ, hw1, hrun1, hr, if_true, hR3, hw2, hrun2, Oper.upon_value, hA3]
    exact key _ (by rw [← hm])
section
variable {P : Program} {f g : FuncId} {fn : Func} {c0 rest : Code} {i1 m : Nat} {oM oD : Oper} {ts : Array TypeId} {args : List AV} {fr : List (Nat × AV)} {hp : Hp} {caps : List Nat} {r : AV}
theorem Keeps.belowE {w w' : World} {X : Nat → Prop} (h : Keeps w w' X) (hX : ∀ b, ¬ X b) : Below w.heap.size w w' := ⟨h.os, h.tape, h.output, h.size, fun k hk => h.block k hk (hX k)⟩
theorem look_mapk : ∀ (l : List Nat) {k : Nat}, k ∈ l → look (l.map fun k => (k, AV.pt k 0)) k = some (.pt k 0)
  | i :: r, k, h => by
    rw [List.map_cons, look_cons]
    split
    · next e => subst e; rfl
    · next e =>
      rcases List.mem_cons.1 h with h | h
      · exact absurd h.symm e
      · exact look_mapk r h
/-- What stands deferred, and the state, behind the first two steps of a function that defers. -/
theorem dfr_start {R : Ending → World → Prop} (hf : P.funcs[f]? = some fn) (hb : fn.body = some (.seq c0 (.seq (.region i1 [oM, oD].toArray false) rest))) (hsz : args.length ≤ fn.ntmps)
    (h0 : aw P c0 ⟨num 0 args, [], fn.ntmps, []⟩ (fun e st => e = .normal ∧ subL fr st.fr ∧ subL hp st.hp ∧ st.nt = fn.ntmps ∧ st.fx = []))
    (hM : oM.op = .makeFunc (.func g) #[] (caps.map Operand.tmp).toArray ∧ oM.guard = none ∧ oM.dst = some m) (hmn : m < fn.ntmps) (hD : oD.op = .defer ⟨.value (.tmp m), #[], ts⟩ ∧ oD.guard = none ∧ oD.dst = none)
    (hfr : look fr m = none) (hcap : ∀ k ∈ caps, look fr k = some (.pt k 0)) {w : World} {bad : Nat → Prop} {ρ : Nat → Loc} {vs : Array Value} (hbad : (∀ b, bad b → b < w.heap.size) ∧ Glob w) (hargs : RepC w (avd bad ρ []) ρ args vs)
    (hK : ∀ (E : Env) (ρ1 : Nat → Loc) (a : Act) (w1 : World), E.w0 = w → E.bad = bad → (∀ b, ¬ E.X b) → E.ρ0 = ρ1 → E.ds = [{ target := .fn (.func g) (caps.map fun k => Value.pointer (some ⟨(ρ1 k).g, (ρ1 k).off, none⟩)).toArray, args := #[] }] → SR E ρ1 ⟨fr, hp, fn.ntmps, caps⟩ a w1 → rest.wp P (bodyPostD P fn R) a w1) : Calls P f vs w R := by
  refine calls_of_wp_defers hf hb ?_
  have hS := S_start (nt := fn.ntmps) (fix := []) (h := []) HR.nil ⟨hbad.1, hbad.2, fun b hb => by obtain ⟨k, cs, hk, _⟩ := hb; cases hk⟩ (fun b hb => by obtain ⟨k, cs, hk, _⟩ := hb; cases hk) hargs hsz
  refine wp_seq (wp_mono (h0 _ _ w hS) fun e a1 w1 hq => ?_)
  obtain ⟨st, ⟨ρ1, hs⟩, rfl, q1, q2, q3, q4⟩ := hq
  have hs1 : SR ⟨w, bad, ownB ρ [], ρ, []⟩ ρ1 ⟨fr, hp, fn.ntmps, []⟩ a1 w1 := Sub.SR ⟨subL_spec q1, subL_spec q2, q3.symm, q4.symm⟩ hs
  obtain ⟨hM1, hM2, hM3⟩ := hM
  obtain ⟨hD1, hD2, hD3⟩ := hD
  refine wp_seq (wp_region_lit ?_)
  have hcv : ((caps.map Operand.tmp).toArray.map a1.eval) = (caps.map fun k => Value.pointer (some ⟨(ρ1 k).g, (ρ1 k).off, none⟩)).toArray := by
    apply Array.ext'
    simp only [Array.toList_map, List.map_map]
    refine List.map_congr_left fun k hk => ?_
    have := (hs1.fr k _ (hcap k hk)).pt_inv
    exact this
  generalize hvs : (caps.map fun k => Value.pointer (some ⟨(ρ1 k).g, (ρ1 k).off, none⟩)).toArray = cv at hcv hK
  refine wpList_plain hM2 fun K1 hK1 => ?_
  have hrunM : (execOp a1.eval oM).run P w1 = .ok (.value (.func (.func g) #[] cv)) w1 := by
    simp only [execOp, hM1, hcv, Array.map_empty, Instr.makeFunc, Sem.run_bind, Sem.run_pure, Result.andThen_ok]
  unfold Oper.wp
  rw [hrunM, Oper.upon_value, hM3]
  refine hK1 _ _ (wpList_plain hD2 fun K2 hK2 => ?_)
  have hevm : (a1.put (some m) (.func (.func g) #[] cv)).eval (.tmp m) = .func (.func g) #[] cv := by
    show (a1.put (some m) (.func (.func g) #[] cv)).tmps.getD m undef = _
    simp only [Act.put]
    rw [Array.getD_eq_getD_getElem?, Array.getElem?_setIfInBounds_self_of_lt (by rw [hs1.size]; exact hmn)]
    rfl
  have hrunD : (execOp (a1.put (some m) (.func (.func g) #[] cv)).eval oD).run P w1 = .ok (.defer { target := .fn (.func g) cv, args := #[] }) w1 := by
    simp [execOp, hD1, resolve, hevm, Deferred.ofValue]
  unfold Oper.wp
  rw [hrunD, Oper.upon_defer, hD3]
  refine hK2 _ _ (wpList_nil ?_)
  show rest.wp P (bodyPostD P fn R) _ w1
  refine hK ⟨w, bad, ownB ρ [], ρ1, [{ target := .fn (.func g) cv, args := #[] }]⟩ ρ1 _ w1 rfl rfl (fun b hb => by obtain ⟨k, cs, hk, _⟩ := hb; cases hk) rfl (by rw [hvs]) ?_
  refine ⟨fun t x hx => ?_, hs1.hr, hs1.own, hs1.keep, hs1.bad, hs1.nb, by simpa [Act.put] using hs1.size, ?_, fun _ _ => rfl⟩
  · have hne : t ≠ m := fun e => by subst e; rw [hfr] at hx; cases hx
    have := hs1.fr t x hx
    simp only [Act.put]
    rwa [Array.getD_eq_getD_getElem?, Array.getElem?_setIfInBounds_ne (fun e => hne e.symm), ← Array.getD_eq_getD_getElem?]
  · show _ :: (a1.put (some m) _).defers = _
    have := hs1.defers
    simp only [Act.put] at this ⊢
    rw [this]
theorem run_deferred {cv : Array Value} (hc : callable P g = true) (w : World) : (invoke (.fn (.func g) cv) #[]).run P w = .ok (.enter g cv) w := by
  unfold callable at hc
  split at hc
  · next fn hf =>
    simp only [Bool.and_eq_true, Bool.not_eq_true'] at hc
    obtain ⟨h1, h2⟩ := hc
    have h3 : ¬ fn.body = none := by cases hb : fn.body <;> simp_all
    have h4 : ¬ fn.name = "runtime.NumGoroutine" := by simpa using h1
    simp [invoke, callFunc, hf, h4, h3]
  · cases hc
/-- It comes to its end. -/
theorem Ab_dfr (hf : P.funcs[f]? = some fn) (hb : fn.body = some (.seq c0 (.seq (.region i1 [oM, oD].toArray false) rest))) (hn : (fn.name == "runtime.NumGoroutine") = false) (hsz : args.length ≤ fn.ntmps)
    (h0 : aw P c0 ⟨num 0 args, [], fn.ntmps, []⟩ (fun e st => e = .normal ∧ subL fr st.fr ∧ subL hp st.hp ∧ st.nt = fn.ntmps ∧ st.fx = []))
    (hM : oM.op = .makeFunc (.func g) #[] (caps.map Operand.tmp).toArray ∧ oM.guard = none ∧ oM.dst = some m) (hmn : m < fn.ntmps) (hD : oD.op = .defer ⟨.value (.tmp m), #[], ts⟩ ∧ oD.guard = none ∧ oD.dst = none)
    (hfr : look fr m = none) (hcap : ∀ k ∈ caps, look fr k = some (.pt k 0))
    (hG : FnD P g (caps.map fun _ => .un) [] .returning [] [] .returning)
    (hrest : aw P rest ⟨fr, hp, fn.ntmps, caps⟩ (retQ P fn.results.toList r [] [] caps)) : Ab P f args r := by
  refine ⟨by simp [callable, hf, hn, hb], fun w bad ρ vs hbad hnb hHR hargs => ?_⟩
  refine dfr_start hf hb hsz h0 hM hmn hD hfr hcap ⟨hbad.1, hbad.2.1⟩ hargs fun E ρ1 a w1 e1 e2 e3 e4 e5 hs => ?_
  refine wp_mono (hrest E a w1 ⟨ρ1, hs⟩) fun e a2 w2 hq => ?_
  obtain ⟨st, ⟨ρ2, hs2⟩, he, ⟨ys, hres, hro⟩, _, hfx⟩ := hq
  have key : Leaves P fn a2.tmps (fun e w' => ∃ v ρ', e = .returned v ∧ Rep w' (avd bad ρ' []) ρ' r v ∧ HR bad ρ' [] w' ∧ Keeps w w' (ownB ρ []) ∧ (∀ b, ownB ρ' [] b → (ownB ρ [] b ∨ w.heap.size ≤ b) ∧ ¬ bad b) ∧ ∀ k ∈ ([] : List Nat), ρ' k = ρ k) a2.defers .returning w2 := by
    rw [hs2.defers, e5]
    refine leaves_cons (by simp) (run_deferred hG.1 w2) ((hG.2 w2 (fun _ => False) ρ2 _ ⟨fun b hb => hb.elim, hs2.glob, fun b hb => by obtain ⟨k, cs, hk, _⟩ := hb; cases hk⟩ (fun b hb => by obtain ⟨k, cs, hk, _⟩ := hb; cases hk) HR.nil ⟨by simp, fun j y v hj hv => ?_⟩).mono ?_)
    · rw [List.getElem?_map, Option.map_eq_some_iff] at hj
      obtain ⟨_, _, rfl⟩ := hj
      exact .im (.un _)
    · rintro e' u' w3 ⟨⟨v0, rfl⟩, rfl, ρ', _, hk, _⟩
      have hs3 := hs2.below (hk.belowE fun b hb => by obtain ⟨k, cs, hk, _⟩ := hb; cases hk)
      obtain ⟨v, hv, hrep⟩ := results_sound hs3 hres
      refine ⟨v, hv, v, ρ2, rfl, roA_sound hs3.hr.obj (fun b _ hb => ?_) (fun k cs h1 _ h3 h4 => ?_) hrep hro, HR.nil, ?_, fun b hb => ?_, fun k hk => by cases hk⟩
      · rcases hb with hb | ⟨k, cs, hk, _⟩
        · exact .inl (by rw [e2]; exact hb)
        · cases hk
      · rcases h4 with h4 | ⟨k', cs', g1, _⟩
        · exact hs3.nb _ ⟨k, cs, h1, h3, rfl⟩ (by rw [e2]; exact h4)
        · cases g1
      · have := hs3.keep
        rw [e1] at this
        exact this.mono fun b _ hb => absurd hb (e3 b)
      · obtain ⟨k, cs, hk, _⟩ := hb; cases hk
  rcases he with rfl | rfl
  · exact key
  · exact key
/-- It panics, and is recovered. -/
theorem Ab_rec {x : Value} {hpP hpQ : Hp} {ys : List AV} (hf : P.funcs[f]? = some fn) (hb : fn.body = some (.seq c0 (.seq (.region i1 [oM, oD].toArray false) rest))) (hn : (fn.name == "runtime.NumGoroutine") = false) (hsz : args.length ≤ fn.ntmps)
    (h0 : aw P c0 ⟨num 0 args, [], fn.ntmps, []⟩ (fun e st => e = .normal ∧ subL fr st.fr ∧ subL hp st.hp ∧ st.nt = fn.ntmps ∧ st.fx = []))
    (hM : oM.op = .makeFunc (.func g) #[] (caps.map Operand.tmp).toArray ∧ oM.guard = none ∧ oM.dst = some m) (hmn : m < fn.ntmps) (hD : oD.op = .defer ⟨.value (.tmp m), #[], ts⟩ ∧ oD.guard = none ∧ oD.dst = none)
    (hfr : look fr m = none) (hcap : ∀ k ∈ caps, look fr k = some (.pt k 0))
    (hG : FnD P g (caps.map fun k => .pt k 0) hpP (.panicking (pnc x)) hpQ caps (.panicking [{ v := x, recovered := true }]))
    (hrest : aw P rest ⟨fr, hp, fn.ntmps, caps⟩ (fun e st => e = .panic (pnc x) ∧ subL (caps.map fun k => (k, AV.pt k 0)) st.fr ∧ subL hpP st.hp ∧ st.nt = fn.ntmps ∧ st.fx = caps))
    (hks : hpQ.all (fun p => p.2.all (okR (keysH hpQ))) = true) (hkc : ∀ k ∈ keysH hpP ++ keysH hpQ, k ∈ caps) (hsP : subL hpP hpP) (hsQ : subL hpQ hpQ)
    (hres : resL P ⟨caps.map fun k => (k, AV.pt k 0), hpQ, fn.ntmps, caps⟩ fn.results.toList = some ys) (hro : roA hpQ [] (one ys) = some r) : Ab P f args r := by
  refine ⟨by simp [callable, hf, hn, hb], fun w bad ρ vs hbad hnb hHR hargs => ?_⟩
  refine dfr_start hf hb hsz h0 hM hmn hD hfr hcap ⟨hbad.1, hbad.2.1⟩ hargs fun E ρ1 a w1 e1 e2 e3 e4 e5 hs => ?_
  refine wp_mono (hrest E a w1 ⟨ρ1, hs⟩) fun e a2 w2 hq => ?_
  obtain ⟨st, ⟨ρ2, hs2⟩, rfl, q1, q2, q3, q4⟩ := hq
  have hs2 : SR E ρ2 ⟨caps.map fun k => (k, AV.pt k 0), hpP, fn.ntmps, caps⟩ a2 w2 := Sub.SR ⟨subL_spec q1, subL_spec q2, q3.symm, q4.symm⟩ hs2
  show Leaves P fn a2.tmps _ a2.defers (.panicking (pnc x)) w2
  rw [hs2.defers, e5]
  have hav : ∀ b, avd (fun b => avd E.bad ρ2 hpP b ∧ ¬ ownB ρ2 hpP b) ρ2 hpP b → avd E.bad ρ2 hpP b := fun b hb => hb.elim (fun h1 => h1.1) .inr
  refine leaves_cons (by simp) (run_deferred hG.1 w2) ((hG.2 w2 (fun b => avd E.bad ρ2 hpP b ∧ ¬ ownB ρ2 hpP b) ρ2 _ ⟨fun b hb => ?_, hs2.glob, fun b hb => hs2.ngb hb⟩ (fun b hb hb' => hb'.2 hb) ⟨fun k cs hk => ?_, hs2.hr.dis⟩ ⟨by simp, fun j y v hj hv => ?_⟩).mono ?_)
  · rcases hb.1 with hb | ⟨k, cs, h1, h2, rfl⟩
    · exact Nat.lt_of_lt_of_le (hs2.bad.1 b hb) hs2.keep.size
    · exact ((hs2.hr.obj k cs h1).mem h2).1
  · exact (hs2.hr.obj k cs hk).tr (Nat.le_refl _) (fun _ => rfl) (fun _ _ _ _ => rfl) (fun b _ hb => hav b hb) (fun _ hk => absurd rfl hk)
  · rw [List.getElem?_map, Option.map_eq_some_iff] at hj
    obtain ⟨k, hk, rfl⟩ := hj
    rw [List.getElem?_toArray, List.getElem?_map, hk] at hv
    injection hv with hv
    have hρ : ρ2 k = ρ1 k := by rw [hs2.fx k (List.mem_of_getElem? hk), e4]
    rw [← hv]
    simp only
    rw [← hρ]
    exact .pt
  · rintro e' u' w3 ⟨⟨v0, rfl⟩, rfl, ρ', hhr, hkeep, hown, hfix⟩
    have hs3 := (hs2.after (v := undef) (r := .un) (d := m) (fix := caps) hmn (h := hpP) hsP (.im (.un _)) hhr hkeep hown hfix rfl hks (List.all_eq_true.2 fun k hk => by simp only at hk; simp [hk])).unput
    have hset : settle (.panicking [{ v := x, recovered := true }]) = .returning := rfl
    show Leaves P fn a2.tmps _ [] (settle (.panicking [{ v := x, recovered := true }])) w3
    rw [hset]
    have hs4 : SR E (fun k => if k ∈ keysH hpQ then ρ' k else ρ2 k) ⟨caps.map fun k => (k, AV.pt k 0), hpQ, fn.ntmps, caps⟩ a2 w3 := by
      refine Sub.SR ?_ hs3
      refine ⟨fun p hp => ?_, fun p hp => ?_, rfl, rfl⟩
      · obtain ⟨k, hk, rfl⟩ := List.mem_map.1 hp
        have hkm : k ≠ m := fun e => by subst e; rw [hcap k hk] at hfr; cases hfr
        simp only
        rw [look_cut, if_neg hkm, look_cons, if_neg (fun e => hkm e.symm), look_turn, look_mapk caps hk]
        have hnil : (keysH hpP ++ keysH hpQ).filter (fun k => !caps.contains k) = [] := by
          rw [List.filter_eq_nil_iff]
          intro k hk
          simp [hkc k hk]
        rw [hnil]
        rfl
      · rw [look_append]
        have : look hpQ p.1 = some p.2 := subL_spec hsQ p hp
        rw [this]
        rfl
    obtain ⟨v, hv, hrep⟩ := results_sound hs4 hres
    refine ⟨v, hv, v, _, rfl, roA_sound hs4.hr.obj (fun b _ hb => ?_) (fun k cs h1 _ h3 h4 => ?_) hrep hro, HR.nil, ?_, fun b hb => ?_, fun k hk => by cases hk⟩
    · rcases hb with hb | ⟨k, cs, hk, _⟩
      · exact .inl (by rw [e2]; exact hb)
      · cases hk
    · rcases h4 with h4 | ⟨k', cs', g1, _⟩
      · exact hs4.nb _ ⟨k, cs, h1, h3, rfl⟩ (by rw [e2]; exact h4)
      · cases g1
    · have := hs4.keep
      rw [e1] at this
      exact this.mono fun b _ hb => absurd hb (e3 b)
    · obtain ⟨k, cs, hk, _⟩ := hb; cases hk
end
end Go.Proofs.YtogmppcfopgkdaaGreatDoor
/- A range over a function whose iterator yields one piece, at its end; the body is regions in a row. No program is named here. -/
namespace Go.Proofs.YtogmppcfopgkdaaGreatDoor
open Go.RowKit
set_option linter.unusedVariables false
set_option linter.unusedSimpArgs false
/-! ### A round's code -/
def noDefer (o : Oper) : Bool := match o.op with
  | .defer _ => false
  | _ => true
theorem noDefer_spec {o : Oper} (h : noDefer o = true) : ∀ c, o.op ≠ .defer c := fun c e => by
  unfold noDefer at h
  rw [e] at h
  cases h
abbrev RF (l : Nat) : Fence := Fence.wide.inRound l
theorem rows_in {P : Program} {row : String} {args : Array Value} {w : World} {R : Value → World → Prop} {l n : Nat} (h : Rows P row args w R) : RowsIn (RF l) n P row args w R :=
  fun c cs _ => let ⟨v, w', r, s⟩ := h c cs; ⟨v, w', r, stepsIn_wide.2 s⟩
theorem upon_in {P : Program} {o : Oper} {a : Act} {next next' : Act → World → Prop} {Q : Exit → Act → World → Prop} {l : Nat} (hn : ∀ a w, next a w → next' a w) (r : Result Next) (h : o.upon P a next Q r) : o.uponIn (RF l) 0 P a next' Q r := by
  unfold Oper.upon at h
  split at h
  · exact hn _ _ h
  · exact hn _ _ h
  · exact hn _ _ h
  · refine ⟨fun hd => (by cases hd), CallsIn.inRound l (callsIn_wide.2 (h.mono fun e w' hq => ?_))⟩
    cases e with
    | returned v => exact hn _ _ hq
    | panicked c => exact hq
    | outgrown => exact hq
  · exact ⟨fun hd => (by cases hd), rows_in (h.mono fun v w' hq => hn _ _ hq)⟩
  · exact h
  · cases h
theorem wpListIn_of {P : Program} {ops : Array Oper} {Q : Exit → Act → World → Prop} {l0 : Nat} (hno : ¬ LetsOut Q) : ∀ (l : List Oper) (a : Act) (w : World), l.all noDefer = true → wpList P ops Q l a w → wpListIn (RF l0) 0 P ops Q l a w
  | [], a, w, _, h => h
  | o :: r, a, w, hd, h => by
    rw [List.all_cons, Bool.and_eq_true] at hd
    have ih := wpListIn_of (P := P) (ops := ops) (Q := Q) (l0 := l0) hno r
    unfold wpList at h
    unfold wpListIn
    split at h
    · next hw =>
      rw [if_pos hw]
      rcases h with h | ⟨_, h⟩
      · refine ⟨fun f _ => trivial, ?_⟩
        rw [show (RF l0).round = some l0 from rfl, Oper.semAt_some l0 a.eval o (noDefer_spec hd.1)]
        exact upon_in (fun a w h => ih a w hd.2 h) _ h
      · exact absurd h hno
    · next hw =>
      rw [if_neg hw]
      exact ⟨fun f _ => trivial, ih _ _ hd.2 h⟩
def awR (P : Program) (c : Code) (st M : St) : Prop := ∀ (l : Nat) (E : Env) (a : Act) (w : World), S E st a w → c.wpIn (RF l) 0 P (QQ E (endQ M)) a w
section
variable {P : Program} {st M N : St}
theorem no_out {E : Env} : ¬ LetsOut (QQ E (endQ M)) := fun ⟨a, w, st, _, h⟩ => by cases h.1
theorem awR_region {id : Nat} {l : List Oper} (hd : l.all noDefer = true) (h : awO P l.toArray l st (endQ M)) : awR P (.region id l.toArray false) st M := fun l0 E a w hS =>
  wpIn_region_lit (wpListIn_of no_out l a w hd (h E a w hS))
theorem awR_seq {x y : Code} (h1 : awR P x st M) (h2 : awR P y M N) : awR P (.seq x y) st N := fun l E a w hS =>
  wpIn_seq (wpIn_mono (h1 l E a w hS) fun e a' w' hq => by
    obtain ⟨st', hs, rfl, hsub⟩ := hq
    exact h2 l E a' w' (hsub.S hs))
end
/-- The code ends in a state that says M. -/
def endS (M : St) : Exit → St → Prop := fun e st => e = .normal ∧ ∀ E a w, S E st a w → S E M a w
/-! ### Blocks that are no cells -/
theorem cell_none {w : World} {b o : Nat} {x : Obj} (h : w.heap[b]? = some x) (hc : x.isCells = false) : w.cell? ⟨b, o, none⟩ = none := by
  unfold World.cell?
  rw [show w.heap[(⟨b, o, none⟩ : Addr).block]? = some x from h]
  cases x <;> first | rfl | (cases hc)
theorem cell_putObj {w : World} {r b o : Nat} {x y : Obj} (h : w.heap[r]? = some x) (hx : x.isCells = false) (hy : y.isCells = false) : (w.putObj r y).cell? ⟨b, o, none⟩ = w.cell? ⟨b, o, none⟩ := by
  by_cases e : b = r
  · subst e
    rw [cell_none h hx, cell_none (World.putObj_heap_same (Array.getElem?_eq_some_iff.1 h).1) hy]
  · exact World.cell?_of_block (w := w) (a := ⟨b, o, none⟩) (World.putObj_heap_other e)
theorem Keeps.putObj {w w1 : World} {X : Nat → Prop} (h : Keeps w w1 X) {r : Nat} (hr : X r ∨ w.heap.size ≤ r) (o : Obj) : Keeps w (w1.putObj r o) X :=
  ⟨h.os, h.tape, h.output, by rw [World.putObj_size]; exact h.size, fun k hk hn => (World.putObj_heap_other (fun e => by subst e; rcases hr with hr | hr; exact hn hr; omega)).trans (h.block k hk hn)⟩
theorem own_cells {bad : Nat → Prop} {ρ : Nat → Loc} {h : Hp} {w : World} (hh : HR bad ρ h w) {b : Nat} (hb : ownB ρ h b) {x : Obj} (hx : w.heap[b]? = some x) : x.isCells = true := by
  obtain ⟨k, cs, h1, h2, rfl⟩ := hb
  obtain ⟨-, ht⟩ := (hh.obj k cs h1).mem h2
  have := (ht 0 h2).1
  cases hc : x.isCells with
  | true => rfl
  | false => rw [cell_none hx hc] at this; cases this
theorem SR.putObj {E : Env} {ρ : Nat → Loc} {st : St} {a : Act} {w : World} (h : SR E ρ st a w) {r : Nat} {x y : Obj} (hx : w.heap[r]? = some x) (h1 : x.isCells = false) (h2 : y.isCells = false) (hr : E.w0.heap.size ≤ r) : SR E ρ st a (w.putObj r y) := by
  have hsz : w.heap.size ≤ (w.putObj r y).heap.size := by rw [World.putObj_size]; exact Nat.le_refl _
  refine ⟨fun t v ht => (h.fr t v ht).tr hsz (fun b o _ _ => cell_putObj hx h1 h2) (fun _ _ h => h) (fun _ h => absurd rfl h), ⟨fun k cs hk => (h.hr.obj k cs hk).tr hsz (fun hp => ?_) (fun b o _ _ => cell_putObj hx h1 h2) (fun _ _ h => h) (fun _ h => absurd rfl h), h.hr.dis⟩, h.own, h.keep.putObj (.inr hr) _, h.bad, h.nb, h.size, h.defers, h.fx⟩
  refine World.putObj_heap_other fun e => ?_
  have := own_cells h.hr ⟨k, cs, hk, hp, e⟩ hx
  rw [h1] at this
  cases this
/-! ### Another frame's view -/
theorem SR.base {E : Env} {ρ : Nat → Loc} {fr : List (Nat × AV)} {hp : Hp} {nt : Nat} {fx : List Nat} {a : Act} {w : World} (h : SR E ρ ⟨fr, hp, nt, fx⟩ a w) (ks : List Nat) : SR ⟨w, E.bad, ownB ρ hp, ρ, a.defers⟩ ρ ⟨fr, hp, nt, ks⟩ a w :=
  ⟨h.fr, h.hr, fun b hb => .inl hb, Keeps.refl _ _, ⟨fun b hb => Nat.lt_of_lt_of_le (h.bad.1 b hb) h.keep.size, h.glob, fun b hb => h.ngb hb⟩, h.nb, h.size, rfl, fun _ _ => rfl⟩
theorem SR.back {E : Env} {ρ ρ' : Nat → Loc} {fr fr' : List (Nat × AV)} {hp hp' : Hp} {nt nt' : Nat} {fx ks : List Nat} {a a' : Act} {w w' : World} {ds : List Deferred} (h : SR E ρ ⟨fr, hp, nt, fx⟩ a w) (h' : SR ⟨w, E.bad, ownB ρ hp, ρ, ds⟩ ρ' ⟨fr', hp', nt', ks⟩ a' w') : SR ⟨E.w0, E.bad, E.X, E.ρ0, ds⟩ ρ' ⟨fr', hp', nt', []⟩ a' w' :=
  ⟨h'.fr, h'.hr, fun b hb => (h'.own b hb).elim (fun h1 => h.own b h1) (fun h1 => .inr (Nat.le_trans h.keep.size h1)), h.keep.trans (h'.keep.mono fun k _ hk => h.own k hk), h.bad, h'.nb, h'.size, h'.defers, fun k hk => by cases hk⟩
/-- The state of a frame behind what others have done to the own objects. -/
theorem SR.merge {E : Env} {ρ ρ' : Nat → Loc} {fr fr' : List (Nat × AV)} {hp hp' : Hp} {nt : Nat} {fx ks : List Nat} {a : Act} {w w' : World} (ds : List Deferred) (h : SR E ρ ⟨fr, hp, nt, fx⟩ a w) (hfr : ∀ p ∈ fr', look fr p.1 = some p.2 ∧ okR ks p.2 = true) (hh : HR E.bad ρ' hp' w') (hk : Keeps w w' (ownB ρ hp)) (hown : ∀ b, ownB ρ' hp' b → (ownB ρ hp b ∨ w.heap.size ≤ b) ∧ ¬ E.bad b) (hρ : ∀ k ∈ ks, ρ' k = ρ k) :
    SR ⟨E.w0, E.bad, E.X, E.ρ0, ds⟩ ρ' ⟨fr', hp', nt, []⟩ { a with defers := ds } w' := by
  refine ⟨fun t x hx => ?_, hh, fun b hb => (hown b hb).1.elim (fun h1 => h.own b h1) (fun h1 => .inr (Nat.le_trans h.keep.size h1)), h.keep.trans (hk.mono fun k _ hk => h.own k hk), h.bad, fun b hb => (hown b hb).2, h.size, rfl, fun k hk => by cases hk⟩
  obtain ⟨h1, h2⟩ := hfr _ (look_mem hx)
  refine (h.fr t x h1).tr hk.size (fun b o hl hn => World.cell?_of_block (w := w) (a := ⟨b, o, none⟩) (hk.block b hl fun e => hn (.inr e))) (fun b hl hb => ?_) (fun k hne => okR_ment h2 fun hm => hne (hρ k hm))
  rcases hb with hb | hb
  · exact .inl hb
  · rcases (hown b hb).1 with h3 | h3
    · exact .inr h3
    · omega
theorem ownB_same {ρ ρ' : Nat → Loc} {hp : Hp} {ks : List Nat} (hks : ∀ p ∈ hp, p.1 ∈ ks) (hρ : ∀ k ∈ ks, ρ' k = ρ k) {b : Nat} (h : ownB ρ' hp b) : ownB ρ hp b := by
  obtain ⟨k, cs, h1, h2, h3⟩ := h
  rw [hρ k (hks _ (look_mem h1))] at h2 h3
  exact ⟨k, cs, h1, h2, h3⟩
theorem awR_kept {P : Program} {c : Code} {fr fr' : List (Nat × AV)} {hp hp' : Hp} {nt : Nat} {ks : List Nat} (l : Nat) (h : awR P c ⟨fr, hp, nt, ks⟩ ⟨fr', hp', nt, ks⟩) {E : Env} {ρ : Nat → Loc} {a : Act} {w : World} (hS : SR E ρ ⟨fr, hp, nt, []⟩ a w) (hd : a.defers = []) :
    c.wpIn (RF l) 0 P (fun e a' w' => e = .normal ∧ ∃ ρ', SR ⟨E.w0, E.bad, E.X, E.ρ0, []⟩ ρ' ⟨fr', hp', nt, []⟩ a' w' ∧ Keeps w w' (ownB ρ hp) ∧ (∀ k ∈ ks, ρ' k = ρ k) ∧ ∀ b, ownB ρ' hp' b → ownB ρ hp b ∨ w.heap.size ≤ b) a w :=
  wpIn_mono (h l _ a w ⟨ρ, hS.base ks⟩) fun e a' w' hq => by
    obtain ⟨st, hs, rfl, hsub⟩ := hq
    obtain ⟨ρ', hs⟩ := hsub.S hs
    rw [hd] at hs
    exact ⟨rfl, ρ', hS.back hs, hs.keep, hs.fx, hs.own⟩
theorem run_invC {P : Program} {g : FuncId} (hc : callable P g = true) (args cv : Array Value) (w : World) : (invoke (.fn (.func g) cv) args).run P w = .ok (.enter g (args ++ cv)) w := by
  unfold callable at hc
  split at hc
  · next fn hf =>
    simp only [Bool.and_eq_true, Bool.not_eq_true'] at hc
    obtain ⟨h1, h2⟩ := hc
    have h3 : ¬ fn.body = none := by cases hb : fn.body <;> simp_all
    have h4 : ¬ fn.name = "runtime.NumGoroutine" := by simpa using h1
    simp [invoke, callFunc, hf, h4, h3]
  · cases hc
theorem put_get {a : Act} {m : Nat} (v : Value) (h : m < a.tmps.size) : (a.put (some m) v).tmps.getD m undef = v := by
  simp only [Act.put]
  rw [Array.getD_eq_getD_getElem?, Array.getElem?_setIfInBounds_self_of_lt h]
  rfl
theorem put_ne {a : Act} {m t : Nat} (v : Value) (h : m ≠ t) : (a.put (some m) v).tmps.getD t undef = a.tmps.getD t undef := by
  simp only [Act.put]
  rw [Array.getD_eq_getD_getElem?, Array.getElem?_setIfInBounds_ne h, ← Array.getD_eq_getD_getElem?]
theorem put_size {a : Act} {m : Nat} (v : Value) : (a.put (some m) v).tmps.size = a.tmps.size := by
  simp [Act.put]
section
variable {P : Program} {f fI : FuncId} {fn fnI : Func} {c1 c2 c3 c4 c5 c0I c1I rest bc : Code} {g p bid bb ia iI m1 m2 m3 s k off sz n : Nat} {oa : List Oper} {o1 o2 o3 : Oper} {ts : Array TypeId} {args caps ds cs : List AV} {fr fr' frb : List (Nat × AV)} {hp hp' hpb : Hp} {ks : List Nat} {r : AV} {M1 M2 M3 M4 : St} {N0 : Value → St}
theorem Ab_rng (hf : P.funcs[f]? = some fn) (hb : fn.body = some (.seq c1 (.seq c2 (.seq c3 (.seq c4 (.seq (.seq c5 (.block bid (.rangeFunc (.tmp g) #[p] (.region ia oa.toArray false) (.block bb bc)))) rest)))))) (hn : (fn.name == "runtime.NumGoroutine") = false) (hsz : args.length ≤ fn.ntmps)
    (hA : aw P c1 ⟨num 0 args, [], fn.ntmps, []⟩ (endQ M1)) (hB : aw P c2 M1 (endQ M2)) (hC : aw P c3 M2 (endS M3)) (hD : aw P c4 M3 (endQ M4)) (hE : aw P c5 M4 (endQ ⟨fr, hp, fn.ntmps, []⟩))
    (hg : look fr g = some (.fn fI caps)) (hgl : fI < bnd) (hp0 : p < fn.ntmps) (hks : ∀ q ∈ hp, q.1 ∈ ks) (hps : subL hp hp) (hpk : look hp k = none)
    (hfI : P.funcs[fI]? = some fnI) (hbI : fnI.body = some (.seq c0I (.seq c1I (.region iI [o1, o2, o3].toArray false)))) (hnI : (fnI.name == "runtime.NumGoroutine") = false) (hrI : fnI.results = #[]) (hszI : caps.length + 1 ≤ fnI.ntmps)
    (ho1 : o1.op = .move (.tmp 0) ∧ o1.guard = none ∧ o1.dst = some m1) (ho2 : o2.op = .move (.tmp s) ∧ o2.guard = none ∧ o2.dst = some m2) (ho3 : o3.op = .call ⟨.value (.tmp m1), #[.tmp m2], ts⟩ ∧ o3.guard = none ∧ o3.dst = some m3) (hm1 : m1 < fnI.ntmps) (hm2 : m2 < fnI.ntmps) (hm12 : m1 ≠ m2) (hm1s : m1 ≠ s) (hs0 : s ≠ 0)
    (hI : ∀ y : Value, aw P c0I ⟨num 0 (.v y :: caps), hp, fnI.ntmps, ks⟩ (endQ (N0 y)) ∧ aw P c1I (N0 y) (endQ ⟨[(0, .v y), (s, .os k off sz n)], (k, cs) :: hp, fnI.ntmps, ks⟩))
    (hcl : off + n * sz ≤ cs.length) (hcd : ((cs.drop off).take (n * sz)).all dataC = true) (hds : (cs.drop off).take (n * sz) = ds)
    (hfr : ∀ q ∈ fr', look fr q.1 = some q.2 ∧ okR ks q.2 = true)
    (hassign : awR P (.region ia oa.toArray false) ⟨(p, .rd n ds) :: fr', hp, fn.ntmps, ks⟩ ⟨frb, hpb, fn.ntmps, ks⟩) (hbody : awR P bc ⟨frb, hpb, fn.ntmps, ks⟩ ⟨[], hp', fn.ntmps, ks⟩)
    (hrest : aw P rest ⟨fr', hp', fn.ntmps, []⟩ (retQ P fn.results.toList r [] [] [])) : Ab P f args r := by
  refine ⟨by simp [callable, hf, hn, hb], fun w bad ρ vs hbad hnb hHR hargs => ?_⟩
  refine (callsIn_wide (n := 0)).1 (callsIn_of_wp_marks hf hb trivial ?_)
  have hS := S_start (nt := fn.ntmps) (fix := []) (h := []) HR.nil hbad hnb hargs hsz
  have hX : ∀ b, ¬ ownB ρ [] b := fun b hb => by obtain ⟨k, cs, hk, _⟩ := hb; cases hk
  have go : ∀ {E : Env} {c y : Code} {st M : St} {a : Act} {w' : World} {Q : Exit → Act → World → Prop}, aw P c st (endQ M) → S E st a w' → (∀ a w', S E M a w' → y.wpIn Fence.wide 0 P Q a w') → (Code.seq c y).wpIn Fence.wide 0 P Q a w' := fun h1 h2 h3 =>
    wpIn_seq (wpIn_mono (wpIn_wide.2 (h1 _ _ _ h2)) fun e a w hq => by obtain ⟨st, hs, rfl, hsub⟩ := hq; exact h3 _ _ (hsub.S hs))
  have goS : ∀ {E : Env} {c y : Code} {st M : St} {a : Act} {w' : World} {Q : Exit → Act → World → Prop}, aw P c st (endS M) → S E st a w' → (∀ a w', S E M a w' → y.wpIn Fence.wide 0 P Q a w') → (Code.seq c y).wpIn Fence.wide 0 P Q a w' := fun h1 h2 h3 =>
    wpIn_seq (wpIn_mono (wpIn_wide.2 (h1 _ _ _ h2)) fun e a w hq => by obtain ⟨st, hs, rfl, hsub⟩ := hq; exact h3 _ _ (hsub _ _ _ hs))
  refine go hA hS fun _ _ hS => go hB hS fun _ _ hS => goS hC hS fun _ _ hS => go hD hS fun _ _ hS => wpIn_seq (go hE hS fun a1 w1 hS => ?_)
  obtain ⟨ρ1, hS⟩ := hS
  have hd1 : a1.defers = [] := hS.defers
  refine wpIn_block (wpIn_rangeFunc fun fnm _ => ?_)
  obtain ⟨us, e, hul, hur⟩ := (hS.fr g _ hg).fn_inv
  rw [fnV_lt hgl] at e
  have hev : a1.eval (.tmp g) = .func (.func fI) #[] us := e
  have hcI : callable P fI = true := by simp [callable, hfI, hnI, hbI]
  obtain ⟨rec, hrec⟩ : ∃ rec : LoopState → Option Code → Loop, rec = fun st pe => { state := st, pending := pe, fn := fnm, tmps := a1.tmps, params := #[p], assign := .region ia oa.toArray false, body := .block bb bc, defers := w1.heap.size } := ⟨_, rfl⟩
  obtain ⟨w2, hw2⟩ : ∃ w2, (w1.alloc (.deferred (some []))).alloc (.loop (rec .ready none)) = w2 := ⟨_, rfl⟩
  have hl2 : w2.heap[w1.heap.size + 1]? = some (.loop (rec .ready none)) := by
    rw [← hw2]; have := World.alloc_heap_new (w1.alloc (.deferred (some []))) (.loop (rec .ready none)); rwa [World.size_alloc] at this
  have hD2 : w2.heap[w1.heap.size]? = some (.deferred (some [])) := by
    rw [← hw2]; exact (Below.heap_alloc _ _ _ (by simp)).trans (World.alloc_heap_new w1 _)
  have hb12 : Below w1.heap.size w1 w2 := by
    rw [← hw2]; exact ((Below.refl _ w1).alloc (Nat.le_refl _) _).alloc (by simp) _
  obtain ⟨y, hy⟩ : ∃ y : Value, y = .func (.yield (w1.heap.size + 1)) #[] #[] := ⟨_, rfl⟩
  refine ⟨w1.heap.size + 1, [{ target := .collected w1.heap.size, args := #[] }], w2, { target := .fn (.func fI) us, args := #[y] }, w2, fI, #[y] ++ us, w2, ?_, ?_, fun _ _ => trivial, run_invC hcI _ _ _, fun h => (by cases h), callsIn_wide.2 ?_⟩
  · rw [← hw2, hrec]; exact run_enterLoop_outer _ _ _ _ _
  · simp only [resolve, hev]
    rw [hy]
    simp [go_sem]
  have hS2 := hS.below hb12
  refine calls_of_wp hfI hbI ((wpIn_wide (n := 0)).1 ?_)
  have hgb2 : ∀ b, ownB ρ1 hp b → ¬ gblk b := fun b hb => hS2.ngb hb
  have hSI : S ⟨w2, bad, ownB ρ1 hp, ρ1, []⟩ ⟨num 0 (.v y :: caps), hp, fnI.ntmps, ks⟩ { tmps := (#[y] ++ us) ++ Array.replicate (fnI.ntmps - (#[y] ++ us).size) undef, defers := [] } w2 := by
    refine S_start hS2.hr ⟨fun b hb => Nat.lt_of_lt_of_le (hbad.1 b hb) hS2.keep.size, hS2.glob, hgb2⟩ (fun b hb => hS2.nb b hb) ?_ (by simpa using hszI)
    have h0 : RepC w2 (avd bad ρ1 hp) ρ1 [.v y] #[y] := ⟨rfl, fun j x v hj hv => by
      cases j with
      | zero => simp at hj hv; subst hj; subst hv; exact .im (.v _)
      | succ j => simp at hj⟩
    refine h0.app ⟨hul, fun j x v hj hv => ?_⟩
    exact (hur j x v hj hv).grow hb12 fun _ _ h => h
  refine go (hI y).1 hSI fun _ _ hSI => go (hI y).2 hSI fun a3 w3 hSI => ?_
  have hSp := S_pub s k (off := off) (sz := sz) (n := n) (cs := cs) (by rw [look_cons, if_neg (fun e => hs0 e.symm), look_cons, if_pos rfl]) (by rw [look_cons, if_pos rfl]) hcl hcd hSI
  rw [hds] at hSp
  obtain ⟨ρ3, h3⟩ := hSp
  have hcut : ∀ j x, look hp j = some x → look (cut k ((k, cs) :: hp)) j = some x := fun j x hj => by
    rw [look_cut, look_cons]
    have : k ≠ j := fun e => by subst e; rw [hpk] at hj; cases hj
    rw [if_neg (fun e => this e.symm), if_neg this]
    exact hj
  have h3 : SR ⟨w2, bad, ownB ρ1 hp, ρ1, []⟩ ρ3 ⟨[(s, .rd n ds), (0, .v y)], hp, fnI.ntmps, ks⟩ a3 w3 := by
    have hsub : Sub ⟨[(s, .rd n ds), (0, .v y)], hp, fnI.ntmps, ks⟩ ⟨[(s, .rd n ds), (0, .v y), (s, .os k off sz n)], cut k ((k, cs) :: hp), fnI.ntmps, ks⟩ := by
      refine ⟨fun q hq => ?_, fun q hq => hcut _ _ (subL_spec hps _ hq), rfl, rfl⟩
      rcases List.mem_cons.1 hq with rfl | hq
      · exact if_pos rfl
      · rcases List.mem_cons.1 hq with rfl | hq
        · exact (if_neg hs0).trans (if_pos rfl)
        · cases hq
    exact hsub.SR h3
  have hvy : a3.tmps.getD 0 undef = y := Rep.v_eq (h3.fr 0 (.v y) (by rw [look_cons, if_neg hs0, look_cons, if_pos rfl]))
  have hrp := h3.fr s (.rd n ds) (by rw [look_cons, if_pos rfl])
  generalize hv : a3.tmps.getD s undef = v at hrp
  -- the last region
  have e1 : (execOp a3.eval o1).run P w3 = .ok (.value y) w3 := by
    have : a3.eval (.tmp 0) = y := hvy
    simp only [execOp, ho1.1, this, Sem.run_pure]
  have e2 : (execOp (a3.put (some m1) y).eval o2).run P w3 = .ok (.value v) w3 := by
    have : (a3.put (some m1) y).eval (.tmp s) = v := (put_ne y hm1s).trans hv
    simp only [execOp, ho2.1, this, Sem.run_pure]
  have hsz3 : a3.tmps.size = fnI.ntmps := h3.size
  have hl3 : w3.heap[w1.heap.size + 1]? = some (.loop (rec .ready none)) := (h3.keep.block _ (Array.getElem?_eq_some_iff.1 hl2).1 fun hb => by cases own_cells hS2.hr hb hl2).trans hl2
  have hD3 : w3.heap[w1.heap.size]? = some (.deferred (some [])) := (h3.keep.block _ (Array.getElem?_eq_some_iff.1 hD2).1 fun hb => by cases own_cells hS2.hr hb hD2).trans hD2
  have e3 : (execOp ((a3.put (some m1) y).put (some m2) v).eval o3).run P w3 = .ok (.round (w1.heap.size + 1) fnm (a1.tmps.setIfInBounds p v) (.region ia oa.toArray false) (.block bb bc)) w3 := by
    have q1 : ((a3.put (some m1) y).put (some m2) v).eval (.tmp m1) = .func (.yield (w1.heap.size + 1)) #[] #[] := ((put_ne v (fun e => hm12 e.symm)).trans (put_get y (by omega))).trans hy
    have q2 : ((a3.put (some m1) y).put (some m2) v).eval (.tmp m2) = v := put_get v (by rw [put_size]; omega)
    have q3 := run_yield (P := P) (args := #[v]) hl3 (by rw [hrec]; rfl)
    rw [hrec] at q3
    have q4 : (#[p].zip #[v]).foldl (fun (tmps : Array Value) (x : Tmp × Value) => tmps.setIfInBounds x.1 x.2) a1.tmps = a1.tmps.setIfInBounds p v := by simp
    simp only [execOp, ho3.1, resolve, q1, Deferred.ofValue, invoke]
    simp [q2, q3, Sem.run_bind]
  refine wpIn_region_lit (wpListIn_plain ho1.2.1 fun K1 hK1 => ⟨fun _ _ => trivial, ?_⟩)
  rw [show Fence.wide.round = none from rfl, Oper.semAt_none, e1, Oper.uponIn_value, ho1.2.2]
  refine hK1 _ _ (wpListIn_plain ho2.2.1 fun K2 hK2 => ⟨fun _ _ => trivial, ?_⟩)
  rw [show Fence.wide.round = none from rfl, Oper.semAt_none, e2, Oper.uponIn_value, ho2.2.2]
  refine hK2 _ _ (wpListIn_plain ho3.2.1 fun K3 hK3 => ⟨fun _ _ => trivial, ?_⟩)
  rw [show Fence.wide.round = none from rfl, Oper.semAt_none, e3, Oper.uponIn_round]
  refine ⟨fun h => (by cases h), roundIn_of_wpIn trivial ?_⟩
  -- the round
  have own3 : ∀ b, ownB ρ3 hp b → ownB ρ1 hp b := fun b hb => ownB_same hks h3.fx hb
  have k13 : Keeps w1 w3 (ownB ρ1 hp) := (Keeps.of_below hb12 _).trans (h3.keep.mono fun k _ hk => .inl hk)
  have r3 := hS.merge (ρ' := ρ3) (fr' := fr') (hp' := hp) (ks := ks) (w' := w3) [] hfr h3.hr k13 (fun b hb => ⟨.inl (own3 b hb), h3.nb b hb⟩) h3.fx
  have r4 := r3.put (some p) (fun t e => by injection e with e; subst e; exact hp0) hrp
  refine wpIn_mono (awR_kept (w1.heap.size + 1) hassign r4 rfl) ?_
  rintro e a4 w4 ⟨rfl, ρ4, h4, k4, f4, o4⟩
  have hl4 : w4.heap[w1.heap.size + 1]? = some (.loop (rec .ready none)) := (k4.block _ (Array.getElem?_eq_some_iff.1 hl3).1 fun hb => by cases own_cells h3.hr hb hl3).trans hl3
  have hD4 : w4.heap[w1.heap.size]? = some (.deferred (some [])) := (k4.block _ (Array.getElem?_eq_some_iff.1 hD3).1 fun hb => by cases own_cells h3.hr hb hD3).trans hD3
  have hw0 : w.heap.size ≤ w1.heap.size := hS.keep.size
  refine ⟨_, run_beginRound hl4 (by rw [hrec]), wpIn_block ?_⟩
  have h5 := h4.putObj (y := .loop { rec .ready none with state := .busy }) hl4 rfl rfl (Nat.le_trans hw0 (by omega))
  have hl5 : (w4.putObj (w1.heap.size + 1) (.loop { rec .ready none with state := .busy })).heap[w1.heap.size + 1]? = some (.loop { rec .ready none with state := .busy }) := World.putObj_heap_same (Array.getElem?_eq_some_iff.1 hl4).1
  have k15 : Keeps w1 (w4.putObj (w1.heap.size + 1) (.loop { rec .ready none with state := .busy })) (ownB ρ1 hp) := (k13.trans (k4.mono fun k _ hk => .inl (own3 k hk))).putObj (.inr (by omega)) _
  have hD5 := (World.putObj_heap_other (w := w4) (r := w1.heap.size + 1) (k := w1.heap.size) (o := .loop { rec .ready none with state := .busy }) (by omega)).trans hD4
  generalize w4.putObj (w1.heap.size + 1) (.loop { rec .ready none with state := .busy }) = w5 at h5 hl5 k15 hD5
  refine wpIn_mono (awR_kept (w1.heap.size + 1) hbody h5 h5.defers) ?_
  rintro e a6 w6 ⟨rfl, ρ6, h6, k6, f6, o6⟩
  have hl6 : w6.heap[w1.heap.size + 1]? = some (.loop { rec .ready none with state := .busy }) := (k6.block _ (Array.getElem?_eq_some_iff.1 hl5).1 fun hb => by cases own_cells h5.hr hb hl5).trans hl5
  have hD6 : w6.heap[w1.heap.size]? = some (.deferred (some [])) := (k6.block _ (Array.getElem?_eq_some_iff.1 hD5).1 fun hb => by cases own_cells h5.hr hb hD5).trans hD5
  have own5 : ∀ b, ownB ρ4 hpb b → ownB ρ1 hp b ∨ w1.heap.size ≤ b := fun b hb => (o4 b hb).elim (fun h => .inl (own3 b h)) fun h => .inr (Nat.le_trans k13.size h)
  have k16 : Keeps w1 w6 (ownB ρ1 hp) := k15.trans (k6.mono fun k _ hk => own5 k hk)
  have own6 : ∀ b, ownB ρ6 hp' b → ownB ρ1 hp b ∨ w1.heap.size ≤ b := fun b hb => (o6 b hb).elim (fun h => own5 b h) fun h => .inr (Nat.le_trans k15.size h)
  have f16 : ∀ k ∈ ks, ρ6 k = ρ1 k := fun k hk => (f6 k hk).trans ((f4 k hk).trans (h3.fx k hk))
  have q6 := run_endRound (P := P) none hl6
  refine ⟨_, _, q6, ?_⟩
  have h7 := h6.putObj (y := .loop { rec .ready none with state := .ready, pending := none }) hl6 rfl rfl (Nat.le_trans hw0 (by omega))
  have hl7 : (w6.putObj (w1.heap.size + 1) (.loop { rec .ready none with state := .ready, pending := none })).heap[w1.heap.size + 1]? = some (.loop { rec .ready none with state := .ready, pending := none }) := World.putObj_heap_same (Array.getElem?_eq_some_iff.1 hl6).1
  have k17 := k16.putObj (r := w1.heap.size + 1) (.inr (by omega)) (.loop { rec .ready none with state := .ready, pending := none })
  have hD7 := (World.putObj_heap_other (w := w6) (r := w1.heap.size + 1) (k := w1.heap.size) (o := .loop { rec .ready none with state := .ready, pending := none }) (by omega)).trans hD6
  show K3 _ (w6.putObj (w1.heap.size + 1) (.loop { rec .ready none with state := .ready, pending := none }))
  generalize w6.putObj (w1.heap.size + 1) (.loop { rec .ready none with state := .ready, pending := none }) = w7 at h7 hl7 k17 hD7
  refine hK3 _ _ (wpListIn_nil ?_)
  rw [ho3.2.2]
  refine ⟨h3.defers, .tuple #[], ?_, none, _, run_endLoop hl7 (by simp), ?_⟩
  · simp [results, hrI, Sem.run_bind]
  -- behind the loop
  have h8 := h7.putObj (y := .loop { { rec .ready none with state := .ready, pending := none } with state := .exhausted }) hl7 rfl rfl (Nat.le_trans hw0 (by omega))
  have k18 := k17.putObj (r := w1.heap.size + 1) (.inr (by omega)) (.loop { { rec .ready none with state := .ready, pending := none } with state := .exhausted })
  have hD8 := (World.putObj_heap_other (w := w7) (r := w1.heap.size + 1) (k := w1.heap.size) (o := .loop { { rec .ready none with state := .ready, pending := none } with state := .exhausted }) (by omega)).trans hD7
  generalize w7.putObj (w1.heap.size + 1) (.loop { { rec .ready none with state := .ready, pending := none } with state := .exhausted }) = w8 at h8 k18 hD8
  have h9 := hS.merge (ρ' := ρ6) (fr' := fr') (hp' := hp') (ks := ks) (w' := w8) [{ target := .collected w1.heap.size, args := #[] }] hfr h8.hr k18 (fun b hb => ⟨own6 b hb, h8.nb b hb⟩) f16
  show rest.wpIn Fence.wide 0 P _ { a1 with defers := [{ target := .collected w1.heap.size, args := #[] }] ++ a1.defers } w8
  rw [hd1, List.append_nil]
  refine wpIn_mono (wpIn_wide.2 (hrest _ _ _ ⟨ρ6, h9.base []⟩)) ?_
  rintro e a10 w10 ⟨⟨sfr, shp, snt, sfx⟩, ⟨ρ10, hs⟩, he, ⟨ys, hres, hro⟩, _, hfx⟩
  simp only at hfx
  subst hfx
  have h10 := h9.back hs
  have hD10 : w10.heap[w1.heap.size]? = some (.deferred (some [])) := (hs.keep.block _ (Array.getElem?_eq_some_iff.1 hD8).1 fun hb => by cases own_cells h9.hr hb hD8).trans hD8
  have h11 := h10.putObj (y := .deferred none) hD10 rfl rfl hw0
  obtain ⟨v', hv', hrep⟩ := results_sound h11 hres
  have key : LeavesInM Fence.wide 0 P fn a10.tmps (fun e w' => ∃ v ρ', e = .returned v ∧ Rep w' (avd bad ρ' []) ρ' r v ∧ HR bad ρ' [] w' ∧ Keeps w w' (ownB ρ []) ∧ (∀ b, ownB ρ' [] b → (ownB ρ [] b ∨ w.heap.size ≤ b) ∧ ¬ bad b) ∧ ∀ k ∈ ([] : List Nat), ρ' k = ρ k) a10.defers .returning w10 := by
    rw [h10.defers]
    refine ⟨by simp, .inl ⟨_, _, rfl, run_takeDeferred hD10, ?_⟩⟩
    refine ⟨v', hv', v', ρ10, rfl, roA_sound h11.hr.obj (fun b _ hb => ?_) (fun k cs h1 _ h3 h4 => ?_) hrep hro, HR.nil, h11.keep, fun b hb => ?_, fun k hk => by cases hk⟩
    · rcases hb with hb | ⟨k, cs, hk, _⟩
      · exact .inl hb
      · cases hk
    · rcases h4 with h4 | ⟨k', cs', g1, _⟩
      · exact h11.nb _ ⟨k, cs, h1, h3, rfl⟩ h4
      · cases g1
    · obtain ⟨k, cs, hk, _⟩ := hb; cases hk
  rcases he with rfl | rfl
  · exact key
  · exact key
end
end Go.Proofs.YtogmppcfopgkdaaGreatDoor
