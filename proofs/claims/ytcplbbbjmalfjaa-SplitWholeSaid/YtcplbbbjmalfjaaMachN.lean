/- The abstract machine, part 14: drawn regions, the rules in the form in which a walk uses them. No program is named here. -/
import Derived.Test.YtcplbbbjmalfjaaMachM
namespace Go.Proofs.Ytcplbbbjmalfjaa
open Go.RowKit
set_option linter.unusedVariables false
set_option linter.unusedSimpArgs false
section
variable {P : Program} {ops : Array Oper} {Q : Exit → St → Prop} {st st' : St} {listed : Array Bool} {fuel : Nat} {o : Oper}
def evq (P : Program) (st : St) (dst : Option Nat) (op : Op) (ty : TypeId) : Option St :=
  match dst with
  | some d => if d < st.nt then (qv P st op ty).map fun x => st.put (some d) x else none
  | none => (qv P st op ty).map fun _ => st
theorem ev_evq {dst : Option Nat} {op : Op} {ty : TypeId} {ps : String} {af : Array Edge} {g : Option (Nat × Bool)} (hq : qO op = true) : ev P st ⟨dst, op, ty, ps, af, g⟩ = evq P st dst op ty := by
  cases op with
  | call c =>
    obtain ⟨callee, args, ts⟩ := c
    cases callee with
    | builtin b => cases b <;> cases dst <;> first | rfl | (simp [qO] at hq)
    | _ => simp [qO] at hq
  | _ => cases dst <;> first | rfl | (simp [qO] at hq)
theorem ev_quiet (hq : qO o.op = true) (h : ev P st o = some st') : ∃ y, qv P st o.op o.type = some y ∧ st' = st.put o.dst y ∧ ∀ d, o.dst = some d → d < st.nt := by
  obtain ⟨dst, op, ty, ps, af, g⟩ := o
  rw [ev_evq hq] at h
  cases dst with
  | none =>
    simp only [evq, Option.map_eq_some_iff] at h
    obtain ⟨y, h1, h2⟩ := h
    exact ⟨y, h1, h2.symm, fun d e => by cases e⟩
  | some d =>
    simp only [evq] at h
    split at h
    · next hd =>
      rw [Option.map_eq_some_iff] at h
      obtain ⟨y, h1, h2⟩ := h
      exact ⟨y, h1, h2.symm, fun d' e => by injection e with e; subst e; exact hd⟩
    · cases h
def stepB (ops : Array Oper) (listed : Array Bool) (i : Nat) : Bool := takeB ops listed i && ((ops[i]?).map fun o => qO o.op).getD false
theorem stepB_spec {i : Nat} (h : stepB ops listed i = true) (hi : ops[i]? = some o) : takeB ops listed i = true ∧ qO o.op = true := by
  simp only [stepB, Bool.and_eq_true, hi, Option.map_some, Option.getD_some] at h
  exact h
theorem YB.of_qv {E : Env} {ρ : Nat → Loc} {a : Act} {w : World} {y : AV} (hS : SR E ρ st a w) (hw : Region.wanted o (yielded ops a.tmps) = true) (hq : qv P st o.op o.type = some y) : ∃ v, YB P ops o v a w ∧ Rep w (avd E.bad ρ st.hp) ρ y v := by
  obtain ⟨v, hv, hr⟩ := qv_sound hS hq
  exact ⟨v, .inl ⟨hw, fun w' hb => hv w' fun hm => Ext.of_below (hb hm)⟩, hr⟩
theorem awY_q (i : Nat) (hs : stepB ops listed i = true) (hn : NP Q) (hi : ops[i]? = some o) (hg : o.guard = none) (he : ev P st o = some st') (h : awY P ops fuel (listed.setIfInBounds i true) st' Q) : awY P ops (fuel + 1) listed st Q := by
  obtain ⟨h1, h2⟩ := stepB_spec hs hi
  obtain ⟨y, hy, rfl, hd⟩ := ev_quiet h2 he
  exact awY_first hn h1 hi hd (fun E ρ a w hS => YB.of_qv hS (by simp [Region.wanted, hg]) hy) h
theorem awY_qy (i : Nat) {j t : Nat} {b : Bool} (hs : stepB ops listed i = true) (hn : NP Q) (hi : ops[i]? = some o) (hg : o.guard = some (j, b)) (hj : (ops[j]?).bind (·.dst) = some t) (ht : t < st.nt) (hc : look st.fr t = some (.v (.bool b))) (he : ev P st o = some st')
    (h : awY P ops fuel (listed.setIfInBounds i true) st' Q) : awY P ops (fuel + 1) listed st Q := by
  obtain ⟨h1, h2⟩ := stepB_spec hs hi
  obtain ⟨y, hy, rfl, hd⟩ := ev_quiet h2 he
  exact awY_first hn h1 hi hd (fun E ρ a w hS => YB.of_qv hS (by rw [wanted_of hS hg hj ht hc]; simp) hy) h
theorem awY_qn (i : Nat) {j t d : Nat} {b c : Bool} (hs : stepB ops listed i = true) (hn : NP Q) (hi : ops[i]? = some o) (hg : o.guard = some (j, b)) (hj : (ops[j]?).bind (·.dst) = some t) (ht : t < st.nt) (hc : look st.fr t = some (.v (.bool c))) (hne : (c == b) = false) (hd : o.dst = some d) (hdn : d < st.nt)
    (h : awY P ops fuel (listed.setIfInBounds i true) (st.put (some d) (.v undef)) Q) : awY P ops (fuel + 1) listed st Q :=
  awY_first hn (stepB_spec hs hi).1 hi (fun e he => by rw [hd] at he; injection he with he; subst he; exact hdn) (fun E ρ a w hS => ⟨undef, .inr ⟨by rw [wanted_of hS hg hj ht hc]; exact hne, rfl⟩, .im (.v _)⟩) (by rw [hd]; exact h)
theorem awY_qu (i : Nat) {j t d : Nat} {b : Bool} (hs : stepB ops listed i = true) (hn : NP Q) (hi : ops[i]? = some o) (hg : o.guard = some (j, b)) (hj : (ops[j]?).bind (·.dst) = some t) (hc : look st.fr t = some (.v undef)) (hd : o.dst = some d) (hdn : d < st.nt)
    (h : awY P ops fuel (listed.setIfInBounds i true) (st.put (some d) (.v undef)) Q) : awY P ops (fuel + 1) listed st Q :=
  awY_first hn (stepB_spec hs hi).1 hi (fun e he => by rw [hd] at he; injection he with he; subst he; exact hdn) (fun E ρ a w hS => ⟨undef, .inr ⟨wanted_undef hS hg hj hc, rfl⟩, .im (.v _)⟩) (by rw [hd]; exact h)
/-- A guard whose bool is not known: two ways. -/
theorem awY_guard (i : Nat) {fr : List (Nat × AV)} {hp : Hp} {nt : Nat} {fx : List Nat} {j t : Nat} {b c : Bool} (hs : (Region.ready .any ops listed).contains i = true) (hi : ops[i]? = some o) (hg : o.guard = some (j, b)) (hj : (ops[j]?).bind (·.dst) = some t) (hc : look fr t = some (.v (.bool c)))
    (h1 : c = b → awY P ops fuel listed ⟨(t, .v (.bool b)) :: fr, hp, nt, fx⟩ Q) (h2 : c = !b → awY P ops fuel listed ⟨(t, .v (.bool !b)) :: fr, hp, nt, fx⟩ Q) : awY P ops fuel listed ⟨fr, hp, nt, fx⟩ Q := fun E a w ⟨ρ, hS⟩ => by
  have key : ∀ b', c = b' → SR E ρ ⟨(t, .v (.bool b')) :: fr, hp, nt, fx⟩ a w := fun b' e => by
    subst e
    refine ⟨fun t' x hx => ?_, hS.hr, hS.own, hS.keep, hS.bad, hS.nb, hS.size, hS.defers, hS.fx⟩
    rw [look_cons] at hx
    split at hx
    · next e => subst e; injection hx with hx; subst hx; exact hS.fr t _ hc
    · exact hS.fr t' x hx
  by_cases e : c = b
  · exact h1 e E a w ⟨ρ, key b e⟩
  · have e' : c = !b := by cases c <;> cases b <;> simp_all
    exact h2 e' E a w ⟨ρ, key (!b) e'⟩

/-! ### The one that must come up -/
theorem wpOp_of_step {E : Env} {a : Act} {w : World} {i : Nat} {K : Act → World → Prop} {Q' : Exit → Act → World → Prop} (hi : ops[i]? = some o) (hw : Region.wanted o (yielded ops a.tmps) = true) (h : StepTo P E a o st' w) (hK : ∀ a' w', S E st' a' w' → (dsO o.op = false → Below w.heap.size w w') → K a' w') : wpOp P ops Q' i K a w := by
  unfold wpOp
  simp only [hi, hw, if_true]
  refine .inl ?_
  obtain ⟨w', v, hr | ⟨hr, rfl⟩, hs, hb⟩ := h
  · unfold Oper.wp; rw [hr]; exact hK _ _ hs hb
  · unfold Oper.wp; rw [hr]; exact hK _ _ hs hb
theorem awY_ev (i : Nat) (hr : Region.ready .any ops listed = [i]) (hi : ops[i]? = some o) (hg : o.guard = none) (he : ev P st o = some st') (h : awY P ops fuel (listed.setIfInBounds i true) st' Q) : awY P ops (fuel + 1) listed st Q :=
  awY_one hr hi fun E a w ⟨ρ, hS⟩ => wpOp_of_step hi (by simp [Region.wanted, hg]) (ev_sound hS he) fun a' w' hs hb => ⟨hb, h E a' w' hs⟩
theorem awY_evy (i : Nat) {j t : Nat} {b : Bool} (hr : Region.ready .any ops listed = [i]) (hi : ops[i]? = some o) (hg : o.guard = some (j, b)) (hj : (ops[j]?).bind (·.dst) = some t) (ht : t < st.nt) (hc : look st.fr t = some (.v (.bool b))) (he : ev P st o = some st') (h : awY P ops fuel (listed.setIfInBounds i true) st' Q) : awY P ops (fuel + 1) listed st Q :=
  awY_one hr hi fun E a w ⟨ρ, hS⟩ => wpOp_of_step hi (by rw [wanted_of hS hg hj ht hc]; simp) (ev_sound hS he) fun a' w' hs hb => ⟨hb, h E a' w' hs⟩
theorem wpOp_skip {i : Nat} {a : Act} {w : World} {K : Act → World → Prop} {Q' : Exit → Act → World → Prop} (hi : ops[i]? = some o) (hw : Region.wanted o (yielded ops a.tmps) = false) (h : K (a.put o.dst undef) w) : wpOp P ops Q' i K a w := by
  unfold wpOp
  simp only [hi, hw, Bool.false_eq_true, if_false]
  exact h
theorem awY_skip (i : Nat) (hr : Region.ready .any ops listed = [i]) (hi : ops[i]? = some o) (hw : ∀ E ρ a w, SR E ρ st a w → Region.wanted o (yielded ops a.tmps) = false) (hd : ∀ d, o.dst = some d → d < st.nt) (h : awY P ops fuel (listed.setIfInBounds i true) (st.put o.dst (.v undef)) Q) : awY P ops (fuel + 1) listed st Q :=
  awY_one hr hi fun E a w ⟨ρ, hS⟩ => wpOp_skip hi (hw E ρ a w hS) ⟨fun _ => Below.refl _ _, h E _ w ⟨ρ, hS.put o.dst hd (.im (.v _))⟩⟩
theorem call_step {E : Env} {ρ : Nat → Loc} {a : Act} {w : World} {f : FuncId} {args : List Operand} {ts : Array TypeId} {ys : List AV} {r : AV} {K : Act → World → Prop} {Q' : Exit → Act → World → Prop} (hS : SR E ρ st a w) (ho : o.op = .call ⟨.value (.func f), args.toArray, ts⟩) (ha : argsA st args = some ys) (hc : Ab P f ys r) (him : ys.all immA = true) (hr : immA r = true)
    (hd : ∀ d, o.dst = some d → d < st.nt) (hK : ∀ a' w', S E (st.put o.dst r) a' w' → Below w.heap.size w w' → K a' w') : o.wp P a w K Q' := by
  unfold Oper.wp
  rw [run_call ho hc.1, Oper.upon_enter]
  have hargs := argsA_rep hS ha
  refine (hc.2 w (avd E.bad ρ st.hp) ρ _ (fun b hb => ?_) (fun b hb => ?_) HR.nil ⟨hargs.1, fun j y v hj hv => ?_⟩).mono ?_
  · rcases hb with hb | ⟨k, cs, h1, h2, rfl⟩
    · exact Nat.lt_of_lt_of_le (hS.bad b hb) hS.keep.size
    · exact ((hS.hr.obj k cs h1).mem h2).1
  · obtain ⟨k, cs, hk, _⟩ := hb; simp [look] at hk
  · exact (hargs.2 j y v hj hv).tr (Nat.le_refl _) (fun _ _ _ _ => rfl) (fun b _ hb => (avd_nil _ _ b).1 hb) (fun _ hk => absurd rfl hk)
  · rintro e w' ⟨v, ρ', rfl, hrep, _, hkeep, _⟩
    have hb := keeps_nil hkeep
    refine hK _ _ ⟨ρ, (hS.below hb).put o.dst hd ?_⟩ hb
    exact ((hrep.imm (ρ' := ρ) hr).tr (Nat.le_refl _) (fun _ _ _ _ => rfl) (fun b _ hb => (avd_nil _ _ b).2 hb) (fun _ hk => absurd rfl hk))
theorem callF_step {E : Env} {ρ : Nat → Loc} {a : Act} {w : World} {f : FuncId} {args : List Operand} {ts : Array TypeId} {ys zs : List AV} {r : AV} {K : Act → World → Prop} {Q' : Exit → Act → World → Prop} (hS : SR E ρ st a w) (ho : o.op = .call ⟨.value (.func f), args.toArray, ts⟩) (ha : argsA st args = some ys) (hz : roPs st.hp [] ys = some zs) (hc : Ab P f zs r) (hr : flatA r = true)
    (hd : ∀ d, o.dst = some d → d < st.nt) (hK : ∀ a' w', S E (st.put o.dst r) a' w' → Below w.heap.size w w' → K a' w') : o.wp P a w K Q' := by
  unfold Oper.wp
  rw [run_call ho hc.1, Oper.upon_enter]
  have hargs := argsA_rep hS ha
  obtain ⟨z1, z2⟩ := roPs_spec hz
  refine (hc.2 w (fun _ => False) ρ _ (fun b hb => hb.elim) (fun b _ h => h) HR.nil ⟨by rw [hargs.1, z1], fun j z v hj hv => ?_⟩).mono ?_
  · have hjl : j < ys.length := by rw [← z1]; exact (List.getElem?_eq_some_iff.1 hj).1
    exact roP_sound hS.hr.obj (fun b _ hb => ((avd_nil _ _ b).1 hb).elim) (fun k cs _ _ _ hb => ((avd_nil _ _ _).1 hb).elim) (hargs.2 j ys[j] v (List.getElem?_eq_getElem hjl) hv) (z2 j _ z (List.getElem?_eq_getElem hjl) hj)
  · rintro e w' ⟨v, ρ', rfl, hrep, _, hkeep, _⟩
    have hb := keeps_nil hkeep
    exact hK _ _ ⟨ρ, (hS.below hb).put o.dst hd (hrep.flat hr)⟩ hb
theorem wpOp_of_wp {i : Nat} {a : Act} {w : World} {K : Act → World → Prop} {Q' : Exit → Act → World → Prop} (hi : ops[i]? = some o) (hw : Region.wanted o (yielded ops a.tmps) = true) (h : o.wp P a w K Q') : wpOp P ops Q' i K a w := by
  unfold wpOp
  simp only [hi, hw, if_true]
  exact .inl h
theorem awY_c (i : Nat) {d : Nat} {f : FuncId} {args : List Operand} {ts : Array TypeId} {ys : List AV} {r : AV} (hr : Region.ready .any ops listed = [i]) (hi : ops[i]? = some o) (hg : o.guard = none) (ho : o.op = .call ⟨.value (.func f), args.toArray, ts⟩) (ha : argsA st args = some ys) (hc : Ab P f ys r) (him : ys.all immA = true) (hir : immA r = true)
    (hd : o.dst = some d) (hdn : d < st.nt) (h : awY P ops fuel (listed.setIfInBounds i true) (st.put (some d) r) Q) : awY P ops (fuel + 1) listed st Q :=
  awY_one hr hi fun E a w ⟨ρ, hS⟩ => wpOp_of_wp hi (by simp [Region.wanted, hg]) (call_step hS ho ha hc him hir (fun e he => by rw [hd] at he; injection he with he; subst he; exact hdn) fun a' w' hs hb => ⟨fun _ => hb, h E a' w' (by rw [hd] at hs; exact hs)⟩)
theorem awY_f (i : Nat) {d : Nat} {f : FuncId} {args : List Operand} {ts : Array TypeId} {ys zs : List AV} {r : AV} (hr : Region.ready .any ops listed = [i]) (hi : ops[i]? = some o) (hg : o.guard = none) (ho : o.op = .call ⟨.value (.func f), args.toArray, ts⟩) (ha : argsA st args = some ys) (hz : roPs st.hp [] ys = some zs) (hc : Ab P f zs r) (hir : flatA r = true)
    (hd : o.dst = some d) (hdn : d < st.nt) (h : awY P ops fuel (listed.setIfInBounds i true) (st.put (some d) r) Q) : awY P ops (fuel + 1) listed st Q :=
  awY_one hr hi fun E a w ⟨ρ, hS⟩ => wpOp_of_wp hi (by simp [Region.wanted, hg]) (callF_step hS ho ha hz hc hir (fun e he => by rw [hd] at he; injection he with he; subst he; exact hdn) fun a' w' hs hb => ⟨fun _ => hb, h E a' w' (by rw [hd] at hs; exact hs)⟩)
theorem awY_evn (i : Nat) {j t d : Nat} {b c : Bool} (hr : Region.ready .any ops listed = [i]) (hi : ops[i]? = some o) (hg : o.guard = some (j, b)) (hj : (ops[j]?).bind (·.dst) = some t) (ht : t < st.nt) (hc : look st.fr t = some (.v (.bool c))) (hne : (c == b) = false) (hd : o.dst = some d) (hdn : d < st.nt)
    (h : awY P ops fuel (listed.setIfInBounds i true) (st.put (some d) (.v undef)) Q) : awY P ops (fuel + 1) listed st Q :=
  awY_skip i hr hi (fun E ρ a w hS => by rw [wanted_of hS hg hj ht hc]; exact hne) (fun e he => by rw [hd] at he; injection he with he; subst he; exact hdn) (by rw [hd]; exact h)
theorem awY_evu (i : Nat) {j t d : Nat} {b : Bool} (hr : Region.ready .any ops listed = [i]) (hi : ops[i]? = some o) (hg : o.guard = some (j, b)) (hj : (ops[j]?).bind (·.dst) = some t) (hc : look st.fr t = some (.v undef)) (hd : o.dst = some d) (hdn : d < st.nt)
    (h : awY P ops fuel (listed.setIfInBounds i true) (st.put (some d) (.v undef)) Q) : awY P ops (fuel + 1) listed st Q :=
  awY_skip i hr hi (fun E ρ a w hS => wanted_undef hS hg hj hc) (fun e he => by rw [hd] at he; injection he with he; subst he; exact hdn) (by rw [hd]; exact h)
end
end Go.Proofs.Ytcplbbbjmalfjaa
