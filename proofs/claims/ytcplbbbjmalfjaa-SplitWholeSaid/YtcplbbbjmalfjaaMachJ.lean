/- The abstract machine, part 10: lists of operations, calls, a function's beginning and end. No program is named here. -/
import Derived.Test.YtcplbbbjmalfjaaMachI
namespace Go.Proofs.Ytcplbbbjmalfjaa
open Go.RowKit
set_option linter.unusedVariables false
set_option linter.unusedSimpArgs false

section
variable {P : Program} {st st' : St} {Q : Exit → St → Prop} {ops : Array Oper} {rest : List Oper} {o : Oper}
theorem awO_nil (h : Q .normal st) : awO P ops [] st Q := fun E a w hS => wpList_nil ⟨st, hS, h⟩
theorem wp_stepTo {E : Env} {a : Act} {w : World} {K : Act → World → Prop} {Q' : Exit → Act → World → Prop} (h : StepTo P E a o st' w) (hK : ∀ a' w', S E st' a' w' → K a' w') : o.wp P a w K Q' := by
  obtain ⟨w', v, hr | ⟨hr, rfl⟩, hs, -⟩ := h
  · unfold Oper.wp; rw [hr]; exact hK _ _ hs
  · unfold Oper.wp; rw [hr]; exact hK _ _ hs
theorem awO_ev (hg : o.guard = none) (h : ev P st o = some st') (hr : awO P ops rest st' Q) : awO P ops (o :: rest) st Q := fun E a w ⟨ρ, hS⟩ =>
  wpList_plain hg fun K hK => wp_stepTo (ev_sound hS h) fun a' w' hs => hK _ _ (hr E a' w' hs)
theorem wanted_of {E : Env} {ρ : Nat → Loc} {a : Act} {w : World} {j t : Nat} {b c : Bool} (hS : SR E ρ st a w) (hg : o.guard = some (j, b)) (hj : (ops[j]?).bind (·.dst) = some t) (ht : t < st.nt) (hc : look st.fr t = some (.v (.bool c))) :
    Region.wanted o (yielded ops a.tmps) = (c == b) := by
  have h1 : a.tmps.getD t undef = .bool c := Rep.v_eq (hS.fr t _ hc)
  have h2 : a.tmps[t]? = some (.bool c) := by
    have hlt : t < a.tmps.size := by rw [hS.size]; exact ht
    rw [Array.getD_eq_getD_getElem?, Array.getElem?_eq_getElem hlt] at h1
    rw [Array.getElem?_eq_getElem hlt]
    exact congrArg some h1
  unfold Region.wanted
  rw [hg]
  simp only [yielded, hj, Option.bind_some, h2]
  cases c <;> cases b <;> rfl
theorem awO_yes {j t : Nat} {b : Bool} (hg : o.guard = some (j, b)) (hj : (ops[j]?).bind (·.dst) = some t) (ht : t < st.nt) (hc : look st.fr t = some (.v (.bool b))) (h : ev P st o = some st') (hr : awO P ops rest st' Q) : awO P ops (o :: rest) st Q := fun E a w ⟨ρ, hS⟩ => by
  refine wpList_step fun K hK => ?_
  rw [wanted_of hS hg hj ht hc, if_pos (by simp)]
  exact wp_stepTo (ev_sound hS h) fun a' w' hs => hK _ _ (hr E a' w' hs)
theorem awO_no {j t : Nat} {b c : Bool} (hg : o.guard = some (j, b)) (hj : (ops[j]?).bind (·.dst) = some t) (ht : t < st.nt) (hc : look st.fr t = some (.v (.bool c))) (hne : (c == b) = false) (hd : ∀ d, o.dst = some d → d < st.nt) (hr : awO P ops rest (st.put o.dst (.v undef)) Q) :
    awO P ops (o :: rest) st Q := fun E a w ⟨ρ, hS⟩ => by
  refine wpList_step fun K hK => ?_
  rw [wanted_of hS hg hj ht hc, hne, if_neg (by simp)]
  exact hK _ _ (hr E _ w ⟨ρ, hS.put o.dst hd (.im (.v _))⟩)
theorem wanted_undef {E : Env} {ρ : Nat → Loc} {a : Act} {w : World} {j t : Nat} {b : Bool} (hS : SR E ρ st a w) (hg : o.guard = some (j, b)) (hj : (ops[j]?).bind (·.dst) = some t) (hc : look st.fr t = some (.v undef)) :
    Region.wanted o (yielded ops a.tmps) = false := by
  have h1 : a.tmps.getD t undef = undef := Rep.v_eq (hS.fr t _ hc)
  unfold Region.wanted
  rw [hg]
  simp only [yielded, hj, Option.bind_some]
  cases h2 : a.tmps[t]? with
  | none => cases b <;> rfl
  | some x =>
    rw [Array.getD_eq_getD_getElem?, h2] at h1
    simp only [Option.getD_some] at h1
    subst h1
    cases b <;> rfl
theorem awO_undef {j t : Nat} {b : Bool} (hg : o.guard = some (j, b)) (hj : (ops[j]?).bind (·.dst) = some t) (hc : look st.fr t = some (.v undef)) (hd : ∀ d, o.dst = some d → d < st.nt) (hr : awO P ops rest (st.put o.dst (.v undef)) Q) :
    awO P ops (o :: rest) st Q := fun E a w ⟨ρ, hS⟩ => by
  refine wpList_step fun K hK => ?_
  rw [wanted_undef hS hg hj hc, if_neg (by simp)]
  exact hK _ _ (hr E _ w ⟨ρ, hS.put o.dst hd (.im (.v _))⟩)
/-- A known bool in a temporary: two ways. -/
theorem awO_split {t : Nat} {c : Bool} (hc : look st.fr t = some (.v (.bool c))) {l : List Oper} (h1 : c = true → awO P ops l { st with fr := (t, .v (.bool true)) :: st.fr } Q) (h2 : c = false → awO P ops l { st with fr := (t, .v (.bool false)) :: st.fr } Q) : awO P ops l st Q := fun E a w ⟨ρ, hS⟩ => by
  have key : ∀ b, c = b → SR E ρ { st with fr := (t, .v (.bool b)) :: st.fr } a w := fun b e => by
    subst e
    refine ⟨fun t' x hx => ?_, hS.hr, hS.own, hS.keep, hS.bad, hS.nb, hS.size, hS.defers, hS.fx⟩
    rw [look_cons] at hx
    split at hx
    · next e => subst e; injection hx with hx; subst hx; exact hS.fr t _ hc
    · exact hS.fr t' x hx
  cases c with
  | true => exact h1 rfl E a w ⟨ρ, key true rfl⟩
  | false => exact h2 rfl E a w ⟨ρ, key false rfl⟩
theorem aw_region {id : Nat} {l : List Oper} (h : awO P l.toArray l st Q) : aw P (.region id l.toArray false) st Q := fun E a w hS => wp_region_lit (h E a w hS)
theorem awO_weak (h : ∀ E a w, S E st a w → S E st' a w) {l : List Oper} (hc : awO P ops l st' Q) : awO P ops l st Q := fun E a w hS => hc E a w (h E a w hS)

/-! ### Calls -/
theorem run_call {f : FuncId} {args : Array Operand} {ts : Array TypeId} (ho : o.op = .call ⟨.value (.func f), args, ts⟩) (hc : callable P f = true) (a : Act) (w : World) : (execOp a.eval o).run P w = .ok (.enter f (args.map a.eval)) w := by
  unfold callable at hc
  split at hc
  · next fn hf =>
    simp only [Bool.and_eq_true, Bool.not_eq_true'] at hc
    obtain ⟨h1, h2⟩ := hc
    have h3 : ¬ fn.body = none := by cases hb : fn.body <;> simp_all
    have h4 : ¬ fn.name = "runtime.NumGoroutine" := by simpa using h1
    unfold execOp
    simp only [ho, resolve, Act.eval, Deferred.ofValue, invoke]
    simp [callFunc, hf, h4, h3]
  · cases hc
def argsA (st : St) : List Operand → Option (List AV)
  | [] => some []
  | x :: r => (opv st x).bind fun y => (argsA st r).map (y :: ·)
theorem argsA_nil (st : St) : argsA st [] = some [] := rfl
theorem argsA_cons (st : St) (x : Operand) (r : List Operand) : argsA st (x :: r) = (opv st x).bind fun y => (argsA st r).map (y :: ·) := rfl
theorem argsA_spec : ∀ {l : List Operand} {ys : List AV}, argsA st l = some ys → ys.length = l.length ∧ ∀ (j : Nat) (x : Operand) (y : AV), l[j]? = some x → ys[j]? = some y → opv st x = some y
  | [], ys, h => by simp only [argsA, Option.some.injEq] at h; subst h; exact ⟨rfl, fun j x y hx => by simp at hx⟩
  | x :: r, ys, h => by
    simp only [argsA, Option.bind_eq_some_iff, Option.map_eq_some_iff] at h
    obtain ⟨y, hy, l, hl, rfl⟩ := h
    obtain ⟨h1, h2⟩ := argsA_spec hl
    refine ⟨by simp [h1], fun j a b ha hb => ?_⟩
    rcases j with _ | j
    · simp at ha hb; subst ha; subst hb; exact hy
    · simp at ha hb; exact h2 j a b ha hb
theorem argsA_rep {E : Env} {ρ : Nat → Loc} {a : Act} {w : World} (hS : SR E ρ st a w) {args : List Operand} {ys : List AV} (h : argsA st args = some ys) : RepC w (avd E.bad ρ st.hp) ρ ys (args.toArray.map a.eval) := by
  obtain ⟨h1, h2⟩ := argsA_spec h
  refine ⟨by simp [h1], fun j y v hj hv => ?_⟩
  simp at hv
  obtain ⟨x, hx, rfl⟩ := hv
  exact opv_sound hS (h2 j x y hx hj)
theorem avd_nil (bad : Nat → Prop) (ρ : Nat → Loc) (b : Nat) : avd bad ρ [] b ↔ bad b := by
  constructor
  · rintro (h | ⟨k, cs, h, _⟩)
    · exact h
    · simp [look] at h
  · exact .inl
theorem keeps_nil {w w' : World} {ρ : Nat → Loc} (h : Keeps w w' (ownB ρ [])) : Below w.heap.size w w' := h.below (fun k hk => by obtain ⟨_, _, hk, _⟩ := hk; simp [look] at hk) (Nat.le_refl _)
theorem HR.nil {bad : Nat → Prop} {ρ : Nat → Loc} {w : World} : HR bad ρ [] w := ⟨fun k cs h => by simp [look] at h, fun k k' cs cs' h => by simp [look] at h⟩
/-- Arguments and result are data: they avoid whatever the caller owns. -/
theorem awO_call {f : FuncId} {args : List Operand} {ts : Array TypeId} {ys : List AV} {r : AV} (hg : o.guard = none) (ho : o.op = .call ⟨.value (.func f), args.toArray, ts⟩) (ha : argsA st args = some ys) (hc : Ab P f ys r) (hi : ys.all immA = true) (hr : immA r = true)
    (hd : ∀ d, o.dst = some d → d < st.nt) (h : awO P ops rest (st.put o.dst r) Q) : awO P ops (o :: rest) st Q := fun E a w ⟨ρ, hS⟩ => by
  refine wpList_plain hg fun K hK => ?_
  unfold Oper.wp
  rw [run_call ho hc.1, Oper.upon_enter]
  have hargs := argsA_rep hS ha
  refine (hc.2 w (avd E.bad ρ st.hp) ρ _ (fun b hb => ?_) (fun b hb => ?_) HR.nil ⟨hargs.1, fun j y v hj hv => ?_⟩).mono ?_
  · rcases hb with hb | ⟨k, cs, h1, h2, rfl⟩
    · exact Nat.lt_of_lt_of_le (hS.bad b hb) hS.keep.size
    · exact ((hS.hr.obj k cs h1).mem h2).1
  · obtain ⟨k, cs, hk, _⟩ := hb; simp [look] at hk
  · exact (hargs.2 j y v hj hv).tr (Nat.le_refl _) (fun _ _ _ _ => rfl) (fun b _ hb => (avd_nil _ _ b).1 hb) (fun _ hk => absurd rfl hk)
  · rintro e w' ⟨v, ρ', rfl, hrep, _, hkeep, _⟩
    have hb := keeps_nil hkeep
    refine hK _ _ (h E _ w' ⟨ρ, (hS.below hb).put o.dst hd ?_⟩)
    exact ((hrep.imm (ρ' := ρ) hr).tr (Nat.le_refl _) (fun _ _ _ _ => rfl) (fun b _ hb => (avd_nil _ _ b).2 hb) (fun _ hk => absurd rfl hk))
/-- Own objects may be read by the callee; the result speaks of no memory. -/
theorem awO_callF {f : FuncId} {args : List Operand} {ts : Array TypeId} {ys zs : List AV} {r : AV} (hg : o.guard = none) (ho : o.op = .call ⟨.value (.func f), args.toArray, ts⟩) (ha : argsA st args = some ys) (hz : roPs st.hp [] ys = some zs) (hc : Ab P f zs r) (hr : flatA r = true)
    (hd : ∀ d, o.dst = some d → d < st.nt) (h : awO P ops rest (st.put o.dst r) Q) : awO P ops (o :: rest) st Q := fun E a w ⟨ρ, hS⟩ => by
  refine wpList_plain hg fun K hK => ?_
  unfold Oper.wp
  rw [run_call ho hc.1, Oper.upon_enter]
  have hargs := argsA_rep hS ha
  obtain ⟨z1, z2⟩ := roPs_spec hz
  refine (hc.2 w (fun _ => False) ρ _ (fun b hb => hb.elim) (fun b _ h => h) HR.nil ⟨by rw [hargs.1, z1], fun j z v hj hv => ?_⟩).mono ?_
  · have hjl : j < ys.length := by rw [← z1]; exact (List.getElem?_eq_some_iff.1 hj).1
    exact roP_sound hS.hr.obj (fun b _ hb => ((avd_nil _ _ b).1 hb).elim) (fun k cs _ _ _ hb => ((avd_nil _ _ _).1 hb).elim) (hargs.2 j ys[j] v (List.getElem?_eq_getElem hjl) hv) (z2 j _ z (List.getElem?_eq_getElem hjl) hj)
  · rintro e w' ⟨v, ρ', rfl, hrep, _, hkeep, _⟩
    exact hK _ _ (h E _ w' ⟨ρ, (hS.below (keeps_nil hkeep)).put o.dst hd (hrep.flat hr)⟩)
end

/-! ### A function -/
def num : Nat → List AV → List (Nat × AV)
  | _, [] => []
  | i, x :: r => (i, x) :: num (i + 1) r
theorem num_nil (i : Nat) : num i [] = [] := rfl
theorem num_cons (i : Nat) (x : AV) (r : List AV) : num i (x :: r) = (i, x) :: num (i + 1) r := rfl
theorem look_num : ∀ (l : List AV) (i t : Nat) (x : AV), look (num i l) t = some x → ∃ j, t = i + j ∧ l[j]? = some x
  | [], i, t, x, h => by simp [num, look] at h
  | y :: l, i, t, x, h => by
    rw [num_cons, look_cons] at h
    split at h
    · next e => injection h with h; subst h; exact ⟨0, by omega, rfl⟩
    · obtain ⟨j, h1, h2⟩ := look_num l (i + 1) t x h
      exact ⟨j + 1, by omega, h2⟩
def resR (P : Program) (st : St) : ResultVar → Option AV
  | .tmp t => look st.fr t
  | .cell a t => (look st.fr a).bind (qLoad P st.hp t)
def resL (P : Program) (st : St) : List ResultVar → Option (List AV)
  | [] => some []
  | x :: r => (resR P st x).bind fun y => (resL P st r).map (y :: ·)
def resOf (tmps : Array Value) : ResultVar → Sem Value
  | .tmp t => pure (tmps.getD t undef)
  | .cell a t => do loadVar t (← asAddr (tmps.getD a undef))
theorem results_eq (fn : Func) (tmps : Array Value) : results fn tmps = (do let vs ← fn.results.mapM (resOf tmps); pure (if h : vs.size = 1 then vs[0] else .tuple vs)) := by
  rfl
def one : List AV → AV
  | [x] => x
  | l => .tp l
theorem resR_tmp (P : Program) (st : St) (t : Nat) : resR P st (.tmp t) = look st.fr t := rfl
theorem resR_cell (P : Program) (st : St) (a : Nat) (t : TypeId) : resR P st (.cell a t) = (look st.fr a).bind (qLoad P st.hp t) := rfl
theorem resL_nil (P : Program) (st : St) : resL P st [] = some [] := rfl
theorem resL_cons (P : Program) (st : St) (x : ResultVar) (r : List ResultVar) : resL P st (x :: r) = (resR P st x).bind fun y => (resL P st r).map (y :: ·) := rfl
section
variable {P : Program} {E : Env} {ρ : Nat → Loc} {st : St} {a : Act} {w : World}
theorem qLoad_addr {t : TypeId} {p y : AV} (h : qLoad P st.hp t p = some y) : (∃ k off, p = .pt k off) ∨ ∃ cs, p = .rp cs := by
  cases p with
  | pt k off => exact .inl ⟨k, off, rfl⟩
  | rp cs => exact .inr ⟨cs, rfl⟩
  | _ => simp [qLoad] at h
theorem resL_sound (hS : SR E ρ st a w) : ∀ {l : List ResultVar} {ys : List AV}, resL P st l = some ys → ∃ us : List Value, us.length = ys.length ∧ (∀ (j : Nat) (y : AV) (u : Value), ys[j]? = some y → us[j]? = some u → Rep w (avd E.bad ρ st.hp) ρ y u) ∧
    (l.mapM (resOf a.tmps)).run P w = .ok us w
  | [], ys, h => by simp only [resL, Option.some.injEq] at h; subst h; exact ⟨[], rfl, fun j y u hj => by simp at hj, by simp⟩
  | x :: r, ys, h => by
    simp only [resL, Option.bind_eq_some_iff, Option.map_eq_some_iff] at h
    obtain ⟨y, hy, l, hl, rfl⟩ := h
    obtain ⟨us, h1, h2, h3⟩ := resL_sound hS hl
    have hx : ∃ u, Rep w (avd E.bad ρ st.hp) ρ y u ∧ (resOf a.tmps x).run P w = .ok u w := by
      cases x with
      | tmp t => exact ⟨_, hS.fr t y hy, rfl⟩
      | cell p t =>
        simp only [resR, Option.bind_eq_some_iff] at hy
        obtain ⟨pa, hp, hq⟩ := hy
        have hrp := hS.fr p pa hp
        obtain ⟨u, hu, hr⟩ := qLoad_sound hS.hr.obj hrp hq
        have hu := hu w (Ext.refl w)
        refine ⟨u, hr, ?_⟩
        have haddr : ∃ ad, a.tmps.getD p undef = .pointer (some ad) := by
          rcases qLoad_addr hq with ⟨k, off, rfl⟩ | ⟨cs, rfl⟩
          · exact ⟨_, hrp.pt_inv⟩
          · obtain ⟨b, off, u, e, _⟩ := hrp.rp_inv; exact ⟨_, e⟩
        obtain ⟨ad, had⟩ := haddr
        rw [had] at hu
        simp only [resOf, had]
        simp [Instr.loadAt, Instr.sureAddr] at hu
        simp [asAddr, hu]
    obtain ⟨u, hu1, hu2⟩ := hx
    refine ⟨u :: us, by simp [h1], fun j y' u' hj hu' => ?_, ?_⟩
    · rcases j with _ | j
      · simp at hj hu'; subst hj; subst hu'; exact hu1
      · simp at hj hu'; exact h2 j y' u' hj hu'
    · rw [List.mapM_cons, Sem.run_bind, hu2]
      simp only [Result.andThen_ok, Sem.run_bind, h3, Sem.run_pure]
theorem results_sound (hS : SR E ρ st a w) {fn : Func} {ys : List AV} (h : resL P st fn.results.toList = some ys) : ∃ v, (results fn a.tmps).run P w = .ok v w ∧ Rep w (avd E.bad ρ st.hp) ρ (one ys) v := by
  obtain ⟨us, h1, h2, h3⟩ := resL_sound hS h
  have hm : (fn.results.mapM (resOf a.tmps)).run P w = .ok us.toArray w := by
    have e : fn.results = fn.results.toList.toArray := by simp
    rw [e, List.mapM_toArray, Sem.run_map, h3]
    rfl
  rw [results_eq]
  simp only [Sem.run_bind, hm, Result.andThen_ok]
  by_cases hone : us.length = 1
  · obtain ⟨y, rfl⟩ := List.length_eq_one_iff.1 (h1.symm.trans hone)
    obtain ⟨u, rfl⟩ := List.length_eq_one_iff.1 hone
    exact ⟨u, by simp, h2 0 y u rfl rfl⟩
  · refine ⟨.tuple us.toArray, by simp [hone], ?_⟩
    have : one ys = .tp ys := by
      unfold one
      split
      · next x => simp at h1; omega
      · rfl
    rw [this]
    exact .tp (by simpa using h1) fun j y u hj hu => h2 j y u hj (by simpa using hu)
end
/-- What is asked at the end: the results are r (what is not kept has become data), the own objects that stay are h'. -/
def retQ (P : Program) (rs : List ResultVar) (r : AV) (h' : Hp) (keep fix : List Nat) : Exit → St → Prop := fun e st =>
  (e = .normal ∨ e = .ret) ∧ (∃ ys, resL P st rs = some ys ∧ roA st.hp keep (one ys) = some r) ∧ (∀ p ∈ h', p.1 ∈ keep ∧ ∃ cs, look st.hp p.1 = some cs ∧ roCs st.hp keep cs = some p.2) ∧ st.fx = fix
theorem Fn_of_aw {P : Program} {f : FuncId} {fn : Func} {c : Code} {args : List AV} {h h' : Hp} {r : AV} {fix keep : List Nat} (hf : P.funcs[f]? = some fn) (hb : fn.body = some c) (hn : (fn.name == "runtime.NumGoroutine") = false) (hsz : args.length ≤ fn.ntmps)
    (haw : aw P c ⟨num 0 args, h, fn.ntmps, fix⟩ (retQ P fn.results.toList r h' keep fix)) : Fn P f args h r h' fix := by
  refine ⟨by simp [callable, hf, hn, hb], fun w bad ρ vs hbad hnb hHR hargs => ?_⟩
  refine calls_of_wp hf hb ?_
  have hS : S ⟨w, bad, ownB ρ h, ρ⟩ ⟨num 0 args, h, fn.ntmps, fix⟩ { tmps := vs ++ Array.replicate (fn.ntmps - vs.size) undef, defers := [] } w := by
    refine ⟨ρ, fun t x hx => ?_, hHR, fun b hb => .inl hb, Keeps.refl _ _, hbad, hnb, ?_, rfl, fun _ _ => rfl⟩
    · obtain ⟨j, rfl, hj⟩ := look_num _ _ _ _ hx
      have hjl : j < vs.size := by rw [hargs.1]; exact (List.getElem?_eq_some_iff.1 hj).1
      have e : (vs ++ Array.replicate (fn.ntmps - vs.size) undef).getD (0 + j) undef = vs[j] := by
        rw [Nat.zero_add, Array.getD_eq_getD_getElem?, Array.getElem?_append_left hjl, Array.getElem?_eq_getElem hjl]
        rfl
      simp only [e]
      exact hargs.2 j x vs[j] hj (Array.getElem?_eq_getElem hjl)
    · have := hargs.1
      simp only [Array.size_append, Array.size_replicate]
      omega
  refine wp_mono (haw _ _ w hS) fun e a' w' hq => ?_
  obtain ⟨st, ⟨ρ', hs⟩, he, ⟨ys, hres, hro⟩, hh', hfx⟩ := hq
  obtain ⟨v, hv, hrep⟩ := results_sound hs hres
  have hk : ∀ k cs, look h' k = some cs → k ∈ keep ∧ ∃ cs0, look st.hp k = some cs0 ∧ roCs st.hp keep cs0 = some cs := fun k cs hk => hh' (k, cs) (look_mem hk)
  have hown : ∀ b, ownB ρ' h' b → ownB ρ' st.hp b := fun b ⟨k, cs, h1, h2⟩ => by
    obtain ⟨_, cs0, h3, _⟩ := hk k cs h1
    exact ⟨k, cs0, h3, h2⟩
  have hav : ∀ b, b < w'.heap.size → avd bad ρ' h' b → avd bad ρ' st.hp b := fun b _ hb => hb.imp id (hown b)
  have hpub : ∀ k cs, look st.hp k = some cs → k ∉ keep → 0 < (ρ' k).cap → ¬ avd bad ρ' h' (ρ' k).g := fun k cs h1 h2 h3 h4 => by
    rcases h4 with h4 | ⟨k', cs', g1, g2, g3⟩
    · exact hs.nb _ ⟨k, cs, h1, h3, rfl⟩ h4
    · obtain ⟨q1, cs0, q2, _⟩ := hk k' cs' g1
      exact hs.hr.dis k' k cs0 cs q2 h1 (fun e => h2 (by rw [← e]; exact q1)) g2 h3 g3
  have fin : a'.defers = [] ∧ ∃ v, (results fn a'.tmps).run P w' = .ok v w' ∧ ∃ v' ρ', Ending.returned v = .returned v' ∧ Rep w' (avd bad ρ' h') ρ' r v' ∧ HR bad ρ' h' w' ∧ Keeps w w' (ownB ρ h) ∧ (∀ b, ownB ρ' h' b → (ownB ρ h b ∨ w.heap.size ≤ b) ∧ ¬ bad b) ∧ ∀ k ∈ fix, ρ' k = ρ k := by
    refine ⟨hs.defers, v, hv, v, ρ', rfl, roA_sound hs.hr.obj hav hpub hrep hro, ⟨fun k cs h1 => ?_, fun k k' cs cs' h1 h2 => ?_⟩, hs.keep, fun b hb => ⟨hs.own b (hown b hb), hs.nb b (hown b hb)⟩, fun k hk => hs.fx k (by rw [hfx]; exact hk)⟩
    · obtain ⟨_, cs0, h2, h3⟩ := hk k cs h1
      have hob := hs.hr.obj k cs0 h2
      obtain ⟨r1, r2⟩ := roCs_spec h3
      refine ⟨by have := hob.len; omega, hob.mem, fun j x hj => ?_⟩
      have hj' : j < cs0.length := by rw [← r1]; exact (List.getElem?_eq_some_iff.1 hj).1
      obtain ⟨u, hu, hr⟩ := hob.cells j cs0[j] (List.getElem?_eq_getElem hj')
      exact ⟨u, hu, roC_sound hs.hr.obj hav hpub hr (r2 j _ x (List.getElem?_eq_getElem hj') hj)⟩
    · obtain ⟨_, c1, g1, _⟩ := hk k cs h1
      obtain ⟨_, c2, g2, _⟩ := hk k' cs' h2
      exact hs.hr.dis k k' c1 c2 g1 g2
  rcases he with rfl | rfl
  · exact fin
  · exact fin
end Go.Proofs.Ytcplbbbjmalfjaa
