/- The abstract machine, part 20: guarded calls, and what came later. No program is named here. -/
import Derived.Test.YtcplbbbjmalfjaaMachS
namespace Go.Proofs.Ytcplbbbjmalfjaa
open Go.RowKit
set_option linter.unusedVariables false
set_option linter.unusedSimpArgs false
section
variable {P : Program} {Q : Exit → St → Prop} {ops : Array Oper} {rest : List Oper}
/-- A guard that is known to hold goes. -/
theorem awO_un {dst : Option Nat} {op : Op} {ty : TypeId} {ps : String} {af : Array Edge} {fr : List (Nat × AV)} {hp : Hp} {nt : Nat} {fx : List Nat} {j t : Nat} {b : Bool} (hj : (ops[j]?).bind (·.dst) = some t) (ht : t < nt) (hc : look fr t = some (.v (.bool b)))
    (h : awO P ops (⟨dst, op, ty, ps, af, none⟩ :: rest) ⟨fr, hp, nt, fx⟩ Q) : awO P ops (⟨dst, op, ty, ps, af, some (j, b)⟩ :: rest) ⟨fr, hp, nt, fx⟩ Q := fun E a w ⟨ρ, hS⟩ => by
  have h1 := h E a w ⟨ρ, hS⟩
  have hw := wanted_of (ops := ops) (o := ⟨dst, op, ty, ps, af, some (j, b)⟩) hS rfl hj ht hc
  simp only [wpList, hw, beq_self_eq_true] at h1 ⊢
  exact h1
end
/-! ### A nil slice is a slice of no elements -/
def nzC : AV → AV
  | .v (.slice none 0 0) => .rd 0 []
  | x => x
def nzP : AV → AV
  | .ag cs => .ag (cs.map nzC)
  | x => nzC x
def nz : AV → AV
  | .tp cs => .tp (cs.map nzP)
  | x => nzP x
section
variable {w : World} {av : Nat → Prop} {ρ : Nat → Loc}
theorem nilrd : RepI w av (.rd 0 []) (.slice none 0 0) := .rd (fun _ => undef) (Nat.le_refl _) (by omega) (fun _ => rfl) (fun h => absurd h (by omega)) (fun j a hj => by simp at hj)
theorem nzC_rep {a : AV} {v : Value} (h : Rep w av ρ a v) : Rep w av ρ (nzC a) v := by
  unfold nzC
  split
  · rw [h.v_eq]; exact .im nilrd
  · exact h
theorem nzP_rep {a : AV} {v : Value} (h : Rep w av ρ a v) : Rep w av ρ (nzP a) v := by
  unfold nzP
  split
  · obtain ⟨us, rfl, hn, hr⟩ := h.ag_inv
    refine .ag (by simpa using hn) fun j a x hj hx => ?_
    rw [List.getElem?_map, Option.map_eq_some_iff] at hj
    obtain ⟨b, hb, rfl⟩ := hj
    exact nzC_rep (hr j b x hb hx)
  · exact nzC_rep h
theorem nz_rep {a : AV} {v : Value} (h : Rep w av ρ a v) : Rep w av ρ (nz a) v := by
  unfold nz
  split
  · obtain ⟨us, rfl, hn, hr⟩ := h.tp_inv
    refine .tp (by simpa using hn) fun j a x hj hx => ?_
    rw [List.getElem?_map, Option.map_eq_some_iff] at hj
    obtain ⟨b, hb, rfl⟩ := hj
    exact nzP_rep (hr j b x hb hx)
  · exact nzP_rep h
end
/-- Nil slices as arguments. -/
theorem Fn_nz {P : Program} {f : FuncId} {args : List AV} {h : Hp} {r : AV} {h' : Hp} {fix : List Nat} (hf : Fn P f (args.map nz) h r h' fix) : Fn P f args h r h' fix :=
  ⟨hf.1, fun w bad ρ vs h1 h2 h3 h4 => hf.2 w bad ρ vs h1 h2 h3 ⟨by simpa using h4.1, fun j a x hj hx => by
    rw [List.getElem?_map, Option.map_eq_some_iff] at hj
    obtain ⟨b, hb, rfl⟩ := hj
    exact nz_rep (h4.2 j b x hb hx)⟩⟩
section
variable {P : Program} {Q : Exit → St → Prop} {c : Code} {fr : List (Nat × AV)} {hp : Hp} {nt : Nat} {fx : List Nat}
theorem S_nzT {E : Env} {a : Act} {w : World} (t : Nat) {x : AV} (ht : look fr t = some x) (hS : S E ⟨fr, hp, nt, fx⟩ a w) : S E ⟨(t, nz x) :: fr, hp, nt, fx⟩ a w := by
  obtain ⟨ρ, hS⟩ := hS
  refine ⟨ρ, fun t' y hy => ?_, hS.hr, hS.own, hS.keep, hS.bad, hS.nb, hS.size, hS.defers, hS.fx⟩
  rw [look_cons] at hy
  split at hy
  · next e => subst e; injection hy with hy; subst hy; exact nz_rep (hS.fr t _ ht)
  · exact hS.fr t' y hy
/-- In the object k, nil slices are slices of no elements. -/
theorem S_nzO {E : Env} {a : Act} {w : World} (k : Nat) {cs : List AV} (hk : look hp k = some cs) (hS : S E ⟨fr, hp, nt, fx⟩ a w) : S E ⟨fr, hset k (cs.map nzC) hp, nt, fx⟩ a w := by
  obtain ⟨ρ, hS⟩ := hS
  have hlook : ∀ j, look (hset k (cs.map nzC) hp) j = if j = k then some (cs.map nzC) else look hp j := look_hset k _ hp
  have hown : ownB ρ (hset k (cs.map nzC) hp) = ownB ρ hp := by
    funext b
    apply propext
    constructor
    · rintro ⟨j, c', h1, h2⟩
      rw [hlook] at h1
      split at h1
      · next e => subst e; exact ⟨j, cs, hk, h2⟩
      · exact ⟨j, c', h1, h2⟩
    · rintro ⟨j, c', h1, h2⟩
      by_cases e : j = k
      · subst e; exact ⟨j, _, by rw [hlook, if_pos rfl], h2⟩
      · exact ⟨j, c', by rw [hlook, if_neg e]; exact h1, h2⟩
  have eav : avd E.bad ρ (hset k (cs.map nzC) hp) = avd E.bad ρ hp := by unfold avd; rw [hown]
  have g : ∀ i c, (if i = k then some (cs.map nzC) else look hp i) = some c → ∃ c0, look hp i = some c0 := fun i c hi => by
    split at hi
    · next e => subst e; exact ⟨cs, hk⟩
    · exact ⟨c, hi⟩
  refine ⟨ρ, fun t x hx => by simp only [eav]; exact hS.fr t x hx, ⟨fun j c' hj => ?_, fun j j' c1 c2 h1 h2 => ?_⟩, by simp only [hown]; exact hS.own, hS.keep, hS.bad, by simp only [hown]; exact hS.nb, hS.size, hS.defers, hS.fx⟩
  · simp only [eav]
    simp only [hlook] at hj
    split at hj
    · next e =>
      subst e
      injection hj with hj
      subst hj
      have hob := hS.hr.obj j cs hk
      refine ⟨by simpa using hob.len, hob.mem, fun i x hx => ?_⟩
      rw [List.getElem?_map, Option.map_eq_some_iff] at hx
      obtain ⟨y, hy, rfl⟩ := hx
      obtain ⟨v, hv, hr⟩ := hob.cells i y hy
      exact ⟨v, hv, nzC_rep hr⟩
    · exact hS.hr.obj j c' hj
  · simp only [hlook] at h1 h2
    obtain ⟨c0, g1⟩ := g j c1 h1
    obtain ⟨c1', g2⟩ := g j' c2 h2
    exact hS.hr.dis j j' c0 c1' g1 g2
theorem aw_nzT (t : Nat) {x : AV} (ht : look fr t = some x) (h : aw P c ⟨(t, nz x) :: fr, hp, nt, fx⟩ Q) : aw P c ⟨fr, hp, nt, fx⟩ Q := aw_weak (fun E a w hS => S_nzT t ht hS) h
theorem aw_nzO (k : Nat) {cs : List AV} (hk : look hp k = some cs) (h : aw P c ⟨fr, hset k (cs.map nzC) hp, nt, fx⟩ Q) : aw P c ⟨fr, hp, nt, fx⟩ Q := aw_weak (fun E a w hS => S_nzO k hk hS) h
end
theorem nzC_nil : nzC (.v (.slice none 0 0)) = .rd 0 [] := rfl
theorem nzC_int (k : IntKind) (n : Int) : nzC (.v (.int k n)) = .v (.int k n) := rfl
theorem nzC_bool (b : Bool) : nzC (.v (.bool b)) = .v (.bool b) := rfl
theorem nzC_string (b : ByteArray) : nzC (.v (.string b)) = .v (.string b) := rfl
theorem nzC_rd (n : Nat) (cs : List AV) : nzC (.rd n cs) = .rd n cs := rfl
theorem nzC_os (k o s n : Nat) : nzC (.os k o s n) = .os k o s n := rfl
theorem nz_nil : nz (.v (.slice none 0 0)) = .rd 0 [] := rfl
theorem nz_ag (cs : List AV) : nz (.ag cs) = .ag (cs.map nzC) := rfl
attribute [go_sem] nzC_nil nzC_int nzC_bool nzC_string nzC_rd nzC_os nz_nil nz_ag
/-! ### Guarded calls in drawn regions -/
section
variable {P : Program} {ops : Array Oper} {Q : Exit → St → Prop} {st st' : St} {listed : Array Bool} {fuel : Nat} {o : Oper}
theorem awY_tn (i : Nat) {j t d : Nat} {b c : Bool} (hs : takeB ops listed i = true) (hn : NP Q) (hi : ops[i]? = some o) (hg : o.guard = some (j, b)) (hj : (ops[j]?).bind (·.dst) = some t) (ht : t < st.nt) (hc : look st.fr t = some (.v (.bool c))) (hne : (c == b) = false) (hd : o.dst = some d) (hdn : d < st.nt)
    (h : awY P ops fuel (listed.setIfInBounds i true) (st.put (some d) (.v undef)) Q) : awY P ops (fuel + 1) listed st Q :=
  awY_first hn hs hi (fun e he => by rw [hd] at he; injection he with he; subst he; exact hdn) (fun E ρ a w hS => ⟨undef, .inr ⟨by rw [wanted_of hS hg hj ht hc]; exact hne, rfl⟩, .im (.v _)⟩) (by rw [hd]; exact h)
theorem awY_tu (i : Nat) {j t d : Nat} {b : Bool} (hs : takeB ops listed i = true) (hn : NP Q) (hi : ops[i]? = some o) (hg : o.guard = some (j, b)) (hj : (ops[j]?).bind (·.dst) = some t) (hc : look st.fr t = some (.v undef)) (hd : o.dst = some d) (hdn : d < st.nt)
    (h : awY P ops fuel (listed.setIfInBounds i true) (st.put (some d) (.v undef)) Q) : awY P ops (fuel + 1) listed st Q :=
  awY_first hn hs hi (fun e he => by rw [hd] at he; injection he with he; subst he; exact hdn) (fun E ρ a w hS => ⟨undef, .inr ⟨wanted_undef hS hg hj hc, rfl⟩, .im (.v _)⟩) (by rw [hd]; exact h)
theorem awI_cy {i d j t : Nat} {b : Bool} {f : FuncId} {args : List Operand} {ts : Array TypeId} {ys : List AV} {r : AV} (hi : ops[i]? = some o) (hg : o.guard = some (j, b)) (hj : (ops[j]?).bind (·.dst) = some t) (ht : t < st.nt) (hcc : look st.fr t = some (.v (.bool b))) (ho : o.op = .call ⟨.value (.func f), args.toArray, ts⟩) (ha : argsA st args = some ys) (hc : Ab P f ys r) (him : ys.all immA = true) (hir : immA r = true)
    (hd : o.dst = some d) (hdn : d < st.nt) (h : awY P ops fuel (listed.setIfInBounds i true) (st.put (some d) r) Q) : awI P ops fuel listed st Q i :=
  fun E a w ⟨ρ, hS⟩ => wpOp_of_wp hi (by rw [wanted_of hS hg hj ht hcc]; simp) (call_step hS ho ha hc him hir (fun e he => by rw [hd] at he; injection he with he; subst he; exact hdn) fun a' w' hs hb => ⟨fun _ => hb, h E a' w' (by rw [hd] at hs; exact hs)⟩)
theorem awI_fy {i d j t : Nat} {b : Bool} {f : FuncId} {args : List Operand} {ts : Array TypeId} {ys zs : List AV} {r : AV} (hi : ops[i]? = some o) (hg : o.guard = some (j, b)) (hj : (ops[j]?).bind (·.dst) = some t) (ht : t < st.nt) (hcc : look st.fr t = some (.v (.bool b))) (ho : o.op = .call ⟨.value (.func f), args.toArray, ts⟩) (ha : argsA st args = some ys) (hz : roPs st.hp [] ys = some zs) (hc : Ab P f zs r) (hir : flatA r = true)
    (hd : o.dst = some d) (hdn : d < st.nt) (h : awY P ops fuel (listed.setIfInBounds i true) (st.put (some d) r) Q) : awI P ops fuel listed st Q i :=
  fun E a w ⟨ρ, hS⟩ => wpOp_of_wp hi (by rw [wanted_of hS hg hj ht hcc]; simp) (callF_step hS ho ha hz hc hir (fun e he => by rw [hd] at he; injection he with he; subst he; exact hdn) fun a' w' hs hb => ⟨fun _ => hb, h E a' w' (by rw [hd] at hs; exact hs)⟩)
/-- The one that must come next. -/
theorem awP_1 {i : Nat} (hr : Region.ready .any ops listed = [i]) (h : awI P ops fuel listed st Q i) : awP P ops (fuel + 1) listed st Q i := fun E a w hS => by
  refine ⟨fun h0 => (by rw [hr] at h0; cases h0), fun k hk => ?_⟩
  rw [hr] at hk
  have : k = i := by simpa using hk
  subst this
  exact h E a w hS
theorem awP_3 {i : Nat} (j k : Nat) (M : St) (hr : Region.ready .any ops listed = [i, j, k]) (h1 : awI P ops fuel listed st (endQ M) i) (h2 : awI P ops fuel listed st (endQ M) j) (h3 : awI P ops fuel listed st (endQ M) k) (hM : Q .normal M) : awP P ops (fuel + 1) listed st Q i := by
  refine awY_end (M := M) (fun E a w hS => ⟨fun h0 => (by rw [hr] at h0; cases h0), fun l hl => ?_⟩) hM
  rw [hr] at hl
  simp only [List.mem_cons, List.not_mem_nil, or_false] at hl
  rcases hl with rfl | rfl | rfl
  · exact h1 E a w hS
  · exact h2 E a w hS
  · exact h3 E a w hS
end
/-! ### Slices of structs -/
theorem flat2_len {α : Type} {f0 f1 : α → AV} {L : List α} : (L.flatMap fun x => [f0 x, f1 x]).length = L.length * 2 := by
  induction L with
  | nil => rfl
  | cons y L ih => rw [List.flatMap_cons, List.length_append, ih]; simp only [List.length_cons, List.length_nil]; omega
theorem flat2_drop {α : Type} {f0 f1 : α → AV} {L : List α} {k : Nat} (hk : k < L.length) : (L.flatMap fun x => [f0 x, f1 x]).drop (k * 2) = f0 L[k] :: f1 L[k] :: (L.drop (k + 1)).flatMap fun x => [f0 x, f1 x] := by
  induction L generalizing k with
  | nil => simp at hk
  | cons y L ih =>
    cases k with
    | zero => simp
    | succ k =>
      rw [List.flatMap_cons, List.drop_append, List.drop_eq_nil_of_le (by simp; omega)]
      have e : (k + 1) * 2 - ([f0 y, f1 y] : List AV).length = k * 2 := by simp; omega
      rw [e, ih (by simpa using hk)]
      simp
theorem flat3_len {α : Type} {f0 f1 f2 : α → AV} {L : List α} : (L.flatMap fun x => [f0 x, f1 x, f2 x]).length = L.length * 3 := by
  induction L with
  | nil => rfl
  | cons y L ih => rw [List.flatMap_cons, List.length_append, ih]; simp only [List.length_cons, List.length_nil]; omega
theorem flat3_drop {α : Type} {f0 f1 f2 : α → AV} {L : List α} {k : Nat} (hk : k < L.length) : (L.flatMap fun x => [f0 x, f1 x, f2 x]).drop (k * 3) = f0 L[k] :: f1 L[k] :: f2 L[k] :: (L.drop (k + 1)).flatMap fun x => [f0 x, f1 x, f2 x] := by
  induction L generalizing k with
  | nil => simp at hk
  | cons y L ih =>
    cases k with
    | zero => simp
    | succ k =>
      rw [List.flatMap_cons, List.drop_append, List.drop_eq_nil_of_le (by simp; omega)]
      have e : (k + 1) * 3 - ([f0 y, f1 y, f2 y] : List AV).length = k * 3 := by simp; omega
      rw [e, ih (by simpa using hk)]
      simp
theorem flat4_len {α : Type} {f0 f1 f2 f3 : α → AV} {L : List α} : (L.flatMap fun x => [f0 x, f1 x, f2 x, f3 x]).length = L.length * 4 := by
  induction L with
  | nil => rfl
  | cons y L ih => rw [List.flatMap_cons, List.length_append, ih]; simp only [List.length_cons, List.length_nil]; omega
theorem flat4_drop {α : Type} {f0 f1 f2 f3 : α → AV} {L : List α} {k : Nat} (hk : k < L.length) : (L.flatMap fun x => [f0 x, f1 x, f2 x, f3 x]).drop (k * 4) = f0 L[k] :: f1 L[k] :: f2 L[k] :: f3 L[k] :: (L.drop (k + 1)).flatMap fun x => [f0 x, f1 x, f2 x, f3 x] := by
  induction L generalizing k with
  | nil => simp at hk
  | cons y L ih =>
    cases k with
    | zero => simp
    | succ k =>
      rw [List.flatMap_cons, List.drop_append, List.drop_eq_nil_of_le (by simp; omega)]
      have e : (k + 1) * 4 - ([f0 y, f1 y, f2 y, f3 y] : List AV).length = k * 4 := by simp; omega
      rw [e, ih (by simpa using hk)]
      simp
theorem flat5_len {α : Type} {f0 f1 f2 f3 f4 : α → AV} {L : List α} : (L.flatMap fun x => [f0 x, f1 x, f2 x, f3 x, f4 x]).length = L.length * 5 := by
  induction L with
  | nil => rfl
  | cons y L ih => rw [List.flatMap_cons, List.length_append, ih]; simp only [List.length_cons, List.length_nil]; omega
theorem flat5_drop {α : Type} {f0 f1 f2 f3 f4 : α → AV} {L : List α} {k : Nat} (hk : k < L.length) : (L.flatMap fun x => [f0 x, f1 x, f2 x, f3 x, f4 x]).drop (k * 5) = f0 L[k] :: f1 L[k] :: f2 L[k] :: f3 L[k] :: f4 L[k] :: (L.drop (k + 1)).flatMap fun x => [f0 x, f1 x, f2 x, f3 x, f4 x] := by
  induction L generalizing k with
  | nil => simp at hk
  | cons y L ih =>
    cases k with
    | zero => simp
    | succ k =>
      rw [List.flatMap_cons, List.drop_append, List.drop_eq_nil_of_le (by simp; omega)]
      have e : (k + 1) * 5 - ([f0 y, f1 y, f2 y, f3 y, f4 y] : List AV).length = k * 5 := by simp; omega
      rw [e, ih (by simpa using hk)]
      simp
theorem flat6_len {α : Type} {f0 f1 f2 f3 f4 f5 : α → AV} {L : List α} : (L.flatMap fun x => [f0 x, f1 x, f2 x, f3 x, f4 x, f5 x]).length = L.length * 6 := by
  induction L with
  | nil => rfl
  | cons y L ih => rw [List.flatMap_cons, List.length_append, ih]; simp only [List.length_cons, List.length_nil]; omega
theorem flat6_drop {α : Type} {f0 f1 f2 f3 f4 f5 : α → AV} {L : List α} {k : Nat} (hk : k < L.length) : (L.flatMap fun x => [f0 x, f1 x, f2 x, f3 x, f4 x, f5 x]).drop (k * 6) = f0 L[k] :: f1 L[k] :: f2 L[k] :: f3 L[k] :: f4 L[k] :: f5 L[k] :: (L.drop (k + 1)).flatMap fun x => [f0 x, f1 x, f2 x, f3 x, f4 x, f5 x] := by
  induction L generalizing k with
  | nil => simp at hk
  | cons y L ih =>
    cases k with
    | zero => simp
    | succ k =>
      rw [List.flatMap_cons, List.drop_append, List.drop_eq_nil_of_le (by simp; omega)]
      have e : (k + 1) * 6 - ([f0 y, f1 y, f2 y, f3 y, f4 y, f5 y] : List AV).length = k * 6 := by simp; omega
      rw [e, ih (by simpa using hk)]
      simp
attribute [go_sem] flat2_len flat2_drop flat3_len flat3_drop flat4_len flat4_drop flat5_len flat5_drop flat6_len flat6_drop
theorem flat_all {α : Type} {f : α → List AV} {L : List α} {p : AV → Bool} : (L.flatMap f).all p = L.all fun x => (f x).all p := by simp [List.all_flatMap]
theorem freeOf_flat {α : Type} {f : α → List AV} {L : List α} {k : Nat} : freeOf k (L.flatMap f) = L.all fun x => freeOf k (f x) := by simp [freeOf, List.all_flatMap]
theorem lenV_nil {P : Program} {t : TypeId} (ty : TypeId) (h : isSlT P t = true) : lenV P #[t] ty (.slice none 0 0) = some (.int .i64 0) := by
  obtain ⟨e, h⟩ := isSl_spec h
  simp [lenV, Builtin.len_, pr_bind, pr_underlying h, pr_pure, goInt]
attribute [go_sem] flat_all freeOf_flat lenV_nil
end Go.Proofs.Ytcplbbbjmalfjaa
