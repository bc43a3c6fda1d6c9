/- The abstract machine, parts V to Z. No program is named here. -/
import Derived.Test.YtapmolfpkhfpgaaMgC
import Derived.Scope
import Derived.Laws.IdiomStrings
/- The abstract machine, part 22: drawn regions whose operations may be taken in their own order, checked once. No program is named here. -/
namespace Go.Proofs.Ytapmolfpkhfpgaa
open Go.RowKit
set_option linter.unusedVariables false
set_option linter.unusedSimpArgs false
/-- The first i of n are listed. -/
def pre (n i : Nat) : Array Bool := (List.replicate i true ++ List.replicate (n - i) false).toArray
theorem pre_set {n i : Nat} (h : i < n) : (pre n i).setIfInBounds i true = pre n (i + 1) := by
  obtain ⟨m, rfl⟩ : ∃ m, n = i + (m + 1) := ⟨n - i - 1, by omega⟩
  have e1 : i + (m + 1) - i = m + 1 := by omega
  have e2 : i + (m + 1) - (i + 1) = m := by omega
  unfold pre
  rw [List.setIfInBounds_toArray, e1, e2, List.set_append_right _ _ (by simp), List.length_replicate, Nat.sub_self, List.replicate_succ, List.set_cons_zero, List.replicate_succ', List.append_assoc]
  rfl
theorem pre_zero (n : Nat) : pre n 0 = Array.replicate n false := by
  unfold pre
  rw [Nat.sub_zero, List.replicate_zero, List.nil_append, List.toArray_replicate]
/-- In their own order, each quiet operation may be taken first, and at the end none is left. -/
def stepsB (k : Nat) (ops : Array Oper) : Bool := ((List.range ops.size).all fun i => decide (i < k) || match ops[i]? with
  | some o => !qO o.op || stepB ops (pre ops.size i) i
  | none => true) && (Region.ready .any ops (pre ops.size ops.size)).isEmpty
theorem stepsB_spec {ops : Array Oper} {k i : Nat} {o : Oper} (h : stepsB k ops = true) (hk : k ≤ i) (hi : ops[i]? = some o) (hlt : i < ops.size) (hq : qO o.op = true) : stepB ops (pre ops.size i) i = true := by
  simp only [stepsB, Bool.and_eq_true, List.all_eq_true, List.mem_range] at h
  have := h.1 i hlt
  rw [hi, decide_eq_false (by omega : ¬ i < k)] at this
  simpa [hq] using this
theorem stepsB_end {ops : Array Oper} {k : Nat} (h : stepsB k ops = true) : Region.ready .any ops (pre ops.size ops.size) = [] := by
  simp only [stepsB, Bool.and_eq_true] at h
  exact List.isEmpty_iff.1 h.2
/-- The rest of the region, in its own order. -/
def awZ (P : Program) (k : Nat) (ops : Array Oper) (rest : List Oper) (st : St) (Q : Exit → St → Prop) : Prop :=
  stepsB k ops = true → ∀ i, k ≤ i → i ≤ ops.size → ops.toList.drop i = rest → awY P ops rest.length (pre ops.size i) st Q
section
variable {P : Program} {ops : Array Oper} {Q : Exit → St → Prop} {st st' : St} {rest : List Oper} {o : Oper} {k : Nat}
theorem at_i {i : Nat} (h : ops.toList.drop i = o :: rest) : ops[i]? = some o ∧ i < ops.size ∧ ops.toList.drop (i + 1) = rest ∧ i = ops.size - (rest.length + 1) := by
  have hl : (ops.toList.drop i).length = rest.length + 1 := by rw [h]; rfl
  rw [List.length_drop, Array.length_toList] at hl
  refine ⟨?_, by omega, ?_, by omega⟩
  · have : (ops.toList.drop i)[0]? = some o := by rw [h]; rfl
    rw [List.getElem?_drop, Nat.add_zero, Array.getElem?_toList] at this
    exact this
  · rw [← List.drop_drop, h]; rfl
theorem aw_drawZ {id : Nat} {l : List Oper} (hm : P.follows .mixedOrders = true) (hB : stepsB 0 l.toArray = true) (h : awZ P 0 l.toArray l st Q) : aw P (.region id l.toArray true) st Q := by
  refine aw_draw hm ?_
  have := h hB 0 (Nat.zero_le _) (Nat.zero_le _) rfl
  rw [pre_zero] at this
  exact this
theorem awY_toZ (k : Nat) {l : List Oper} {listed : Array Bool} {fuel : Nat} (hl : listed = pre l.length k) (hf : fuel = l.length - k) (hk : k ≤ l.length) (hB : stepsB k l.toArray = true) (h : awZ P k l.toArray (l.drop k) st Q) : awY P l.toArray fuel listed st Q := by
  have := h hB k (Nat.le_refl _) hk rfl
  rw [List.length_drop] at this
  rw [hl, hf]
  exact this
theorem awZ_done (h : Q .normal st) : awZ P k ops [] st Q := fun hB i hk hle hi => by
  have hl : (ops.toList.drop i).length = 0 := by rw [hi]; rfl
  rw [List.length_drop, Array.length_toList] at hl
  obtain rfl : i = ops.size := by omega
  exact awY_done (stepsB_end hB) h
theorem awZ_of {i : Nat} (h : awZ P k ops rest st Q) (hB : stepsB k ops = true) (hk : k ≤ i) (h2 : i < ops.size) (h3 : ops.toList.drop (i + 1) = rest) : awY P ops rest.length ((pre ops.size i).setIfInBounds i true) st Q := by
  rw [pre_set h2]; exact h hB (i + 1) (by omega) h2 h3
theorem awZ_q (hq : qO o.op = true) (hn : NP Q) (hg : o.guard = none) (he : ev P st o = some st') (h : awZ P k ops rest st' Q) : awZ P k ops (o :: rest) st Q := fun hB i hk hle hi => by
  obtain ⟨h1, h2, h3, h4⟩ := at_i hi
  exact awY_q i (stepsB_spec hB hk h1 h2 hq) hn h1 hg he (awZ_of h hB hk h2 h3)
theorem awZ_qy {j t : Nat} {b : Bool} (hq : qO o.op = true) (hn : NP Q) (hg : o.guard = some (j, b)) (hj : (ops[j]?).bind (·.dst) = some t) (ht : t < st.nt) (hc : look st.fr t = some (.v (.bool b))) (he : ev P st o = some st') (h : awZ P k ops rest st' Q) : awZ P k ops (o :: rest) st Q := fun hB i hk hle hi => by
  obtain ⟨h1, h2, h3, h4⟩ := at_i hi
  exact awY_qy i (stepsB_spec hB hk h1 h2 hq) hn h1 hg hj ht hc he (awZ_of h hB hk h2 h3)
theorem awZ_qn {j t d : Nat} {b c : Bool} (hq : qO o.op = true) (hn : NP Q) (hg : o.guard = some (j, b)) (hj : (ops[j]?).bind (·.dst) = some t) (ht : t < st.nt) (hc : look st.fr t = some (.v (.bool c))) (hne : (c == b) = false) (hd : o.dst = some d) (hdn : d < st.nt) (h : awZ P k ops rest (st.put (some d) (.v undef)) Q) : awZ P k ops (o :: rest) st Q := fun hB i hk hle hi => by
  obtain ⟨h1, h2, h3, h4⟩ := at_i hi
  exact awY_qn i (stepsB_spec hB hk h1 h2 hq) hn h1 hg hj ht hc hne hd hdn (awZ_of h hB hk h2 h3)
theorem awZ_qu {j t d : Nat} {b : Bool} (hq : qO o.op = true) (hn : NP Q) (hg : o.guard = some (j, b)) (hj : (ops[j]?).bind (·.dst) = some t) (hc : look st.fr t = some (.v undef)) (hd : o.dst = some d) (hdn : d < st.nt) (h : awZ P k ops rest (st.put (some d) (.v undef)) Q) : awZ P k ops (o :: rest) st Q := fun hB i hk hle hi => by
  obtain ⟨h1, h2, h3, h4⟩ := at_i hi
  exact awY_qu i (stepsB_spec hB hk h1 h2 hq) hn h1 hg hj hc hd hdn (awZ_of h hB hk h2 h3)
theorem awZ_tn {j t d : Nat} {b c : Bool} (hs : takeB ops (pre ops.size (ops.size - (rest.length + 1))) (ops.size - (rest.length + 1)) = true) (hn : NP Q) (hg : o.guard = some (j, b)) (hj : (ops[j]?).bind (·.dst) = some t) (ht : t < st.nt) (hc : look st.fr t = some (.v (.bool c))) (hne : (c == b) = false) (hd : o.dst = some d) (hdn : d < st.nt) (h : awZ P k ops rest (st.put (some d) (.v undef)) Q) : awZ P k ops (o :: rest) st Q := fun hB i hk hle hi => by
  obtain ⟨h1, h2, h3, h4⟩ := at_i hi
  rw [← h4] at hs
  exact awY_tn i hs hn h1 hg hj ht hc hne hd hdn (awZ_of h hB hk h2 h3)
theorem awZ_tu {j t d : Nat} {b : Bool} (hs : takeB ops (pre ops.size (ops.size - (rest.length + 1))) (ops.size - (rest.length + 1)) = true) (hn : NP Q) (hg : o.guard = some (j, b)) (hj : (ops[j]?).bind (·.dst) = some t) (hc : look st.fr t = some (.v undef)) (hd : o.dst = some d) (hdn : d < st.nt) (h : awZ P k ops rest (st.put (some d) (.v undef)) Q) : awZ P k ops (o :: rest) st Q := fun hB i hk hle hi => by
  obtain ⟨h1, h2, h3, h4⟩ := at_i hi
  rw [← h4] at hs
  exact awY_tu i hs hn h1 hg hj hc hd hdn (awZ_of h hB hk h2 h3)
theorem awZ_guard {fr : List (Nat × AV)} {hp : Hp} {nt : Nat} {fx : List Nat} {j t : Nat} {b c : Bool} (hs : (Region.ready .any ops (pre ops.size (ops.size - (rest.length + 1)))).contains (ops.size - (rest.length + 1)) = true) (hg : o.guard = some (j, b)) (hj : (ops[j]?).bind (·.dst) = some t) (hc : look fr t = some (.v (.bool c)))
    (h1 : c = b → awZ P k ops (o :: rest) ⟨(t, .v (.bool b)) :: fr, hp, nt, fx⟩ Q) (h2 : c = !b → awZ P k ops (o :: rest) ⟨(t, .v (.bool !b)) :: fr, hp, nt, fx⟩ Q) : awZ P k ops (o :: rest) ⟨fr, hp, nt, fx⟩ Q := fun hB i hk hle hi => by
  obtain ⟨k1, k2, k3, k4⟩ := at_i hi
  rw [← k4] at hs
  exact awY_guard i hs k1 hg hj hc (fun e => h1 e hB i hk hle hi) (fun e => h2 e hB i hk hle hi)
theorem awZ_i {i : Nat} (hr : Region.ready .any ops (pre ops.size i) = [i]) (h : awI P ops rest.length (pre ops.size i) st Q i) : awY P ops (rest.length + 1) (pre ops.size i) st Q := awP_1 hr h
theorem awZ_ev (hr : Region.ready .any ops (pre ops.size (ops.size - (rest.length + 1))) = [ops.size - (rest.length + 1)]) (hg : o.guard = none) (he : ev P st o = some st') (h : awZ P k ops rest st' Q) : awZ P k ops (o :: rest) st Q := fun hB i hk hle hi => by
  obtain ⟨h1, h2, h3, h4⟩ := at_i hi
  rw [← h4] at hr
  exact awZ_i hr (awI_ev h1 hg he (awZ_of h hB hk h2 h3))
theorem awZ_c {d : Nat} {f : FuncId} {args : List Operand} {ts : Array TypeId} {ys : List AV} {r : AV} (hr : Region.ready .any ops (pre ops.size (ops.size - (rest.length + 1))) = [ops.size - (rest.length + 1)]) (hg : o.guard = none) (ho : o.op = .call ⟨.value (.func f), args.toArray, ts⟩) (ha : argsA st args = some ys) (hc : Ab P f ys r) (him : ys.all immA = true) (hir : immA r = true)
    (hd : o.dst = some d) (hdn : d < st.nt) (h : awZ P k ops rest (st.put (some d) r) Q) : awZ P k ops (o :: rest) st Q := fun hB i hk hle hi => by
  obtain ⟨h1, h2, h3, h4⟩ := at_i hi
  rw [← h4] at hr
  exact awZ_i hr (awI_c h1 hg ho ha hc him hir hd hdn (awZ_of h hB hk h2 h3))
theorem awZ_f {d : Nat} {f : FuncId} {args : List Operand} {ts : Array TypeId} {ys zs : List AV} {r : AV} (hr : Region.ready .any ops (pre ops.size (ops.size - (rest.length + 1))) = [ops.size - (rest.length + 1)]) (hg : o.guard = none) (ho : o.op = .call ⟨.value (.func f), args.toArray, ts⟩) (ha : argsA st args = some ys) (hz : roPs st.hp [] ys = some zs) (hc : Ab P f zs r) (hir : flatA r = true)
    (hd : o.dst = some d) (hdn : d < st.nt) (h : awZ P k ops rest (st.put (some d) r) Q) : awZ P k ops (o :: rest) st Q := fun hB i hk hle hi => by
  obtain ⟨h1, h2, h3, h4⟩ := at_i hi
  rw [← h4] at hr
  exact awZ_i hr (awI_f h1 hg ho ha hz hc hir hd hdn (awZ_of h hB hk h2 h3))
theorem awZ_cy {d j t : Nat} {b : Bool} {f : FuncId} {args : List Operand} {ts : Array TypeId} {ys : List AV} {r : AV} (hr : Region.ready .any ops (pre ops.size (ops.size - (rest.length + 1))) = [ops.size - (rest.length + 1)]) (hg : o.guard = some (j, b)) (hj : (ops[j]?).bind (·.dst) = some t) (ht : t < st.nt) (hcc : look st.fr t = some (.v (.bool b))) (ho : o.op = .call ⟨.value (.func f), args.toArray, ts⟩) (ha : argsA st args = some ys) (hc : Ab P f ys r) (him : ys.all immA = true) (hir : immA r = true)
    (hd : o.dst = some d) (hdn : d < st.nt) (h : awZ P k ops rest (st.put (some d) r) Q) : awZ P k ops (o :: rest) st Q := fun hB i hk hle hi => by
  obtain ⟨h1, h2, h3, h4⟩ := at_i hi
  rw [← h4] at hr
  exact awZ_i hr (awI_cy h1 hg hj ht hcc ho ha hc him hir hd hdn (awZ_of h hB hk h2 h3))
theorem awZ_fy {d j t : Nat} {b : Bool} {f : FuncId} {args : List Operand} {ts : Array TypeId} {ys zs : List AV} {r : AV} (hr : Region.ready .any ops (pre ops.size (ops.size - (rest.length + 1))) = [ops.size - (rest.length + 1)]) (hg : o.guard = some (j, b)) (hj : (ops[j]?).bind (·.dst) = some t) (ht : t < st.nt) (hcc : look st.fr t = some (.v (.bool b))) (ho : o.op = .call ⟨.value (.func f), args.toArray, ts⟩) (ha : argsA st args = some ys) (hz : roPs st.hp [] ys = some zs) (hc : Ab P f zs r) (hir : flatA r = true)
    (hd : o.dst = some d) (hdn : d < st.nt) (h : awZ P k ops rest (st.put (some d) r) Q) : awZ P k ops (o :: rest) st Q := fun hB i hk hle hi => by
  obtain ⟨h1, h2, h3, h4⟩ := at_i hi
  rw [← h4] at hr
  exact awZ_i hr (awI_fy h1 hg hj ht hcc ho ha hz hc hir hd hdn (awZ_of h hB hk h2 h3))
end
end Go.Proofs.Ytapmolfpkhfpgaa

/- The abstract machine, part 23: nil slices in objects, results with several objects. No program is named here. -/
namespace Go.Proofs.Ytapmolfpkhfpgaa
open Go.RowKit
set_option linter.unusedVariables false
set_option linter.unusedSimpArgs false
section
variable {P : Program} {Q : Exit → St → Prop} {c : Code} {fr : List (Nat × AV)} {hp : Hp} {nt : Nat} {fx : List Nat}
/-- In the object k, the cells are said otherwise. -/
theorem SR.re {E : Env} {ρ : Nat → Loc} {a : Act} {w : World} (k : Nat) {cs cs' : List AV} (hk : look hp k = some cs) (hl : cs'.length = cs.length) (hre : ∀ (j : Nat) (x y : AV) (v : Value), cs[j]? = some x → cs'[j]? = some y → Rep w (avd E.bad ρ hp) ρ x v → Rep w (avd E.bad ρ hp) ρ y v) (hS : SR E ρ ⟨fr, hp, nt, fx⟩ a w) : SR E ρ ⟨fr, hset k cs' hp, nt, fx⟩ a w := by
  have hlook : ∀ j, look (hset k cs' hp) j = if j = k then some cs' else look hp j := look_hset k _ hp
  have hown : ownB ρ (hset k cs' hp) = ownB ρ hp := by
    funext b
    apply propext
    constructor
    · rintro ⟨j, c', h1, h2⟩
      rw [hlook] at h1
      split at h1
      · next e => subst e; exact ⟨j, cs, hk, h2⟩
      · exact ⟨j, c', h1, h2⟩
    · rintro ⟨j, c', h1, h2⟩
      by_cases e : j = k
      · subst e; exact ⟨j, _, by rw [hlook, if_pos rfl], h2⟩
      · exact ⟨j, c', by rw [hlook, if_neg e]; exact h1, h2⟩
  have eav : avd E.bad ρ (hset k cs' hp) = avd E.bad ρ hp := by unfold avd; rw [hown]
  have g : ∀ i c, (if i = k then some cs' else look hp i) = some c → ∃ c0, look hp i = some c0 := fun i c hi => by
    split at hi
    · next e => subst e; exact ⟨cs, hk⟩
    · exact ⟨c, hi⟩
  refine ⟨fun t x hx => by simp only [eav]; exact hS.fr t x hx, ⟨fun j c' hj => ?_, fun j j' c1 c2 h1 h2 => ?_⟩, by simp only [hown]; exact hS.own, hS.keep, hS.bad, by simp only [hown]; exact hS.nb, hS.size, hS.defers, hS.fx⟩
  · simp only [eav]
    simp only [hlook] at hj
    split at hj
    · next e =>
      subst e
      injection hj with hj
      subst hj
      have hob := hS.hr.obj j cs hk
      refine ⟨by rw [hl]; exact hob.len, hob.mem, fun i x hx => ?_⟩
      have hi : i < cs.length := by rw [← hl]; exact (List.getElem?_eq_some_iff.1 hx).1
      obtain ⟨v, hv, hr⟩ := hob.cells i cs[i] (List.getElem?_eq_getElem hi)
      exact ⟨v, hv, hre i _ x v (List.getElem?_eq_getElem hi) hx hr⟩
    · exact hS.hr.obj j c' hj
  · simp only [hlook] at h1 h2
    obtain ⟨c0, g1⟩ := g j c1 h1
    obtain ⟨c1', g2⟩ := g j' c2 h2
    exact hS.hr.dis j j' c0 c1' g1 g2
/-- A variable (object k, one cell) that is nil: a slice of an own object K of no cells. -/
theorem S_virtO {E : Env} {a : Act} {w : World} (k K sz : Nat) (hk : look hp k = some [.v (.slice none 0 0)]) (hz : 0 < sz) (hK : K ∉ fx) (hne : k ≠ K) (hS : S E ⟨fr, hp, nt, fx⟩ a w) :
    S E ⟨turn (killX K) fr, hset k [.os K 0 sz 0] (hset K [] (turn (List.map (killC K)) hp)), nt, fx⟩ a w := by
  obtain ⟨ρ, hS⟩ := hS
  have h1 := hS.fresh (w' := w) K hK ⟨0, 0, 0⟩ [] rfl rfl rfl (Nat.le_refl _) (fun _ _ _ => rfl) (fun h => absurd h (by simp)) (by simp) (fun h => absurd h (by simp)) (fun j x hj => by simp at hj) (fun x hx => by cases hx)
  refine ⟨_, SR.re k (cs := [.v (.slice none 0 0)]) ?_ rfl (fun j x y v hx hy hr => ?_) h1⟩
  · rw [look_hset, if_neg hne, look_turn, hk]
    rfl
  · match j, hx, hy with
    | 0, hx, hy =>
      simp at hx hy
      subst hx; subst hy
      rw [hr.v_eq]
      exact .os hz (Nat.le_refl _) (by omega) (fun h => absurd h (by omega))
theorem aw_virtO (k K sz : Nat) (hk : look hp k = some [.v (.slice none 0 0)]) (hz : 0 < sz) (hK : K ∉ fx) (hne : k ≠ K) (h : aw P c ⟨turn (killX K) fr, hset k [.os K 0 sz 0] (hset K [] (turn (List.map (killC K)) hp)), nt, fx⟩ Q) : aw P c ⟨fr, hp, nt, fx⟩ Q :=
  aw_weak (fun E a w hS => S_virtO k K sz hk hz hK hne hS) h
theorem awO_virtO {ops : Array Oper} {l : List Oper} (k K sz : Nat) (hk : look hp k = some [.v (.slice none 0 0)]) (hz : 0 < sz) (hK : K ∉ fx) (hne : k ≠ K) (h : awO P ops l ⟨turn (killX K) fr, hset k [.os K 0 sz 0] (hset K [] (turn (List.map (killC K)) hp)), nt, fx⟩ Q) : awO P ops l ⟨fr, hp, nt, fx⟩ Q :=
  fun E a w hS => h E a w (S_virtO k K sz hk hz hK hne hS)
/-! ### Results with several objects -/
def keepsL (hp : Hp) (keep : List Nat) : Hp → Prop
  | [] => True
  | (k, cs) :: r => (k ∈ keep ∧ (look hp k).bind (roCs hp keep) = some cs) ∧ keepsL hp keep r
theorem keepsL_nil (hp : Hp) (keep : List Nat) : keepsL hp keep [] = True := rfl
theorem keepsL_cons (hp : Hp) (keep : List Nat) (k : Nat) (cs : List AV) (r : Hp) : keepsL hp keep ((k, cs) :: r) = ((k ∈ keep ∧ (look hp k).bind (roCs hp keep) = some cs) ∧ keepsL hp keep r) := rfl
theorem keepsL_spec {hp : Hp} {keep : List Nat} : ∀ {h : Hp}, keepsL hp keep h → ∀ p ∈ h, p.1 ∈ keep ∧ ∃ cs, look hp p.1 = some cs ∧ roCs hp keep cs = some p.2
  | [], _, p, hp => by cases hp
  | (k, cs) :: r, h, p, hp' => by
    rcases List.mem_cons.1 hp' with rfl | hp'
    · exact ⟨h.1.1, by obtain ⟨c, h1, h2⟩ := Option.bind_eq_some_iff.1 h.1.2; exact ⟨c, h1, h2⟩⟩
    · exact keepsL_spec h.2 p hp'
theorem retQ_mkL {st : St} {rs : List ResultVar} {r r' : AV} {h' : Hp} {ys : List AV} {e : Exit} {keep fix : List Nat} (he : e = .normal ∨ e = .ret) (h1 : resL P st rs = some ys) (h2 : roA st.hp keep (one ys) = some r') (h3 : r' = r) (h4 : keepsL st.hp keep h') (h5 : st.fx = fix) : retQ P rs r h' keep fix e st :=
  ⟨he, ⟨ys, h1, by rw [h2, h3]⟩, keepsL_spec h4, h5⟩
end
end Go.Proofs.Ytapmolfpkhfpgaa

/- The abstract machine, part 25: an own object is given up. No program is named here. -/
namespace Go.Proofs.Ytapmolfpkhfpgaa
open Go.RowKit
set_option linter.unusedVariables false
set_option linter.unusedSimpArgs false
section
variable {P : Program} {Q : Exit → St → Prop} {c : Code} {fr : List (Nat × AV)} {hp : Hp} {nt : Nat} {fx : List Nat}
/-- An own object is given up: it is data from now on. -/
theorem S_pub {E : Env} {a : Act} {w : World} (t k : Nat) {off sz n : Nat} {cs : List AV} (ht : look fr t = some (.os k off sz n)) (hk : look hp k = some cs) (hl : off + n * sz ≤ cs.length) (hd : ((cs.drop off).take (n * sz)).all dataC = true) (hS : S E ⟨fr, hp, nt, fx⟩ a w) :
    S E ⟨(t, .rd n ((cs.drop off).take (n * sz))) :: fr, cut k hp, nt, fx⟩ a w := by
  obtain ⟨ρ, hS⟩ := hS
  have hlook : ∀ j, look (cut k hp) j = if j = k then none else look hp j := look_cut k hp
  have hmem : ∀ {j : Nat} {c : List AV}, look (cut k hp) j = some c → j ≠ k ∧ look hp j = some c := fun {j c} h => by
    rw [hlook] at h
    split at h
    · cases h
    · next hne => exact ⟨hne, h⟩
  have hown : ∀ b, ownB ρ (cut k hp) b → ownB ρ hp b := fun b ⟨j, c, h1, h2⟩ => ⟨j, c, (hmem h1).2, h2⟩
  have hav : ∀ b, avd E.bad ρ (cut k hp) b → avd E.bad ρ hp b := fun b hb => hb.imp id (hown b)
  refine ⟨ρ, fun t' x hx => ?_, ⟨fun j c hj => ?_, fun j j' c c' h1 h2 => hS.hr.dis j j' c c' (hmem h1).2 (hmem h2).2⟩, fun b hb => hS.own b (hown b hb), hS.keep, hS.bad, fun b hb => hS.nb b (hown b hb), hS.size, hS.defers, hS.fx⟩
  · rw [look_cons] at hx
    split at hx
    · next e =>
      subst e
      injection hx with hx
      subst hx
      refine roC_sound (keep := keysH (cut k hp)) hS.hr.obj (fun b _ hb => hav b hb) (fun j c h1 h2 h3 h4 => ?_) (hS.fr t _ ht) (roC_os (fun h => ?_) hk hl hd)
      · have hjk : j = k := Classical.byContradiction fun hne => h2 (look_keys (cs := c) (by rw [hlook, if_neg hne]; exact h1))
        subst hjk
        rcases h4 with h4 | ⟨j', c', g1, g2, g3⟩
        · exact hS.nb _ ⟨j, c, h1, h3, rfl⟩ h4
        · exact hS.hr.dis j' j c' c (hmem g1).2 h1 (hmem g1).1 g2 h3 g3
      · obtain ⟨p, hp1, hp2⟩ := List.mem_map.1 h
        have : ∃ c, look (cut k hp) k = some c := by
          have gen : ∀ (l : Hp), p ∈ l → ∃ c, look l p.1 = some c := fun l hl => by
            induction l with
            | nil => cases hl
            | cons q r ih =>
              obtain ⟨i, y⟩ := q
              rw [look_cons]
              split
              · exact ⟨y, rfl⟩
              · next hne =>
                rcases List.mem_cons.1 hl with e | e
                · rw [e] at hne; exact absurd rfl hne
                · exact ih e
          have h3 := gen _ hp1
          rw [hp2] at h3
          exact h3
        obtain ⟨c, hc⟩ := this
        exact (hmem hc).1 rfl
    · exact (hS.fr t' x hx).tr (Nat.le_refl _) (fun _ _ _ _ => rfl) (fun b _ hb => hav b hb) (fun _ h => absurd rfl h)
  · exact (hS.hr.obj j c (hmem hj).2).tr (Nat.le_refl _) (fun _ => rfl) (fun _ _ _ _ => rfl) (fun b _ hb => hav b hb) (fun _ h => absurd rfl h)
theorem aw_pub (t k : Nat) {off sz n : Nat} {cs : List AV} (ht : look fr t = some (.os k off sz n)) (hk : look hp k = some cs) (hl : off + n * sz ≤ cs.length) (hd : ((cs.drop off).take (n * sz)).all dataC = true) (h : aw P c ⟨(t, .rd n ((cs.drop off).take (n * sz))) :: fr, cut k hp, nt, fx⟩ Q) : aw P c ⟨fr, hp, nt, fx⟩ Q :=
  aw_weak (fun E a w hS => S_pub t k ht hk hl hd hS) h
theorem awO_pub {ops : Array Oper} {l : List Oper} (t k : Nat) {off sz n : Nat} {cs : List AV} (ht : look fr t = some (.os k off sz n)) (hk : look hp k = some cs) (hl : off + n * sz ≤ cs.length) (hd : ((cs.drop off).take (n * sz)).all dataC = true) (h : awO P ops l ⟨(t, .rd n ((cs.drop off).take (n * sz))) :: fr, cut k hp, nt, fx⟩ Q) : awO P ops l ⟨fr, hp, nt, fx⟩ Q :=
  fun E a w hS => h E a w (S_pub t k ht hk hl hd hS)
/-- A call that is handed an own object as data. -/
theorem awO_pc1 {ops : Array Oper} {rest : List Oper} {o : Oper} {f : FuncId} {t k : Nat} {args : List Operand} {ts : Array TypeId} {off sz n : Nat} {cs : List AV} (ho : o.op = .call ⟨.value (.func f), (.tmp t :: args).toArray, ts⟩) (ht : look fr t = some (.os k off sz n)) (hk : look hp k = some cs) (hl : off + n * sz ≤ cs.length) (hd : ((cs.drop off).take (n * sz)).all dataC = true) (h : awO P ops (o :: rest) ⟨(t, .rd n ((cs.drop off).take (n * sz))) :: fr, cut k hp, nt, fx⟩ Q) : awO P ops (o :: rest) ⟨fr, hp, nt, fx⟩ Q := awO_pub t k ht hk hl hd h
theorem awO_pc2 {ops : Array Oper} {rest : List Oper} {o : Oper} {f : FuncId} {t k : Nat} {x : Operand} {args : List Operand} {ts : Array TypeId} {off sz n : Nat} {cs : List AV} (ho : o.op = .call ⟨.value (.func f), (x :: .tmp t :: args).toArray, ts⟩) (ht : look fr t = some (.os k off sz n)) (hk : look hp k = some cs) (hl : off + n * sz ≤ cs.length) (hd : ((cs.drop off).take (n * sz)).all dataC = true) (h : awO P ops (o :: rest) ⟨(t, .rd n ((cs.drop off).take (n * sz))) :: fr, cut k hp, nt, fx⟩ Q) : awO P ops (o :: rest) ⟨fr, hp, nt, fx⟩ Q := awO_pub t k ht hk hl hd h
end
theorem cut_nil (k : Nat) : cut k ([] : Hp) = [] := rfl
theorem cut_cons (k i : Nat) (x : List AV) (r : Hp) : cut k ((i, x) :: r) = if i = k then cut k r else (i, x) :: cut k r := rfl
attribute [go_sem] cut_nil cut_cons
end Go.Proofs.Ytapmolfpkhfpgaa

/- The abstract machine, part 26: joins. What a piece of code leaves behind is said once, whichever way it went. No program is named here. -/
namespace Go.Proofs.Ytapmolfpkhfpgaa
open Go.RowKit
set_option linter.unusedVariables false
set_option linter.unusedSimpArgs false
section
variable {P : Program} {Q : Exit → St → Prop} {x y : Code} {fr : List (Nat × AV)} {hp : Hp} {nt : Nat} {fx : List Nat}
theorem aw_join (fr' : List (Nat × AV)) (hp' : Hp) (h1 : aw P x ⟨fr, hp, nt, fx⟩ (endQ ⟨fr', hp', nt, fx⟩)) (h2 : aw P y ⟨fr', hp', nt, fx⟩ Q) : aw P (.seq x y) ⟨fr, hp, nt, fx⟩ Q := fun E a w hS => by
  refine wp_seq (wp_mono (h1 E a w hS) fun e a' w' hq => ?_)
  obtain ⟨st', hs, he, hsub⟩ := hq
  subst he
  exact h2 E a' w' (hsub.S hs)
/-- The same inside a region's list of operations, for its last part. -/
theorem aw_joinL (M : St) {c : Code} {st : St} (h1 : aw P c st (endQ M)) (h2 : Q .normal M) : aw P c st Q := fun E a w hS => by
  refine wp_mono (h1 E a w hS) fun e a' w' hq => ?_
  obtain ⟨st', hs, he, hsub⟩ := hq
  subst he
  exact ⟨M, hsub.S hs, h2⟩
/-- A join at any piece of code, with its exit. -/
def endE (x : Exit) (M : St) : Exit → St → Prop := fun e st => e = x ∧ SubK M st
theorem aw_joinX {c : Code} (x : Exit) (fr' : List (Nat × AV)) (hp' : Hp) (h1 : aw P c ⟨fr, hp, nt, fx⟩ (endE x ⟨fr', hp', nt, fx⟩)) (h2 : Q x ⟨fr', hp', nt, fx⟩) : aw P c ⟨fr, hp, nt, fx⟩ Q := fun E a w hS => by
  refine wp_mono (h1 E a w hS) fun e a' w' hq => ?_
  obtain ⟨st', hs, he, hsub⟩ := hq
  subst he
  exact ⟨_, hsub.S hs, h2⟩
theorem endE_mk {x : Exit} {fr' : List (Nat × AV)} {hp' : Hp} (h1 : subL fr' fr) (h2 : subL hp' hp) : endE x ⟨fr', hp', nt, fx⟩ x ⟨fr, hp, nt, fx⟩ :=
  ⟨rfl, fun k x hk => subL_spec h1 _ (look_mem hk), fun k x hk => subL_spec h2 _ (look_mem hk), rfl, rfl⟩
theorem endQ_mk {fr' : List (Nat × AV)} {hp' : Hp} (h1 : subL fr' fr) (h2 : subL hp' hp) : endQ ⟨fr', hp', nt, fx⟩ .normal ⟨fr, hp, nt, fx⟩ :=
  ⟨rfl, fun k x hk => subL_spec h1 _ (look_mem hk), fun k x hk => subL_spec h2 _ (look_mem hk), rfl, rfl⟩
/-- A struct of two parts is built, with an own object that is given up. -/
theorem awO_pb2 {ops : Array Oper} {rest : List Oper} {o : Oper} {T : TypeId} {t k i j : Nat} {u : Operand} {off sz n : Nat} {cs : List AV} (ho : o.op = .build T [(i, u), (j, .tmp t)].toArray) (ht : look fr t = some (.os k off sz n)) (hk : look hp k = some cs) (hl : off + n * sz ≤ cs.length) (hd : ((cs.drop off).take (n * sz)).all dataC = true) (h : awO P ops (o :: rest) ⟨(t, .rd n ((cs.drop off).take (n * sz))) :: fr, cut k hp, nt, fx⟩ Q) : awO P ops (o :: rest) ⟨fr, hp, nt, fx⟩ Q := awO_pub t k ht hk hl hd h
/-- A struct is built; its nil slices are slices of no elements. -/
theorem awO_bnz {ops : Array Oper} {rest : List Oper} {o : Oper} {d : Nat} {t : TypeId} {pa : Array (Nat × Operand)} {z : AV} (ho : o.op = .build t pa) (hd : o.dst = some d) (hg : o.guard = none) (h : ev P ⟨fr, hp, nt, fx⟩ o = some ⟨(d, z) :: fr, hp, nt, fx⟩) (hr : awO P ops rest ⟨(d, nz z) :: fr, hp, nt, fx⟩ Q) : awO P ops (o :: rest) ⟨fr, hp, nt, fx⟩ Q := by
  refine awO_ev hg h fun E a w hS => hr E a w ?_
  obtain ⟨ρ, hS⟩ := S_nzT d (x := z) (by rw [look_cons, if_pos rfl]) hS
  refine ⟨ρ, fun t' y hy => hS.fr t' y ?_, hS.hr, hS.own, hS.keep, hS.bad, hS.nb, hS.size, hS.defers, hS.fx⟩
  simp only [look_cons] at hy ⊢
  split
  · next e => rw [if_pos e] at hy; exact hy
  · next e => rw [if_neg e] at hy; exact hy
end
/-! ### Scopes and labels, without jumps -/
def NG (Q : Exit → St → Prop) : Prop := ∀ l st, ¬ Q (.goto l) st
theorem NG_then {K : St → Prop} {Q : Exit → St → Prop} (h : NG Q) : NG (thenQ K Q) := h
theorem NG_blk {id : Nat} {Q : Exit → St → Prop} (h : NG Q) : NG (blkQ id Q) := h
theorem NG_ret {P : Program} {rs : List ResultVar} {r : AV} {h' : Hp} {keep fix : List Nat} : NG (retQ P rs r h' keep fix) := fun l st h => by
  rcases h.1 with h | h <;> cases h
theorem NG_wk {Q : Exit → St → Prop} (h : NG Q) : NG (wk Q) := fun l st ⟨st', _, h'⟩ => h l st' h'
theorem NG_end {M : St} : NG (endQ M) := fun l st h => by cases h.1
theorem ng {Q : Exit → St → Prop} (h : NG Q := by repeat (first | (with_reducible exact NG_ret) | (with_reducible apply NG_then) | (with_reducible apply NG_blk) | (with_reducible apply NG_wk) | (with_reducible apply NG_end))) : NG Q := h
theorem aw_scope {P : Program} {Q : Exit → St → Prop} {c : Code} {st : St} (hn : NG Q) (h : aw P c st Q) : aw P (.scope c) st Q := fun E a w hS =>
  wp_scope_straight (wp_mono (h E a w hS) fun e a' w' ⟨st', hs, hq⟩ => by
    cases e with
    | goto l => exact absurd hq (hn l st')
    | _ => exact ⟨st', hs, hq⟩)
theorem aw_label {P : Program} {Q : Exit → St → Prop} {l : Nat} {st : St} (h : Q .normal st) : aw P (.label l) st Q := fun E a w hS => wp_label ⟨st, hS, h⟩
/-- A slice of bools, made. -/
def fls (n : Nat) : List Bool := List.replicate n false
theorem fls_len (n : Nat) : (fls n).length = n := by simp [fls]
attribute [go_sem] fls_len
theorem awO_mkB {P : Program} {Q : Exit → St → Prop} {ops : Array Oper} {rest : List Oper} {o : Oper} {fr : List (Nat × AV)} {hp : Hp} {nt : Nat} {fx : List Nat} {d t t0 u n : Nat} {k : IntKind} (ho : o.op = .makeSlice t (.tmp u) (.tmp u)) (hd : o.dst = some d) (hg : o.guard = none) (hx : look fr u = some (.v (.int k ((n : Int) + 1)))) (he : elT P t = some (t0, 1, 1)) (hz : zT P t0 = some [.bool false]) (hn : n ≤ 100000000) (hdn : d < nt) (hfx : d ∉ fx)
    (h : awO P ops rest ⟨(d, .os d 0 1 (n + 1)) :: turn (killX d) fr, hset d ((fls (n + 1)).map fun b => .v (.bool b)) (turn (List.map (killC d)) hp), nt, fx⟩ Q) : awO P ops (o :: rest) ⟨fr, hp, nt, fx⟩ Q := by
  obtain ⟨dst, op, ty, ps, af, g⟩ := o
  simp only at ho hd hg
  subst ho; subst hd; subst hg
  refine awO_ev rfl ?_ h
  rw [ev_make, opv_tmp, hx, Option.bind_some, Option.bind_some, evMake_def, he, Option.bind_some, hz, mkX_ok _ (by omega) (by simp only; omega) (by omega) rfl, show ((n : Int) + 1).toNat = n + 1 by omega]
  rw [show (fls (n + 1)).map (fun b => AV.v (Value.bool b)) = List.replicate (n + 1) (AV.v (Value.bool false)) by simp [fls]]
  exact mk_ok _ hdn hfx (by simp [freeOf, mentM, partM, cellM])
/-! ### The bytes of a string, as a slice -/
theorem bsT_spec {P : Program} {t s : TypeId} (h : bsT P t s = true) : ∃ e, P.underlying t = some (.slice e) ∧ P.underlying s = some .string ∧ P.underlying e = some (.int .u8) := by
  unfold bsT at h
  split at h
  · next e h1 h2 =>
    split at h
    · next h3 => exact ⟨e, h1, h2, h3⟩
    · cases h
  · cases h
theorem awO_b8 {P : Program} {Q : Exit → St → Prop} {ops : Array Oper} {rest : List Oper} {o : Oper} {fr : List (Nat × AV)} {hp : Hp} {nt : Nat} {fx : List Nat} {d s t u : Nat} {l : List UInt8} (ho : o.op = .convert s t (.tmp u)) (hd : o.dst = some d) (hg : o.guard = none) (hx : look fr u = some (.v (.string (str l)))) (hb : bsT P t s = true) (hl : l.length ≤ 100000000) (hdn : d < nt) (hfx : d ∉ fx)
    (h : awO P ops rest ⟨(d, .os d 0 1 l.length) :: turn (killX d) fr, hset d (l.map fun b => .v (.int .u8 b.toNat)) (turn (List.map (killC d)) hp), nt, fx⟩ Q) : awO P ops (o :: rest) ⟨fr, hp, nt, fx⟩ Q := fun E a w ⟨ρ, hS⟩ => by
  obtain ⟨e, h1, h2, h3⟩ := bsT_spec hb
  refine wpList_plain hg fun K hK => wp_stepTo (st' := ⟨(d, .os d 0 1 l.length) :: turn (killX d) fr, hset d (l.map fun b => .v (.int .u8 b.toNat)) (turn (List.map (killC d)) hp), nt, fx⟩) ?_ fun a' w' hs => hK _ _ (h E a' w' hs)
  have hsz : (str l).size = l.length := str_size l
  have hrun := run_bytes_of_string (P := P) w s t e (str l) h2 h1 h3
  have hge := grownCap_ge w (str l).size 0 e
  have hle : grownCap w (str l).size 0 e ≤ maxLen := grownCap_le_maxLen w (str l).size 0 e (by rw [hsz]; simp only [maxLen]; omega)
  generalize grownCap w (str l).size 0 e = c at *
  have hcs : (bytesRow (str l) c).size = c := by simp only [bytesRow, Array.size_append, Array.size_map, Array.size_replicate]; have : (str l).data.size = l.length := hsz; omega
  have hcell : ∀ j, (w.drew.alloc (.cells (bytesRow (str l) c) e ((bytesRow (str l) c).size, (bytesRow (str l) c).size + 1))).cell? ⟨w.heap.size, j, none⟩ = (bytesRow (str l) c)[j]? := fun j => by
    simp [World.cell?, World.alloc, World.drew, -World.alloc_eq, -World.drew_eq]
  have hfz : ∀ j, j < c → (w.drew.alloc (.cells (bytesRow (str l) c) e ((bytesRow (str l) c).size, (bytesRow (str l) c).size + 1))).frozen? ⟨w.heap.size, j, none⟩ = false := fun j hj => by
    simp [World.frozen?, World.alloc, World.drew, -World.alloc_eq, -World.drew_eq, hcs]
    omega
  have hev : a.eval (.tmp u) = .string (str l) := Rep.v_eq (hS.fr u _ hx)
  refine ⟨w.drew.alloc (.cells (bytesRow (str l) c) e ((bytesRow (str l) c).size, (bytesRow (str l) c).size + 1)), .slice (some ⟨w.heap.size, 0, none⟩) (str l).size c, .inl ?_, ?_, fun _ => ((Below.refl _ _).drew).alloc (by simp) _⟩
  · unfold execOp
    simp only [ho, hev]
    simp [hrun]
  · rw [hd]
    have h4 := hS.fresh (w' := w.drew.alloc (.cells (bytesRow (str l) c) e ((bytesRow (str l) c).size, (bytesRow (str l) c).size + 1))) d hfx ⟨w.heap.size, 0, c⟩ (l.map fun b => .v (.int .u8 b.toNat)) rfl rfl rfl (by simp) (fun b hb _ => by
        have hb' : b < w.drew.heap.size := hb
        rw [Below.heap_alloc w.drew _ b hb']; rfl) (fun _ => .inr (Nat.le_refl _)) (by simp; omega) (fun _ => ⟨by simp, fun j hj => ⟨by
        have hj : j < c := hj
        rw [Nat.zero_add, hcell, Array.getElem?_eq_getElem (by rw [hcs]; exact hj)]; rfl, by
        have hj : j < c := hj
        rw [Nat.zero_add]; exact hfz j hj⟩⟩) (fun j x hx => by
        rw [List.getElem?_map, Option.map_eq_some_iff] at hx
        obtain ⟨b, hb, rfl⟩ := hx
        have hj : j < l.length := (List.getElem?_eq_some_iff.1 hb).1
        refine ⟨.int .u8 b.toNat, ?_, .im (.v _)⟩
        rw [Nat.zero_add, hcell]
        have hd : (str l).data = l.toArray := rfl
        simp [bytesRow, hd, Array.getElem?_append, hj, hb]
        have := (List.getElem?_eq_some_iff.1 hb).2
        rw [this]) (fun x hx => by
        obtain ⟨b, _, rfl⟩ := List.mem_map.1 hx
        rfl)
    refine ⟨_, h4.put (some d) (fun t e => by injection e with e; subst e; exact hdn) ?_⟩
    rw [hsz]
    refine .os (by omega) (by omega) (by simp only [maxLen] at hle; omega) (fun _ => ⟨by rw [rset_same], by rw [rset_same]; show 0 + c * 1 ≤ c; omega⟩)
/-- Nil slices as results. -/
theorem Fn_nzr {P : Program} {f : FuncId} {args : List AV} {h : Hp} {r : AV} {h' : Hp} {fix : List Nat} (hf : Fn P f args h r h' fix) : Fn P f args h (nz r) h' fix :=
  ⟨hf.1, fun w bad ρ vs h1 h2 h3 h4 => (hf.2 w bad ρ vs h1 h2 h3 h4).mono fun e w' ⟨v, ρ', g1, g2, g3⟩ => ⟨v, ρ', g1, nz_rep g2, g3⟩⟩
/-! ### Fields of the elements of an own slice -/
theorem flat2_at1 {α : Type} {f0 f1 : α → AV} {L : List α} {k : Nat} (hk : k < L.length) : (L.flatMap fun x => [f0 x, f1 x]).drop (k * 2 + 1) = f1 L[k] :: (L.drop (k + 1)).flatMap fun x => [f0 x, f1 x] := by rw [← List.drop_drop, flat2_drop hk]; rfl
theorem flat3_at1 {α : Type} {f0 f1 f2 : α → AV} {L : List α} {k : Nat} (hk : k < L.length) : (L.flatMap fun x => [f0 x, f1 x, f2 x]).drop (k * 3 + 1) = f1 L[k] :: f2 L[k] :: (L.drop (k + 1)).flatMap fun x => [f0 x, f1 x, f2 x] := by rw [← List.drop_drop, flat3_drop hk]; rfl
theorem flat3_at2 {α : Type} {f0 f1 f2 : α → AV} {L : List α} {k : Nat} (hk : k < L.length) : (L.flatMap fun x => [f0 x, f1 x, f2 x]).drop (k * 3 + 2) = f2 L[k] :: (L.drop (k + 1)).flatMap fun x => [f0 x, f1 x, f2 x] := by rw [← List.drop_drop, flat3_drop hk]; rfl
theorem flat4_at1 {α : Type} {f0 f1 f2 f3 : α → AV} {L : List α} {k : Nat} (hk : k < L.length) : (L.flatMap fun x => [f0 x, f1 x, f2 x, f3 x]).drop (k * 4 + 1) = f1 L[k] :: f2 L[k] :: f3 L[k] :: (L.drop (k + 1)).flatMap fun x => [f0 x, f1 x, f2 x, f3 x] := by rw [← List.drop_drop, flat4_drop hk]; rfl
theorem flat4_at2 {α : Type} {f0 f1 f2 f3 : α → AV} {L : List α} {k : Nat} (hk : k < L.length) : (L.flatMap fun x => [f0 x, f1 x, f2 x, f3 x]).drop (k * 4 + 2) = f2 L[k] :: f3 L[k] :: (L.drop (k + 1)).flatMap fun x => [f0 x, f1 x, f2 x, f3 x] := by rw [← List.drop_drop, flat4_drop hk]; rfl
theorem flat4_at3 {α : Type} {f0 f1 f2 f3 : α → AV} {L : List α} {k : Nat} (hk : k < L.length) : (L.flatMap fun x => [f0 x, f1 x, f2 x, f3 x]).drop (k * 4 + 3) = f3 L[k] :: (L.drop (k + 1)).flatMap fun x => [f0 x, f1 x, f2 x, f3 x] := by rw [← List.drop_drop, flat4_drop hk]; rfl
theorem flat5_at1 {α : Type} {f0 f1 f2 f3 f4 : α → AV} {L : List α} {k : Nat} (hk : k < L.length) : (L.flatMap fun x => [f0 x, f1 x, f2 x, f3 x, f4 x]).drop (k * 5 + 1) = f1 L[k] :: f2 L[k] :: f3 L[k] :: f4 L[k] :: (L.drop (k + 1)).flatMap fun x => [f0 x, f1 x, f2 x, f3 x, f4 x] := by rw [← List.drop_drop, flat5_drop hk]; rfl
theorem flat5_at2 {α : Type} {f0 f1 f2 f3 f4 : α → AV} {L : List α} {k : Nat} (hk : k < L.length) : (L.flatMap fun x => [f0 x, f1 x, f2 x, f3 x, f4 x]).drop (k * 5 + 2) = f2 L[k] :: f3 L[k] :: f4 L[k] :: (L.drop (k + 1)).flatMap fun x => [f0 x, f1 x, f2 x, f3 x, f4 x] := by rw [← List.drop_drop, flat5_drop hk]; rfl
theorem flat5_at3 {α : Type} {f0 f1 f2 f3 f4 : α → AV} {L : List α} {k : Nat} (hk : k < L.length) : (L.flatMap fun x => [f0 x, f1 x, f2 x, f3 x, f4 x]).drop (k * 5 + 3) = f3 L[k] :: f4 L[k] :: (L.drop (k + 1)).flatMap fun x => [f0 x, f1 x, f2 x, f3 x, f4 x] := by rw [← List.drop_drop, flat5_drop hk]; rfl
theorem flat5_at4 {α : Type} {f0 f1 f2 f3 f4 : α → AV} {L : List α} {k : Nat} (hk : k < L.length) : (L.flatMap fun x => [f0 x, f1 x, f2 x, f3 x, f4 x]).drop (k * 5 + 4) = f4 L[k] :: (L.drop (k + 1)).flatMap fun x => [f0 x, f1 x, f2 x, f3 x, f4 x] := by rw [← List.drop_drop, flat5_drop hk]; rfl
theorem flat6_at1 {α : Type} {f0 f1 f2 f3 f4 f5 : α → AV} {L : List α} {k : Nat} (hk : k < L.length) : (L.flatMap fun x => [f0 x, f1 x, f2 x, f3 x, f4 x, f5 x]).drop (k * 6 + 1) = f1 L[k] :: f2 L[k] :: f3 L[k] :: f4 L[k] :: f5 L[k] :: (L.drop (k + 1)).flatMap fun x => [f0 x, f1 x, f2 x, f3 x, f4 x, f5 x] := by rw [← List.drop_drop, flat6_drop hk]; rfl
theorem flat6_at2 {α : Type} {f0 f1 f2 f3 f4 f5 : α → AV} {L : List α} {k : Nat} (hk : k < L.length) : (L.flatMap fun x => [f0 x, f1 x, f2 x, f3 x, f4 x, f5 x]).drop (k * 6 + 2) = f2 L[k] :: f3 L[k] :: f4 L[k] :: f5 L[k] :: (L.drop (k + 1)).flatMap fun x => [f0 x, f1 x, f2 x, f3 x, f4 x, f5 x] := by rw [← List.drop_drop, flat6_drop hk]; rfl
theorem flat6_at3 {α : Type} {f0 f1 f2 f3 f4 f5 : α → AV} {L : List α} {k : Nat} (hk : k < L.length) : (L.flatMap fun x => [f0 x, f1 x, f2 x, f3 x, f4 x, f5 x]).drop (k * 6 + 3) = f3 L[k] :: f4 L[k] :: f5 L[k] :: (L.drop (k + 1)).flatMap fun x => [f0 x, f1 x, f2 x, f3 x, f4 x, f5 x] := by rw [← List.drop_drop, flat6_drop hk]; rfl
theorem flat6_at4 {α : Type} {f0 f1 f2 f3 f4 f5 : α → AV} {L : List α} {k : Nat} (hk : k < L.length) : (L.flatMap fun x => [f0 x, f1 x, f2 x, f3 x, f4 x, f5 x]).drop (k * 6 + 4) = f4 L[k] :: f5 L[k] :: (L.drop (k + 1)).flatMap fun x => [f0 x, f1 x, f2 x, f3 x, f4 x, f5 x] := by rw [← List.drop_drop, flat6_drop hk]; rfl
theorem flat6_at5 {α : Type} {f0 f1 f2 f3 f4 f5 : α → AV} {L : List α} {k : Nat} (hk : k < L.length) : (L.flatMap fun x => [f0 x, f1 x, f2 x, f3 x, f4 x, f5 x]).drop (k * 6 + 5) = f5 L[k] :: (L.drop (k + 1)).flatMap fun x => [f0 x, f1 x, f2 x, f3 x, f4 x, f5 x] := by rw [← List.drop_drop, flat6_drop hk]; rfl
attribute [go_sem] flat2_at1 flat3_at1 flat3_at2 flat4_at1 flat4_at2 flat4_at3 flat5_at1 flat5_at2 flat5_at3 flat5_at4 flat6_at1 flat6_at2 flat6_at3 flat6_at4 flat6_at5
section
variable {P : Program} {ops : Array Oper} {Q : Exit → St → Prop} {st st2 : St} {listed : Array Bool} {fuel : Nat} {o : Oper}
theorem awY_st (hs : some st = some st2) (h : awY P ops fuel listed st2 Q) : awY P ops fuel listed st Q := by injection hs with hs; rw [hs]; exact h
/-- In a drawn region: a call that changes own objects, where nothing that reads can come behind it of its own accord. -/
theorem awI_m {i d : Nat} {f : FuncId} {args : List Operand} {ts : Array TypeId} {ys : List AV} {r : AV} {h h' : Hp} {fix : List Nat} (hi : ops[i]? = some o) (hds : dsI ops i = true) (hg : o.guard = none) (ho : o.op = .call ⟨.value (.func f), args.toArray, ts⟩) (ha : argsA st args = some ys) (hc : Fn P f ys h r h' fix) (hsub : subL h st.hp)
    (hr : okR (keysH h') r = true) (hcs : h'.all (fun p => p.2.all (okR (keysH h'))) = true) (hfx : st.fx.all (fun k => !(keysH h').contains k || fix.contains k) = true) (hd : o.dst = some d) (hdn : d < st.nt) (hrest : awY P ops fuel (listed.setIfInBounds i true) (st.after d r h h' fix) Q) : awI P ops fuel listed st Q i :=
  fun E a w ⟨ρ, hS⟩ => wpOp_of_wp hi (by simp [Region.wanted, hg]) (callM_step hS ho ha hc hsub hr hcs hfx hd hdn fun a' w' hs => ⟨fun h0 => (by rw [hds] at h0; cases h0), hrest E a' w' hs⟩)
/-- In a drawn region: a call that makes own objects. -/
theorem awI_b {i d : Nat} {f : FuncId} {args : List Operand} {ts : Array TypeId} {ys : List AV} {r : AV} {h' : Hp} {fix : List Nat} (hi : ops[i]? = some o) (hg : o.guard = none) (ho : o.op = .call ⟨.value (.func f), args.toArray, ts⟩) (ha : argsA st args = some ys) (hc : Fn P f ys [] r h' fix)
    (hr : okR (keysH h') r = true) (hcs : h'.all (fun p => p.2.all (okR (keysH h'))) = true) (hfx : st.fx.all (fun k => !(keysH h').contains k || fix.contains k) = true) (hd : o.dst = some d) (hdn : d < st.nt) (hrest : awY P ops fuel (listed.setIfInBounds i true) (st.after d r [] h' fix) Q) : awI P ops fuel listed st Q i :=
  fun E a w ⟨ρ, hS⟩ => wpOp_of_wp hi (by simp [Region.wanted, hg]) (by
    have hargs := argsA_rep hS ha
    unfold Oper.wp
    rw [run_call ho hc.1, Oper.upon_enter]
    have hsub : subL [] st.hp := trivial
    have hlh : ∀ k cs, look ([] : Hp) k = some cs → look st.hp k = some cs := fun k cs hk => subL_spec hsub _ (look_mem hk)
    have ownh : ∀ b, ownB ρ [] b → ownB ρ st.hp b := fun b ⟨k, cs, h1, h2⟩ => ⟨k, cs, hlh k cs h1, h2⟩
    have hav : ∀ b, avd (fun b => avd E.bad ρ st.hp b ∧ ¬ ownB ρ [] b) ρ [] b → avd E.bad ρ st.hp b := fun b hb => hb.elim (fun h1 => h1.1) (fun h1 => .inr (ownh b h1))
    refine (hc.2 w (fun b => avd E.bad ρ st.hp b ∧ ¬ ownB ρ [] b) ρ _ ⟨fun b hb => ?_, hS.glob, fun b hb => hS.ngb (ownh b hb)⟩ (fun b hb hb' => hb'.2 hb) ⟨fun k cs hk => ?_, fun k k' cs cs' h1 h2 => hS.hr.dis k k' cs cs' (hlh _ _ h1) (hlh _ _ h2)⟩ ⟨hargs.1, fun j y v hj hv => ?_⟩).mono ?_
    · rcases hb.1 with hb | ⟨k, cs, h1, h2, rfl⟩
      · exact Nat.lt_of_lt_of_le (hS.bad.1 b hb) hS.keep.size
      · exact ((hS.hr.obj k cs h1).mem h2).1
    · exact (hS.hr.obj k cs (hlh k cs hk)).tr (Nat.le_refl _) (fun _ => rfl) (fun _ _ _ _ => rfl) (fun b _ hb => hav b hb) (fun _ hk => absurd rfl hk)
    · exact (hargs.2 j y v hj hv).tr (Nat.le_refl _) (fun _ _ _ _ => rfl) (fun b _ hb => hav b hb) (fun _ hk => absurd rfl hk)
    · rintro e w' ⟨v, ρ', rfl, hrep, hhr, hkeep, hown, hfix⟩
      have := hS.after hdn hsub hrep hhr hkeep hown hfix hr hcs hfx
      rw [← hd] at this
      exact ⟨fun _ => keeps_nil hkeep, hrest E _ _ ⟨_, this⟩⟩)
end
end Go.Proofs.Ytapmolfpkhfpgaa
