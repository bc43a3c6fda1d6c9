/- The abstract machine, part 22: drawn regions whose operations may be taken in their own order, checked once. No program is named here. -/
import Derived.Test.YtcplbbbjmalfjaaMachU
namespace Go.Proofs.Ytcplbbbjmalfjaa
open Go.RowKit
set_option linter.unusedVariables false
set_option linter.unusedSimpArgs false
/-- The first i of n are listed. -/
def pre (n i : Nat) : Array Bool := (List.replicate i true ++ List.replicate (n - i) false).toArray
theorem pre_set {n i : Nat} (h : i < n) : (pre n i).setIfInBounds i true = pre n (i + 1) := by
  obtain ⟨m, rfl⟩ : ∃ m, n = i + (m + 1) := ⟨n - i - 1, by omega⟩
  have e1 : i + (m + 1) - i = m + 1 := by omega
  have e2 : i + (m + 1) - (i + 1) = m := by omega
  unfold pre
  rw [List.setIfInBounds_toArray, e1, e2, List.set_append_right _ _ (by simp), List.length_replicate, Nat.sub_self, List.replicate_succ, List.set_cons_zero, List.replicate_succ', List.append_assoc]
  rfl
theorem pre_zero (n : Nat) : pre n 0 = Array.replicate n false := by
  unfold pre
  rw [Nat.sub_zero, List.replicate_zero, List.nil_append, List.toArray_replicate]
/-- In their own order, each quiet operation may be taken first, and at the end none is left. -/
def stepsB (k : Nat) (ops : Array Oper) : Bool := ((List.range ops.size).all fun i => decide (i < k) || match ops[i]? with
  | some o => !qO o.op || stepB ops (pre ops.size i) i
  | none => true) && (Region.ready .any ops (pre ops.size ops.size)).isEmpty
theorem stepsB_spec {ops : Array Oper} {k i : Nat} {o : Oper} (h : stepsB k ops = true) (hk : k ≤ i) (hi : ops[i]? = some o) (hlt : i < ops.size) (hq : qO o.op = true) : stepB ops (pre ops.size i) i = true := by
  simp only [stepsB, Bool.and_eq_true, List.all_eq_true, List.mem_range] at h
  have := h.1 i hlt
  rw [hi, decide_eq_false (by omega : ¬ i < k)] at this
  simpa [hq] using this
theorem stepsB_end {ops : Array Oper} {k : Nat} (h : stepsB k ops = true) : Region.ready .any ops (pre ops.size ops.size) = [] := by
  simp only [stepsB, Bool.and_eq_true] at h
  exact List.isEmpty_iff.1 h.2
/-- The rest of the region, in its own order. -/
def awZ (P : Program) (k : Nat) (ops : Array Oper) (rest : List Oper) (st : St) (Q : Exit → St → Prop) : Prop :=
  stepsB k ops = true → ∀ i, k ≤ i → i ≤ ops.size → ops.toList.drop i = rest → awY P ops rest.length (pre ops.size i) st Q
section
variable {P : Program} {ops : Array Oper} {Q : Exit → St → Prop} {st st' : St} {rest : List Oper} {o : Oper} {k : Nat}
theorem at_i {i : Nat} (h : ops.toList.drop i = o :: rest) : ops[i]? = some o ∧ i < ops.size ∧ ops.toList.drop (i + 1) = rest ∧ i = ops.size - (rest.length + 1) := by
  have hl : (ops.toList.drop i).length = rest.length + 1 := by rw [h]; rfl
  rw [List.length_drop, Array.length_toList] at hl
  refine ⟨?_, by omega, ?_, by omega⟩
  · have : (ops.toList.drop i)[0]? = some o := by rw [h]; rfl
    rw [List.getElem?_drop, Nat.add_zero, Array.getElem?_toList] at this
    exact this
  · rw [← List.drop_drop, h]; rfl
theorem aw_drawZ {id : Nat} {l : List Oper} (hm : P.follows .mixedOrders = true) (hB : stepsB 0 l.toArray = true) (h : awZ P 0 l.toArray l st Q) : aw P (.region id l.toArray true) st Q := by
  refine aw_draw hm ?_
  have := h hB 0 (Nat.zero_le _) (Nat.zero_le _) rfl
  rw [pre_zero] at this
  exact this
theorem awY_toZ (k : Nat) {l : List Oper} {listed : Array Bool} {fuel : Nat} (hl : listed = pre l.length k) (hf : fuel = l.length - k) (hk : k ≤ l.length) (hB : stepsB k l.toArray = true) (h : awZ P k l.toArray (l.drop k) st Q) : awY P l.toArray fuel listed st Q := by
  have := h hB k (Nat.le_refl _) hk rfl
  rw [List.length_drop] at this
  rw [hl, hf]
  exact this
theorem awZ_done (h : Q .normal st) : awZ P k ops [] st Q := fun hB i hk hle hi => by
  have hl : (ops.toList.drop i).length = 0 := by rw [hi]; rfl
  rw [List.length_drop, Array.length_toList] at hl
  obtain rfl : i = ops.size := by omega
  exact awY_done (stepsB_end hB) h
theorem awZ_of {i : Nat} (h : awZ P k ops rest st Q) (hB : stepsB k ops = true) (hk : k ≤ i) (h2 : i < ops.size) (h3 : ops.toList.drop (i + 1) = rest) : awY P ops rest.length ((pre ops.size i).setIfInBounds i true) st Q := by
  rw [pre_set h2]; exact h hB (i + 1) (by omega) h2 h3
theorem awZ_q (hq : qO o.op = true) (hn : NP Q) (hg : o.guard = none) (he : ev P st o = some st') (h : awZ P k ops rest st' Q) : awZ P k ops (o :: rest) st Q := fun hB i hk hle hi => by
  obtain ⟨h1, h2, h3, h4⟩ := at_i hi
  exact awY_q i (stepsB_spec hB hk h1 h2 hq) hn h1 hg he (awZ_of h hB hk h2 h3)
theorem awZ_qy {j t : Nat} {b : Bool} (hq : qO o.op = true) (hn : NP Q) (hg : o.guard = some (j, b)) (hj : (ops[j]?).bind (·.dst) = some t) (ht : t < st.nt) (hc : look st.fr t = some (.v (.bool b))) (he : ev P st o = some st') (h : awZ P k ops rest st' Q) : awZ P k ops (o :: rest) st Q := fun hB i hk hle hi => by
  obtain ⟨h1, h2, h3, h4⟩ := at_i hi
  exact awY_qy i (stepsB_spec hB hk h1 h2 hq) hn h1 hg hj ht hc he (awZ_of h hB hk h2 h3)
theorem awZ_qn {j t d : Nat} {b c : Bool} (hq : qO o.op = true) (hn : NP Q) (hg : o.guard = some (j, b)) (hj : (ops[j]?).bind (·.dst) = some t) (ht : t < st.nt) (hc : look st.fr t = some (.v (.bool c))) (hne : (c == b) = false) (hd : o.dst = some d) (hdn : d < st.nt) (h : awZ P k ops rest (st.put (some d) (.v undef)) Q) : awZ P k ops (o :: rest) st Q := fun hB i hk hle hi => by
  obtain ⟨h1, h2, h3, h4⟩ := at_i hi
  exact awY_qn i (stepsB_spec hB hk h1 h2 hq) hn h1 hg hj ht hc hne hd hdn (awZ_of h hB hk h2 h3)
theorem awZ_qu {j t d : Nat} {b : Bool} (hq : qO o.op = true) (hn : NP Q) (hg : o.guard = some (j, b)) (hj : (ops[j]?).bind (·.dst) = some t) (hc : look st.fr t = some (.v undef)) (hd : o.dst = some d) (hdn : d < st.nt) (h : awZ P k ops rest (st.put (some d) (.v undef)) Q) : awZ P k ops (o :: rest) st Q := fun hB i hk hle hi => by
  obtain ⟨h1, h2, h3, h4⟩ := at_i hi
  exact awY_qu i (stepsB_spec hB hk h1 h2 hq) hn h1 hg hj hc hd hdn (awZ_of h hB hk h2 h3)
theorem awZ_tn {j t d : Nat} {b c : Bool} (hs : takeB ops (pre ops.size (ops.size - (rest.length + 1))) (ops.size - (rest.length + 1)) = true) (hn : NP Q) (hg : o.guard = some (j, b)) (hj : (ops[j]?).bind (·.dst) = some t) (ht : t < st.nt) (hc : look st.fr t = some (.v (.bool c))) (hne : (c == b) = false) (hd : o.dst = some d) (hdn : d < st.nt) (h : awZ P k ops rest (st.put (some d) (.v undef)) Q) : awZ P k ops (o :: rest) st Q := fun hB i hk hle hi => by
  obtain ⟨h1, h2, h3, h4⟩ := at_i hi
  rw [← h4] at hs
  exact awY_tn i hs hn h1 hg hj ht hc hne hd hdn (awZ_of h hB hk h2 h3)
theorem awZ_tu {j t d : Nat} {b : Bool} (hs : takeB ops (pre ops.size (ops.size - (rest.length + 1))) (ops.size - (rest.length + 1)) = true) (hn : NP Q) (hg : o.guard = some (j, b)) (hj : (ops[j]?).bind (·.dst) = some t) (hc : look st.fr t = some (.v undef)) (hd : o.dst = some d) (hdn : d < st.nt) (h : awZ P k ops rest (st.put (some d) (.v undef)) Q) : awZ P k ops (o :: rest) st Q := fun hB i hk hle hi => by
  obtain ⟨h1, h2, h3, h4⟩ := at_i hi
  rw [← h4] at hs
  exact awY_tu i hs hn h1 hg hj hc hd hdn (awZ_of h hB hk h2 h3)
theorem awZ_guard {fr : List (Nat × AV)} {hp : Hp} {nt : Nat} {fx : List Nat} {j t : Nat} {b c : Bool} (hs : (Region.ready .any ops (pre ops.size (ops.size - (rest.length + 1)))).contains (ops.size - (rest.length + 1)) = true) (hg : o.guard = some (j, b)) (hj : (ops[j]?).bind (·.dst) = some t) (hc : look fr t = some (.v (.bool c)))
    (h1 : c = b → awZ P k ops (o :: rest) ⟨(t, .v (.bool b)) :: fr, hp, nt, fx⟩ Q) (h2 : c = !b → awZ P k ops (o :: rest) ⟨(t, .v (.bool !b)) :: fr, hp, nt, fx⟩ Q) : awZ P k ops (o :: rest) ⟨fr, hp, nt, fx⟩ Q := fun hB i hk hle hi => by
  obtain ⟨k1, k2, k3, k4⟩ := at_i hi
  rw [← k4] at hs
  exact awY_guard i hs k1 hg hj hc (fun e => h1 e hB i hk hle hi) (fun e => h2 e hB i hk hle hi)
theorem awZ_i {i : Nat} (hr : Region.ready .any ops (pre ops.size i) = [i]) (h : awI P ops rest.length (pre ops.size i) st Q i) : awY P ops (rest.length + 1) (pre ops.size i) st Q := awP_1 hr h
theorem awZ_ev (hr : Region.ready .any ops (pre ops.size (ops.size - (rest.length + 1))) = [ops.size - (rest.length + 1)]) (hg : o.guard = none) (he : ev P st o = some st') (h : awZ P k ops rest st' Q) : awZ P k ops (o :: rest) st Q := fun hB i hk hle hi => by
  obtain ⟨h1, h2, h3, h4⟩ := at_i hi
  rw [← h4] at hr
  exact awZ_i hr (awI_ev h1 hg he (awZ_of h hB hk h2 h3))
theorem awZ_c {d : Nat} {f : FuncId} {args : List Operand} {ts : Array TypeId} {ys : List AV} {r : AV} (hr : Region.ready .any ops (pre ops.size (ops.size - (rest.length + 1))) = [ops.size - (rest.length + 1)]) (hg : o.guard = none) (ho : o.op = .call ⟨.value (.func f), args.toArray, ts⟩) (ha : argsA st args = some ys) (hc : Ab P f ys r) (him : ys.all immA = true) (hir : immA r = true)
    (hd : o.dst = some d) (hdn : d < st.nt) (h : awZ P k ops rest (st.put (some d) r) Q) : awZ P k ops (o :: rest) st Q := fun hB i hk hle hi => by
  obtain ⟨h1, h2, h3, h4⟩ := at_i hi
  rw [← h4] at hr
  exact awZ_i hr (awI_c h1 hg ho ha hc him hir hd hdn (awZ_of h hB hk h2 h3))
theorem awZ_f {d : Nat} {f : FuncId} {args : List Operand} {ts : Array TypeId} {ys zs : List AV} {r : AV} (hr : Region.ready .any ops (pre ops.size (ops.size - (rest.length + 1))) = [ops.size - (rest.length + 1)]) (hg : o.guard = none) (ho : o.op = .call ⟨.value (.func f), args.toArray, ts⟩) (ha : argsA st args = some ys) (hz : roPs st.hp [] ys = some zs) (hc : Ab P f zs r) (hir : flatA r = true)
    (hd : o.dst = some d) (hdn : d < st.nt) (h : awZ P k ops rest (st.put (some d) r) Q) : awZ P k ops (o :: rest) st Q := fun hB i hk hle hi => by
  obtain ⟨h1, h2, h3, h4⟩ := at_i hi
  rw [← h4] at hr
  exact awZ_i hr (awI_f h1 hg ho ha hz hc hir hd hdn (awZ_of h hB hk h2 h3))
theorem awZ_cy {d j t : Nat} {b : Bool} {f : FuncId} {args : List Operand} {ts : Array TypeId} {ys : List AV} {r : AV} (hr : Region.ready .any ops (pre ops.size (ops.size - (rest.length + 1))) = [ops.size - (rest.length + 1)]) (hg : o.guard = some (j, b)) (hj : (ops[j]?).bind (·.dst) = some t) (ht : t < st.nt) (hcc : look st.fr t = some (.v (.bool b))) (ho : o.op = .call ⟨.value (.func f), args.toArray, ts⟩) (ha : argsA st args = some ys) (hc : Ab P f ys r) (him : ys.all immA = true) (hir : immA r = true)
    (hd : o.dst = some d) (hdn : d < st.nt) (h : awZ P k ops rest (st.put (some d) r) Q) : awZ P k ops (o :: rest) st Q := fun hB i hk hle hi => by
  obtain ⟨h1, h2, h3, h4⟩ := at_i hi
  rw [← h4] at hr
  exact awZ_i hr (awI_cy h1 hg hj ht hcc ho ha hc him hir hd hdn (awZ_of h hB hk h2 h3))
theorem awZ_fy {d j t : Nat} {b : Bool} {f : FuncId} {args : List Operand} {ts : Array TypeId} {ys zs : List AV} {r : AV} (hr : Region.ready .any ops (pre ops.size (ops.size - (rest.length + 1))) = [ops.size - (rest.length + 1)]) (hg : o.guard = some (j, b)) (hj : (ops[j]?).bind (·.dst) = some t) (ht : t < st.nt) (hcc : look st.fr t = some (.v (.bool b))) (ho : o.op = .call ⟨.value (.func f), args.toArray, ts⟩) (ha : argsA st args = some ys) (hz : roPs st.hp [] ys = some zs) (hc : Ab P f zs r) (hir : flatA r = true)
    (hd : o.dst = some d) (hdn : d < st.nt) (h : awZ P k ops rest (st.put (some d) r) Q) : awZ P k ops (o :: rest) st Q := fun hB i hk hle hi => by
  obtain ⟨h1, h2, h3, h4⟩ := at_i hi
  rw [← h4] at hr
  exact awZ_i hr (awI_fy h1 hg hj ht hcc ho ha hz hc hir hd hdn (awZ_of h hB hk h2 h3))
end
end Go.Proofs.Ytcplbbbjmalfjaa
