/- The abstract machine, part 13: regions that draw their order. No program is named here. -/
import Derived.Test.YtcplbbbjmalfjaaMachL
namespace Go.Proofs.Ytcplbbbjmalfjaa
open Go.RowKit
set_option linter.unusedVariables false
set_option linter.unusedSimpArgs false

/-- Whatever order is picked; what does not disturb only lets the memory grow. -/
def wpAnyB (P : Program) (ops : Array Oper) (Q : Exit → Act → World → Prop) : Nat → Array Bool → Act → World → Prop
  | 0, listed, a, w => Region.ready .any ops listed = [] ∧ Q .normal a w
  | fuel + 1, listed, a, w => (Region.ready .any ops listed = [] → Q .normal a w) ∧
    ∀ i ∈ Region.ready .any ops listed, wpOp P ops Q i (fun a' w' => ((∀ o, ops[i]? = some o → dsO o.op = false) → Below w.heap.size w w') ∧ wpAnyB P ops Q fuel (listed.setIfInBounds i true) a' w') a w
section
variable {P : Program} {ops : Array Oper} {Q : Exit → Act → World → Prop}
theorem wpAny_of_B : ∀ (fuel : Nat) (listed : Array Bool) (a : Act) (w : World), wpAnyB P ops Q fuel listed a w → wpAny P .any ops Q fuel listed a w
  | 0, _, _, _, h => h
  | fuel + 1, _, _, _, h => ⟨h.1, fun i hi => wpOp_mono (fun a' w' h' => wpAny_of_B fuel _ a' w' h'.2) (h.2 i hi)⟩
/-- It yields v, from here on. -/
def YB (P : Program) (ops : Array Oper) (o : Oper) (v : Value) (a : Act) (w : World) : Prop :=
  (Region.wanted o (yielded ops a.tmps) = true ∧ ∀ w', (memO o.op = true → Below w.heap.size w w') → (execOp a.eval o).run P w' = .ok (.value v) w') ∨
  (Region.wanted o (yielded ops a.tmps) = false ∧ v = undef)
theorem YB.of_same {o : Oper} {v : Value} {a a' : Act} {w : World} (hy : YB P ops o v a w) (he : execOp a'.eval o = execOp a.eval o)
    (hw : Region.wanted o (yielded ops a'.tmps) = Region.wanted o (yielded ops a.tmps)) : YB P ops o v a' w := by
  unfold YB at *
  rw [he, hw]
  exact hy
theorem YB.later {o : Oper} {v : Value} {a : Act} {w w' : World} (hy : YB P ops o v a w) (hb : memO o.op = true → Below w.heap.size w w') : YB P ops o v a w' :=
  hy.imp (fun ⟨h1, h2⟩ => ⟨h1, fun w2 h3 => h2 w2 fun hm => (hb hm).trans ((h3 hm).mono (hb hm).size)⟩) id
theorem YB.wpOp {i : Nat} {o : Oper} {v : Value} {a : Act} {w : World} (hi : ops[i]? = some o) (hy : YB P ops o v a w) {K : Act → World → Prop} (h : K (a.put o.dst v) w) : wpOp P ops Q i K a w := by
  unfold Go.wpOp
  simp only [hi]
  rcases hy with ⟨hw, hv⟩ | ⟨hw, rfl⟩
  · simp only [hw, if_true, Oper.wp, hv w (fun _ => Below.refl _ _), Oper.upon]; exact .inl h
  · simp only [hw, Bool.false_eq_true, if_false]; exact h
theorem wpOp_putB {j : Nat} {oi oj : Oper} {v : Value} (hj : ops[j]? = some oj) (hap : oi.apart ops oj = true)
    (hsi : ∀ cs b, oi.op ≠ .select cs b) (hsj : ∀ cs b, oj.op ≠ .select cs b)
    (hQ : ∀ c a w, Q (.panic c) (a.put oi.dst v) w → Q (.panic c) a w) {K : Act → World → Prop} {a : Act} {w : World}
    (hy : YB P ops oi v a w) (h : wpOp P ops Q j K (a.put oi.dst v) w) :
    wpOp P ops Q j (fun a' w' => YB P ops oi v a' w ∧ K (a'.put oi.dst v) w') a w := by
  obtain ⟨h1, h2, h3⟩ := Oper.apart_spec hap
  have keep : ∀ (a : Act), YB P ops oi v a w → ∀ u, YB P ops oi v (a.put oj.dst u) w := fun a hy u =>
    hy.of_same (execOp_put oi hsi a oj.dst u h3) (wanted_put oi a oj.dst u h3)
  have keepD : ∀ d, YB P ops oi v { a with defers := d :: a.defers } w := fun d => hy.of_same rfl rfl
  unfold wpOp at *
  simp only [hj] at *
  rw [wanted_put oj a oi.dst v h1] at h
  split
  · rename_i hw
    simp only [hw, if_true] at h
    rcases h with h | ⟨hasks, hlets⟩
    case inr => exact .inr ⟨by unfold Oper.asks at *; rw [execOp_put oj hsj a oi.dst v h1] at hasks; exact hasks, hlets⟩
    refine .inl ?_
    unfold Oper.wp at *
    rw [execOp_put oj hsj a oi.dst v h1] at h
    generalize (execOp a.eval oj).run P w = r at *
    cases r with
    | ok n w' =>
      cases n <;> simp only [Oper.upon] at h ⊢
      case value u => exact ⟨keep a hy u, by rw [← Act.put_comm a v u h2]; exact h⟩
      case skip => exact ⟨keep a hy _, by rw [← Act.put_comm a v undef h2]; exact h⟩
      case defer d =>
        refine ⟨keep _ (keepD d) _, ?_⟩
        rw [← Act.put_comm _ v undef h2, ← Act.put_defers]
        exact h
      case enter f args =>
        refine Calls.mono h fun e w'' he => ?_
        cases e with
        | returned u => exact ⟨keep a hy u, by rw [← Act.put_comm a v u h2]; exact he⟩
        | panicked c => exact hQ _ _ _ he
        | outgrown => exact he
      case row row args => exact Rows.mono h fun u w'' he => ⟨keep a hy u, by rw [← Act.put_comm a v u h2]; exact he⟩
    | halt x w' =>
      cases x <;> simp only [Oper.upon] at h ⊢
      case panic u => exact hQ _ _ _ h
  · rename_i hw
    simp only [hw] at h
    exact ⟨keep a hy _, by rw [← Act.put_comm a v undef h2]; exact h⟩

/-- X holds all that can come up while i has not. -/
structure Avoids (ops : Array Oper) (i : Nat) (X : Array Bool) : Prop where
  closed : ∀ (j : Nat) (oj : Oper), ops[j]? = some oj → j ≠ i → (∀ e ∈ oj.after, Region.binds .any e = true → X.getD e.on false = true) → X.getD j false = true
  still : ∀ (j : Nat) (oj : Oper), ops[j]? = some oj → X.getD j false = true → dsO oj.op = false
theorem wpAnyB_first {i : Nat} {oi : Oper} {v : Value} (hi : ops[i]? = some oi) (hsel : ∀ (j : Nat) (o : Oper) cs b, ops[j]? = some o → o.op ≠ .select cs b)
    (hQ : ∀ c a w, Q (.panic c) (a.put oi.dst v) w → Q (.panic c) a w) (X : Array Bool) (hX : memO oi.op = true → Avoids ops i X) :
    ∀ (fuel : Nat) (listed : Array Bool) (a : Act) (w : World),
      (∀ j oj, ops[j]? = some oj → j ≠ i → listed.getD j true = false → (∀ e ∈ oj.after, Region.binds .any e = true → e.on ≠ i) → oi.apart ops oj = true) →
      i ∈ Region.ready .any ops listed → (memO oi.op = true → ∀ j, listed.getD j false = true → X.getD j false = true) → YB P ops oi v a w →
      wpAnyB P ops Q fuel (listed.setIfInBounds i true) (a.put oi.dst v) w → wpAnyB P ops Q (fuel + 1) listed a w := by
  intro fuel
  induction fuel with
  | zero =>
    intro listed a w _ hr _ hy H
    refine ⟨fun h => (by rw [h] at hr; cases hr), fun j hj => ?_⟩
    by_cases hji : j = i
    · subst hji; exact hy.wpOp hi ⟨fun _ => Below.refl _ _, H⟩
    · have := ready_mono hj hji
      rw [H.1] at this
      cases this
  | succ fuel ih =>
    intro listed a w hfree hr hsub hy H
    refine ⟨fun h => (by rw [h] at hr; cases hr), fun j hj => ?_⟩
    by_cases hji : j = i
    · subst hji; exact hy.wpOp hi ⟨fun _ => Below.refl _ _, H⟩
    · have h1 := H.2 j (ready_mono hj hji)
      obtain ⟨hjun, oj, hoj, hall⟩ := mem_ready.1 hj
      have hnot : ∀ e ∈ oj.after, Region.binds .any e = true → e.on ≠ i := fun e he hb heq => by
        have h1 := hall e he hb
        have h0 := (mem_ready.1 hr).1
        rw [heq] at h1
        rcases Nat.lt_or_ge i listed.size with h' | h'
        · simp [h'] at h0 h1; rw [h0] at h1; cases h1
        · simp [Array.getElem?_eq_none h'] at h1
      have h2 := wpOp_putB hoj (hfree j oj hoj hji hjun hnot) (fun cs b => hsel i oi cs b hi) (fun cs b => hsel j oj cs b hoj) hQ hy h1
      have hfree' : ∀ k ok, ops[k]? = some ok → k ≠ i → (listed.setIfInBounds j true).getD k true = false →
          (∀ e ∈ ok.after, Region.binds .any e = true → e.on ≠ i) → oi.apart ops ok = true := fun k ok hk hki hun hno => by
        refine hfree k ok hk hki ?_ hno
        by_cases hjk : j = k
        · subst hjk; exact hjun
        · rw [getD_set_ne true hjk] at hun; exact hun
      have hjX : memO oi.op = true → X.getD j false = true := fun hm => (hX hm).closed j oj hoj hji fun e he hb => hsub hm _ (hall e he hb)
      have hjs : memO oi.op = true → ∀ o, ops[j]? = some o → dsO o.op = false := fun hm o ho => (hX hm).still j o ho (hjX hm)
      have hsub' : memO oi.op = true → ∀ k, (listed.setIfInBounds j true).getD k false = true → X.getD k false = true := fun hm k hk => by
        by_cases hjk : j = k
        · subst hjk; exact hjX hm
        · rw [getD_set_ne false hjk] at hk; exact hsub hm k hk
      refine wpOp_mono (fun a' w' h3 => ⟨h3.2.1, ih (listed.setIfInBounds j true) a' w' hfree' (ready_mono hr (Ne.symm hji)) hsub' (h3.1.later fun hm => h3.2.1 (hjs hm)) ?_⟩) h2
      rw [Array.setIfInBounds_comm _ _ hji]
      exact h3.2.2
end

/-! ### What is computed of the order -/
/-- One more round of what can come up while i has not. -/
def growX (ops : Array Oper) (i : Nat) : Nat → Array Bool → Array Bool
  | 0, X => X
  | n + 1, X => growX ops i n ((List.range ops.size).foldl (fun X j => if j != i && ((ops[j]?).map (fun o => o.after.all fun e => !Region.binds .any e || X.getD e.on false)).getD false then X.setIfInBounds j true else X) X)
def avoidsB (ops : Array Oper) (i : Nat) (listed X : Array Bool) : Bool :=
  (List.range ops.size).all fun j => match ops[j]? with
    | some oj => (j == i || X.getD j false || !(oj.after.all fun e => !Region.binds .any e || X.getD e.on false)) && (!X.getD j false || !dsO oj.op) && (!listed.getD j false || X.getD j false)
    | none => true
theorem avoidsB_spec {ops : Array Oper} {i : Nat} {listed X : Array Bool} (hl : listed.size = ops.size) (h : avoidsB ops i listed X = true) : Avoids ops i X ∧ ∀ j, listed.getD j false = true → X.getD j false = true := by
  have key : ∀ (j : Nat) (oj : Oper), ops[j]? = some oj → (j == i || X.getD j false || !(oj.after.all fun e => !Region.binds .any e || X.getD e.on false)) = true ∧ (!X.getD j false || !dsO oj.op) = true ∧ (!listed.getD j false || X.getD j false) = true := fun j oj hj => by
    have hlt : j < ops.size := by
      rcases Nat.lt_or_ge j ops.size with h | h
      · exact h
      · rw [Array.getElem?_eq_none h] at hj; cases hj
    have := List.all_eq_true.1 h j (by simpa using hlt)
    rw [hj] at this
    simp only [Bool.and_eq_true] at this
    exact ⟨this.1.1, this.1.2, this.2⟩
  refine ⟨⟨fun j oj hj hne hall => ?_, fun j oj hj hx => ?_⟩, fun j hj => ?_⟩
  · obtain ⟨h1, _, _⟩ := key j oj hj
    have ha : (oj.after.all fun e => !Region.binds .any e || X.getD e.on false) = true := by
      rw [Array.all_eq_true_iff_forall_mem]
      intro e he
      cases hb : Region.binds .any e with
      | false => rfl
      | true => simp [hall e he hb] 
    rw [ha] at h1
    simpa [hne] using h1
  · obtain ⟨_, h2, _⟩ := key j oj hj
    rw [hx] at h2
    simpa using h2
  · rcases Nat.lt_or_ge j ops.size with h' | h'
    · obtain ⟨_, _, h3⟩ := key j ops[j] (Array.getElem?_eq_getElem h')
      rw [hj] at h3
      simpa using h3
    · rw [Array.getD_eq_getD_getElem?, Array.getElem?_eq_none (by omega)] at hj
      cases hj
/-- What may be taken first by its kind. -/
def qO : Op → Bool
  | .move _ => true
  | .assign _ => true
  | .pick .. => true
  | .nilCheck _ => true
  | .load .. => true
  | .binOp .. => true
  | .unOp .. => true
  | .convert .. => true
  | .slice .. => true
  | .fieldAddr .. => true
  | .field .. => true
  | .indexAddr .. => true
  | .index .. => true
  | .extract .. => true
  | .build .. => true
  | .call ⟨.builtin .len, _, _⟩ => true
  | .call ⟨.builtin .min, _, _⟩ => true
  | .call ⟨.builtin .max, _, _⟩ => true
  | _ => false
/-- The operation i may be taken first. -/
def takeB (ops : Array Oper) (listed : Array Bool) (i : Nat) : Bool :=
  (Region.ready .any ops listed).contains i && Region.noSelect ops && Region.free .any ops listed i && (listed.size == ops.size) &&
    match ops[i]? with
    | some o => !memO o.op || avoidsB ops i listed (growX ops i 1 listed)
    | none => false
/-- The next one to be taken: a quiet one if there is one. -/
def nextQ (ops : Array Oper) (listed : Array Bool) : Option Nat := (Region.ready .any ops listed).find? fun i => match ops[i]? with
  | some o => qO o.op
  | none => false

/-! ### Abstract states -/
def awY (P : Program) (ops : Array Oper) (fuel : Nat) (listed : Array Bool) (st : St) (Q : Exit → St → Prop) : Prop := ∀ E a w, S E st a w → wpAnyB P ops (QQ E Q) fuel listed a w
/-- No panic is let out. -/
def NP (Q : Exit → St → Prop) : Prop := ∀ c st, ¬ Q (.panic c) st
theorem NP_then {K : St → Prop} {Q : Exit → St → Prop} (h : NP Q) : NP (thenQ K Q) := h
theorem NP_blk {id : Nat} {Q : Exit → St → Prop} (h : NP Q) : NP (blkQ id Q) := h
theorem NP_ret {P : Program} {rs : List ResultVar} {r : AV} {h' : Hp} {keep fix : List Nat} : NP (retQ P rs r h' keep fix) := fun c st h => by
  obtain ⟨h, _⟩ := h
  rcases h with h | h <;> cases h
section
variable {P : Program} {ops : Array Oper} {Q : Exit → St → Prop} {st : St} {listed : Array Bool} {fuel : Nat}
theorem aw_draw {id : Nat} (hm : P.follows .mixedOrders = true) (h : awY P ops ops.size (Array.replicate ops.size false) st Q) : aw P (.region id ops true) st Q := fun E a w ⟨ρ, hS⟩ =>
  wp_region_any hm (wpAny_of_B _ _ _ _ (h E a _ ⟨ρ, hS.below ⟨rfl, rfl, rfl, Nat.le_refl _, fun _ _ => rfl⟩⟩))
theorem awY_done (hr : Region.ready .any ops listed = []) (h : Q .normal st) : awY P ops fuel listed st Q := fun E a w hS => by
  cases fuel with
  | zero => exact ⟨hr, st, hS, h⟩
  | succ n => exact ⟨fun _ => ⟨st, hS, h⟩, by rw [hr]; simp⟩
theorem awY_first {i : Nat} {o : Oper} {y : AV} (hn : NP Q) (ht : takeB ops listed i = true) (hi : ops[i]? = some o) (hd : ∀ d, o.dst = some d → d < st.nt)
    (hy : ∀ E ρ a w, SR E ρ st a w → ∃ v, YB P ops o v a w ∧ Rep w (avd E.bad ρ st.hp) ρ y v) (h : awY P ops fuel (listed.setIfInBounds i true) (st.put o.dst y) Q) : awY P ops (fuel + 1) listed st Q := fun E a w ⟨ρ, hS⟩ => by
  obtain ⟨v, hv, hr⟩ := hy E ρ a w hS
  simp only [takeB, hi, Bool.and_eq_true, Bool.or_eq_true, Bool.not_eq_true', beq_iff_eq] at ht
  obtain ⟨⟨⟨⟨h1, h2⟩, h3⟩, h4⟩, h5⟩ := ht
  refine wpAnyB_first hi (Region.noSelect_spec h2) (fun c a' w' hq => ?_) (growX ops i 1 listed) (fun hm => ?_) fuel listed a w (Region.free_spec hi h3) (by simpa using h1) (fun hm => ?_) hv (h E _ w ⟨ρ, hS.put o.dst hd hr⟩)
  · obtain ⟨s, _, hq⟩ := hq; exact (hn c s hq).elim
  · rcases h5 with h5 | h5
    · rw [h5] at hm; cases hm
    · exact (avoidsB_spec h4 h5).1
  · rcases h5 with h5 | h5
    · rw [h5] at hm; cases hm
    · exact (avoidsB_spec h4 h5).2
theorem awY_one {i : Nat} {o : Oper} (hr : Region.ready .any ops listed = [i]) (hi : ops[i]? = some o)
    (h : ∀ E a w, S E st a w → wpOp P ops (QQ E Q) i (fun a' w' => (dsO o.op = false → Below w.heap.size w w') ∧ wpAnyB P ops (QQ E Q) fuel (listed.setIfInBounds i true) a' w') a w) : awY P ops (fuel + 1) listed st Q := fun E a w hS => by
  refine ⟨fun h0 => (by rw [hr] at h0; cases h0), fun j hj => ?_⟩
  rw [hr] at hj
  have : j = i := by simpa using hj
  subst this
  exact wpOp_mono (fun a' w' h' => ⟨fun hd => h'.1 (hd o hi), h'.2⟩) (h E a w hS)
theorem awY_two {i j : Nat} (hr : Region.ready .any ops listed = [i, j]) (h1 : ∀ E a w, S E st a w → wpOp P ops (QQ E Q) i (fun a' w' => ((∀ o, ops[i]? = some o → dsO o.op = false) → Below w.heap.size w w') ∧ wpAnyB P ops (QQ E Q) fuel (listed.setIfInBounds i true) a' w') a w)
    (h2 : ∀ E a w, S E st a w → wpOp P ops (QQ E Q) j (fun a' w' => ((∀ o, ops[j]? = some o → dsO o.op = false) → Below w.heap.size w w') ∧ wpAnyB P ops (QQ E Q) fuel (listed.setIfInBounds j true) a' w') a w) : awY P ops (fuel + 1) listed st Q := fun E a w hS => by
  refine ⟨fun h0 => (by rw [hr] at h0; cases h0), fun k hk => ?_⟩
  rw [hr] at hk
  simp only [List.mem_cons, List.not_mem_nil, or_false] at hk
  rcases hk with rfl | rfl
  · exact h1 E a w hS
  · exact h2 E a w hS
end
end Go.Proofs.Ytcplbbbjmalfjaa
