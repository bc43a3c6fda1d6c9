/- The abstract machine, part 19: drawn regions in which several operations may come first. No program is named here. -/
import Derived.Test.YtcplbbbjmalfjaaMachR
namespace Go.Proofs.Ytcplbbbjmalfjaa
open Go.RowKit
set_option linter.unusedVariables false
set_option linter.unusedSimpArgs false
/-- The operation i comes next. -/
def awI (P : Program) (ops : Array Oper) (fuel : Nat) (listed : Array Bool) (st : St) (Q : Exit → St → Prop) (i : Nat) : Prop := ∀ E a w, S E st a w →
  wpOp P ops (QQ E Q) i (fun a' w' => ((∀ o, ops[i]? = some o → dsO o.op = false) → Below w.heap.size w w') ∧ wpAnyB P ops (QQ E Q) fuel (listed.setIfInBounds i true) a' w') a w
structure SubK (s t : St) : Prop where
  fr : ∀ k x, look s.fr k = some x → look t.fr k = some x
  hp : ∀ k x, look s.hp k = some x → look t.hp k = some x
  nt : s.nt = t.nt
  fx : s.fx = t.fx
theorem SubK.S {s t : St} (h : SubK s t) {E : Env} {a : Act} {w : World} (hs : S E t a w) : S E s a w := by
  obtain ⟨ρ, hs⟩ := hs
  have hown : ∀ b, ownB ρ s.hp b → ownB ρ t.hp b := fun b ⟨k, cs, h1, h2⟩ => ⟨k, cs, h.hp k cs h1, h2⟩
  have hav : ∀ b, avd E.bad ρ s.hp b → avd E.bad ρ t.hp b := fun b hb => hb.imp id (hown b)
  refine ⟨ρ, fun k x hk => ?_, ⟨fun k cs hk => ?_, fun k k' cs cs' h1 h2 => hs.hr.dis k k' cs cs' (h.hp _ _ h1) (h.hp _ _ h2)⟩, fun b hb => hs.own b (hown b hb), hs.keep, hs.bad, fun b hb => hs.nb b (hown b hb), by rw [h.nt]; exact hs.size, hs.defers, by rw [h.fx]; exact hs.fx⟩
  · exact (hs.fr k x (h.fr k x hk)).tr (Nat.le_refl _) (fun _ _ _ _ => rfl) (fun b _ hb => hav b hb) (fun k hk => absurd rfl hk)
  · exact (hs.hr.obj k cs (h.hp k cs hk)).tr (Nat.le_refl _) (fun _ => rfl) (fun _ _ _ _ => rfl) (fun b _ hb => hav b hb) (fun k hk => absurd rfl hk)
/-- The region ends in a state in which M is known. -/
def endQ (M : St) : Exit → St → Prop := fun e st => e = .normal ∧ SubK M st
theorem endQ_rfl {st : St} : endQ st .normal st := ⟨rfl, fun _ _ h => h, fun _ _ h => h, rfl, rfl⟩
theorem look_cutL : ∀ (l : List (Nat × AV)) (ws : List Nat) (k : Nat) (x : AV), look l k = some x → k ∉ ws → (k, x) ∈ cutL ws l
  | [], _, _, _, h, _ => by simp [look] at h
  | (i, y) :: r, ws, k, x, h, hk => by
    rw [look_cons] at h
    rw [cutL_cons]
    split at h
    · next e =>
      subst e
      injection h with h
      subst h
      rw [if_neg (by simpa using hk)]
      exact List.mem_cons_self ..
    · next e =>
      split
      · exact look_cutL r ws k x h hk
      · exact List.mem_cons_of_mem _ (look_cutL r (i :: ws) k x h (by simp only [List.mem_cons, not_or]; exact ⟨fun h' => e h'.symm, hk⟩))
theorem endQ_sub {fr fr' : List (Nat × AV)} {hp hp' : Hp} {nt : Nat} {fx : List Nat} (h1 : subL (cutL [] fr) fr') (h2 : subL hp hp') : endQ ⟨fr, hp, nt, fx⟩ .normal ⟨fr', hp', nt, fx⟩ :=
  ⟨rfl, fun k x hk => subL_spec h1 _ (look_cutL fr [] k x hk (by simp)), fun k x hk => subL_spec h2 _ (look_mem hk), rfl, rfl⟩
theorem NP_end {M : St} : NP (endQ M) := fun c st h => by cases h.1
theorem wpOp_mono2 {P : Program} {ops : Array Oper} {Q Q' : Exit → Act → World → Prop} {i : Nat} {a : Act} {w : World} {K K' : Act → World → Prop} (h : ∀ a w, K a w → K' a w) (hq : ∀ e a w, Q e a w → Q' e a w)
    (hh : wpOp P ops Q i K a w) : wpOp P ops Q' i K' a w := by
  have hl : LetsOut Q → LetsOut Q' := fun ⟨a, w, h⟩ => ⟨a, w, hq _ _ _ h⟩
  unfold wpOp at *
  split
  · exact h _ _ (by simpa [*] using hh)
  · rename_i o ho
    simp only [ho] at hh
    split
    · rename_i hw
      simp only [hw, if_true] at hh
      refine hh.imp (fun hh => ?_) (fun hh => ⟨hh.1, hl hh.2⟩)
      unfold Oper.wp at *
      generalize (execOp a.eval o).run P w = r at *
      cases r with
      | ok n w' =>
        cases n <;> simp only [Oper.upon] at hh ⊢ <;>
          first
            | exact h _ _ hh
            | exact Calls.mono hh (fun e w'' he => by cases e <;> first | exact h _ _ he | exact hq _ _ _ he | exact hl he)
            | exact Rows.mono hh (fun _ _ he => h _ _ he)
      | halt x w' => cases x <;> simp only [Oper.upon] at hh ⊢ <;> exact hq _ _ _ hh
    · rename_i hw; simp only [hw] at hh; exact h _ _ hh
/-- The first that may come is i. -/
def awP (P : Program) (ops : Array Oper) (fuel : Nat) (listed : Array Bool) (st : St) (Q : Exit → St → Prop) (i : Nat) : Prop := awY P ops fuel listed st Q
section
variable {P : Program} {ops : Array Oper} {Q : Exit → St → Prop} {st st' : St} {listed : Array Bool} {fuel : Nat} {o : Oper}
theorem awY_p (i : Nat) (h0 : (Region.ready .any ops listed)[0]? = some i) (h : awP P ops fuel listed st Q i) : awY P ops fuel listed st Q := h
theorem awY_end {M : St} (h : awY P ops fuel listed st (endQ M)) (hM : Q .normal M) : awY P ops fuel listed st Q := fun E a w hS => by
  have key : ∀ (fuel : Nat) (listed : Array Bool) (a : Act) (w : World), wpAnyB P ops (QQ E (endQ M)) fuel listed a w → wpAnyB P ops (QQ E Q) fuel listed a w := by
    have hq : ∀ e a w, QQ E (endQ M) e a w → QQ E Q e a w := fun e a w ⟨st', hs, he, hsub⟩ => by
      subst he
      exact ⟨M, hsub.S hs, hM⟩
    intro fuel
    induction fuel with
    | zero => exact fun listed a w h => ⟨h.1, hq _ _ _ h.2⟩
    | succ n ih => exact fun listed a w h => ⟨fun h0 => hq _ _ _ (h.1 h0), fun i hi => wpOp_mono2 (fun a' w' h' => ⟨h'.1, ih _ a' w' h'.2⟩) hq (h.2 i hi)⟩
  exact key fuel listed a w (h E a w hS)
/-- Two may come first: either way leads to M. -/
theorem awP_2 {i : Nat} (j : Nat) (M : St) (hr : Region.ready .any ops listed = [i, j]) (h1 : awI P ops fuel listed st (endQ M) i) (h2 : awI P ops fuel listed st (endQ M) j) (hM : Q .normal M) : awP P ops (fuel + 1) listed st Q i := by
  refine awY_end (M := M) (fun E a w hS => ⟨fun h0 => (by rw [hr] at h0; cases h0), fun k hk => ?_⟩) hM
  rw [hr] at hk
  simp only [List.mem_cons, List.not_mem_nil, or_false] at hk
  rcases hk with rfl | rfl
  · exact h1 E a w hS
  · exact h2 E a w hS
theorem awI_ev {i : Nat} (hi : ops[i]? = some o) (hg : o.guard = none) (he : ev P st o = some st') (h : awY P ops fuel (listed.setIfInBounds i true) st' Q) : awI P ops fuel listed st Q i :=
  fun E a w ⟨ρ, hS⟩ => wpOp_of_step hi (by simp [Region.wanted, hg]) (ev_sound hS he) fun a' w' hs hb => ⟨fun hd => hb (hd o hi), h E a' w' hs⟩
theorem awI_c {i d : Nat} {f : FuncId} {args : List Operand} {ts : Array TypeId} {ys : List AV} {r : AV} (hi : ops[i]? = some o) (hg : o.guard = none) (ho : o.op = .call ⟨.value (.func f), args.toArray, ts⟩) (ha : argsA st args = some ys) (hc : Ab P f ys r) (him : ys.all immA = true) (hir : immA r = true)
    (hd : o.dst = some d) (hdn : d < st.nt) (h : awY P ops fuel (listed.setIfInBounds i true) (st.put (some d) r) Q) : awI P ops fuel listed st Q i :=
  fun E a w ⟨ρ, hS⟩ => wpOp_of_wp hi (by simp [Region.wanted, hg]) (call_step hS ho ha hc him hir (fun e he => by rw [hd] at he; injection he with he; subst he; exact hdn) fun a' w' hs hb => ⟨fun _ => hb, h E a' w' (by rw [hd] at hs; exact hs)⟩)
theorem awI_f {i d : Nat} {f : FuncId} {args : List Operand} {ts : Array TypeId} {ys zs : List AV} {r : AV} (hi : ops[i]? = some o) (hg : o.guard = none) (ho : o.op = .call ⟨.value (.func f), args.toArray, ts⟩) (ha : argsA st args = some ys) (hz : roPs st.hp [] ys = some zs) (hc : Ab P f zs r) (hir : flatA r = true)
    (hd : o.dst = some d) (hdn : d < st.nt) (h : awY P ops fuel (listed.setIfInBounds i true) (st.put (some d) r) Q) : awI P ops fuel listed st Q i :=
  fun E a w ⟨ρ, hS⟩ => wpOp_of_wp hi (by simp [Region.wanted, hg]) (callF_step hS ho ha hz hc hir (fun e he => by rw [hd] at he; injection he with he; subst he; exact hdn) fun a' w' hs hb => ⟨fun _ => hb, h E a' w' (by rw [hd] at hs; exact hs)⟩)
end
end Go.Proofs.Ytcplbbbjmalfjaa
