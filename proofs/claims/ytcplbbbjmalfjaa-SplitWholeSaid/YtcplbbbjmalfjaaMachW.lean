/- The abstract machine, part 23: nil slices in objects, results with several objects. No program is named here. -/
import Derived.Test.YtcplbbbjmalfjaaMachX
namespace Go.Proofs.Ytcplbbbjmalfjaa
open Go.RowKit
set_option linter.unusedVariables false
set_option linter.unusedSimpArgs false
section
variable {P : Program} {Q : Exit → St → Prop} {c : Code} {fr : List (Nat × AV)} {hp : Hp} {nt : Nat} {fx : List Nat}
/-- In the object k, the cells are said otherwise. -/
theorem SR.re {E : Env} {ρ : Nat → Loc} {a : Act} {w : World} (k : Nat) {cs cs' : List AV} (hk : look hp k = some cs) (hl : cs'.length = cs.length) (hre : ∀ (j : Nat) (x y : AV) (v : Value), cs[j]? = some x → cs'[j]? = some y → Rep w (avd E.bad ρ hp) ρ x v → Rep w (avd E.bad ρ hp) ρ y v) (hS : SR E ρ ⟨fr, hp, nt, fx⟩ a w) : SR E ρ ⟨fr, hset k cs' hp, nt, fx⟩ a w := by
  have hlook : ∀ j, look (hset k cs' hp) j = if j = k then some cs' else look hp j := look_hset k _ hp
  have hown : ownB ρ (hset k cs' hp) = ownB ρ hp := by
    funext b
    apply propext
    constructor
    · rintro ⟨j, c', h1, h2⟩
      rw [hlook] at h1
      split at h1
      · next e => subst e; exact ⟨j, cs, hk, h2⟩
      · exact ⟨j, c', h1, h2⟩
    · rintro ⟨j, c', h1, h2⟩
      by_cases e : j = k
      · subst e; exact ⟨j, _, by rw [hlook, if_pos rfl], h2⟩
      · exact ⟨j, c', by rw [hlook, if_neg e]; exact h1, h2⟩
  have eav : avd E.bad ρ (hset k cs' hp) = avd E.bad ρ hp := by unfold avd; rw [hown]
  have g : ∀ i c, (if i = k then some cs' else look hp i) = some c → ∃ c0, look hp i = some c0 := fun i c hi => by
    split at hi
    · next e => subst e; exact ⟨cs, hk⟩
    · exact ⟨c, hi⟩
  refine ⟨fun t x hx => by simp only [eav]; exact hS.fr t x hx, ⟨fun j c' hj => ?_, fun j j' c1 c2 h1 h2 => ?_⟩, by simp only [hown]; exact hS.own, hS.keep, hS.bad, by simp only [hown]; exact hS.nb, hS.size, hS.defers, hS.fx⟩
  · simp only [eav]
    simp only [hlook] at hj
    split at hj
    · next e =>
      subst e
      injection hj with hj
      subst hj
      have hob := hS.hr.obj j cs hk
      refine ⟨by rw [hl]; exact hob.len, hob.mem, fun i x hx => ?_⟩
      have hi : i < cs.length := by rw [← hl]; exact (List.getElem?_eq_some_iff.1 hx).1
      obtain ⟨v, hv, hr⟩ := hob.cells i cs[i] (List.getElem?_eq_getElem hi)
      exact ⟨v, hv, hre i _ x v (List.getElem?_eq_getElem hi) hx hr⟩
    · exact hS.hr.obj j c' hj
  · simp only [hlook] at h1 h2
    obtain ⟨c0, g1⟩ := g j c1 h1
    obtain ⟨c1', g2⟩ := g j' c2 h2
    exact hS.hr.dis j j' c0 c1' g1 g2
/-- A variable (object k, one cell) that is nil: a slice of an own object K of no cells. -/
theorem S_virtO {E : Env} {a : Act} {w : World} (k K sz : Nat) (hk : look hp k = some [.v (.slice none 0 0)]) (hz : 0 < sz) (hK : K ∉ fx) (hne : k ≠ K) (hS : S E ⟨fr, hp, nt, fx⟩ a w) :
    S E ⟨turn (killX K) fr, hset k [.os K 0 sz 0] (hset K [] (turn (List.map (killC K)) hp)), nt, fx⟩ a w := by
  obtain ⟨ρ, hS⟩ := hS
  have h1 := hS.fresh (w' := w) K hK ⟨0, 0, 0⟩ [] rfl rfl rfl (Nat.le_refl _) (fun _ _ _ => rfl) (fun h => absurd h (by simp)) (by simp) (fun h => absurd h (by simp)) (fun j x hj => by simp at hj) (fun x hx => by cases hx)
  refine ⟨_, SR.re k (cs := [.v (.slice none 0 0)]) ?_ rfl (fun j x y v hx hy hr => ?_) h1⟩
  · rw [look_hset, if_neg hne, look_turn, hk]
    rfl
  · match j, hx, hy with
    | 0, hx, hy =>
      simp at hx hy
      subst hx; subst hy
      rw [hr.v_eq]
      exact .os hz (Nat.le_refl _) (by omega) (fun h => absurd h (by omega))
theorem aw_virtO (k K sz : Nat) (hk : look hp k = some [.v (.slice none 0 0)]) (hz : 0 < sz) (hK : K ∉ fx) (hne : k ≠ K) (h : aw P c ⟨turn (killX K) fr, hset k [.os K 0 sz 0] (hset K [] (turn (List.map (killC K)) hp)), nt, fx⟩ Q) : aw P c ⟨fr, hp, nt, fx⟩ Q :=
  aw_weak (fun E a w hS => S_virtO k K sz hk hz hK hne hS) h
theorem awO_virtO {ops : Array Oper} {l : List Oper} (k K sz : Nat) (hk : look hp k = some [.v (.slice none 0 0)]) (hz : 0 < sz) (hK : K ∉ fx) (hne : k ≠ K) (h : awO P ops l ⟨turn (killX K) fr, hset k [.os K 0 sz 0] (hset K [] (turn (List.map (killC K)) hp)), nt, fx⟩ Q) : awO P ops l ⟨fr, hp, nt, fx⟩ Q :=
  fun E a w hS => h E a w (S_virtO k K sz hk hz hK hne hS)
/-! ### Results with several objects -/
def keepsL (hp : Hp) (keep : List Nat) : Hp → Prop
  | [] => True
  | (k, cs) :: r => (k ∈ keep ∧ (look hp k).bind (roCs hp keep) = some cs) ∧ keepsL hp keep r
theorem keepsL_nil (hp : Hp) (keep : List Nat) : keepsL hp keep [] = True := rfl
theorem keepsL_cons (hp : Hp) (keep : List Nat) (k : Nat) (cs : List AV) (r : Hp) : keepsL hp keep ((k, cs) :: r) = ((k ∈ keep ∧ (look hp k).bind (roCs hp keep) = some cs) ∧ keepsL hp keep r) := rfl
theorem keepsL_spec {hp : Hp} {keep : List Nat} : ∀ {h : Hp}, keepsL hp keep h → ∀ p ∈ h, p.1 ∈ keep ∧ ∃ cs, look hp p.1 = some cs ∧ roCs hp keep cs = some p.2
  | [], _, p, hp => by cases hp
  | (k, cs) :: r, h, p, hp' => by
    rcases List.mem_cons.1 hp' with rfl | hp'
    · exact ⟨h.1.1, by obtain ⟨c, h1, h2⟩ := Option.bind_eq_some_iff.1 h.1.2; exact ⟨c, h1, h2⟩⟩
    · exact keepsL_spec h.2 p hp'
theorem retQ_mkL {st : St} {rs : List ResultVar} {r r' : AV} {h' : Hp} {ys : List AV} {e : Exit} {keep fix : List Nat} (he : e = .normal ∨ e = .ret) (h1 : resL P st rs = some ys) (h2 : roA st.hp keep (one ys) = some r') (h3 : r' = r) (h4 : keepsL st.hp keep h') (h5 : st.fx = fix) : retQ P rs r h' keep fix e st :=
  ⟨he, ⟨ys, h1, by rw [h2, h3]⟩, keepsL_spec h4, h5⟩
end
end Go.Proofs.Ytcplbbbjmalfjaa
