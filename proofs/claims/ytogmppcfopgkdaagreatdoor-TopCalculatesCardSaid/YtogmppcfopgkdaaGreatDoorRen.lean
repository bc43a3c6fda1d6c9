/- The abstract machine: contracts with the own objects under other names. No program is named here. -/
import Derived.Test.YtogmppcfopgkdaaGreatDoorRng
namespace Go.Proofs.YtogmppcfopgkdaaGreatDoor
open Go.RowKit
set_option linter.unusedVariables false
set_option linter.unusedSimpArgs false
mutual
/-- The own object k is called σ k. -/
def renA (σ : Nat → Nat) : AV → AV
  | .v x => .v x
  | .un => .un
  | .rd n cs => .rd n cs
  | .os k off sz n => .os (σ k) off sz n
  | .pt k off => .pt (σ k) off
  | .rp cs => .rp cs
  | .ag cs => .ag (renAs σ cs)
  | .tp cs => .tp (renAs σ cs)
  | .fn f cs => .fn f (renAs σ cs)
  | .sp k => .sp (σ k)
def renAs (σ : Nat → Nat) : List AV → List AV
  | [] => []
  | a :: r => renA σ a :: renAs σ r
end
section
variable {σ : Nat → Nat}
theorem renA_v (x : Value) : renA σ (.v x) = .v x := by rw [renA]
theorem renA_un : renA σ .un = .un := by rw [renA]
theorem renA_rd (n : Nat) (cs : List AV) : renA σ (.rd n cs) = .rd n cs := by rw [renA]
theorem renA_os (k off sz n : Nat) : renA σ (.os k off sz n) = .os (σ k) off sz n := by rw [renA]
theorem renA_pt (k off : Nat) : renA σ (.pt k off) = .pt (σ k) off := by rw [renA]
theorem renA_rp (cs : List AV) : renA σ (.rp cs) = .rp cs := by rw [renA]
theorem renA_ag (cs : List AV) : renA σ (.ag cs) = .ag (renAs σ cs) := by rw [renA]
theorem renA_tp (cs : List AV) : renA σ (.tp cs) = .tp (renAs σ cs) := by rw [renA]
theorem renA_fn (f : FuncId) (cs : List AV) : renA σ (.fn f cs) = .fn f (renAs σ cs) := by rw [renA]
theorem renA_sp (k : Nat) : renA σ (.sp k) = .sp (σ k) := by rw [renA]
theorem renAs_nil : renAs σ [] = [] := by rw [renAs]
theorem renAs_cons (a : AV) (r : List AV) : renAs σ (a :: r) = renA σ a :: renAs σ r := by rw [renAs]
theorem renAs_get : ∀ (cs : List AV) (j : Nat), (renAs σ cs)[j]? = (cs[j]?).map (renA σ)
  | [], j => by rw [renAs_nil]; simp
  | a :: r, 0 => by rw [renAs_cons]; simp
  | a :: r, j + 1 => by rw [renAs_cons]; simp [renAs_get r j]
theorem renAs_len : ∀ cs : List AV, (renAs σ cs).length = cs.length
  | [] => by rw [renAs_nil]
  | a :: r => by rw [renAs_cons, List.length_cons, List.length_cons, renAs_len r]
mutual
theorem renA_inv (hσ : ∀ k, σ (σ k) = k) : ∀ a : AV, renA σ (renA σ a) = a
  | .v x => by simp only [renA_v]
  | .un => by simp only [renA_un]
  | .rd n cs => by simp only [renA_rd]
  | .os k off sz n => by simp only [renA_os, hσ]
  | .pt k off => by simp only [renA_pt, hσ]
  | .rp cs => by simp only [renA_rp]
  | .ag cs => by simp only [renA_ag, renAs_inv hσ cs]
  | .tp cs => by simp only [renA_tp, renAs_inv hσ cs]
  | .fn f cs => by simp only [renA_fn, renAs_inv hσ cs]
  | .sp k => by simp only [renA_sp, hσ]
theorem renAs_inv (hσ : ∀ k, σ (σ k) = k) : ∀ cs : List AV, renAs σ (renAs σ cs) = cs
  | [] => by simp only [renAs_nil]
  | a :: r => by simp only [renAs_cons, renA_inv hσ a, renAs_inv hσ r]
end
theorem Rep.ren {w : World} {av : Nat → Prop} {ρ : Nat → Loc} {a : AV} {x : Value} (h : Rep w av (fun k => ρ (σ k)) a x) : Rep w av ρ (renA σ a) x := by
  induction h with
  | @im a x h => cases h with
    | v x => rw [renA_v]; exact .im (.v x)
    | un x => rw [renA_un]; exact .im (.un x)
    | rd u h1 h2 h0 hm hr => rw [renA_rd]; exact .im (.rd u h1 h2 h0 hm hr)
  | os hs h1 h2 h => rw [renA_os]; exact .os hs h1 h2 h
  | pt => rw [renA_pt]; exact .pt
  | rp u hb hl hc hr => rw [renA_rp]; exact .rp u hb hl hc hr
  | ag hn h ih =>
    rw [renA_ag]
    refine .ag (by rw [renAs_len]; exact hn) fun j a x hj hx => ?_
    rw [renAs_get, Option.map_eq_some_iff] at hj
    obtain ⟨b, hb, rfl⟩ := hj
    exact ih j b x hb hx
  | tp hn h ih =>
    rw [renA_tp]
    refine .tp (by rw [renAs_len]; exact hn) fun j a x hj hx => ?_
    rw [renAs_get, Option.map_eq_some_iff] at hj
    obtain ⟨b, hb, rfl⟩ := hj
    exact ih j b x hb hx
  | fn hy hn h ih =>
    rw [renA_fn]
    refine .fn hy (by rw [renAs_len]; exact hn) fun j a x hj hx => ?_
    rw [renAs_get, Option.map_eq_some_iff] at hj
    obtain ⟨b, hb, rfl⟩ := hj
    exact ih j b x hb hx
  | sp h => rw [renA_sp]; exact .sp h
theorem Rep.unren {w : World} {av : Nat → Prop} {ρ : Nat → Loc} {a : AV} {x : Value} (hσ : ∀ k, σ (σ k) = k) (h : Rep w av ρ (renA σ a) x) : Rep w av (fun k => ρ (σ k)) a x := by
  have h' : Rep w av (fun k => (fun k => ρ (σ k)) (σ k)) (renA σ a) x := by simp only [hσ]; exact h
  have := Rep.ren (σ := σ) (ρ := fun k => ρ (σ k)) h'
  rwa [renA_inv hσ] at this
def renH (σ : Nat → Nat) (h : Hp) : Hp := h.map fun p => (σ p.1, renAs σ p.2)
theorem look_renH (hσ : ∀ k, σ (σ k) = k) : ∀ (h : Hp) (k : Nat), look (renH σ h) k = (look h (σ k)).map (renAs σ)
  | [], k => rfl
  | (i, cs) :: r, k => by
    show look ((σ i, renAs σ cs) :: renH σ r) k = _
    rw [look_cons, look_cons, look_renH hσ r k]
    by_cases e : σ i = k
    · rw [if_pos e, if_pos (by rw [← e, hσ])]; rfl
    · rw [if_neg e, if_neg (fun h => e (by rw [h, hσ]))]
theorem ownB_ren (hσ : ∀ k, σ (σ k) = k) (ρ : Nat → Loc) (h : Hp) : ownB ρ (renH σ h) = ownB (fun k => ρ (σ k)) h := by
  funext b
  apply propext
  constructor
  · rintro ⟨k, cs, h1, h2, h3⟩
    rw [look_renH hσ, Option.map_eq_some_iff] at h1
    obtain ⟨cs', h1, _⟩ := h1
    exact ⟨σ k, cs', h1, by simp only [hσ]; exact h2, by simp only [hσ]; exact h3⟩
  · rintro ⟨k, cs, h1, h2, h3⟩
    exact ⟨σ k, renAs σ cs, by rw [look_renH hσ, hσ, h1]; rfl, h2, h3⟩
theorem avd_ren (hσ : ∀ k, σ (σ k) = k) (bad : Nat → Prop) (ρ : Nat → Loc) (h : Hp) : avd bad ρ (renH σ h) = avd bad (fun k => ρ (σ k)) h := by
  funext b
  unfold avd
  rw [ownB_ren hσ]
theorem HR.ren (hσ : ∀ k, σ (σ k) = k) {bad : Nat → Prop} {ρ : Nat → Loc} {h : Hp} {w : World} (hh : HR bad (fun k => ρ (σ k)) h w) : HR bad ρ (renH σ h) w := by
  refine ⟨fun k cs hk => ?_, fun k k' cs cs' h1 h2 hne => ?_⟩
  · rw [look_renH hσ, Option.map_eq_some_iff] at hk
    obtain ⟨c, hk, rfl⟩ := hk
    obtain ⟨o1, o2, o3⟩ := hh.obj _ _ hk
    simp only [hσ] at o1 o2 o3
    refine ⟨by rw [renAs_len]; exact o1, o2, fun j a hj => ?_⟩
    rw [renAs_get, Option.map_eq_some_iff] at hj
    obtain ⟨b, hb, rfl⟩ := hj
    obtain ⟨x, hx, hr⟩ := o3 j b hb
    exact ⟨x, hx, by rw [avd_ren hσ]; exact hr.ren⟩
  · rw [look_renH hσ, Option.map_eq_some_iff] at h1 h2
    obtain ⟨c, h1, _⟩ := h1
    obtain ⟨c', h2, _⟩ := h2
    have := hh.dis _ _ _ _ h1 h2 (fun e => hne (by have := congrArg σ e; rwa [hσ, hσ] at this))
    simpa only [hσ] using this
theorem HR.unren (hσ : ∀ k, σ (σ k) = k) {bad : Nat → Prop} {ρ : Nat → Loc} {h : Hp} {w : World} (hh : HR bad ρ (renH σ h) w) : HR bad (fun k => ρ (σ k)) h w := by
  have e : renH σ (renH σ h) = h := by
    induction h with
    | nil => rfl
    | cons p r ih =>
      have hr : ∀ r : Hp, renH σ (renH σ r) = r := by
        intro r
        unfold renH
        rw [List.map_map]
        conv => rhs; rw [← List.map_id r]
        refine List.map_congr_left fun p _ => ?_
        simp only [Function.comp, hσ, renAs_inv hσ, id]
      exact hr _
  have := HR.ren (σ := σ) hσ (bad := bad) (ρ := fun k => ρ (σ k)) (h := renH σ h) (w := w) (by simp only [hσ]; exact hh)
  rwa [e] at this
theorem RepC.unren (hσ : ∀ k, σ (σ k) = k) {w : World} {av : Nat → Prop} {ρ : Nat → Loc} {cs : List AV} {us : Array Value} (h : RepC w av ρ (renAs σ cs) us) : RepC w av (fun k => ρ (σ k)) cs us :=
  ⟨by rw [h.1, renAs_len], fun j a x hj hx => (h.2 j (renA σ a) x (by rw [renAs_get, hj]; rfl) hx).unren hσ⟩
theorem Fn.ren {P : Program} {f : FuncId} {args : List AV} {h h' : Hp} {r : AV} {fix : List Nat} (σ : Nat → Nat) (hσ : ∀ k, σ (σ k) = k) (hf : Fn P f args h r h' fix) : Fn P f (renAs σ args) (renH σ h) (renA σ r) (renH σ h') (fix.map σ) := by
  refine ⟨hf.1, fun w bad ρ vs hbad hnb hHR hargs => ?_⟩
  rw [avd_ren hσ] at hargs
  rw [ownB_ren hσ] at hbad hnb
  rw [ownB_ren hσ]
  refine (hf.2 w bad (fun k => ρ (σ k)) vs hbad hnb (hHR.unren hσ) (hargs.unren hσ)).mono ?_
  rintro e w' ⟨v, ρ', he, h1, h2, h3, h4, h5⟩
  have e1 : (fun k => (fun k => ρ' (σ k)) (σ k)) = ρ' := by funext k; simp only [hσ]
  refine ⟨v, fun k => ρ' (σ k), he, ?_, ?_, h3, ?_, ?_⟩
  · rw [avd_ren hσ, e1]
    exact Rep.ren (ρ := fun k => ρ' (σ k)) (by rw [e1]; exact h1)
  · exact HR.ren hσ (ρ := fun k => ρ' (σ k)) (by rw [e1]; exact h2)
  · rw [ownB_ren hσ, e1]
    exact h4
  · intro k hk
    obtain ⟨j, hj, rfl⟩ := List.mem_map.1 hk
    show ρ' (σ (σ j)) = ρ (σ j)
    rw [hσ]
    exact h5 j hj
theorem Pan.ren {P : Program} {f : FuncId} {args : List AV} {h : Hp} {x : Value} (σ : Nat → Nat) (hσ : ∀ k, σ (σ k) = k) (hf : Pan P f args h x) : Pan P f (renAs σ args) (renH σ h) x := by
  refine ⟨hf.1, fun w bad ρ vs hbad hnb hHR hargs => ?_⟩
  rw [avd_ren hσ] at hargs
  rw [ownB_ren hσ] at hbad hnb
  rw [ownB_ren hσ]
  exact hf.2 w bad (fun k => ρ (σ k)) vs hbad hnb (hHR.unren hσ) (hargs.unren hσ)
theorem FnD.ren {P : Program} {g : FuncId} {args : List AV} {h h' : Hp} {u u' : FrameMode} {fix : List Nat} (σ : Nat → Nat) (hσ : ∀ k, σ (σ k) = k) (hf : FnD P g args h u h' fix u') : FnD P g (renAs σ args) (renH σ h) u (renH σ h') (fix.map σ) u' := by
  refine ⟨hf.1, fun w bad ρ vs hbad hnb hHR hargs => ?_⟩
  rw [avd_ren hσ] at hargs
  rw [ownB_ren hσ] at hbad hnb
  rw [ownB_ren hσ]
  refine (hf.2 w bad (fun k => ρ (σ k)) vs hbad hnb (hHR.unren hσ) (hargs.unren hσ)).mono ?_
  rintro e u2 w' ⟨he, hu, ρ', h2, h3, h4, h5⟩
  have e1 : (fun k => (fun k => ρ' (σ k)) (σ k)) = ρ' := by funext k; simp only [hσ]
  refine ⟨he, hu, fun k => ρ' (σ k), ?_, h3, ?_, ?_⟩
  · exact HR.ren hσ (ρ := fun k => ρ' (σ k)) (by rw [e1]; exact h2)
  · rw [ownB_ren hσ, e1]
    exact h4
  · intro k hk
    obtain ⟨j, hj, rfl⟩ := List.mem_map.1 hk
    show ρ' (σ (σ j)) = ρ (σ j)
    rw [hσ]
    exact h5 j hj
end
/-- k and k + 100 change places. -/
def up1 (k : Nat) : Nat := if k < 100 then k + 100 else if k < 200 then k - 100 else k
theorem up1_inv (k : Nat) : up1 (up1 k) = k := by
  unfold up1
  split
  · rw [if_neg (by omega), if_pos (by omega)]; omega
  · split
    · rw [if_pos (by omega)]; omega
    · rfl
/-- i and j change places. -/
def swp (i j k : Nat) : Nat := if k = i then j else if k = j then i else k
theorem swp_inv (i j k : Nat) : swp i j (swp i j k) = k := by
  unfold swp
  by_cases h1 : k = i
  · subst h1
    rw [if_pos rfl]
    by_cases h2 : j = k
    · rw [if_pos h2, h2]
    · rw [if_neg h2, if_pos rfl]
  · rw [if_neg h1]
    by_cases h2 : k = j
    · subst h2
      rw [if_pos rfl, if_pos rfl]
    · rw [if_neg h2, if_neg h1, if_neg h2]
end Go.Proofs.YtogmppcfopgkdaaGreatDoor
