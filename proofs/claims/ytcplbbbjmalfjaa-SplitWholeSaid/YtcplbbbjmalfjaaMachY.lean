/- The abstract machine, part 25: an own object is given up. No program is named here. -/
import Derived.Test.YtcplbbbjmalfjaaMachW
namespace Go.Proofs.Ytcplbbbjmalfjaa
open Go.RowKit
set_option linter.unusedVariables false
set_option linter.unusedSimpArgs false
section
variable {P : Program} {Q : Exit → St → Prop} {c : Code} {fr : List (Nat × AV)} {hp : Hp} {nt : Nat} {fx : List Nat}
/-- An own object is given up: it is data from now on. -/
theorem S_pub {E : Env} {a : Act} {w : World} (t k : Nat) {off sz n : Nat} {cs : List AV} (ht : look fr t = some (.os k off sz n)) (hk : look hp k = some cs) (hl : off + n * sz ≤ cs.length) (hd : ((cs.drop off).take (n * sz)).all dataC = true) (hS : S E ⟨fr, hp, nt, fx⟩ a w) :
    S E ⟨(t, .rd n ((cs.drop off).take (n * sz))) :: fr, cut k hp, nt, fx⟩ a w := by
  obtain ⟨ρ, hS⟩ := hS
  have hlook : ∀ j, look (cut k hp) j = if j = k then none else look hp j := look_cut k hp
  have hmem : ∀ {j : Nat} {c : List AV}, look (cut k hp) j = some c → j ≠ k ∧ look hp j = some c := fun {j c} h => by
    rw [hlook] at h
    split at h
    · cases h
    · next hne => exact ⟨hne, h⟩
  have hown : ∀ b, ownB ρ (cut k hp) b → ownB ρ hp b := fun b ⟨j, c, h1, h2⟩ => ⟨j, c, (hmem h1).2, h2⟩
  have hav : ∀ b, avd E.bad ρ (cut k hp) b → avd E.bad ρ hp b := fun b hb => hb.imp id (hown b)
  refine ⟨ρ, fun t' x hx => ?_, ⟨fun j c hj => ?_, fun j j' c c' h1 h2 => hS.hr.dis j j' c c' (hmem h1).2 (hmem h2).2⟩, fun b hb => hS.own b (hown b hb), hS.keep, hS.bad, fun b hb => hS.nb b (hown b hb), hS.size, hS.defers, hS.fx⟩
  · rw [look_cons] at hx
    split at hx
    · next e =>
      subst e
      injection hx with hx
      subst hx
      refine roC_sound (keep := keysH (cut k hp)) hS.hr.obj (fun b _ hb => hav b hb) (fun j c h1 h2 h3 h4 => ?_) (hS.fr t _ ht) (roC_os (fun h => ?_) hk hl hd)
      · have hjk : j = k := Classical.byContradiction fun hne => h2 (look_keys (cs := c) (by rw [hlook, if_neg hne]; exact h1))
        subst hjk
        rcases h4 with h4 | ⟨j', c', g1, g2, g3⟩
        · exact hS.nb _ ⟨j, c, h1, h3, rfl⟩ h4
        · exact hS.hr.dis j' j c' c (hmem g1).2 h1 (hmem g1).1 g2 h3 g3
      · obtain ⟨p, hp1, hp2⟩ := List.mem_map.1 h
        have : ∃ c, look (cut k hp) k = some c := by
          have gen : ∀ (l : Hp), p ∈ l → ∃ c, look l p.1 = some c := fun l hl => by
            induction l with
            | nil => cases hl
            | cons q r ih =>
              obtain ⟨i, y⟩ := q
              rw [look_cons]
              split
              · exact ⟨y, rfl⟩
              · next hne =>
                rcases List.mem_cons.1 hl with e | e
                · rw [e] at hne; exact absurd rfl hne
                · exact ih e
          have h3 := gen _ hp1
          rw [hp2] at h3
          exact h3
        obtain ⟨c, hc⟩ := this
        exact (hmem hc).1 rfl
    · exact (hS.fr t' x hx).tr (Nat.le_refl _) (fun _ _ _ _ => rfl) (fun b _ hb => hav b hb) (fun _ h => absurd rfl h)
  · exact (hS.hr.obj j c (hmem hj).2).tr (Nat.le_refl _) (fun _ => rfl) (fun _ _ _ _ => rfl) (fun b _ hb => hav b hb) (fun _ h => absurd rfl h)
theorem aw_pub (t k : Nat) {off sz n : Nat} {cs : List AV} (ht : look fr t = some (.os k off sz n)) (hk : look hp k = some cs) (hl : off + n * sz ≤ cs.length) (hd : ((cs.drop off).take (n * sz)).all dataC = true) (h : aw P c ⟨(t, .rd n ((cs.drop off).take (n * sz))) :: fr, cut k hp, nt, fx⟩ Q) : aw P c ⟨fr, hp, nt, fx⟩ Q :=
  aw_weak (fun E a w hS => S_pub t k ht hk hl hd hS) h
theorem awO_pub {ops : Array Oper} {l : List Oper} (t k : Nat) {off sz n : Nat} {cs : List AV} (ht : look fr t = some (.os k off sz n)) (hk : look hp k = some cs) (hl : off + n * sz ≤ cs.length) (hd : ((cs.drop off).take (n * sz)).all dataC = true) (h : awO P ops l ⟨(t, .rd n ((cs.drop off).take (n * sz))) :: fr, cut k hp, nt, fx⟩ Q) : awO P ops l ⟨fr, hp, nt, fx⟩ Q :=
  fun E a w hS => h E a w (S_pub t k ht hk hl hd hS)
/-- A call that is handed an own object as data. -/
theorem awO_pc1 {ops : Array Oper} {rest : List Oper} {o : Oper} {f : FuncId} {t k : Nat} {args : List Operand} {ts : Array TypeId} {off sz n : Nat} {cs : List AV} (ho : o.op = .call ⟨.value (.func f), (.tmp t :: args).toArray, ts⟩) (ht : look fr t = some (.os k off sz n)) (hk : look hp k = some cs) (hl : off + n * sz ≤ cs.length) (hd : ((cs.drop off).take (n * sz)).all dataC = true) (h : awO P ops (o :: rest) ⟨(t, .rd n ((cs.drop off).take (n * sz))) :: fr, cut k hp, nt, fx⟩ Q) : awO P ops (o :: rest) ⟨fr, hp, nt, fx⟩ Q := awO_pub t k ht hk hl hd h
theorem awO_pc2 {ops : Array Oper} {rest : List Oper} {o : Oper} {f : FuncId} {t k : Nat} {x : Operand} {args : List Operand} {ts : Array TypeId} {off sz n : Nat} {cs : List AV} (ho : o.op = .call ⟨.value (.func f), (x :: .tmp t :: args).toArray, ts⟩) (ht : look fr t = some (.os k off sz n)) (hk : look hp k = some cs) (hl : off + n * sz ≤ cs.length) (hd : ((cs.drop off).take (n * sz)).all dataC = true) (h : awO P ops (o :: rest) ⟨(t, .rd n ((cs.drop off).take (n * sz))) :: fr, cut k hp, nt, fx⟩ Q) : awO P ops (o :: rest) ⟨fr, hp, nt, fx⟩ Q := awO_pub t k ht hk hl hd h
end
theorem cut_nil (k : Nat) : cut k ([] : Hp) = [] := rfl
theorem cut_cons (k i : Nat) (x : List AV) (r : Hp) : cut k ((i, x) :: r) = if i = k then cut k r else (i, x) :: cut k r := rfl
attribute [go_sem] cut_nil cut_cons
end Go.Proofs.Ytcplbbbjmalfjaa
