/- The abstract machine, part 9: own objects read as data; contracts of functions; control. No program is named here. -/
import Derived.Test.YtcplbbbjmalfjaaMachH
import Derived.Deep.LoopGhost
namespace Go.Proofs.Ytcplbbbjmalfjaa
open Go.RowKit
set_option linter.unusedVariables false
set_option linter.unusedSimpArgs false

/-! ### Data -/
def dataC : AV → Bool
  | .v _ => true
  | .un => true
  | .rd .. => true
  | _ => false
def immC : AV → Bool
  | .v _ => true
  | .un => true
  | .rd .. => true
  | .rp _ => true
  | _ => false
def immP : AV → Bool
  | .ag cs => cs.all immC
  | x => immC x
/-- No own object is spoken of. -/
def immA : AV → Bool
  | .tp vs => vs.all immP
  | x => immP x
def flatC : AV → Bool
  | .v _ => true
  | .un => true
  | _ => false
def flatP : AV → Bool
  | .ag cs => cs.all flatC
  | x => flatC x
/-- No memory is spoken of. -/
def flatA : AV → Bool
  | .tp vs => vs.all flatP
  | x => flatP x
theorem immC_ment {x : AV} (h : immC x = true) (k : Nat) : cellM k x = false := by cases x <;> simp_all [immC, cellM]
theorem immP_ment {x : AV} (h : immP x = true) (k : Nat) : partM k x = false := by
  cases x with
  | ag cs =>
    simp only [immP, List.all_eq_true] at h
    simp only [partM, List.any_eq_false]
    exact fun y hy => by simpa using immC_ment (h y hy) k
  | _ => simp_all [immP, immC, partM, cellM]
theorem immA_ment {x : AV} (h : immA x = true) (k : Nat) : mentM k x = false := by
  cases x with
  | tp vs =>
    simp only [immA, List.all_eq_true] at h
    simp only [mentM, List.any_eq_false]
    exact fun y hy => by simpa using immP_ment (h y hy) k
  | _ => first
    | (simp_all [immA, immP, immC, mentM, partM, cellM]; done)
    | exact immP_ment (x := .ag _) h k
section
variable {w w' : World} {av av' : Nat → Prop} {ρ ρ' : Nat → Loc}
theorem Rep.imm {x : AV} {v : Value} (h : Rep w av ρ x v) (hx : immA x = true) : Rep w av ρ' x v := h.tr (Nat.le_refl _) (fun _ _ _ _ => rfl) (fun _ _ h => h) (fun k _ => immA_ment hx k)
theorem Rep.flat {x : AV} {v : Value} (h : Rep w av ρ x v) (hx : flatA x = true) : Rep w' av' ρ' x v := by
  have cell : ∀ {y : AV} {u : Value}, flatC y = true → Rep w av ρ y u → Rep w' av' ρ' y u := fun {y u} hy hr => by
    cases y <;> simp only [flatC, Bool.false_eq_true] at hy
    · rw [hr.v_eq]; exact .im (.v _)
    · exact .im (.un _)
  have part : ∀ {y : AV} {u : Value}, flatP y = true → Rep w av ρ y u → Rep w' av' ρ' y u := fun {y u} hy hr => by
    cases y with
    | ag cs =>
      simp only [flatP, List.all_eq_true] at hy
      obtain ⟨us, rfl, hn, h⟩ := hr.ag_inv
      exact .ag hn fun j a x hj hx => cell (hy a (List.mem_of_getElem? hj)) (h j a x hj hx)
    | _ => first
      | exact cell hy hr
      | exact cell (y := .v _) hy hr
      | exact cell (y := .un) hy hr
      | (simp [flatP, flatC] at hy; done)
  cases x with
  | tp vs =>
    simp only [flatA, List.all_eq_true] at hx
    obtain ⟨us, rfl, hn, h⟩ := h.tp_inv
    exact .tp hn fun j a x hj hx' => part (hx a (List.mem_of_getElem? hj)) (h j a x hj hx')
  | ag cs => exact part (y := .ag cs) hx h
  | v x => exact part (y := .v x) hx h
  | un => exact part (y := .un) hx h
  | _ => simp [flatA, flatP, flatC] at hx
theorem Rep.data {x : AV} {v : Value} (h : Rep w av ρ x v) (hx : dataC x = true) : RepI w av x v := by
  cases x <;> simp only [dataC, Bool.false_eq_true] at hx
  · rw [h.v_eq]; exact .v _
  · exact .un _
  · cases h with
    | im h => exact h
end

/-! ### Own objects read as data: a call's arguments, a function's results -/
/-- 'keep': the own objects that stay. -/
def roC (hp : Hp) (keep : List Nat) : AV → Option AV
  | .os k off sz n => if k ∈ keep then some (.os k off sz n) else (sliceC hp (.os k off sz n)).bind fun q => if q.2.all dataC = true then some (.rd q.1 q.2) else none
  | .pt k off => if k ∈ keep then some (.pt k off) else (look hp k).bind fun cs => if (cs.drop off).all dataC = true ∧ off < cs.length then some (.rp (cs.drop off)) else none
  | .ag _ => none
  | .tp _ => none
  | .fn _ _ => none
  | .sp k => if k ∈ keep then some (.sp k) else some .un
  | x => some x
def roCs (hp : Hp) (keep : List Nat) : List AV → Option (List AV)
  | [] => some []
  | x :: r => (roC hp keep x).bind fun y => (roCs hp keep r).map (y :: ·)
def roP (hp : Hp) (keep : List Nat) : AV → Option AV
  | .ag cs => (roCs hp keep cs).map .ag
  | .fn f cs => (roCs hp keep cs).map (.fn f)
  | x => roC hp keep x
def roPs (hp : Hp) (keep : List Nat) : List AV → Option (List AV)
  | [] => some []
  | x :: r => (roP hp keep x).bind fun y => (roPs hp keep r).map (y :: ·)
def roA (hp : Hp) (keep : List Nat) : AV → Option AV
  | .tp vs => (roPs hp keep vs).map .tp
  | x => roP hp keep x
theorem roC_v (hp : Hp) (keep : List Nat) (x : Value) : roC hp keep (.v x) = some (.v x) := rfl
theorem roC_un (hp : Hp) (keep : List Nat) : roC hp keep .un = some .un := rfl
theorem roC_rd (hp : Hp) (keep : List Nat) (n : Nat) (cs : List AV) : roC hp keep (.rd n cs) = some (.rd n cs) := rfl
theorem roC_rp (hp : Hp) (keep : List Nat) (cs : List AV) : roC hp keep (.rp cs) = some (.rp cs) := rfl
theorem roC_os_keep {hp : Hp} {keep : List Nat} {k off sz n : Nat} (h : k ∈ keep) : roC hp keep (.os k off sz n) = some (.os k off sz n) := by simp [roC, h]
theorem roC_os {hp : Hp} {keep : List Nat} {k off sz n : Nat} {cs : List AV} (h : k ∉ keep) (hk : look hp k = some cs) (hl : off + n * sz ≤ cs.length) (hd : ((cs.drop off).take (n * sz)).all dataC = true) :
    roC hp keep (.os k off sz n) = some (.rd n ((cs.drop off).take (n * sz))) := by simp only [roC, h, if_false, sliceC_os hk hl, Option.bind_some, hd, if_true]
theorem roC_pt_keep {hp : Hp} {keep : List Nat} {k off : Nat} (h : k ∈ keep) : roC hp keep (.pt k off) = some (.pt k off) := by simp [roC, h]
theorem roCs_nil (hp : Hp) (keep : List Nat) : roCs hp keep [] = some [] := rfl
theorem roCs_cons (hp : Hp) (keep : List Nat) (x : AV) (r : List AV) : roCs hp keep (x :: r) = (roC hp keep x).bind fun y => (roCs hp keep r).map (y :: ·) := rfl
theorem roPs_nil (hp : Hp) (keep : List Nat) : roPs hp keep [] = some [] := rfl
theorem roPs_cons (hp : Hp) (keep : List Nat) (x : AV) (r : List AV) : roPs hp keep (x :: r) = (roP hp keep x).bind fun y => (roPs hp keep r).map (y :: ·) := rfl

section
variable {w : World} {av av' : Nat → Prop} {ρ : Nat → Loc} {hp : Hp} {keep : List Nat}
theorem roC_sound (hobj : ∀ k cs, look hp k = some cs → ObjR w av ρ (ρ k) cs) (hav : ∀ b, b < w.heap.size → av' b → av b) (hpub : ∀ k cs, look hp k = some cs → k ∉ keep → 0 < (ρ k).cap → ¬ av' (ρ k).g)
    {x y : AV} {v : Value} (hx : Rep w av ρ x v) (h : roC hp keep x = some y) : Rep w av' ρ y v := by
  have same : Rep w av' ρ x v := hx.tr (Nat.le_refl _) (fun _ _ _ _ => rfl) hav (fun _ hk => absurd rfl hk)
  cases x with
  | os k off sz n =>
    simp only [roC] at h
    split at h
    · injection h with h; subst h; exact same
    · next hk =>
      simp only [sliceC, Option.bind_eq_some_iff] at h
      obtain ⟨q, ⟨cs, hl, hq⟩, h⟩ := h
      split at hq
      · next hle =>
        injection hq with hq
        subst hq
        simp only at h
        split at h
        · next hd =>
          injection h with h
          subst h
          obtain ⟨A, c, rfl, h0, h1, h2, hm⟩ := hx.os_inv
          have hob := hobj k cs hl
          let u : Nat → Value := fun j => (w.cell? ⟨(ρ k).g, (ρ k).off + off + j, none⟩).getD undef
          have hcell : ∀ (j : Nat) (a : AV), ((cs.drop off).take (n * sz))[j]? = some a → w.cell? ⟨(ρ k).g, (ρ k).off + off + j, none⟩ = some (u j) ∧ Rep w av ρ a (u j) := fun j a hj => by
            rw [List.getElem?_take] at hj
            split at hj
            · rw [List.getElem?_drop] at hj
              obtain ⟨x, hx, hr⟩ := hob.cells _ a hj
              rw [← Nat.add_assoc] at hx
              exact ⟨by simp [u, hx], by simp [u, hx]; exact hr⟩
            · cases hj
          refine .im (.rd u h1 h2 (fun h => by rw [h]; simp) (fun hn => ?_) (fun j a hj => ?_))
          · obtain ⟨rfl, hcap⟩ := hm (by omega)
            have hpos : 0 < (ρ k).cap := by
              have : 0 < c * sz := Nat.mul_pos (by omega) h0
              omega
            exact ⟨_, _, rfl, hpub k cs hl hk hpos, (hob.mem hpos).1, fun j hj => (hcell j _ (List.getElem?_eq_getElem hj)).1⟩
          · exact ((hcell j a hj).2.data (List.all_eq_true.1 hd a (List.mem_of_getElem? hj))).tr (Nat.le_refl _) (fun _ _ _ _ => rfl) hav
        · cases h
      · cases hq
  | pt k off =>
    simp only [roC] at h
    split at h
    · injection h with h; subst h; exact same
    · next hk =>
      rw [Option.bind_eq_some_iff] at h
      obtain ⟨cs, hl, h⟩ := h
      split at h
      · next hc =>
        injection h with h
        subst h
        rw [hx.pt_inv]
        have hob := hobj k cs hl
        have hpos : 0 < (ρ k).cap := by have := hob.len; omega
        let u : Nat → Value := fun j => (w.cell? ⟨(ρ k).g, (ρ k).off + off + j, none⟩).getD undef
        have hcell : ∀ (j : Nat) (a : AV), (cs.drop off)[j]? = some a → w.cell? ⟨(ρ k).g, (ρ k).off + off + j, none⟩ = some (u j) ∧ Rep w av ρ a (u j) := fun j a hj => by
          rw [List.getElem?_drop] at hj
          obtain ⟨x, hx, hr⟩ := hob.cells _ a hj
          rw [← Nat.add_assoc] at hx
          exact ⟨by simp [u, hx], by simp [u, hx]; exact hr⟩
        exact .rp u (hpub k cs hl hk hpos) (hob.mem hpos).1 (fun j hj => (hcell j _ (List.getElem?_eq_getElem hj)).1)
          (fun j a hj => ((hcell j a hj).2.data (List.all_eq_true.1 hc.1 a (List.mem_of_getElem? hj))).tr (Nat.le_refl _) (fun _ _ _ _ => rfl) hav)
      · cases h
  | ag cs => simp [roC] at h
  | tp cs => simp [roC] at h
  | fn f cs => simp [roC] at h
  | sp k =>
    simp only [roC] at h
    split at h
    · injection h with h; subst h; exact same
    · injection h with h; subst h; exact .im (.un _)
  | _ => simp only [roC, Option.some.injEq] at h; subst h; exact same
theorem roCs_spec : ∀ {cs ds : List AV}, roCs hp keep cs = some ds → ds.length = cs.length ∧ ∀ (j : Nat) (x y : AV), cs[j]? = some x → ds[j]? = some y → roC hp keep x = some y
  | [], ds, h => by simp only [roCs, Option.some.injEq] at h; subst h; exact ⟨rfl, fun j x y hx => by simp at hx⟩
  | x :: r, ds, h => by
    simp only [roCs, Option.bind_eq_some_iff, Option.map_eq_some_iff] at h
    obtain ⟨y, hy, l, hl, rfl⟩ := h
    obtain ⟨h1, h2⟩ := roCs_spec hl
    refine ⟨by simp [h1], fun j a b ha hb => ?_⟩
    rcases j with _ | j
    · simp at ha hb; subst ha; subst hb; exact hy
    · simp at ha hb; exact h2 j a b ha hb
theorem roPs_spec : ∀ {cs ds : List AV}, roPs hp keep cs = some ds → ds.length = cs.length ∧ ∀ (j : Nat) (x y : AV), cs[j]? = some x → ds[j]? = some y → roP hp keep x = some y
  | [], ds, h => by simp only [roPs, Option.some.injEq] at h; subst h; exact ⟨rfl, fun j x y hx => by simp at hx⟩
  | x :: r, ds, h => by
    simp only [roPs, Option.bind_eq_some_iff, Option.map_eq_some_iff] at h
    obtain ⟨y, hy, l, hl, rfl⟩ := h
    obtain ⟨h1, h2⟩ := roPs_spec hl
    refine ⟨by simp [h1], fun j a b ha hb => ?_⟩
    rcases j with _ | j
    · simp at ha hb; subst ha; subst hb; exact hy
    · simp at ha hb; exact h2 j a b ha hb
theorem roP_sound (hobj : ∀ k cs, look hp k = some cs → ObjR w av ρ (ρ k) cs) (hav : ∀ b, b < w.heap.size → av' b → av b) (hpub : ∀ k cs, look hp k = some cs → k ∉ keep → 0 < (ρ k).cap → ¬ av' (ρ k).g)
    {x y : AV} {v : Value} (hx : Rep w av ρ x v) (h : roP hp keep x = some y) : Rep w av' ρ y v := by
  cases x with
  | ag cs =>
    simp only [roP, Option.map_eq_some_iff] at h
    obtain ⟨ds, hd, rfl⟩ := h
    obtain ⟨h1, h2⟩ := roCs_spec hd
    obtain ⟨us, rfl, hn, hr⟩ := hx.ag_inv
    refine .ag (by omega) fun j b u hj hu => ?_
    have hj' : j < cs.length := by rw [← h1]; exact (List.getElem?_eq_some_iff.1 hj).1
    exact roC_sound hobj hav hpub (hr j cs[j] u (List.getElem?_eq_getElem hj') hu) (h2 j _ b (List.getElem?_eq_getElem hj') hj)
  | fn f cs =>
    simp only [roP, Option.map_eq_some_iff] at h
    obtain ⟨ds, hd, rfl⟩ := h
    obtain ⟨h1, h2⟩ := roCs_spec hd
    obtain ⟨us, rfl, hn, hr⟩ := hx.fn_inv
    refine .fn (by omega) fun j b u hj hu => ?_
    have hj' : j < cs.length := by rw [← h1]; exact (List.getElem?_eq_some_iff.1 hj).1
    exact roC_sound hobj hav hpub (hr j cs[j] u (List.getElem?_eq_getElem hj') hu) (h2 j _ b (List.getElem?_eq_getElem hj') hj)
  | _ => exact roC_sound hobj hav hpub hx h
theorem roA_sound (hobj : ∀ k cs, look hp k = some cs → ObjR w av ρ (ρ k) cs) (hav : ∀ b, b < w.heap.size → av' b → av b) (hpub : ∀ k cs, look hp k = some cs → k ∉ keep → 0 < (ρ k).cap → ¬ av' (ρ k).g)
    {x y : AV} {v : Value} (hx : Rep w av ρ x v) (h : roA hp keep x = some y) : Rep w av' ρ y v := by
  cases x with
  | tp cs =>
    simp only [roA, Option.map_eq_some_iff] at h
    obtain ⟨ds, hd, rfl⟩ := h
    obtain ⟨h1, h2⟩ := roPs_spec hd
    obtain ⟨us, rfl, hn, hr⟩ := hx.tp_inv
    refine .tp (by omega) fun j b u hj hu => ?_
    have hj' : j < cs.length := by rw [← h1]; exact (List.getElem?_eq_some_iff.1 hj).1
    exact roP_sound hobj hav hpub (hr j cs[j] u (List.getElem?_eq_getElem hj') hu) (h2 j _ b (List.getElem?_eq_getElem hj') hj)
  | _ => exact roP_sound hobj hav hpub hx h
end

/-! ### Contracts -/
/-- The function f, called with args where the own objects are h, hands back r and leaves the own objects h'; the objects 'fix' have stayed where they were; all else is as it was. -/
def callable (P : Program) (f : FuncId) : Bool := match P.funcs[f]? with
  | some fn => !(fn.name == "runtime.NumGoroutine") && fn.body.isSome
  | none => false
def Fn (P : Program) (f : FuncId) (args : List AV) (h : Hp) (r : AV) (h' : Hp) (fix : List Nat) : Prop :=
  callable P f = true ∧ ∀ (w : World) (bad : Nat → Prop) (ρ : Nat → Loc) (vs : Array Value), (∀ b, bad b → b < w.heap.size) → (∀ b, ownB ρ h b → ¬ bad b) → HR bad ρ h w → RepC w (avd bad ρ h) ρ args vs →
    Calls P f vs w fun e w' => ∃ v ρ', e = .returned v ∧ Rep w' (avd bad ρ' h') ρ' r v ∧ HR bad ρ' h' w' ∧ Keeps w w' (ownB ρ h) ∧ (∀ b, ownB ρ' h' b → (ownB ρ h b ∨ w.heap.size ≤ b) ∧ ¬ bad b) ∧ ∀ k ∈ fix, ρ' k = ρ k
/-- No own objects. -/
abbrev Ab (P : Program) (f : FuncId) (args : List AV) (r : AV) : Prop := Fn P f args [] r [] []

/-! ### Control -/
def QQ (E : Env) (Q : Exit → St → Prop) : Exit → Act → World → Prop := fun e a w => ∃ st, S E st a w ∧ Q e st
def aw (P : Program) (c : Code) (st : St) (Q : Exit → St → Prop) : Prop := ∀ E a w, S E st a w → c.wp P (QQ E Q) a w
def awO (P : Program) (ops : Array Oper) (l : List Oper) (st : St) (Q : Exit → St → Prop) : Prop := ∀ E a w, S E st a w → wpList P ops (QQ E Q) l a w
def thenQ (K : St → Prop) (Q : Exit → St → Prop) : Exit → St → Prop
  | .normal, st => K st
  | e, st => Q e st
def blkQ (id : Nat) (Q : Exit → St → Prop) : Exit → St → Prop
  | .exit i, st => if i = id then Q .normal st else Q (.exit i) st
  | e, st => Q e st
theorem thenQ_normal (K : St → Prop) (Q : Exit → St → Prop) (st : St) : thenQ K Q .normal st = K st := rfl
theorem thenQ_exit (K : St → Prop) (Q : Exit → St → Prop) (i : Nat) (st : St) : thenQ K Q (.exit i) st = Q (.exit i) st := rfl
theorem thenQ_ret (K : St → Prop) (Q : Exit → St → Prop) (st : St) : thenQ K Q .ret st = Q .ret st := rfl
theorem blkQ_normal (id : Nat) (Q : Exit → St → Prop) (st : St) : blkQ id Q .normal st = Q .normal st := rfl
theorem blkQ_exit (id : Nat) (Q : Exit → St → Prop) (i : Nat) (st : St) : blkQ id Q (.exit i) st = if i = id then Q .normal st else Q (.exit i) st := rfl
theorem blkQ_ret (id : Nat) (Q : Exit → St → Prop) (st : St) : blkQ id Q .ret st = Q .ret st := rfl
structure Kont (P : Program) (y : Code) (Q : Exit → St → Prop) (K : St → Prop) : Prop where
  go : ∀ st, aw P y st Q → K st

section
variable {P : Program} {st st' : St} {Q : Exit → St → Prop}
theorem aw_seq {x y : Code} (h : ∀ K, Kont P y Q K → aw P x st (thenQ K Q)) : aw P (.seq x y) st Q := fun E a w hS => by
  refine wp_seq (wp_mono (h (fun st => aw P y st Q) ⟨fun _ h => h⟩ E a w hS) fun e a' w' hq => ?_)
  obtain ⟨st', hs, hq⟩ := hq
  cases e <;> first
    | exact hq E a' w' hs
    | exact ⟨st', hs, hq⟩
theorem aw_skip (h : Q .normal st) : aw P .skip st Q := fun E a w hS => wp_skip ⟨st, hS, h⟩
theorem aw_exit {id : Nat} (h : Q (.exit id) st) : aw P (.exit id) st Q := fun E a w hS => wp_exit ⟨st, hS, h⟩
theorem aw_ret (h : Q .ret st) : aw P .ret st Q := fun E a w hS => wp_ret ⟨st, hS, h⟩
theorem aw_block {id : Nat} {c : Code} (h : aw P c st (blkQ id Q)) : aw P (.block id c) st Q := fun E a w hS => by
  refine wp_block (wp_mono (h E a w hS) fun e a' w' hq => ?_)
  obtain ⟨st', hs, hq⟩ := hq
  cases e with
  | exit i =>
    simp only [blkQ] at hq
    simp only [Exit.inBlock]
    split
    · next hi => rw [if_pos hi] at hq; exact ⟨st', hs, hq⟩
    · next hi => rw [if_neg hi] at hq; exact ⟨st', hs, hq⟩
  | _ => exact ⟨st', hs, hq⟩
theorem aw_cond {c : Operand} {x y : Code} {t : Bool} (hc : opv st c = some (.v (.bool t))) (ht : t = true → aw P x st Q) (hf : t = false → aw P y st Q) : aw P (.cond c x y) st Q := fun E a w hS => by
  obtain ⟨ρ, hS'⟩ := id hS
  exact wp_cond_split (Rep.v_eq (opv_sound hS' hc)) (fun h => ht h E a w hS) (fun h => hf h E a w hS)
theorem aw_weak (h : ∀ E a w, S E st a w → S E st' a w) {c : Code} (hc : aw P c st' Q) : aw P c st Q := fun E a w hS => hc E a w (h E a w hS)
theorem aw_sub (h : Sub st' st) {c : Code} (hc : aw P c st' Q) : aw P c st Q := aw_weak (fun _ _ _ hS => h.S hS) hc
theorem aw_loop {α : Type} {c : Code} (F : α → St) (I : α → Prop) (μ : α → Nat) (x0 : α) (h0 : I x0) (hs : Sub (F x0) st)
    (round : ∀ x, I x → aw P c (F x) (thenQ (fun st' => ∃ y, I y ∧ μ y < μ x ∧ Sub (F y) st') Q)) : aw P (.loop c) st Q := fun E a w hS => by
  refine wp_loop_ghost (fun n a' w' => ∃ x, μ x = n ∧ I x ∧ S E (F x) a' w') (μ x0) ⟨x0, rfl, h0, hs.S hS⟩ ?_
  rintro n a' w' ⟨x, rfl, hI, hx⟩
  refine wp_mono (round x hI E a' w' hx) fun e a2 w2 hq => ?_
  obtain ⟨st2, h2, hq⟩ := hq
  cases e with
  | normal =>
    obtain ⟨y, hy, hlt, hsub⟩ := hq
    exact ⟨μ y, hlt, y, rfl, hy, hsub.S h2⟩
  | _ => exact ⟨st2, h2, hq⟩
end
end Go.Proofs.Ytcplbbbjmalfjaa
