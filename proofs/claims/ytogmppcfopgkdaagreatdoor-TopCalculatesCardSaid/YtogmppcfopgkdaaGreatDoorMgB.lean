/- The abstract machine, parts I to O. No program is named here. -/
import Derived.Test.YtogmppcfopgkdaaGreatDoorMgA
import Derived.Deep.LoopGhost
/- The abstract machine, part 9: own objects read as data; contracts of functions; control. No program is named here. -/
namespace Go.Proofs.YtogmppcfopgkdaaGreatDoor
open Go.RowKit
set_option linter.unusedVariables false
set_option linter.unusedSimpArgs false

/-! ### Data -/
def dataC : AV → Bool
  | .v _ => true
  | .un => true
  | .rd .. => true
  | _ => false
def immC : AV → Bool
  | .v _ => true
  | .un => true
  | .rd .. => true
  | .rp _ => true
  | _ => false
def immP : AV → Bool
  | .ag cs => cs.all immC
  | x => immC x
/-- No own object is spoken of. -/
def immA : AV → Bool
  | .tp vs => vs.all immP
  | x => immP x
def flatC : AV → Bool
  | .v _ => true
  | .un => true
  | _ => false
def flatP : AV → Bool
  | .ag cs => cs.all flatC
  | x => flatC x
/-- No memory is spoken of. -/
def flatA : AV → Bool
  | .tp vs => vs.all flatP
  | x => flatP x
theorem immC_ment {x : AV} (h : immC x = true) (k : Nat) : cellM k x = false := by cases x <;> simp_all [immC, cellM]
theorem immP_ment {x : AV} (h : immP x = true) (k : Nat) : partM k x = false := by
  cases x with
  | ag cs =>
    simp only [immP, List.all_eq_true] at h
    simp only [partM, List.any_eq_false]
    exact fun y hy => by simpa using immC_ment (h y hy) k
  | _ => simp_all [immP, immC, partM, cellM]
theorem immA_ment {x : AV} (h : immA x = true) (k : Nat) : mentM k x = false := by
  cases x with
  | tp vs =>
    simp only [immA, List.all_eq_true] at h
    simp only [mentM, List.any_eq_false]
    exact fun y hy => by simpa using immP_ment (h y hy) k
  | _ => first
    | (simp_all [immA, immP, immC, mentM, partM, cellM]; done)
    | exact immP_ment (x := .ag _) h k
section
variable {w w' : World} {av av' : Nat → Prop} {ρ ρ' : Nat → Loc}
theorem Rep.imm {x : AV} {v : Value} (h : Rep w av ρ x v) (hx : immA x = true) : Rep w av ρ' x v := h.tr (Nat.le_refl _) (fun _ _ _ _ => rfl) (fun _ _ h => h) (fun k _ => immA_ment hx k)
theorem Rep.flat {x : AV} {v : Value} (h : Rep w av ρ x v) (hx : flatA x = true) : Rep w' av' ρ' x v := by
  have cell : ∀ {y : AV} {u : Value}, flatC y = true → Rep w av ρ y u → Rep w' av' ρ' y u := fun {y u} hy hr => by
    cases y <;> simp only [flatC, Bool.false_eq_true] at hy
    · rw [hr.v_eq]; exact .im (.v _)
    · exact .im (.un _)
  have part : ∀ {y : AV} {u : Value}, flatP y = true → Rep w av ρ y u → Rep w' av' ρ' y u := fun {y u} hy hr => by
    cases y with
    | ag cs =>
      simp only [flatP, List.all_eq_true] at hy
      obtain ⟨us, rfl, hn, h⟩ := hr.ag_inv
      exact .ag hn fun j a x hj hx => cell (hy a (List.mem_of_getElem? hj)) (h j a x hj hx)
    | _ => first
      | exact cell hy hr
      | exact cell (y := .v _) hy hr
      | exact cell (y := .un) hy hr
      | (simp [flatP, flatC] at hy; done)
  cases x with
  | tp vs =>
    simp only [flatA, List.all_eq_true] at hx
    obtain ⟨us, rfl, hn, h⟩ := h.tp_inv
    exact .tp hn fun j a x hj hx' => part (hx a (List.mem_of_getElem? hj)) (h j a x hj hx')
  | ag cs => exact part (y := .ag cs) hx h
  | v x => exact part (y := .v x) hx h
  | un => exact part (y := .un) hx h
  | _ => simp [flatA, flatP, flatC] at hx
theorem Rep.data {x : AV} {v : Value} (h : Rep w av ρ x v) (hx : dataC x = true) : RepI w av x v := by
  cases x <;> simp only [dataC, Bool.false_eq_true] at hx
  · rw [h.v_eq]; exact .v _
  · exact .un _
  · cases h with
    | im h => exact h
end

/-! ### Own objects read as data: a call's arguments, a function's results -/
/-- 'keep': the own objects that stay. -/
def roC (hp : Hp) (keep : List Nat) : AV → Option AV
  | .os k off sz n => if k ∈ keep then some (.os k off sz n) else (sliceC hp (.os k off sz n)).bind fun q => if q.2.all dataC = true then some (.rd q.1 q.2) else none
  | .pt k off => if k ∈ keep then some (.pt k off) else (look hp k).bind fun cs => if (cs.drop off).all dataC = true ∧ off < cs.length then some (.rp (cs.drop off)) else none
  | .ag _ => none
  | .tp _ => none
  | .fn _ _ => none
  | .sp k => if k ∈ keep then some (.sp k) else some .un
  | x => some x
def roCs (hp : Hp) (keep : List Nat) : List AV → Option (List AV)
  | [] => some []
  | x :: r => (roC hp keep x).bind fun y => (roCs hp keep r).map (y :: ·)
def roP (hp : Hp) (keep : List Nat) : AV → Option AV
  | .ag cs => (roCs hp keep cs).map .ag
  | .fn f cs => (roCs hp keep cs).map (.fn f)
  | x => roC hp keep x
def roPs (hp : Hp) (keep : List Nat) : List AV → Option (List AV)
  | [] => some []
  | x :: r => (roP hp keep x).bind fun y => (roPs hp keep r).map (y :: ·)
def roA (hp : Hp) (keep : List Nat) : AV → Option AV
  | .tp vs => (roPs hp keep vs).map .tp
  | x => roP hp keep x
theorem roC_v (hp : Hp) (keep : List Nat) (x : Value) : roC hp keep (.v x) = some (.v x) := rfl
theorem roC_un (hp : Hp) (keep : List Nat) : roC hp keep .un = some .un := rfl
theorem roC_rd (hp : Hp) (keep : List Nat) (n : Nat) (cs : List AV) : roC hp keep (.rd n cs) = some (.rd n cs) := rfl
theorem roC_rp (hp : Hp) (keep : List Nat) (cs : List AV) : roC hp keep (.rp cs) = some (.rp cs) := rfl
theorem roC_os {hp : Hp} {keep : List Nat} {k off sz n : Nat} {cs : List AV} (h : k ∉ keep) (hk : look hp k = some cs) (hl : off + n * sz ≤ cs.length) (hd : ((cs.drop off).take (n * sz)).all dataC = true) :
    roC hp keep (.os k off sz n) = some (.rd n ((cs.drop off).take (n * sz))) := by simp only [roC, h, if_false, sliceC_os hk hl, Option.bind_some, hd, if_true]
theorem roCs_nil (hp : Hp) (keep : List Nat) : roCs hp keep [] = some [] := rfl
theorem roCs_cons (hp : Hp) (keep : List Nat) (x : AV) (r : List AV) : roCs hp keep (x :: r) = (roC hp keep x).bind fun y => (roCs hp keep r).map (y :: ·) := rfl
theorem roPs_nil (hp : Hp) (keep : List Nat) : roPs hp keep [] = some [] := rfl
theorem roPs_cons (hp : Hp) (keep : List Nat) (x : AV) (r : List AV) : roPs hp keep (x :: r) = (roP hp keep x).bind fun y => (roPs hp keep r).map (y :: ·) := rfl

section
variable {w : World} {av av' : Nat → Prop} {ρ : Nat → Loc} {hp : Hp} {keep : List Nat}
theorem roC_sound (hobj : ∀ k cs, look hp k = some cs → ObjR w av ρ (ρ k) cs) (hav : ∀ b, b < w.heap.size → av' b → av b) (hpub : ∀ k cs, look hp k = some cs → k ∉ keep → 0 < (ρ k).cap → ¬ av' (ρ k).g)
    {x y : AV} {v : Value} (hx : Rep w av ρ x v) (h : roC hp keep x = some y) : Rep w av' ρ y v := by
  have same : Rep w av' ρ x v := hx.tr (Nat.le_refl _) (fun _ _ _ _ => rfl) hav (fun _ hk => absurd rfl hk)
  cases x with
  | os k off sz n =>
    simp only [roC] at h
    split at h
    · injection h with h; subst h; exact same
    · next hk =>
      simp only [sliceC, Option.bind_eq_some_iff] at h
      obtain ⟨q, ⟨cs, hl, hq⟩, h⟩ := h
      split at hq
      · next hle =>
        injection hq with hq
        subst hq
        simp only at h
        split at h
        · next hd =>
          injection h with h
          subst h
          obtain ⟨A, c, rfl, h0, h1, h2, hm⟩ := hx.os_inv
          have hob := hobj k cs hl
          let u : Nat → Value := fun j => (w.cell? ⟨(ρ k).g, (ρ k).off + off + j, none⟩).getD undef
          have hcell : ∀ (j : Nat) (a : AV), ((cs.drop off).take (n * sz))[j]? = some a → w.cell? ⟨(ρ k).g, (ρ k).off + off + j, none⟩ = some (u j) ∧ Rep w av ρ a (u j) := fun j a hj => by
            rw [List.getElem?_take] at hj
            split at hj
            · rw [List.getElem?_drop] at hj
              obtain ⟨x, hx, hr⟩ := hob.cells _ a hj
              rw [← Nat.add_assoc] at hx
              exact ⟨by simp [u, hx], by simp [u, hx]; exact hr⟩
            · cases hj
          refine .im (.rd u h1 h2 (fun h => by rw [h]; simp) (fun hn => ?_) (fun j a hj => ?_))
          · obtain ⟨rfl, hcap⟩ := hm (by omega)
            have hpos : 0 < (ρ k).cap := by
              have : 0 < c * sz := Nat.mul_pos (by omega) h0
              omega
            exact ⟨_, _, rfl, hpub k cs hl hk hpos, (hob.mem hpos).1, fun j hj => (hcell j _ (List.getElem?_eq_getElem hj)).1⟩
          · exact ((hcell j a hj).2.data (List.all_eq_true.1 hd a (List.mem_of_getElem? hj))).tr (Nat.le_refl _) (fun _ _ _ _ => rfl) hav
        · cases h
      · cases hq
  | pt k off =>
    simp only [roC] at h
    split at h
    · injection h with h; subst h; exact same
    · next hk =>
      rw [Option.bind_eq_some_iff] at h
      obtain ⟨cs, hl, h⟩ := h
      split at h
      · next hc =>
        injection h with h
        subst h
        rw [hx.pt_inv]
        have hob := hobj k cs hl
        have hpos : 0 < (ρ k).cap := by have := hob.len; omega
        let u : Nat → Value := fun j => (w.cell? ⟨(ρ k).g, (ρ k).off + off + j, none⟩).getD undef
        have hcell : ∀ (j : Nat) (a : AV), (cs.drop off)[j]? = some a → w.cell? ⟨(ρ k).g, (ρ k).off + off + j, none⟩ = some (u j) ∧ Rep w av ρ a (u j) := fun j a hj => by
          rw [List.getElem?_drop] at hj
          obtain ⟨x, hx, hr⟩ := hob.cells _ a hj
          rw [← Nat.add_assoc] at hx
          exact ⟨by simp [u, hx], by simp [u, hx]; exact hr⟩
        exact .rp u (hpub k cs hl hk hpos) (hob.mem hpos).1 (fun j hj => (hcell j _ (List.getElem?_eq_getElem hj)).1)
          (fun j a hj => ((hcell j a hj).2.data (List.all_eq_true.1 hc.1 a (List.mem_of_getElem? hj))).tr (Nat.le_refl _) (fun _ _ _ _ => rfl) hav)
      · cases h
  | ag cs => simp [roC] at h
  | tp cs => simp [roC] at h
  | fn f cs => simp [roC] at h
  | sp k =>
    simp only [roC] at h
    split at h
    · injection h with h; subst h; exact same
    · injection h with h; subst h; exact .im (.un _)
  | _ => simp only [roC, Option.some.injEq] at h; subst h; exact same
theorem roCs_spec : ∀ {cs ds : List AV}, roCs hp keep cs = some ds → ds.length = cs.length ∧ ∀ (j : Nat) (x y : AV), cs[j]? = some x → ds[j]? = some y → roC hp keep x = some y
  | [], ds, h => by simp only [roCs, Option.some.injEq] at h; subst h; exact ⟨rfl, fun j x y hx => by simp at hx⟩
  | x :: r, ds, h => by
    simp only [roCs, Option.bind_eq_some_iff, Option.map_eq_some_iff] at h
    obtain ⟨y, hy, l, hl, rfl⟩ := h
    obtain ⟨h1, h2⟩ := roCs_spec hl
    refine ⟨by simp [h1], fun j a b ha hb => ?_⟩
    rcases j with _ | j
    · simp at ha hb; subst ha; subst hb; exact hy
    · simp at ha hb; exact h2 j a b ha hb
theorem roPs_spec : ∀ {cs ds : List AV}, roPs hp keep cs = some ds → ds.length = cs.length ∧ ∀ (j : Nat) (x y : AV), cs[j]? = some x → ds[j]? = some y → roP hp keep x = some y
  | [], ds, h => by simp only [roPs, Option.some.injEq] at h; subst h; exact ⟨rfl, fun j x y hx => by simp at hx⟩
  | x :: r, ds, h => by
    simp only [roPs, Option.bind_eq_some_iff, Option.map_eq_some_iff] at h
    obtain ⟨y, hy, l, hl, rfl⟩ := h
    obtain ⟨h1, h2⟩ := roPs_spec hl
    refine ⟨by simp [h1], fun j a b ha hb => ?_⟩
    rcases j with _ | j
    · simp at ha hb; subst ha; subst hb; exact hy
    · simp at ha hb; exact h2 j a b ha hb
theorem roP_sound (hobj : ∀ k cs, look hp k = some cs → ObjR w av ρ (ρ k) cs) (hav : ∀ b, b < w.heap.size → av' b → av b) (hpub : ∀ k cs, look hp k = some cs → k ∉ keep → 0 < (ρ k).cap → ¬ av' (ρ k).g)
    {x y : AV} {v : Value} (hx : Rep w av ρ x v) (h : roP hp keep x = some y) : Rep w av' ρ y v := by
  cases x with
  | ag cs =>
    simp only [roP, Option.map_eq_some_iff] at h
    obtain ⟨ds, hd, rfl⟩ := h
    obtain ⟨h1, h2⟩ := roCs_spec hd
    obtain ⟨us, rfl, hn, hr⟩ := hx.ag_inv
    refine .ag (by omega) fun j b u hj hu => ?_
    have hj' : j < cs.length := by rw [← h1]; exact (List.getElem?_eq_some_iff.1 hj).1
    exact roC_sound hobj hav hpub (hr j cs[j] u (List.getElem?_eq_getElem hj') hu) (h2 j _ b (List.getElem?_eq_getElem hj') hj)
  | fn f cs =>
    simp only [roP, Option.map_eq_some_iff] at h
    obtain ⟨ds, hd, rfl⟩ := h
    obtain ⟨h1, h2⟩ := roCs_spec hd
    obtain ⟨us, hy, hn, hr⟩ := hx.fn_inv
    refine .fn hy (by omega) fun j b u hj hu => ?_
    have hj' : j < cs.length := by rw [← h1]; exact (List.getElem?_eq_some_iff.1 hj).1
    exact roC_sound hobj hav hpub (hr j cs[j] u (List.getElem?_eq_getElem hj') hu) (h2 j _ b (List.getElem?_eq_getElem hj') hj)
  | _ => exact roC_sound hobj hav hpub hx h
theorem roA_sound (hobj : ∀ k cs, look hp k = some cs → ObjR w av ρ (ρ k) cs) (hav : ∀ b, b < w.heap.size → av' b → av b) (hpub : ∀ k cs, look hp k = some cs → k ∉ keep → 0 < (ρ k).cap → ¬ av' (ρ k).g)
    {x y : AV} {v : Value} (hx : Rep w av ρ x v) (h : roA hp keep x = some y) : Rep w av' ρ y v := by
  cases x with
  | tp cs =>
    simp only [roA, Option.map_eq_some_iff] at h
    obtain ⟨ds, hd, rfl⟩ := h
    obtain ⟨h1, h2⟩ := roPs_spec hd
    obtain ⟨us, rfl, hn, hr⟩ := hx.tp_inv
    refine .tp (by omega) fun j b u hj hu => ?_
    have hj' : j < cs.length := by rw [← h1]; exact (List.getElem?_eq_some_iff.1 hj).1
    exact roP_sound hobj hav hpub (hr j cs[j] u (List.getElem?_eq_getElem hj') hu) (h2 j _ b (List.getElem?_eq_getElem hj') hj)
  | _ => exact roP_sound hobj hav hpub hx h
end

/-! ### Contracts -/
/-- The function f, called with args where the own objects are h, hands back r and leaves the own objects h'; the objects 'fix' have stayed where they were; all else is as it was. -/
def callable (P : Program) (f : FuncId) : Bool := match P.funcs[f]? with
  | some fn => !(fn.name == "runtime.NumGoroutine") && fn.body.isSome
  | none => false
def Fn (P : Program) (f : FuncId) (args : List AV) (h : Hp) (r : AV) (h' : Hp) (fix : List Nat) : Prop :=
  callable P f = true ∧ ∀ (w : World) (bad : Nat → Prop) (ρ : Nat → Loc) (vs : Array Value), ((∀ b, bad b → b < w.heap.size) ∧ Glob w ∧ ∀ b, ownB ρ h b → ¬ gblk b) → (∀ b, ownB ρ h b → ¬ bad b) → HR bad ρ h w → RepC w (avd bad ρ h) ρ args vs →
    Calls P f vs w fun e w' => ∃ v ρ', e = .returned v ∧ Rep w' (avd bad ρ' h') ρ' r v ∧ HR bad ρ' h' w' ∧ Keeps w w' (ownB ρ h) ∧ (∀ b, ownB ρ' h' b → (ownB ρ h b ∨ w.heap.size ≤ b) ∧ ¬ bad b) ∧ ∀ k ∈ fix, ρ' k = ρ k
/-- No own objects. -/
abbrev Ab (P : Program) (f : FuncId) (args : List AV) (r : AV) : Prop := Fn P f args [] r [] []

/-! ### Control -/
def QQ (E : Env) (Q : Exit → St → Prop) : Exit → Act → World → Prop := fun e a w => ∃ st, S E st a w ∧ Q e st
def aw (P : Program) (c : Code) (st : St) (Q : Exit → St → Prop) : Prop := ∀ E a w, S E st a w → c.wp P (QQ E Q) a w
def awO (P : Program) (ops : Array Oper) (l : List Oper) (st : St) (Q : Exit → St → Prop) : Prop := ∀ E a w, S E st a w → wpList P ops (QQ E Q) l a w
def thenQ (K : St → Prop) (Q : Exit → St → Prop) : Exit → St → Prop
  | .normal, st => K st
  | e, st => Q e st
def blkQ (id : Nat) (Q : Exit → St → Prop) : Exit → St → Prop
  | .exit i, st => if i = id then Q .normal st else Q (.exit i) st
  | e, st => Q e st
theorem thenQ_normal (K : St → Prop) (Q : Exit → St → Prop) (st : St) : thenQ K Q .normal st = K st := rfl
theorem thenQ_exit (K : St → Prop) (Q : Exit → St → Prop) (i : Nat) (st : St) : thenQ K Q (.exit i) st = Q (.exit i) st := rfl
theorem thenQ_ret (K : St → Prop) (Q : Exit → St → Prop) (st : St) : thenQ K Q .ret st = Q .ret st := rfl
theorem blkQ_normal (id : Nat) (Q : Exit → St → Prop) (st : St) : blkQ id Q .normal st = Q .normal st := rfl
theorem blkQ_exit (id : Nat) (Q : Exit → St → Prop) (i : Nat) (st : St) : blkQ id Q (.exit i) st = if i = id then Q .normal st else Q (.exit i) st := rfl
theorem blkQ_ret (id : Nat) (Q : Exit → St → Prop) (st : St) : blkQ id Q .ret st = Q .ret st := rfl
structure Kont (P : Program) (y : Code) (Q : Exit → St → Prop) (K : St → Prop) : Prop where
  go : ∀ st, aw P y st Q → K st

section
variable {P : Program} {st st' : St} {Q : Exit → St → Prop}
theorem aw_seq {x y : Code} (h : ∀ K, Kont P y Q K → aw P x st (thenQ K Q)) : aw P (.seq x y) st Q := fun E a w hS => by
  refine wp_seq (wp_mono (h (fun st => aw P y st Q) ⟨fun _ h => h⟩ E a w hS) fun e a' w' hq => ?_)
  obtain ⟨st', hs, hq⟩ := hq
  cases e <;> first
    | exact hq E a' w' hs
    | exact ⟨st', hs, hq⟩
theorem aw_skip (h : Q .normal st) : aw P .skip st Q := fun E a w hS => wp_skip ⟨st, hS, h⟩
theorem aw_exit {id : Nat} (h : Q (.exit id) st) : aw P (.exit id) st Q := fun E a w hS => wp_exit ⟨st, hS, h⟩
theorem aw_ret (h : Q .ret st) : aw P .ret st Q := fun E a w hS => wp_ret ⟨st, hS, h⟩
theorem aw_block {id : Nat} {c : Code} (h : aw P c st (blkQ id Q)) : aw P (.block id c) st Q := fun E a w hS => by
  refine wp_block (wp_mono (h E a w hS) fun e a' w' hq => ?_)
  obtain ⟨st', hs, hq⟩ := hq
  cases e with
  | exit i =>
    simp only [blkQ] at hq
    simp only [Exit.inBlock]
    split
    · next hi => rw [if_pos hi] at hq; exact ⟨st', hs, hq⟩
    · next hi => rw [if_neg hi] at hq; exact ⟨st', hs, hq⟩
  | _ => exact ⟨st', hs, hq⟩
theorem aw_cond {c : Operand} {x y : Code} {t : Bool} (hc : opv st c = some (.v (.bool t))) (ht : t = true → aw P x st Q) (hf : t = false → aw P y st Q) : aw P (.cond c x y) st Q := fun E a w hS => by
  obtain ⟨ρ, hS'⟩ := id hS
  exact wp_cond_split (Rep.v_eq (opv_sound hS' hc)) (fun h => ht h E a w hS) (fun h => hf h E a w hS)
theorem aw_weak (h : ∀ E a w, S E st a w → S E st' a w) {c : Code} (hc : aw P c st' Q) : aw P c st Q := fun E a w hS => hc E a w (h E a w hS)
theorem aw_loop {α : Type} {c : Code} (F : α → St) (I : α → Prop) (μ : α → Nat) (x0 : α) (h0 : I x0) (hs : Sub (F x0) st)
    (round : ∀ x, I x → aw P c (F x) (thenQ (fun st' => ∃ y, I y ∧ μ y < μ x ∧ Sub (F y) st') Q)) : aw P (.loop c) st Q := fun E a w hS => by
  refine wp_loop_ghost (fun n a' w' => ∃ x, μ x = n ∧ I x ∧ S E (F x) a' w') (μ x0) ⟨x0, rfl, h0, hs.S hS⟩ ?_
  rintro n a' w' ⟨x, rfl, hI, hx⟩
  refine wp_mono (round x hI E a' w' hx) fun e a2 w2 hq => ?_
  obtain ⟨st2, h2, hq⟩ := hq
  cases e with
  | normal =>
    obtain ⟨y, hy, hlt, hsub⟩ := hq
    exact ⟨μ y, hlt, y, rfl, hy, hsub.S h2⟩
  | _ => exact ⟨st2, h2, hq⟩
end
end Go.Proofs.YtogmppcfopgkdaaGreatDoor

/- The abstract machine, part 10: lists of operations, calls, a function's beginning and end. No program is named here. -/
namespace Go.Proofs.YtogmppcfopgkdaaGreatDoor
open Go.RowKit
set_option linter.unusedVariables false
set_option linter.unusedSimpArgs false

section
variable {P : Program} {st st' : St} {Q : Exit → St → Prop} {ops : Array Oper} {rest : List Oper} {o : Oper}
theorem awO_nil (h : Q .normal st) : awO P ops [] st Q := fun E a w hS => wpList_nil ⟨st, hS, h⟩
theorem wp_stepTo {E : Env} {a : Act} {w : World} {K : Act → World → Prop} {Q' : Exit → Act → World → Prop} (h : StepTo P E a o st' w) (hK : ∀ a' w', S E st' a' w' → K a' w') : o.wp P a w K Q' := by
  obtain ⟨w', v, hr | ⟨hr, rfl⟩, hs, -⟩ := h
  · unfold Oper.wp; rw [hr]; exact hK _ _ hs
  · unfold Oper.wp; rw [hr]; exact hK _ _ hs
theorem awO_ev (hg : o.guard = none) (h : ev P st o = some st') (hr : awO P ops rest st' Q) : awO P ops (o :: rest) st Q := fun E a w ⟨ρ, hS⟩ =>
  wpList_plain hg fun K hK => wp_stepTo (ev_sound hS h) fun a' w' hs => hK _ _ (hr E a' w' hs)
theorem wanted_of {E : Env} {ρ : Nat → Loc} {a : Act} {w : World} {j t : Nat} {b c : Bool} (hS : SR E ρ st a w) (hg : o.guard = some (j, b)) (hj : (ops[j]?).bind (·.dst) = some t) (ht : t < st.nt) (hc : look st.fr t = some (.v (.bool c))) :
    Region.wanted o (yielded ops a.tmps) = (c == b) := by
  have h1 : a.tmps.getD t undef = .bool c := Rep.v_eq (hS.fr t _ hc)
  have h2 : a.tmps[t]? = some (.bool c) := by
    have hlt : t < a.tmps.size := by rw [hS.size]; exact ht
    rw [Array.getD_eq_getD_getElem?, Array.getElem?_eq_getElem hlt] at h1
    rw [Array.getElem?_eq_getElem hlt]
    exact congrArg some h1
  unfold Region.wanted
  rw [hg]
  simp only [yielded, hj, Option.bind_some, h2]
  cases c <;> cases b <;> rfl
theorem awO_yes {j t : Nat} {b : Bool} (hg : o.guard = some (j, b)) (hj : (ops[j]?).bind (·.dst) = some t) (ht : t < st.nt) (hc : look st.fr t = some (.v (.bool b))) (h : ev P st o = some st') (hr : awO P ops rest st' Q) : awO P ops (o :: rest) st Q := fun E a w ⟨ρ, hS⟩ => by
  refine wpList_step fun K hK => ?_
  rw [wanted_of hS hg hj ht hc, if_pos (by simp)]
  exact wp_stepTo (ev_sound hS h) fun a' w' hs => hK _ _ (hr E a' w' hs)
theorem awO_no {j t : Nat} {b c : Bool} (hg : o.guard = some (j, b)) (hj : (ops[j]?).bind (·.dst) = some t) (ht : t < st.nt) (hc : look st.fr t = some (.v (.bool c))) (hne : (c == b) = false) (hd : ∀ d, o.dst = some d → d < st.nt) (hr : awO P ops rest (st.put o.dst (.v undef)) Q) :
    awO P ops (o :: rest) st Q := fun E a w ⟨ρ, hS⟩ => by
  refine wpList_step fun K hK => ?_
  rw [wanted_of hS hg hj ht hc, hne, if_neg (by simp)]
  exact hK _ _ (hr E _ w ⟨ρ, hS.put o.dst hd (.im (.v _))⟩)
theorem wanted_undef {E : Env} {ρ : Nat → Loc} {a : Act} {w : World} {j t : Nat} {b : Bool} (hS : SR E ρ st a w) (hg : o.guard = some (j, b)) (hj : (ops[j]?).bind (·.dst) = some t) (hc : look st.fr t = some (.v undef)) :
    Region.wanted o (yielded ops a.tmps) = false := by
  have h1 : a.tmps.getD t undef = undef := Rep.v_eq (hS.fr t _ hc)
  unfold Region.wanted
  rw [hg]
  simp only [yielded, hj, Option.bind_some]
  cases h2 : a.tmps[t]? with
  | none => cases b <;> rfl
  | some x =>
    rw [Array.getD_eq_getD_getElem?, h2] at h1
    simp only [Option.getD_some] at h1
    subst h1
    cases b <;> rfl
theorem awO_undef {j t : Nat} {b : Bool} (hg : o.guard = some (j, b)) (hj : (ops[j]?).bind (·.dst) = some t) (hc : look st.fr t = some (.v undef)) (hd : ∀ d, o.dst = some d → d < st.nt) (hr : awO P ops rest (st.put o.dst (.v undef)) Q) :
    awO P ops (o :: rest) st Q := fun E a w ⟨ρ, hS⟩ => by
  refine wpList_step fun K hK => ?_
  rw [wanted_undef hS hg hj hc, if_neg (by simp)]
  exact hK _ _ (hr E _ w ⟨ρ, hS.put o.dst hd (.im (.v _))⟩)
/-- A known bool in a temporary: two ways. -/
theorem awO_split {t : Nat} {c : Bool} (hc : look st.fr t = some (.v (.bool c))) {l : List Oper} (h1 : c = true → awO P ops l { st with fr := (t, .v (.bool true)) :: st.fr } Q) (h2 : c = false → awO P ops l { st with fr := (t, .v (.bool false)) :: st.fr } Q) : awO P ops l st Q := fun E a w ⟨ρ, hS⟩ => by
  have key : ∀ b, c = b → SR E ρ { st with fr := (t, .v (.bool b)) :: st.fr } a w := fun b e => by
    subst e
    refine ⟨fun t' x hx => ?_, hS.hr, hS.own, hS.keep, hS.bad, hS.nb, hS.size, hS.defers, hS.fx⟩
    rw [look_cons] at hx
    split at hx
    · next e => subst e; injection hx with hx; subst hx; exact hS.fr t _ hc
    · exact hS.fr t' x hx
  cases c with
  | true => exact h1 rfl E a w ⟨ρ, key true rfl⟩
  | false => exact h2 rfl E a w ⟨ρ, key false rfl⟩
theorem aw_region {id : Nat} {l : List Oper} (h : awO P l.toArray l st Q) : aw P (.region id l.toArray false) st Q := fun E a w hS => wp_region_lit (h E a w hS)
theorem run_call {f : FuncId} {args : Array Operand} {ts : Array TypeId} (ho : o.op = .call ⟨.value (.func f), args, ts⟩) (hc : callable P f = true) (a : Act) (w : World) : (execOp a.eval o).run P w = .ok (.enter f (args.map a.eval)) w := by
  unfold callable at hc
  split at hc
  · next fn hf =>
    simp only [Bool.and_eq_true, Bool.not_eq_true'] at hc
    obtain ⟨h1, h2⟩ := hc
    have h3 : ¬ fn.body = none := by cases hb : fn.body <;> simp_all
    have h4 : ¬ fn.name = "runtime.NumGoroutine" := by simpa using h1
    unfold execOp
    simp only [ho, resolve, Act.eval, Deferred.ofValue, invoke]
    simp [callFunc, hf, h4, h3]
  · cases hc
def argsA (st : St) : List Operand → Option (List AV)
  | [] => some []
  | x :: r => (opv st x).bind fun y => (argsA st r).map (y :: ·)
theorem argsA_nil (st : St) : argsA st [] = some [] := rfl
theorem argsA_cons (st : St) (x : Operand) (r : List Operand) : argsA st (x :: r) = (opv st x).bind fun y => (argsA st r).map (y :: ·) := rfl
theorem argsA_spec : ∀ {l : List Operand} {ys : List AV}, argsA st l = some ys → ys.length = l.length ∧ ∀ (j : Nat) (x : Operand) (y : AV), l[j]? = some x → ys[j]? = some y → opv st x = some y
  | [], ys, h => by simp only [argsA, Option.some.injEq] at h; subst h; exact ⟨rfl, fun j x y hx => by simp at hx⟩
  | x :: r, ys, h => by
    simp only [argsA, Option.bind_eq_some_iff, Option.map_eq_some_iff] at h
    obtain ⟨y, hy, l, hl, rfl⟩ := h
    obtain ⟨h1, h2⟩ := argsA_spec hl
    refine ⟨by simp [h1], fun j a b ha hb => ?_⟩
    rcases j with _ | j
    · simp at ha hb; subst ha; subst hb; exact hy
    · simp at ha hb; exact h2 j a b ha hb
theorem argsA_rep {E : Env} {ρ : Nat → Loc} {a : Act} {w : World} (hS : SR E ρ st a w) {args : List Operand} {ys : List AV} (h : argsA st args = some ys) : RepC w (avd E.bad ρ st.hp) ρ ys (args.toArray.map a.eval) := by
  obtain ⟨h1, h2⟩ := argsA_spec h
  refine ⟨by simp [h1], fun j y v hj hv => ?_⟩
  simp at hv
  obtain ⟨x, hx, rfl⟩ := hv
  exact opv_sound hS (h2 j x y hx hj)
theorem avd_nil (bad : Nat → Prop) (ρ : Nat → Loc) (b : Nat) : avd bad ρ [] b ↔ bad b := by
  constructor
  · rintro (h | ⟨k, cs, h, _⟩)
    · exact h
    · simp [look] at h
  · exact .inl
theorem keeps_nil {w w' : World} {ρ : Nat → Loc} (h : Keeps w w' (ownB ρ [])) : Below w.heap.size w w' := h.below (fun k hk => by obtain ⟨_, _, hk, _⟩ := hk; simp [look] at hk) (Nat.le_refl _)
theorem HR.nil {bad : Nat → Prop} {ρ : Nat → Loc} {w : World} : HR bad ρ [] w := ⟨fun k cs h => by simp [look] at h, fun k k' cs cs' h => by simp [look] at h⟩
/-- Arguments and result are data: they avoid whatever the caller owns. -/
theorem awO_call {f : FuncId} {args : List Operand} {ts : Array TypeId} {ys : List AV} {r : AV} (hg : o.guard = none) (ho : o.op = .call ⟨.value (.func f), args.toArray, ts⟩) (ha : argsA st args = some ys) (hc : Ab P f ys r) (hi : ys.all immA = true) (hr : immA r = true)
    (hd : ∀ d, o.dst = some d → d < st.nt) (h : awO P ops rest (st.put o.dst r) Q) : awO P ops (o :: rest) st Q := fun E a w ⟨ρ, hS⟩ => by
  refine wpList_plain hg fun K hK => ?_
  unfold Oper.wp
  rw [run_call ho hc.1, Oper.upon_enter]
  have hargs := argsA_rep hS ha
  refine (hc.2 w (avd E.bad ρ st.hp) ρ _ ⟨fun b hb => ?_, hS.glob, fun b hb => by obtain ⟨k, cs, hk, _⟩ := hb; simp [look] at hk⟩ (fun b hb => ?_) HR.nil ⟨hargs.1, fun j y v hj hv => ?_⟩).mono ?_
  · rcases hb with hb | ⟨k, cs, h1, h2, rfl⟩
    · exact Nat.lt_of_lt_of_le (hS.bad.1 b hb) hS.keep.size
    · exact ((hS.hr.obj k cs h1).mem h2).1
  · obtain ⟨k, cs, hk, _⟩ := hb; simp [look] at hk
  · exact (hargs.2 j y v hj hv).tr (Nat.le_refl _) (fun _ _ _ _ => rfl) (fun b _ hb => (avd_nil _ _ b).1 hb) (fun _ hk => absurd rfl hk)
  · rintro e w' ⟨v, ρ', rfl, hrep, _, hkeep, _⟩
    have hb := keeps_nil hkeep
    refine hK _ _ (h E _ w' ⟨ρ, (hS.below hb).put o.dst hd ?_⟩)
    exact ((hrep.imm (ρ' := ρ) hr).tr (Nat.le_refl _) (fun _ _ _ _ => rfl) (fun b _ hb => (avd_nil _ _ b).2 hb) (fun _ hk => absurd rfl hk))
/-- Own objects may be read by the callee; the result speaks of no memory. -/
theorem awO_callF {f : FuncId} {args : List Operand} {ts : Array TypeId} {ys zs : List AV} {r : AV} (hg : o.guard = none) (ho : o.op = .call ⟨.value (.func f), args.toArray, ts⟩) (ha : argsA st args = some ys) (hz : roPs st.hp [] ys = some zs) (hc : Ab P f zs r) (hr : flatA r = true)
    (hd : ∀ d, o.dst = some d → d < st.nt) (h : awO P ops rest (st.put o.dst r) Q) : awO P ops (o :: rest) st Q := fun E a w ⟨ρ, hS⟩ => by
  refine wpList_plain hg fun K hK => ?_
  unfold Oper.wp
  rw [run_call ho hc.1, Oper.upon_enter]
  have hargs := argsA_rep hS ha
  obtain ⟨z1, z2⟩ := roPs_spec hz
  refine (hc.2 w (fun _ => False) ρ _ ⟨fun b hb => hb.elim, hS.glob, fun b hb => by obtain ⟨k, cs, hk, _⟩ := hb; simp [look] at hk⟩ (fun b _ h => h) HR.nil ⟨by rw [hargs.1, z1], fun j z v hj hv => ?_⟩).mono ?_
  · have hjl : j < ys.length := by rw [← z1]; exact (List.getElem?_eq_some_iff.1 hj).1
    exact roP_sound hS.hr.obj (fun b _ hb => ((avd_nil _ _ b).1 hb).elim) (fun k cs _ _ _ hb => ((avd_nil _ _ _).1 hb).elim) (hargs.2 j ys[j] v (List.getElem?_eq_getElem hjl) hv) (z2 j _ z (List.getElem?_eq_getElem hjl) hj)
  · rintro e w' ⟨v, ρ', rfl, hrep, _, hkeep, _⟩
    exact hK _ _ (h E _ w' ⟨ρ, (hS.below (keeps_nil hkeep)).put o.dst hd (hrep.flat hr)⟩)
end

/-! ### A function -/
def num : Nat → List AV → List (Nat × AV)
  | _, [] => []
  | i, x :: r => (i, x) :: num (i + 1) r
theorem num_nil (i : Nat) : num i [] = [] := rfl
theorem num_cons (i : Nat) (x : AV) (r : List AV) : num i (x :: r) = (i, x) :: num (i + 1) r := rfl
theorem look_num : ∀ (l : List AV) (i t : Nat) (x : AV), look (num i l) t = some x → ∃ j, t = i + j ∧ l[j]? = some x
  | [], i, t, x, h => by simp [num, look] at h
  | y :: l, i, t, x, h => by
    rw [num_cons, look_cons] at h
    split at h
    · next e => injection h with h; subst h; exact ⟨0, by omega, rfl⟩
    · obtain ⟨j, h1, h2⟩ := look_num l (i + 1) t x h
      exact ⟨j + 1, by omega, h2⟩
def resR (P : Program) (st : St) : ResultVar → Option AV
  | .tmp t => look st.fr t
  | .cell a t => (look st.fr a).bind (qLoad P st.hp t)
def resL (P : Program) (st : St) : List ResultVar → Option (List AV)
  | [] => some []
  | x :: r => (resR P st x).bind fun y => (resL P st r).map (y :: ·)
def resOf (tmps : Array Value) : ResultVar → Sem Value
  | .tmp t => pure (tmps.getD t undef)
  | .cell a t => do loadVar t (← asAddr (tmps.getD a undef))
theorem results_eq (fn : Func) (tmps : Array Value) : results fn tmps = (do let vs ← fn.results.mapM (resOf tmps); pure (if h : vs.size = 1 then vs[0] else .tuple vs)) := by
  rfl
def one : List AV → AV
  | [x] => x
  | l => .tp l
theorem resR_tmp (P : Program) (st : St) (t : Nat) : resR P st (.tmp t) = look st.fr t := rfl
theorem resR_cell (P : Program) (st : St) (a : Nat) (t : TypeId) : resR P st (.cell a t) = (look st.fr a).bind (qLoad P st.hp t) := rfl
theorem resL_nil (P : Program) (st : St) : resL P st [] = some [] := rfl
theorem resL_cons (P : Program) (st : St) (x : ResultVar) (r : List ResultVar) : resL P st (x :: r) = (resR P st x).bind fun y => (resL P st r).map (y :: ·) := rfl
section
variable {P : Program} {E : Env} {ρ : Nat → Loc} {st : St} {a : Act} {w : World}
theorem qLoad_addr {t : TypeId} {p y : AV} (h : qLoad P st.hp t p = some y) : (∃ k off, p = .pt k off) ∨ (∃ cs, p = .rp cs) ∨ ∃ b o, p = .v (.pointer (some ⟨b, o, none⟩)) := by
  cases p with
  | pt k off => exact .inl ⟨k, off, rfl⟩
  | rp cs => exact .inr (.inl ⟨cs, rfl⟩)
  | v x => obtain ⟨b, o, rfl, _⟩ := qLoad_v h; exact .inr (.inr ⟨b, o, rfl⟩)
  | _ => simp [qLoad] at h
theorem resL_sound (hS : SR E ρ st a w) : ∀ {l : List ResultVar} {ys : List AV}, resL P st l = some ys → ∃ us : List Value, us.length = ys.length ∧ (∀ (j : Nat) (y : AV) (u : Value), ys[j]? = some y → us[j]? = some u → Rep w (avd E.bad ρ st.hp) ρ y u) ∧
    (l.mapM (resOf a.tmps)).run P w = .ok us w
  | [], ys, h => by simp only [resL, Option.some.injEq] at h; subst h; exact ⟨[], rfl, fun j y u hj => by simp at hj, by simp⟩
  | x :: r, ys, h => by
    simp only [resL, Option.bind_eq_some_iff, Option.map_eq_some_iff] at h
    obtain ⟨y, hy, l, hl, rfl⟩ := h
    obtain ⟨us, h1, h2, h3⟩ := resL_sound hS hl
    have hx : ∃ u, Rep w (avd E.bad ρ st.hp) ρ y u ∧ (resOf a.tmps x).run P w = .ok u w := by
      cases x with
      | tmp t => exact ⟨_, hS.fr t y hy, rfl⟩
      | cell p t =>
        simp only [resR, Option.bind_eq_some_iff] at hy
        obtain ⟨pa, hp, hq⟩ := hy
        have hrp := hS.fr p pa hp
        obtain ⟨u, hu, hr⟩ := qLoad_sound hS.glob hS.hr.obj hrp hq
        have hu := hu w (Ext.refl w)
        refine ⟨u, hr, ?_⟩
        have haddr : ∃ ad, a.tmps.getD p undef = .pointer (some ad) := by
          rcases qLoad_addr hq with ⟨k, off, rfl⟩ | ⟨cs, rfl⟩ | ⟨b, o, rfl⟩
          · exact ⟨_, hrp.pt_inv⟩
          · obtain ⟨b, off, u, e, _⟩ := hrp.rp_inv; exact ⟨_, e⟩
          · exact ⟨_, hrp.v_eq⟩
        obtain ⟨ad, had⟩ := haddr
        rw [had] at hu
        simp only [resOf, had]
        simp [Instr.loadAt, Instr.sureAddr] at hu
        simp [asAddr, hu]
    obtain ⟨u, hu1, hu2⟩ := hx
    refine ⟨u :: us, by simp [h1], fun j y' u' hj hu' => ?_, ?_⟩
    · rcases j with _ | j
      · simp at hj hu'; subst hj; subst hu'; exact hu1
      · simp at hj hu'; exact h2 j y' u' hj hu'
    · rw [List.mapM_cons, Sem.run_bind, hu2]
      simp only [Result.andThen_ok, Sem.run_bind, h3, Sem.run_pure]
theorem results_sound (hS : SR E ρ st a w) {fn : Func} {ys : List AV} (h : resL P st fn.results.toList = some ys) : ∃ v, (results fn a.tmps).run P w = .ok v w ∧ Rep w (avd E.bad ρ st.hp) ρ (one ys) v := by
  obtain ⟨us, h1, h2, h3⟩ := resL_sound hS h
  have hm : (fn.results.mapM (resOf a.tmps)).run P w = .ok us.toArray w := by
    have e : fn.results = fn.results.toList.toArray := by simp
    rw [e, List.mapM_toArray, Sem.run_map, h3]
    rfl
  rw [results_eq]
  simp only [Sem.run_bind, hm, Result.andThen_ok]
  by_cases hone : us.length = 1
  · obtain ⟨y, rfl⟩ := List.length_eq_one_iff.1 (h1.symm.trans hone)
    obtain ⟨u, rfl⟩ := List.length_eq_one_iff.1 hone
    exact ⟨u, by simp, h2 0 y u rfl rfl⟩
  · refine ⟨.tuple us.toArray, by simp [hone], ?_⟩
    have : one ys = .tp ys := by
      unfold one
      split
      · next x => simp at h1; omega
      · rfl
    rw [this]
    exact .tp (by simpa using h1) fun j y u hj hu => h2 j y u hj (by simpa using hu)
end
/-- What is asked at the end: the results are r (what is not kept has become data), the own objects that stay are h'. -/
def retQ (P : Program) (rs : List ResultVar) (r : AV) (h' : Hp) (keep fix : List Nat) : Exit → St → Prop := fun e st =>
  (e = .normal ∨ e = .ret) ∧ (∃ ys, resL P st rs = some ys ∧ roA st.hp keep (one ys) = some r) ∧ (∀ p ∈ h', p.1 ∈ keep ∧ ∃ cs, look st.hp p.1 = some cs ∧ roCs st.hp keep cs = some p.2) ∧ st.fx = fix
/-- The state when a function is entered. -/
theorem S_start {args : List AV} {h : Hp} {fix : List Nat} {w : World} {bad : Nat → Prop} {ρ : Nat → Loc} {vs : Array Value} {nt : Nat} (hHR : HR bad ρ h w) (hbad : (∀ b, bad b → b < w.heap.size) ∧ Glob w ∧ ∀ b, ownB ρ h b → ¬ gblk b) (hnb : ∀ b, ownB ρ h b → ¬ bad b) (hargs : RepC w (avd bad ρ h) ρ args vs) (hsz : args.length ≤ nt) :
    S ⟨w, bad, ownB ρ h, ρ, []⟩ ⟨num 0 args, h, nt, fix⟩ { tmps := vs ++ Array.replicate (nt - vs.size) undef, defers := [] } w := by
    refine ⟨ρ, fun t x hx => ?_, hHR, fun b hb => .inl hb, Keeps.refl _ _, hbad, hnb, ?_, rfl, fun _ _ => rfl⟩
    · obtain ⟨j, rfl, hj⟩ := look_num _ _ _ _ hx
      have hjl : j < vs.size := by rw [hargs.1]; exact (List.getElem?_eq_some_iff.1 hj).1
      have e : (vs ++ Array.replicate (nt - vs.size) undef).getD (0 + j) undef = vs[j] := by
        rw [Nat.zero_add, Array.getD_eq_getD_getElem?, Array.getElem?_append_left hjl, Array.getElem?_eq_getElem hjl]
        rfl
      simp only [e]
      exact hargs.2 j x vs[j] hj (Array.getElem?_eq_getElem hjl)
    · have := hargs.1
      simp only [Array.size_append, Array.size_replicate]
      omega
theorem Fn_of_aw {P : Program} {f : FuncId} {fn : Func} {c : Code} {args : List AV} {h h' : Hp} {r : AV} {fix keep : List Nat} (hf : P.funcs[f]? = some fn) (hb : fn.body = some c) (hn : (fn.name == "runtime.NumGoroutine") = false) (hsz : args.length ≤ fn.ntmps)
    (haw : aw P c ⟨num 0 args, h, fn.ntmps, fix⟩ (retQ P fn.results.toList r h' keep fix)) : Fn P f args h r h' fix := by
  refine ⟨by simp [callable, hf, hn, hb], fun w bad ρ vs hbad hnb hHR hargs => ?_⟩
  refine calls_of_wp hf hb ?_
  have hS := S_start (nt := fn.ntmps) (fix := fix) hHR hbad hnb hargs hsz
  refine wp_mono (haw _ _ w hS) fun e a' w' hq => ?_
  obtain ⟨st, ⟨ρ', hs⟩, he, ⟨ys, hres, hro⟩, hh', hfx⟩ := hq
  obtain ⟨v, hv, hrep⟩ := results_sound hs hres
  have hk : ∀ k cs, look h' k = some cs → k ∈ keep ∧ ∃ cs0, look st.hp k = some cs0 ∧ roCs st.hp keep cs0 = some cs := fun k cs hk => hh' (k, cs) (look_mem hk)
  have hown : ∀ b, ownB ρ' h' b → ownB ρ' st.hp b := fun b ⟨k, cs, h1, h2⟩ => by
    obtain ⟨_, cs0, h3, _⟩ := hk k cs h1
    exact ⟨k, cs0, h3, h2⟩
  have hav : ∀ b, b < w'.heap.size → avd bad ρ' h' b → avd bad ρ' st.hp b := fun b _ hb => hb.imp id (hown b)
  have hpub : ∀ k cs, look st.hp k = some cs → k ∉ keep → 0 < (ρ' k).cap → ¬ avd bad ρ' h' (ρ' k).g := fun k cs h1 h2 h3 h4 => by
    rcases h4 with h4 | ⟨k', cs', g1, g2, g3⟩
    · exact hs.nb _ ⟨k, cs, h1, h3, rfl⟩ h4
    · obtain ⟨q1, cs0, q2, _⟩ := hk k' cs' g1
      exact hs.hr.dis k' k cs0 cs q2 h1 (fun e => h2 (by rw [← e]; exact q1)) g2 h3 g3
  have fin : a'.defers = [] ∧ ∃ v, (results fn a'.tmps).run P w' = .ok v w' ∧ ∃ v' ρ', Ending.returned v = .returned v' ∧ Rep w' (avd bad ρ' h') ρ' r v' ∧ HR bad ρ' h' w' ∧ Keeps w w' (ownB ρ h) ∧ (∀ b, ownB ρ' h' b → (ownB ρ h b ∨ w.heap.size ≤ b) ∧ ¬ bad b) ∧ ∀ k ∈ fix, ρ' k = ρ k := by
    refine ⟨hs.defers, v, hv, v, ρ', rfl, roA_sound hs.hr.obj hav hpub hrep hro, ⟨fun k cs h1 => ?_, fun k k' cs cs' h1 h2 => ?_⟩, hs.keep, fun b hb => ⟨hs.own b (hown b hb), hs.nb b (hown b hb)⟩, fun k hk => hs.fx k (by rw [hfx]; exact hk)⟩
    · obtain ⟨_, cs0, h2, h3⟩ := hk k cs h1
      have hob := hs.hr.obj k cs0 h2
      obtain ⟨r1, r2⟩ := roCs_spec h3
      refine ⟨by have := hob.len; omega, hob.mem, fun j x hj => ?_⟩
      have hj' : j < cs0.length := by rw [← r1]; exact (List.getElem?_eq_some_iff.1 hj).1
      obtain ⟨u, hu, hr⟩ := hob.cells j cs0[j] (List.getElem?_eq_getElem hj')
      exact ⟨u, hu, roC_sound hs.hr.obj hav hpub hr (r2 j _ x (List.getElem?_eq_getElem hj') hj)⟩
    · obtain ⟨_, c1, g1, _⟩ := hk k cs h1
      obtain ⟨_, c2, g2, _⟩ := hk k' cs' h2
      exact hs.hr.dis k k' c1 c2 g1 g2
  rcases he with rfl | rfl
  · exact fin
  · exact fin
end Go.Proofs.YtogmppcfopgkdaaGreatDoor

/- The abstract machine, part 11: the rules by which states are computed. No program is named here. -/
namespace Go.Proofs.YtogmppcfopgkdaaGreatDoor
open Go.RowKit
set_option linter.unusedVariables false
set_option linter.unusedSimpArgs false

section
variable (P : Program) (st : St) (d : Nat) (ty : TypeId) (ps : String) (af : Array Edge) (g : Option (Nat × Bool))
/-- A value is put where the operation says. -/
def fin (st : St) (d : Nat) (x : Option AV) : Option St := if d < st.nt then x.map fun x => st.put (some d) x else none
theorem fin_some {fr : List (Nat × AV)} {hp : Hp} {nt : Nat} {fx : List Nat} {d : Nat} (x : AV) (h : d < nt) : fin ⟨fr, hp, nt, fx⟩ d (some x) = some ⟨(d, x) :: fr, hp, nt, fx⟩ := by simp [fin, h, put_some]
theorem ev_move (x : Operand) : ev P st ⟨some d, .move x, ty, ps, af, g⟩ = fin st d (opv st x) := rfl
theorem ev_assign (x : Operand) : ev P st ⟨some d, .assign x, ty, ps, af, g⟩ = fin st d (opv st x) := rfl
theorem ev_pick (c a b : Operand) : ev P st ⟨some d, .pick c a b, ty, ps, af, g⟩ = fin st d ((opv st c).bind fun c => qPick c (opv st a) (opv st b)) := rfl
theorem ev_nilCheck (x : Operand) : ev P st ⟨some d, .nilCheck x, ty, ps, af, g⟩ = fin st d ((opv st x).bind qNil) := rfl
theorem ev_nilCheck0 (x : Operand) : ev P st ⟨none, .nilCheck x, ty, ps, af, g⟩ = ((opv st x).bind qNil).map fun _ => st := rfl
theorem ev_load (t : TypeId) (x : Operand) : ev P st ⟨some d, .load t x, ty, ps, af, g⟩ = fin st d ((opv st x).bind (qLoad P st.hp t)) := rfl
theorem ev_bin (op : BinOp) (t u : TypeId) (x y : Operand) : ev P st ⟨some d, .binOp op t x y u, ty, ps, af, g⟩ = fin st d (((opv st x).bind val).bind fun a => ((opv st y).bind val).bind fun b => (bin P op t x y a b).map cst) := rfl
theorem ev_una (op : UnOp) (t : TypeId) (x : Operand) : ev P st ⟨some d, .unOp op t x, ty, ps, af, g⟩ = fin st d (((opv st x).bind val).bind fun a => (una P op a).map cst) := rfl
theorem ev_conv (s t : TypeId) (x : Operand) : ev P st ⟨some d, .convert s t x, ty, ps, af, g⟩ = fin st d ((opv st x).bind (qConv P st.hp s t)) := rfl
theorem ev_slice (t : TypeId) (x : Operand) (lo hi mx : Option Operand) : ev P st ⟨some d, .slice t x lo hi mx, ty, ps, af, g⟩ = fin st d ((opv st x).bind fun y => (gO st lo).bind fun l => (gO st hi).bind fun h => (gO st mx).bind fun m => qSli P t y l h m) := rfl
theorem ev_fieldAddr (s : TypeId) (x : Operand) (f : Nat) : ev P st ⟨some d, .fieldAddr s x f, ty, ps, af, g⟩ = fin st d ((opv st x).bind (qFld P s f)) := rfl
theorem ev_field (s : TypeId) (x : Operand) (f : Nat) : ev P st ⟨some d, .field s x f, ty, ps, af, g⟩ = fin st d ((opv st x).bind (qPart P s f)) := rfl
theorem ev_indexAddr (t : TypeId) (x i : Operand) : ev P st ⟨some d, .indexAddr t x i, ty, ps, af, g⟩ = fin st d ((opv st x).bind fun y => (opv st i).bind (qIdxA P t y)) := rfl
theorem ev_index (t : TypeId) (x i : Operand) : ev P st ⟨some d, .index t x i, ty, ps, af, g⟩ = fin st d (((opv st x).bind val).bind fun a => ((opv st i).bind val).bind fun b => (idx P t a b).map cst) := rfl
theorem ev_extract (x : Operand) (i : Nat) : ev P st ⟨some d, .extract x i, ty, ps, af, g⟩ = fin st d ((opv st x).bind (qExt i)) := rfl
theorem ev_build (t : TypeId) (parts : Array (Nat × Operand)) : ev P st ⟨some d, .build t parts, ty, ps, af, g⟩ = fin st d (qBuild P t (parts.toList.map fun p => (p.1, opv st p.2))) := rfl
theorem ev_len (x : Operand) (ts : Array TypeId) : ev P st ⟨some d, .call ⟨.builtin .len, #[x], ts⟩, ty, ps, af, g⟩ = fin st d ((opv st x).bind (qLen P ts ty)) := rfl
theorem ev_min (x y : Operand) (ts : Array TypeId) : ev P st ⟨some d, .call ⟨.builtin .min, #[x, y], ts⟩, ty, ps, af, g⟩ = fin st d (((opv st x).bind val).bind fun a => ((opv st y).bind val).bind fun b => (minV P ts ty a b).map cst) := rfl
theorem ev_max (x y : Operand) (ts : Array TypeId) : ev P st ⟨some d, .call ⟨.builtin .max, #[x, y], ts⟩, ty, ps, af, g⟩ = fin st d (((opv st x).bind val).bind fun a => ((opv st y).bind val).bind fun b => (maxV P ts ty a b).map cst) := rfl
theorem ev_alloc (t : TypeId) : ev P st ⟨some d, .alloc t, ty, ps, af, g⟩ = evAlloc P st d t := rfl
theorem ev_box (t : TypeId) (x : Operand) : ev P st ⟨some d, .box t x, ty, ps, af, g⟩ = (opv st x).bind (evBox P st d) := rfl
theorem ev_store (t : TypeId) (p x : Operand) : ev P st ⟨none, .store t p x, ty, ps, af, g⟩ = (opv st p).bind fun p => (opv st x).bind (evStore P st t p) := rfl
theorem ev_lit (t : TypeId) (n : Nat) (parts : Array (Nat × Operand)) : ev P st ⟨some d, .buildSlice t n parts, ty, ps, af, g⟩ = evLit P st d t n (parts.toList.map fun p => (p.1, opv st p.2)) := rfl
theorem ev_make (t : TypeId) (l c : Operand) : ev P st ⟨some d, .makeSlice t l c, ty, ps, af, g⟩ = (opv st l).bind fun l => (opv st c).bind (evMake P st d t l) := rfl
theorem ev_append (s x : Operand) (t tx : TypeId) : ev P st ⟨some d, .call ⟨.builtin .append, #[s, x], #[t, tx]⟩, ty, ps, af, g⟩ = (opv st s).bind fun s => (opv st x).bind (evAppend P st d t tx s) := rfl
end
theorem qPick_true (a b : Option AV) : qPick (.v (.bool true)) a b = a := rfl
theorem qPick_false (a b : Option AV) : qPick (.v (.bool false)) a b = b := rfl
theorem qNil_pt (k o : Nat) : qNil (.pt k o) = some (.pt k o) := rfl
theorem qNil_rp (cs : List AV) : qNil (.rp cs) = some (.rp cs) := rfl
theorem qNil_fn (f : FuncId) (cs : List AV) : qNil (.fn f cs) = some (.fn f cs) := rfl
theorem ev_mkf {P : Program} {st : St} {d : Nat} {ty : TypeId} {ps : String} {af : Array Edge} {g : Option (Nat × Bool)} {f : FuncId} {caps : List Operand} (h : f < 1000000) : ev P st ⟨some d, .makeFunc (.func f) #[] caps.toArray, ty, ps, af, g⟩ = fin st d ((opvs st caps).map (.fn f)) := by
  show fin st d (if f < bnd then (opvs st caps).map (.fn f) else none) = _
  rw [if_pos (show f < bnd from h)]
theorem ev_mkb (P : Program) (st : St) (d : Nat) (ty : TypeId) (ps : String) (af : Array Edge) (g : Option (Nat × Bool)) (f : FuncId) (x : Operand) : ev P st ⟨some d, .makeFunc (.func f) #[x] #[], ty, ps, af, g⟩ = fin st d ((opv st x).map fun a => .fn (f + bnd) [a]) := rfl
attribute [go_sem] qNil_fn ev_mkf ev_mkb
theorem qExt_tp (i : Nat) (vs : List AV) : qExt i (.tp vs) = vs[i]? := rfl
theorem qIdxA_int (P : Program) (t : TypeId) (x : AV) (k : IntKind) (n : Int) : qIdxA P t x (.v (.int k n)) = qIdx P t x n := rfl
theorem gO_none (st : St) : gO st none = some none := rfl
theorem gO_some (st : St) (x : Operand) : gO st (some x) = (opv st x).map some := rfl
theorem ovO_none : ovO none = some none := rfl
theorem ovO_v (x : Value) : ovO (some (.v x)) = some (some x) := rfl
theorem qSli_v (P : Program) (t : TypeId) (a : Value) (l h m : Option AV) : qSli P t (.v a) l h m = (ovO l).bind fun l => (ovO h).bind fun h => (ovO m).bind fun m => (sli P t a l h m).map cst := rfl
theorem qSli_rd (P : Program) (t : TypeId) (n : Nat) (cs : List AV) (l h m : Option AV) : qSli P t (.rd n cs) l h m = qSlice P t (.rd n cs) l h m := rfl
theorem qSli_os (P : Program) (t : TypeId) (k o s n : Nat) (l h m : Option AV) : qSli P t (.os k o s n) l h m = qSlice P t (.os k o s n) l h m := rfl
theorem qConv_int (P : Program) (hp : Hp) (s d : TypeId) (k : IntKind) (n : Int) : qConv P hp s d (.v (.int k n)) = (cnv P s d (.int k n)).map cst := rfl
theorem qConv_string (P : Program) (hp : Hp) (s d : TypeId) (x : ByteArray) : qConv P hp s d (.v (.string x)) = (cnv P s d (.string x)).map cst := rfl
theorem qLen_rd {P : Program} {s : TypeId} (t : TypeId) {n : Nat} (cs : List AV) (h : isSlT P s = true) : qLen P #[s] t (.rd n cs) = some (.v (.int .i64 n)) := by simp [qLen, h]
theorem qLen_os {P : Program} {ts : TypeId} (t : TypeId) {k o s n : Nat} (h : isSlT P ts = true) : qLen P #[ts] t (.os k o s n) = some (.v (.int .i64 n)) := by simp [qLen, h]
theorem qLen_v (P : Program) (ts : Array TypeId) (t : TypeId) (a : Value) : qLen P ts t (.v a) = (lenV P ts t a).map cst := rfl

/-! ### Plain values -/
section
variable {P : Program} {t : TypeId} {x y : Operand}
theorem bin_add (k : IntKind) (a b : Int) : bin P .add t x y (.int k a) (.int k b) = some (.int k (k.wrap (a + b))) := by simp [bin, pr_bind, pr_pure, eqGuard, binOp, Op.intArith]
theorem bin_sub (k : IntKind) (a b : Int) : bin P .sub t x y (.int k a) (.int k b) = some (.int k (k.wrap (a - b))) := by simp [bin, pr_bind, pr_pure, eqGuard, binOp, Op.intArith]
theorem bin_mul (k : IntKind) (a b : Int) : bin P .mul t x y (.int k a) (.int k b) = some (.int k (k.wrap (a * b))) := by simp [bin, pr_bind, pr_pure, eqGuard, binOp, Op.intArith]
theorem bin_quo (k : IntKind) (a b : Int) (h : b ≠ 0) : bin P .quo t x y (.int k a) (.int k b) = some (.int k (k.wrap (a.tdiv b))) := by simp [bin, pr_bind, pr_pure, eqGuard, binOp, Op.intDiv, h]
theorem bin_rem (k : IntKind) (a b : Int) (h : b ≠ 0) : bin P .rem t x y (.int k a) (.int k b) = some (.int k (a.tmod b)) := by simp [bin, pr_bind, pr_pure, eqGuard, binOp, Op.intDiv, h]
theorem bin_eql (k : IntKind) (a b : Int) : bin P .eql t x y (.int k a) (.int k b) = some (.bool (decide (a = b))) := by simp [bin, pr_bind, pr_pure, eqGuard, binOp, Op.intCmp]; exact Bool.beq_eq_decide_eq a b
theorem bne_dec {α : Type} [BEq α] [LawfulBEq α] [DecidableEq α] (a b : α) : (a != b) = !decide (a = b) := by rw [bne, Bool.beq_eq_decide_eq]
theorem bin_neq (k : IntKind) (a b : Int) : bin P .neq t x y (.int k a) (.int k b) = some (.bool (!decide (a = b))) := by
  rw [← bne_dec]
  cases k <;> rfl
theorem bin_lss (k : IntKind) (a b : Int) : bin P .lss t x y (.int k a) (.int k b) = some (.bool (decide (a < b))) := by simp [bin, pr_bind, pr_pure, eqGuard, binOp, Op.intCmp]
theorem bin_leq (k : IntKind) (a b : Int) : bin P .leq t x y (.int k a) (.int k b) = some (.bool (decide (a ≤ b))) := by simp [bin, pr_bind, pr_pure, eqGuard, binOp, Op.intCmp]
theorem bin_gtr (k : IntKind) (a b : Int) : bin P .gtr t x y (.int k a) (.int k b) = some (.bool (decide (b < a))) := by simp [bin, pr_bind, pr_pure, eqGuard, binOp, Op.intCmp]
theorem bin_geq (k : IntKind) (a b : Int) : bin P .geq t x y (.int k a) (.int k b) = some (.bool (decide (b ≤ a))) := by simp [bin, pr_bind, pr_pure, eqGuard, binOp, Op.intCmp]
theorem una_not (b : Bool) : una P .not (.bool b) = some (.bool (!b)) := rfl
theorem una_neg (k : IntKind) (n : Int) : una P .neg (.int k n) = some (.int k (k.wrap (0 - n))) := rfl
theorem bin_sadd {a b : List UInt8} (h : a.length + b.length ≤ 9223372036854775807) : bin P .add t x y (.string (str a)) (.string (str b)) = some (.string (str (a ++ b))) := by
  have : ¬ (((a.length + b.length : Nat) : Int) > IntKind.i64.max) := by
    have : IntKind.i64.max = 9223372036854775807 := by decide
    omega
  simp only [bin, pr_bind, eqGuard, binOp, Op.stringOp, str_size]
  rw [if_neg this]
  simp [pr_pure, str_append]
theorem bin_seql (a b : List UInt8) : bin P .eql t x y (.string (str a)) (.string (str b)) = some (.bool (decide (a = b))) := by
  simp [bin, pr_bind, pr_pure, eqGuard, binOp, Op.stringOp, str_toList]; exact Bool.beq_eq_decide_eq a b
theorem bin_sneq (a b : List UInt8) : bin P .neq t x y (.string (str a)) (.string (str b)) = some (.bool (!decide (a = b))) := by
  rw [← Bool.beq_eq_decide_eq]
  show some (Value.bool (!((str a).toList == (str b).toList))) = _
  rw [str_toList, str_toList]
theorem pr_underlying {d : TypeDesc} (h : P.underlying t = some d) : pr P (underlying t) = some d := by
  show pr P (Sem.bind program _) = _
  simp only [program, Sem.bind, pr, h]
  rfl
theorem pr_equal_bool (a b : Bool) (h : P.underlying t = some .bool) : pr P (Op.equal t (.bool a) (.bool b)) = some (a == b) := by
  unfold Op.equal Op.maxDepth
  rw [show (10000 : Nat) = 9999 + 1 from rfl, Op.equalIn, pr_bind, pr_underlying h]
  rfl
theorem bin_beql (a b : Bool) (h : P.underlying t = some .bool) : bin P .eql t x y (.bool a) (.bool b) = some (.bool (a == b)) := by
  show pr P (Op.equal t (.bool a) (.bool b) >>= fun b => pure (Value.bool b)) = _
  rw [pr_bind, pr_equal_bool a b h]
  rfl
theorem bin_bneq (a b : Bool) (h : P.underlying t = some .bool) : bin P .neq t x y (.bool a) (.bool b) = some (.bool (!(a == b))) := by
  show pr P (Op.equal t (.bool a) (.bool b) >>= fun b => pure (Value.bool !b)) = _
  rw [pr_bind, pr_equal_bool a b h]
  rfl
theorem idx_str {l : List UInt8} {k : IntKind} {i : Int} (h : P.underlying t = some .string) (h0 : 0 ≤ i) (h1 : i < l.length) : idx P t (.string (str l)) (.int k i) = some (.int .u8 (l[i.toNat]'(by omega)).toNat) := by
  have hlt : i.toNat < (str l).size := by rw [str_size]; omega
  simp only [idx, Instr.index, pr_bind, asIntOf, pr_pure, Option.bind_some, pr_underlying h, if_pos h0]
  rw [getElem?_pos (str l) i.toNat hlt, str_get]
  rfl
theorem lenV_str (ty : TypeId) (l : List UInt8) (h : P.underlying t = some .string) : lenV P #[t] ty (.string (str l)) = some (.int .i64 l.length) := by
  simp [lenV, Builtin.len_, pr_bind, pr_underlying h, pr_pure, goInt, str_size]
theorem minV_int (ts : Array TypeId) (ty : TypeId) (k k' : IntKind) (a b : Int) : minV P ts ty (.int k a) (.int k' b) = some (.int k (if b < a then b else a)) := rfl
theorem maxV_int (ts : Array TypeId) (ty : TypeId) (k k' : IntKind) (a b : Int) : maxV P ts ty (.int k a) (.int k' b) = some (.int k (if b > a then b else a)) := rfl
theorem cnv_int {s d : TypeId} {k : IntKind} (k' : IntKind) (n : Int) (hs : (P.underlying s).isSome = true) (hd : P.underlying d = some (.int k)) : cnv P s d (.int k' n) = some (.int k (k.wrap n)) := by
  obtain ⟨ds, hs⟩ := Option.isSome_iff_exists.1 hs
  simp only [cnv, convert, pr_bind, pr_underlying hs, pr_underlying hd, Option.bind_some]
  cases ds <;> rfl
theorem sli_str {l : List UInt8} {k k' : IntKind} {i j : Int} (h : P.underlying t = some .string) (h0 : 0 ≤ i) (h1 : i ≤ j) (h2 : j ≤ l.length) : sli P t (.string (str l)) (some (.int k i)) (some (.int k' j)) none = some (.string (str ((l.drop i.toNat).take (j.toNat - i.toNat)))) := by
  have hj : (j.toNat : Int) = j := Int.toNat_of_nonneg (by omega)
  have p1 : 0 ≤ j := by omega
  simp [sli, Instr.sliceAt, Instr.slice, Instr.sliceBounds, Instr.sliceBound, asIntOf, pr_bind, pr_pure, pr_underlying h, str_size, h0, h1, h2, hj, p1, str_extract]
theorem sli_str_from {l : List UInt8} {k : IntKind} {i : Int} (h : P.underlying t = some .string) (h0 : 0 ≤ i) (h1 : i ≤ l.length) : sli P t (.string (str l)) (some (.int k i)) none none = some (.string (str (l.drop i.toNat))) := by
  simp [sli, Instr.sliceAt, Instr.slice, Instr.sliceBounds, Instr.sliceBound, asIntOf, pr_bind, pr_pure, pr_underlying h, str_size, h0, h1, str_extract]
  rw [List.take_of_length_le (by simp)]
theorem sli_str_to {l : List UInt8} {k : IntKind} {j : Int} (h : P.underlying t = some .string) (h0 : 0 ≤ j) (h1 : j ≤ l.length) : sli P t (.string (str l)) none (some (.int k j)) none = some (.string (str (l.take j.toNat))) := by
  simp [sli, Instr.sliceAt, Instr.slice, Instr.sliceBounds, Instr.sliceBound, asIntOf, pr_bind, pr_pure, pr_underlying h, str_size, h0, h1, str_extract]
end
theorem wrap64 {x : Int} (h1 : -9223372036854775808 ≤ x) (h2 : x ≤ 9223372036854775807) : IntKind.i64.wrap x = x := by rw [IntKind.wrap_i64]; omega
theorem wrapU8 {x : Int} (h1 : 0 ≤ x) (h2 : x ≤ 255) : IntKind.u8.wrap x = x := IntWalk.u8_in x ⟨h1, h2⟩
theorem mk_str (l : List UInt8) : ByteArray.mk (List.toArray l) = str l := rfl
theorem str_nil_eq : ByteArray.empty = str [] := rfl
attribute [go_sem] ev_move ev_assign ev_pick ev_nilCheck ev_nilCheck0 ev_load ev_bin ev_una ev_conv ev_slice ev_fieldAddr ev_field ev_indexAddr ev_index ev_extract ev_build ev_len ev_min ev_max ev_alloc ev_box ev_store ev_lit ev_make ev_append qPick_true qPick_false qNil_pt qNil_rp qExt_tp qIdxA_int gO_none gO_some ovO_none ovO_v qSli_v qSli_rd qSli_os qConv_int qConv_string bin_add bin_sub bin_mul bin_quo bin_rem bin_eql bin_neq bin_lss bin_leq bin_gtr bin_geq una_not una_neg bin_sadd bin_seql bin_sneq bin_beql bin_bneq lenV_str minV_int maxV_int fin_some opv_tmp opv_const look_cons look_nil cst_int cst_bool cst_string cst_slice cst_agg val_v val_ag cellVs_nil cellVs_cons put_some put_none qLoad_pt qLoad_rp qFld_pt qFld_rp qPart_ag ib_none ib_some cellsA_ag cellsA_int cellsA_bool cellsA_string cellsA_slice cellsA_rd cellsA_os cellsA_pt cellsA_rp setR_nil setR_cons aFill_nil argsA_nil argsA_cons num_nil num_cons resR_tmp resR_cell resL_nil resL_cons roC_v roC_un roC_rd roC_rp roCs_nil roCs_cons roPs_nil roPs_cons mk_str str_nil_eq wrap64 wrapU8 idx_str cnv_int sli_str sli_str_from sli_str_to qLen_v qLen_rd qLen_os
end Go.Proofs.YtogmppcfopgkdaaGreatDoor

/- The abstract machine, part 12: rules in the form in which a walk uses them. No program is named here. -/
namespace Go.Proofs.YtogmppcfopgkdaaGreatDoor
open Go.RowKit
set_option linter.unusedVariables false
set_option linter.unusedSimpArgs false
section
variable {P : Program} {st st' : St} {Q : Exit → St → Prop} {ops : Array Oper} {rest : List Oper} {o : Oper}
theorem aw_cond_true {c : Operand} {x y : Code} (hc : opv st c = some (.v (.bool true))) (h : aw P x st Q) : aw P (.cond c x y) st Q := aw_cond hc (fun _ => h) (fun h => by cases h)
theorem aw_cond_false {c : Operand} {x y : Code} (hc : opv st c = some (.v (.bool false))) (h : aw P y st Q) : aw P (.cond c x y) st Q := aw_cond hc (fun h => by cases h) (fun _ => h)
theorem awO_y {fr : List (Nat × AV)} {hp : Hp} {nt : Nat} {fx : List Nat} {j t : Nat} {b : Bool} (hg : o.guard = some (j, b)) (hj : (ops[j]?).bind (·.dst) = some t) (ht : t < nt) (hc : look fr t = some (.v (.bool b))) (h : ev P ⟨fr, hp, nt, fx⟩ o = some st') (hr : awO P ops rest st' Q) : awO P ops (o :: rest) ⟨fr, hp, nt, fx⟩ Q := awO_yes hg hj ht hc h hr
theorem awO_n {fr : List (Nat × AV)} {hp : Hp} {nt : Nat} {fx : List Nat} {j t d : Nat} {b c : Bool} (hg : o.guard = some (j, b)) (hj : (ops[j]?).bind (·.dst) = some t) (ht : t < nt) (hc : look fr t = some (.v (.bool c))) (hne : (c == b) = false) (hd : o.dst = some d) (hdn : d < nt) (hr : awO P ops rest ⟨(d, .v undef) :: fr, hp, nt, fx⟩ Q) :
    awO P ops (o :: rest) ⟨fr, hp, nt, fx⟩ Q := awO_no hg hj ht hc hne (fun e he => by rw [hd] at he; injection he with he; subst he; exact hdn) (by rw [hd]; exact hr)
theorem awO_u {fr : List (Nat × AV)} {hp : Hp} {nt : Nat} {fx : List Nat} {j t d : Nat} {b : Bool} (hg : o.guard = some (j, b)) (hj : (ops[j]?).bind (·.dst) = some t) (hc : look fr t = some (.v undef)) (hd : o.dst = some d) (hdn : d < nt) (hr : awO P ops rest ⟨(d, .v undef) :: fr, hp, nt, fx⟩ Q) :
    awO P ops (o :: rest) ⟨fr, hp, nt, fx⟩ Q := awO_undef hg hj hc (fun e he => by rw [hd] at he; injection he with he; subst he; exact hdn) (by rw [hd]; exact hr)
/-- A guard whose bool is not known: two ways. -/
theorem awO_guard {fr : List (Nat × AV)} {hp : Hp} {nt : Nat} {fx : List Nat} {j t : Nat} {b c : Bool} (hg : o.guard = some (j, b)) (hj : (ops[j]?).bind (·.dst) = some t) (hc : look fr t = some (.v (.bool c))) (h1 : c = b → awO P ops (o :: rest) ⟨(t, .v (.bool b)) :: fr, hp, nt, fx⟩ Q) (h2 : c = !b → awO P ops (o :: rest) ⟨(t, .v (.bool !b)) :: fr, hp, nt, fx⟩ Q) :
    awO P ops (o :: rest) ⟨fr, hp, nt, fx⟩ Q := by
  cases b with
  | true => exact awO_split (st := ⟨fr, hp, nt, fx⟩) hc (fun e => h1 e) (fun e => h2 e)
  | false => exact awO_split (st := ⟨fr, hp, nt, fx⟩) hc (fun e => h2 e) (fun e => h1 e)
/-! ### Calls -/
theorem awO_c {fr : List (Nat × AV)} {hp : Hp} {nt : Nat} {fx : List Nat} {d : Nat} {f : FuncId} {args : List Operand} {ts : Array TypeId} {ys : List AV} {r : AV} (hg : o.guard = none) (ho : o.op = .call ⟨.value (.func f), args.toArray, ts⟩) (ha : argsA ⟨fr, hp, nt, fx⟩ args = some ys) (hc : Ab P f ys r) (hi : ys.all immA = true) (hr : immA r = true)
    (hd : o.dst = some d) (hdn : d < nt) (h : awO P ops rest ⟨(d, r) :: fr, hp, nt, fx⟩ Q) : awO P ops (o :: rest) ⟨fr, hp, nt, fx⟩ Q :=
  awO_call hg ho ha hc hi hr (fun e he => by rw [hd] at he; injection he with he; subst he; exact hdn) (by rw [hd]; exact h)
theorem awO_f {fr : List (Nat × AV)} {hp : Hp} {nt : Nat} {fx : List Nat} {d : Nat} {f : FuncId} {args : List Operand} {ts : Array TypeId} {ys zs : List AV} {r : AV} (hg : o.guard = none) (ho : o.op = .call ⟨.value (.func f), args.toArray, ts⟩) (ha : argsA ⟨fr, hp, nt, fx⟩ args = some ys) (hz : roPs hp [] ys = some zs) (hc : Ab P f zs r) (hr : flatA r = true)
    (hd : o.dst = some d) (hdn : d < nt) (h : awO P ops rest ⟨(d, r) :: fr, hp, nt, fx⟩ Q) : awO P ops (o :: rest) ⟨fr, hp, nt, fx⟩ Q :=
  awO_callF hg ho ha hz hc hr (fun e he => by rw [hd] at he; injection he with he; subst he; exact hdn) (by rw [hd]; exact h)
/-! ### Loops -/
/-- The temporaries that a piece of code writes. -/
def dstsO : List Oper → List Nat
  | [] => []
  | o :: r => match o.dst with
    | some d => d :: dstsO r
    | none => dstsO r
def dsts : Code → List Nat
  | .region _ ops _ => dstsO ops.toList
  | .seq a b => dsts a ++ dsts b
  | .cond _ a b => dsts a ++ dsts b
  | .block _ a => dsts a
  | .loop a => dsts a
  | _ => []
/-- What is known of the temporaries but these. -/
def cutL (ws : List Nat) : List (Nat × AV) → List (Nat × AV)
  | [] => []
  | (i, x) :: r => if ws.contains i = true then cutL ws r else (i, x) :: cutL (i :: ws) r
theorem cutL_nil (ws : List Nat) : cutL ws [] = [] := rfl
theorem cutL_cons (ws : List Nat) (i : Nat) (x : AV) (r : List (Nat × AV)) : cutL ws ((i, x) :: r) = if ws.contains i = true then cutL ws r else (i, x) :: cutL (i :: ws) r := rfl
def subL {α : Type} : List (Nat × α) → List (Nat × α) → Prop
  | [], _ => True
  | (i, x) :: r, l => look l i = some x ∧ subL r l
theorem subL_nil {α : Type} (l : List (Nat × α)) : subL [] l = True := rfl
theorem subL_cons {α : Type} (i : Nat) (x : α) (r l : List (Nat × α)) : subL ((i, x) :: r) l = (look l i = some x ∧ subL r l) := rfl
theorem subL_spec {α : Type} : ∀ {r l : List (Nat × α)}, subL r l → ∀ p ∈ r, look l p.1 = some p.2
  | [], _, _, p, hp => by cases hp
  | (i, x) :: r, l, h, p, hp => by
    rcases List.mem_cons.1 hp with rfl | hp
    · exact h.1
    · exact subL_spec h.2 p hp
theorem cutL_spec : ∀ (l : List (Nat × AV)) (ws : List Nat) (p : Nat × AV), p ∈ cutL ws l → p.1 ∉ ws ∧ look l p.1 = some p.2
  | [], ws, p, h => by cases h
  | (i, x) :: r, ws, p, h => by
    rw [cutL_cons] at h
    split at h
    · next hc =>
      obtain ⟨h1, h2⟩ := cutL_spec r ws p h
      refine ⟨h1, ?_⟩
      rw [look_cons, if_neg]
      · exact h2
      · intro e
        rw [e] at hc
        exact h1 (by simpa using hc)
    · next hc =>
      rcases List.mem_cons.1 h with rfl | h
      · exact ⟨by simpa using hc, by rw [look_cons, if_pos rfl]⟩
      · obtain ⟨h1, h2⟩ := cutL_spec r (i :: ws) p h
        refine ⟨fun e => h1 (List.mem_cons_of_mem _ e), ?_⟩
        rw [look_cons, if_neg (fun e => h1 (by rw [e]; exact List.mem_cons_self ..))]
        exact h2
/-- What a round hands on. -/
def LE {α : Type} (I : α → Prop) (μ : α → Nat) (vs : α → List (Nat × AV)) (keep : List (Nat × AV)) (hs : α → Hp) (nt : Nat) (fx : List Nat) (x : α) : St → Prop := fun st' =>
  ∃ y, I y ∧ μ y < μ x ∧ subL (vs y) st'.fr ∧ subL keep st'.fr ∧ subL (hs y) st'.hp ∧ nt = st'.nt ∧ fx = st'.fx
theorem LE_mk {α : Type} {I : α → Prop} {μ : α → Nat} {vs : α → List (Nat × AV)} {keep : List (Nat × AV)} {hs : α → Hp} {nt : Nat} {fx : List Nat} {x : α} {fr' : List (Nat × AV)} {hp' : Hp} (y : α) (h1 : I y) (h2 : μ y < μ x) (h3 : subL (vs y) fr') (h4 : subL keep fr') (h5 : subL (hs y) hp') :
    LE I μ vs keep hs nt fx x ⟨fr', hp', nt, fx⟩ := ⟨y, h1, h2, h3, h4, h5, rfl, rfl⟩
/-- A loop: the temporaries vs and the objects hs go with the round; the temporaries that the round doesn't write stay. -/
theorem aw_loopF {α : Type} {c : Code} {fr : List (Nat × AV)} {hp : Hp} {nt : Nat} {fx : List Nat} (vs : α → List (Nat × AV)) (hs : α → Hp) (I : α → Prop) (μ : α → Nat) (x0 : α) (h0 : I x0) (h1 : subL (vs x0) fr) (h2 : subL (hs x0) hp)
    (round : ∀ x, I x → aw P c ⟨vs x ++ cutL (dsts c) fr, hs x, nt, fx⟩ (thenQ (LE I μ vs (cutL (dsts c) fr) hs nt fx x) Q)) : aw P (.loop c) ⟨fr, hp, nt, fx⟩ Q :=
  aw_loop (fun x => ⟨vs x ++ cutL (dsts c) fr, hs x, nt, fx⟩) I μ x0 h0 ⟨fun p hp => by
      rcases List.mem_append.1 hp with h | h
      · exact subL_spec h1 p h
      · exact (cutL_spec _ _ p h).2, subL_spec h2, rfl, rfl⟩ fun x hx E a w hS => wp_mono (round x hx E a w hS) fun e a' w' ⟨st', hs', hq⟩ => by
    cases e with
    | normal =>
      obtain ⟨y, q1, q2, q3, q4, q5, q6, q7⟩ := hq
      refine ⟨st', hs', y, q1, q2, ⟨fun p hp => ?_, subL_spec q5, q6, q7⟩⟩
      rcases List.mem_append.1 hp with h | h
      · exact subL_spec q3 p h
      · exact subL_spec q4 p h
    | _ => exact ⟨st', hs', hq⟩
theorem retQ_mk {rs : List ResultVar} {r r' : AV} {ys : List AV} {e : Exit} (he : e = .normal ∨ e = .ret) (h1 : resL P st rs = some ys) (h2 : roA st.hp [] (one ys) = some r') (h3 : r' = r) (h4 : st.fx = []) : retQ P rs r [] [] [] e st :=
  ⟨he, ⟨ys, h1, by rw [h2, h3]⟩, fun p hp => (by cases hp), h4⟩
theorem one_one (x : AV) : one [x] = x := rfl
theorem one_two (x y : AV) (r : List AV) : one (x :: y :: r) = .tp (x :: y :: r) := rfl
theorem roA_v (hp : Hp) (keep : List Nat) (x : Value) : roA hp keep (.v x) = some (.v x) := rfl
theorem roA_rd (hp : Hp) (keep : List Nat) (n : Nat) (cs : List AV) : roA hp keep (.rd n cs) = some (.rd n cs) := rfl
theorem roA_os (hp : Hp) (keep : List Nat) (k o s n : Nat) : roA hp keep (.os k o s n) = roC hp keep (.os k o s n) := rfl
theorem roA_ag (hp : Hp) (keep : List Nat) (cs : List AV) : roA hp keep (.ag cs) = (roCs hp keep cs).map .ag := rfl
theorem roA_tp (hp : Hp) (keep : List Nat) (vs : List AV) : roA hp keep (.tp vs) = (roPs hp keep vs).map .tp := rfl
theorem roP_v (hp : Hp) (keep : List Nat) (x : Value) : roP hp keep (.v x) = some (.v x) := rfl
theorem roP_rd (hp : Hp) (keep : List Nat) (n : Nat) (cs : List AV) : roP hp keep (.rd n cs) = some (.rd n cs) := rfl
theorem roP_rp (hp : Hp) (keep : List Nat) (cs : List AV) : roP hp keep (.rp cs) = some (.rp cs) := rfl
theorem roP_os (hp : Hp) (keep : List Nat) (k o s n : Nat) : roP hp keep (.os k o s n) = roC hp keep (.os k o s n) := rfl
theorem roP_pt (hp : Hp) (keep : List Nat) (k o : Nat) : roP hp keep (.pt k o) = roC hp keep (.pt k o) := rfl
theorem roP_ag (hp : Hp) (keep : List Nat) (cs : List AV) : roP hp keep (.ag cs) = (roCs hp keep cs).map .ag := rfl
end
attribute [go_sem] one_one one_two roA_v roA_rd roA_os roA_ag roA_tp roP_v roP_rd roP_rp roP_os roP_pt roP_ag
theorem dstsO_nil : dstsO [] = [] := rfl
theorem dstsO_some (d : Nat) (op : Op) (t : TypeId) (p : String) (a : Array Edge) (g : Option (Nat × Bool)) (r : List Oper) : dstsO (⟨some d, op, t, p, a, g⟩ :: r) = d :: dstsO r := rfl
theorem dstsO_none (op : Op) (t : TypeId) (p : String) (a : Array Edge) (g : Option (Nat × Bool)) (r : List Oper) : dstsO (⟨none, op, t, p, a, g⟩ :: r) = dstsO r := rfl
theorem dsts_region (i : Nat) (l : List Oper) (b : Bool) : dsts (.region i l.toArray b) = dstsO l := rfl
theorem dsts_seq (a b : Code) : dsts (.seq a b) = dsts a ++ dsts b := rfl
theorem dsts_cond (c : Operand) (a b : Code) : dsts (.cond c a b) = dsts a ++ dsts b := rfl
theorem dsts_block (i : Nat) (a : Code) : dsts (.block i a) = dsts a := rfl
theorem dsts_loop (a : Code) : dsts (.loop a) = dsts a := rfl
theorem dsts_skip : dsts .skip = [] := rfl
theorem dsts_exit (i : Nat) : dsts (.exit i) = [] := rfl
theorem dsts_ret : dsts .ret = [] := rfl
set_option linter.defProp false in
def LP := And.intro @dstsO_nil <| And.intro @dstsO_some <| And.intro @dstsO_none <| And.intro @dsts_region <| And.intro @dsts_seq <| And.intro @dsts_cond <| And.intro @dsts_block <| And.intro @dsts_loop <| And.intro @dsts_skip <| And.intro @dsts_exit <| And.intro @dsts_ret <| And.intro @cutL_nil <| And.intro @cutL_cons <| And.intro @subL_nil <| And.intro @subL_cons <| trivial
set_option linter.defProp false in
def CT := And.intro @thenQ_normal <| And.intro @thenQ_exit <| And.intro @thenQ_ret <| And.intro @blkQ_normal <| And.intro @blkQ_exit <| And.intro @blkQ_ret <| trivial
end Go.Proofs.YtogmppcfopgkdaaGreatDoor

/- The abstract machine, part 13: regions that draw their order. No program is named here. -/
namespace Go.Proofs.YtogmppcfopgkdaaGreatDoor
open Go.RowKit
set_option linter.unusedVariables false
set_option linter.unusedSimpArgs false

/-- One more round of what can come up while i has not. -/
def growX (ops : Array Oper) (i : Nat) : Nat → Array Bool → Array Bool
  | 0, X => X
  | n + 1, X => growX ops i n ((List.range ops.size).foldl (fun X j => if j != i && ((ops[j]?).map (fun o => o.after.all fun e => !Region.binds .any e || X.getD e.on false)).getD false then X.setIfInBounds j true else X) X)
/-- A call of a function. -/
def callO : Op → Bool
  | .call ⟨.value _, _, _⟩ => true
  | _ => false
/-- What may disturb: a store, and a call that no operation that reads can come behind of its own accord. -/
def dsI (ops : Array Oper) (j : Nat) : Bool := match ops[j]? with
  | some o => dsO o.op || (callO o.op && (List.range ops.size).all fun i => match ops[i]? with
    | some oi => !memO oi.op || !(growX ops i 1 (Array.replicate ops.size false)).getD j false
    | none => true)
  | none => false
theorem dsI_op {ops : Array Oper} {j : Nat} {o : Oper} (h : dsI ops j = false) (hj : ops[j]? = some o) : dsO o.op = false := by
  unfold dsI at h
  rw [hj] at h
  simp only [Bool.or_eq_false_iff] at h
  exact h.1
/-- Whatever order is picked; what does not disturb only lets the memory grow. -/
def wpAnyB (P : Program) (ops : Array Oper) (Q : Exit → Act → World → Prop) : Nat → Array Bool → Act → World → Prop
  | 0, listed, a, w => Region.ready .any ops listed = [] ∧ Q .normal a w
  | fuel + 1, listed, a, w => (Region.ready .any ops listed = [] → Q .normal a w) ∧
    ∀ i ∈ Region.ready .any ops listed, wpOp P ops Q i (fun a' w' => (dsI ops i = false → Below w.heap.size w w') ∧ wpAnyB P ops Q fuel (listed.setIfInBounds i true) a' w') a w
section
variable {P : Program} {ops : Array Oper} {Q : Exit → Act → World → Prop}
theorem wpAny_of_B : ∀ (fuel : Nat) (listed : Array Bool) (a : Act) (w : World), wpAnyB P ops Q fuel listed a w → wpAny P .any ops Q fuel listed a w
  | 0, _, _, _, h => h
  | fuel + 1, _, _, _, h => ⟨h.1, fun i hi => wpOp_mono (fun a' w' h' => wpAny_of_B fuel _ a' w' h'.2) (h.2 i hi)⟩
/-- It yields v, from here on. -/
def YB (P : Program) (ops : Array Oper) (o : Oper) (v : Value) (a : Act) (w : World) : Prop :=
  (Region.wanted o (yielded ops a.tmps) = true ∧ ∀ w', (memO o.op = true → Below w.heap.size w w') → (execOp a.eval o).run P w' = .ok (.value v) w') ∨
  (Region.wanted o (yielded ops a.tmps) = false ∧ v = undef)
theorem YB.of_same {o : Oper} {v : Value} {a a' : Act} {w : World} (hy : YB P ops o v a w) (he : execOp a'.eval o = execOp a.eval o)
    (hw : Region.wanted o (yielded ops a'.tmps) = Region.wanted o (yielded ops a.tmps)) : YB P ops o v a' w := by
  unfold YB at *
  rw [he, hw]
  exact hy
theorem YB.later {o : Oper} {v : Value} {a : Act} {w w' : World} (hy : YB P ops o v a w) (hb : memO o.op = true → Below w.heap.size w w') : YB P ops o v a w' :=
  hy.imp (fun ⟨h1, h2⟩ => ⟨h1, fun w2 h3 => h2 w2 fun hm => (hb hm).trans ((h3 hm).mono (hb hm).size)⟩) id
theorem YB.wpOp {i : Nat} {o : Oper} {v : Value} {a : Act} {w : World} (hi : ops[i]? = some o) (hy : YB P ops o v a w) {K : Act → World → Prop} (h : K (a.put o.dst v) w) : wpOp P ops Q i K a w := by
  unfold Go.wpOp
  simp only [hi]
  rcases hy with ⟨hw, hv⟩ | ⟨hw, rfl⟩
  · simp only [hw, if_true, Oper.wp, hv w (fun _ => Below.refl _ _), Oper.upon]; exact .inl h
  · simp only [hw, Bool.false_eq_true, if_false]; exact h
theorem wpOp_putB {j : Nat} {oi oj : Oper} {v : Value} (hj : ops[j]? = some oj) (hap : oi.apart ops oj = true)
    (hsi : ∀ cs b, oi.op ≠ .select cs b) (hsj : ∀ cs b, oj.op ≠ .select cs b)
    (hQ : ∀ c a w, Q (.panic c) (a.put oi.dst v) w → Q (.panic c) a w) {K : Act → World → Prop} {a : Act} {w : World}
    (hy : YB P ops oi v a w) (h : wpOp P ops Q j K (a.put oi.dst v) w) :
    wpOp P ops Q j (fun a' w' => YB P ops oi v a' w ∧ K (a'.put oi.dst v) w') a w := by
  obtain ⟨h1, h2, h3⟩ := Oper.apart_spec hap
  have keep : ∀ (a : Act), YB P ops oi v a w → ∀ u, YB P ops oi v (a.put oj.dst u) w := fun a hy u =>
    hy.of_same (execOp_put oi hsi a oj.dst u h3) (wanted_put oi a oj.dst u h3)
  have keepD : ∀ d, YB P ops oi v { a with defers := d :: a.defers } w := fun d => hy.of_same rfl rfl
  unfold wpOp at *
  simp only [hj] at *
  rw [wanted_put oj a oi.dst v h1] at h
  split
  · rename_i hw
    simp only [hw, if_true] at h
    rcases h with h | ⟨hasks, hlets⟩
    case inr => exact .inr ⟨by unfold Oper.asks at *; rw [execOp_put oj hsj a oi.dst v h1] at hasks; exact hasks, hlets⟩
    refine .inl ?_
    unfold Oper.wp at *
    rw [execOp_put oj hsj a oi.dst v h1] at h
    generalize (execOp a.eval oj).run P w = r at *
    cases r with
    | ok n w' =>
      cases n <;> simp only [Oper.upon] at h ⊢
      case value u => exact ⟨keep a hy u, by rw [← Act.put_comm a v u h2]; exact h⟩
      case skip => exact ⟨keep a hy _, by rw [← Act.put_comm a v undef h2]; exact h⟩
      case defer d =>
        refine ⟨keep _ (keepD d) _, ?_⟩
        rw [← Act.put_comm _ v undef h2, ← Act.put_defers]
        exact h
      case enter f args =>
        refine Calls.mono h fun e w'' he => ?_
        cases e with
        | returned u => exact ⟨keep a hy u, by rw [← Act.put_comm a v u h2]; exact he⟩
        | panicked c => exact hQ _ _ _ he
        | outgrown => exact he
      case row row args => exact Rows.mono h fun u w'' he => ⟨keep a hy u, by rw [← Act.put_comm a v u h2]; exact he⟩
    | halt x w' =>
      cases x <;> simp only [Oper.upon] at h ⊢
      case panic u => exact hQ _ _ _ h
  · rename_i hw
    simp only [hw] at h
    exact ⟨keep a hy _, by rw [← Act.put_comm a v undef h2]; exact h⟩

/-- X holds all that can come up while i has not. -/
structure Avoids (ops : Array Oper) (i : Nat) (X : Array Bool) : Prop where
  closed : ∀ (j : Nat) (oj : Oper), ops[j]? = some oj → j ≠ i → (∀ e ∈ oj.after, Region.binds .any e = true → X.getD e.on false = true) → X.getD j false = true
  still : ∀ (j : Nat) (oj : Oper), ops[j]? = some oj → X.getD j false = true → dsI ops j = false
theorem wpAnyB_first {i : Nat} {oi : Oper} {v : Value} (hi : ops[i]? = some oi) (hsel : ∀ (j : Nat) (o : Oper) cs b, ops[j]? = some o → o.op ≠ .select cs b)
    (hQ : ∀ c a w, Q (.panic c) (a.put oi.dst v) w → Q (.panic c) a w) (X : Array Bool) (hX : memO oi.op = true → Avoids ops i X) :
    ∀ (fuel : Nat) (listed : Array Bool) (a : Act) (w : World),
      (∀ j oj, ops[j]? = some oj → j ≠ i → listed.getD j true = false → (∀ e ∈ oj.after, Region.binds .any e = true → e.on ≠ i) → oi.apart ops oj = true) →
      i ∈ Region.ready .any ops listed → (memO oi.op = true → ∀ j, listed.getD j false = true → X.getD j false = true) → YB P ops oi v a w →
      wpAnyB P ops Q fuel (listed.setIfInBounds i true) (a.put oi.dst v) w → wpAnyB P ops Q (fuel + 1) listed a w := by
  intro fuel
  induction fuel with
  | zero =>
    intro listed a w _ hr _ hy H
    refine ⟨fun h => (by rw [h] at hr; cases hr), fun j hj => ?_⟩
    by_cases hji : j = i
    · subst hji; exact hy.wpOp hi ⟨fun _ => Below.refl _ _, H⟩
    · have := ready_mono hj hji
      rw [H.1] at this
      cases this
  | succ fuel ih =>
    intro listed a w hfree hr hsub hy H
    refine ⟨fun h => (by rw [h] at hr; cases hr), fun j hj => ?_⟩
    by_cases hji : j = i
    · subst hji; exact hy.wpOp hi ⟨fun _ => Below.refl _ _, H⟩
    · have h1 := H.2 j (ready_mono hj hji)
      obtain ⟨hjun, oj, hoj, hall⟩ := mem_ready.1 hj
      have hnot : ∀ e ∈ oj.after, Region.binds .any e = true → e.on ≠ i := fun e he hb heq => by
        have h1 := hall e he hb
        have h0 := (mem_ready.1 hr).1
        rw [heq] at h1
        rcases Nat.lt_or_ge i listed.size with h' | h'
        · simp [h'] at h0 h1; rw [h0] at h1; cases h1
        · simp [Array.getElem?_eq_none h'] at h1
      have h2 := wpOp_putB hoj (hfree j oj hoj hji hjun hnot) (fun cs b => hsel i oi cs b hi) (fun cs b => hsel j oj cs b hoj) hQ hy h1
      have hfree' : ∀ k ok, ops[k]? = some ok → k ≠ i → (listed.setIfInBounds j true).getD k true = false →
          (∀ e ∈ ok.after, Region.binds .any e = true → e.on ≠ i) → oi.apart ops ok = true := fun k ok hk hki hun hno => by
        refine hfree k ok hk hki ?_ hno
        by_cases hjk : j = k
        · subst hjk; exact hjun
        · rw [getD_set_ne true hjk] at hun; exact hun
      have hjX : memO oi.op = true → X.getD j false = true := fun hm => (hX hm).closed j oj hoj hji fun e he hb => hsub hm _ (hall e he hb)
      have hjs : memO oi.op = true → dsI ops j = false := fun hm => (hX hm).still j oj hoj (hjX hm)
      have hsub' : memO oi.op = true → ∀ k, (listed.setIfInBounds j true).getD k false = true → X.getD k false = true := fun hm k hk => by
        by_cases hjk : j = k
        · subst hjk; exact hjX hm
        · rw [getD_set_ne false hjk] at hk; exact hsub hm k hk
      refine wpOp_mono (fun a' w' h3 => ⟨h3.2.1, ih (listed.setIfInBounds j true) a' w' hfree' (ready_mono hr (Ne.symm hji)) hsub' (h3.1.later fun hm => h3.2.1 (hjs hm)) ?_⟩) h2
      rw [Array.setIfInBounds_comm _ _ hji]
      exact h3.2.2
end

/-! ### What is computed of the order -/
def avoidsB (ops : Array Oper) (i : Nat) (listed X : Array Bool) : Bool :=
  (List.range ops.size).all fun j => match ops[j]? with
    | some oj => (j == i || X.getD j false || !(oj.after.all fun e => !Region.binds .any e || X.getD e.on false)) && (!X.getD j false || !dsI ops j) && (!listed.getD j false || X.getD j false)
    | none => true
theorem avoidsB_spec {ops : Array Oper} {i : Nat} {listed X : Array Bool} (hl : listed.size = ops.size) (h : avoidsB ops i listed X = true) : Avoids ops i X ∧ ∀ j, listed.getD j false = true → X.getD j false = true := by
  have key : ∀ (j : Nat) (oj : Oper), ops[j]? = some oj → (j == i || X.getD j false || !(oj.after.all fun e => !Region.binds .any e || X.getD e.on false)) = true ∧ (!X.getD j false || !dsI ops j) = true ∧ (!listed.getD j false || X.getD j false) = true := fun j oj hj => by
    have hlt : j < ops.size := by
      rcases Nat.lt_or_ge j ops.size with h | h
      · exact h
      · rw [Array.getElem?_eq_none h] at hj; cases hj
    have := List.all_eq_true.1 h j (by simpa using hlt)
    rw [hj] at this
    simp only [Bool.and_eq_true] at this
    exact ⟨this.1.1, this.1.2, this.2⟩
  refine ⟨⟨fun j oj hj hne hall => ?_, fun j oj hj hx => ?_⟩, fun j hj => ?_⟩
  · obtain ⟨h1, _, _⟩ := key j oj hj
    have ha : (oj.after.all fun e => !Region.binds .any e || X.getD e.on false) = true := by
      rw [Array.all_eq_true_iff_forall_mem]
      intro e he
      cases hb : Region.binds .any e with
      | false => rfl
      | true => simp [hall e he hb] 
    rw [ha] at h1
    simpa [hne] using h1
  · obtain ⟨_, h2, _⟩ := key j oj hj
    rw [hx] at h2
    simpa using h2
  · rcases Nat.lt_or_ge j ops.size with h' | h'
    · obtain ⟨_, _, h3⟩ := key j ops[j] (Array.getElem?_eq_getElem h')
      rw [hj] at h3
      simpa using h3
    · rw [Array.getD_eq_getD_getElem?, Array.getElem?_eq_none (by omega)] at hj
      cases hj
/-- What may be taken first by its kind. -/
def qO : Op → Bool
  | .move _ => true
  | .assign _ => true
  | .pick .. => true
  | .nilCheck _ => true
  | .load .. => true
  | .binOp .. => true
  | .unOp .. => true
  | .convert .. => true
  | .slice .. => true
  | .fieldAddr .. => true
  | .field .. => true
  | .indexAddr .. => true
  | .index .. => true
  | .extract .. => true
  | .build .. => true
  | .call ⟨.builtin .len, _, _⟩ => true
  | .call ⟨.builtin .min, _, _⟩ => true
  | .call ⟨.builtin .max, _, _⟩ => true
  | _ => false
/-- The operation i may be taken first. -/
def takeB (ops : Array Oper) (listed : Array Bool) (i : Nat) : Bool :=
  (Region.ready .any ops listed).contains i && Region.noSelect ops && Region.free .any ops listed i && (listed.size == ops.size) &&
    match ops[i]? with
    | some o => !memO o.op || avoidsB ops i listed (growX ops i 1 listed)
    | none => false
def awY (P : Program) (ops : Array Oper) (fuel : Nat) (listed : Array Bool) (st : St) (Q : Exit → St → Prop) : Prop := ∀ E a w, S E st a w → wpAnyB P ops (QQ E Q) fuel listed a w
/-- No panic is let out. -/
def NP (Q : Exit → St → Prop) : Prop := ∀ c st, ¬ Q (.panic c) st
theorem NP_then {K : St → Prop} {Q : Exit → St → Prop} (h : NP Q) : NP (thenQ K Q) := h
theorem NP_blk {id : Nat} {Q : Exit → St → Prop} (h : NP Q) : NP (blkQ id Q) := h
theorem NP_ret {P : Program} {rs : List ResultVar} {r : AV} {h' : Hp} {keep fix : List Nat} : NP (retQ P rs r h' keep fix) := fun c st h => by
  obtain ⟨h, _⟩ := h
  rcases h with h | h <;> cases h
section
variable {P : Program} {ops : Array Oper} {Q : Exit → St → Prop} {st : St} {listed : Array Bool} {fuel : Nat}
theorem aw_draw {id : Nat} (hm : P.follows .mixedOrders = true) (h : awY P ops ops.size (Array.replicate ops.size false) st Q) : aw P (.region id ops true) st Q := fun E a w ⟨ρ, hS⟩ =>
  wp_region_any hm (wpAny_of_B _ _ _ _ (h E a _ ⟨ρ, hS.below ⟨rfl, rfl, rfl, Nat.le_refl _, fun _ _ => rfl⟩⟩))
theorem awY_done (hr : Region.ready .any ops listed = []) (h : Q .normal st) : awY P ops fuel listed st Q := fun E a w hS => by
  cases fuel with
  | zero => exact ⟨hr, st, hS, h⟩
  | succ n => exact ⟨fun _ => ⟨st, hS, h⟩, by rw [hr]; simp⟩
theorem awY_first {i : Nat} {o : Oper} {y : AV} (hn : NP Q) (ht : takeB ops listed i = true) (hi : ops[i]? = some o) (hd : ∀ d, o.dst = some d → d < st.nt)
    (hy : ∀ E ρ a w, SR E ρ st a w → ∃ v, YB P ops o v a w ∧ Rep w (avd E.bad ρ st.hp) ρ y v) (h : awY P ops fuel (listed.setIfInBounds i true) (st.put o.dst y) Q) : awY P ops (fuel + 1) listed st Q := fun E a w ⟨ρ, hS⟩ => by
  obtain ⟨v, hv, hr⟩ := hy E ρ a w hS
  simp only [takeB, hi, Bool.and_eq_true, Bool.or_eq_true, Bool.not_eq_true', beq_iff_eq] at ht
  obtain ⟨⟨⟨⟨h1, h2⟩, h3⟩, h4⟩, h5⟩ := ht
  refine wpAnyB_first hi (Region.noSelect_spec h2) (fun c a' w' hq => ?_) (growX ops i 1 listed) (fun hm => ?_) fuel listed a w (Region.free_spec hi h3) (by simpa using h1) (fun hm => ?_) hv (h E _ w ⟨ρ, hS.put o.dst hd hr⟩)
  · obtain ⟨s, _, hq⟩ := hq; exact (hn c s hq).elim
  · rcases h5 with h5 | h5
    · rw [h5] at hm; cases hm
    · exact (avoidsB_spec h4 h5).1
  · rcases h5 with h5 | h5
    · rw [h5] at hm; cases hm
    · exact (avoidsB_spec h4 h5).2
end
end Go.Proofs.YtogmppcfopgkdaaGreatDoor

/- The abstract machine, part 14: drawn regions, the rules in the form in which a walk uses them. No program is named here. -/
namespace Go.Proofs.YtogmppcfopgkdaaGreatDoor
open Go.RowKit
set_option linter.unusedVariables false
set_option linter.unusedSimpArgs false
section
variable {P : Program} {ops : Array Oper} {Q : Exit → St → Prop} {st st' : St} {listed : Array Bool} {fuel : Nat} {o : Oper}
def evq (P : Program) (st : St) (dst : Option Nat) (op : Op) (ty : TypeId) : Option St :=
  match dst with
  | some d => if d < st.nt then (qv P st op ty).map fun x => st.put (some d) x else none
  | none => (qv P st op ty).map fun _ => st
theorem ev_evq {dst : Option Nat} {op : Op} {ty : TypeId} {ps : String} {af : Array Edge} {g : Option (Nat × Bool)} (hq : qO op = true) : ev P st ⟨dst, op, ty, ps, af, g⟩ = evq P st dst op ty := by
  cases op with
  | call c =>
    obtain ⟨callee, args, ts⟩ := c
    cases callee with
    | builtin b => cases b <;> cases dst <;> first | rfl | (simp [qO] at hq)
    | _ => simp [qO] at hq
  | _ => cases dst <;> first | rfl | (simp [qO] at hq)
theorem ev_quiet (hq : qO o.op = true) (h : ev P st o = some st') : ∃ y, qv P st o.op o.type = some y ∧ st' = st.put o.dst y ∧ ∀ d, o.dst = some d → d < st.nt := by
  obtain ⟨dst, op, ty, ps, af, g⟩ := o
  rw [ev_evq hq] at h
  cases dst with
  | none =>
    simp only [evq, Option.map_eq_some_iff] at h
    obtain ⟨y, h1, h2⟩ := h
    exact ⟨y, h1, h2.symm, fun d e => by cases e⟩
  | some d =>
    simp only [evq] at h
    split at h
    · next hd =>
      rw [Option.map_eq_some_iff] at h
      obtain ⟨y, h1, h2⟩ := h
      exact ⟨y, h1, h2.symm, fun d' e => by injection e with e; subst e; exact hd⟩
    · cases h
def stepB (ops : Array Oper) (listed : Array Bool) (i : Nat) : Bool := takeB ops listed i && ((ops[i]?).map fun o => qO o.op).getD false
theorem stepB_spec {i : Nat} (h : stepB ops listed i = true) (hi : ops[i]? = some o) : takeB ops listed i = true ∧ qO o.op = true := by
  simp only [stepB, Bool.and_eq_true, hi, Option.map_some, Option.getD_some] at h
  exact h
theorem YB.of_qv {E : Env} {ρ : Nat → Loc} {a : Act} {w : World} {y : AV} (hS : SR E ρ st a w) (hw : Region.wanted o (yielded ops a.tmps) = true) (hq : qv P st o.op o.type = some y) : ∃ v, YB P ops o v a w ∧ Rep w (avd E.bad ρ st.hp) ρ y v := by
  obtain ⟨v, hv, hr⟩ := qv_sound hS hq
  exact ⟨v, .inl ⟨hw, fun w' hb => hv w' fun hm => Ext.of_below (hb hm)⟩, hr⟩
theorem awY_q (i : Nat) (hs : stepB ops listed i = true) (hn : NP Q) (hi : ops[i]? = some o) (hg : o.guard = none) (he : ev P st o = some st') (h : awY P ops fuel (listed.setIfInBounds i true) st' Q) : awY P ops (fuel + 1) listed st Q := by
  obtain ⟨h1, h2⟩ := stepB_spec hs hi
  obtain ⟨y, hy, rfl, hd⟩ := ev_quiet h2 he
  exact awY_first hn h1 hi hd (fun E ρ a w hS => YB.of_qv hS (by simp [Region.wanted, hg]) hy) h
theorem awY_qy (i : Nat) {j t : Nat} {b : Bool} (hs : stepB ops listed i = true) (hn : NP Q) (hi : ops[i]? = some o) (hg : o.guard = some (j, b)) (hj : (ops[j]?).bind (·.dst) = some t) (ht : t < st.nt) (hc : look st.fr t = some (.v (.bool b))) (he : ev P st o = some st')
    (h : awY P ops fuel (listed.setIfInBounds i true) st' Q) : awY P ops (fuel + 1) listed st Q := by
  obtain ⟨h1, h2⟩ := stepB_spec hs hi
  obtain ⟨y, hy, rfl, hd⟩ := ev_quiet h2 he
  exact awY_first hn h1 hi hd (fun E ρ a w hS => YB.of_qv hS (by rw [wanted_of hS hg hj ht hc]; simp) hy) h
theorem awY_qn (i : Nat) {j t d : Nat} {b c : Bool} (hs : stepB ops listed i = true) (hn : NP Q) (hi : ops[i]? = some o) (hg : o.guard = some (j, b)) (hj : (ops[j]?).bind (·.dst) = some t) (ht : t < st.nt) (hc : look st.fr t = some (.v (.bool c))) (hne : (c == b) = false) (hd : o.dst = some d) (hdn : d < st.nt)
    (h : awY P ops fuel (listed.setIfInBounds i true) (st.put (some d) (.v undef)) Q) : awY P ops (fuel + 1) listed st Q :=
  awY_first hn (stepB_spec hs hi).1 hi (fun e he => by rw [hd] at he; injection he with he; subst he; exact hdn) (fun E ρ a w hS => ⟨undef, .inr ⟨by rw [wanted_of hS hg hj ht hc]; exact hne, rfl⟩, .im (.v _)⟩) (by rw [hd]; exact h)
/-- A guard whose bool is not known: two ways. -/
theorem awY_guard (i : Nat) {fr : List (Nat × AV)} {hp : Hp} {nt : Nat} {fx : List Nat} {j t : Nat} {b c : Bool} (hs : (Region.ready .any ops listed).contains i = true) (hi : ops[i]? = some o) (hg : o.guard = some (j, b)) (hj : (ops[j]?).bind (·.dst) = some t) (hc : look fr t = some (.v (.bool c)))
    (h1 : c = b → awY P ops fuel listed ⟨(t, .v (.bool b)) :: fr, hp, nt, fx⟩ Q) (h2 : c = !b → awY P ops fuel listed ⟨(t, .v (.bool !b)) :: fr, hp, nt, fx⟩ Q) : awY P ops fuel listed ⟨fr, hp, nt, fx⟩ Q := fun E a w ⟨ρ, hS⟩ => by
  have key : ∀ b', c = b' → SR E ρ ⟨(t, .v (.bool b')) :: fr, hp, nt, fx⟩ a w := fun b' e => by
    subst e
    refine ⟨fun t' x hx => ?_, hS.hr, hS.own, hS.keep, hS.bad, hS.nb, hS.size, hS.defers, hS.fx⟩
    rw [look_cons] at hx
    split at hx
    · next e => subst e; injection hx with hx; subst hx; exact hS.fr t _ hc
    · exact hS.fr t' x hx
  by_cases e : c = b
  · exact h1 e E a w ⟨ρ, key b e⟩
  · have e' : c = !b := by cases c <;> cases b <;> simp_all
    exact h2 e' E a w ⟨ρ, key (!b) e'⟩

/-! ### The one that must come up -/
theorem wpOp_of_step {E : Env} {a : Act} {w : World} {i : Nat} {K : Act → World → Prop} {Q' : Exit → Act → World → Prop} (hi : ops[i]? = some o) (hw : Region.wanted o (yielded ops a.tmps) = true) (h : StepTo P E a o st' w) (hK : ∀ a' w', S E st' a' w' → (dsO o.op = false → Below w.heap.size w w') → K a' w') : wpOp P ops Q' i K a w := by
  unfold wpOp
  simp only [hi, hw, if_true]
  refine .inl ?_
  obtain ⟨w', v, hr | ⟨hr, rfl⟩, hs, hb⟩ := h
  · unfold Oper.wp; rw [hr]; exact hK _ _ hs hb
  · unfold Oper.wp; rw [hr]; exact hK _ _ hs hb
theorem call_step {E : Env} {ρ : Nat → Loc} {a : Act} {w : World} {f : FuncId} {args : List Operand} {ts : Array TypeId} {ys : List AV} {r : AV} {K : Act → World → Prop} {Q' : Exit → Act → World → Prop} (hS : SR E ρ st a w) (ho : o.op = .call ⟨.value (.func f), args.toArray, ts⟩) (ha : argsA st args = some ys) (hc : Ab P f ys r) (him : ys.all immA = true) (hr : immA r = true)
    (hd : ∀ d, o.dst = some d → d < st.nt) (hK : ∀ a' w', S E (st.put o.dst r) a' w' → Below w.heap.size w w' → K a' w') : o.wp P a w K Q' := by
  unfold Oper.wp
  rw [run_call ho hc.1, Oper.upon_enter]
  have hargs := argsA_rep hS ha
  refine (hc.2 w (avd E.bad ρ st.hp) ρ _ ⟨fun b hb => ?_, hS.glob, fun b hb => by obtain ⟨k, cs, hk, _⟩ := hb; simp [look] at hk⟩ (fun b hb => ?_) HR.nil ⟨hargs.1, fun j y v hj hv => ?_⟩).mono ?_
  · rcases hb with hb | ⟨k, cs, h1, h2, rfl⟩
    · exact Nat.lt_of_lt_of_le (hS.bad.1 b hb) hS.keep.size
    · exact ((hS.hr.obj k cs h1).mem h2).1
  · obtain ⟨k, cs, hk, _⟩ := hb; simp [look] at hk
  · exact (hargs.2 j y v hj hv).tr (Nat.le_refl _) (fun _ _ _ _ => rfl) (fun b _ hb => (avd_nil _ _ b).1 hb) (fun _ hk => absurd rfl hk)
  · rintro e w' ⟨v, ρ', rfl, hrep, _, hkeep, _⟩
    have hb := keeps_nil hkeep
    refine hK _ _ ⟨ρ, (hS.below hb).put o.dst hd ?_⟩ hb
    exact ((hrep.imm (ρ' := ρ) hr).tr (Nat.le_refl _) (fun _ _ _ _ => rfl) (fun b _ hb => (avd_nil _ _ b).2 hb) (fun _ hk => absurd rfl hk))
theorem wpOp_of_wp {i : Nat} {a : Act} {w : World} {K : Act → World → Prop} {Q' : Exit → Act → World → Prop} (hi : ops[i]? = some o) (hw : Region.wanted o (yielded ops a.tmps) = true) (h : o.wp P a w K Q') : wpOp P ops Q' i K a w := by
  unfold wpOp
  simp only [hi, hw, if_true]
  exact .inl h
end
end Go.Proofs.YtogmppcfopgkdaaGreatDoor

/- The abstract machine, part 15: the rules by which objects are computed. No program is named here. -/
namespace Go.Proofs.YtogmppcfopgkdaaGreatDoor
open Go.RowKit
set_option linter.unusedVariables false
set_option linter.unusedSimpArgs false
theorem mentM_v (k : Nat) (x : Value) : mentM k (.v x) = false := rfl
theorem mentM_un (k : Nat) : mentM k .un = false := rfl
theorem mentM_rd (k n : Nat) (cs : List AV) : mentM k (.rd n cs) = false := rfl
theorem mentM_rp (k : Nat) (cs : List AV) : mentM k (.rp cs) = false := rfl
theorem mentM_os (k j o s n : Nat) : mentM k (.os j o s n) = (j == k) := rfl
theorem mentM_pt (k j o : Nat) : mentM k (.pt j o) = (j == k) := rfl
theorem mentM_ag (k : Nat) (cs : List AV) : mentM k (.ag cs) = cs.any (cellM k) := rfl
theorem mentM_tp (k : Nat) (cs : List AV) : mentM k (.tp cs) = cs.any (partM k) := rfl
theorem partM_v (k : Nat) (x : Value) : partM k (.v x) = false := rfl
theorem partM_rd (k n : Nat) (cs : List AV) : partM k (.rd n cs) = false := rfl
theorem partM_os (k j o s n : Nat) : partM k (.os j o s n) = (j == k) := rfl
theorem partM_pt (k j o : Nat) : partM k (.pt j o) = (j == k) := rfl
theorem partM_ag (k : Nat) (cs : List AV) : partM k (.ag cs) = cs.any (cellM k) := rfl
theorem cellM_v (k : Nat) (x : Value) : cellM k (.v x) = false := rfl
theorem cellM_un (k : Nat) : cellM k .un = false := rfl
theorem cellM_rd (k n : Nat) (cs : List AV) : cellM k (.rd n cs) = false := rfl
theorem cellM_rp (k : Nat) (cs : List AV) : cellM k (.rp cs) = false := rfl
theorem cellM_os (k j o s n : Nat) : cellM k (.os j o s n) = (j == k) := rfl
theorem cellM_pt (k j o : Nat) : cellM k (.pt j o) = (j == k) := rfl
theorem cellM_sp (k j : Nat) : cellM k (.sp j) = (j == k) := rfl
theorem mentM_sp (k j : Nat) : mentM k (.sp j) = (j == k) := rfl
theorem partM_sp (k j : Nat) : partM k (.sp j) = (j == k) := rfl
theorem mentM_fn (k : Nat) (f : FuncId) (cs : List AV) : mentM k (.fn f cs) = cs.any (cellM k) := rfl
theorem partM_fn (k : Nat) (f : FuncId) (cs : List AV) : partM k (.fn f cs) = cs.any (cellM k) := rfl
theorem cellM_fn (k : Nat) (f : FuncId) (cs : List AV) : cellM k (.fn f cs) = cs.any (cellS k) := rfl
theorem cellS_v (k : Nat) (x : Value) : cellS k (.v x) = false := rfl
theorem cellS_un (k : Nat) : cellS k .un = false := rfl
theorem cellS_rd (k n : Nat) (cs : List AV) : cellS k (.rd n cs) = false := rfl
theorem cellS_pt (k j o : Nat) : cellS k (.pt j o) = (j == k) := rfl
theorem cellS_os (k j o s n : Nat) : cellS k (.os j o s n) = (j == k) := rfl
theorem okC_fn (f : FuncId) (cs : List AV) : okC (.fn f cs) = true := rfl
theorem cellsA_fn (f : FuncId) (cs : List AV) : cellsA (.fn f cs) = some [.fn f cs] := rfl
attribute [go_sem] partM_fn cellM_fn cellS_v cellS_un cellS_rd cellS_pt cellS_os okC_fn cellsA_fn
theorem okC_sp (k : Nat) : okC (.sp k) = true := rfl
attribute [go_sem] cellM_sp mentM_sp partM_sp mentM_fn okC_sp cellsA_sp opvs_nil opvs_cons
theorem killX_def (k : Nat) (x : AV) : killX k x = if mentM k x = true then .un else x := rfl
theorem killC_def (k : Nat) (x : AV) : killC k x = if cellM k x = true then .un else x := rfl
theorem turn_nil {α : Type} (f : α → α) : turn f [] = [] := rfl
theorem turn_cons {α : Type} (f : α → α) (i : Nat) (x : α) (r : List (Nat × α)) : turn f ((i, x) :: r) = (i, f x) :: turn f r := rfl
theorem hset_nil {α : Type} (k : Nat) (x : α) : hset k x [] = [(k, x)] := rfl
theorem hset_cons {α : Type} (k : Nat) (x : α) (i : Nat) (y : α) (r : List (Nat × α)) : hset k x ((i, y) :: r) = if i = k then (k, x) :: r else (i, y) :: hset k x r := rfl
theorem okC_v (x : Value) : okC (.v x) = x.oneCell' := rfl
theorem okC_rd (n : Nat) (cs : List AV) : okC (.rd n cs) = true := rfl
theorem okC_os (k o s n : Nat) : okC (.os k o s n) = true := rfl
theorem okC_pt (k o : Nat) : okC (.pt k o) = true := rfl
theorem one_int (k : IntKind) (n : Int) : Value.oneCell' (.int k n) = true := rfl
theorem one_bool (b : Bool) : Value.oneCell' (.bool b) = true := rfl
theorem one_string (b : ByteArray) : Value.oneCell' (.string b) = true := rfl
theorem one_slice (a : Option Addr) (n c : Nat) : Value.oneCell' (.slice a n c) = true := rfl
section
variable {P : Program} {fr : List (Nat × AV)} {hp : Hp} {nt : Nat} {fx : List Nat}
theorem mk_ok {d : Nat} {cs : List AV} (x : AV) (h1 : d < nt) (h2 : d ∉ fx) (h3 : freeOf d cs = true) : mk ⟨fr, hp, nt, fx⟩ d cs x = some ⟨(d, x) :: turn (killX d) fr, hset d cs (turn (List.map (killC d)) hp), nt, fx⟩ := by
  rw [mk_eq x h1 h2 h3]; rfl
theorem evAlloc_def (st : St) (d : Nat) (t : TypeId) : evAlloc P st d t = (zT P t).bind fun z => mk st d (z.map .v) (.pt d 0) := rfl
theorem evBox_def (st : St) (d : Nat) (x : AV) : evBox P st d x = (cellsA x).bind fun cs => mk st d cs (.pt d 0) := rfl
def stoX (P : Program) (st : St) (t : TypeId) (k off : Nat) (cs xs : List AV) : Option St := if szT P t = some xs.length ∧ xs.all okC = true ∧ off + xs.length ≤ cs.length then some (st.store k (setR cs off xs)) else none
theorem evStore_def (st : St) (t : TypeId) (k off : Nat) (x : AV) : evStore P st t (.pt k off) x = (look st.hp k).bind fun cs => (cellsA x).bind fun xs => stoX P st t k off cs xs := rfl
theorem stoX_ok {t : TypeId} {k off : Nat} {cs xs : List AV} (h1 : szT P t = some xs.length) (h2 : xs.all okC = true) (h3 : off + xs.length ≤ cs.length) : stoX P ⟨fr, hp, nt, fx⟩ t k off cs xs = some ⟨fr, hset k (setR cs off xs) hp, nt, fx⟩ := by
  unfold stoX
  rw [if_pos ⟨h1, h2, h3⟩]
  rfl
def litX (st : St) (d : Nat) (len sz : Nat) (o : Option (List AV)) : Option St := if len * sz ≤ 16777216 then o.bind fun cs => mk st d cs (.os d 0 sz len) else none
theorem evLit_def (st : St) (d : Nat) (t : TypeId) (len : Nat) (parts : List (Nat × Option AV)) : evLit P st d t len parts = (elT P t).bind fun e => litX st d len e.2.1 (aFill (litPl e.2.1 0 len) (List.replicate (len * e.2.1) .un) parts) := rfl
theorem litX_ok {st : St} {d len sz : Nat} (cs : List AV) (h : len * sz ≤ 16777216) : litX st d len sz (some cs) = mk st d cs (.os d 0 sz len) := by simp [litX, h]
theorem litPl_zero (sz i : Nat) : litPl sz i 0 = [] := rfl
theorem litPl_succ (sz i n : Nat) : litPl sz i (n + 1) = (i * sz, sz) :: litPl sz (i + 1) n := rfl
def filX (pl : List (Nat × Nat)) (cells xs : List AV) (p : Nat × Nat) (r : List (Nat × Option AV)) : Option (List AV) := if xs.length = p.2 ∧ p.1 + p.2 ≤ cells.length then aFill pl (setR cells p.1 xs) r else none
theorem aFill_def (pl : List (Nat × Nat)) (cells : List AV) (i : Nat) (x : Option AV) (r : List (Nat × Option AV)) : aFill pl cells ((i, x) :: r) = (pl[i]?).bind fun p => (x.bind cellsA).bind fun xs => filX pl cells xs p r := by
  simp only [aFill, filX]
  cases pl[i]? <;> cases (x.bind cellsA) <;> rfl
theorem filX_ok {pl : List (Nat × Nat)} {cells xs : List AV} {p : Nat × Nat} {r : List (Nat × Option AV)} (h1 : xs.length = p.2) (h2 : p.1 + p.2 ≤ cells.length) : filX pl cells xs p r = aFill pl (setR cells p.1 xs) r := by simp [filX, h1, h2]
theorem qBuild_def (t : TypeId) (parts : List (Nat × Option AV)) : qBuild P t parts = (bldT P t).bind fun b => (aFill b.2 (b.1.map .v) parts).map .ag := rfl
def slX (o : Option (List AV)) (off sz n : Nat) : Option (Nat × List AV) := o.bind fun cs => if off + n * sz ≤ cs.length then some (n, (cs.drop off).take (n * sz)) else none
theorem sliceC_os_def (k off sz n : Nat) : sliceC hp (.os k off sz n) = slX (look hp k) off sz n := rfl
theorem slX_ok {cs : List AV} {off sz n : Nat} (h : off + n * sz ≤ cs.length) : slX (some cs) off sz n = some (n, (cs.drop off).take (n * sz)) := by simp [slX, h]
theorem srcC_rd {sz : Nat} {tx : TypeId} (n : Nat) (cs : List AV) (h : isSlT P tx = true) : srcC P hp sz tx (.rd n cs) = some (n, cs) := by simp [srcC, h, sliceC]
theorem srcC_os {sz : Nat} {tx : TypeId} (k o s n : Nat) (h : isSlT P tx = true) : srcC P hp sz tx (.os k o s n) = slX (look hp k) o s n := by simp [srcC, h, sliceC, slX]
theorem srcC_nil {sz : Nat} {tx : TypeId} (h : isSlT P tx = true) : srcC P hp sz tx (.v (.slice none 0 0)) = some (0, []) := by simp [srcC, h, sliceC]
theorem srcC_str {tx : TypeId} (l : List UInt8) (h : P.underlying tx = some .string) : srcC P hp 1 tx (.v (.string (str l))) = some (l.length, bytesA l) := by simp [srcC, h, str_size]; simp [str]
def appX (st : St) (d k : Nat) (sz n m bytes : Nat) (c0 xs : List AV) : Option St :=
  if xs.length = m * sz ∧ xs.all okC = true ∧ (n + m) * bytes ≤ 140737488355328 ∧ n + m ≤ 9223372036854775807 ∧ d < st.nt ∧ k ∉ st.fx ∧ freeOf k (c0 ++ xs) = true then some ((st.fresh k (c0 ++ xs)).put (some d) (.os k 0 sz (n + m))) else none
theorem appX_ok {d k sz n m bytes : Nat} {c0 xs : List AV} (h1 : xs.length = m * sz) (h2 : xs.all okC = true) (h3 : (n + m) * bytes ≤ 140737488355328) (h4 : n + m ≤ 9223372036854775807) (h5 : d < nt) (h6 : k ∉ fx) (h7 : freeOf k (c0 ++ xs) = true) :
    appX ⟨fr, hp, nt, fx⟩ d k sz n m bytes c0 xs = some ⟨(d, .os k 0 sz (n + m)) :: turn (killX k) fr, hset k (c0 ++ xs) (turn (List.map (killC k)) hp), nt, fx⟩ := by
  unfold appX
  rw [if_pos ⟨h1, h2, h3, h4, h5, h6, h7⟩]
  rfl
def cutX (e : TypeId × Nat × Nat) (off sz n : Nat) (cs : List AV) : Option (List AV) := if sz = e.2.1 ∧ off + n * sz ≤ cs.length then some ((cs.drop off).take (n * sz)) else none
theorem cutX_ok {e : TypeId × Nat × Nat} {off sz n : Nat} {cs : List AV} (h1 : sz = e.2.1) (h2 : off + n * sz ≤ cs.length) : cutX e off sz n cs = some ((cs.drop off).take (n * sz)) := by simp only [cutX, h1]; rw [if_pos ⟨trivial, by rw [← h1]; exact h2⟩]
theorem evAppend_os (st : St) (d : Nat) (t tx : TypeId) (k off sz n : Nat) (x : AV) : evAppend P st d t tx (.os k off sz n) x = (elT P t).bind fun e => (srcC P st.hp e.2.1 tx x).bind fun q => (look st.hp k).bind fun cs => (cutX e off sz n cs).bind fun c0 => appX st d k sz n q.1 e.2.2 c0 q.2 := by
  simp only [evAppend]
  cases he : elT P t with
  | none => rfl
  | some e =>
    simp only [Option.bind_some]
    cases hq : srcC P st.hp e.2.1 tx x with
    | none => rfl
    | some q =>
      simp only [Option.bind_some]
      cases hk : look st.hp k with
      | none => rfl
      | some cs =>
        simp only [Option.bind_some, cutX, appX]
        by_cases h : sz = e.2.1 ∧ off + n * sz ≤ cs.length
        · rw [if_pos h]
          obtain ⟨h1, h2⟩ := h
          subst h1
          simp only [Option.bind_some, h2, true_and]
        · rw [if_neg h, if_neg (fun h' => h ⟨h'.1, h'.2.1⟩)]
          rfl
theorem evAppend_nil (st : St) (d : Nat) (t tx : TypeId) (x : AV) : evAppend P st d t tx (.v (.slice none 0 0)) x = (elT P t).bind fun e => (srcC P st.hp e.2.1 tx x).bind fun q => appX st d d e.2.1 0 q.1 e.2.2 [] q.2 := by
  simp only [evAppend]
  cases he : elT P t with
  | none => rfl
  | some e =>
    simp only [Option.bind_some]
    cases hq : srcC P st.hp e.2.1 tx x with
    | none => rfl
    | some q => simp only [Option.bind_some, appX, Nat.zero_add, List.nil_append]
def mkX (st : St) (d : Nat) (l : Int) (e : TypeId × Nat × Nat) (z : Option (List Value)) : Option St :=
  match z with
  | some [z] => if 0 ≤ l ∧ e.2.2 * l ≤ 281474976710656 ∧ l ≤ 9223372036854775807 ∧ e.2.1 = 1 then mk st d (List.replicate l.toNat (.v z)) (.os d 0 1 l.toNat) else none
  | _ => none
theorem evMake_def (st : St) (d : Nat) (t : TypeId) (k k' : IntKind) (l : Int) : evMake P st d t (.v (.int k l)) (.v (.int k' l)) = (elT P t).bind fun e => mkX st d l e (zT P e.1) := by
  simp only [evMake, mkX]
  congr 1
  funext e
  rcases zT P e.1 with _ | (_ | ⟨z, _ | _⟩) <;> simp
/-- Slices of slices. -/
def qsX (sz : Nat) (x : AV) (l h m : Int) : Option AV :=
  match x with
  | .rd n cs => if 0 ≤ l ∧ l ≤ h ∧ h ≤ m ∧ m ≤ n then some (.rd (h.toNat - l.toNat) ((cs.drop (l.toNat * sz)).take ((h.toNat - l.toNat) * sz))) else none
  | .os k off s n => if s = sz ∧ 0 ≤ l ∧ l ≤ h ∧ h ≤ m ∧ m ≤ n then some (.os k (off + l.toNat * s) s (h.toNat - l.toNat)) else none
  | _ => none
theorem qSlice_lh (t : TypeId) (x : AV) (k k' : IntKind) (l h : Int) : qSlice P t x (some (.v (.int k l))) (some (.v (.int k' h))) none = (lenA x).bind fun n => (elT P t).bind fun e => qsX e.2.1 x l h n := by
  unfold qSlice
  cases lenA x with
  | none => rfl
  | some n => cases x <;> cases he : elT P t <;> simp [ib, qSl, qsX, he]
theorem qSlice_l (t : TypeId) (x : AV) (k : IntKind) (l : Int) : qSlice P t x (some (.v (.int k l))) none none = (lenA x).bind fun n => (elT P t).bind fun e => qsX e.2.1 x l n n := by
  unfold qSlice
  cases lenA x with
  | none => rfl
  | some n => cases x <;> cases he : elT P t <;> simp [ib, qSl, qsX, he]
theorem qSlice_h (t : TypeId) (x : AV) (k' : IntKind) (h : Int) : qSlice P t x none (some (.v (.int k' h))) none = (lenA x).bind fun n => (elT P t).bind fun e => qsX e.2.1 x 0 h n := by
  unfold qSlice
  cases lenA x with
  | none => rfl
  | some n => cases x <;> cases he : elT P t <;> simp [ib, qSl, qsX, he]
theorem qSlice_lhm (t : TypeId) (x : AV) (k k' k'' : IntKind) (l h m : Int) : qSlice P t x (some (.v (.int k l))) (some (.v (.int k' h))) (some (.v (.int k'' m))) = (lenA x).bind fun n => (elT P t).bind fun e => qsX e.2.1 x l h m := by
  unfold qSlice
  cases lenA x with
  | none => rfl
  | some n => cases x <;> cases he : elT P t <;> simp [ib, qSl, qsX, he]
theorem lenA_rd (n : Nat) (cs : List AV) : lenA (.rd n cs) = some n := rfl
theorem lenA_os (k o s n : Nat) : lenA (.os k o s n) = some n := rfl
theorem qsX_rd {sz n : Nat} {cs : List AV} {l h m : Int} (h0 : 0 ≤ l) (h1 : l ≤ h) (h2 : h ≤ m) (h3 : m ≤ n) : qsX sz (.rd n cs) l h m = some (.rd (h.toNat - l.toNat) ((cs.drop (l.toNat * sz)).take ((h.toNat - l.toNat) * sz))) := by simp [qsX, h0, h1, h2, h3]
theorem qsX_os {sz k off s n : Nat} {l h m : Int} (hs : s = sz) (h0 : 0 ≤ l) (h1 : l ≤ h) (h2 : h ≤ m) (h3 : m ≤ n) : qsX sz (.os k off s n) l h m = some (.os k (off + l.toNat * s) s (h.toNat - l.toNat)) := by simp [qsX, hs, h0, h1, h2, h3]
/-- The address of an element. -/
def ixX (sz : Nat) (x : AV) (i : Int) : Option AV :=
  match x with
  | .rd n cs => if 0 ≤ i ∧ i < n then some (.rp (cs.drop (i.toNat * sz))) else none
  | .os k off s n => if s = sz ∧ 0 ≤ i ∧ i < n then some (.pt k (off + i.toNat * s)) else none
  | _ => none
theorem qIdx_rd_def (t : TypeId) (n : Nat) (cs : List AV) (i : Int) : qIdx P t (.rd n cs) i = (elT P t).bind fun e => ixX e.2.1 (.rd n cs) i := rfl
theorem qIdx_os_def (t : TypeId) (k o s n : Nat) (i : Int) : qIdx P t (.os k o s n) i = (elT P t).bind fun e => ixX e.2.1 (.os k o s n) i := rfl
theorem ixX_rd {sz n : Nat} (cs : List AV) {i : Int} (h0 : 0 ≤ i) (h1 : i < n) : ixX sz (.rd n cs) i = some (.rp (cs.drop (i.toNat * sz))) := by simp [ixX, h0, h1]
theorem ixX_os {sz k off s n : Nat} {i : Int} (hs : s = sz) (h0 : 0 ≤ i) (h1 : i < n) : ixX sz (.os k off s n) i = some (.pt k (off + i.toNat * s)) := by simp [ixX, h0, h1, hs]
def arX (n sz k off : Nat) (i : Int) : Option AV := if 0 ≤ i ∧ i < n then some (.pt k (off + i.toNat * sz)) else none
theorem qIdx_pt_def (t : TypeId) (k o : Nat) (i : Int) : qIdx P t (.pt k o) i = (arT P t).bind fun e => arX e.1 e.2.2 k o i := rfl
def arXv (n sz b off : Nat) (i : Int) : Option AV := if 0 ≤ i ∧ i < n then some (.v (.pointer (some ⟨b, off + i.toNat * sz, none⟩))) else none
theorem qIdx_vp_def (t : TypeId) (b o : Nat) (i : Int) : qIdx P t (.v (.pointer (some ⟨b, o, none⟩))) i = (arT P t).bind fun e => arXv e.1 e.2.2 b o i := rfl
theorem arXv_ok {n sz b off : Nat} {i : Int} (h0 : 0 ≤ i) (h1 : i < n) : arXv n sz b off i = some (.v (.pointer (some ⟨b, off + i.toNat * sz, none⟩))) := by simp [arXv, h0, h1]
theorem arX_ok {n sz k off : Nat} {i : Int} (h0 : 0 ≤ i) (h1 : i < n) : arX n sz k off i = some (.pt k (off + i.toNat * sz)) := by simp [arX, h0, h1]
/-- The variable at the beginning of cells. -/
def vrX (r : Option Bool) (n : Option Nat) (cs : List AV) : Option AV :=
  match r with
  | some false => cs[0]?
  | some true => match n with
    | some n => if n ≤ cs.length then some (.ag (cs.take n)) else none
    | none => none
  | none => none
theorem qCells_def (t : TypeId) (cs : List AV) : qCells P t cs = vrX (rowT P t) (szT P t) cs := rfl
theorem vrX_one (n : Option Nat) (cs : List AV) : vrX (some false) n cs = cs[0]? := rfl
theorem vrX_row {n : Nat} {cs : List AV} (h : n ≤ cs.length) : vrX (some true) (some n) cs = some (.ag (cs.take n)) := by simp [vrX, h]
def bsX (b : Bool) (q : Option (Nat × List AV)) : Option AV := if b = true then q.bind fun q => (unB q.2).bind fun l => if l.length = q.1 then some (.v (.string (str l))) else none else none
theorem qConv_rd (s d : TypeId) (n : Nat) (cs : List AV) : qConv P hp s d (.rd n cs) = bsX (bsT P s d) (sliceC hp (.rd n cs)) := rfl
theorem qConv_os (s d : TypeId) (k o z n : Nat) : qConv P hp s d (.os k o z n) = bsX (bsT P s d) (sliceC hp (.os k o z n)) := rfl
theorem qConv_nil (s d : TypeId) : qConv P hp s d (.v (.slice none 0 0)) = bsX (bsT P s d) (sliceC hp (.v (.slice none 0 0))) := rfl
theorem bsX_ok (n : Nat) (cs : List AV) : bsX true (some (n, cs)) = (unB cs).bind fun l => if l.length = n then some (.v (.string (str l))) else none := rfl
theorem unB_one {n : Int} (r : List AV) (h0 : 0 ≤ n) (h1 : n < 256) : unB (.v (.int .u8 n) :: r) = (unB r).map (UInt8.ofNat n.toNat :: ·) := by simp [unB, h0, h1]
theorem unB_nil : unB [] = some [] := rfl
theorem cnv_str {s d : TypeId} (x : ByteArray) (hs : P.underlying s = some .string) (hd : P.underlying d = some .string) : cnv P s d (.string x) = some (.string x) := by
  simp only [cnv, convert, pr_bind, pr_underlying hs, pr_underlying hd, Option.bind_some]
  rfl
theorem roX_os {keep : List Nat} {k off sz n : Nat} : roC hp keep (.os k off sz n) = if k ∈ keep then some (.os k off sz n) else (slX (look hp k) off sz n).bind fun q => if q.2.all dataC = true then some (.rd q.1 q.2) else none := rfl
def rpX (cs : List AV) (off : Nat) : Option AV := if (cs.drop off).all dataC = true ∧ off < cs.length then some (.rp (cs.drop off)) else none
theorem roX_pt {keep : List Nat} {k off : Nat} : roC hp keep (.pt k off) = if k ∈ keep then some (.pt k off) else (look hp k).bind fun cs => rpX cs off := rfl
theorem rpX_ok {cs : List AV} {off : Nat} (h1 : (cs.drop off).all dataC = true) (h2 : off < cs.length) : rpX cs off = some (.rp (cs.drop off)) := by unfold rpX; rw [if_pos ⟨h1, h2⟩]
theorem dataC_v (x : Value) : dataC (.v x) = true := rfl
theorem dataC_rd (n : Nat) (cs : List AV) : dataC (.rd n cs) = true := rfl
end
attribute [go_sem] mentM_v mentM_un mentM_rd mentM_rp mentM_os mentM_pt mentM_ag mentM_tp partM_v partM_rd partM_os partM_pt partM_ag cellM_v cellM_un cellM_rd cellM_rp cellM_os cellM_pt okC_v okC_rd okC_os okC_pt one_int one_bool one_string one_slice dataC_v dataC_rd freeOf_nil freeOf_cons freeOf_append freeOf_map_v
attribute [go_sem] killX_def killC_def turn_nil turn_cons hset_nil hset_cons mk_ok evAlloc_def evBox_def evStore_def stoX_ok evLit_def litX_ok litPl_zero litPl_succ aFill_def filX_ok qBuild_def sliceC_os_def slX_ok srcC_rd srcC_os srcC_nil srcC_str appX_ok cutX_ok evAppend_os evAppend_nil evMake_def qSlice_lh qSlice_l qSlice_h qSlice_lhm lenA_rd lenA_os qsX_rd qsX_os qIdx_rd_def qIdx_os_def ixX_rd ixX_os qIdx_pt_def arX_ok qIdx_vp_def arXv_ok qLoad_vp qFld_vp opv_global qCells_def vrX_one vrX_row qConv_rd qConv_os qConv_nil bsX_ok unB_one unB_nil cnv_str roX_os roX_pt rpX_ok sliceC_rd sliceC_nil
end Go.Proofs.YtogmppcfopgkdaaGreatDoor
