/- The abstract machine, part 12: rules in the form in which a walk uses them. No program is named here. -/
import Derived.Test.YtcplbbbjmalfjaaMachK
namespace Go.Proofs.Ytcplbbbjmalfjaa
open Go.RowKit
set_option linter.unusedVariables false
set_option linter.unusedSimpArgs false
section
variable {P : Program} {st st' : St} {Q : Exit → St → Prop} {ops : Array Oper} {rest : List Oper} {o : Oper}
theorem aw_cond_true {c : Operand} {x y : Code} (hc : opv st c = some (.v (.bool true))) (h : aw P x st Q) : aw P (.cond c x y) st Q := aw_cond hc (fun _ => h) (fun h => by cases h)
theorem aw_cond_false {c : Operand} {x y : Code} (hc : opv st c = some (.v (.bool false))) (h : aw P y st Q) : aw P (.cond c x y) st Q := aw_cond hc (fun h => by cases h) (fun _ => h)
theorem awO_y {fr : List (Nat × AV)} {hp : Hp} {nt : Nat} {fx : List Nat} {j t : Nat} {b : Bool} (hg : o.guard = some (j, b)) (hj : (ops[j]?).bind (·.dst) = some t) (ht : t < nt) (hc : look fr t = some (.v (.bool b))) (h : ev P ⟨fr, hp, nt, fx⟩ o = some st') (hr : awO P ops rest st' Q) : awO P ops (o :: rest) ⟨fr, hp, nt, fx⟩ Q := awO_yes hg hj ht hc h hr
theorem awO_n {fr : List (Nat × AV)} {hp : Hp} {nt : Nat} {fx : List Nat} {j t d : Nat} {b c : Bool} (hg : o.guard = some (j, b)) (hj : (ops[j]?).bind (·.dst) = some t) (ht : t < nt) (hc : look fr t = some (.v (.bool c))) (hne : (c == b) = false) (hd : o.dst = some d) (hdn : d < nt) (hr : awO P ops rest ⟨(d, .v undef) :: fr, hp, nt, fx⟩ Q) :
    awO P ops (o :: rest) ⟨fr, hp, nt, fx⟩ Q := awO_no hg hj ht hc hne (fun e he => by rw [hd] at he; injection he with he; subst he; exact hdn) (by rw [hd]; exact hr)
theorem awO_u {fr : List (Nat × AV)} {hp : Hp} {nt : Nat} {fx : List Nat} {j t d : Nat} {b : Bool} (hg : o.guard = some (j, b)) (hj : (ops[j]?).bind (·.dst) = some t) (hc : look fr t = some (.v undef)) (hd : o.dst = some d) (hdn : d < nt) (hr : awO P ops rest ⟨(d, .v undef) :: fr, hp, nt, fx⟩ Q) :
    awO P ops (o :: rest) ⟨fr, hp, nt, fx⟩ Q := awO_undef hg hj hc (fun e he => by rw [hd] at he; injection he with he; subst he; exact hdn) (by rw [hd]; exact hr)
/-- A guard whose bool is not known: two ways. -/
theorem awO_guard {fr : List (Nat × AV)} {hp : Hp} {nt : Nat} {fx : List Nat} {j t : Nat} {b c : Bool} (hg : o.guard = some (j, b)) (hj : (ops[j]?).bind (·.dst) = some t) (hc : look fr t = some (.v (.bool c))) (h1 : c = b → awO P ops (o :: rest) ⟨(t, .v (.bool b)) :: fr, hp, nt, fx⟩ Q) (h2 : c = !b → awO P ops (o :: rest) ⟨(t, .v (.bool !b)) :: fr, hp, nt, fx⟩ Q) :
    awO P ops (o :: rest) ⟨fr, hp, nt, fx⟩ Q := by
  cases b with
  | true => exact awO_split (st := ⟨fr, hp, nt, fx⟩) hc (fun e => h1 e) (fun e => h2 e)
  | false => exact awO_split (st := ⟨fr, hp, nt, fx⟩) hc (fun e => h2 e) (fun e => h1 e)
/-! ### Calls -/
theorem awO_c {fr : List (Nat × AV)} {hp : Hp} {nt : Nat} {fx : List Nat} {d : Nat} {f : FuncId} {args : List Operand} {ts : Array TypeId} {ys : List AV} {r : AV} (hg : o.guard = none) (ho : o.op = .call ⟨.value (.func f), args.toArray, ts⟩) (ha : argsA ⟨fr, hp, nt, fx⟩ args = some ys) (hc : Ab P f ys r) (hi : ys.all immA = true) (hr : immA r = true)
    (hd : o.dst = some d) (hdn : d < nt) (h : awO P ops rest ⟨(d, r) :: fr, hp, nt, fx⟩ Q) : awO P ops (o :: rest) ⟨fr, hp, nt, fx⟩ Q :=
  awO_call hg ho ha hc hi hr (fun e he => by rw [hd] at he; injection he with he; subst he; exact hdn) (by rw [hd]; exact h)
theorem awO_f {fr : List (Nat × AV)} {hp : Hp} {nt : Nat} {fx : List Nat} {d : Nat} {f : FuncId} {args : List Operand} {ts : Array TypeId} {ys zs : List AV} {r : AV} (hg : o.guard = none) (ho : o.op = .call ⟨.value (.func f), args.toArray, ts⟩) (ha : argsA ⟨fr, hp, nt, fx⟩ args = some ys) (hz : roPs hp [] ys = some zs) (hc : Ab P f zs r) (hr : flatA r = true)
    (hd : o.dst = some d) (hdn : d < nt) (h : awO P ops rest ⟨(d, r) :: fr, hp, nt, fx⟩ Q) : awO P ops (o :: rest) ⟨fr, hp, nt, fx⟩ Q :=
  awO_callF hg ho ha hz hc hr (fun e he => by rw [hd] at he; injection he with he; subst he; exact hdn) (by rw [hd]; exact h)
/-! ### Loops -/
/-- The temporaries that a piece of code writes. -/
def dstsO : List Oper → List Nat
  | [] => []
  | o :: r => match o.dst with
    | some d => d :: dstsO r
    | none => dstsO r
def dsts : Code → List Nat
  | .region _ ops _ => dstsO ops.toList
  | .seq a b => dsts a ++ dsts b
  | .cond _ a b => dsts a ++ dsts b
  | .block _ a => dsts a
  | .loop a => dsts a
  | _ => []
/-- What is known of the temporaries but these. -/
def cutL (ws : List Nat) : List (Nat × AV) → List (Nat × AV)
  | [] => []
  | (i, x) :: r => if ws.contains i = true then cutL ws r else (i, x) :: cutL (i :: ws) r
theorem cutL_nil (ws : List Nat) : cutL ws [] = [] := rfl
theorem cutL_cons (ws : List Nat) (i : Nat) (x : AV) (r : List (Nat × AV)) : cutL ws ((i, x) :: r) = if ws.contains i = true then cutL ws r else (i, x) :: cutL (i :: ws) r := rfl
def subL {α : Type} : List (Nat × α) → List (Nat × α) → Prop
  | [], _ => True
  | (i, x) :: r, l => look l i = some x ∧ subL r l
theorem subL_nil {α : Type} (l : List (Nat × α)) : subL [] l = True := rfl
theorem subL_cons {α : Type} (i : Nat) (x : α) (r l : List (Nat × α)) : subL ((i, x) :: r) l = (look l i = some x ∧ subL r l) := rfl
theorem subL_spec {α : Type} : ∀ {r l : List (Nat × α)}, subL r l → ∀ p ∈ r, look l p.1 = some p.2
  | [], _, _, p, hp => by cases hp
  | (i, x) :: r, l, h, p, hp => by
    rcases List.mem_cons.1 hp with rfl | hp
    · exact h.1
    · exact subL_spec h.2 p hp
theorem cutL_spec : ∀ (l : List (Nat × AV)) (ws : List Nat) (p : Nat × AV), p ∈ cutL ws l → p.1 ∉ ws ∧ look l p.1 = some p.2
  | [], ws, p, h => by cases h
  | (i, x) :: r, ws, p, h => by
    rw [cutL_cons] at h
    split at h
    · next hc =>
      obtain ⟨h1, h2⟩ := cutL_spec r ws p h
      refine ⟨h1, ?_⟩
      rw [look_cons, if_neg]
      · exact h2
      · intro e
        rw [e] at hc
        exact h1 (by simpa using hc)
    · next hc =>
      rcases List.mem_cons.1 h with rfl | h
      · exact ⟨by simpa using hc, by rw [look_cons, if_pos rfl]⟩
      · obtain ⟨h1, h2⟩ := cutL_spec r (i :: ws) p h
        refine ⟨fun e => h1 (List.mem_cons_of_mem _ e), ?_⟩
        rw [look_cons, if_neg (fun e => h1 (by rw [e]; exact List.mem_cons_self ..))]
        exact h2
/-- What a round hands on. -/
def LE {α : Type} (I : α → Prop) (μ : α → Nat) (vs : α → List (Nat × AV)) (keep : List (Nat × AV)) (hs : α → Hp) (nt : Nat) (fx : List Nat) (x : α) : St → Prop := fun st' =>
  ∃ y, I y ∧ μ y < μ x ∧ subL (vs y) st'.fr ∧ subL keep st'.fr ∧ subL (hs y) st'.hp ∧ nt = st'.nt ∧ fx = st'.fx
theorem LE_mk {α : Type} {I : α → Prop} {μ : α → Nat} {vs : α → List (Nat × AV)} {keep : List (Nat × AV)} {hs : α → Hp} {nt : Nat} {fx : List Nat} {x : α} {fr' : List (Nat × AV)} {hp' : Hp} (y : α) (h1 : I y) (h2 : μ y < μ x) (h3 : subL (vs y) fr') (h4 : subL keep fr') (h5 : subL (hs y) hp') :
    LE I μ vs keep hs nt fx x ⟨fr', hp', nt, fx⟩ := ⟨y, h1, h2, h3, h4, h5, rfl, rfl⟩
/-- A loop: the temporaries vs and the objects hs go with the round; the temporaries that the round doesn't write stay. -/
theorem aw_loopF {α : Type} {c : Code} {fr : List (Nat × AV)} {hp : Hp} {nt : Nat} {fx : List Nat} (vs : α → List (Nat × AV)) (hs : α → Hp) (I : α → Prop) (μ : α → Nat) (x0 : α) (h0 : I x0) (h1 : subL (vs x0) fr) (h2 : subL (hs x0) hp)
    (round : ∀ x, I x → aw P c ⟨vs x ++ cutL (dsts c) fr, hs x, nt, fx⟩ (thenQ (LE I μ vs (cutL (dsts c) fr) hs nt fx x) Q)) : aw P (.loop c) ⟨fr, hp, nt, fx⟩ Q :=
  aw_loop (fun x => ⟨vs x ++ cutL (dsts c) fr, hs x, nt, fx⟩) I μ x0 h0 ⟨fun p hp => by
      rcases List.mem_append.1 hp with h | h
      · exact subL_spec h1 p h
      · exact (cutL_spec _ _ p h).2, subL_spec h2, rfl, rfl⟩ fun x hx E a w hS => wp_mono (round x hx E a w hS) fun e a' w' ⟨st', hs', hq⟩ => by
    cases e with
    | normal =>
      obtain ⟨y, q1, q2, q3, q4, q5, q6, q7⟩ := hq
      refine ⟨st', hs', y, q1, q2, ⟨fun p hp => ?_, subL_spec q5, q6, q7⟩⟩
      rcases List.mem_append.1 hp with h | h
      · exact subL_spec q3 p h
      · exact subL_spec q4 p h
    | _ => exact ⟨st', hs', hq⟩
theorem retQ_mk {rs : List ResultVar} {r r' : AV} {ys : List AV} {e : Exit} (he : e = .normal ∨ e = .ret) (h1 : resL P st rs = some ys) (h2 : roA st.hp [] (one ys) = some r') (h3 : r' = r) (h4 : st.fx = []) : retQ P rs r [] [] [] e st :=
  ⟨he, ⟨ys, h1, by rw [h2, h3]⟩, fun p hp => (by cases hp), h4⟩
theorem one_one (x : AV) : one [x] = x := rfl
theorem one_two (x y : AV) (r : List AV) : one (x :: y :: r) = .tp (x :: y :: r) := rfl
theorem roA_v (hp : Hp) (keep : List Nat) (x : Value) : roA hp keep (.v x) = some (.v x) := rfl
theorem roA_rd (hp : Hp) (keep : List Nat) (n : Nat) (cs : List AV) : roA hp keep (.rd n cs) = some (.rd n cs) := rfl
theorem roA_os (hp : Hp) (keep : List Nat) (k o s n : Nat) : roA hp keep (.os k o s n) = roC hp keep (.os k o s n) := rfl
theorem roA_ag (hp : Hp) (keep : List Nat) (cs : List AV) : roA hp keep (.ag cs) = (roCs hp keep cs).map .ag := rfl
theorem roA_tp (hp : Hp) (keep : List Nat) (vs : List AV) : roA hp keep (.tp vs) = (roPs hp keep vs).map .tp := rfl
theorem roP_v (hp : Hp) (keep : List Nat) (x : Value) : roP hp keep (.v x) = some (.v x) := rfl
theorem roP_rd (hp : Hp) (keep : List Nat) (n : Nat) (cs : List AV) : roP hp keep (.rd n cs) = some (.rd n cs) := rfl
theorem roP_rp (hp : Hp) (keep : List Nat) (cs : List AV) : roP hp keep (.rp cs) = some (.rp cs) := rfl
theorem roP_os (hp : Hp) (keep : List Nat) (k o s n : Nat) : roP hp keep (.os k o s n) = roC hp keep (.os k o s n) := rfl
theorem roP_pt (hp : Hp) (keep : List Nat) (k o : Nat) : roP hp keep (.pt k o) = roC hp keep (.pt k o) := rfl
theorem roP_ag (hp : Hp) (keep : List Nat) (cs : List AV) : roP hp keep (.ag cs) = (roCs hp keep cs).map .ag := rfl
end
attribute [go_sem] one_one one_two roA_v roA_rd roA_os roA_ag roA_tp roP_v roP_rd roP_rp roP_os roP_pt roP_ag
theorem dstsO_nil : dstsO [] = [] := rfl
theorem dstsO_some (d : Nat) (op : Op) (t : TypeId) (p : String) (a : Array Edge) (g : Option (Nat × Bool)) (r : List Oper) : dstsO (⟨some d, op, t, p, a, g⟩ :: r) = d :: dstsO r := rfl
theorem dstsO_none (op : Op) (t : TypeId) (p : String) (a : Array Edge) (g : Option (Nat × Bool)) (r : List Oper) : dstsO (⟨none, op, t, p, a, g⟩ :: r) = dstsO r := rfl
theorem dsts_region (i : Nat) (l : List Oper) (b : Bool) : dsts (.region i l.toArray b) = dstsO l := rfl
theorem dsts_seq (a b : Code) : dsts (.seq a b) = dsts a ++ dsts b := rfl
theorem dsts_cond (c : Operand) (a b : Code) : dsts (.cond c a b) = dsts a ++ dsts b := rfl
theorem dsts_block (i : Nat) (a : Code) : dsts (.block i a) = dsts a := rfl
theorem dsts_loop (a : Code) : dsts (.loop a) = dsts a := rfl
theorem dsts_skip : dsts .skip = [] := rfl
theorem dsts_exit (i : Nat) : dsts (.exit i) = [] := rfl
theorem dsts_ret : dsts .ret = [] := rfl
set_option linter.defProp false in
def LP := And.intro @dstsO_nil <| And.intro @dstsO_some <| And.intro @dstsO_none <| And.intro @dsts_region <| And.intro @dsts_seq <| And.intro @dsts_cond <| And.intro @dsts_block <| And.intro @dsts_loop <| And.intro @dsts_skip <| And.intro @dsts_exit <| And.intro @dsts_ret <| And.intro @cutL_nil <| And.intro @cutL_cons <| And.intro @subL_nil <| And.intro @subL_cons <| trivial
set_option linter.defProp false in
def CT := And.intro @thenQ_normal <| And.intro @thenQ_exit <| And.intro @thenQ_ret <| And.intro @blkQ_normal <| And.intro @blkQ_exit <| And.intro @blkQ_ret <| trivial
end Go.Proofs.Ytcplbbbjmalfjaa
