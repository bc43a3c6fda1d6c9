/- The abstract machine, part 17: further evaluation lemmas. No program is named here. -/
import Derived.Test.YtcplbbbjmalfjaaMachP
namespace Go.Proofs.Ytcplbbbjmalfjaa
open Go.RowKit
set_option linter.unusedVariables false
set_option linter.unusedSimpArgs false
section
variable {P : Program} {t : TypeId} {x y : Operand}
theorem bin_seql0 (a : List UInt8) : bin P .eql t x y (.string (str a)) (.string (str [])) = some (.bool (decide (a.length = 0))) := by
  rw [bin_seql]; congr 2; rw [decide_eq_decide]; exact List.length_eq_zero_iff.symm
theorem bin_sneq0 (a : List UInt8) : bin P .neq t x y (.string (str a)) (.string (str [])) = some (.bool (decide (0 < a.length))) := by
  rw [bin_sneq, ← decide_not]; congr 2; rw [decide_eq_decide]; exact List.length_pos_iff.symm
end
theorem toNat_subk {m : Nat} {k : Int} (h : 0 ≤ k) : ((m : Int) - k).toNat = m - k.toNat := by omega
theorem toNat_addk {m : Nat} {k : Int} (h : 0 ≤ k) : ((m : Int) + k).toNat = m + k.toNat := by omega
attribute [go_sem] toNat_subk toNat_addk
attribute [go_sem high] bin_seql0 bin_sneq0
section
variable {P : Program} {Q : Exit → St → Prop}
/-- Less may be said at the end. -/
def wk (Q : Exit → St → Prop) : Exit → St → Prop := fun e st => ∃ st', (∀ E a w, S E st a w → S E st' a w) ∧ Q e st'
theorem wk_id {e : Exit} {st : St} (h : Q e st) : wk Q e st := ⟨st, fun _ _ _ h => h, h⟩
theorem wk_to {e : Exit} {st : St} (st' : St) (hs : ∀ E a w, S E st a w → S E st' a w) (h : wk Q e st') : wk Q e st := by
  obtain ⟨s2, h1, h2⟩ := h
  exact ⟨s2, fun E a w hS => h1 E a w (hs E a w hS), h2⟩
theorem aw_wk {c : Code} {st : St} (h : aw P c st (wk Q)) : aw P c st Q := fun E a w hS => by
  refine Code.wp_mono ?_ (h E a w hS)
  rintro e a' w' ⟨st1, h1, st2, h2, h3⟩
  exact ⟨st2, h2 E a' w' h1, h3⟩
theorem NP_wk {Q : Exit → St → Prop} (h : NP Q) : NP (wk Q) := fun c st ⟨st', _, h'⟩ => h c st' h'
theorem S_nilrd {E : Env} {a : Act} {w : World} {fr : List (Nat × AV)} {hp : Hp} {nt : Nat} {fx : List Nat} (t : Nat) (ht : look fr t = some (.v (.slice none 0 0))) (hS : S E ⟨fr, hp, nt, fx⟩ a w) : S E ⟨(t, .rd 0 []) :: fr, hp, nt, fx⟩ a w := by
  obtain ⟨ρ, hS⟩ := hS
  refine ⟨ρ, fun t' x hx => ?_, hS.hr, hS.own, hS.keep, hS.bad, hS.nb, hS.size, hS.defers, hS.fx⟩
  rw [look_cons] at hx
  split at hx
  · next e =>
    subst e
    injection hx with hx
    subst hx
    rw [Rep.v_eq (hS.fr t _ ht)]
    exact .im (.rd (fun _ => undef) (Nat.le_refl _) (by omega) (fun _ => rfl) (fun h => absurd h (by omega)) (fun j a hj => by simp at hj))
  · exact hS.fr t' x hx
/-- An own object gets another name; all else is forgotten. -/
theorem S_ren {E : Env} {a : Act} {w : World} {fr : List (Nat × AV)} {hp : Hp} {nt : Nat} (t i k off sz n : Nat) (cs : List AV) (ht : look fr t = some (.os i off sz n)) (hi : look hp i = some cs) (hcs : cs.all dataC = true) (hS : S E ⟨fr, hp, nt, []⟩ a w) :
    S E ⟨[(t, .os k off sz n)], [(k, cs)], nt, []⟩ a w := by
  obtain ⟨ρ, hS⟩ := hS
  have own1 : ∀ b, ownB (fun _ => ρ i) [(k, cs)] b → ownB ρ hp b := by
    rintro b ⟨k', cs', h1, h2, h3⟩
    exact ⟨i, cs, hi, h2, h3⟩
  refine ⟨fun _ => ρ i, fun t' x hx => ?_, ⟨fun k' cs' h1 => ?_, fun k1 k2 cs1 cs2 h1 h2 hne => ?_⟩, fun b hb => hS.own b (own1 b hb), hS.keep, hS.bad, fun b hb => hS.nb b (own1 b hb), hS.size, hS.defers, fun k' hk => by cases hk⟩
  · rw [look_cons] at hx
    split at hx
    · next e =>
      subst e
      injection hx with hx
      subst hx
      have := hS.fr t _ ht
      generalize a.tmps.getD t undef = v at this
      cases this with
      | im h => cases h
      | os h0 h1 h2 h => exact .os h0 h1 h2 h
    · simp [look] at hx
  · rw [look_cons] at h1
    split at h1
    · injection h1 with h1
      subst h1
      refine (hS.hr.obj i cs hi).tr (Nat.le_refl _) (fun _ => rfl) (fun _ _ _ _ => rfl) (fun b _ hb => hb.imp id (own1 b)) (fun k' hk x hx => ?_)
      have := List.all_eq_true.1 hcs x hx
      cases x <;> simp_all [dataC, mentM, partM, cellM]
    · simp [look] at h1
  · simp only [look_cons, look_nil] at h1 h2
    split at h1 <;> split at h2 <;> simp_all
end
section
variable {P : Program} {Q : Exit → St → Prop} {st : St} {ops : Array Oper} {rest : List Oper} {o : Oper}
theorem slice_of {w : World} {av : Nat → Prop} {ρ : Nat → Loc} {x : AV} {n : Nat} {v : Value} (h : Rep w av ρ x v) (hl : (match x with | .rd n _ => some n | .os _ _ _ n => some n | _ => none) = some n) : ∃ A c, v = .slice A n c ∧ (A = none → n = 0) := by
  cases x with
  | rd m cs =>
    simp only [Option.some.injEq] at hl
    subst hl
    cases h with
    | im h =>
      cases h with
      | @rd _ c _ A u h1 h2 h0 hm hr =>
        refine ⟨A, c, rfl, fun e => ?_⟩
        rcases Nat.eq_zero_or_pos m with h | h
        · exact h
        · obtain ⟨b, off, rfl, _⟩ := hm h
          cases e
  | os k off sz m =>
    simp only [Option.some.injEq] at hl
    subst hl
    cases h with
    | im h => cases h
    | @os _ _ _ _ c A h0 h1 h2 h =>
      refine ⟨A, c, rfl, fun e => ?_⟩
      rcases Nat.eq_zero_or_pos c with h' | h'
      · omega
      · obtain ⟨rfl, _⟩ := h h'
        cases e
  | _ => simp at hl
def slN : AV → Option Nat
  | .rd n _ => some n
  | .os _ _ _ n => some n
  | _ => none
theorem slN_rd (n : Nat) (cs : List AV) : slN (.rd n cs) = some n := rfl
theorem slN_os (k o s n : Nat) : slN (.os k o s n) = some n := rfl
theorem isSl_spec {t : TypeId} (h : isSlT P t = true) : ∃ e, P.underlying t = some (.slice e) := by
  unfold isSlT at h
  split at h
  · next e he => exact ⟨e, he⟩
  · cases h
/-- Compared with nil: what it says is not known, but a nil slice has no elements. -/
theorem awO_eqnil {t u : TypeId} {x : Operand} {y : AV} {n d : Nat} (hg : o.guard = none) (ho : o.op = .binOp .eql t x (.const (.slice none 0 0)) u) (hx : opv st x = some y) (hn : slN y = some n) (ht : isSlT P t = true) (hd : o.dst = some d) (hdn : d < st.nt)
    (h : ∀ b : Bool, (b = true → n = 0) → awO P ops rest (st.put (some d) (.v (.bool b))) Q) : awO P ops (o :: rest) st Q := fun E a w ⟨ρ, hS⟩ => by
  refine wpList_plain hg fun K hK => ?_
  obtain ⟨e, ht⟩ := isSl_spec ht
  obtain ⟨A, c, hv, h0⟩ := slice_of (opv_sound hS hx) (n := n) (by cases y <;> simp_all [slN])
  unfold Oper.wp
  rw [show (execOp a.eval o).run P w = .ok (.value (.bool A.isNone)) w from ?_]
  · refine hK _ _ (h A.isNone (fun e => h0 (by simpa using e)) E _ w ⟨ρ, ?_⟩)
    rw [hd]
    exact hS.put (some d) (fun t e => by injection e with e; subst e; exact hdn) (.im (.v _))
  · have e1 : a.eval (.const (.slice none 0 0)) = .slice none 0 0 := rfl
    have := Lib.run_eql_slice_nil (P := P) w t e A n c 0 0 ht
    simp only [execOp, ho, hv, e1, eqGuard]
    simp [this]
theorem awO_neqnil {t u : TypeId} {x : Operand} {y : AV} {n d : Nat} (hg : o.guard = none) (ho : o.op = .binOp .neq t x (.const (.slice none 0 0)) u) (hx : opv st x = some y) (hn : slN y = some n) (ht : isSlT P t = true) (hd : o.dst = some d) (hdn : d < st.nt)
    (h : ∀ b : Bool, (b = false → n = 0) → awO P ops rest (st.put (some d) (.v (.bool b))) Q) : awO P ops (o :: rest) st Q := fun E a w ⟨ρ, hS⟩ => by
  refine wpList_plain hg fun K hK => ?_
  obtain ⟨e, ht⟩ := isSl_spec ht
  obtain ⟨A, c, hv, h0⟩ := slice_of (opv_sound hS hx) (n := n) (by cases y <;> simp_all [slN])
  unfold Oper.wp
  rw [show (execOp a.eval o).run P w = .ok (.value (.bool !A.isNone)) w from ?_]
  · refine hK _ _ (h (!A.isNone) (fun e => h0 (by simpa using e)) E _ w ⟨ρ, ?_⟩)
    rw [hd]
    exact hS.put (some d) (fun t e => by injection e with e; subst e; exact hdn) (.im (.v _))
  · have e1 : a.eval (.const (.slice none 0 0)) = .slice none 0 0 := rfl
    have := Lib.run_equalIn_slice_nil (P := P) w 9999 t e A n c 0 0 ht
    simp only [execOp, ho, hv, e1, eqGuard, binOp]
    simp [Op.equal, Op.maxDepth, this]
/-! ### Results with own objects -/
theorem retQ_mk1 {rs : List ResultVar} {r r' : AV} {ys : List AV} {e : Exit} {k : Nat} {cs cs' c0 : List AV} {keep fix : List Nat} (he : e = .normal ∨ e = .ret) (h1 : resL P st rs = some ys) (h2 : roA st.hp keep (one ys) = some r') (h5 : look st.hp k = some c0) (h6 : roCs st.hp keep c0 = some cs') (h3 : r' = r) (h7 : cs' = cs) (hk : k ∈ keep) (h4 : st.fx = fix) : retQ P rs r [(k, cs)] keep fix e st := by
  subst h3; subst h7
  refine ⟨he, ⟨ys, h1, h2⟩, fun p hp => ?_, h4⟩
  rw [List.mem_singleton] at hp
  subst hp
  exact ⟨hk, c0, h5, h6⟩
theorem retQ_mk2 {rs : List ResultVar} {r r' : AV} {ys : List AV} {e : Exit} {k j : Nat} {cs cs' c0 ds ds' d0 : List AV} {keep fix : List Nat} (he : e = .normal ∨ e = .ret) (h1 : resL P st rs = some ys) (h2 : roA st.hp keep (one ys) = some r') (h5 : look st.hp k = some c0) (h6 : roCs st.hp keep c0 = some cs') (h8 : look st.hp j = some d0) (h9 : roCs st.hp keep d0 = some ds') (h3 : r' = r) (h7 : cs' = cs) (h10 : ds' = ds) (hk : k ∈ keep) (hj : j ∈ keep) (h4 : st.fx = fix) : retQ P rs r [(k, cs), (j, ds)] keep fix e st := by
  subst h3; subst h7; subst h10
  refine ⟨he, ⟨ys, h1, h2⟩, fun p hp => ?_, h4⟩
  simp only [List.mem_cons, List.not_mem_nil, or_false] at hp
  rcases hp with rfl | rfl
  · exact ⟨hk, c0, h5, h6⟩
  · exact ⟨hj, d0, h8, h9⟩
theorem roCs_data {hp : Hp} {keep : List Nat} {cs : List AV} (h : cs.all dataC = true) : roCs hp keep cs = some cs := by
  induction cs with
  | nil => rfl
  | cons x r ih =>
    rw [List.all_cons, Bool.and_eq_true] at h
    rw [roCs_cons, ih h.2]
    cases x <;> simp_all [dataC, roC]
/-! ### Lists that are maps -/
theorem drop_map {α : Type} {f : α → AV} {L : List α} {k : Nat} : List.drop k (List.map f L) = List.map f (List.drop k L) := List.map_drop.symm
theorem take_map {α : Type} {f : α → AV} {L : List α} {k : Nat} : List.take k (List.map f L) = List.map f (List.take k L) := List.map_take.symm
theorem map_drop0 {α : Type} {f : α → AV} {L : List α} {k : Nat} (h : k < L.length) : (List.map f (List.drop k L))[0]? = some (f L[k]) := by simp [h]
theorem map_at {α : Type} {f : α → AV} {L : List α} {k : Nat} (h : k < L.length) : (List.map f L)[k]? = some (f L[k]) := by simp [h]
theorem all_map {α : Type} {f : α → AV} {p : AV → Bool} {L : List α} : (List.map f L).all p = L.all (fun x => p (f x)) := by simp [Function.comp_def]
theorem all_true {α : Type} {L : List α} : L.all (fun _ => true) = true := by simp
theorem freeOf_map {α : Type} {f : α → AV} {k : Nat} {L : List α} : freeOf k (List.map f L) = L.all (fun x => !mentM k (f x)) := by simp [freeOf, Function.comp_def]
theorem freeOf_data {k : Nat} {cs : List AV} (h : cs.all dataC = true) : freeOf k cs = true := by
  unfold freeOf
  refine List.all_eq_true.2 fun x hx => ?_
  have := List.all_eq_true.1 h x hx
  cases x <;> simp_all [dataC, cellM, mentM, partM]
theorem map_killC {k : Nat} {cs : List AV} (h : cs.all dataC = true) : cs.map (killC k) = cs := by
  have : ∀ x ∈ cs, killC k x = x := fun x hx => by
    have := List.all_eq_true.1 h x hx
    cases x <;> simp_all [dataC, cellM, killC]
  exact (List.map_congr_left this).trans (List.map_id' cs)
theorem take_all {l : List AV} {k : Nat} (h : l.length ≤ k) : l.take k = l := List.take_of_length_le h
end
attribute [go_sem] slN_rd slN_os roCs_nil roCs_cons roCs_data drop_map take_map map_at all_map all_true List.all_append freeOf_append freeOf_map map_killC take_all
/-! ### Behind a call that changes objects -/
theorem after_def (fr : List (Nat × AV)) (hp : Hp) (nt : Nat) (fx : List Nat) (d : Nat) (r : AV) (h h' : Hp) (fix : List Nat) : St.after ⟨fr, hp, nt, fx⟩ d r h h' fix = ⟨(d, r) :: turn (killsX ((keysH h ++ keysH h').filter fun k => !fix.contains k)) fr, h' ++ cuts (keysH h ++ keysH h') hp, nt, fx⟩ := rfl
theorem killsX_def (ks : List Nat) (x : AV) : killsX ks x = if ks.any (fun k => mentM k x) = true then .un else x := rfl
theorem killsC_def (ks : List Nat) (x : AV) : killsC ks x = if ks.any (fun k => cellM k x) = true then .un else x := rfl
theorem cuts_nil (ks : List Nat) : cuts ks [] = [] := rfl
theorem cuts_cons (ks : List Nat) (i : Nat) (x : List AV) (r : Hp) : cuts ks ((i, x) :: r) = if ks.contains i = true then cuts ks r else (i, x.map (killsC ks)) :: cuts ks r := rfl
theorem okR_v (ks : List Nat) (x : Value) : okR ks (.v x) = true := rfl
theorem okR_un (ks : List Nat) : okR ks .un = true := rfl
theorem okR_rd (ks : List Nat) (n : Nat) (cs : List AV) : okR ks (.rd n cs) = true := rfl
theorem okR_rp (ks : List Nat) (cs : List AV) : okR ks (.rp cs) = true := rfl
theorem okR_os (ks : List Nat) (k o s n : Nat) : okR ks (.os k o s n) = ks.contains k := rfl
theorem okR_pt (ks : List Nat) (k o : Nat) : okR ks (.pt k o) = ks.contains k := rfl
theorem okR_ag (ks : List Nat) (cs : List AV) : okR ks (.ag cs) = cs.all (okRC ks) := rfl
theorem okR_tp (ks : List Nat) (cs : List AV) : okR ks (.tp cs) = cs.all (okRP ks) := rfl
theorem okRP_v (ks : List Nat) (x : Value) : okRP ks (.v x) = true := rfl
theorem okRP_un (ks : List Nat) : okRP ks .un = true := rfl
theorem okRP_rd (ks : List Nat) (n : Nat) (cs : List AV) : okRP ks (.rd n cs) = true := rfl
theorem okRP_os (ks : List Nat) (k o s n : Nat) : okRP ks (.os k o s n) = ks.contains k := rfl
theorem okRP_pt (ks : List Nat) (k o : Nat) : okRP ks (.pt k o) = ks.contains k := rfl
theorem okRP_ag (ks : List Nat) (cs : List AV) : okRP ks (.ag cs) = cs.all (okRC ks) := rfl
theorem okRC_v (ks : List Nat) (x : Value) : okRC ks (.v x) = true := rfl
theorem okRC_un (ks : List Nat) : okRC ks .un = true := rfl
theorem okRC_rd (ks : List Nat) (n : Nat) (cs : List AV) : okRC ks (.rd n cs) = true := rfl
theorem okRC_os (ks : List Nat) (k o s n : Nat) : okRC ks (.os k o s n) = ks.contains k := rfl
theorem okRC_pt (ks : List Nat) (k o : Nat) : okRC ks (.pt k o) = ks.contains k := rfl
theorem map_killsC {ks : List Nat} {cs : List AV} (h : cs.all dataC = true) : cs.map (killsC ks) = cs := by
  have : ∀ x ∈ cs, killsC ks x = x := fun x hx => by
    have := List.all_eq_true.1 h x hx
    cases x <;> simp_all [dataC, cellM, killsC]
  exact (List.map_congr_left this).trans (List.map_id' cs)
attribute [go_sem] after_def killsX_def killsC_def cuts_nil cuts_cons okR_v okR_un okR_rd okR_rp okR_os okR_pt okR_ag okR_tp okRP_v okRP_un okRP_rd okRP_os okRP_pt okRP_ag okRC_v okRC_un okRC_rd okRC_os okRC_pt map_killsC keysH_nil keysH_cons subL_nil subL_cons List.contains_cons List.contains_nil List.filter_cons List.filter_nil List.all_cons List.all_nil
theorem unB_u8 (b : UInt8) (r : List AV) : unB (.v (.int .u8 b.toNat) :: r) = (unB r).map (b :: ·) := by
  rw [unB_one r (by omega) (by have := b.toNat_lt; omega)]
  simp
attribute [go_sem high] unB_u8
attribute [go_sem high] map_drop0
/-! ### Slots are forgotten -/
def without {α : Type} (l : List Nat) : List (Nat × α) → List (Nat × α)
  | [] => []
  | (i, x) :: r => if l.contains i = true then without l r else (i, x) :: without l r
theorem without_nil {α : Type} (l : List Nat) : without l ([] : List (Nat × α)) = [] := rfl
theorem without_cons {α : Type} (l : List Nat) (i : Nat) (x : α) (r : List (Nat × α)) : without l ((i, x) :: r) = if l.contains i = true then without l r else (i, x) :: without l r := rfl
theorem look_without {α : Type} (l : List Nat) (r : List (Nat × α)) (k : Nat) (x : α) (h : look (without l r) k = some x) : look r k = some x := by
  have nf : ∀ (r : List (Nat × α)), l.contains k = true → look (without l r) k = none := fun r hk => by
    induction r with
    | nil => rfl
    | cons p r ih =>
      obtain ⟨i, y⟩ := p
      rw [without_cons]
      split
      · exact ih
      · next hi =>
        rw [look_cons, if_neg (fun e => by subst e; exact hi hk)]
        exact ih
  induction r with
  | nil => exact h
  | cons p r ih =>
    obtain ⟨i, y⟩ := p
    rw [without_cons] at h
    split at h
    · next hi =>
      by_cases e : i = k
      · subst e; rw [nf r hi] at h; cases h
      · rw [look_cons, if_neg e]; exact ih h
    · rw [look_cons] at h ⊢
      split
      · next e => rw [if_pos e] at h; exact h
      · next e => rw [if_neg e] at h; exact ih h
theorem aw_forget {P : Program} {Q : Exit → St → Prop} {c : Code} {fr : List (Nat × AV)} {hp : Hp} {nt : Nat} {fx : List Nat} (l : List Nat) (h : aw P c ⟨without l fr, hp, nt, fx⟩ Q) : aw P c ⟨fr, hp, nt, fx⟩ Q :=
  aw_weak (fun E a w ⟨ρ, hS⟩ => ⟨ρ, fun t x hx => hS.fr t x (look_without l fr t x hx), hS.hr, hS.own, hS.keep, hS.bad, hS.nb, hS.size, hS.defers, hS.fx⟩) h
attribute [go_sem] without_nil without_cons
end Go.Proofs.Ytcplbbbjmalfjaa
