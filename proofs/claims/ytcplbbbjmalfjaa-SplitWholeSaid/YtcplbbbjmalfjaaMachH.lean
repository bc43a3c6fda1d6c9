/- The abstract machine, part 8: append; all operations but calls. No program is named here. -/
import Derived.Test.YtcplbbbjmalfjaaMachG
namespace Go.Proofs.Ytcplbbbjmalfjaa
open Go.RowKit
set_option linter.unusedVariables false
set_option linter.unusedSimpArgs false
section
variable {P : Program} {E : Env} {ρ : Nat → Loc} {st st' : St} {a : Act} {w : World}
/-- An append to a slice that reads as us: what is known of it was cs0. -/
theorem append_core (h : SR E ρ st a w) {o : Oper} {d k : Nat} {t tx : TypeId} {e : TypeId × Nat × Nat} {s x : Operand} {A : Option Addr} {n c m : Nat} {us news : List Value} {cs0 xs : List AV} (he : elT P t = some e)
    (hd : o.dst = some d) (ho : o.op = .call { callee := .builtin .append, args := #[s, x], argTypes := #[t, tx] }) (hs : a.eval s = .slice A n c) (hown : Owns w 0 e.2.1 A n c us)
    (hA : ∀ b, own A c = some b → blockOf ρ st.hp k b) (hsrc : Src P e.2.1 tx (a.eval x) m news w)
    (h0 : ∀ (j : Nat) (y : AV) (u : Value), cs0[j]? = some y → us[j]? = some u → Rep w (avd E.bad ρ st.hp) ρ y u) (h0l : cs0.length = n * e.2.1)
    (h1 : ∀ (j : Nat) (y : AV) (u : Value), xs[j]? = some y → news[j]? = some u → Rep w (avd E.bad ρ st.hp) ρ y u) (h1l : xs.length = m * e.2.1)
    (h63 : n + m ≤ 9223372036854775807) (hbytes : (n + m) * e.2.2 ≤ 140737488355328) (hdn : d < st.nt) (hfx : k ∉ st.fx) (hfree : freeOf k (cs0 ++ xs) = true) :
    StepTo P E a o ((st.fresh k (cs0 ++ xs)).put (some d) (.os k 0 e.2.1 (n + m))) w := by
  obtain ⟨hu, hsz, hpos, T⟩ := elT_run he
  obtain ⟨A', c', w', hr, hown', hg, hwhere⟩ := run_append_owns (ty := o.type) T hown hsrc h63 hbytes (Nat.zero_le _)
  have hlen : (cs0 ++ xs).length = (n + m) * e.2.1 := by rw [List.length_append, h0l, h1l, Nat.add_mul]
  have key : ∃ L : Loc, (0 < c' → A' = some ⟨L.g, L.off, none⟩ ∧ L.cap = c' * e.2.1) ∧ (c' = 0 → L.cap = 0) := by
    rcases Nat.eq_zero_or_pos c' with rfl | hc
    · exact ⟨⟨0, 0, 0⟩, fun h => absurd h (by omega), fun _ => rfl⟩
    · obtain ⟨g, off, e1, _⟩ := hown'.2.2.2 hc
      exact ⟨⟨g, off, c' * e.2.1⟩, fun _ => ⟨e1, rfl⟩, fun h => absurd h (by omega)⟩
  obtain ⟨L, hL1, hL0⟩ := key
  have hcap : L.cap = c' * e.2.1 := by
    rcases Nat.eq_zero_or_pos c' with rfl | hc
    · rw [hL0 rfl, Nat.zero_mul]
    · exact (hL1 hc).2
  have hcpos : 0 < L.cap → 0 < c' := fun hp => Nat.pos_of_ne_zero fun hz => by have := hL0 hz; omega
  have hnm : n + m ≤ c' := hown'.1
  have hmul : (n + m) * e.2.1 ≤ c' * e.2.1 := Nat.mul_le_mul_right _ hnm
  have hS := h.fresh (w' := w') k hfx L (cs0 ++ xs) hg.os hg.tape hg.output hg.size (fun b hb hn => hg.block b hb (fun e => hn (hA b e.symm))) (fun hp => by
      have hc := hcpos hp
      have e1 := (hL1 hc).1
      have hoA : own A' c' = some L.g := by rw [e1]; exact own_pos hc
      rcases hwhere with hw | hw
      · exact .inl (hA _ (by rw [← hw]; exact hoA))
      · rw [hoA] at hw; injection hw with hw; exact .inr (by omega)) (by rw [hlen, hcap]; exact hmul) (fun hp => by
      have hc := hcpos hp
      obtain ⟨g, off, e1, _, hlt, hth, _⟩ := hown'.2.2.2 hc
      have e2 := (hL1 hc).1
      rw [e2] at e1
      injection e1 with e1
      injection e1 with e3 e4
      subst e3; subst e4
      exact ⟨hlt, fun j hj => hth j (by rw [← hcap]; exact hj)⟩) (fun j y hj => by
      have hjl : j < (cs0 ++ xs).length := (List.getElem?_eq_some_iff.1 hj).1
      have hc : 0 < c' := Nat.pos_of_ne_zero fun hz => by rw [hz, Nat.zero_mul] at hmul; omega
      obtain ⟨g, off, e1, _, hlt, hth, hcell⟩ := hown'.2.2.2 hc
      have e2 := (hL1 hc).1
      rw [e2] at e1
      injection e1 with e1
      injection e1 with e3 e4
      subst e3; subst e4
      have hul : us.length = cs0.length := by rw [hown.2.2.1, h0l]
      by_cases hj0 : j < cs0.length
      · have hju : j < us.length := by omega
        refine ⟨us[j], hcell j _ (by rw [List.getElem?_append_left hju, List.getElem?_eq_getElem hju]), h0 j y us[j] (by rwa [List.getElem?_append_left hj0] at hj) (List.getElem?_eq_getElem hju)⟩
      · rw [List.getElem?_append_right (by omega)] at hj
        have hjx : j - cs0.length < xs.length := (List.getElem?_eq_some_iff.1 hj).1
        have hjn : j - cs0.length < news.length := by rw [hsrc.newsLen, ← h1l]; exact hjx
        refine ⟨news[j - cs0.length], hcell j _ (by rw [List.getElem?_append_right (by omega), hul, List.getElem?_eq_getElem hjn]), h1 _ y _ hj (List.getElem?_eq_getElem hjn)⟩) (freeOf_spec hfree)
  refine ⟨w', .slice A' (n + m) c', .inl ?_, ?_, fun hds => by rw [ho] at hds; cases hds⟩
  · unfold execOp
    simp only [ho, resolve, invoke, builtin, Sem.run_bind, Sem.run_pure, Result.andThen_ok, List.map_toArray, List.map_cons, List.map_nil, hs, hr]
  · rw [hd]
    refine ⟨_, hS.put (some d) (fun t e => by injection e with e; subst e; exact hdn) ?_⟩
    refine .os hpos hown'.1 hown'.2.1 (fun hc => ?_)
    rw [rset_same]
    exact ⟨(hL1 hc).1, by rw [hcap]; omega⟩

theorem evAppend_sound (h : SR E ρ st a w) {o : Oper} {d : Nat} {t tx : TypeId} {s x : Operand} {ys yx : AV} (hd : o.dst = some d) (ho : o.op = .call { callee := .builtin .append, args := #[s, x], argTypes := #[t, tx] })
    (hs : opv st s = some ys) (hx : opv st x = some yx) (hq : evAppend P st d t tx ys yx = some st') : StepTo P E a o st' w := by
  simp only [evAppend, Option.bind_eq_some_iff] at hq
  obtain ⟨e, he, ⟨m, xs⟩, hsc, hq⟩ := hq
  have hobj := h.hr.obj
  split at hq
  · next k off sz n =>
    simp only [Option.bind_eq_some_iff] at hq
    obtain ⟨cs, hk, hq⟩ := hq
    split at hq
    · next hc =>
      obtain ⟨rfl, c1, c2, c3, c4, c5, c6, c8, c7⟩ := hc
      injection hq with hq
      subst hq
      try simp only at c2 c3 c4 c5 c7
      obtain ⟨news, hsrc, hrs⟩ := srcC_sound hobj (opv_sound h hx) hsc c2 c3
      obtain ⟨A, c, ev, q0, q1, q2, qm⟩ := (opv_sound h hs).os_inv
      have hob := hobj k cs hk
      obtain ⟨us, u1, u2, u3⟩ := obj_vals hob c1
      have hcap : 0 < c → 0 < (ρ k).cap := fun hc => by
        have := (qm hc).2
        have : 0 < c * e.2.1 := Nat.mul_pos hc q0
        omega
      refine append_core (k := k) (us := us) (news := news) (cs0 := (cs.drop off).take (n * e.2.1)) (xs := xs) h he hd ho ev ⟨q1, q2, u1, fun hc => ?_⟩ (fun b hb => ?_) hsrc u3 (by rw [List.length_take, List.length_drop]; omega) hrs c2 c5 c4 c6 c8 c7
      · obtain ⟨rfl, q4⟩ := qm hc
        refine ⟨_, _, rfl, Nat.zero_le _, (hob.mem (hcap hc)).1, fun j hj => ?_, u2⟩
        rw [Nat.add_assoc]
        exact (hob.mem (hcap hc)).2 _ (by omega)
      · rcases Nat.eq_zero_or_pos c with rfl | hc
        · simp [own] at hb
        · obtain ⟨rfl, q4⟩ := qm hc
          rw [own_pos hc] at hb
          injection hb with hb
          exact ⟨cs, hk, hcap hc, hb⟩
    · cases hq
  · split at hq
    · next hc =>
      obtain ⟨c2, c3, c4, c5, c6, c8, c7⟩ := hc
      injection hq with hq
      subst hq
      try simp only at c2 c3 c4 c5 c7
      obtain ⟨news, hsrc, hrs⟩ := srcC_sound hobj (opv_sound h hx) hsc c2 c3
      have ev := Rep.v_eq (opv_sound h hs)
      have := append_core (k := d) (us := []) (news := news) (cs0 := []) (xs := xs) h he hd ho ev (Owns.nil w 0 _) (fun b hb => by simp [own] at hb) hsrc (fun j y u hj => by simp at hj) (by simp) hrs c2 (by omega) (by rw [Nat.zero_add]; exact c4) c6 c8 c7
      simpa using this
    · cases hq
  · cases hq

/-- All operations but calls of functions. -/
def ev (P : Program) (st : St) (o : Oper) : Option St :=
  match o.dst, o.op with
  | some d, .alloc t => evAlloc P st d t
  | some d, .box _ x => (opv st x).bind (evBox P st d)
  | none, .store t p x => (opv st p).bind fun p => (opv st x).bind (evStore P st t p)
  | some d, .buildSlice t n parts => evLit P st d t n (parts.toList.map fun p => (p.1, opv st p.2))
  | some d, .makeSlice t l c => (opv st l).bind fun l => (opv st c).bind (evMake P st d t l)
  | some d, .call ⟨.builtin .append, ⟨[s, x]⟩, ⟨[t, tx]⟩⟩ => (opv st s).bind fun s => (opv st x).bind (evAppend P st d t tx s)
  | some d, op => if d < st.nt then (qv P st op o.type).map fun x => st.put (some d) x else none
  | none, op => (qv P st op o.type).map fun _ => st
theorem ev_sound (h : SR E ρ st a w) {o : Oper} (hq : ev P st o = some st') : StepTo P E a o st' w := by
  unfold ev at hq
  split at hq
  · next d t h1 h2 => exact evAlloc_sound h h1 h2 hq
  · next d t x h1 h2 =>
    rw [Option.bind_eq_some_iff] at hq
    obtain ⟨y, hy, hq⟩ := hq
    exact evBox_sound h h1 h2 hy hq
  · next t p x h1 h2 =>
    simp only [Option.bind_eq_some_iff] at hq
    obtain ⟨yp, hp, yx, hx, hq⟩ := hq
    exact evStore_sound h h1 h2 hp hx hq
  · next d t n parts h1 h2 => exact evLit_sound h h1 h2 hq
  · next d t l c h1 h2 =>
    simp only [Option.bind_eq_some_iff] at hq
    obtain ⟨yp, hp, yx, hx, hq⟩ := hq
    exact evMake_sound h h1 h2 hp hx hq
  · next d s x t tx h1 h2 =>
    simp only [Option.bind_eq_some_iff] at hq
    obtain ⟨yp, hp, yx, hx, hq⟩ := hq
    exact evAppend_sound h h1 h2 hp hx hq
  · have h1 := ‹o.dst = some _›
    split at hq
    · next hd =>
      rw [Option.map_eq_some_iff] at hq
      obtain ⟨x, hx, rfl⟩ := hq
      obtain ⟨v, hv, hr⟩ := qv_sound h hx
      refine ⟨w, v, .inl (hv w (fun _ => Ext.refl w)), ⟨ρ, ?_⟩, fun _ => Below.refl _ _⟩
      rw [h1]
      exact h.put (some _) (fun t e => by injection e with e; subst e; exact hd) hr
    · cases hq
  · have h1 := ‹o.dst = none›
    rw [Option.map_eq_some_iff] at hq
    obtain ⟨x, hx, rfl⟩ := hq
    obtain ⟨v, hv, hr⟩ := qv_sound h hx
    refine ⟨w, v, .inl (hv w (fun _ => Ext.refl w)), ⟨ρ, ?_⟩, fun _ => Below.refl _ _⟩
    rw [h1]
    exact h
end
end Go.Proofs.Ytcplbbbjmalfjaa
