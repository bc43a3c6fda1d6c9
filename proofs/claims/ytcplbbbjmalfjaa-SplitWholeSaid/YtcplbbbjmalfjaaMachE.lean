/- The abstract machine, part 5: the quiet operations in one. No program is named here. -/
import Derived.Test.YtcplbbbjmalfjaaMachD
namespace Go.Proofs.Ytcplbbbjmalfjaa
open Go.RowKit
set_option linter.unusedVariables false
set_option linter.unusedSimpArgs false

def bin (P : Program) (op : BinOp) (t : TypeId) (x y : Operand) (a b : Value) : Option Value := pr P (do eqGuard op t x y a b; binOp op t a b)
def una (P : Program) (op : UnOp) (a : Value) : Option Value := pr P (Op.unary op a)
def idx (P : Program) (t : TypeId) (a b : Value) : Option Value := pr P (Instr.index t a b)
def sli (P : Program) (t : TypeId) (a : Value) (l h m : Option Value) : Option Value := pr P (Instr.sliceAt t a l h m)
def lenV (P : Program) (ts : Array TypeId) (t : TypeId) (a : Value) : Option Value := pr P (Builtin.len_ ts t #[a])
def minV (P : Program) (ts : Array TypeId) (t : TypeId) (a b : Value) : Option Value := pr P (Builtin.min_ ts t #[a, b])
def maxV (P : Program) (ts : Array TypeId) (t : TypeId) (a b : Value) : Option Value := pr P (Builtin.max_ ts t #[a, b])
/-- Whether a type is a slice type. -/
def isSlT (P : Program) (t : TypeId) : Bool := match P.underlying t with
  | some (.slice _) => true
  | _ => false

def gO (st : St) : Option Operand → Option (Option AV)
  | none => some none
  | some x => (opv st x).map some
def ovO : Option AV → Option (Option Value)
  | none => some none
  | some x => (val x).map some
def qSli (P : Program) (t : TypeId) (x : AV) (l h m : Option AV) : Option AV :=
  match x with
  | .v a => (ovO l).bind fun l => (ovO h).bind fun h => (ovO m).bind fun m => (sli P t a l h m).map cst
  | x => qSlice P t x l h m
def qLen (P : Program) (ts : Array TypeId) (t : TypeId) : AV → Option AV
  | .rd n _ => if (ts[0]?).any (isSlT P) then some (.v (.int .i64 n)) else none
  | .os _ _ _ n => if (ts[0]?).any (isSlT P) then some (.v (.int .i64 n)) else none
  | .v a => (lenV P ts t a).map cst
  | _ => none
def qIdxA (P : Program) (t : TypeId) (x i : AV) : Option AV :=
  match i with
  | .v (.int _ n) => qIdx P t x n
  | _ => none
def qExt (i : Nat) : AV → Option AV
  | .tp vs => vs[i]?
  | _ => none
def qNil : AV → Option AV
  | .pt k o => some (.pt k o)
  | .rp cs => some (.rp cs)
  | .fn f cs => some (.fn f cs)
  | _ => none
def opvs (st : St) : List Operand → Option (List AV)
  | [] => some []
  | x :: r => (opv st x).bind fun y => (opvs st r).map (y :: ·)
theorem opvs_nil (st : St) : opvs st [] = some [] := rfl
theorem opvs_cons (st : St) (x : Operand) (r : List Operand) : opvs st (x :: r) = (opv st x).bind fun y => (opvs st r).map (y :: ·) := rfl
def qPick (c : AV) (a b : Option AV) : Option AV :=
  match c with
  | .v (.bool true) => a
  | .v (.bool false) => b
  | _ => none

def qBui (P : Program) (st : St) (b : Builtin) (args : List Operand) (ts : Array TypeId) (ty : TypeId) : Option AV :=
  match b, args with
  | .len, [x] => (opv st x).bind (qLen P ts ty)
  | .min, [x, y] => ((opv st x).bind val).bind fun a => ((opv st y).bind val).bind fun b => (minV P ts ty a b).map cst
  | .max, [x, y] => ((opv st x).bind val).bind fun a => ((opv st y).bind val).bind fun b => (maxV P ts ty a b).map cst
  | _, _ => none
def qCall (P : Program) (st : St) (c : Call) (ty : TypeId) : Option AV :=
  match c.callee with
  | .builtin b => qBui P st b c.args.toList c.argTypes ty
  | _ => none
/-- What a quiet operation yields. -/
def qv (P : Program) (st : St) (o : Op) (ty : TypeId) : Option AV :=
  match o with
  | .move x => opv st x
  | .assign x => opv st x
  | .pick c a b => (opv st c).bind fun c => qPick c (opv st a) (opv st b)
  | .nilCheck x => (opv st x).bind qNil
  | .load t x => (opv st x).bind (qLoad P st.hp t)
  | .binOp op t x y _ => ((opv st x).bind val).bind fun a => ((opv st y).bind val).bind fun b => (bin P op t x y a b).map cst
  | .unOp op _ x => ((opv st x).bind val).bind fun a => (una P op a).map cst
  | .convert s d x => (opv st x).bind (qConv P st.hp s d)
  | .slice t x lo hi mx => (opv st x).bind fun y => (gO st lo).bind fun l => (gO st hi).bind fun h => (gO st mx).bind fun m => qSli P t y l h m
  | .fieldAddr s x f => (opv st x).bind (qFld P s f)
  | .field s x f => (opv st x).bind (qPart P s f)
  | .indexAddr t x i => (opv st x).bind fun y => (opv st i).bind (qIdxA P t y)
  | .index t x i => ((opv st x).bind val).bind fun a => ((opv st i).bind val).bind fun b => (idx P t a b).map cst
  | .extract x i => (opv st x).bind (qExt i)
  | .build t parts => qBuild P t (parts.toList.map fun p => (p.1, opv st p.2))
  | .call c => qCall P st c ty
  | .makeFunc (.func f) ⟨[]⟩ caps => (opvs st caps.toList).map (.fn f)
  | _ => none

/-- Operations that read memory. -/
def memO : Op → Bool
  | .load .. => true
  | .convert .. => true
  | _ => false
section
variable {P : Program} {E : Env} {ρ : Nat → Loc} {st : St} {a : Act} {w : World}
theorem gO_sound (h : SR E ρ st a w) {x : Option Operand} {y : Option AV} (hx : gO st x = some y) : (y = none → x.map a.eval = none) ∧ ∀ z, y = some z → ∃ u, x.map a.eval = some u ∧ Rep w (avd E.bad ρ st.hp) ρ z u := by
  cases x with
  | none => simp only [gO, Option.some.injEq] at hx; subst hx; exact ⟨fun _ => rfl, fun z e => by cases e⟩
  | some x =>
    simp only [gO, Option.map_eq_some_iff] at hx
    obtain ⟨z, hz, rfl⟩ := hx
    exact ⟨fun e => (by cases e), fun z' e => by injection e with e; subst e; exact ⟨_, rfl, opv_sound h hz⟩⟩
theorem ovO_sound {av : Nat → Prop} {y : Option AV} {u : Option Value} {v : Option Value} (h : ovO y = some v) (h1 : y = none → u = none) (h2 : ∀ z, y = some z → ∃ x, u = some x ∧ Rep w av ρ z x) : u = v := by
  cases y with
  | none => simp only [ovO, Option.some.injEq] at h; rw [← h, h1 rfl]
  | some z =>
    simp only [ovO, Option.map_eq_some_iff] at h
    obtain ⟨x, hx, rfl⟩ := h
    obtain ⟨x', rfl, hr⟩ := h2 z rfl
    rw [val_eq hr hx]
theorem run_len_sl {w : World} {t ty : TypeId} (h : isSlT P t = true) (A : Option Addr) (n c : Nat) (ts : Array TypeId) (ht : ts[0]? = some t) : (Builtin.len_ ts ty #[.slice A n c]).run P w = .ok (.int .i64 n) w := by
  unfold isSlT at h
  split at h
  · next e hu => simp [Builtin.len_, ht, run_underlying hu, goInt]
  · cases h

theorem opvs_spec : ∀ {l : List Operand} {ys : List AV}, opvs st l = some ys → ys.length = l.length ∧ ∀ (j : Nat) (x : Operand) (y : AV), l[j]? = some x → ys[j]? = some y → opv st x = some y
  | [], ys, h => by simp only [opvs, Option.some.injEq] at h; subst h; exact ⟨rfl, fun j x y hx => by simp at hx⟩
  | x :: r, ys, h => by
    simp only [opvs, Option.bind_eq_some_iff, Option.map_eq_some_iff] at h
    obtain ⟨y, hy, l, hl, rfl⟩ := h
    obtain ⟨h1, h2⟩ := opvs_spec hl
    refine ⟨by simp [h1], fun j a b ha hb => ?_⟩
    rcases j with _ | j
    · simp at ha hb; subst ha; subst hb; exact hy
    · simp at ha hb; exact h2 j a b ha hb
theorem qv_sound (h : SR E ρ st a w) {o : Oper} {y : AV} (hq : qv P st o.op o.type = some y) : ∃ v, (∀ w', (memO o.op = true → Ext w w') → (execOp a.eval o).run P w' = .ok (.value v) w') ∧ Rep w (avd E.bad ρ st.hp) ρ y v := by
  have hobj := h.hr.obj
  unfold execOp
  unfold qv at hq
  split at hq
  · next x e => simp only [e]; exact ⟨_, fun _ _ => rfl, opv_sound h hq⟩
  · next x e => simp only [e]; exact ⟨_, fun _ _ => rfl, opv_sound h hq⟩
  · next c x z e =>
    simp only [e]
    rw [Option.bind_eq_some_iff] at hq
    obtain ⟨cv, hc, hq⟩ := hq
    have hcr := opv_sound h hc
    unfold qPick at hq
    split at hq
    · rw [Rep.v_eq hcr]; exact ⟨_, fun _ _ => by simp [asBool], opv_sound h hq⟩
    · rw [Rep.v_eq hcr]; exact ⟨_, fun _ _ => by simp [asBool], opv_sound h hq⟩
    · cases hq
  · next x e =>
    simp only [e]
    rw [Option.bind_eq_some_iff] at hq
    obtain ⟨z, hz, hq⟩ := hq
    have hr := opv_sound h hz
    unfold qNil at hq
    split at hq
    · injection hq with hq
      subst hq
      have e2 := hr.pt_inv
      rw [e2] at hr ⊢
      exact ⟨_, fun _ _ => rfl, hr⟩
    · injection hq with hq
      subst hq
      obtain ⟨b, off, u, e2, _⟩ := hr.rp_inv
      rw [e2] at hr ⊢
      exact ⟨_, fun _ _ => rfl, hr⟩
    · injection hq with hq
      subst hq
      obtain ⟨us, e2, _⟩ := hr.fn_inv
      rw [e2] at hr ⊢
      exact ⟨_, fun _ _ => rfl, hr⟩
    · cases hq
  · next t x e =>
    simp only [e]
    rw [Option.bind_eq_some_iff] at hq
    obtain ⟨z, hz, hq⟩ := hq
    obtain ⟨u, hu, hr⟩ := qLoad_sound hobj (opv_sound h hz) hq
    exact ⟨u, fun w' hw => by simp [hu w' (hw rfl)], hr⟩
  · next op t x z t' e =>
    simp only [e]
    simp only [Option.bind_eq_some_iff, Option.map_eq_some_iff] at hq
    obtain ⟨va, ⟨xa, h1, h2⟩, vb, ⟨xb, h3, h4⟩, u, hu, rfl⟩ := hq
    rw [val_eq (opv_sound h h1) h2, val_eq (opv_sound h h3) h4]
    exact ⟨u, fun w' _ => by have := pr_run hu w'; simp only [Sem.run_bind] at this ⊢; rw [this]; rfl, cst_rep u⟩
  · next op t x e =>
    simp only [e]
    simp only [Option.bind_eq_some_iff, Option.map_eq_some_iff] at hq
    obtain ⟨va, ⟨xa, h1, h2⟩, u, hu, rfl⟩ := hq
    rw [val_eq (opv_sound h h1) h2]
    exact ⟨u, fun w' _ => by simp [pr_run hu w'], cst_rep u⟩
  · next s d x e =>
    simp only [e]
    rw [Option.bind_eq_some_iff] at hq
    obtain ⟨z, hz, hq⟩ := hq
    obtain ⟨u, hu, hr⟩ := qConv_sound hobj (opv_sound h hz) hq
    exact ⟨u, fun w' hw => by simp [hu w' (hw rfl)], hr⟩
  · next t x lo hi mx e =>
    simp only [e]
    simp only [Option.bind_eq_some_iff] at hq
    obtain ⟨z, hz, l, hl, hh, hhh, m, hm, hq⟩ := hq
    have gl := gO_sound h hl
    have gh := gO_sound h hhh
    have gm := gO_sound h hm
    have slow : qSlice P t z l hh m = some y → ∃ v, (∀ w', (do pure (Next.value (← Instr.sliceAt t (a.eval x) (lo.map a.eval) (hi.map a.eval) (mx.map a.eval))) : Sem Next).run P w' = .ok (.value v) w') ∧ Rep w (avd E.bad ρ st.hp) ρ y v := fun hq => by
      obtain ⟨u, hu, hr⟩ := qSlice_sound (opv_sound h hz) hq gl.1 gl.2 gh.1 gh.2 gm.1 gm.2
      exact ⟨u, fun w' => by simp [hu w'], hr⟩
    unfold qSli at hq
    split at hq
    · simp only [Option.bind_eq_some_iff, Option.map_eq_some_iff] at hq
      obtain ⟨l', hl', h', hh', m', hm', u, hu, rfl⟩ := hq
      rw [Rep.v_eq (opv_sound h hz), ovO_sound hl' gl.1 gl.2, ovO_sound hh' gh.1 gh.2, ovO_sound hm' gm.1 gm.2]
      exact ⟨u, fun w' _ => by simp [pr_run hu w'], cst_rep u⟩
    · obtain ⟨v, h1, h2⟩ := slow hq
      exact ⟨v, fun w' _ => h1 w', h2⟩
  · next s x f e =>
    simp only [e]
    rw [Option.bind_eq_some_iff] at hq
    obtain ⟨z, hz, hq⟩ := hq
    obtain ⟨u, hu, hr⟩ := qFld_sound (opv_sound h hz) hq
    exact ⟨u, fun w' _ => by simp [hu w'], hr⟩
  · next s x f e =>
    simp only [e]
    rw [Option.bind_eq_some_iff] at hq
    obtain ⟨z, hz, hq⟩ := hq
    obtain ⟨u, hu, hr⟩ := qPart_sound (opv_sound h hz) hq
    exact ⟨u, fun w' _ => by simp [hu w'], hr⟩
  · next t x i e =>
    simp only [e]
    simp only [Option.bind_eq_some_iff] at hq
    obtain ⟨z, hz, zi, hzi, hq⟩ := hq
    unfold qIdxA at hq
    split at hq
    · rw [Rep.v_eq (opv_sound h hzi)]
      obtain ⟨u, hu, hr⟩ := qIdx_sound (ik := ‹IntKind›) (opv_sound h hz) hq
      exact ⟨u, fun w' _ => by simp [hu w'], hr⟩
    · cases hq
  · next t x i e =>
    simp only [e]
    simp only [Option.bind_eq_some_iff, Option.map_eq_some_iff] at hq
    obtain ⟨va, ⟨xa, h1, h2⟩, vb, ⟨xb, h3, h4⟩, u, hu, rfl⟩ := hq
    rw [val_eq (opv_sound h h1) h2, val_eq (opv_sound h h3) h4]
    exact ⟨u, fun w' _ => by simp [pr_run hu w'], cst_rep u⟩
  · next x i e =>
    simp only [e]
    rw [Option.bind_eq_some_iff] at hq
    obtain ⟨z, hz, hq⟩ := hq
    unfold qExt at hq
    split at hq
    · obtain ⟨us, e2, hn, hr⟩ := (opv_sound h hz).tp_inv
      have hlt : i < us.size := by rw [hn]; exact (List.getElem?_eq_some_iff.1 hq).1
      rw [e2]
      exact ⟨us[i], fun _ _ => by simp [Instr.extract, hlt], hr i _ _ hq (by simp [hlt])⟩
    · cases hq
  · next t parts e =>
    simp only [e]
    obtain ⟨u, hu, hr⟩ := qBuild_sound (w := w) (av := avd E.bad ρ st.hp) (ρ := ρ) (g := opv st) (ev := a.eval) hq (fun x y hx => opv_sound h hx)
    exact ⟨u, fun w' _ => by simp [hu w'], hr⟩
  · next c e =>
    simp only [e]
    obtain ⟨callee, args, ts⟩ := c
    unfold qCall at hq
    simp only at hq
    split at hq
    · next _ b =>
      obtain ⟨args⟩ := args
      unfold qBui at hq
      split at hq
      · next x _ =>
        rw [Option.bind_eq_some_iff] at hq
        obtain ⟨z, hz, hq⟩ := hq
        have hr := opv_sound h hz
        simp_all only
        unfold qLen at hq
        split at hq
        · split at hq
          · next hT =>
            injection hq with hq
            subst hq
            obtain ⟨A, c, u, e2, _⟩ := hr.rd_inv
            cases ht : ts[0]? with
            | none => simp [ht] at hT
            | some t => exact ⟨_, fun w' _ => by simp [resolve, invoke, builtin, e2, run_len_sl (P := P) (w := w') (ty := o.type) (by simpa [ht] using hT) _ _ _ ts ht], .im (.v _)⟩
          · cases hq
        · split at hq
          · next hT =>
            injection hq with hq
            subst hq
            obtain ⟨A, c, e2, _⟩ := hr.os_inv
            cases ht : ts[0]? with
            | none => simp [ht] at hT
            | some t => exact ⟨_, fun w' _ => by simp [resolve, invoke, builtin, e2, run_len_sl (P := P) (w := w') (ty := o.type) (by simpa [ht] using hT) _ _ _ ts ht], .im (.v _)⟩
          · cases hq
        · rw [Option.map_eq_some_iff] at hq
          obtain ⟨u, hu, rfl⟩ := hq
          exact ⟨u, fun w' _ => by simp [resolve, invoke, builtin, Rep.v_eq hr, pr_run hu w'], cst_rep u⟩
        · cases hq
      · next x z _ =>
        simp only [Option.bind_eq_some_iff, Option.map_eq_some_iff] at hq
        obtain ⟨va, ⟨xa, h1, h2⟩, vb, ⟨xb, h3, h4⟩, u, hu, rfl⟩ := hq
        simp_all only
        exact ⟨u, fun w' _ => by simp [resolve, invoke, builtin, val_eq (opv_sound h h1) h2, val_eq (opv_sound h h3) h4, pr_run hu w'], cst_rep u⟩
      · next x z _ =>
        simp only [Option.bind_eq_some_iff, Option.map_eq_some_iff] at hq
        obtain ⟨va, ⟨xa, h1, h2⟩, vb, ⟨xb, h3, h4⟩, u, hu, rfl⟩ := hq
        simp_all only
        exact ⟨u, fun w' _ => by simp [resolve, invoke, builtin, val_eq (opv_sound h h1) h2, val_eq (opv_sound h h3) h4, pr_run hu w'], cst_rep u⟩
      · cases hq
    · cases hq
  · next f caps e =>
    simp only [e]
    rw [Option.map_eq_some_iff] at hq
    obtain ⟨ys, hy, rfl⟩ := hq
    obtain ⟨h1, h2⟩ := opvs_spec hy
    refine ⟨.func (.func f) #[] (caps.map a.eval), fun w' _ => by simp [Instr.makeFunc], .fn (by simp [h1]) fun j y v hj hv => ?_⟩
    simp at hv
    obtain ⟨x, hx, rfl⟩ := hv
    exact opv_sound h (h2 j x y (by simpa using hx) hj)
  · cases hq
end
end Go.Proofs.Ytcplbbbjmalfjaa
