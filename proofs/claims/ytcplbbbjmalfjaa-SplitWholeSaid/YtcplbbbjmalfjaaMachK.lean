/- The abstract machine, part 11: the rules by which states are computed. No program is named here. -/
import Derived.Test.YtcplbbbjmalfjaaMachJ
namespace Go.Proofs.Ytcplbbbjmalfjaa
open Go.RowKit
set_option linter.unusedVariables false
set_option linter.unusedSimpArgs false

section
variable (P : Program) (st : St) (d : Nat) (ty : TypeId) (ps : String) (af : Array Edge) (g : Option (Nat × Bool))
/-- A value is put where the operation says. -/
def fin (st : St) (d : Nat) (x : Option AV) : Option St := if d < st.nt then x.map fun x => st.put (some d) x else none
theorem fin_some {fr : List (Nat × AV)} {hp : Hp} {nt : Nat} {fx : List Nat} {d : Nat} (x : AV) (h : d < nt) : fin ⟨fr, hp, nt, fx⟩ d (some x) = some ⟨(d, x) :: fr, hp, nt, fx⟩ := by simp [fin, h, put_some]
theorem ev_move (x : Operand) : ev P st ⟨some d, .move x, ty, ps, af, g⟩ = fin st d (opv st x) := rfl
theorem ev_assign (x : Operand) : ev P st ⟨some d, .assign x, ty, ps, af, g⟩ = fin st d (opv st x) := rfl
theorem ev_pick (c a b : Operand) : ev P st ⟨some d, .pick c a b, ty, ps, af, g⟩ = fin st d ((opv st c).bind fun c => qPick c (opv st a) (opv st b)) := rfl
theorem ev_nilCheck (x : Operand) : ev P st ⟨some d, .nilCheck x, ty, ps, af, g⟩ = fin st d ((opv st x).bind qNil) := rfl
theorem ev_nilCheck0 (x : Operand) : ev P st ⟨none, .nilCheck x, ty, ps, af, g⟩ = ((opv st x).bind qNil).map fun _ => st := rfl
theorem ev_load (t : TypeId) (x : Operand) : ev P st ⟨some d, .load t x, ty, ps, af, g⟩ = fin st d ((opv st x).bind (qLoad P st.hp t)) := rfl
theorem ev_bin (op : BinOp) (t u : TypeId) (x y : Operand) : ev P st ⟨some d, .binOp op t x y u, ty, ps, af, g⟩ = fin st d (((opv st x).bind val).bind fun a => ((opv st y).bind val).bind fun b => (bin P op t x y a b).map cst) := rfl
theorem ev_una (op : UnOp) (t : TypeId) (x : Operand) : ev P st ⟨some d, .unOp op t x, ty, ps, af, g⟩ = fin st d (((opv st x).bind val).bind fun a => (una P op a).map cst) := rfl
theorem ev_conv (s t : TypeId) (x : Operand) : ev P st ⟨some d, .convert s t x, ty, ps, af, g⟩ = fin st d ((opv st x).bind (qConv P st.hp s t)) := rfl
theorem ev_slice (t : TypeId) (x : Operand) (lo hi mx : Option Operand) : ev P st ⟨some d, .slice t x lo hi mx, ty, ps, af, g⟩ = fin st d ((opv st x).bind fun y => (gO st lo).bind fun l => (gO st hi).bind fun h => (gO st mx).bind fun m => qSli P t y l h m) := rfl
theorem ev_fieldAddr (s : TypeId) (x : Operand) (f : Nat) : ev P st ⟨some d, .fieldAddr s x f, ty, ps, af, g⟩ = fin st d ((opv st x).bind (qFld P s f)) := rfl
theorem ev_field (s : TypeId) (x : Operand) (f : Nat) : ev P st ⟨some d, .field s x f, ty, ps, af, g⟩ = fin st d ((opv st x).bind (qPart P s f)) := rfl
theorem ev_indexAddr (t : TypeId) (x i : Operand) : ev P st ⟨some d, .indexAddr t x i, ty, ps, af, g⟩ = fin st d ((opv st x).bind fun y => (opv st i).bind (qIdxA P t y)) := rfl
theorem ev_index (t : TypeId) (x i : Operand) : ev P st ⟨some d, .index t x i, ty, ps, af, g⟩ = fin st d (((opv st x).bind val).bind fun a => ((opv st i).bind val).bind fun b => (idx P t a b).map cst) := rfl
theorem ev_extract (x : Operand) (i : Nat) : ev P st ⟨some d, .extract x i, ty, ps, af, g⟩ = fin st d ((opv st x).bind (qExt i)) := rfl
theorem ev_build (t : TypeId) (parts : Array (Nat × Operand)) : ev P st ⟨some d, .build t parts, ty, ps, af, g⟩ = fin st d (qBuild P t (parts.toList.map fun p => (p.1, opv st p.2))) := rfl
theorem ev_len (x : Operand) (ts : Array TypeId) : ev P st ⟨some d, .call ⟨.builtin .len, #[x], ts⟩, ty, ps, af, g⟩ = fin st d ((opv st x).bind (qLen P ts ty)) := rfl
theorem ev_min (x y : Operand) (ts : Array TypeId) : ev P st ⟨some d, .call ⟨.builtin .min, #[x, y], ts⟩, ty, ps, af, g⟩ = fin st d (((opv st x).bind val).bind fun a => ((opv st y).bind val).bind fun b => (minV P ts ty a b).map cst) := rfl
theorem ev_max (x y : Operand) (ts : Array TypeId) : ev P st ⟨some d, .call ⟨.builtin .max, #[x, y], ts⟩, ty, ps, af, g⟩ = fin st d (((opv st x).bind val).bind fun a => ((opv st y).bind val).bind fun b => (maxV P ts ty a b).map cst) := rfl
theorem ev_alloc (t : TypeId) : ev P st ⟨some d, .alloc t, ty, ps, af, g⟩ = evAlloc P st d t := rfl
theorem ev_box (t : TypeId) (x : Operand) : ev P st ⟨some d, .box t x, ty, ps, af, g⟩ = (opv st x).bind (evBox P st d) := rfl
theorem ev_store (t : TypeId) (p x : Operand) : ev P st ⟨none, .store t p x, ty, ps, af, g⟩ = (opv st p).bind fun p => (opv st x).bind (evStore P st t p) := rfl
theorem ev_lit (t : TypeId) (n : Nat) (parts : Array (Nat × Operand)) : ev P st ⟨some d, .buildSlice t n parts, ty, ps, af, g⟩ = evLit P st d t n (parts.toList.map fun p => (p.1, opv st p.2)) := rfl
theorem ev_make (t : TypeId) (l c : Operand) : ev P st ⟨some d, .makeSlice t l c, ty, ps, af, g⟩ = (opv st l).bind fun l => (opv st c).bind (evMake P st d t l) := rfl
theorem ev_append (s x : Operand) (t tx : TypeId) : ev P st ⟨some d, .call ⟨.builtin .append, #[s, x], #[t, tx]⟩, ty, ps, af, g⟩ = (opv st s).bind fun s => (opv st x).bind (evAppend P st d t tx s) := rfl
end
theorem qPick_true (a b : Option AV) : qPick (.v (.bool true)) a b = a := rfl
theorem qPick_false (a b : Option AV) : qPick (.v (.bool false)) a b = b := rfl
theorem qNil_pt (k o : Nat) : qNil (.pt k o) = some (.pt k o) := rfl
theorem qNil_rp (cs : List AV) : qNil (.rp cs) = some (.rp cs) := rfl
theorem qNil_fn (f : FuncId) (cs : List AV) : qNil (.fn f cs) = some (.fn f cs) := rfl
theorem ev_mkf (P : Program) (st : St) (d : Nat) (ty : TypeId) (ps : String) (af : Array Edge) (g : Option (Nat × Bool)) (f : FuncId) (caps : List Operand) : ev P st ⟨some d, .makeFunc (.func f) #[] caps.toArray, ty, ps, af, g⟩ = fin st d ((opvs st caps).map (.fn f)) := rfl
attribute [go_sem] qNil_fn ev_mkf
theorem qExt_tp (i : Nat) (vs : List AV) : qExt i (.tp vs) = vs[i]? := rfl
theorem qIdxA_int (P : Program) (t : TypeId) (x : AV) (k : IntKind) (n : Int) : qIdxA P t x (.v (.int k n)) = qIdx P t x n := rfl
theorem gO_none (st : St) : gO st none = some none := rfl
theorem gO_some (st : St) (x : Operand) : gO st (some x) = (opv st x).map some := rfl
theorem ovO_none : ovO none = some none := rfl
theorem ovO_v (x : Value) : ovO (some (.v x)) = some (some x) := rfl
theorem qSli_v (P : Program) (t : TypeId) (a : Value) (l h m : Option AV) : qSli P t (.v a) l h m = (ovO l).bind fun l => (ovO h).bind fun h => (ovO m).bind fun m => (sli P t a l h m).map cst := rfl
theorem qSli_rd (P : Program) (t : TypeId) (n : Nat) (cs : List AV) (l h m : Option AV) : qSli P t (.rd n cs) l h m = qSlice P t (.rd n cs) l h m := rfl
theorem qSli_os (P : Program) (t : TypeId) (k o s n : Nat) (l h m : Option AV) : qSli P t (.os k o s n) l h m = qSlice P t (.os k o s n) l h m := rfl
theorem qConv_int (P : Program) (hp : Hp) (s d : TypeId) (k : IntKind) (n : Int) : qConv P hp s d (.v (.int k n)) = (cnv P s d (.int k n)).map cst := rfl
theorem qConv_string (P : Program) (hp : Hp) (s d : TypeId) (x : ByteArray) : qConv P hp s d (.v (.string x)) = (cnv P s d (.string x)).map cst := rfl
theorem qLen_rd {P : Program} {s : TypeId} (t : TypeId) {n : Nat} (cs : List AV) (h : isSlT P s = true) : qLen P #[s] t (.rd n cs) = some (.v (.int .i64 n)) := by simp [qLen, h]
theorem qLen_os {P : Program} {ts : TypeId} (t : TypeId) {k o s n : Nat} (h : isSlT P ts = true) : qLen P #[ts] t (.os k o s n) = some (.v (.int .i64 n)) := by simp [qLen, h]
theorem qLen_v (P : Program) (ts : Array TypeId) (t : TypeId) (a : Value) : qLen P ts t (.v a) = (lenV P ts t a).map cst := rfl

/-! ### Plain values -/
section
variable {P : Program} {t : TypeId} {x y : Operand}
theorem bin_add (k : IntKind) (a b : Int) : bin P .add t x y (.int k a) (.int k b) = some (.int k (k.wrap (a + b))) := by simp [bin, pr_bind, pr_pure, eqGuard, binOp, Op.intArith]
theorem bin_sub (k : IntKind) (a b : Int) : bin P .sub t x y (.int k a) (.int k b) = some (.int k (k.wrap (a - b))) := by simp [bin, pr_bind, pr_pure, eqGuard, binOp, Op.intArith]
theorem bin_mul (k : IntKind) (a b : Int) : bin P .mul t x y (.int k a) (.int k b) = some (.int k (k.wrap (a * b))) := by simp [bin, pr_bind, pr_pure, eqGuard, binOp, Op.intArith]
theorem bin_quo (k : IntKind) (a b : Int) (h : b ≠ 0) : bin P .quo t x y (.int k a) (.int k b) = some (.int k (k.wrap (a.tdiv b))) := by simp [bin, pr_bind, pr_pure, eqGuard, binOp, Op.intDiv, h]
theorem bin_rem (k : IntKind) (a b : Int) (h : b ≠ 0) : bin P .rem t x y (.int k a) (.int k b) = some (.int k (a.tmod b)) := by simp [bin, pr_bind, pr_pure, eqGuard, binOp, Op.intDiv, h]
theorem bin_eql (k : IntKind) (a b : Int) : bin P .eql t x y (.int k a) (.int k b) = some (.bool (decide (a = b))) := by simp [bin, pr_bind, pr_pure, eqGuard, binOp, Op.intCmp]; exact Bool.beq_eq_decide_eq a b
theorem bne_dec {α : Type} [BEq α] [LawfulBEq α] [DecidableEq α] (a b : α) : (a != b) = !decide (a = b) := by rw [bne, Bool.beq_eq_decide_eq]
theorem bin_neq (k : IntKind) (a b : Int) : bin P .neq t x y (.int k a) (.int k b) = some (.bool (!decide (a = b))) := by
  rw [← bne_dec]
  cases k <;> rfl
theorem bin_lss (k : IntKind) (a b : Int) : bin P .lss t x y (.int k a) (.int k b) = some (.bool (decide (a < b))) := by simp [bin, pr_bind, pr_pure, eqGuard, binOp, Op.intCmp]
theorem bin_leq (k : IntKind) (a b : Int) : bin P .leq t x y (.int k a) (.int k b) = some (.bool (decide (a ≤ b))) := by simp [bin, pr_bind, pr_pure, eqGuard, binOp, Op.intCmp]
theorem bin_gtr (k : IntKind) (a b : Int) : bin P .gtr t x y (.int k a) (.int k b) = some (.bool (decide (b < a))) := by simp [bin, pr_bind, pr_pure, eqGuard, binOp, Op.intCmp]
theorem bin_geq (k : IntKind) (a b : Int) : bin P .geq t x y (.int k a) (.int k b) = some (.bool (decide (b ≤ a))) := by simp [bin, pr_bind, pr_pure, eqGuard, binOp, Op.intCmp]
theorem una_not (b : Bool) : una P .not (.bool b) = some (.bool (!b)) := rfl
theorem una_neg (k : IntKind) (n : Int) : una P .neg (.int k n) = some (.int k (k.wrap (0 - n))) := rfl
theorem bin_sadd {a b : List UInt8} (h : a.length + b.length ≤ 9223372036854775807) : bin P .add t x y (.string (str a)) (.string (str b)) = some (.string (str (a ++ b))) := by
  have : ¬ (((a.length + b.length : Nat) : Int) > IntKind.i64.max) := by
    have : IntKind.i64.max = 9223372036854775807 := by decide
    omega
  simp only [bin, pr_bind, eqGuard, binOp, Op.stringOp, str_size]
  rw [if_neg this]
  simp [pr_pure, str_append]
theorem bin_seql (a b : List UInt8) : bin P .eql t x y (.string (str a)) (.string (str b)) = some (.bool (decide (a = b))) := by
  simp [bin, pr_bind, pr_pure, eqGuard, binOp, Op.stringOp, str_toList]; exact Bool.beq_eq_decide_eq a b
theorem bin_sneq (a b : List UInt8) : bin P .neq t x y (.string (str a)) (.string (str b)) = some (.bool (!decide (a = b))) := by
  rw [← Bool.beq_eq_decide_eq]
  show some (Value.bool (!((str a).toList == (str b).toList))) = _
  rw [str_toList, str_toList]
theorem pr_underlying {d : TypeDesc} (h : P.underlying t = some d) : pr P (underlying t) = some d := by
  show pr P (Sem.bind program _) = _
  simp only [program, Sem.bind, pr, h]
  rfl
theorem pr_equal_bool (a b : Bool) (h : P.underlying t = some .bool) : pr P (Op.equal t (.bool a) (.bool b)) = some (a == b) := by
  unfold Op.equal Op.maxDepth
  rw [show (10000 : Nat) = 9999 + 1 from rfl, Op.equalIn, pr_bind, pr_underlying h]
  rfl
theorem bin_beql (a b : Bool) (h : P.underlying t = some .bool) : bin P .eql t x y (.bool a) (.bool b) = some (.bool (a == b)) := by
  show pr P (Op.equal t (.bool a) (.bool b) >>= fun b => pure (Value.bool b)) = _
  rw [pr_bind, pr_equal_bool a b h]
  rfl
theorem bin_bneq (a b : Bool) (h : P.underlying t = some .bool) : bin P .neq t x y (.bool a) (.bool b) = some (.bool (!(a == b))) := by
  show pr P (Op.equal t (.bool a) (.bool b) >>= fun b => pure (Value.bool !b)) = _
  rw [pr_bind, pr_equal_bool a b h]
  rfl
theorem idx_str {l : List UInt8} {k : IntKind} {i : Int} (h : P.underlying t = some .string) (h0 : 0 ≤ i) (h1 : i < l.length) : idx P t (.string (str l)) (.int k i) = some (.int .u8 (l[i.toNat]'(by omega)).toNat) := by
  have hlt : i.toNat < (str l).size := by rw [str_size]; omega
  simp only [idx, Instr.index, pr_bind, asIntOf, pr_pure, Option.bind_some, pr_underlying h, if_pos h0]
  rw [getElem?_pos (str l) i.toNat hlt, str_get]
  rfl
theorem lenV_str (ty : TypeId) (l : List UInt8) (h : P.underlying t = some .string) : lenV P #[t] ty (.string (str l)) = some (.int .i64 l.length) := by
  simp [lenV, Builtin.len_, pr_bind, pr_underlying h, pr_pure, goInt, str_size]
theorem minV_int (ts : Array TypeId) (ty : TypeId) (k k' : IntKind) (a b : Int) : minV P ts ty (.int k a) (.int k' b) = some (.int k (if b < a then b else a)) := rfl
theorem maxV_int (ts : Array TypeId) (ty : TypeId) (k k' : IntKind) (a b : Int) : maxV P ts ty (.int k a) (.int k' b) = some (.int k (if b > a then b else a)) := rfl
theorem cnv_int {s d : TypeId} {k : IntKind} (k' : IntKind) (n : Int) (hs : (P.underlying s).isSome = true) (hd : P.underlying d = some (.int k)) : cnv P s d (.int k' n) = some (.int k (k.wrap n)) := by
  obtain ⟨ds, hs⟩ := Option.isSome_iff_exists.1 hs
  simp only [cnv, convert, pr_bind, pr_underlying hs, pr_underlying hd, Option.bind_some]
  cases ds <;> rfl
theorem sli_str {l : List UInt8} {k k' : IntKind} {i j : Int} (h : P.underlying t = some .string) (h0 : 0 ≤ i) (h1 : i ≤ j) (h2 : j ≤ l.length) : sli P t (.string (str l)) (some (.int k i)) (some (.int k' j)) none = some (.string (str ((l.drop i.toNat).take (j.toNat - i.toNat)))) := by
  have hj : (j.toNat : Int) = j := Int.toNat_of_nonneg (by omega)
  have p1 : 0 ≤ j := by omega
  simp [sli, Instr.sliceAt, Instr.slice, Instr.sliceBounds, Instr.sliceBound, asIntOf, pr_bind, pr_pure, pr_underlying h, str_size, h0, h1, h2, hj, p1, str_extract]
theorem sli_str_from {l : List UInt8} {k : IntKind} {i : Int} (h : P.underlying t = some .string) (h0 : 0 ≤ i) (h1 : i ≤ l.length) : sli P t (.string (str l)) (some (.int k i)) none none = some (.string (str (l.drop i.toNat))) := by
  simp [sli, Instr.sliceAt, Instr.slice, Instr.sliceBounds, Instr.sliceBound, asIntOf, pr_bind, pr_pure, pr_underlying h, str_size, h0, h1, str_extract]
  rw [List.take_of_length_le (by simp)]
theorem sli_str_to {l : List UInt8} {k : IntKind} {j : Int} (h : P.underlying t = some .string) (h0 : 0 ≤ j) (h1 : j ≤ l.length) : sli P t (.string (str l)) none (some (.int k j)) none = some (.string (str (l.take j.toNat))) := by
  simp [sli, Instr.sliceAt, Instr.slice, Instr.sliceBounds, Instr.sliceBound, asIntOf, pr_bind, pr_pure, pr_underlying h, str_size, h0, h1, str_extract]
end
theorem wrap64 {x : Int} (h1 : -9223372036854775808 ≤ x) (h2 : x ≤ 9223372036854775807) : IntKind.i64.wrap x = x := by rw [IntKind.wrap_i64]; omega
theorem wrapU8 {x : Int} (h1 : 0 ≤ x) (h2 : x ≤ 255) : IntKind.u8.wrap x = x := IntWalk.u8_in x ⟨h1, h2⟩
theorem mk_str (l : List UInt8) : ByteArray.mk (List.toArray l) = str l := rfl
theorem str_nil_eq : ByteArray.empty = str [] := rfl
attribute [go_sem] ev_move ev_assign ev_pick ev_nilCheck ev_nilCheck0 ev_load ev_bin ev_una ev_conv ev_slice ev_fieldAddr ev_field ev_indexAddr ev_index ev_extract ev_build ev_len ev_min ev_max ev_alloc ev_box ev_store ev_lit ev_make ev_append qPick_true qPick_false qNil_pt qNil_rp qExt_tp qIdxA_int gO_none gO_some ovO_none ovO_v qSli_v qSli_rd qSli_os qConv_int qConv_string bin_add bin_sub bin_mul bin_quo bin_rem bin_eql bin_neq bin_lss bin_leq bin_gtr bin_geq una_not una_neg bin_sadd bin_seql bin_sneq bin_beql bin_bneq lenV_str minV_int maxV_int fin_some opv_tmp opv_const look_cons look_nil cst_int cst_bool cst_string cst_slice cst_agg val_v val_ag cellVs_nil cellVs_cons put_some put_none qLoad_pt qLoad_rp qFld_pt qFld_rp qPart_ag ib_none ib_some cellsA_ag cellsA_int cellsA_bool cellsA_string cellsA_slice cellsA_rd cellsA_os cellsA_pt cellsA_rp setR_nil setR_cons aFill_nil argsA_nil argsA_cons num_nil num_cons resR_tmp resR_cell resL_nil resL_cons roC_v roC_un roC_rd roC_rp roCs_nil roCs_cons roPs_nil roPs_cons mk_str str_nil_eq wrap64 wrapU8 idx_str cnv_int sli_str sli_str_from sli_str_to qLen_v qLen_rd qLen_os
end Go.Proofs.Ytcplbbbjmalfjaa
