/- The abstract machine, part 15: the rules by which objects are computed. No program is named here. -/
import Derived.Test.YtcplbbbjmalfjaaMachN
namespace Go.Proofs.Ytcplbbbjmalfjaa
open Go.RowKit
set_option linter.unusedVariables false
set_option linter.unusedSimpArgs false
theorem mentM_v (k : Nat) (x : Value) : mentM k (.v x) = false := rfl
theorem mentM_un (k : Nat) : mentM k .un = false := rfl
theorem mentM_rd (k n : Nat) (cs : List AV) : mentM k (.rd n cs) = false := rfl
theorem mentM_rp (k : Nat) (cs : List AV) : mentM k (.rp cs) = false := rfl
theorem mentM_os (k j o s n : Nat) : mentM k (.os j o s n) = (j == k) := rfl
theorem mentM_pt (k j o : Nat) : mentM k (.pt j o) = (j == k) := rfl
theorem mentM_ag (k : Nat) (cs : List AV) : mentM k (.ag cs) = cs.any (cellM k) := rfl
theorem mentM_tp (k : Nat) (cs : List AV) : mentM k (.tp cs) = cs.any (partM k) := rfl
theorem partM_v (k : Nat) (x : Value) : partM k (.v x) = false := rfl
theorem partM_rd (k n : Nat) (cs : List AV) : partM k (.rd n cs) = false := rfl
theorem partM_os (k j o s n : Nat) : partM k (.os j o s n) = (j == k) := rfl
theorem partM_pt (k j o : Nat) : partM k (.pt j o) = (j == k) := rfl
theorem partM_ag (k : Nat) (cs : List AV) : partM k (.ag cs) = cs.any (cellM k) := rfl
theorem cellM_v (k : Nat) (x : Value) : cellM k (.v x) = false := rfl
theorem cellM_un (k : Nat) : cellM k .un = false := rfl
theorem cellM_rd (k n : Nat) (cs : List AV) : cellM k (.rd n cs) = false := rfl
theorem cellM_rp (k : Nat) (cs : List AV) : cellM k (.rp cs) = false := rfl
theorem cellM_os (k j o s n : Nat) : cellM k (.os j o s n) = (j == k) := rfl
theorem cellM_pt (k j o : Nat) : cellM k (.pt j o) = (j == k) := rfl
theorem cellM_sp (k j : Nat) : cellM k (.sp j) = (j == k) := rfl
theorem mentM_sp (k j : Nat) : mentM k (.sp j) = (j == k) := rfl
theorem partM_sp (k j : Nat) : partM k (.sp j) = (j == k) := rfl
theorem mentM_fn (k : Nat) (f : FuncId) (cs : List AV) : mentM k (.fn f cs) = cs.any (cellM k) := rfl
theorem okC_sp (k : Nat) : okC (.sp k) = true := rfl
attribute [go_sem] cellM_sp mentM_sp partM_sp mentM_fn okC_sp cellsA_sp opvs_nil opvs_cons
theorem killX_def (k : Nat) (x : AV) : killX k x = if mentM k x = true then .un else x := rfl
theorem killC_def (k : Nat) (x : AV) : killC k x = if cellM k x = true then .un else x := rfl
theorem turn_nil {α : Type} (f : α → α) : turn f [] = [] := rfl
theorem turn_cons {α : Type} (f : α → α) (i : Nat) (x : α) (r : List (Nat × α)) : turn f ((i, x) :: r) = (i, f x) :: turn f r := rfl
theorem hset_nil {α : Type} (k : Nat) (x : α) : hset k x [] = [(k, x)] := rfl
theorem hset_cons {α : Type} (k : Nat) (x : α) (i : Nat) (y : α) (r : List (Nat × α)) : hset k x ((i, y) :: r) = if i = k then (k, x) :: r else (i, y) :: hset k x r := rfl
theorem okC_v (x : Value) : okC (.v x) = x.oneCell' := rfl
theorem okC_rd (n : Nat) (cs : List AV) : okC (.rd n cs) = true := rfl
theorem okC_os (k o s n : Nat) : okC (.os k o s n) = true := rfl
theorem okC_pt (k o : Nat) : okC (.pt k o) = true := rfl
theorem one_int (k : IntKind) (n : Int) : Value.oneCell' (.int k n) = true := rfl
theorem one_bool (b : Bool) : Value.oneCell' (.bool b) = true := rfl
theorem one_string (b : ByteArray) : Value.oneCell' (.string b) = true := rfl
theorem one_slice (a : Option Addr) (n c : Nat) : Value.oneCell' (.slice a n c) = true := rfl
section
variable {P : Program} {fr : List (Nat × AV)} {hp : Hp} {nt : Nat} {fx : List Nat}
theorem mk_ok {d : Nat} {cs : List AV} (x : AV) (h1 : d < nt) (h2 : d ∉ fx) (h3 : freeOf d cs = true) : mk ⟨fr, hp, nt, fx⟩ d cs x = some ⟨(d, x) :: turn (killX d) fr, hset d cs (turn (List.map (killC d)) hp), nt, fx⟩ := by
  rw [mk_eq x h1 h2 h3]; rfl
theorem evAlloc_def (st : St) (d : Nat) (t : TypeId) : evAlloc P st d t = (zT P t).bind fun z => mk st d (z.map .v) (.pt d 0) := rfl
theorem evBox_def (st : St) (d : Nat) (x : AV) : evBox P st d x = (cellsA x).bind fun cs => mk st d cs (.pt d 0) := rfl
def stoX (P : Program) (st : St) (t : TypeId) (k off : Nat) (cs xs : List AV) : Option St := if szT P t = some xs.length ∧ xs.all okC = true ∧ off + xs.length ≤ cs.length then some (st.store k (setR cs off xs)) else none
theorem evStore_def (st : St) (t : TypeId) (k off : Nat) (x : AV) : evStore P st t (.pt k off) x = (look st.hp k).bind fun cs => (cellsA x).bind fun xs => stoX P st t k off cs xs := rfl
theorem stoX_ok {t : TypeId} {k off : Nat} {cs xs : List AV} (h1 : szT P t = some xs.length) (h2 : xs.all okC = true) (h3 : off + xs.length ≤ cs.length) : stoX P ⟨fr, hp, nt, fx⟩ t k off cs xs = some ⟨fr, hset k (setR cs off xs) hp, nt, fx⟩ := by
  unfold stoX
  rw [if_pos ⟨h1, h2, h3⟩]
  rfl
def litX (st : St) (d : Nat) (len sz : Nat) (o : Option (List AV)) : Option St := if len * sz ≤ 16777216 then o.bind fun cs => mk st d cs (.os d 0 sz len) else none
theorem evLit_def (st : St) (d : Nat) (t : TypeId) (len : Nat) (parts : List (Nat × Option AV)) : evLit P st d t len parts = (elT P t).bind fun e => litX st d len e.2.1 (aFill (litPl e.2.1 0 len) (List.replicate (len * e.2.1) .un) parts) := rfl
theorem litX_ok {st : St} {d len sz : Nat} (cs : List AV) (h : len * sz ≤ 16777216) : litX st d len sz (some cs) = mk st d cs (.os d 0 sz len) := by simp [litX, h]
theorem litPl_zero (sz i : Nat) : litPl sz i 0 = [] := rfl
theorem litPl_succ (sz i n : Nat) : litPl sz i (n + 1) = (i * sz, sz) :: litPl sz (i + 1) n := rfl
def filX (pl : List (Nat × Nat)) (cells xs : List AV) (p : Nat × Nat) (r : List (Nat × Option AV)) : Option (List AV) := if xs.length = p.2 ∧ p.1 + p.2 ≤ cells.length then aFill pl (setR cells p.1 xs) r else none
theorem aFill_def (pl : List (Nat × Nat)) (cells : List AV) (i : Nat) (x : Option AV) (r : List (Nat × Option AV)) : aFill pl cells ((i, x) :: r) = (pl[i]?).bind fun p => (x.bind cellsA).bind fun xs => filX pl cells xs p r := by
  simp only [aFill, filX]
  cases pl[i]? <;> cases (x.bind cellsA) <;> rfl
theorem filX_ok {pl : List (Nat × Nat)} {cells xs : List AV} {p : Nat × Nat} {r : List (Nat × Option AV)} (h1 : xs.length = p.2) (h2 : p.1 + p.2 ≤ cells.length) : filX pl cells xs p r = aFill pl (setR cells p.1 xs) r := by simp [filX, h1, h2]
theorem qBuild_def (t : TypeId) (parts : List (Nat × Option AV)) : qBuild P t parts = (bldT P t).bind fun b => (aFill b.2 (b.1.map .v) parts).map .ag := rfl
def slX (o : Option (List AV)) (off sz n : Nat) : Option (Nat × List AV) := o.bind fun cs => if off + n * sz ≤ cs.length then some (n, (cs.drop off).take (n * sz)) else none
theorem sliceC_os_def (k off sz n : Nat) : sliceC hp (.os k off sz n) = slX (look hp k) off sz n := rfl
theorem slX_ok {cs : List AV} {off sz n : Nat} (h : off + n * sz ≤ cs.length) : slX (some cs) off sz n = some (n, (cs.drop off).take (n * sz)) := by simp [slX, h]
theorem srcC_rd {sz : Nat} {tx : TypeId} (n : Nat) (cs : List AV) (h : isSlT P tx = true) : srcC P hp sz tx (.rd n cs) = some (n, cs) := by simp [srcC, h, sliceC]
theorem srcC_os {sz : Nat} {tx : TypeId} (k o s n : Nat) (h : isSlT P tx = true) : srcC P hp sz tx (.os k o s n) = slX (look hp k) o s n := by simp [srcC, h, sliceC, slX]
theorem srcC_nil {sz : Nat} {tx : TypeId} (h : isSlT P tx = true) : srcC P hp sz tx (.v (.slice none 0 0)) = some (0, []) := by simp [srcC, h, sliceC]
theorem srcC_str {tx : TypeId} (l : List UInt8) (h : P.underlying tx = some .string) : srcC P hp 1 tx (.v (.string (str l))) = some (l.length, bytesA l) := by simp [srcC, h, str_size]; simp [str]
def appX (st : St) (d k : Nat) (sz n m bytes : Nat) (c0 xs : List AV) : Option St :=
  if xs.length = m * sz ∧ xs.all okC = true ∧ (n + m) * bytes ≤ 140737488355328 ∧ n + m ≤ 9223372036854775807 ∧ d < st.nt ∧ k ∉ st.fx ∧ freeOf k (c0 ++ xs) = true then some ((st.fresh k (c0 ++ xs)).put (some d) (.os k 0 sz (n + m))) else none
theorem appX_ok {d k sz n m bytes : Nat} {c0 xs : List AV} (h1 : xs.length = m * sz) (h2 : xs.all okC = true) (h3 : (n + m) * bytes ≤ 140737488355328) (h4 : n + m ≤ 9223372036854775807) (h5 : d < nt) (h6 : k ∉ fx) (h7 : freeOf k (c0 ++ xs) = true) :
    appX ⟨fr, hp, nt, fx⟩ d k sz n m bytes c0 xs = some ⟨(d, .os k 0 sz (n + m)) :: turn (killX k) fr, hset k (c0 ++ xs) (turn (List.map (killC k)) hp), nt, fx⟩ := by
  unfold appX
  rw [if_pos ⟨h1, h2, h3, h4, h5, h6, h7⟩]
  rfl
def cutX (e : TypeId × Nat × Nat) (off sz n : Nat) (cs : List AV) : Option (List AV) := if sz = e.2.1 ∧ off + n * sz ≤ cs.length then some ((cs.drop off).take (n * sz)) else none
theorem cutX_ok {e : TypeId × Nat × Nat} {off sz n : Nat} {cs : List AV} (h1 : sz = e.2.1) (h2 : off + n * sz ≤ cs.length) : cutX e off sz n cs = some ((cs.drop off).take (n * sz)) := by simp only [cutX, h1]; rw [if_pos ⟨trivial, by rw [← h1]; exact h2⟩]
theorem evAppend_os (st : St) (d : Nat) (t tx : TypeId) (k off sz n : Nat) (x : AV) : evAppend P st d t tx (.os k off sz n) x = (elT P t).bind fun e => (srcC P st.hp e.2.1 tx x).bind fun q => (look st.hp k).bind fun cs => (cutX e off sz n cs).bind fun c0 => appX st d k sz n q.1 e.2.2 c0 q.2 := by
  simp only [evAppend]
  cases he : elT P t with
  | none => rfl
  | some e =>
    simp only [Option.bind_some]
    cases hq : srcC P st.hp e.2.1 tx x with
    | none => rfl
    | some q =>
      simp only [Option.bind_some]
      cases hk : look st.hp k with
      | none => rfl
      | some cs =>
        simp only [Option.bind_some, cutX, appX]
        by_cases h : sz = e.2.1 ∧ off + n * sz ≤ cs.length
        · rw [if_pos h]
          obtain ⟨h1, h2⟩ := h
          subst h1
          simp only [Option.bind_some, h2, true_and]
        · rw [if_neg h, if_neg (fun h' => h ⟨h'.1, h'.2.1⟩)]
          rfl
theorem evAppend_nil (st : St) (d : Nat) (t tx : TypeId) (x : AV) : evAppend P st d t tx (.v (.slice none 0 0)) x = (elT P t).bind fun e => (srcC P st.hp e.2.1 tx x).bind fun q => appX st d d e.2.1 0 q.1 e.2.2 [] q.2 := by
  simp only [evAppend]
  cases he : elT P t with
  | none => rfl
  | some e =>
    simp only [Option.bind_some]
    cases hq : srcC P st.hp e.2.1 tx x with
    | none => rfl
    | some q => simp only [Option.bind_some, appX, Nat.zero_add, List.nil_append]
def mkX (st : St) (d : Nat) (l : Int) (e : TypeId × Nat × Nat) (z : Option (List Value)) : Option St :=
  match z with
  | some [z] => if 0 ≤ l ∧ e.2.2 * l ≤ 281474976710656 ∧ l ≤ 9223372036854775807 ∧ e.2.1 = 1 then mk st d (List.replicate l.toNat (.v z)) (.os d 0 1 l.toNat) else none
  | _ => none
theorem evMake_def (st : St) (d : Nat) (t : TypeId) (k k' : IntKind) (l : Int) : evMake P st d t (.v (.int k l)) (.v (.int k' l)) = (elT P t).bind fun e => mkX st d l e (zT P e.1) := by
  simp only [evMake, mkX]
  congr 1
  funext e
  rcases zT P e.1 with _ | (_ | ⟨z, _ | _⟩) <;> simp
theorem mkX_ok {st : St} {d : Nat} {l : Int} {e : TypeId × Nat × Nat} (z : Value) (h0 : 0 ≤ l) (h1 : e.2.2 * l ≤ 281474976710656) (h2 : l ≤ 9223372036854775807) (h3 : e.2.1 = 1) : mkX st d l e (some [z]) = mk st d (List.replicate l.toNat (.v z)) (.os d 0 1 l.toNat) := by simp [mkX, h0, h1, h2, h3]
/-- Slices of slices. -/
def qsX (sz : Nat) (x : AV) (l h m : Int) : Option AV :=
  match x with
  | .rd n cs => if 0 ≤ l ∧ l ≤ h ∧ h ≤ m ∧ m ≤ n then some (.rd (h.toNat - l.toNat) ((cs.drop (l.toNat * sz)).take ((h.toNat - l.toNat) * sz))) else none
  | .os k off s n => if s = sz ∧ 0 ≤ l ∧ l ≤ h ∧ h ≤ m ∧ m ≤ n then some (.os k (off + l.toNat * s) s (h.toNat - l.toNat)) else none
  | _ => none
theorem qSlice_lh (t : TypeId) (x : AV) (k k' : IntKind) (l h : Int) : qSlice P t x (some (.v (.int k l))) (some (.v (.int k' h))) none = (lenA x).bind fun n => (elT P t).bind fun e => qsX e.2.1 x l h n := by
  unfold qSlice
  cases lenA x with
  | none => rfl
  | some n => cases x <;> cases he : elT P t <;> simp [ib, qSl, qsX, he]
theorem qSlice_l (t : TypeId) (x : AV) (k : IntKind) (l : Int) : qSlice P t x (some (.v (.int k l))) none none = (lenA x).bind fun n => (elT P t).bind fun e => qsX e.2.1 x l n n := by
  unfold qSlice
  cases lenA x with
  | none => rfl
  | some n => cases x <;> cases he : elT P t <;> simp [ib, qSl, qsX, he]
theorem qSlice_h (t : TypeId) (x : AV) (k' : IntKind) (h : Int) : qSlice P t x none (some (.v (.int k' h))) none = (lenA x).bind fun n => (elT P t).bind fun e => qsX e.2.1 x 0 h n := by
  unfold qSlice
  cases lenA x with
  | none => rfl
  | some n => cases x <;> cases he : elT P t <;> simp [ib, qSl, qsX, he]
theorem qSlice_lhm (t : TypeId) (x : AV) (k k' k'' : IntKind) (l h m : Int) : qSlice P t x (some (.v (.int k l))) (some (.v (.int k' h))) (some (.v (.int k'' m))) = (lenA x).bind fun n => (elT P t).bind fun e => qsX e.2.1 x l h m := by
  unfold qSlice
  cases lenA x with
  | none => rfl
  | some n => cases x <;> cases he : elT P t <;> simp [ib, qSl, qsX, he]
theorem lenA_rd (n : Nat) (cs : List AV) : lenA (.rd n cs) = some n := rfl
theorem lenA_os (k o s n : Nat) : lenA (.os k o s n) = some n := rfl
theorem qsX_rd {sz n : Nat} {cs : List AV} {l h m : Int} (h0 : 0 ≤ l) (h1 : l ≤ h) (h2 : h ≤ m) (h3 : m ≤ n) : qsX sz (.rd n cs) l h m = some (.rd (h.toNat - l.toNat) ((cs.drop (l.toNat * sz)).take ((h.toNat - l.toNat) * sz))) := by simp [qsX, h0, h1, h2, h3]
theorem qsX_os {sz k off s n : Nat} {l h m : Int} (hs : s = sz) (h0 : 0 ≤ l) (h1 : l ≤ h) (h2 : h ≤ m) (h3 : m ≤ n) : qsX sz (.os k off s n) l h m = some (.os k (off + l.toNat * s) s (h.toNat - l.toNat)) := by simp [qsX, hs, h0, h1, h2, h3]
/-- The address of an element. -/
def ixX (sz : Nat) (x : AV) (i : Int) : Option AV :=
  match x with
  | .rd n cs => if 0 ≤ i ∧ i < n then some (.rp (cs.drop (i.toNat * sz))) else none
  | .os k off s n => if s = sz ∧ 0 ≤ i ∧ i < n then some (.pt k (off + i.toNat * s)) else none
  | _ => none
theorem qIdx_rd_def (t : TypeId) (n : Nat) (cs : List AV) (i : Int) : qIdx P t (.rd n cs) i = (elT P t).bind fun e => ixX e.2.1 (.rd n cs) i := rfl
theorem qIdx_os_def (t : TypeId) (k o s n : Nat) (i : Int) : qIdx P t (.os k o s n) i = (elT P t).bind fun e => ixX e.2.1 (.os k o s n) i := rfl
theorem ixX_rd {sz n : Nat} (cs : List AV) {i : Int} (h0 : 0 ≤ i) (h1 : i < n) : ixX sz (.rd n cs) i = some (.rp (cs.drop (i.toNat * sz))) := by simp [ixX, h0, h1]
theorem ixX_os {sz k off s n : Nat} {i : Int} (hs : s = sz) (h0 : 0 ≤ i) (h1 : i < n) : ixX sz (.os k off s n) i = some (.pt k (off + i.toNat * s)) := by simp [ixX, h0, h1, hs]
def arX (n sz k off : Nat) (i : Int) : Option AV := if 0 ≤ i ∧ i < n then some (.pt k (off + i.toNat * sz)) else none
theorem qIdx_pt_def (t : TypeId) (k o : Nat) (i : Int) : qIdx P t (.pt k o) i = (arT P t).bind fun e => arX e.1 e.2.2 k o i := rfl
theorem arX_ok {n sz k off : Nat} {i : Int} (h0 : 0 ≤ i) (h1 : i < n) : arX n sz k off i = some (.pt k (off + i.toNat * sz)) := by simp [arX, h0, h1]
/-- The variable at the beginning of cells. -/
def vrX (r : Option Bool) (n : Option Nat) (cs : List AV) : Option AV :=
  match r with
  | some false => cs[0]?
  | some true => match n with
    | some n => if n ≤ cs.length then some (.ag (cs.take n)) else none
    | none => none
  | none => none
theorem qCells_def (t : TypeId) (cs : List AV) : qCells P t cs = vrX (rowT P t) (szT P t) cs := rfl
theorem vrX_one (n : Option Nat) (cs : List AV) : vrX (some false) n cs = cs[0]? := rfl
theorem vrX_row {n : Nat} {cs : List AV} (h : n ≤ cs.length) : vrX (some true) (some n) cs = some (.ag (cs.take n)) := by simp [vrX, h]
def bsX (b : Bool) (q : Option (Nat × List AV)) : Option AV := if b = true then q.bind fun q => (unB q.2).bind fun l => if l.length = q.1 then some (.v (.string (str l))) else none else none
theorem qConv_rd (s d : TypeId) (n : Nat) (cs : List AV) : qConv P hp s d (.rd n cs) = bsX (bsT P s d) (sliceC hp (.rd n cs)) := rfl
theorem qConv_os (s d : TypeId) (k o z n : Nat) : qConv P hp s d (.os k o z n) = bsX (bsT P s d) (sliceC hp (.os k o z n)) := rfl
theorem qConv_nil (s d : TypeId) : qConv P hp s d (.v (.slice none 0 0)) = bsX (bsT P s d) (sliceC hp (.v (.slice none 0 0))) := rfl
theorem bsX_ok (n : Nat) (cs : List AV) : bsX true (some (n, cs)) = (unB cs).bind fun l => if l.length = n then some (.v (.string (str l))) else none := rfl
theorem unB_one {n : Int} (r : List AV) (h0 : 0 ≤ n) (h1 : n < 256) : unB (.v (.int .u8 n) :: r) = (unB r).map (UInt8.ofNat n.toNat :: ·) := by simp [unB, h0, h1]
theorem unB_nil : unB [] = some [] := rfl
theorem cnv_str {s d : TypeId} (x : ByteArray) (hs : P.underlying s = some .string) (hd : P.underlying d = some .string) : cnv P s d (.string x) = some (.string x) := by
  simp only [cnv, convert, pr_bind, pr_underlying hs, pr_underlying hd, Option.bind_some]
  rfl
theorem roX_os {keep : List Nat} {k off sz n : Nat} : roC hp keep (.os k off sz n) = if k ∈ keep then some (.os k off sz n) else (slX (look hp k) off sz n).bind fun q => if q.2.all dataC = true then some (.rd q.1 q.2) else none := rfl
def rpX (cs : List AV) (off : Nat) : Option AV := if (cs.drop off).all dataC = true ∧ off < cs.length then some (.rp (cs.drop off)) else none
theorem roX_pt {keep : List Nat} {k off : Nat} : roC hp keep (.pt k off) = if k ∈ keep then some (.pt k off) else (look hp k).bind fun cs => rpX cs off := rfl
theorem rpX_ok {cs : List AV} {off : Nat} (h1 : (cs.drop off).all dataC = true) (h2 : off < cs.length) : rpX cs off = some (.rp (cs.drop off)) := by unfold rpX; rw [if_pos ⟨h1, h2⟩]
theorem dataC_v (x : Value) : dataC (.v x) = true := rfl
theorem dataC_rd (n : Nat) (cs : List AV) : dataC (.rd n cs) = true := rfl
end
attribute [go_sem] mentM_v mentM_un mentM_rd mentM_rp mentM_os mentM_pt mentM_ag mentM_tp partM_v partM_rd partM_os partM_pt partM_ag cellM_v cellM_un cellM_rd cellM_rp cellM_os cellM_pt okC_v okC_rd okC_os okC_pt one_int one_bool one_string one_slice dataC_v dataC_rd freeOf_nil freeOf_cons freeOf_append freeOf_map_v
attribute [go_sem] killX_def killC_def turn_nil turn_cons hset_nil hset_cons mk_ok evAlloc_def evBox_def evStore_def stoX_ok evLit_def litX_ok litPl_zero litPl_succ aFill_def filX_ok qBuild_def sliceC_os_def slX_ok srcC_rd srcC_os srcC_nil srcC_str appX_ok cutX_ok evAppend_os evAppend_nil evMake_def mkX_ok qSlice_lh qSlice_l qSlice_h qSlice_lhm lenA_rd lenA_os qsX_rd qsX_os qIdx_rd_def qIdx_os_def ixX_rd ixX_os qIdx_pt_def arX_ok qCells_def vrX_one vrX_row qConv_rd qConv_os qConv_nil bsX_ok unB_one unB_nil cnv_str roX_os roX_pt rpX_ok sliceC_rd sliceC_nil
end Go.Proofs.Ytcplbbbjmalfjaa
