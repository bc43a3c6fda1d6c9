/- Runs: plain words. -/
import Derived.Test.YtllhcgfdjfmmeaaCom
import Derived.Test.YtllhcgfdjfmmeaaStEq
import Derived.Test.YtllhcgfdjfmmeaaMgD
namespace Go.Proofs.Ytllhcgfdjfmmeaa
open Go.RowKit
set_option linter.unusedVariables false
set_option linter.unusedSimpArgs false
/-- A run, an element: its text and its class. -/
structure El where
  t : List UInt8
  k : Int
instance : DecidableEq El := fun a b => if h : a.t = b.t ∧ a.k = b.k then .isTrue (by cases a; cases b; simp_all) else .isFalse (fun e => h (by rw [e]; exact ⟨rfl, rfl⟩))
abbrev elA (x : El) : AV := .ag [az x.t, ai x.k]
abbrev elC (L : List El) : List AV := L.flatMap fun x => [az x.t, ai x.k]
abbrev elsA (L : List El) : AV := .rd L.length (elC L)
theorem elC_len (L : List El) : (elC L).length = L.length * 2 := by
  induction L with
  | nil => rfl
  | cons x r ih => simp only [elC, List.flatMap_cons, List.length_append, List.length_cons, List.length_nil] at ih ⊢; omega
theorem elC_drop (L : List El) : ∀ i, (elC L).drop (i * 2) = elC (L.drop i) := by
  induction L with
  | nil => intro i; simp [elC]
  | cons x r ih =>
    intro i
    cases i with
    | zero => rfl
    | succ i => rw [show (i + 1) * 2 = i * 2 + 2 from by omega]; exact ih i
theorem elC_take (L : List El) : ∀ i, (elC L).take (i * 2) = elC (L.take i) := by
  induction L with
  | nil => intro i; simp [elC]
  | cons x r ih =>
    intro i
    cases i with
    | zero => rfl
    | succ i =>
      rw [show (i + 1) * 2 = i * 2 + 2 from by omega]
      have := ih i
      simp only [elC, List.flatMap_cons, List.take_succ_cons, List.cons_append, List.nil_append] at this ⊢
      rw [this]
theorem elsA_drop {L : List El} {i : Nat} (h : i ≤ L.length) : AV.rd (L.length - i) ((elC L).drop (i * 2)) = elsA (L.drop i) := by
  rw [elC_drop, ← List.length_drop]
/-- The bytes of elements. -/
def cat : List El → List UInt8
  | [] => []
  | x :: r => x.t ++ cat r
theorem cat_append (a b : List El) : cat (a ++ b) = cat a ++ cat b := by
  induction a with
  | nil => rfl
  | cons x r ih => simp [cat, ih, List.append_assoc]
theorem cat_take_len (L : List El) : ∀ i, (cat (L.take i)).length ≤ (cat L).length := by
  induction L with
  | nil => intro i; simp [cat]
  | cons x r ih =>
    intro i
    cases i with
    | zero => simp [cat]
    | succ i => simp only [List.take_succ_cons, cat, List.length_append]; have := ih i; omega
theorem cat_take_succ {L : List El} {i : Nat} (h : i < L.length) : cat (L.take (i + 1)) = cat (L.take i) ++ L[i].t := by
  rw [List.take_succ_eq_append_getElem h, cat_append]
  simp [cat]
theorem cat_get_len {L : List El} {i : Nat} (h : i < L.length) : L[i].t.length ≤ (cat L).length := by
  have := cat_take_len L (i + 1)
  rw [cat_take_succ h, List.length_append] at this
  omega
theorem elC_append (a b : List El) : elC (a ++ b) = elC a ++ elC b := by simp [elC]
theorem one_byte {l : List UInt8} {i : Nat} (h : i < l.length) : (l.drop i).take (i + 1 - i) = [l[i]] := by
  rw [show i + 1 - i = 1 from by omega, List.drop_eq_getElem_cons h]; rfl
theorem elC_data (L : List El) : (elC L).all dataC = true := by
  induction L with
  | nil => rfl
  | cons x r ih => simp only [elC, List.flatMap_cons, List.all_append] at ih ⊢; rw [ih]; rfl
end Go.Proofs.Ytllhcgfdjfmmeaa
