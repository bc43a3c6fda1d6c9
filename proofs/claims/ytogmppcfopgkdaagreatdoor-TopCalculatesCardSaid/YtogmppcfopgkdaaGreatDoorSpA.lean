/- Runs: plain words. -/
import Derived.Test.YtogmppcfopgkdaaGreatDoorStEq
import Derived.Test.YtogmppcfopgkdaaGreatDoorMgD
import Derived.Test.YtogmppcfopgkdaaGreatDoorBldN
import Derived.Test.YtogmppcfopgkdaaGreatDoorStr
import Derived.Test.YtogmppcfopgkdaaGreatDoorTsA
namespace Go.Proofs.YtogmppcfopgkdaaGreatDoor
open Go.RowKit
set_option linter.unusedVariables false
set_option linter.unusedSimpArgs false
/-- A run, an element: its text and its class. -/
structure El where
  t : List UInt8
  k : Int
instance : DecidableEq El := fun a b => if h : a.t = b.t ∧ a.k = b.k then .isTrue (by cases a; cases b; simp_all) else .isFalse (fun e => h (by rw [e]; exact ⟨rfl, rfl⟩))
abbrev elA (x : El) : AV := .ag [az x.t, ai x.k]
abbrev elC (L : List El) : List AV := L.flatMap fun x => [az x.t, ai x.k]
abbrev elsA (L : List El) : AV := .rd L.length (elC L)
theorem elC_len (L : List El) : (elC L).length = L.length * 2 := by
  induction L with
  | nil => rfl
  | cons x r ih => simp only [elC, List.flatMap_cons, List.length_append, List.length_cons, List.length_nil] at ih ⊢; omega
theorem elC_drop (L : List El) : ∀ i, (elC L).drop (i * 2) = elC (L.drop i) := by
  induction L with
  | nil => intro i; simp [elC]
  | cons x r ih =>
    intro i
    cases i with
    | zero => rfl
    | succ i => rw [show (i + 1) * 2 = i * 2 + 2 from by omega]; exact ih i
theorem elC_take (L : List El) : ∀ i, (elC L).take (i * 2) = elC (L.take i) := by
  induction L with
  | nil => intro i; simp [elC]
  | cons x r ih =>
    intro i
    cases i with
    | zero => rfl
    | succ i =>
      rw [show (i + 1) * 2 = i * 2 + 2 from by omega]
      have := ih i
      simp only [elC, List.flatMap_cons, List.take_succ_cons, List.cons_append, List.nil_append] at this ⊢
      rw [this]
theorem elsA_drop {L : List El} {i : Nat} (h : i ≤ L.length) : AV.rd (L.length - i) ((elC L).drop (i * 2)) = elsA (L.drop i) := by
  rw [elC_drop, ← List.length_drop]
/-- The bytes of elements. -/
def cat : List El → List UInt8
  | [] => []
  | x :: r => x.t ++ cat r
theorem cat_append (a b : List El) : cat (a ++ b) = cat a ++ cat b := by
  induction a with
  | nil => rfl
  | cons x r ih => simp [cat, ih, List.append_assoc]
theorem cat_take_len (L : List El) : ∀ i, (cat (L.take i)).length ≤ (cat L).length := by
  induction L with
  | nil => intro i; simp [cat]
  | cons x r ih =>
    intro i
    cases i with
    | zero => simp [cat]
    | succ i => simp only [List.take_succ_cons, cat, List.length_append]; have := ih i; omega
theorem cat_take_succ {L : List El} {i : Nat} (h : i < L.length) : cat (L.take (i + 1)) = cat (L.take i) ++ L[i].t := by
  rw [List.take_succ_eq_append_getElem h, cat_append]
  simp [cat]
theorem cat_get_len {L : List El} {i : Nat} (h : i < L.length) : L[i].t.length ≤ (cat L).length := by
  have := cat_take_len L (i + 1)
  rw [cat_take_succ h, List.length_append] at this
  omega
theorem elC_append (a b : List El) : elC (a ++ b) = elC a ++ elC b := by simp [elC]
theorem one_byte {l : List UInt8} {i : Nat} (h : i < l.length) : (l.drop i).take (i + 1 - i) = [l[i]] := by
  rw [show i + 1 - i = 1 from by omega, List.drop_eq_getElem_cons h]; rfl
theorem elC_data (L : List El) : (elC L).all dataC = true := by
  induction L with
  | nil => rfl
  | cons x r ih => simp only [elC, List.flatMap_cons, List.all_append] at ih ⊢; rw [ih]; rfl
end Go.Proofs.YtogmppcfopgkdaaGreatDoor
/- split: small functions on the abstract machine. -/
namespace Go.Proofs.YtogmppcfopgkdaaGreatDoor
open Go.RowKit Go.Shelf
set_option linter.unusedVariables false
set_option linter.unusedSimpArgs false
set_option maxRecDepth 100000
set_option maxHeartbeats 8000000
theorem join_ab (L : List El) (hL : L.length ≤ 1000000) (hc : (cat L).length ≤ 1000000) : Ab Tryz.prog 124 [elsA L] (az (cat L)) := by
  refine Fn_of_aw (keep := []) Tryz.func124 rfl rfl (by simp [Tryz.ntmps124]) ?_
  simp only [num_cons, num_nil, Tryz.ntmps124, Tryz.results124]
  refine aw_of_awB tBld 5 ?_
  exact wq16
theorem text_ab (L : List El) (hL : L.length ≤ 1000000) (hc : (cat L).length ≤ 1000000) : Ab Tryz.prog 46 [elsA L] (az (cat L)) := by
  refine Fn_of_aw (keep := []) Tryz.func46 rfl rfl (by simp [Tryz.ntmps46]) ?_
  simp only [num_cons, num_nil, Tryz.ntmps46, Tryz.results46]
  refine aw_of_awB tBld 5 ?_
  exact wq16
theorem idx_contains (l : List UInt8) (c : UInt8) : decide (0 ≤ Lib.indexByte l c) = l.contains c := by
  have h0 : ∀ l : List UInt8, -1 ≤ Lib.indexByte l c := fun l => by
    induction l with
    | nil => exact Int.le_refl _
    | cons b l ih => simp only [Lib.indexByte]; (repeat' split) <;> omega
  induction l with
  | nil => rfl
  | cons b l ih =>
    have := h0 l
    rw [List.contains_cons, ← ih]
    simp only [Lib.indexByte]
    by_cases hb : b = c
    · subst hb; simp
    · have hb' : ¬ c = b := fun e => hb e.symm
      simp only [beq_iff_eq, hb, if_false]
      rw [show (c == b) = false from by simpa using hb', Bool.false_or]
      split
      · next h => simp [h]
      · next h => rw [decide_eq_decide]; omega
theorem contains_ab (l : List UInt8) (c : UInt8) : Ab Tryz.prog 183 [az l, az [c]] (ab (l.contains c)) := by
  refine Ab_plain (xs := [.string (str l), .string (str [c])]) (by kernel_rfl) fun w => (Any.strings_Contains_one shl144 (str l) c w).mono fun e w' ⟨he, hw⟩ => ⟨?_, hw⟩
  rw [he, ← idx_contains]
  rfl
/-- A separator. -/
def sepB (ifs : List UInt8) (x : El) : Bool := decide (x.k = 2) && match x.t with
  | [c] => ifs.contains c
  | _ => false
def okE (x : El) : Prop := x.k = 2 → ∃ c, x.t = [c]
def wtB (x : El) : Bool := decide (x.t = [32]) || decide (x.t = [9]) || decide (x.t = [10])
def whB (ifs : List UInt8) (x : El) : Bool := sepB ifs x && wtB x
def delB (ifs : List UInt8) : List El → Bool
  | [] => false
  | x :: _ => sepB ifs x && !whB ifs x
theorem separates_ab (x : El) (ifs : List UInt8) (h : okE x) : Ab Tryz.prog 123 [elA x, az ifs] (ab (sepB ifs x)) := by
  obtain ⟨t, k⟩ := x
  by_cases hk : k = 2
  · subst hk
    obtain ⟨c, rfl⟩ := h rfl
    have c1 := contains_ab ifs c
    refine Fn_of_aw (keep := []) Tryz.func123 rfl rfl (by simp [Tryz.ntmps123]) ?_
    simp only [num_cons, num_nil, Tryz.ntmps123, Tryz.results123]
    repeat' (first
 | ((with_reducible apply awO_ev); (· rfl); (· exact sv))
 | ((with_reducible apply aw_seq); intro _ _)
 | (with_reducible apply aw_region)
 | ((with_reducible first | apply awO_nil | apply aw_exit | apply aw_skip | apply aw_ret); (try simp only [CT, ↓reduceIte, Nat.reduceEqDiff]))
 | ((with_reducible apply awO_y); (· rfl); (· rfl); (· decide); (· exact sv); (· exact sv))
 | ((with_reducible apply awO_un); (· rfl); (· decide); (· exact sv))
 | (refine Kont.go ‹Kont _ _ _ _› _ ?_)
 | ((with_reducible apply awO_c); (· rfl); (· rfl); (· exact sv); (· (first | with_reducible exact c1)); (· rfl); (· rfl); (· rfl); (· decide))
 | ((with_reducible apply retQ_mk); (· exact rI); (· exact sv); (· exact sv); rotate_left; (· rfl)))
    all_goals simp [sepB]
  · skip
    refine Fn_of_aw (keep := []) Tryz.func123 rfl rfl (by simp [Tryz.ntmps123]) ?_
    simp only [num_cons, num_nil, Tryz.ntmps123, Tryz.results123]
    repeat' (first
 | ((with_reducible apply awO_ev); (· rfl); (· exact sv))
 | ((with_reducible apply aw_seq); intro _ _)
 | (with_reducible apply aw_region)
 | ((with_reducible first | apply awO_nil | apply aw_exit | apply aw_skip | apply aw_ret); (try simp only [CT, ↓reduceIte, Nat.reduceEqDiff]))
 | ((with_reducible apply awO_n); (· rfl); (· rfl); (· decide); (· exact sv); (· rfl); (· rfl); (· decide))
 | (refine Kont.go ‹Kont _ _ _ _› _ ?_)
 | ((first | ((with_reducible apply awO_guardN); (· rfl); (· rfl); (· exact sv); (· exact nB)) | ((with_reducible apply aw_condN); (· exact sv))); (· exact pN); (· exact pN); all_goals (intro hg; try (exfalso; omega)))
 | ((with_reducible apply retQ_mk); (· exact rI); (· exact sv); (· exact sv); rotate_left; (· rfl)))
    all_goals simp [sepB, hk]
theorem white_ab (x : El) (ifs : List UInt8) (h : okE x) : Ab Tryz.prog 120 [elA x, az ifs] (ab (whB ifs x)) := by
  have c1 := separates_ab x ifs h
  unfold whB
  cases hs : sepB ifs x with
  | false =>
    rw [hs] at c1
    refine Fn_of_aw (keep := []) Tryz.func120 rfl rfl (by simp [Tryz.ntmps120]) ?_
    simp only [num_cons, num_nil, Tryz.ntmps120, Tryz.results120]
    repeat' (first
 | ((with_reducible apply awO_ev); (· rfl); (· exact sv))
 | ((with_reducible apply aw_seq); intro _ _)
 | (with_reducible apply aw_region)
 | ((with_reducible first | apply awO_nil | apply aw_exit | apply aw_skip | apply aw_ret); (try simp only [CT, ↓reduceIte, Nat.reduceEqDiff]))
 | ((with_reducible apply awO_n); (· rfl); (· rfl); (· decide); (· exact sv); (· rfl); (· rfl); (· decide))
 | ((with_reducible apply awO_u); (· rfl); (· rfl); (· exact svr); (· rfl); (· decide))
 | (refine Kont.go ‹Kont _ _ _ _› _ ?_)
 | ((with_reducible apply awO_c); (· rfl); (· rfl); (· exact sv); (· (first | with_reducible exact c1)); (· rfl); (· rfl); (· rfl); (· decide))
 | ((with_reducible apply retQ_mk); (· exact rI); (· exact sv); (· exact sv); rotate_left; (· rfl)))
    all_goals simp
  | true =>
    rw [hs] at c1
    obtain ⟨t, k⟩ := x
    unfold wtB
    refine Fn_of_aw (keep := []) Tryz.func120 rfl rfl (by simp [Tryz.ntmps120]) ?_
    simp only [num_cons, num_nil, Tryz.ntmps120, Tryz.results120]
    repeat' (first
 | ((with_reducible apply awO_ev); (· rfl); (· exact sv))
 | ((with_reducible apply aw_seq); intro _ _)
 | (with_reducible apply aw_region)
 | ((with_reducible first | apply awO_nil | apply aw_exit | apply aw_skip | apply aw_ret); (try simp only [CT, ↓reduceIte, Nat.reduceEqDiff]))
 | ((with_reducible apply awO_y); (· rfl); (· rfl); (· decide); (· exact sv); (· exact sv))
 | ((with_reducible apply awO_n); (· rfl); (· rfl); (· decide); (· exact sv); (· rfl); (· rfl); (· decide))
 | (refine Kont.go ‹Kont _ _ _ _› _ ?_)
 | ((with_reducible apply awO_c); (· rfl); (· rfl); (· exact sv); (· (first | with_reducible exact c1)); (· rfl); (· rfl); (· rfl); (· decide))
 | ((first | ((with_reducible apply awO_guardN); (· rfl); (· rfl); (· exact sv); (· exact nB)) | ((with_reducible apply aw_condN); (· exact sv))); (· exact pN); (· exact pN); all_goals (intro hg; try (exfalso; omega)))
 | ((with_reducible apply retQ_mk); (· exact rI); (· exact sv); (· exact sv); rotate_left; (· rfl)))
    all_goals simp_all
theorem dropE {L : List El} {i : Nat} (h : i < L.length) : L.drop i = L[i] :: L.drop (i + 1) := List.drop_eq_getElem_cons h
theorem delimits_ab (L : List El) (ifs : List UInt8) (h : ∀ x ∈ L, okE x) (hL : L.length ≤ 1000000) : Ab Tryz.prog 122 [elsA L, az ifs] (ab (delB ifs L)) := by
  cases L with
  | nil =>
    refine Fn_of_aw (keep := []) Tryz.func122 rfl rfl (by simp [Tryz.ntmps122]) ?_
    simp only [num_cons, num_nil, Tryz.ntmps122, Tryz.results122]
    repeat' (first
 | ((with_reducible apply awO_ev); (· rfl); (· exact sv))
 | ((with_reducible apply aw_seq); intro _ _)
 | (with_reducible apply aw_region)
 | ((with_reducible first | apply awO_nil | apply aw_exit | apply aw_skip | apply aw_ret); (try simp only [CT, ↓reduceIte, Nat.reduceEqDiff]))
 | ((with_reducible apply awO_n); (· rfl); (· rfl); (· decide); (· exact sv); (· rfl); (· rfl); (· decide))
 | (refine Kont.go ‹Kont _ _ _ _› _ ?_)
 | ((with_reducible apply retQ_mk); (· exact rI); (· exact sv); (· exact sv); rotate_left; (· rfl)))
    all_goals rfl
  | cons x r =>
    have c1 := separates_ab x ifs (h x (List.mem_cons_self ..))
    have c2 := white_ab x ifs (h x (List.mem_cons_self ..))
    simp only [List.length_cons] at hL
    cases hs : sepB ifs x with
    | false =>
      rw [hs] at c1
      refine Fn_of_aw (keep := []) Tryz.func122 rfl rfl (by simp [Tryz.ntmps122]) ?_
      simp only [num_cons, num_nil, Tryz.ntmps122, Tryz.results122]
      exact wq17
    | true =>
      rw [hs] at c1
      refine Fn_of_aw (keep := []) Tryz.func122 rfl rfl (by simp [Tryz.ntmps122]) ?_
      simp only [num_cons, num_nil, Tryz.ntmps122, Tryz.results122]
      exact wq17
/-- Behind the white space separators. -/
def skW (ifs : List UInt8) (L : List El) : List El := L.dropWhile (whB ifs)
theorem skip_ab (L : List El) (ifs : List UInt8) (h : ∀ x ∈ L, okE x) (hL : L.length ≤ 1000000) : Ab Tryz.prog 121 [elsA L, az ifs] (elsA (skW ifs L)) := by
  refine Fn_of_aw (keep := []) Tryz.func121 rfl rfl (by simp [Tryz.ntmps121]) ?_
  simp only [num_cons, num_nil, Tryz.ntmps121, Tryz.results121]
  repeat' (first
 | ((with_reducible apply awO_ev); (· rfl); (· exact sv))
 | ((with_reducible apply aw_seq); intro _ _)
 | (with_reducible apply aw_region)
 | (with_reducible apply aw_block)
 | ((with_reducible first | apply awO_nil | apply aw_exit | apply aw_skip | apply aw_ret); (try simp only [CT, ↓reduceIte, Nat.reduceEqDiff]))
 | (refine Kont.go ‹Kont _ _ _ _› _ ?_))
  refine aw_loopF (fun i : Nat => [(5, ai i)]) (fun _ => []) (fun i => i ≤ L.length ∧ skW ifs L = skW ifs (L.drop i)) (fun i => L.length - i) 0 ⟨by omega, rfl⟩ ?_ ?_ ?_
  · (simp only [LP, look_cons, look_nil, and_true, true_and, ↓reduceIte, Nat.reduceEqDiff, Option.some.injEq, AV.v.injEq, Value.int.injEq, Int.natCast_add, Int.cast_ofNat_Int])
  · (simp only [LP, look_cons, look_nil, and_true, true_and, ↓reduceIte, Nat.reduceEqDiff, Option.some.injEq, AV.v.injEq, Value.int.injEq, Int.natCast_add, Int.cast_ofNat_Int])
  intro i ⟨hi, hI⟩
  (simp only [LP, List.append_assoc, List.nil_append, List.cons_append, List.append_nil, List.contains_cons, List.contains_nil, Nat.reduceBEq, Bool.or_false, Bool.or_true, Bool.true_or, Bool.false_or, ↓reduceIte, Bool.false_eq_true])
  by_cases hil : i < L.length
  · have c1 := white_ab L[i] ifs (h _ (List.getElem_mem hil))
    rw [dropE hil] at hI
    cases hw : whB ifs L[i] with
    | true =>
      rw [hw] at c1
      repeat' (first
 | ((with_reducible apply awO_ev); (· rfl); (· exact sv))
 | ((with_reducible apply aw_seq); intro _ _)
 | (with_reducible apply aw_region)
 | (with_reducible apply aw_block)
 | ((with_reducible first | apply awO_nil | apply aw_exit | apply aw_skip | apply aw_ret); (try simp only [CT, ↓reduceIte, Nat.reduceEqDiff]))
 | ((with_reducible apply awO_y); (· rfl); (· rfl); (· decide); (· exact sv); (· exact sv))
 | ((with_reducible apply aw_cond_true); (· exact sv))
 | ((with_reducible apply awO_un); (· rfl); (· decide); (· exact sv))
 | (refine Kont.go ‹Kont _ _ _ _› _ ?_)
 | ((with_reducible apply awO_c); (· rfl); (· rfl); (· exact sv); (· (first | with_reducible exact c1)); (· rfl); (· rfl); (· rfl); (· decide))
 | ((first | ((with_reducible apply awO_guardN); (· rfl); (· rfl); (· exact sv); (· exact nB)) | ((with_reducible apply aw_condN); (· exact sv))); (· exact pN); (· exact pN); all_goals (intro hg; try (exfalso; omega))))
      refine LE_mk (i + 1) ?_ ?_ sN sN sN
      · refine ⟨by omega, ?_⟩
        rw [hI, skW, List.dropWhile_cons, if_pos hw]; rfl
      · omega
    | false =>
      rw [hw] at c1
      have e1 : skW ifs (L[i] :: L.drop (i + 1)) = L.drop i := by rw [skW, List.dropWhile_cons, if_neg (by simp [hw]), dropE hil]
      rw [e1] at hI
      repeat' (first
 | ((with_reducible apply awO_ev); (· rfl); (· exact sv))
 | ((with_reducible apply aw_seq); intro _ _)
 | (with_reducible apply aw_region)
 | ((with_reducible first | apply awO_nil | apply aw_exit | apply aw_skip | apply aw_ret); (try simp only [CT, ↓reduceIte, Nat.reduceEqDiff]))
 | ((with_reducible apply awO_y); (· rfl); (· rfl); (· decide); (· exact sv); (· exact sv))
 | ((with_reducible apply aw_cond_false); (· exact sv))
 | ((with_reducible apply awO_un); (· rfl); (· decide); (· exact sv))
 | (refine Kont.go ‹Kont _ _ _ _› _ ?_)
 | ((with_reducible apply awO_c); (· rfl); (· rfl); (· exact sv); (· (first | with_reducible exact c1)); (· rfl); (· rfl); (· rfl); (· decide))
 | ((first | ((with_reducible apply awO_guardN); (· rfl); (· rfl); (· exact sv); (· exact nB)) | ((with_reducible apply aw_condN); (· exact sv))); (· exact pN); (· exact pN); all_goals (intro hg; try (exfalso; omega)))
 | ((with_reducible apply retQ_mk); (· exact rI); (· exact sv); (· exact sv); rotate_left; (· rfl)))
      all_goals (rw [hI]; show AV.rd _ (elC (L[i] :: L.drop (i + 1))) = _; rw [← dropE hil, ← List.length_drop])
  · have hn : L.drop i = [] := List.drop_eq_nil_of_le (by omega)
    repeat' (first
 | ((with_reducible apply awO_ev); (· rfl); (· exact sv))
 | ((with_reducible apply aw_seq); intro _ _)
 | (with_reducible apply aw_region)
 | ((with_reducible first | apply awO_nil | apply aw_exit | apply aw_skip | apply aw_ret); (try simp only [CT, ↓reduceIte, Nat.reduceEqDiff]))
 | ((with_reducible apply awO_n); (· rfl); (· rfl); (· decide); (· exact sv); (· rfl); (· rfl); (· decide))
 | ((with_reducible apply aw_cond_false); (· exact sv))
 | (refine Kont.go ‹Kont _ _ _ _› _ ?_)
 | ((first | ((with_reducible apply awO_guardN); (· rfl); (· rfl); (· exact sv); (· exact nB)) | ((with_reducible apply aw_condN); (· exact sv))); (· exact pN); (· exact pN); all_goals (intro hg; try (exfalso; omega)))
 | ((with_reducible apply retQ_mk); (· exact rI); (· exact sv); (· exact sv); rotate_left; (· rfl)))
    all_goals (rw [hI, hn, elsA_drop hi, hn]; rfl)
end Go.Proofs.YtogmppcfopgkdaaGreatDoor
