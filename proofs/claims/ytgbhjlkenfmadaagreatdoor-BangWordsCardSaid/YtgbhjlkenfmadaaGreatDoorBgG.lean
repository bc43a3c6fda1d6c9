/- The history's Get, Begins and Contains, on the abstract machine. -/
import Derived.Test.YtgbhjlkenfmadaaGreatDoorBgF
namespace Go.Proofs.YtgbhjlkenfmadaaGreatDoor
open Go.RowKit
set_option linter.unusedVariables false
set_option linter.unusedSimpArgs false
set_option maxRecDepth 100000
set_option maxHeartbeats 8000000
abbrev hsA (f : Int) (L : List (List UInt8)) : AV := .ag [ai f, .rd L.length (L.map az)]
def getR (F : Int) (L : List (List UInt8)) (n : Int) : List UInt8 × Int := match getL F L n with
  | some l => (l, 0)
  | none => ([], 8)
theorem get_ab (F : Int) (L : List (List UInt8)) (n : Int) (hF : 1 ≤ F ∧ F ≤ 4294967296) (hn : -4294967296 ≤ n ∧ n ≤ 4294967296) (hL : L.length ≤ 100000) : Ab Tryz.prog 106 [hsA F L, ai n] (.tp [az (getR F L n).1, ai (getR F L n).2]) := by
  by_cases h : F ≤ n ∧ n < F + L.length
  · obtain ⟨k, rfl⟩ : ∃ k : Nat, n = F + k := ⟨(n - F).toNat, by omega⟩
    have hk : k < L.length := by omega
    have e : getR F L (F + k) = (L[k], 0) := by unfold getR; rw [getL_idx hk, List.getElem?_eq_getElem hk]
    have e2 : F + (k : Int) - F = k := by omega
    refine Fn_of_aw (keep := []) Tryz.func106 rfl rfl (by simp [Tryz.ntmps106]) ?_
    simp only [num_cons, num_nil, Tryz.ntmps106, Tryz.results106]
    repeat' (first
 | ((with_reducible apply awO_ev); (· rfl); (· exact sv))
 | ((with_reducible apply aw_seq); intro _ _)
 | (with_reducible apply aw_region)
 | ((with_reducible first | apply awO_nil | apply aw_exit | apply aw_skip | apply aw_ret); (try simp only [CT, ↓reduceIte, Nat.reduceEqDiff]))
 | ((with_reducible apply awO_y); (· rfl); (· rfl); (· decide); (· exact sv); (· exact sv))
 | (refine Kont.go ‹Kont _ _ _ _› _ ?_)
 | ((first | ((with_reducible apply awO_guardN); (· rfl); (· rfl); (· exact sv); (· exact nB)) | ((with_reducible apply aw_condN); (· exact sv))); (· exact pN); (· exact pN); all_goals (intro hg; try (exfalso; omega)))
 | ((with_reducible apply retQ_mk); (· exact rI); (· exact sv); (· exact sv); rotate_left; (· rfl)))
    all_goals first | rfl | (rw [e]; simp only [e2, Int.toNat_natCast])
  · have e : getR F L n = ([], 8) := by unfold getR getL; rw [if_neg h]
    refine Fn_of_aw (keep := []) Tryz.func106 rfl rfl (by simp [Tryz.ntmps106]) ?_
    simp only [num_cons, num_nil, Tryz.ntmps106, Tryz.results106]
    repeat' (first
 | ((with_reducible apply awO_ev); (· rfl); (· exact sv))
 | ((with_reducible apply aw_seq); intro _ _)
 | (with_reducible apply aw_region)
 | ((with_reducible first | apply awO_nil | apply aw_exit | apply aw_skip | apply aw_ret); (try simp only [CT, ↓reduceIte, Nat.reduceEqDiff]))
 | ((with_reducible apply awO_y); (· rfl); (· rfl); (· decide); (· exact sv); (· exact sv))
 | ((with_reducible apply awO_n); (· rfl); (· rfl); (· decide); (· exact sv); (· rfl); (· rfl); (· decide))
 | ((with_reducible apply aw_cond_true); (· exact sv))
 | (refine Kont.go ‹Kont _ _ _ _› _ ?_)
 | ((first | ((with_reducible apply awO_guardN); (· rfl); (· rfl); (· exact sv); (· exact nB)) | ((with_reducible apply aw_condN); (· exact sv))); (· exact pN); (· exact pN); all_goals (intro hg; try (exfalso; omega)))
 | ((with_reducible apply retQ_mk); (· exact rI); (· exact sv); (· exact sv); rotate_left; (· rfl)))
    all_goals first | rfl | (rw [e]; done)
theorem begins1_fn (l p : List UInt8) : Fn Tryz.prog 132 [az l, .pt 3 0] [(3, [az p])] (ab (p.isPrefixOf l)) [(3, [az p])] [3] := by
  have c1 := hasPrefix_ab l p
  refine Fn_of_aw (keep := [3]) Tryz.func132 rfl rfl (by simp [Tryz.ntmps132]) ?_
  simp only [num_cons, num_nil, Tryz.ntmps132, Tryz.results132]
  repeat' (first
 | ((with_reducible apply awO_ev); (· rfl); (· exact sv))
 | ((with_reducible apply aw_seq); intro _ _)
 | (with_reducible apply aw_region)
 | ((with_reducible first | apply awO_nil | apply aw_exit | apply aw_skip | apply aw_ret); (try simp only [CT, ↓reduceIte, Nat.reduceEqDiff]))
 | (refine Kont.go ‹Kont _ _ _ _› _ ?_)
 | ((with_reducible apply awO_c); (· rfl); (· rfl); (· exact sv); (· (first | exact c1)); (· rfl); (· rfl); (· rfl); (· decide))
 | ((try with_reducible apply wk_id); (with_reducible apply retQ_mk1); (· exact rI); (· exact sv); (· exact sv); (· exact sv); (· exact sv); rotate_left; rotate_left; (· simp); (· rfl)))
  all_goals rfl
theorem contains1_fn (l p : List UInt8) (hl : l.length ≤ 4000000000) : Fn Tryz.prog 144 [az l, .pt 3 0] [(3, [az p])] (ab (ixN p l).isSome) [(3, [az p])] [3] := by
  have c1 := contains_ab l p hl
  refine Fn_of_aw (keep := [3]) Tryz.func144 rfl rfl (by simp [Tryz.ntmps144]) ?_
  simp only [num_cons, num_nil, Tryz.ntmps144, Tryz.results144]
  repeat' (first
 | ((with_reducible apply awO_ev); (· rfl); (· exact sv))
 | ((with_reducible apply aw_seq); intro _ _)
 | (with_reducible apply aw_region)
 | ((with_reducible first | apply awO_nil | apply aw_exit | apply aw_skip | apply aw_ret); (try simp only [CT, ↓reduceIte, Nat.reduceEqDiff]))
 | (refine Kont.go ‹Kont _ _ _ _› _ ?_)
 | ((with_reducible apply awO_c); (· rfl); (· rfl); (· exact sv); (· (first | exact c1)); (· rfl); (· rfl); (· rfl); (· decide))
 | ((try with_reducible apply wk_id); (with_reducible apply retQ_mk1); (· exact rI); (· exact sv); (· exact sv); (· exact sv); (· exact sv); rotate_left; rotate_left; (· simp); (· rfl)))
  all_goals rfl
def lstZ (q : List UInt8 → Bool) (L : List (List UInt8)) : Int := match lstI q L with
  | none => -1
  | some k => k
theorem last_fn (f : FuncId) (q : List UInt8 → Bool) (p : List UInt8) (L : List (List UInt8)) (hL : L.length ≤ 100000) (hq : ∀ l ∈ L, Fn Tryz.prog f [az l, .pt 3 0] [(3, [az p])] (ab (q l)) [(3, [az p])] [3]) :
    Fn Tryz.prog 145 [.rd L.length (L.map az), .fn f [.pt 3 0]] [(3, [az p])] (ai (lstZ q L)) [(3, [az p])] [3] := by
  refine Fn_of_aw (keep := [3]) Tryz.func145 rfl rfl (by simp [Tryz.ntmps145]) ?_
  simp only [num_cons, num_nil, Tryz.ntmps145, Tryz.results145]
  repeat' (first
 | ((with_reducible apply awO_ev); (· rfl); (· exact sv))
 | ((with_reducible apply aw_seq); intro _ _)
 | (with_reducible apply aw_region)
 | (with_reducible apply aw_block)
 | ((with_reducible first | apply awO_nil | apply aw_exit | apply aw_skip | apply aw_ret); (try simp only [CT, ↓reduceIte, Nat.reduceEqDiff]))
 | (refine Kont.go ‹Kont _ _ _ _› _ ?_))
  refine aw_loopF (fun k : Nat => [(5, ai ((k : Int) - 1))]) (fun _ => [(3, [az p])]) (fun k => k ≤ L.length ∧ lstI q L = lstI q (L.take k)) (fun k => k) L.length ⟨Nat.le_refl _, by rw [List.take_length]⟩ ?_ ?_ ?_
  · exact ⟨rfl, trivial⟩
  · exact ⟨rfl, trivial⟩
  intro k ⟨hk, hI⟩
  (simp only [LP, List.append_assoc, List.nil_append, List.cons_append, List.append_nil, List.contains_cons, List.contains_nil, Nat.reduceBEq, Bool.or_false, Bool.or_true, Bool.true_or, Bool.false_or, ↓reduceIte, Bool.false_eq_true])
  cases k with
  | zero =>
    have e : lstZ q L = -1 := by unfold lstZ; rw [hI]; rfl
    repeat' (first
 | ((with_reducible apply awO_ev); (· rfl); (· exact sv))
 | ((with_reducible apply aw_seq); intro _ _)
 | (with_reducible apply aw_region)
 | ((with_reducible first | apply awO_nil | apply aw_exit | apply aw_skip | apply aw_ret); (try simp only [CT, ↓reduceIte, Nat.reduceEqDiff]))
 | ((with_reducible apply aw_cond_false); (· exact sv))
 | (refine Kont.go ‹Kont _ _ _ _› _ ?_)
 | ((try with_reducible apply wk_id); (with_reducible apply retQ_mk1); (· exact rI); (· exact sv); (· exact sv); (· exact sv); (· exact sv); rotate_left; rotate_left; (· simp); (· rfl)))
    all_goals first | rfl | rw [e]
  | succ k =>
    have c1 := hq L[k] (List.getElem_mem _)
    rw [lstI_take (by omega)] at hI
    have e1 : ((k + 1 : Nat) : Int) - 1 = k := by omega
    rw [e1]
    cases hb : q L[k] with
    | true =>
      rw [hb] at c1
      have e : lstZ q L = k := by unfold lstZ; rw [hI, if_pos hb]
      repeat' (first
 | ((with_reducible apply awO_ev); (· rfl); (· exact sv))
 | ((with_reducible apply aw_seq); intro _ _)
 | (with_reducible apply aw_region)
 | (with_reducible apply aw_block)
 | ((with_reducible first | apply awO_nil | apply aw_exit | apply aw_skip | apply aw_ret); (try simp only [CT, ↓reduceIte, Nat.reduceEqDiff]))
 | ((with_reducible apply aw_cond_true); (· exact sv))
 | (refine Kont.go ‹Kont _ _ _ _› _ ?_)
 | ((with_reducible apply awO_k); (· rfl); (· rfl); (· exact sv); (· exact sv); (· (first | exact c1)); (· exact svq); (· exact svq); (· exact svq); (· exact svq); (· rfl); (· exact nd); (with_reducible apply awO_st); (· exact svs))
 | ((first | ((with_reducible apply awO_guardN); (· rfl); (· rfl); (· exact sv); (· exact nB)) | ((with_reducible apply aw_condN); (· exact sv))); (· exact pN); (· exact pN); all_goals (intro hg; try (exfalso; omega)))
 | ((try with_reducible apply wk_id); (with_reducible apply retQ_mk1); (· exact rI); (· exact sv); (· exact sv); (· exact sv); (· exact sv); rotate_left; rotate_left; (· simp); (· rfl)))
      all_goals first | rfl | rw [e]
    | false =>
      rw [hb] at c1
      rw [if_neg (by rw [hb]; simp)] at hI
      repeat' (first
 | ((with_reducible apply awO_ev); (· rfl); (· exact sv))
 | ((with_reducible apply aw_seq); intro _ _)
 | (with_reducible apply aw_region)
 | (with_reducible apply aw_block)
 | ((with_reducible first | apply awO_nil | apply aw_exit | apply aw_skip | apply aw_ret); (try simp only [CT, ↓reduceIte, Nat.reduceEqDiff]))
 | ((with_reducible apply aw_cond_false); (· exact sv))
 | (refine Kont.go ‹Kont _ _ _ _› _ ?_)
 | ((with_reducible apply awO_k); (· rfl); (· rfl); (· exact sv); (· exact sv); (· (first | exact c1)); (· exact svq); (· exact svq); (· exact svq); (· exact svq); (· rfl); (· exact nd); (with_reducible apply awO_st); (· exact svs))
 | ((first | ((with_reducible apply awO_guardN); (· rfl); (· rfl); (· exact sv); (· exact nB)) | ((with_reducible apply aw_condN); (· exact sv))); (· exact pN); (· exact pN); all_goals (intro hg; try (exfalso; omega))))
      refine LE_mk k ⟨by omega, hI⟩ (by omega) sN sN ⟨rfl, trivial⟩
def numR (F : Int) (q : List UInt8 → Bool) (L : List (List UInt8)) : Int × Bool := match lstI q L with
  | none => (0, false)
  | some k => (F + k, true)
theorem number_hs (F : Int) (f : FuncId) (q : List UInt8 → Bool) (p : List UInt8) (L : List (List UInt8)) (hF : 1 ≤ F ∧ F ≤ 4294967296) (hL : L.length ≤ 100000) (hq : ∀ l ∈ L, Fn Tryz.prog f [az l, .pt 3 0] [(3, [az p])] (ab (q l)) [(3, [az p])] [3]) :
    Fn Tryz.prog 131 [hsA F L, .fn f [.pt 3 0]] [(3, [az p])] (.tp [ai (numR F q L).1, ab (numR F q L).2]) [(3, [az p])] [3] := by
  have c1 := last_fn f q p L hL hq
  refine Fn_of_aw (keep := [3]) Tryz.func131 rfl rfl (by simp [Tryz.ntmps131]) ?_
  simp only [num_cons, num_nil, Tryz.ntmps131, Tryz.results131]
  rcases h : lstI q L with _ | k
  · have e : numR F q L = (0, false) := by unfold numR; rw [h]
    have e2 : lstZ q L = -1 := by unfold lstZ; rw [h]
    rw [e2] at c1
    repeat' (first
 | ((with_reducible apply awO_ev); (· rfl); (· exact sv))
 | ((with_reducible apply aw_seq); intro _ _)
 | (with_reducible apply aw_region)
 | ((with_reducible first | apply awO_nil | apply aw_exit | apply aw_skip | apply aw_ret); (try simp only [CT, ↓reduceIte, Nat.reduceEqDiff]))
 | ((with_reducible apply aw_cond_true); (· exact sv))
 | (refine Kont.go ‹Kont _ _ _ _› _ ?_)
 | ((with_reducible apply awO_m); (· rfl); (· rfl); (· exact sv); (· (first | exact c1)); (· exact svq); (· exact svq); (· exact svq); (· exact svq); (· rfl); (· exact nd); (with_reducible apply awO_st); (· exact svs))
 | ((try with_reducible apply wk_id); (with_reducible apply retQ_mk1); (· exact rI); (· exact sv); (· exact sv); (· exact sv); (· exact sv); rotate_left; rotate_left; (· simp); (· rfl)))
    all_goals first | rfl | (rw [e]; done)
  · have e : numR F q L = (F + k, true) := by unfold numR; rw [h]
    have e2 : lstZ q L = k := by unfold lstZ; rw [h]
    have hk := lstI_lt h
    rw [e2] at c1
    repeat' (first
 | ((with_reducible apply awO_ev); (· rfl); (· exact sv))
 | ((with_reducible apply aw_seq); intro _ _)
 | (with_reducible apply aw_region)
 | ((with_reducible first | apply awO_nil | apply aw_exit | apply aw_skip | apply aw_ret); (try simp only [CT, ↓reduceIte, Nat.reduceEqDiff]))
 | (refine Kont.go ‹Kont _ _ _ _› _ ?_)
 | ((with_reducible apply awO_m); (· rfl); (· rfl); (· exact sv); (· (first | exact c1)); (· exact svq); (· exact svq); (· exact svq); (· exact svq); (· rfl); (· exact nd); (with_reducible apply awO_st); (· exact svs))
 | ((first | ((with_reducible apply awO_guardN); (· rfl); (· rfl); (· exact sv); (· exact nB)) | ((with_reducible apply aw_condN); (· exact sv))); (· exact pN); (· exact pN); all_goals (intro hg; try (exfalso; omega)))
 | ((try with_reducible apply wk_id); (with_reducible apply retQ_mk1); (· exact rI); (· exact sv); (· exact sv); (· exact sv); (· exact sv); rotate_left; rotate_left; (· simp); (· rfl)))
    all_goals first | rfl | (rw [e]; done)
theorem begins_hs (F : Int) (p : List UInt8) (L : List (List UInt8)) (hF : 1 ≤ F ∧ F ≤ 4294967296) (hL : L.length ≤ 100000) :
    Ab Tryz.prog 107 [hsA F L, az p] (.tp [ai (numR F (fun l => p.isPrefixOf l) L).1, ab (numR F (fun l => p.isPrefixOf l) L).2]) := by
  have c1 := number_hs F 132 (fun l => p.isPrefixOf l) p L hF hL (fun l _ => begins1_fn l p)
  refine Fn_of_aw (keep := []) Tryz.func107 rfl rfl (by simp [Tryz.ntmps107]) ?_
  simp only [num_cons, num_nil, Tryz.ntmps107, Tryz.results107]
  repeat' (first
 | ((with_reducible apply awO_ev); (· rfl); (· exact sv))
 | ((with_reducible apply aw_seq); intro _ _)
 | (with_reducible apply aw_region)
 | ((with_reducible first | apply awO_nil | apply aw_exit | apply aw_skip | apply aw_ret); (try simp only [CT, ↓reduceIte, Nat.reduceEqDiff]))
 | (refine Kont.go ‹Kont _ _ _ _› _ ?_)
 | ((with_reducible apply awO_m); (· rfl); (· rfl); (· exact sv); (· (first | exact c1)); (· exact svq); (· exact svq); (· exact svq); (· exact svq); (· rfl); (· exact nd); (with_reducible apply awO_st); (· exact svs))
 | ((with_reducible apply retQ_mk); (· exact rI); (· exact sv); (· exact sv); rotate_left; (· rfl)))
  all_goals rfl
theorem contains_hs (F : Int) (p : List UInt8) (L : List (List UInt8)) (hF : 1 ≤ F ∧ F ≤ 4294967296) (hL : L.length ≤ 100000) (hl : ∀ l ∈ L, l.length ≤ 4000000000) :
    Ab Tryz.prog 130 [hsA F L, az p] (.tp [ai (numR F (fun l => (ixN p l).isSome) L).1, ab (numR F (fun l => (ixN p l).isSome) L).2]) := by
  have c1 := number_hs F 144 (fun l => (ixN p l).isSome) p L hF hL (fun l h => contains1_fn l p (hl l h))
  refine Fn_of_aw (keep := []) Tryz.func130 rfl rfl (by simp [Tryz.ntmps130]) ?_
  simp only [num_cons, num_nil, Tryz.ntmps130, Tryz.results130]
  repeat' (first
 | ((with_reducible apply awO_ev); (· rfl); (· exact sv))
 | ((with_reducible apply aw_seq); intro _ _)
 | (with_reducible apply aw_region)
 | ((with_reducible first | apply awO_nil | apply aw_exit | apply aw_skip | apply aw_ret); (try simp only [CT, ↓reduceIte, Nat.reduceEqDiff]))
 | (refine Kont.go ‹Kont _ _ _ _› _ ?_)
 | ((with_reducible apply awO_m); (· rfl); (· rfl); (· exact sv); (· (first | exact c1)); (· exact svq); (· exact svq); (· exact svq); (· exact svq); (· rfl); (· exact nd); (with_reducible apply awO_st); (· exact svs))
 | ((with_reducible apply retQ_mk); (· exact rI); (· exact sv); (· exact sv); rotate_left; (· rfl)))
  all_goals rfl
end Go.Proofs.YtgbhjlkenfmadaaGreatDoor
