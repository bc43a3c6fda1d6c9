/- bang: last, quoted, plain, containing, quick, on the abstract machine. -/
import Derived.Test.YtgbhjlkenfmadaaGreatDoorBgG
import Derived.Test.YtgbhjlkenfmadaaGreatDoorBgD
namespace Go.Proofs.YtgbhjlkenfmadaaGreatDoor
open Go.RowKit
set_option linter.unusedVariables false
set_option linter.unusedSimpArgs false
set_option maxRecDepth 100000
set_option maxHeartbeats 8000000
theorem ixN_one (c d : UInt8) (r : List UInt8) : ixN [c] (d :: r) = if d = c then some 0 else (ixN [c] r).map (· + 1) := by
  rw [ixN]
  by_cases h : d = c
  · subst h; simp [List.isPrefixOf]
  · have h2 : ¬ c = d := fun e => h e.symm
    simp [List.isPrefixOf, h, h2]
theorem idxB_ix (c : UInt8) : ∀ l, idxB l c = ixI [c] l
  | [] => rfl
  | d :: r => by
    have ih := idxB_ix c r
    unfold idxB
    rw [ih]
    unfold ixI
    rw [ixN_one]
    by_cases h : d = c
    · rw [if_pos h, if_pos h]; rfl
    · rw [if_neg h, if_neg h]
      cases ixN [c] r with
      | none => rfl
      | some k =>
        show (if (k : Int) = -1 then -1 else (k : Int) + 1) = ((k + 1 : Nat) : Int)
        rw [if_neg (by omega)]
        omega
theorem tp3 {t t' : List UInt8} {a a' e e' : Int} (h1 : t = t') (h2 : a = a') (h3 : e = e') : AV.tp [.v (.string (str t)), .v (.int .i64 a), .v (.int .i64 e)] = .tp [az t', ai a', ai e'] := by rw [h1, h2, h3]
theorem ixN_mem (c : UInt8) : ∀ l, (ixN [c] l).isSome = l.contains c
  | [] => rfl
  | d :: r => by
    rw [ixN]
    by_cases h : d = c
    · subst h; simp [List.isPrefixOf]
    · have h2 : ¬ c = d := fun e => h e.symm
      have := ixN_mem c r
      simp [List.isPrefixOf, h2] at this ⊢
      exact this
theorem plc1 (c : UInt8) (h : c.toNat = 9 ∨ c.toNat = 10 ∨ c.toNat = 32 ∨ c.toNat = 61 ∨ c.toNat = 40) : (trB c && !evB c) = true := by
  rcases h with h | h | h | h | h
  · rw [show c = 9 from UInt8.toNat_inj.1 h]; decide
  · rw [show c = 10 from UInt8.toNat_inj.1 h]; decide
  · rw [show c = 32 from UInt8.toNat_inj.1 h]; decide
  · rw [show c = 61 from UInt8.toNat_inj.1 h]; decide
  · rw [show c = 40 from UInt8.toNat_inj.1 h]; decide
theorem plc2 (c : UInt8) (h : c.toNat = 33 ∨ c.toNat = 58 ∨ c.toNat = 94 ∨ c.toNat = 36 ∨ c.toNat = 42) : (trB c && !evB c) = false := by
  rcases h with h | h | h | h | h
  · rw [show c = 33 from UInt8.toNat_inj.1 h]; decide
  · rw [show c = 58 from UInt8.toNat_inj.1 h]; decide
  · rw [show c = 94 from UInt8.toNat_inj.1 h]; decide
  · rw [show c = 36 from UInt8.toNat_inj.1 h]; decide
  · rw [show c = 42 from UInt8.toNat_inj.1 h]; decide
theorem plc3 (c : UInt8) (h : ¬ (c.toNat = 33 ∨ c.toNat = 58 ∨ c.toNat = 94 ∨ c.toNat = 36 ∨ c.toNat = 42)) : (trB c && !evB c) = trB c := by
  have : evB c = false := by
    unfold evB
    rw [decide_eq_false]
    intro h'
    refine h ?_
    rcases h' with h' | h' | h' | h' | h' <;> subst h' <;> decide
  rw [this]
  simp
def lastR (L : List (List UInt8)) : List UInt8 × Int := match L.getLast? with
  | some l => (l, 0)
  | none => ([], 8)
def qtN (s : List UInt8) (i : Nat) : Nat := match ixN [39] (s.drop (i + 1)) with
  | none => s.length
  | some k => i + 1 + k + 1
section
variable (F : Int) (L : List (List UInt8)) (s : List UInt8) (sh : Bool)
theorem xlast_fn (hL : L.length ≤ 100000) : Fn Tryz.prog 33 [.pt 7 0] (xH F L s sh) (.tp [az (lastR L).1, ai (lastR L).2]) (xH F L s sh) [7] := by
  refine Fn_of_aw (keep := [7]) Tryz.func33 rfl rfl (by simp [Tryz.ntmps33]) ?_
  simp only [num_cons, num_nil, Tryz.ntmps33, Tryz.results33]
  by_cases h : L.length = 0
  · obtain rfl := List.eq_nil_of_length_eq_zero h
    have e : lastR [] = ([], 8) := rfl
    repeat' (first
 | ((with_reducible apply awO_ev); (· rfl); (· exact sv))
 | ((with_reducible apply aw_seq); intro _ _)
 | (with_reducible apply aw_region)
 | ((with_reducible first | apply awO_nil | apply aw_exit | apply aw_skip | apply aw_ret); (try simp only [CT, ↓reduceIte, Nat.reduceEqDiff]))
 | ((with_reducible apply aw_cond_true); (· exact sv))
 | (refine Kont.go ‹Kont _ _ _ _› _ ?_)
 | ((try with_reducible apply wk_id); (with_reducible apply retQ_mk1); (· exact rI); (· exact sv); (· exact sv); (· exact sv); (· exact sv); rotate_left; rotate_left; (· simp); (· rfl)))
    all_goals first | rfl | (rw [e]; done) | (rw [e]; rfl)
  · have hlt : L.length - 1 < L.length := by omega
    have e : lastR L = (L[L.length - 1], 0) := by unfold lastR; rw [List.getLast?_eq_getElem?, List.getElem?_eq_getElem hlt]
    have e1 : ((L.length : Int) - 1) = ((L.length - 1 : Nat) : Int) := by omega
    have e2 : ((L.length : Int) - 1).toNat = L.length - 1 := by omega
    repeat' (first
 | ((with_reducible apply awO_ev); (· rfl); (· exact sv))
 | ((with_reducible apply aw_seq); intro _ _)
 | (with_reducible apply aw_region)
 | ((with_reducible first | apply awO_nil | apply aw_exit | apply aw_skip | apply aw_ret); (try simp only [CT, ↓reduceIte, Nat.reduceEqDiff]))
 | (refine Kont.go ‹Kont _ _ _ _› _ ?_)
 | ((with_reducible apply aw_draw); (· decide +kernel); (simp only [List.size_toArray, List.length_cons, List.length_nil, Nat.reduceAdd]))
 | ((with_reducible apply awY_done); (· decide +kernel); (try simp only [CT, ↓reduceIte, Nat.reduceEqDiff]))
 | ((with_reducible apply awY_q); (· exact sQ); (· exact np); (· exact svg); (· rfl); (· exact sv))
 | ((first | ((with_reducible apply awO_guardN); (· rfl); (· rfl); (· exact sv); (· exact nB)) | ((with_reducible apply aw_condN); (· exact sv))); (· exact pN); (· exact pN); all_goals (intro hg; try (exfalso; omega)))
 | ((try with_reducible apply wk_id); (with_reducible apply retQ_mk1); (· exact rI); (· exact sv); (· exact sv); (· exact sv); (· exact sv); rotate_left; rotate_left; (· simp); (· rfl)))
    all_goals first | rfl | (rw [e]; simp only [e2]; done) | (rw [e]; done) | (rw [e]; rfl)
theorem quoted_fn (i : Nat) (z : Int) (hz : z = i) (hi : i < s.length) (hs : s.length ≤ 100000) : Fn Tryz.prog 36 [.pt 7 0, ai z] (xH F L s sh) (ai (qtN s i : Nat)) (xH F L s sh) [7] := by
  subst hz
  have c1 := indexByte_ab (List.drop (i + 1) s) 39
  rw [idxB_ix] at c1
  unfold ixI at c1
  refine Fn_of_aw (keep := [7]) Tryz.func36 rfl rfl (by simp [Tryz.ntmps36]) ?_
  simp only [num_cons, num_nil, Tryz.ntmps36, Tryz.results36]
  rcases h : ixN [39] (s.drop (i + 1)) with _ | k
  · rw [h] at c1
    have e : qtN s i = s.length := by unfold qtN; rw [h]
    repeat' (first
 | ((with_reducible apply awO_ev); (· rfl); (· exact sv))
 | ((with_reducible apply aw_seq); intro _ _)
 | (with_reducible apply aw_region)
 | ((with_reducible first | apply awO_nil | apply aw_exit | apply aw_skip | apply aw_ret); (try simp only [CT, ↓reduceIte, Nat.reduceEqDiff]))
 | ((with_reducible apply aw_cond_true); (· exact sv))
 | (refine Kont.go ‹Kont _ _ _ _› _ ?_)
 | ((with_reducible apply awO_c); (· rfl); (· rfl); (· exact sv); (· (first | exact c1)); (· rfl); (· rfl); (· rfl); (· decide))
 | ((try with_reducible apply wk_id); (with_reducible apply retQ_mk1); (· exact rI); (· exact sv); (· exact sv); (· exact sv); (· exact sv); rotate_left; rotate_left; (· simp); (· rfl)))
    all_goals first | rfl | (rw [e]; done) | (rw [e]; rfl)
  · rw [h] at c1
    have b1 := (ixN_some h).1
    rw [List.length_drop] at b1
    have e : qtN s i = i + 1 + k + 1 := by unfold qtN; rw [h]
    repeat' (first
 | ((with_reducible apply awO_ev); (· rfl); (· exact sv))
 | ((with_reducible apply aw_seq); intro _ _)
 | (with_reducible apply aw_region)
 | ((with_reducible first | apply awO_nil | apply aw_exit | apply aw_skip | apply aw_ret); (try simp only [CT, ↓reduceIte, Nat.reduceEqDiff]))
 | (refine Kont.go ‹Kont _ _ _ _› _ ?_)
 | ((with_reducible apply awO_c); (· rfl); (· rfl); (· exact sv); (· (first | exact c1)); (· rfl); (· rfl); (· rfl); (· decide))
 | ((first | ((with_reducible apply awO_guardN); (· rfl); (· rfl); (· exact sv); (· exact nB)) | ((with_reducible apply aw_condN); (· exact sv))); (· exact pN); (· exact pN); all_goals (intro hg; try (exfalso; omega)))
 | ((try with_reducible apply wk_id); (with_reducible apply retQ_mk1); (· exact rI); (· exact sv); (· exact sv); (· exact sv); (· exact sv); rotate_left; rotate_left; (· simp); (· rfl)))
    all_goals first | rfl | (rw [e]; exact ai_eq (by omega))
theorem plain_fn (i : Nat) (z : Int) (hz : z = i) (hi : i < s.length) (hs : s.length ≤ 100000) : Fn Tryz.prog 37 [.pt 7 0, ai z] (xH F L s sh) (ab (plB s i)) (xH F L s sh) [7] := by
  subst hz
  refine Fn_of_aw (keep := [7]) Tryz.func37 rfl rfl (by simp [Tryz.ntmps37]) ?_
  simp only [num_cons, num_nil, Tryz.ntmps37, Tryz.results37]
  by_cases hl : i + 1 < s.length
  · have hat := atB_lt hl
    have c1 := indexByte_ab trmL s[i + 1]
    rw [idxB_ix] at c1
    unfold ixI at c1
    have hpl : plB s i = (trB s[i + 1] && !evB s[i + 1]) := by unfold plB; rw [hat, decide_eq_false (by omega), Bool.false_or]
    have htr : trB s[i + 1] = (ixN [s[i + 1]] trmL).isSome := (ixN_mem _ _).symm
    have p1 : s[i + 1].toNat = 9 ∨ s[i + 1].toNat = 10 ∨ s[i + 1].toNat = 32 ∨ s[i + 1].toNat = 61 ∨ s[i + 1].toNat = 40 → plB s i = true := fun h => hpl.trans (plc1 s[i + 1] h)
    have p2 : s[i + 1].toNat = 33 ∨ s[i + 1].toNat = 58 ∨ s[i + 1].toNat = 94 ∨ s[i + 1].toNat = 36 ∨ s[i + 1].toNat = 42 → plB s i = false := fun h => hpl.trans (plc2 s[i + 1] h)
    have p3 : ¬ (s[i + 1].toNat = 33 ∨ s[i + 1].toNat = 58 ∨ s[i + 1].toNat = 94 ∨ s[i + 1].toNat = 36 ∨ s[i + 1].toNat = 42) → plB s i = (ixN [s[i + 1]] trmL).isSome := fun h => (hpl.trans (plc3 s[i + 1] h)).trans htr
    rcases hix : ixN [s[i + 1]] trmL with _ | k
    · rw [hix] at c1 p3
      repeat' (first
 | ((with_reducible apply awO_ev); (· rfl); (· exact sv))
 | ((with_reducible apply aw_seq); intro _ _)
 | (with_reducible apply aw_region)
 | (with_reducible apply aw_block)
 | ((with_reducible first | apply awO_nil | apply aw_exit | apply aw_skip | apply aw_ret); (try simp only [CT, ↓reduceIte, Nat.reduceEqDiff]))
 | (refine Kont.go ‹Kont _ _ _ _› _ ?_)
 | ((with_reducible apply awO_c); (· rfl); (· rfl); (· exact sv); (· (first | exact c1)); (· rfl); (· rfl); (· rfl); (· decide))
 | ((first | ((with_reducible apply awO_guardN); (· rfl); (· rfl); (· exact sv); (· exact nB)) | ((with_reducible apply aw_condN); (· exact sv))); (· exact pN); (· exact pN); all_goals (intro hg; try (exfalso; omega)))
 | ((try with_reducible apply wk_id); (with_reducible apply retQ_mk1); (· exact rI); (· exact sv); (· exact sv); (· exact sv); (· exact sv); rotate_left; rotate_left; (· simp); (· rfl)))
      all_goals first | rfl | (rw [p1 (by omega)]; done) | (rw [p2 (by omega)]; done) | (rw [p3 (by omega)]; rfl)
    · rw [hix] at c1 p3
      repeat' (first
 | ((with_reducible apply awO_ev); (· rfl); (· exact sv))
 | ((with_reducible apply aw_seq); intro _ _)
 | (with_reducible apply aw_region)
 | (with_reducible apply aw_block)
 | ((with_reducible first | apply awO_nil | apply aw_exit | apply aw_skip | apply aw_ret); (try simp only [CT, ↓reduceIte, Nat.reduceEqDiff]))
 | (refine Kont.go ‹Kont _ _ _ _› _ ?_)
 | ((with_reducible apply awO_c); (· rfl); (· rfl); (· exact sv); (· (first | exact c1)); (· rfl); (· rfl); (· rfl); (· decide))
 | ((first | ((with_reducible apply awO_guardN); (· rfl); (· rfl); (· exact sv); (· exact nB)) | ((with_reducible apply aw_condN); (· exact sv))); (· exact pN); (· exact pN); all_goals (intro hg; try (exfalso; omega)))
 | ((try with_reducible apply wk_id); (with_reducible apply retQ_mk1); (· exact rI); (· exact sv); (· exact sv); (· exact sv); (· exact sv); rotate_left; rotate_left; (· simp); (· rfl)))
      all_goals first | rfl | (rw [p1 (by omega)]; done) | (rw [p2 (by omega)]; done) | (rw [p3 (by omega)]; rfl)
  · have e : plB s i = true := by unfold plB; rw [decide_eq_true (by omega), Bool.true_or]
    repeat' (first
 | ((with_reducible apply awO_ev); (· rfl); (· exact sv))
 | ((with_reducible apply aw_seq); intro _ _)
 | (with_reducible apply aw_region)
 | ((with_reducible first | apply awO_nil | apply aw_exit | apply aw_skip | apply aw_ret); (try simp only [CT, ↓reduceIte, Nat.reduceEqDiff]))
 | (refine Kont.go ‹Kont _ _ _ _› _ ?_)
 | ((first | ((with_reducible apply awO_guardN); (· rfl); (· rfl); (· exact sv); (· exact nB)) | ((with_reducible apply aw_condN); (· exact sv))); (· exact pN); (· exact pN); all_goals (intro hg; try (exfalso; omega)))
 | ((try with_reducible apply wk_id); (with_reducible apply retQ_mk1); (· exact rI); (· exact sv); (· exact sv); (· exact sv); (· exact sv); rotate_left; rotate_left; (· simp); (· rfl)))
    all_goals first | rfl | (rw [e]; done) | (rw [e]; rfl)
theorem containing_fn (i : Nat) (z : Int) (hz : z = i) (hi : i ≤ s.length) (hs : s.length ≤ 100000) (hF : 1 ≤ F ∧ F ≤ 2147483647) (hL : L.length ≤ 100000) (hl : ∀ l ∈ L, l.length ≤ 4096) :
    Fn Tryz.prog 104 [.pt 7 0, ai z] (xH F L s sh) (.tp [az (conF L s i).1, ai ((conF L s i).2.1 : Nat), ai (conF L s i).2.2]) (xH F L s sh) [7] := by
  subst hz
  have c1 := cut_ab (List.drop i s) [63] (by rw [List.length_drop]; omega)
  have hev : ∀ (t : List UInt8), ∃ c2 : Ab Tryz.prog 130 [hsA F L, az t] (.tp [ai (numR F (fun l => (ixN t l).isSome) L).1, ab (numR F (fun l => (ixN t l).isSome) L).2]), True := fun t => ⟨contains_hs F t L (by omega) hL (fun l h => by have := hl l h; omega), trivial⟩
  have hget : ∀ (t : List UInt8) (k : Nat), lstI (fun l => (ixN t l).isSome) L = some k → ∃ l, lstS (fun l => (ixN t l).isSome) L = some l ∧ Ab Tryz.prog 106 [hsA F L, ai (F + k)] (.tp [az l, ai 0]) := fun t k h => by
    have hk := lstI_lt h
    have := get_ab F L (F + k) (by omega) (by omega) hL
    have e : getR F L (F + k) = (L[k], 0) := by unfold getR; rw [getL_idx hk, List.getElem?_eq_getElem hk]
    rw [e] at this
    exact ⟨L[k], by unfold lstS; rw [h]; simp [hk], this⟩
  refine Fn_of_aw (keep := [7]) Tryz.func104 rfl rfl (by simp [Tryz.ntmps104]) ?_
  simp only [num_cons, num_nil, Tryz.ntmps104, Tryz.results104]
  rcases h : ixN [63] (s.drop i) with _ | _ | k
  · have ec : cutN [63] (List.drop i s) = (List.drop i s, [], false) := by unfold cutN; rw [h]
    rw [ec] at c1
    by_cases h0 : s.drop i = []
    · have e : conF L s i = ([], 0, 6) := by unfold conF; rw [h]; simp only; rw [if_pos h0]
      have hlen0 : (s.drop i).length = 0 := by rw [h0]; rfl
      repeat' (first
 | ((with_reducible apply awO_ev); (· rfl); (· exact sv))
 | ((with_reducible apply aw_seq); intro _ _)
 | (with_reducible apply aw_region)
 | ((with_reducible first | apply awO_nil | apply aw_exit | apply aw_skip | apply aw_ret); (try simp only [CT, ↓reduceIte, Nat.reduceEqDiff]))
 | (refine Kont.go ‹Kont _ _ _ _› _ ?_)
 | ((with_reducible apply awO_c); (· rfl); (· rfl); (· exact sv); (· (first | exact c1)); (· rfl); (· rfl); (· rfl); (· decide))
 | ((first | ((with_reducible apply awO_guardN); (· rfl); (· rfl); (· exact sv); (· exact nB)) | ((with_reducible apply aw_condN); (· exact sv))); (· exact pN); (· exact pN); all_goals (intro hg; try (exfalso; omega)))
 | ((try with_reducible apply wk_id); (with_reducible apply retQ_mk1); (· exact rI); (· exact sv); (· exact sv); (· exact sv); (· exact sv); rotate_left; rotate_left; (· simp); (· rfl)))
      all_goals first | rfl | (rw [e]; done) | (rw [e]; rfl)
    · have hlen0 : 0 < (s.drop i).length := List.length_pos_iff.2 h0
      have hlen : (s.drop i).length = s.length - i := List.length_drop
      have e : conF L s i = orE (lstS (fun l => (ixN (s.drop i) l).isSome) L) s.length := by unfold conF; rw [h]; simp only; rw [if_neg h0]
      obtain ⟨c2, _⟩ := hev (s.drop i)
      rcases hn : lstI (fun l => (ixN (s.drop i) l).isSome) L with _ | k
      · have e2 : numR F (fun l => (ixN (s.drop i) l).isSome) L = (0, false) := by unfold numR; rw [hn]
        have e3 : conF L s i = ([], 0, 8) := by rw [e]; unfold lstS; rw [hn]; rfl
        rw [e2] at c2
        repeat' (first
 | ((with_reducible apply awO_ev); (· rfl); (· exact sv))
 | ((with_reducible apply aw_seq); intro _ _)
 | (with_reducible apply aw_region)
 | ((with_reducible first | apply awO_nil | apply aw_exit | apply aw_skip | apply aw_ret); (try simp only [CT, ↓reduceIte, Nat.reduceEqDiff]))
 | ((with_reducible apply aw_cond_true); (· exact sv))
 | ((with_reducible apply aw_cond_false); (· exact sv))
 | (refine Kont.go ‹Kont _ _ _ _› _ ?_)
 | ((with_reducible apply awO_c); (· rfl); (· rfl); (· exact sv); (· (first | exact c1 | exact c2)); (· rfl); (· rfl); (· rfl); (· decide))
 | ((first | ((with_reducible apply awO_guardN); (· rfl); (· rfl); (· exact sv); (· exact nB)) | ((with_reducible apply aw_condN); (· exact sv))); (· exact pN); (· exact pN); all_goals (intro hg; try (exfalso; omega)))
 | ((try with_reducible apply wk_id); (with_reducible apply retQ_mk1); (· exact rI); (· exact sv); (· exact sv); (· exact sv); (· exact sv); rotate_left; rotate_left; (· simp); (· rfl)))
        all_goals first | rfl | (rw [e3]; done) | (rw [e3]; rfl)
      · obtain ⟨l, hl2, c3⟩ := hget _ _ hn
        have e2 : numR F (fun l => (ixN (s.drop i) l).isSome) L = (F + k, true) := by unfold numR; rw [hn]
        have e3 : conF L s i = (l, s.length, 0) := by rw [e, hl2]; rfl
        rw [e2] at c2
        repeat' (first
 | ((with_reducible apply awO_ev); (· rfl); (· exact sv))
 | ((with_reducible apply aw_seq); intro _ _)
 | (with_reducible apply aw_region)
 | ((with_reducible first | apply awO_nil | apply aw_exit | apply aw_skip | apply aw_ret); (try simp only [CT, ↓reduceIte, Nat.reduceEqDiff]))
 | ((with_reducible apply aw_cond_false); (· exact sv))
 | (refine Kont.go ‹Kont _ _ _ _› _ ?_)
 | ((with_reducible apply awO_c); (· rfl); (· rfl); (· exact sv); (· (first | exact c1 | exact c2 | exact c3)); (· rfl); (· rfl); (· rfl); (· decide))
 | ((first | ((with_reducible apply awO_guardN); (· rfl); (· rfl); (· exact sv); (· exact nB)) | ((with_reducible apply aw_condN); (· exact sv))); (· exact pN); (· exact pN); all_goals (intro hg; try (exfalso; omega)))
 | ((try with_reducible apply wk_id); (with_reducible apply retQ_mk1); (· exact rI); (· exact sv); (· exact sv); (· exact sv); (· exact sv); rotate_left; rotate_left; (· simp); (· rfl)))
        all_goals first | rfl | (rw [e3]; exact tp3 rfl (by simp only; omega) rfl)
  · have e : conF L s i = ([], 0, 6) := by unfold conF; rw [h]
    have ec : cutN [63] (List.drop i s) = ([], (s.drop i).drop 1, true) := by unfold cutN; rw [h]; simp
    rw [ec] at c1
    repeat' (first
 | ((with_reducible apply awO_ev); (· rfl); (· exact sv))
 | ((with_reducible apply aw_seq); intro _ _)
 | (with_reducible apply aw_region)
 | ((with_reducible first | apply awO_nil | apply aw_exit | apply aw_skip | apply aw_ret); (try simp only [CT, ↓reduceIte, Nat.reduceEqDiff]))
 | ((with_reducible apply aw_cond_true); (· exact sv))
 | (refine Kont.go ‹Kont _ _ _ _› _ ?_)
 | ((with_reducible apply awO_c); (· rfl); (· rfl); (· exact sv); (· (first | exact c1)); (· rfl); (· rfl); (· rfl); (· decide))
 | ((try with_reducible apply wk_id); (with_reducible apply retQ_mk1); (· exact rI); (· exact sv); (· exact sv); (· exact sv); (· exact sv); rotate_left; rotate_left; (· simp); (· rfl)))
    all_goals first | rfl | (rw [e]; done) | (rw [e]; rfl)
  · have b1 := (ixN_some h).1
    rw [List.length_drop] at b1
    have ec : cutN [63] (List.drop i s) = ((s.drop i).take (k + 1), (s.drop i).drop (k + 1 + 1), true) := by unfold cutN; rw [h]; rfl
    rw [ec] at c1
    have hlen : ((s.drop i).take (k + 1)).length = k + 1 := by simp only [List.length_take, List.length_drop]; omega
    have hne : (s.drop i).take (k + 1) ≠ [] := by intro e; rw [e] at hlen; simp at hlen
    have e : conF L s i = orE (lstS (fun l => (ixN ((s.drop i).take (k + 1)) l).isSome) L) (i + (k + 1) + 1) := by unfold conF; rw [h]
    generalize (s.drop i).take (k + 1) = t at *
    obtain ⟨c2, _⟩ := hev t
    rcases hn : lstI (fun l => (ixN t l).isSome) L with _ | m
    · have e2 : numR F (fun l => (ixN t l).isSome) L = (0, false) := by unfold numR; rw [hn]
      have e3 : conF L s i = ([], 0, 8) := by rw [e]; unfold lstS; rw [hn]; rfl
      rw [e2] at c2
      repeat' (first
 | ((with_reducible apply awO_ev); (· rfl); (· exact sv))
 | ((with_reducible apply aw_seq); intro _ _)
 | (with_reducible apply aw_region)
 | ((with_reducible first | apply awO_nil | apply aw_exit | apply aw_skip | apply aw_ret); (try simp only [CT, ↓reduceIte, Nat.reduceEqDiff]))
 | ((with_reducible apply aw_cond_true); (· exact sv))
 | (refine Kont.go ‹Kont _ _ _ _› _ ?_)
 | ((with_reducible apply awO_c); (· rfl); (· rfl); (· exact sv); (· (first | exact c1 | exact c2)); (· rfl); (· rfl); (· rfl); (· decide))
 | ((first | ((with_reducible apply awO_guardN); (· rfl); (· rfl); (· exact sv); (· exact nB)) | ((with_reducible apply aw_condN); (· exact sv))); (· exact pN); (· exact pN); all_goals (intro hg; try (exfalso; omega)))
 | ((try with_reducible apply wk_id); (with_reducible apply retQ_mk1); (· exact rI); (· exact sv); (· exact sv); (· exact sv); (· exact sv); rotate_left; rotate_left; (· simp); (· rfl)))
      all_goals first | rfl | (rw [e3]; done) | (rw [e3]; rfl)
    · obtain ⟨l, hl2, c3⟩ := hget _ _ hn
      have e2 : numR F (fun l => (ixN t l).isSome) L = (F + m, true) := by unfold numR; rw [hn]
      have e3 : conF L s i = (l, i + (k + 1) + 1, 0) := by rw [e, hl2]; rfl
      rw [e2] at c2
      repeat' (first
 | ((with_reducible apply awO_ev); (· rfl); (· exact sv))
 | ((with_reducible apply aw_seq); intro _ _)
 | (with_reducible apply aw_region)
 | ((with_reducible first | apply awO_nil | apply aw_exit | apply aw_skip | apply aw_ret); (try simp only [CT, ↓reduceIte, Nat.reduceEqDiff]))
 | ((with_reducible apply aw_cond_true); (· exact sv))
 | ((with_reducible apply aw_cond_false); (· exact sv))
 | (refine Kont.go ‹Kont _ _ _ _› _ ?_)
 | ((with_reducible apply awO_c); (· rfl); (· rfl); (· exact sv); (· (first | exact c1 | exact c2 | exact c3)); (· rfl); (· rfl); (· rfl); (· decide))
 | ((first | ((with_reducible apply awO_guardN); (· rfl); (· rfl); (· exact sv); (· exact nB)) | ((with_reducible apply aw_condN); (· exact sv))); (· exact pN); (· exact pN); all_goals (intro hg; try (exfalso; omega)))
 | ((try with_reducible apply wk_id); (with_reducible apply retQ_mk1); (· exact rI); (· exact sv); (· exact sv); (· exact sv); (· exact sv); rotate_left; rotate_left; (· simp); (· rfl)))
      all_goals first | rfl | (rw [e3]; exact tp3 rfl (by simp only; omega) rfl)
end
end Go.Proofs.YtgbhjlkenfmadaaGreatDoor
