/- bang: part, substitution, substituted, on the abstract machine. -/
import Derived.Test.YtgbhjlkenfmadaaGreatDoorBgI
namespace Go.Proofs.YtgbhjlkenfmadaaGreatDoor
open Go.RowKit
set_option linter.unusedVariables false
set_option linter.unusedSimpArgs false
set_option maxRecDepth 100000
set_option maxHeartbeats 8000000
theorem tp4 {t t' u u' : List UInt8} {a a' e e' : Int} (h1 : t = t') (h2 : u = u') (h3 : a = a') (h4 : e = e') : AV.tp [.v (.string (str t)), .v (.string (str u)), .v (.int .i64 a), .v (.int .i64 e)] = .tp [az t', az u', ai a', ai e'] := by rw [h1, h2, h3, h4]
theorem dir_ab (t : List UInt8) (ht : t.length ≤ 1000000000) : Ab Tryz.prog 134 [az t] (.tp [az (t.take (dirN t)), az (t.drop (dirN t))]) := by
  have c1 := lastIndexByte_ab t 47 (by omega)
  have h1 := lsN_ge 47 t
  have h2 := lsN_lt 47 t
  unfold dirN
  by_cases h : lsN 47 t = -1
  · rw [h] at c1 ⊢
    refine Fn_of_aw (keep := []) Tryz.func134 rfl rfl (by simp [Tryz.ntmps134]) ?_
    simp only [num_cons, num_nil, Tryz.ntmps134, Tryz.results134]
    repeat' (first
 | ((with_reducible apply awO_ev); (· rfl); (· exact sv))
 | ((with_reducible apply aw_seq); intro _ _)
 | (with_reducible apply aw_region)
 | ((with_reducible first | apply awO_nil | apply aw_exit | apply aw_skip | apply aw_ret); (try simp only [CT, ↓reduceIte, Nat.reduceEqDiff]))
 | (refine Kont.go ‹Kont _ _ _ _› _ ?_)
 | ((with_reducible apply awO_c); (· rfl); (· rfl); (· exact sv); (· (first | exact c1)); (· rfl); (· rfl); (· rfl); (· decide))
 | ((with_reducible apply aw_draw); (· decide +kernel); (simp only [List.size_toArray, List.length_cons, List.length_nil, Nat.reduceAdd]))
 | ((with_reducible apply awY_done); (· decide +kernel); (try simp only [CT, ↓reduceIte, Nat.reduceEqDiff]))
 | ((with_reducible apply awY_q); (· exact sQ); (· exact np); (· exact svg); (· rfl); (· exact sv))
 | ((with_reducible apply retQ_mk); (· exact rI); (· exact sv); (· exact sv); rotate_left; (· rfl)))
    all_goals rfl
  · obtain ⟨k, hk⟩ : ∃ k : Nat, lsN 47 t = k := ⟨(lsN 47 t).toNat, by omega⟩
    rw [hk] at c1 h2 ⊢
    rw [show ((k : Int) + 1).toNat = k + 1 from by omega]
    refine Fn_of_aw (keep := []) Tryz.func134 rfl rfl (by simp [Tryz.ntmps134]) ?_
    simp only [num_cons, num_nil, Tryz.ntmps134, Tryz.results134]
    repeat' (first
 | ((with_reducible apply awO_ev); (· rfl); (· exact sv))
 | ((with_reducible apply aw_seq); intro _ _)
 | (with_reducible apply aw_region)
 | ((with_reducible first | apply awO_nil | apply aw_exit | apply aw_skip | apply aw_ret); (try simp only [CT, ↓reduceIte, Nat.reduceEqDiff]))
 | (refine Kont.go ‹Kont _ _ _ _› _ ?_)
 | ((with_reducible apply awO_c); (· rfl); (· rfl); (· exact sv); (· (first | exact c1)); (· rfl); (· rfl); (· rfl); (· decide))
 | ((with_reducible apply aw_draw); (· decide +kernel); (simp only [List.size_toArray, List.length_cons, List.length_nil, Nat.reduceAdd]))
 | ((with_reducible apply awY_done); (· decide +kernel); (try simp only [CT, ↓reduceIte, Nat.reduceEqDiff]))
 | ((with_reducible apply awY_q); (· exact sQ); (· exact np); (· exact svg); (· rfl); (· exact sv))
 | ((with_reducible apply retQ_mk); (· exact rI); (· exact sv); (· exact sv); rotate_left; (· rfl)))
    all_goals rfl
theorem part_ab (t : List UInt8) (b : UInt8) (ht : t.length ≤ 1000000000) : Ab Tryz.prog 111 [az t, au b] (az (parF t b)) := by
  have c1 := dir_ab t ht
  have hd := dirN_le t
  have c2 := lastIndexByte_ab (t.drop (dirN t)) 46 (by rw [List.length_drop]; omega)
  have h1 := lsN_ge 46 (t.drop (dirN t))
  have h2 := lsN_lt 46 (t.drop (dirN t))
  rw [List.length_drop] at h2
  have hlt : (t.take (dirN t)).length = dirN t := by rw [List.length_take]; omega
  have hld : (t.drop (dirN t)).length = t.length - dirN t := List.length_drop
  have key : ∀ c : UInt8, ∀ n : Nat, c.toNat = n → (b = c ↔ b.toNat = n) := fun c n hc => ⟨fun h => by rw [h, hc], fun h => UInt8.toNat_inj.1 (by omega)⟩
  by_cases k1 : b.toNat = 104
  · have e0 : parF t b = if dirN t = 0 then t else t.take (dirN t - 1) := by unfold parF; rw [if_pos ((key 104 104 rfl).2 k1)]
    by_cases k0 : dirN t = 0
    · have e : parF t b = t := by rw [e0, if_pos k0]
      refine Fn_of_aw (keep := []) Tryz.func111 rfl rfl (by simp [Tryz.ntmps111]) ?_
      simp only [num_cons, num_nil, Tryz.ntmps111, Tryz.results111]
      repeat' (first
 | ((with_reducible apply awO_ev); (· rfl); (· exact sv))
 | ((with_reducible apply aw_seq); intro _ _)
 | (with_reducible apply aw_region)
 | (with_reducible apply aw_block)
 | ((with_reducible first | apply awO_nil | apply aw_exit | apply aw_skip | apply aw_ret); (try simp only [CT, ↓reduceIte, Nat.reduceEqDiff]))
 | (refine Kont.go ‹Kont _ _ _ _› _ ?_)
 | ((with_reducible apply awO_c); (· rfl); (· rfl); (· exact sv); (· (first | exact c1 | exact c2)); (· rfl); (· rfl); (· rfl); (· decide))
 | ((first | ((with_reducible apply awO_guardN); (· rfl); (· rfl); (· exact sv); (· exact nB)) | ((with_reducible apply aw_condN); (· exact sv))); (· exact pN); (· exact pN); all_goals (intro hg; try (exfalso; omega)))
 | ((with_reducible apply retQ_mk); (· exact rI); (· exact sv); (· exact sv); rotate_left; (· rfl)))
      all_goals first | rfl | (rw [e]; done) | (rw [e]; rfl)
    · have e : parF t b = t.take (dirN t - 1) := by rw [e0, if_neg k0]
      have e3 : (t.take (dirN t)).take (dirN t - 1) = t.take (dirN t - 1) := by rw [List.take_take, Nat.min_eq_left (by omega)]
      refine Fn_of_aw (keep := []) Tryz.func111 rfl rfl (by simp [Tryz.ntmps111]) ?_
      simp only [num_cons, num_nil, Tryz.ntmps111, Tryz.results111]
      repeat' (first
 | ((with_reducible apply awO_ev); (· rfl); (· exact sv))
 | ((with_reducible apply aw_seq); intro _ _)
 | (with_reducible apply aw_region)
 | (with_reducible apply aw_block)
 | ((with_reducible first | apply awO_nil | apply aw_exit | apply aw_skip | apply aw_ret); (try simp only [CT, ↓reduceIte, Nat.reduceEqDiff]))
 | (refine Kont.go ‹Kont _ _ _ _› _ ?_)
 | ((with_reducible apply awO_c); (· rfl); (· rfl); (· exact sv); (· (first | exact c1 | exact c2)); (· rfl); (· rfl); (· rfl); (· decide))
 | ((first | ((with_reducible apply awO_guardN); (· rfl); (· rfl); (· exact sv); (· exact nB)) | ((with_reducible apply aw_condN); (· exact sv))); (· exact pN); (· exact pN); all_goals (intro hg; try (exfalso; omega)))
 | ((with_reducible apply retQ_mk); (· exact rI); (· exact sv); (· exact sv); rotate_left; (· rfl)))
      all_goals first | rfl | (rw [e]; done) | (rw [e, ← e3]; congr 4; omega)
  have n1 : ¬ b = 104 := fun h => k1 ((key 104 104 rfl).1 h)
  by_cases k2 : b.toNat = 116
  · have e : parF t b = t.drop (dirN t) := by unfold parF; rw [if_neg n1, if_pos ((key 116 116 rfl).2 k2)]
    refine Fn_of_aw (keep := []) Tryz.func111 rfl rfl (by simp [Tryz.ntmps111]) ?_
    simp only [num_cons, num_nil, Tryz.ntmps111, Tryz.results111]
    repeat' (first
 | ((with_reducible apply awO_ev); (· rfl); (· exact sv))
 | ((with_reducible apply aw_seq); intro _ _)
 | (with_reducible apply aw_region)
 | (with_reducible apply aw_block)
 | ((with_reducible first | apply awO_nil | apply aw_exit | apply aw_skip | apply aw_ret); (try simp only [CT, ↓reduceIte, Nat.reduceEqDiff]))
 | (refine Kont.go ‹Kont _ _ _ _› _ ?_)
 | ((with_reducible apply awO_c); (· rfl); (· rfl); (· exact sv); (· (first | exact c1 | exact c2)); (· rfl); (· rfl); (· rfl); (· decide))
 | ((first | ((with_reducible apply awO_guardN); (· rfl); (· rfl); (· exact sv); (· exact nB)) | ((with_reducible apply aw_condN); (· exact sv))); (· exact pN); (· exact pN); all_goals (intro hg; try (exfalso; omega)))
 | ((with_reducible apply retQ_mk); (· exact rI); (· exact sv); (· exact sv); rotate_left; (· rfl)))
    all_goals first | rfl | (rw [e]; done) | (rw [e]; rfl)
  have n2 : ¬ b = 116 := fun h => k2 ((key 116 116 rfl).1 h)
  by_cases k3 : b.toNat = 114
  · have e0 : parF t b = if 0 ≤ lsN 46 (t.drop (dirN t)) then t.take (dirN t + (lsN 46 (t.drop (dirN t))).toNat) else t := by unfold parF; rw [if_neg n1, if_neg n2, if_pos ((key 114 114 rfl).2 k3)]
    by_cases k0 : 0 ≤ lsN 46 (t.drop (dirN t))
    · obtain ⟨k, hk⟩ : ∃ k : Nat, lsN 46 (t.drop (dirN t)) = k := ⟨(lsN 46 (t.drop (dirN t))).toNat, by omega⟩
      have e : parF t b = t.take (dirN t) ++ (t.drop (dirN t)).take k := by rw [e0, if_pos k0, hk, Int.toNat_natCast, List.take_add]
      rw [hk] at c2 h2
      refine Fn_of_aw (keep := []) Tryz.func111 rfl rfl (by simp [Tryz.ntmps111]) ?_
      simp only [num_cons, num_nil, Tryz.ntmps111, Tryz.results111]
      repeat' (first
 | ((with_reducible apply awO_ev); (· rfl); (· exact sv))
 | ((with_reducible apply aw_seq); intro _ _)
 | (with_reducible apply aw_region)
 | (with_reducible apply aw_block)
 | ((with_reducible first | apply awO_nil | apply aw_exit | apply aw_skip | apply aw_ret); (try simp only [CT, ↓reduceIte, Nat.reduceEqDiff]))
 | (refine Kont.go ‹Kont _ _ _ _› _ ?_)
 | ((with_reducible apply awO_c); (· rfl); (· rfl); (· exact sv); (· (first | exact c1 | exact c2)); (· rfl); (· rfl); (· rfl); (· decide))
 | ((first | ((with_reducible apply awO_guardN); (· rfl); (· rfl); (· exact sv); (· exact nB)) | ((with_reducible apply aw_condN); (· exact sv))); (· exact pN); (· exact pN); all_goals (intro hg; try (exfalso; omega)))
 | ((with_reducible apply retQ_mk); (· exact rI); (· exact sv); (· exact sv); rotate_left; (· rfl)))
      all_goals first | rfl | (rw [e]; done) | (rw [e]; rfl)
    · have e : parF t b = t := by rw [e0, if_neg k0]
      refine Fn_of_aw (keep := []) Tryz.func111 rfl rfl (by simp [Tryz.ntmps111]) ?_
      simp only [num_cons, num_nil, Tryz.ntmps111, Tryz.results111]
      repeat' (first
 | ((with_reducible apply awO_ev); (· rfl); (· exact sv))
 | ((with_reducible apply aw_seq); intro _ _)
 | (with_reducible apply aw_region)
 | (with_reducible apply aw_block)
 | ((with_reducible first | apply awO_nil | apply aw_exit | apply aw_skip | apply aw_ret); (try simp only [CT, ↓reduceIte, Nat.reduceEqDiff]))
 | (refine Kont.go ‹Kont _ _ _ _› _ ?_)
 | ((with_reducible apply awO_c); (· rfl); (· rfl); (· exact sv); (· (first | exact c1 | exact c2)); (· rfl); (· rfl); (· rfl); (· decide))
 | ((first | ((with_reducible apply awO_guardN); (· rfl); (· rfl); (· exact sv); (· exact nB)) | ((with_reducible apply aw_condN); (· exact sv))); (· exact pN); (· exact pN); all_goals (intro hg; try (exfalso; omega)))
 | ((with_reducible apply retQ_mk); (· exact rI); (· exact sv); (· exact sv); rotate_left; (· rfl)))
      all_goals first | rfl | (rw [e]; done) | (rw [e]; rfl)
  have n3 : ¬ b = 114 := fun h => k3 ((key 114 114 rfl).1 h)
  by_cases k4 : b.toNat = 101
  · have e0 : parF t b = if 0 ≤ lsN 46 (t.drop (dirN t)) then t.drop (dirN t + (lsN 46 (t.drop (dirN t))).toNat) else [] := by unfold parF; rw [if_neg n1, if_neg n2, if_neg n3, if_pos ((key 101 101 rfl).2 k4)]
    by_cases k0 : 0 ≤ lsN 46 (t.drop (dirN t))
    · obtain ⟨k, hk⟩ : ∃ k : Nat, lsN 46 (t.drop (dirN t)) = k := ⟨(lsN 46 (t.drop (dirN t))).toNat, by omega⟩
      have e : parF t b = (t.drop (dirN t)).drop k := by rw [e0, if_pos k0, hk, Int.toNat_natCast, List.drop_drop]
      rw [hk] at c2 h2
      refine Fn_of_aw (keep := []) Tryz.func111 rfl rfl (by simp [Tryz.ntmps111]) ?_
      simp only [num_cons, num_nil, Tryz.ntmps111, Tryz.results111]
      repeat' (first
 | ((with_reducible apply awO_ev); (· rfl); (· exact sv))
 | ((with_reducible apply aw_seq); intro _ _)
 | (with_reducible apply aw_region)
 | (with_reducible apply aw_block)
 | ((with_reducible first | apply awO_nil | apply aw_exit | apply aw_skip | apply aw_ret); (try simp only [CT, ↓reduceIte, Nat.reduceEqDiff]))
 | (refine Kont.go ‹Kont _ _ _ _› _ ?_)
 | ((with_reducible apply awO_c); (· rfl); (· rfl); (· exact sv); (· (first | exact c1 | exact c2)); (· rfl); (· rfl); (· rfl); (· decide))
 | ((first | ((with_reducible apply awO_guardN); (· rfl); (· rfl); (· exact sv); (· exact nB)) | ((with_reducible apply aw_condN); (· exact sv))); (· exact pN); (· exact pN); all_goals (intro hg; try (exfalso; omega)))
 | ((with_reducible apply retQ_mk); (· exact rI); (· exact sv); (· exact sv); rotate_left; (· rfl)))
      all_goals first | rfl | (rw [e]; done) | (rw [e]; rfl)
    · have e : parF t b = [] := by rw [e0, if_neg k0]
      refine Fn_of_aw (keep := []) Tryz.func111 rfl rfl (by simp [Tryz.ntmps111]) ?_
      simp only [num_cons, num_nil, Tryz.ntmps111, Tryz.results111]
      repeat' (first
 | ((with_reducible apply awO_ev); (· rfl); (· exact sv))
 | ((with_reducible apply aw_seq); intro _ _)
 | (with_reducible apply aw_region)
 | (with_reducible apply aw_block)
 | ((with_reducible first | apply awO_nil | apply aw_exit | apply aw_skip | apply aw_ret); (try simp only [CT, ↓reduceIte, Nat.reduceEqDiff]))
 | (refine Kont.go ‹Kont _ _ _ _› _ ?_)
 | ((with_reducible apply awO_c); (· rfl); (· rfl); (· exact sv); (· (first | exact c1 | exact c2)); (· rfl); (· rfl); (· rfl); (· decide))
 | ((first | ((with_reducible apply awO_guardN); (· rfl); (· rfl); (· exact sv); (· exact nB)) | ((with_reducible apply aw_condN); (· exact sv))); (· exact pN); (· exact pN); all_goals (intro hg; try (exfalso; omega)))
 | ((with_reducible apply retQ_mk); (· exact rI); (· exact sv); (· exact sv); rotate_left; (· rfl)))
      all_goals first | rfl | (rw [e]; done) | (rw [e]; rfl)
  have n4 : ¬ b = 101 := fun h => k4 ((key 101 101 rfl).1 h)
  have e : parF t b = t := by unfold parF; rw [if_neg n1, if_neg n2, if_neg n3, if_neg n4]
  refine Fn_of_aw (keep := []) Tryz.func111 rfl rfl (by simp [Tryz.ntmps111]) ?_
  simp only [num_cons, num_nil, Tryz.ntmps111, Tryz.results111]
  repeat' (first
 | ((with_reducible apply awO_ev); (· rfl); (· exact sv))
 | ((with_reducible apply aw_seq); intro _ _)
 | (with_reducible apply aw_region)
 | (with_reducible apply aw_block)
 | ((with_reducible first | apply awO_nil | apply aw_exit | apply aw_skip | apply aw_ret); (try simp only [CT, ↓reduceIte, Nat.reduceEqDiff]))
 | (refine Kont.go ‹Kont _ _ _ _› _ ?_)
 | ((with_reducible apply awO_c); (· rfl); (· rfl); (· exact sv); (· (first | exact c1 | exact c2)); (· rfl); (· rfl); (· rfl); (· decide))
 | ((first | ((with_reducible apply awO_guardN); (· rfl); (· rfl); (· exact sv); (· exact nB)) | ((with_reducible apply aw_condN); (· exact sv))); (· exact pN); (· exact pN); all_goals (intro hg; try (exfalso; omega)))
 | ((with_reducible apply retQ_mk); (· exact rI); (· exact sv); (· exact sv); rotate_left; (· rfl)))
  all_goals first | rfl | (rw [e]; done) | (rw [e]; rfl)
theorem substituted_ab (t a b : List UInt8) (all : Bool) (ht : t.length ≤ 17000000) (ha : a ≠ []) (hal : a.length ≤ 4096) (hb : b.length ≤ 4096) : Ab Tryz.prog 113 [az t, az a, az b, ab all] (.tp [az (sbdF t a b all).1, ai (sbdF t a b all).2]) := by
  have c1 := contains_ab t a (by omega)
  have e0 : sbdF t a b all = if ixN a t = none then ([], 8) else if 4096 < (if all = true then repA a b (t.length + 1) t else rep1 a b t).length then ([], 3) else (if all = true then repA a b (t.length + 1) t else rep1 a b t, 0) := rfl
  cases hc : (ixN a t).isSome with
  | false =>
    rw [hc] at c1
    have e : sbdF t a b all = ([], 8) := by rw [e0, if_pos (by simpa using hc)]
    refine Fn_of_aw (keep := []) Tryz.func113 rfl rfl (by simp [Tryz.ntmps113]) ?_
    simp only [num_cons, num_nil, Tryz.ntmps113, Tryz.results113]
    repeat' (first
 | ((with_reducible apply awO_ev); (· rfl); (· exact sv))
 | ((with_reducible apply aw_seq); intro _ _)
 | (with_reducible apply aw_region)
 | ((with_reducible first | apply awO_nil | apply aw_exit | apply aw_skip | apply aw_ret); (try simp only [CT, ↓reduceIte, Nat.reduceEqDiff]))
 | ((with_reducible apply aw_cond_true); (· exact sv))
 | (refine Kont.go ‹Kont _ _ _ _› _ ?_)
 | ((with_reducible apply awO_c); (· rfl); (· rfl); (· exact sv); (· (first | exact c1)); (· rfl); (· rfl); (· rfl); (· decide))
 | ((with_reducible apply retQ_mk); (· exact rI); (· exact sv); (· exact sv); rotate_left; (· rfl)))
    all_goals first | rfl | (rw [e]; done) | (rw [e]; rfl)
  | true =>
    rw [hc] at c1
    rw [if_neg (by intro h; rw [h] at hc; cases hc)] at e0
    cases all with
    | false =>
      simp only [Bool.false_eq_true, if_false] at e0
      obtain ⟨h1, h2⟩ := lib_one (b := b) ha hc
      have c2 := replace_ab t a b 1 (by omega) ha (by omega)
      rw [h1] at c2
      by_cases h3 : 4096 < (rep1 a b t).length
      · have e : sbdF t a b false = ([], 3) := by rw [e0, if_pos h3]
        refine Fn_of_aw (keep := []) Tryz.func113 rfl rfl (by simp [Tryz.ntmps113]) ?_
        simp only [num_cons, num_nil, Tryz.ntmps113, Tryz.results113]
        repeat' (first
 | ((with_reducible apply awO_ev); (· rfl); (· exact sv))
 | ((with_reducible apply aw_seq); intro _ _)
 | (with_reducible apply aw_region)
 | ((with_reducible first | apply awO_nil | apply aw_exit | apply aw_skip | apply aw_ret); (try simp only [CT, ↓reduceIte, Nat.reduceEqDiff]))
 | ((with_reducible apply aw_cond_false); (· exact sv))
 | (refine Kont.go ‹Kont _ _ _ _› _ ?_)
 | ((with_reducible apply awO_c); (· rfl); (· rfl); (· exact sv); (· (first | exact c1 | exact c2)); (· rfl); (· rfl); (· rfl); (· decide))
 | ((first | ((with_reducible apply awO_guardN); (· rfl); (· rfl); (· exact sv); (· exact nB)) | ((with_reducible apply aw_condN); (· exact sv))); (· exact pN); (· exact pN); all_goals (intro hg; try (exfalso; omega)))
 | ((with_reducible apply retQ_mk); (· exact rI); (· exact sv); (· exact sv); rotate_left; (· rfl)))
        all_goals first | rfl | (rw [e]; done) | (rw [e]; rfl)
      · have e : sbdF t a b false = (rep1 a b t, 0) := by rw [e0, if_neg h3]
        refine Fn_of_aw (keep := []) Tryz.func113 rfl rfl (by simp [Tryz.ntmps113]) ?_
        simp only [num_cons, num_nil, Tryz.ntmps113, Tryz.results113]
        repeat' (first
 | ((with_reducible apply awO_ev); (· rfl); (· exact sv))
 | ((with_reducible apply aw_seq); intro _ _)
 | (with_reducible apply aw_region)
 | ((with_reducible first | apply awO_nil | apply aw_exit | apply aw_skip | apply aw_ret); (try simp only [CT, ↓reduceIte, Nat.reduceEqDiff]))
 | ((with_reducible apply aw_cond_false); (· exact sv))
 | (refine Kont.go ‹Kont _ _ _ _› _ ?_)
 | ((with_reducible apply awO_c); (· rfl); (· rfl); (· exact sv); (· (first | exact c1 | exact c2)); (· rfl); (· rfl); (· rfl); (· decide))
 | ((first | ((with_reducible apply awO_guardN); (· rfl); (· rfl); (· exact sv); (· exact nB)) | ((with_reducible apply aw_condN); (· exact sv))); (· exact pN); (· exact pN); all_goals (intro hg; try (exfalso; omega)))
 | ((with_reducible apply retQ_mk); (· exact rI); (· exact sv); (· exact sv); rotate_left; (· rfl)))
        all_goals first | rfl | (rw [e]; done) | (rw [e]; rfl)
    | true =>
      simp only [if_true] at e0
      obtain ⟨h1, h2, h4⟩ := lib_all (b := b) (t := t) ha
      have c2 := replace_ab t a b (Lib.countB (str t) (str a)) (by omega) ha (by omega)
      rw [h1] at c2
      have c3 := count_ab t a (by omega) ha
      generalize Lib.countB (str t) (str a) = n at *
      have hn1 : -(4096 * 17000000) ≤ (n : Int) * ((b.length : Int) - a.length) := by
        have := Int.mul_le_mul_of_nonneg_left (show (-4096 : Int) ≤ (b.length : Int) - a.length by omega) (Int.natCast_nonneg n)
        have h5 : (n : Int) * 4096 ≤ 17000000 * 4096 := by omega
        omega
      have hn2 : (n : Int) * ((b.length : Int) - a.length) ≤ 4096 * 17000000 := by
        have := Int.mul_le_mul_of_nonneg_left (show (b.length : Int) - a.length ≤ 4096 by omega) (Int.natCast_nonneg n)
        have h5 : (n : Int) * 4096 ≤ 17000000 * 4096 := by omega
        omega
      by_cases h3 : 4096 < (repA a b (t.length + 1) t).length
      · have e : sbdF t a b true = ([], 3) := by rw [e0, if_pos h3]
        refine Fn_of_aw (keep := []) Tryz.func113 rfl rfl (by simp [Tryz.ntmps113]) ?_
        simp only [num_cons, num_nil, Tryz.ntmps113, Tryz.results113]
        repeat' (first
 | ((with_reducible apply awO_ev); (· rfl); (· exact sv))
 | ((with_reducible apply aw_seq); intro _ _)
 | (with_reducible apply aw_region)
 | ((with_reducible first | apply awO_nil | apply aw_exit | apply aw_skip | apply aw_ret); (try simp only [CT, ↓reduceIte, Nat.reduceEqDiff]))
 | ((with_reducible apply aw_cond_true); (· exact sv))
 | ((with_reducible apply aw_cond_false); (· exact sv))
 | (refine Kont.go ‹Kont _ _ _ _› _ ?_)
 | ((with_reducible apply awO_c); (· rfl); (· rfl); (· exact sv); (· (first | exact c1 | exact c2 | exact c3)); (· rfl); (· rfl); (· rfl); (· decide))
 | ((first | ((with_reducible apply awO_guardN); (· rfl); (· rfl); (· exact sv); (· exact nB)) | ((with_reducible apply aw_condN); (· exact sv))); (· exact pN); (· exact pN); all_goals (intro hg; try (exfalso; omega)))
 | ((with_reducible apply retQ_mk); (· exact rI); (· exact sv); (· exact sv); rotate_left; (· rfl)))
        all_goals first | rfl | (rw [e]; done) | (rw [e]; rfl)
      · have e : sbdF t a b true = (repA a b (t.length + 1) t, 0) := by rw [e0, if_neg h3]
        refine Fn_of_aw (keep := []) Tryz.func113 rfl rfl (by simp [Tryz.ntmps113]) ?_
        simp only [num_cons, num_nil, Tryz.ntmps113, Tryz.results113]
        repeat' (first
 | ((with_reducible apply awO_ev); (· rfl); (· exact sv))
 | ((with_reducible apply aw_seq); intro _ _)
 | (with_reducible apply aw_region)
 | ((with_reducible first | apply awO_nil | apply aw_exit | apply aw_skip | apply aw_ret); (try simp only [CT, ↓reduceIte, Nat.reduceEqDiff]))
 | ((with_reducible apply aw_cond_true); (· exact sv))
 | ((with_reducible apply aw_cond_false); (· exact sv))
 | (refine Kont.go ‹Kont _ _ _ _› _ ?_)
 | ((with_reducible apply awO_c); (· rfl); (· rfl); (· exact sv); (· (first | exact c1 | exact c2 | exact c3)); (· rfl); (· rfl); (· rfl); (· decide))
 | ((first | ((with_reducible apply awO_guardN); (· rfl); (· rfl); (· exact sv); (· exact nB)) | ((with_reducible apply aw_condN); (· exact sv))); (· exact pN); (· exact pN); all_goals (intro hg; try (exfalso; omega)))
 | ((with_reducible apply retQ_mk); (· exact rI); (· exact sv); (· exact sv); rotate_left; (· rfl)))
        all_goals first | rfl | (rw [e]; done) | (rw [e]; rfl)
section
variable (F : Int) (L : List (List UInt8)) (s : List UInt8) (sh : Bool)
theorem substitution_fn (i : Nat) (z : Int) (hz : z = i) (hs : s.length ≤ 100000) : Fn Tryz.prog 112 [.pt 7 0, ai z] (xH F L s sh) (.tp [az (sbtF s i).1, az (sbtF s i).2.1, ai ((sbtF s i).2.2.1 : Nat), ai (sbtF s i).2.2.2]) (xH F L s sh) [7] := by
  subst hz
  refine Fn_of_aw (keep := [7]) Tryz.func112 rfl rfl (by simp [Tryz.ntmps112]) ?_
  simp only [num_cons, num_nil, Tryz.ntmps112, Tryz.results112]
  by_cases h0 : s.length ≤ i
  · have e : sbtF s i = ([], [], 0, 6) := by unfold sbtF; rw [if_pos h0]
    repeat' (first
 | ((with_reducible apply awO_ev); (· rfl); (· exact sv))
 | ((with_reducible apply aw_seq); intro _ _)
 | (with_reducible apply aw_region)
 | ((with_reducible first | apply awO_nil | apply aw_exit | apply aw_skip | apply aw_ret); (try simp only [CT, ↓reduceIte, Nat.reduceEqDiff]))
 | (refine Kont.go ‹Kont _ _ _ _› _ ?_)
 | ((first | ((with_reducible apply awO_guardN); (· rfl); (· rfl); (· exact sv); (· exact nB)) | ((with_reducible apply aw_condN); (· exact sv))); (· exact pN); (· exact pN); all_goals (intro hg; try (exfalso; omega)))
 | ((try with_reducible apply wk_id); (with_reducible apply retQ_mk1); (· exact rI); (· exact sv); (· exact sv); (· exact sv); (· exact sv); rotate_left; rotate_left; (· simp); (· rfl)))
    all_goals first | rfl | (rw [e]; done) | (rw [e]; rfl)
  have hi : i < s.length := by omega
  have e0 : sbtF s i = match ixN [s[i]] (s.drop (i + 1)) with
    | none => ([], [], 0, 6)
    | some 0 => ([], [], 0, 6)
    | some (n + 1) => match ixN [s[i]] (s.drop (i + 1 + (n + 1) + 1)) with
      | none => ((s.drop (i + 1)).take (n + 1), s.drop (i + 1 + (n + 1) + 1), s.length, 0)
      | some m => ((s.drop (i + 1)).take (n + 1), (s.drop (i + 1 + (n + 1) + 1)).take m, i + 1 + (n + 1) + 1 + m + 1, 0) := by
    unfold sbtF; rw [if_neg h0, atB_lt hi]
    rfl
  have c1 := indexByte_ab (s.drop (i + 1)) s[i]
  rw [idxB_ix] at c1
  unfold ixI at c1
  rcases h1 : ixN [s[i]] (s.drop (i + 1)) with _ | _ | n
  · rw [h1] at c1 e0
    have e := e0
    repeat' (first
 | ((with_reducible apply awO_ev); (· rfl); (· exact sv))
 | ((with_reducible apply aw_seq); intro _ _)
 | (with_reducible apply aw_region)
 | ((with_reducible first | apply awO_nil | apply aw_exit | apply aw_skip | apply aw_ret); (try simp only [CT, ↓reduceIte, Nat.reduceEqDiff]))
 | ((with_reducible apply aw_cond_true); (· exact sv))
 | (refine Kont.go ‹Kont _ _ _ _› _ ?_)
 | ((with_reducible apply awO_c); (· rfl); (· rfl); (· exact sv); (· (first | exact c1)); (· rfl); (· rfl); (· rfl); (· decide))
 | ((first | ((with_reducible apply awO_guardN); (· rfl); (· rfl); (· exact sv); (· exact nB)) | ((with_reducible apply aw_condN); (· exact sv))); (· exact pN); (· exact pN); all_goals (intro hg; try (exfalso; omega)))
 | ((try with_reducible apply wk_id); (with_reducible apply retQ_mk1); (· exact rI); (· exact sv); (· exact sv); (· exact sv); (· exact sv); rotate_left; rotate_left; (· simp); (· rfl)))
    all_goals first | rfl | (rw [e]; done) | (rw [e]; rfl)
  · rw [h1] at c1 e0
    have e := e0
    repeat' (first
 | ((with_reducible apply awO_ev); (· rfl); (· exact sv))
 | ((with_reducible apply aw_seq); intro _ _)
 | (with_reducible apply aw_region)
 | ((with_reducible first | apply awO_nil | apply aw_exit | apply aw_skip | apply aw_ret); (try simp only [CT, ↓reduceIte, Nat.reduceEqDiff]))
 | ((with_reducible apply aw_cond_true); (· exact sv))
 | (refine Kont.go ‹Kont _ _ _ _› _ ?_)
 | ((with_reducible apply awO_c); (· rfl); (· rfl); (· exact sv); (· (first | exact c1)); (· rfl); (· rfl); (· rfl); (· decide))
 | ((first | ((with_reducible apply awO_guardN); (· rfl); (· rfl); (· exact sv); (· exact nB)) | ((with_reducible apply aw_condN); (· exact sv))); (· exact pN); (· exact pN); all_goals (intro hg; try (exfalso; omega)))
 | ((try with_reducible apply wk_id); (with_reducible apply retQ_mk1); (· exact rI); (· exact sv); (· exact sv); (· exact sv); (· exact sv); rotate_left; rotate_left; (· simp); (· rfl)))
    all_goals first | rfl | (rw [e]; done) | (rw [e]; rfl)
  · have b1 := (ixN_some h1).1
    rw [List.length_drop] at b1
    simp only [List.length_cons, List.length_nil] at b1
    rw [h1] at c1 e0
    simp only at e0 c1
    have c2 := indexByte_ab (s.drop (i + 1 + (n + 1) + 1)) s[i]
    rw [idxB_ix] at c2
    unfold ixI at c2
    rcases h2 : ixN [s[i]] (s.drop (i + 1 + (n + 1) + 1)) with _ | m
    · rw [h2] at c2 e0
      have e := e0
      repeat' (first
 | ((with_reducible apply awO_ev); (· rfl); (· exact sv))
 | ((with_reducible apply aw_seq); intro _ _)
 | (with_reducible apply aw_region)
 | ((with_reducible first | apply awO_nil | apply aw_exit | apply aw_skip | apply aw_ret); (try simp only [CT, ↓reduceIte, Nat.reduceEqDiff]))
 | ((with_reducible apply aw_cond_true); (· exact sv))
 | (refine Kont.go ‹Kont _ _ _ _› _ ?_)
 | ((with_reducible apply awO_c); (· rfl); (· rfl); (· exact sv); (· (first | exact c1 | exact c2)); (· rfl); (· rfl); (· rfl); (· decide))
 | ((with_reducible apply aw_draw); (· decide +kernel); (simp only [List.size_toArray, List.length_cons, List.length_nil, Nat.reduceAdd]))
 | ((with_reducible apply awY_done); (· decide +kernel); (try simp only [CT, ↓reduceIte, Nat.reduceEqDiff]))
 | ((with_reducible apply awY_q); (· exact sQ); (· exact np); (· exact svg); (· rfl); (· exact sv))
 | ((first | ((with_reducible apply awO_guardN); (· rfl); (· rfl); (· exact sv); (· exact nB)) | ((with_reducible apply aw_condN); (· exact sv))); (· exact pN); (· exact pN); all_goals (intro hg; try (exfalso; omega)))
 | ((try with_reducible apply wk_id); (with_reducible apply retQ_mk1); (· exact rI); (· exact sv); (· exact sv); (· exact sv); (· exact sv); rotate_left; rotate_left; (· simp); (· rfl)))
      all_goals first | rfl | (rw [e]; done) | (rw [e]; exact tp4 (by simp only; congr 1; omega) (by simp only; congr 1) (by simp only) rfl)
    · have b2 := (ixN_some h2).1
      rw [List.length_drop] at b2
      simp only [List.length_cons, List.length_nil] at b2
      rw [h2] at c2 e0
      have e := e0
      repeat' (first
 | ((with_reducible apply awO_ev); (· rfl); (· exact sv))
 | ((with_reducible apply aw_seq); intro _ _)
 | (with_reducible apply aw_region)
 | ((with_reducible first | apply awO_nil | apply aw_exit | apply aw_skip | apply aw_ret); (try simp only [CT, ↓reduceIte, Nat.reduceEqDiff]))
 | (refine Kont.go ‹Kont _ _ _ _› _ ?_)
 | ((with_reducible apply awO_c); (· rfl); (· rfl); (· exact sv); (· (first | exact c1 | exact c2)); (· rfl); (· rfl); (· rfl); (· decide))
 | ((with_reducible apply aw_draw); (· decide +kernel); (simp only [List.size_toArray, List.length_cons, List.length_nil, Nat.reduceAdd]))
 | ((with_reducible apply awY_done); (· decide +kernel); (try simp only [CT, ↓reduceIte, Nat.reduceEqDiff]))
 | ((with_reducible apply awY_q); (· exact sQ); (· exact np); (· exact svg); (· rfl); (· exact sv))
 | ((first | ((with_reducible apply awO_guardN); (· rfl); (· rfl); (· exact sv); (· exact nB)) | ((with_reducible apply aw_condN); (· exact sv))); (· exact pN); (· exact pN); all_goals (intro hg; try (exfalso; omega)))
 | ((try with_reducible apply wk_id); (with_reducible apply retQ_mk1); (· exact rI); (· exact sv); (· exact sv); (· exact sv); (· exact sv); rotate_left; rotate_left; (· simp); (· rfl)))
      all_goals first | rfl | (rw [e]; done) | (rw [e]; exact tp4 (by simp only; congr 1; omega) (by simp only; congr 1; omega) (by simp only; omega) rfl)
end
end Go.Proofs.YtgbhjlkenfmadaaGreatDoor
