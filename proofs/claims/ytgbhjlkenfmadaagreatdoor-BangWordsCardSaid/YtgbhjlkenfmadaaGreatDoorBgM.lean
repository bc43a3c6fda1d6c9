/- bang: choose, on the abstract machine. -/
import Derived.Test.YtgbhjlkenfmadaaGreatDoorBgK
import Derived.Test.YtgbhjlkenfmadaaGreatDoorBgI
namespace Go.Proofs.YtgbhjlkenfmadaaGreatDoor
open Go.RowKit
set_option linter.unusedVariables false
set_option linter.unusedSimpArgs false
set_option maxRecDepth 100000
set_option maxHeartbeats 8000000
theorem nxt_tl (s : List UInt8) (a : Nat) : (nxt s a).1.text.length ≤ s.length := by
  unfold nxt
  rcases h : s.drop a with _ | ⟨c, r⟩
  · simp
  · have hl : r.length + 1 ≤ s.length := by have := congrArg List.length h; simp only [List.length_drop, List.length_cons] at this; omega
    simp only
    (repeat' split) <;> simp only [List.length_cons, List.length_nil, List.length_take] <;> omega
theorem nextF_tl (s : List UInt8) (z : Int) : (nextF s z).1.text.length ≤ s.length := by
  unfold nextF
  split
  · simp
  · exact nxt_tl _ _
theorem allT_tl (s : List UInt8) : ∀ (n a : Nat), ∀ t ∈ (allT s n a).1, t.text.length ≤ s.length
  | 0, a, t, h => by simp [allT] at h
  | n + 1, a, t, h => by
    rw [allT] at h
    have ih := allT_tl s n (nextF s a).1.fin
    split at h
    · simp at h
    split at h
    · simp only [List.mem_singleton] at h; rw [h]; exact nextF_tl _ _
    split at h
    · simp at h
    · rcases List.mem_cons.1 h with h | h
      · rw [h]; exact nextF_tl _ _
      · exact ih t h
theorem words_ok : WOk wordsF where
  num l := by
    unfold wordsF
    split
    · have := (fldB_len l []).1; omega
    · rw [List.length_map]
      exact Nat.le_trans (List.length_filter_le _ _) (allT_len0 l (l.length + 2) 0)
  len l x hx := by
    unfold wordsF at hx
    split at hx
    · have := (fldB_len l []).2 x hx; simpa using this
    · obtain ⟨t, ht, rfl⟩ := List.mem_map.1 hx
      exact allT_tl l (l.length + 2) 0 t ((List.mem_filter.1 ht).1)
section
variable (F : Int) (L : List (List UInt8)) (s : List UInt8) (sh : Bool)
theorem choose_fn (line : List UInt8) (i : Nat) (z : Int) (hz : z = i) (hi : i ≤ s.length) (hs : s.length ≤ 4096) (hl : line.length ≤ 4096) : Fn Tryz.prog 67 [.pt 7 0, az line, ai z] (xH F L s sh) (.tp [az (choF wordsF line s i).1, ai ((choF wordsF line s i).2.1 : Nat), ai (choF wordsF line s i).2.2]) (xH F L s sh) [7] := by
  subst hz
  have c1 := words_ab line (by omega)
  have hn := words_ok.num line
  have hx := words_ok.len line
  have e0 : choF wordsF line s i = if (desF s i ((wordsF line).length - 1)).2.2.2 = false then (line, i, 0)
      else if (desF s i ((wordsF line).length - 1)).1 < 0 ∨ ((wordsF line).length : Int) ≤ (desF s i ((wordsF line).length - 1)).2.1 ∨ (desF s i ((wordsF line).length - 1)).2.1 + 1 < (desF s i ((wordsF line).length - 1)).1 then ([], 0, 8)
      else (jnB (subW (wordsF line) (desF s i ((wordsF line).length - 1)).1 (desF s i ((wordsF line).length - 1)).2.1), (desF s i ((wordsF line).length - 1)).2.2.1, 0) := rfl
  generalize wordsF line = W at *
  have c2 := designator_fn F L s sh i i ((W.length : Int) - 1) rfl hi (by omega) (by omega)
  have hok := desF_ok (last := (W.length : Int) - 1) hi (by omega)
  generalize desF s i ((W.length : Int) - 1) = d at *
  obtain ⟨a, b, k, ok⟩ := d
  simp only at e0 c2 hok
  refine Fn_of_aw (keep := [7]) Tryz.func67 rfl rfl (by simp [Tryz.ntmps67]) ?_
  simp only [num_cons, num_nil, Tryz.ntmps67, Tryz.results67]
  cases ok with
  | false =>
    have e : choF wordsF line s i = (line, i, 0) := by rw [e0, if_pos rfl]
    repeat' (first
 | ((with_reducible apply awO_ev); (· rfl); (· exact sv))
 | ((with_reducible apply aw_seq); intro _ _)
 | (with_reducible apply aw_region)
 | ((with_reducible first | apply awO_nil | apply aw_exit | apply aw_skip | apply aw_ret); (try simp only [CT, ↓reduceIte, Nat.reduceEqDiff]))
 | ((with_reducible apply aw_cond_true); (· exact sv))
 | (refine Kont.go ‹Kont _ _ _ _› _ ?_)
 | ((with_reducible apply awO_c); (· rfl); (· rfl); (· exact sv); (· (first | exact c1 | exact c2)); (· rfl); (· rfl); (· rfl); (· decide))
 | ((with_reducible apply awO_m); (· rfl); (· rfl); (· exact sv); (· (first | exact c1 | exact c2)); (· exact svq); (· exact svq); (· exact svq); (· exact svq); (· rfl); (· exact nd); (with_reducible apply awO_st); (· exact svs))
 | ((try with_reducible apply wk_id); (with_reducible apply retQ_mk1); (· exact rI); (· exact sv); (· exact sv); (· exact sv); (· exact sv); rotate_left; rotate_left; (· simp); (· rfl)))
    all_goals first | rfl | (rw [e]; done) | (rw [e]; rfl)
  | true =>
    have hok := hok rfl
    rw [if_neg (by decide)] at e0
    by_cases h : a < 0 ∨ (W.length : Int) ≤ b ∨ b + 1 < a
    · have e : choF wordsF line s i = ([], 0, 8) := by rw [e0, if_pos h]
      repeat' (first
 | ((with_reducible apply awO_ev); (· rfl); (· exact sv))
 | ((with_reducible apply aw_seq); intro _ _)
 | (with_reducible apply aw_region)
 | ((with_reducible first | apply awO_nil | apply aw_exit | apply aw_skip | apply aw_ret); (try simp only [CT, ↓reduceIte, Nat.reduceEqDiff]))
 | ((with_reducible apply awO_y); (· rfl); (· rfl); (· decide); (· exact sv); (· exact sv))
 | ((with_reducible apply awO_n); (· rfl); (· rfl); (· decide); (· exact sv); (· rfl); (· rfl); (· decide))
 | ((with_reducible apply aw_cond_true); (· exact sv))
 | ((with_reducible apply aw_cond_false); (· exact sv))
 | (refine Kont.go ‹Kont _ _ _ _› _ ?_)
 | ((with_reducible apply awO_c); (· rfl); (· rfl); (· exact sv); (· (first | exact c1 | exact c2)); (· rfl); (· rfl); (· rfl); (· decide))
 | ((with_reducible apply awO_m); (· rfl); (· rfl); (· exact sv); (· (first | exact c1 | exact c2)); (· exact svq); (· exact svq); (· exact svq); (· exact svq); (· rfl); (· exact nd); (with_reducible apply awO_st); (· exact svs))
 | ((first | ((with_reducible apply awO_guardN); (· rfl); (· rfl); (· exact sv); (· exact nB)) | ((with_reducible apply aw_condN); (· exact sv))); (· exact pN); (· exact pN); all_goals (intro hg; try (exfalso; omega)))
 | ((try with_reducible apply wk_id); (with_reducible apply retQ_mk1); (· exact rI); (· exact sv); (· exact sv); (· exact sv); (· exact sv); rotate_left; rotate_left; (· simp); (· rfl)))
      all_goals first | rfl | (rw [e]; done) | (rw [e]; rfl)
    · have e : choF wordsF line s i = (jnB (subW W a b), k, 0) := by rw [e0, if_neg h]
      have c3 := join_ab (subW W a b) (by unfold subW; simp; omega) (fun x hx' => by have := hx x (List.take_subset _ _ (List.drop_subset _ _ hx')); omega)
      obtain ⟨m, rfl⟩ : ∃ m : Nat, a = m := ⟨a.toNat, by omega⟩
      have es : subW W m b = List.take ((b + 1).toNat - m) (List.drop m W) := by unfold subW; rw [Int.toNat_natCast, List.drop_take]
      have el : (List.take ((b + 1).toNat - m) (List.drop m W)).length = (b + 1).toNat - m := by simp only [List.length_take, List.length_drop]; omega
      rw [es] at e
      rw [es, strsA, el] at c3
      repeat' (first
 | ((with_reducible apply awO_ev); (· rfl); (· exact sv))
 | ((with_reducible apply aw_seq); intro _ _)
 | (with_reducible apply aw_region)
 | ((with_reducible first | apply awO_nil | apply aw_exit | apply aw_skip | apply aw_ret); (try simp only [CT, ↓reduceIte, Nat.reduceEqDiff]))
 | ((with_reducible apply awO_y); (· rfl); (· rfl); (· decide); (· exact sv); (· exact sv))
 | ((with_reducible apply aw_cond_false); (· exact sv))
 | (refine Kont.go ‹Kont _ _ _ _› _ ?_)
 | ((with_reducible apply awO_c); (· rfl); (· rfl); (· exact sv); (· (first | exact c1 | exact c2 | exact c3)); (· rfl); (· rfl); (· rfl); (· decide))
 | ((with_reducible apply awO_m); (· rfl); (· rfl); (· exact sv); (· (first | exact c1 | exact c2 | exact c3)); (· exact svq); (· exact svq); (· exact svq); (· exact svq); (· rfl); (· exact nd); (with_reducible apply awO_st); (· exact svs))
 | ((first | ((with_reducible apply awO_guardN); (· rfl); (· rfl); (· exact sv); (· exact nB)) | ((with_reducible apply aw_condN); (· exact sv))); (· exact pN); (· exact pN); all_goals (intro hg; try (exfalso; omega)))
 | ((try with_reducible apply wk_id); (with_reducible apply retQ_mk1); (· exact rI); (· exact sv); (· exact sv); (· exact sv); (· exact sv); rotate_left; rotate_left; (· simp); (· rfl)))
      all_goals first | rfl | (rw [e]; done) | (rw [e]; rfl)
end
end Go.Proofs.YtgbhjlkenfmadaaGreatDoor
