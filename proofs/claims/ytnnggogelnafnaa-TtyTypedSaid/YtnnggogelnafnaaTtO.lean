/- The law TtyTyped, on the abstract machine. -/
import Derived.Test.YtnnggogelnafnaaTtN
namespace Go.Proofs.Ytnnggogelnafnaa
open Go.RowKit
set_option linter.unusedVariables false
set_option linter.unusedSimpArgs false
set_option maxRecDepth 100000
set_option maxHeartbeats 8000000
theorem textB_spec {b : UInt8} (h : textB b = true) : ¬ (b.toNat = 3 ∨ b.toNat = 26 ∨ b.toNat = 28 ∨ b.toNat = 21 ∨ b.toNat = 127 ∨ b.toNat = 10 ∨ b.toNat = 4) := by
  simp [textB] at h; omega
theorem feed_text (s : List UInt8) : ∀ (e : List UInt8), textsB s = true → e.length + s.length ≤ 4096 → feedF ⟨0, 0, e, [], [], false⟩ (s ++ [10]) = (⟨0, 0, [], [e ++ s ++ [10]], [], false⟩, []) := by
  induction s with
  | nil =>
    intro e _ _
    simp only [List.nil_append, feedF, List.append_nil]
    rw [keyF_10 rfl (by simp)]
    simp
  | cons b s ih =>
    intro e ht hl
    have ht' : textB b = true ∧ textsB s = true := by simpa [textsB] using ht
    simp only [List.cons_append, feedF]
    simp only [List.length_cons] at hl
    rw [keyF_text (textB_spec ht'.1) ht'.1 (by simp only; omega)]
    simp only
    rw [ih (e ++ [b]) ht'.2 (by simp; omega)]
    simp
abbrev lT (M : List (List UInt8)) : Tty := ⟨0, 0, [], M, [], false⟩
theorem typed_feed {s : List UInt8} (ht : textsB s = true) (hl : s.length ≤ 4096) : Ab Try.prog 18 [zT0, az (s ++ [10])] (.tp [.ag [ai 0, ai 0, az [], .rd 1 [az (s ++ [10])], az [], ab false], .rd 0 []]) :=
  Fn_nz (by have := feed_ab tz (s ++ [10]) (by simp; omega) (by decide) (by decide); unfold tz at this; rw [feed_text s [] ht (by simpa using hl)] at this; exact this)
theorem typed_part {r : List UInt8} {n : Int} (h0 : 1 ≤ n) (h1 : n < r.length) (hr : r.length ≤ 5000) : Ab Try.prog 12 [.ag [ai 0, ai 0, az [], .rd 1 [az r], az [], ab false], ai n] (.tp [.ag [ai 0, ai 0, az [], .rd 1 [az (r.drop n.toNat)], az [], ab false], az (r.take n.toNat), ai 1]) := by
  have := read_ab (lT [r]) n (by simp) (by simp; omega)
  rw [readF_cut (by omega) h1] at this
  exact this
theorem typed_last {r : List UInt8} {n : Int} (h0 : 1 ≤ n) (h1 : ¬ n < r.length) (h2 : 0 < r.length) (hr : r.length ≤ 5000) : Ab Try.prog 12 [.ag [ai 0, ai 0, az [], .rd 1 [az r], az [], ab false], ai n] (.tp [.ag [ai 0, ai 0, az [], .rd 0 [], az [], ab false], az r, ai 1]) := by
  have := read_ab (lT [r]) n (by simp) (by simp; omega)
  rw [readF_all (by omega) h1 (by omega)] at this
  exact this
theorem typed_wait {n : Int} (h0 : 1 ≤ n) : Ab Try.prog 12 [.ag [ai 0, ai 0, az [], .rd 0 [], az [], ab false], ai n] (.tp [.ag [ai 0, ai 0, az [], .rd 0 [], az [], ab false], az [], ai 2]) := by
  have := read_ab (lT []) n (by simp) (by simp)
  rw [readF_nil (by omega) rfl] at this
  exact this
theorem ttyTyped_ab (s : List UInt8) (n : Int) (hs : s.length ≤ 140737488351232) : Ab Try.prog 4 [az s, ai n] (ab true) := by
  have c0 := texts_ab s (by omega)
  by_cases hc : s.length ≤ 4096 ∧ textsB s = true ∧ 1 ≤ n
  · obtain ⟨hl, ht, hn⟩ := hc
    rw [ht] at c0
    have c1 := typed_feed ht hl
    refine Fn_of_aw (keep := []) Try.func4 rfl rfl (by simp [Try.ntmps4]) ?_
    simp only [num_cons, num_nil, Try.ntmps4, Try.results4]
    repeat' (first
        | ((with_reducible apply awO_ev); (· rfl); (· exact sv))
        | ((with_reducible apply awO_eqnil); (· rfl); (· rfl); (· exact sv); (· exact sv); (· exact svp); (· rfl); (· (first | decide | (simp only []; omega) | omega)); intro nb hnb; simp only [put_some])
        | ((with_reducible apply awO_neqnil); (· rfl); (· rfl); (· exact sv); (· exact sv); (· exact svp); (· rfl); (· (first | decide | (simp only []; omega) | omega)); intro nb hnb; simp only [put_some])
        | ((with_reducible apply aw_seq); intro _ _)
        | ((with_reducible apply aw_region))
        | ((with_reducible apply aw_block))
        | ((with_reducible apply awO_nil); (try simp only [CT, ↓reduceIte, Nat.reduceEqDiff]))
        | ((with_reducible apply aw_exit); (try simp only [CT, ↓reduceIte, Nat.reduceEqDiff]))
        | ((with_reducible apply aw_skip); (try simp only [CT, ↓reduceIte, Nat.reduceEqDiff]))
        | ((with_reducible apply aw_ret); (try simp only [CT, ↓reduceIte, Nat.reduceEqDiff]))
        | ((with_reducible apply awO_y); (· rfl); (· rfl); (· decide); (· exact sv); (· exact sv))
        | ((with_reducible apply awO_n); (· rfl); (· rfl); (· decide); (· exact sv); (· rfl); (· rfl); (· decide))
        | ((with_reducible apply awO_u); (· rfl); (· rfl); (· exact svr); (· rfl); (· decide))
        | ((with_reducible apply aw_cond_true); (· exact sv))
        | ((with_reducible apply aw_cond_false); (· exact sv))
        | (refine Kont.go ‹Kont _ _ _ _› _ ?_)
        | ((with_reducible apply awO_un); (· rfl); (· decide); (· exact sv))
        | ((with_reducible apply awO_c); (· rfl); (· rfl); (· exact sv); (· (first | with_reducible exact c0 | with_reducible exact c1)); (· rfl); (· rfl); (· rfl); (· decide))
        | ((with_reducible apply awO_f); (· rfl); (· rfl); (· exact sv); (· exact sv); (· (first | with_reducible exact c0 | with_reducible exact c1)); (· rfl); (· rfl); (· decide))
        | ((with_reducible apply awO_m); (· rfl); (· rfl); (· exact sv); (· (first | with_reducible exact c0 | with_reducible exact c1)); (· exact svq); (· exact svq); (· exact svq); (· exact svq); (· rfl); (· (first | decide | (simp only []; omega) | omega)); (with_reducible apply awO_st); (· exact svs))
        | ((with_reducible apply awO_guard); (· rfl); (· rfl); (· exact sv); all_goals (intro hg; (try simp only [Bool.not_true, Bool.not_false]); (try simp only [decide_eq_true_eq, decide_eq_false_iff_not, Bool.not_true, Bool.not_false, Bool.not_eq_true', Bool.not_eq_false', Bool.not_not] at hg); try (exfalso; omega)))
        | ((with_reducible apply aw_cond); (· exact sv); all_goals (intro hg; (try simp only [decide_eq_true_eq, decide_eq_false_iff_not, Bool.not_true, Bool.not_false, Bool.not_eq_true', Bool.not_eq_false', Bool.not_not] at hg); try (exfalso; omega)))
        | ((with_reducible apply retQ_mk); (· (first | exact .inr rfl | exact .inl rfl)); (· exact sv); (· exact sv); rotate_left; (· rfl))
        | ((with_reducible apply wk_id); (with_reducible apply retQ_mk); (· (first | exact .inr rfl | exact .inl rfl)); (· exact sv); (· exact sv); rotate_left; (· rfl))
        | ((try with_reducible apply wk_id); (with_reducible apply retQ_mk1); (· (first | exact .inr rfl | exact .inl rfl)); (· exact sv); (· exact sv); (· exact sv); (· exact sv); rotate_left; rotate_left; (· simp); (· rfl))
        | ((try with_reducible apply wk_id); (with_reducible apply retQ_mk2); (· (first | exact .inr rfl | exact .inl rfl)); (· exact sv); (· exact sv); (· exact sv); (· exact sv); (· exact sv); (· exact sv); rotate_left; rotate_left; rotate_left; (· simp); (· simp); (· rfl)))
    refine aw_loopF (fun x : Nat × List UInt8 × List UInt8 => [(8, ai x.1), (7, az x.2.1)]) (fun x => [(5, [ai 0, ai 0, az [], .rd 1 [az x.2.2], az [], ab false])])
      (fun x => x.1 ≤ x.2.1.length ∧ 0 < x.2.2.length ∧ x.2.1 ++ x.2.2 = s ++ [10]) (fun x => s.length + 1 - x.1) (0, [], s ++ [10]) ⟨by simp, by simp, by simp⟩ ?_ ?_ ?_
    · (simp only [LP, look_cons, look_nil, and_true, true_and, ↓reduceIte, Nat.reduceEqDiff, Option.some.injEq, AV.v.injEq, Value.int.injEq, Int.natCast_add, Int.cast_ofNat_Int])
    · (simp only [LP, look_cons, look_nil, and_true, true_and, ↓reduceIte, Nat.reduceEqDiff, Option.some.injEq, AV.v.injEq, Value.int.injEq, Int.natCast_add, Int.cast_ofNat_Int])
    rintro ⟨k, g, r⟩ ⟨hk, hr, hI⟩
    simp only at hk hr hI
    have hlen : g.length + r.length = s.length + 1 := by have := congrArg List.length hI; simpa using this
    (simp only [LP, List.append_assoc, List.nil_append, List.cons_append, List.append_nil, List.contains_cons, List.contains_nil, Nat.reduceBEq, Bool.or_false, Bool.or_true, Bool.true_or, Bool.false_or, ↓reduceIte, Bool.false_eq_true])
    by_cases hnr : n < r.length
    · have c2 := typed_part hn hnr (by omega)
      have q1 : (r.take n.toNat).length = n.toNat := by rw [List.length_take]; omega
      have q2 : (g ++ r.take n.toNat).length = g.length + n.toNat := by rw [List.length_append, q1]
      repeat' (first
          | ((with_reducible apply awO_ev); (· rfl); (· exact sv))
          | ((with_reducible apply awO_eqnil); (· rfl); (· rfl); (· exact sv); (· exact sv); (· exact svp); (· rfl); (· (first | decide | (simp only []; omega) | omega)); intro nb hnb; simp only [put_some])
          | ((with_reducible apply awO_neqnil); (· rfl); (· rfl); (· exact sv); (· exact sv); (· exact svp); (· rfl); (· (first | decide | (simp only []; omega) | omega)); intro nb hnb; simp only [put_some])
          | ((with_reducible apply aw_seq); intro _ _)
          | ((with_reducible apply aw_region))
          | ((with_reducible apply aw_block))
          | ((with_reducible apply awO_nil); (try simp only [CT, ↓reduceIte, Nat.reduceEqDiff]))
          | ((with_reducible apply aw_exit); (try simp only [CT, ↓reduceIte, Nat.reduceEqDiff]))
          | ((with_reducible apply aw_skip); (try simp only [CT, ↓reduceIte, Nat.reduceEqDiff]))
          | ((with_reducible apply aw_ret); (try simp only [CT, ↓reduceIte, Nat.reduceEqDiff]))
          | ((with_reducible apply awO_y); (· rfl); (· rfl); (· decide); (· exact sv); (· exact sv))
          | ((with_reducible apply awO_n); (· rfl); (· rfl); (· decide); (· exact sv); (· rfl); (· rfl); (· decide))
          | ((with_reducible apply awO_u); (· rfl); (· rfl); (· exact svr); (· rfl); (· decide))
          | ((with_reducible apply aw_cond_true); (· exact sv))
          | ((with_reducible apply aw_cond_false); (· exact sv))
          | (refine Kont.go ‹Kont _ _ _ _› _ ?_)
          | ((with_reducible apply awO_un); (· rfl); (· decide); (· exact sv))
          | ((with_reducible apply awO_c); (· rfl); (· rfl); (· exact sv); (· (first | with_reducible exact c2)); (· rfl); (· rfl); (· rfl); (· decide))
          | ((with_reducible apply awO_f); (· rfl); (· rfl); (· exact sv); (· exact sv); (· (first | with_reducible exact c2)); (· rfl); (· rfl); (· decide))
          | ((with_reducible apply awO_m); (· rfl); (· rfl); (· exact sv); (· (first | with_reducible exact c2)); (· exact svq); (· exact svq); (· exact svq); (· exact svq); (· rfl); (· (first | decide | (simp only []; omega) | omega)); (with_reducible apply awO_st); (· exact svs))
          | ((with_reducible apply aw_draw); (· decide +kernel); (simp only [List.size_toArray, List.length_cons, List.length_nil, Nat.reduceAdd]))
          | ((with_reducible apply awY_done); (· decide +kernel); (try simp only [CT, ↓reduceIte, Nat.reduceEqDiff]))
          | ((with_reducible apply awY_q); (· exact sQ); (· repeat (first | (with_reducible exact NP_ret) | (with_reducible apply NP_then) | (with_reducible apply NP_blk) | (with_reducible apply NP_wk) | (with_reducible apply NP_end))); (· exact svg); (· rfl); (· exact sv))
          | ((with_reducible apply awY_qy); (· exact sQ); (· repeat (first | (with_reducible exact NP_ret) | (with_reducible apply NP_then) | (with_reducible apply NP_blk) | (with_reducible apply NP_wk) | (with_reducible apply NP_end))); (· exact svg); (· rfl); (· rfl); (· (first | decide | (simp only []; omega) | omega)); (· exact sv); (· exact sv))
          | ((with_reducible apply awY_qn); (· exact sQ); (· repeat (first | (with_reducible exact NP_ret) | (with_reducible apply NP_then) | (with_reducible apply NP_blk) | (with_reducible apply NP_wk) | (with_reducible apply NP_end))); (· exact svg); (· rfl); (· rfl); (· (first | decide | (simp only []; omega) | omega)); (· exact sv); (· rfl); (· rfl); (· (first | decide | (simp only []; omega) | omega)); simp only [put_some])
          | ((with_reducible apply awY_qu); (· exact sQ); (· repeat (first | (with_reducible exact NP_ret) | (with_reducible apply NP_then) | (with_reducible apply NP_blk) | (with_reducible apply NP_wk) | (with_reducible apply NP_end))); (· exact svg); (· rfl); (· rfl); (· exact svr); (· rfl); (· (first | decide | (simp only []; omega) | omega)); simp only [put_some])
          | ((with_reducible apply awY_tn); (· exact sT); (· repeat (first | (with_reducible exact NP_ret) | (with_reducible apply NP_then) | (with_reducible apply NP_blk) | (with_reducible apply NP_wk) | (with_reducible apply NP_end))); (· exact svg); (· rfl); (· rfl); (· (first | decide | (simp only []; omega) | omega)); (· exact sv); (· rfl); (· rfl); (· (first | decide | (simp only []; omega) | omega)); simp only [put_some])
          | ((with_reducible apply awY_tu); (· exact sT); (· repeat (first | (with_reducible exact NP_ret) | (with_reducible apply NP_then) | (with_reducible apply NP_blk) | (with_reducible apply NP_wk) | (with_reducible apply NP_end))); (· exact svg); (· rfl); (· rfl); (· exact svr); (· rfl); (· (first | decide | (simp only []; omega) | omega)); simp only [put_some])
          | ((with_reducible apply endQ_rfl))
          | ((with_reducible apply endQ_sub); (· exact sE); (· exact sN))
          | ((with_reducible apply awI_ev); (· exact svg); (· rfl); (· exact sv))
          | ((with_reducible apply awI_c); (· exact svg); (· rfl); (· rfl); (· exact sv); (· (first | with_reducible exact c2)); (· rfl); (· rfl); (· rfl); (· (first | decide | (simp only []; omega) | omega)); simp only [put_some])
          | ((with_reducible apply awI_f); (· exact svg); (· rfl); (· rfl); (· exact sv); (· exact sv); (· (first | with_reducible exact c2)); (· rfl); (· rfl); (· (first | decide | (simp only []; omega) | omega)); simp only [put_some])
          | ((with_reducible apply awI_cy); (· exact svg); (· rfl); (· rfl); (· (first | decide | (simp only []; omega) | omega)); (· exact sv); (· rfl); (· exact sv); (· (first | with_reducible exact c2)); (· rfl); (· rfl); (· rfl); (· (first | decide | (simp only []; omega) | omega)); simp only [put_some])
          | ((with_reducible apply awI_fy); (· exact svg); (· rfl); (· rfl); (· (first | decide | (simp only []; omega) | omega)); (· exact sv); (· rfl); (· exact sv); (· exact sv); (· (first | with_reducible exact c2)); (· rfl); (· rfl); (· (first | decide | (simp only []; omega) | omega)); simp only [put_some])
          | ((with_reducible apply awO_guard); (· rfl); (· rfl); (· exact sv); all_goals (intro hg; (try simp only [Bool.not_true, Bool.not_false]); (try simp only [decide_eq_true_eq, decide_eq_false_iff_not, Bool.not_true, Bool.not_false, Bool.not_eq_true', Bool.not_eq_false', Bool.not_not] at hg); try (exfalso; omega)))
          | ((with_reducible apply aw_cond); (· exact sv); all_goals (intro hg; (try simp only [decide_eq_true_eq, decide_eq_false_iff_not, Bool.not_true, Bool.not_false, Bool.not_eq_true', Bool.not_eq_false', Bool.not_not] at hg); try (exfalso; omega)))
          | ((with_reducible apply awY_guard); (· exact sR); (· exact svg); (· rfl); (· rfl); (· exact svl); all_goals (intro hg; (try simp only [Bool.not_true, Bool.not_false]); (try simp only [decide_eq_true_eq, decide_eq_false_iff_not, Bool.not_true, Bool.not_false, Bool.not_eq_true', Bool.not_eq_false', Bool.not_not] at hg); try (exfalso; omega)))
          | ((with_reducible apply retQ_mk); (· (first | exact .inr rfl | exact .inl rfl)); (· exact sv); (· exact sv); rotate_left; (· rfl))
          | ((with_reducible apply wk_id); (with_reducible apply retQ_mk); (· (first | exact .inr rfl | exact .inl rfl)); (· exact sv); (· exact sv); rotate_left; (· rfl))
          | ((try with_reducible apply wk_id); (with_reducible apply retQ_mk1); (· (first | exact .inr rfl | exact .inl rfl)); (· exact sv); (· exact sv); (· exact sv); (· exact sv); rotate_left; rotate_left; (· simp); (· rfl))
          | ((try with_reducible apply wk_id); (with_reducible apply retQ_mk2); (· (first | exact .inr rfl | exact .inl rfl)); (· exact sv); (· exact sv); (· exact sv); (· exact sv); (· exact sv); (· exact sv); rotate_left; rotate_left; rotate_left; (· simp); (· simp); (· rfl))
          | ((with_reducible apply awY_p); (· exact sH); (first | ((with_reducible apply awP_1); (· decide +kernel)) | ((with_reducible apply awP_2); (· exact sP)))))
      · refine LE_mk ((k + 1, g ++ r.take n.toNat, r.drop n.toNat)) ?_ ?_ sN sN sN
        · refine ⟨by simp only [q2]; omega, by simp only [List.length_drop]; omega, ?_⟩
          simp only [List.append_assoc, List.take_append_drop]; exact hI
        · simp only; omega
    · have c2 := typed_last hn hnr hr (by omega)
      have c3 := typed_wait hn
      repeat' (first
          | ((with_reducible apply awO_ev); (· rfl); (· exact sv))
          | ((with_reducible apply awO_eqnil); (· rfl); (· rfl); (· exact sv); (· exact sv); (· exact svp); (· rfl); (· (first | decide | (simp only []; omega) | omega)); intro nb hnb; simp only [put_some])
          | ((with_reducible apply awO_neqnil); (· rfl); (· rfl); (· exact sv); (· exact sv); (· exact svp); (· rfl); (· (first | decide | (simp only []; omega) | omega)); intro nb hnb; simp only [put_some])
          | ((with_reducible apply aw_seq); intro _ _)
          | ((with_reducible apply aw_region))
          | ((with_reducible apply aw_block))
          | ((with_reducible apply awO_nil); (try simp only [CT, ↓reduceIte, Nat.reduceEqDiff]))
          | ((with_reducible apply aw_exit); (try simp only [CT, ↓reduceIte, Nat.reduceEqDiff]))
          | ((with_reducible apply aw_skip); (try simp only [CT, ↓reduceIte, Nat.reduceEqDiff]))
          | ((with_reducible apply aw_ret); (try simp only [CT, ↓reduceIte, Nat.reduceEqDiff]))
          | ((with_reducible apply awO_y); (· rfl); (· rfl); (· decide); (· exact sv); (· exact sv))
          | ((with_reducible apply awO_n); (· rfl); (· rfl); (· decide); (· exact sv); (· rfl); (· rfl); (· decide))
          | ((with_reducible apply awO_u); (· rfl); (· rfl); (· exact svr); (· rfl); (· decide))
          | ((with_reducible apply aw_cond_true); (· exact sv))
          | ((with_reducible apply aw_cond_false); (· exact sv))
          | (refine Kont.go ‹Kont _ _ _ _› _ ?_)
          | ((with_reducible apply awO_un); (· rfl); (· decide); (· exact sv))
          | ((with_reducible apply awO_c); (· rfl); (· rfl); (· exact sv); (· (first | with_reducible exact c2 | with_reducible exact c3 | with_reducible exact awake_ab)); (· rfl); (· rfl); (· rfl); (· decide))
          | ((with_reducible apply awO_f); (· rfl); (· rfl); (· exact sv); (· exact sv); (· (first | with_reducible exact c2 | with_reducible exact c3 | with_reducible exact awake_ab)); (· rfl); (· rfl); (· decide))
          | ((with_reducible apply awO_m); (· rfl); (· rfl); (· exact sv); (· (first | with_reducible exact c2 | with_reducible exact c3 | with_reducible exact awake_ab)); (· exact svq); (· exact svq); (· exact svq); (· exact svq); (· rfl); (· (first | decide | (simp only []; omega) | omega)); (with_reducible apply awO_st); (· exact svs))
          | ((with_reducible apply aw_draw); (· decide +kernel); (simp only [List.size_toArray, List.length_cons, List.length_nil, Nat.reduceAdd]))
          | ((with_reducible apply awY_done); (· decide +kernel); (try simp only [CT, ↓reduceIte, Nat.reduceEqDiff]))
          | ((with_reducible apply awY_q); (· exact sQ); (· repeat (first | (with_reducible exact NP_ret) | (with_reducible apply NP_then) | (with_reducible apply NP_blk) | (with_reducible apply NP_wk) | (with_reducible apply NP_end))); (· exact svg); (· rfl); (· exact sv))
          | ((with_reducible apply awY_qy); (· exact sQ); (· repeat (first | (with_reducible exact NP_ret) | (with_reducible apply NP_then) | (with_reducible apply NP_blk) | (with_reducible apply NP_wk) | (with_reducible apply NP_end))); (· exact svg); (· rfl); (· rfl); (· (first | decide | (simp only []; omega) | omega)); (· exact sv); (· exact sv))
          | ((with_reducible apply awY_qn); (· exact sQ); (· repeat (first | (with_reducible exact NP_ret) | (with_reducible apply NP_then) | (with_reducible apply NP_blk) | (with_reducible apply NP_wk) | (with_reducible apply NP_end))); (· exact svg); (· rfl); (· rfl); (· (first | decide | (simp only []; omega) | omega)); (· exact sv); (· rfl); (· rfl); (· (first | decide | (simp only []; omega) | omega)); simp only [put_some])
          | ((with_reducible apply awY_qu); (· exact sQ); (· repeat (first | (with_reducible exact NP_ret) | (with_reducible apply NP_then) | (with_reducible apply NP_blk) | (with_reducible apply NP_wk) | (with_reducible apply NP_end))); (· exact svg); (· rfl); (· rfl); (· exact svr); (· rfl); (· (first | decide | (simp only []; omega) | omega)); simp only [put_some])
          | ((with_reducible apply awY_tn); (· exact sT); (· repeat (first | (with_reducible exact NP_ret) | (with_reducible apply NP_then) | (with_reducible apply NP_blk) | (with_reducible apply NP_wk) | (with_reducible apply NP_end))); (· exact svg); (· rfl); (· rfl); (· (first | decide | (simp only []; omega) | omega)); (· exact sv); (· rfl); (· rfl); (· (first | decide | (simp only []; omega) | omega)); simp only [put_some])
          | ((with_reducible apply awY_tu); (· exact sT); (· repeat (first | (with_reducible exact NP_ret) | (with_reducible apply NP_then) | (with_reducible apply NP_blk) | (with_reducible apply NP_wk) | (with_reducible apply NP_end))); (· exact svg); (· rfl); (· rfl); (· exact svr); (· rfl); (· (first | decide | (simp only []; omega) | omega)); simp only [put_some])
          | ((with_reducible apply endQ_rfl))
          | ((with_reducible apply endQ_sub); (· exact sE); (· exact sN))
          | ((with_reducible apply awI_ev); (· exact svg); (· rfl); (· exact sv))
          | ((with_reducible apply awI_c); (· exact svg); (· rfl); (· rfl); (· exact sv); (· (first | with_reducible exact c2 | with_reducible exact c3 | with_reducible exact awake_ab)); (· rfl); (· rfl); (· rfl); (· (first | decide | (simp only []; omega) | omega)); simp only [put_some])
          | ((with_reducible apply awI_f); (· exact svg); (· rfl); (· rfl); (· exact sv); (· exact sv); (· (first | with_reducible exact c2 | with_reducible exact c3 | with_reducible exact awake_ab)); (· rfl); (· rfl); (· (first | decide | (simp only []; omega) | omega)); simp only [put_some])
          | ((with_reducible apply awI_cy); (· exact svg); (· rfl); (· rfl); (· (first | decide | (simp only []; omega) | omega)); (· exact sv); (· rfl); (· exact sv); (· (first | with_reducible exact c2 | with_reducible exact c3 | with_reducible exact awake_ab)); (· rfl); (· rfl); (· rfl); (· (first | decide | (simp only []; omega) | omega)); simp only [put_some])
          | ((with_reducible apply awI_fy); (· exact svg); (· rfl); (· rfl); (· (first | decide | (simp only []; omega) | omega)); (· exact sv); (· rfl); (· exact sv); (· exact sv); (· (first | with_reducible exact c2 | with_reducible exact c3 | with_reducible exact awake_ab)); (· rfl); (· rfl); (· (first | decide | (simp only []; omega) | omega)); simp only [put_some])
          | ((with_reducible apply awO_guard); (· rfl); (· rfl); (· exact sv); all_goals (intro hg; (try simp only [Bool.not_true, Bool.not_false]); (try simp only [decide_eq_true_eq, decide_eq_false_iff_not, Bool.not_true, Bool.not_false, Bool.not_eq_true', Bool.not_eq_false', Bool.not_not] at hg); try (exfalso; omega)))
          | ((with_reducible apply aw_cond); (· exact sv); all_goals (intro hg; (try simp only [decide_eq_true_eq, decide_eq_false_iff_not, Bool.not_true, Bool.not_false, Bool.not_eq_true', Bool.not_eq_false', Bool.not_not] at hg); try (exfalso; omega)))
          | ((with_reducible apply awY_guard); (· exact sR); (· exact svg); (· rfl); (· rfl); (· exact svl); all_goals (intro hg; (try simp only [Bool.not_true, Bool.not_false]); (try simp only [decide_eq_true_eq, decide_eq_false_iff_not, Bool.not_true, Bool.not_false, Bool.not_eq_true', Bool.not_eq_false', Bool.not_not] at hg); try (exfalso; omega)))
          | ((with_reducible apply retQ_mk); (· (first | exact .inr rfl | exact .inl rfl)); (· exact sv); (· exact sv); rotate_left; (· rfl))
          | ((with_reducible apply wk_id); (with_reducible apply retQ_mk); (· (first | exact .inr rfl | exact .inl rfl)); (· exact sv); (· exact sv); rotate_left; (· rfl))
          | ((try with_reducible apply wk_id); (with_reducible apply retQ_mk1); (· (first | exact .inr rfl | exact .inl rfl)); (· exact sv); (· exact sv); (· exact sv); (· exact sv); rotate_left; rotate_left; (· simp); (· rfl))
          | ((try with_reducible apply wk_id); (with_reducible apply retQ_mk2); (· (first | exact .inr rfl | exact .inl rfl)); (· exact sv); (· exact sv); (· exact sv); (· exact sv); (· exact sv); (· exact sv); rotate_left; rotate_left; rotate_left; (· simp); (· simp); (· rfl))
          | ((with_reducible apply awY_p); (· exact sH); (first | ((with_reducible apply awP_1); (· decide +kernel)) | ((with_reducible apply awP_2); (· exact sP)))))
      · rfl
      · exact absurd hI hg
      · exfalso; rw [List.length_append] at hg; omega
  · skip
    refine Fn_of_aw (keep := []) Try.func4 rfl rfl (by simp [Try.ntmps4]) ?_
    simp only [num_cons, num_nil, Try.ntmps4, Try.results4]
    repeat' (first
        | ((with_reducible apply awO_ev); (· rfl); (· exact sv))
        | ((with_reducible apply awO_eqnil); (· rfl); (· rfl); (· exact sv); (· exact sv); (· exact svp); (· rfl); (· (first | decide | (simp only []; omega) | omega)); intro nb hnb; simp only [put_some])
        | ((with_reducible apply awO_neqnil); (· rfl); (· rfl); (· exact sv); (· exact sv); (· exact svp); (· rfl); (· (first | decide | (simp only []; omega) | omega)); intro nb hnb; simp only [put_some])
        | ((with_reducible apply aw_seq); intro _ _)
        | ((with_reducible apply aw_region))
        | ((with_reducible apply aw_block))
        | ((with_reducible apply awO_nil); (try simp only [CT, ↓reduceIte, Nat.reduceEqDiff]))
        | ((with_reducible apply aw_exit); (try simp only [CT, ↓reduceIte, Nat.reduceEqDiff]))
        | ((with_reducible apply aw_skip); (try simp only [CT, ↓reduceIte, Nat.reduceEqDiff]))
        | ((with_reducible apply aw_ret); (try simp only [CT, ↓reduceIte, Nat.reduceEqDiff]))
        | ((with_reducible apply awO_y); (· rfl); (· rfl); (· decide); (· exact sv); (· exact sv))
        | ((with_reducible apply awO_n); (· rfl); (· rfl); (· decide); (· exact sv); (· rfl); (· rfl); (· decide))
        | ((with_reducible apply awO_u); (· rfl); (· rfl); (· exact svr); (· rfl); (· decide))
        | ((with_reducible apply aw_cond_true); (· exact sv))
        | ((with_reducible apply aw_cond_false); (· exact sv))
        | (refine Kont.go ‹Kont _ _ _ _› _ ?_)
        | ((with_reducible apply awO_un); (· rfl); (· decide); (· exact sv))
        | ((with_reducible apply awO_c); (· rfl); (· rfl); (· exact sv); (· (first | with_reducible exact c0 | with_reducible exact awake_ab)); (· rfl); (· rfl); (· rfl); (· decide))
        | ((with_reducible apply awO_f); (· rfl); (· rfl); (· exact sv); (· exact sv); (· (first | with_reducible exact c0 | with_reducible exact awake_ab)); (· rfl); (· rfl); (· decide))
        | ((with_reducible apply awO_m); (· rfl); (· rfl); (· exact sv); (· (first | with_reducible exact c0 | with_reducible exact awake_ab)); (· exact svq); (· exact svq); (· exact svq); (· exact svq); (· rfl); (· (first | decide | (simp only []; omega) | omega)); (with_reducible apply awO_st); (· exact svs))
        | ((with_reducible apply awO_guard); (· rfl); (· rfl); (· exact sv); all_goals (intro hg; (try simp only [Bool.not_true, Bool.not_false]); (try simp only [decide_eq_true_eq, decide_eq_false_iff_not, Bool.not_true, Bool.not_false, Bool.not_eq_true', Bool.not_eq_false', Bool.not_not] at hg); try (exfalso; omega)))
        | ((with_reducible apply aw_cond); (· exact sv); all_goals (intro hg; (try simp only [decide_eq_true_eq, decide_eq_false_iff_not, Bool.not_true, Bool.not_false, Bool.not_eq_true', Bool.not_eq_false', Bool.not_not] at hg); try (exfalso; omega)))
        | ((with_reducible apply retQ_mk); (· (first | exact .inr rfl | exact .inl rfl)); (· exact sv); (· exact sv); rotate_left; (· rfl))
        | ((with_reducible apply wk_id); (with_reducible apply retQ_mk); (· (first | exact .inr rfl | exact .inl rfl)); (· exact sv); (· exact sv); rotate_left; (· rfl))
        | ((try with_reducible apply wk_id); (with_reducible apply retQ_mk1); (· (first | exact .inr rfl | exact .inl rfl)); (· exact sv); (· exact sv); (· exact sv); (· exact sv); rotate_left; rotate_left; (· simp); (· rfl))
        | ((try with_reducible apply wk_id); (with_reducible apply retQ_mk2); (· (first | exact .inr rfl | exact .inl rfl)); (· exact sv); (· exact sv); (· exact sv); (· exact sv); (· exact sv); (· exact sv); rotate_left; rotate_left; rotate_left; (· simp); (· simp); (· rfl)))
    all_goals first | rfl | (exfalso; apply hc; refine ⟨by omega, ?_, by omega⟩; first | assumption | simp_all)
end Go.Proofs.Ytnnggogelnafnaa
