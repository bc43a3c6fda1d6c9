/- The editor: act, second part of the program, on the abstract machine. -/
import Derived.Test.YtapmolfpkhfpgaaErX
namespace Go.Proofs.Ytapmolfpkhfpgaa
open Go.RowKit
set_option linter.unusedVariables false
set_option linter.unusedSimpArgs false
set_option maxRecDepth 100000
set_option maxHeartbeats 8000000
theorem mx0 (p : Nat) : (if (0 : Int) > (p : Int) - 1 then (0 : Int) else (p : Int) - 1) = ((p - 1 : Nat) : Int) := by split <;> omega
theorem mn1 (n p : Nat) : (if (n : Int) < (p : Int) + 1 then (n : Int) else (p : Int) + 1) = ((min n (p + 1) : Nat) : Int) := by split <;> omega
attribute [go_sem] mx0 mn1
theorem act3_fn (e : Er) (h : okEr e) (L : List (List UInt8)) (x : List UInt8) (hx : x.length ≤ 100000) : Fn Try.prog 28 [.pt 9 0, az x] (wkH e L 3) (.tp []) (wkE ({ e with now := ⟨e.now.t, (e.now.p.toNat - 1 : Nat)⟩ }) L 3) [9] := by
  have h0 := h.now.2.1
  have h1 := h.now.2.2
  have ht := h.now.1
  have hK := h.nk
  have hKs := h.kills
  have hmk := h.mark
  clear h
  obtain ⟨⟨t, z⟩, m, K, U, R, ks, la, li, sd⟩ := e
  simp only at h0 h1 ht hK hKs hmk
  obtain ⟨p, rfl⟩ : ∃ p : Nat, z = p := ⟨z.toNat, by omega⟩
  simp only [wkH, wkC, wkE, rplS, Int.toNat_natCast]
  refine Fn_of_aw (keep := [9, 3000, 4000]) Try.func28 rfl rfl (by simp [Try.ntmps28]) ?_
  simp only [num_cons, num_nil, Try.ntmps28, Try.results28]
  repeat' (first
 | ((with_reducible apply awO_ev); (· rfl); (· exact sv))
 | ((with_reducible apply aw_seq); intro _ _)
 | (with_reducible apply aw_region)
 | (with_reducible apply aw_block)
 | ((first | (with_reducible apply awO_nil) | (with_reducible apply aw_exit) | (with_reducible apply aw_skip) | (with_reducible apply aw_ret)); (try simp only [CT, ↓reduceIte, Nat.reduceEqDiff]))
 | ((with_reducible apply aw_cond_true); (· exact sv))
 | ((with_reducible apply aw_cond_false); (· exact sv))
 | (refine Kont.go ‹Kont _ _ _ _› _ ?_)
 | ((with_reducible apply aw_draw); (· decide +kernel); (simp only [List.size_toArray, List.length_cons, List.length_nil, Nat.reduceAdd]))
 | ((with_reducible apply awY_done); (· decide +kernel); (try simp only [CT, ↓reduceIte, Nat.reduceEqDiff]))
 | ((with_reducible apply awY_q); (· exact sQ); (· exact np); (· exact svg); (· rfl); (· exact sv)))
  all_goals (refine retQ_wE (by first | exact .inr rfl | exact .inl rfl) rfl rfl rfl sv rfl (roS _) rfl (roS _) rfl rfl ?_ rfl rfl; first | rfl | (simp only [List.append_nil, List.length_nil]; rfl))
theorem act4_fn (e : Er) (h : okEr e) (L : List (List UInt8)) (x : List UInt8) (hx : x.length ≤ 100000) : Fn Try.prog 28 [.pt 9 0, az x] (wkH e L 4) (.tp []) (wkE ({ e with now := ⟨e.now.t, (min e.now.t.length (e.now.p.toNat + 1) : Nat)⟩ }) L 4) [9] := by
  have h0 := h.now.2.1
  have h1 := h.now.2.2
  have ht := h.now.1
  have hK := h.nk
  have hKs := h.kills
  have hmk := h.mark
  clear h
  obtain ⟨⟨t, z⟩, m, K, U, R, ks, la, li, sd⟩ := e
  simp only at h0 h1 ht hK hKs hmk
  obtain ⟨p, rfl⟩ : ∃ p : Nat, z = p := ⟨z.toNat, by omega⟩
  simp only [wkH, wkC, wkE, rplS, Int.toNat_natCast]
  refine Fn_of_aw (keep := [9, 3000, 4000]) Try.func28 rfl rfl (by simp [Try.ntmps28]) ?_
  simp only [num_cons, num_nil, Try.ntmps28, Try.results28]
  repeat' (first
 | ((with_reducible apply awO_ev); (· rfl); (· exact sv))
 | ((with_reducible apply aw_seq); intro _ _)
 | (with_reducible apply aw_region)
 | (with_reducible apply aw_block)
 | ((first | (with_reducible apply awO_nil) | (with_reducible apply aw_exit) | (with_reducible apply aw_skip) | (with_reducible apply aw_ret)); (try simp only [CT, ↓reduceIte, Nat.reduceEqDiff]))
 | ((with_reducible apply aw_cond_true); (· exact sv))
 | ((with_reducible apply aw_cond_false); (· exact sv))
 | (refine Kont.go ‹Kont _ _ _ _› _ ?_)
 | ((with_reducible apply aw_draw); (· decide +kernel); (simp only [List.size_toArray, List.length_cons, List.length_nil, Nat.reduceAdd]))
 | ((with_reducible apply awY_done); (· decide +kernel); (try simp only [CT, ↓reduceIte, Nat.reduceEqDiff]))
 | ((with_reducible apply awY_q); (· exact sQ); (· exact np); (· exact svg); (· rfl); (· exact sv)))
  all_goals (refine retQ_wE (by first | exact .inr rfl | exact .inl rfl) rfl rfl rfl sv rfl (roS _) rfl (roS _) rfl rfl ?_ rfl rfl; first | rfl | (simp only [List.append_nil, List.length_nil]; rfl))
theorem act9_fn (e : Er) (h : okEr e) (L : List (List UInt8)) (x : List UInt8) (hx : x.length ≤ 100000) : Fn Try.prog 28 [.pt 9 0, az x] (wkH e L 9) (.tp []) (wkE ({ e with now := rplS e.now (e.now.p.toNat - 1) e.now.p.toNat [] }) L 9) [9] := by
  have h0 := h.now.2.1
  have h1 := h.now.2.2
  have ht := h.now.1
  have hK := h.nk
  have hKs := h.kills
  have hmk := h.mark
  have c1 := replace_fn e L 9 (e.now.p.toNat - 1) e.now.p.toNat [] (by omega) (by omega) (by omega) (by simp)
  clear h
  obtain ⟨⟨t, z⟩, m, K, U, R, ks, la, li, sd⟩ := e
  simp only at h0 h1 ht hK hKs hmk
  obtain ⟨p, rfl⟩ : ∃ p : Nat, z = p := ⟨z.toNat, by omega⟩
  simp only [wkH, wkC, wkE, rplS, Int.toNat_natCast] at c1 ⊢
  refine Fn_of_aw (keep := [9, 3000, 4000]) Try.func28 rfl rfl (by simp [Try.ntmps28]) ?_
  simp only [num_cons, num_nil, Try.ntmps28, Try.results28]
  repeat' (first
 | ((with_reducible apply awO_ev); (· rfl); (· exact sv))
 | ((with_reducible apply aw_seq); intro _ _)
 | (with_reducible apply aw_region)
 | (with_reducible apply aw_block)
 | ((first | (with_reducible apply awO_nil) | (with_reducible apply aw_exit) | (with_reducible apply aw_skip) | (with_reducible apply aw_ret)); (try simp only [CT, ↓reduceIte, Nat.reduceEqDiff]))
 | ((with_reducible apply aw_cond_true); (· exact sv))
 | ((with_reducible apply aw_cond_false); (· exact sv))
 | (refine Kont.go ‹Kont _ _ _ _› _ ?_)
 | ((with_reducible apply awO_m); (· rfl); (· rfl); (· exact sv); (· (first | exact c1)); (· exact svq); (· exact svq); (· exact svq); (· exact svq); (· rfl); (· exact nd); (with_reducible apply awO_st); (· exact svs))
 | ((with_reducible apply aw_draw); (· decide +kernel); (simp only [List.size_toArray, List.length_cons, List.length_nil, Nat.reduceAdd]))
 | ((with_reducible apply awY_done); (· decide +kernel); (try simp only [CT, ↓reduceIte, Nat.reduceEqDiff]))
 | ((with_reducible apply awY_q); (· exact sQ); (· exact np); (· exact svg); (· rfl); (· exact sv)))
  all_goals (refine retQ_wE (by first | exact .inr rfl | exact .inl rfl) rfl rfl rfl sv rfl (roS _) rfl (roS _) rfl rfl ?_ rfl rfl; first | rfl | (simp only [List.append_nil, List.length_nil]; rfl))
theorem act10_fn (e : Er) (h : okEr e) (L : List (List UInt8)) (x : List UInt8) (hx : x.length ≤ 100000) : Fn Try.prog 28 [.pt 9 0, az x] (wkH e L 10) (.tp []) (wkE ({ e with now := rplS e.now e.now.p.toNat (min e.now.t.length (e.now.p.toNat + 1)) [] }) L 10) [9] := by
  have h0 := h.now.2.1
  have h1 := h.now.2.2
  have ht := h.now.1
  have hK := h.nk
  have hKs := h.kills
  have hmk := h.mark
  have c1 := replace_fn e L 10 e.now.p.toNat (min e.now.t.length (e.now.p.toNat + 1)) [] (by omega) (by omega) (by omega) (by simp)
  clear h
  obtain ⟨⟨t, z⟩, m, K, U, R, ks, la, li, sd⟩ := e
  simp only at h0 h1 ht hK hKs hmk
  obtain ⟨p, rfl⟩ : ∃ p : Nat, z = p := ⟨z.toNat, by omega⟩
  simp only [wkH, wkC, wkE, rplS, Int.toNat_natCast] at c1 ⊢
  refine Fn_of_aw (keep := [9, 3000, 4000]) Try.func28 rfl rfl (by simp [Try.ntmps28]) ?_
  simp only [num_cons, num_nil, Try.ntmps28, Try.results28]
  repeat' (first
 | ((with_reducible apply awO_ev); (· rfl); (· exact sv))
 | ((with_reducible apply aw_seq); intro _ _)
 | (with_reducible apply aw_region)
 | (with_reducible apply aw_block)
 | ((first | (with_reducible apply awO_nil) | (with_reducible apply aw_exit) | (with_reducible apply aw_skip) | (with_reducible apply aw_ret)); (try simp only [CT, ↓reduceIte, Nat.reduceEqDiff]))
 | ((with_reducible apply aw_cond_true); (· exact sv))
 | ((with_reducible apply aw_cond_false); (· exact sv))
 | (refine Kont.go ‹Kont _ _ _ _› _ ?_)
 | ((with_reducible apply awO_m); (· rfl); (· rfl); (· exact sv); (· (first | exact c1)); (· exact svq); (· exact svq); (· exact svq); (· exact svq); (· rfl); (· exact nd); (with_reducible apply awO_st); (· exact svs))
 | ((with_reducible apply aw_draw); (· decide +kernel); (simp only [List.size_toArray, List.length_cons, List.length_nil, Nat.reduceAdd]))
 | ((with_reducible apply awY_done); (· decide +kernel); (try simp only [CT, ↓reduceIte, Nat.reduceEqDiff]))
 | ((with_reducible apply awY_q); (· exact sQ); (· exact np); (· exact svg); (· rfl); (· exact sv)))
  all_goals (refine retQ_wE (by first | exact .inr rfl | exact .inl rfl) rfl rfl rfl sv rfl (roS _) rfl (roS _) rfl rfl ?_ rfl rfl; first | rfl | (simp only [List.append_nil, List.length_nil]; rfl))
theorem act23_fn (e : Er) (h : okEr e) (L : List (List UInt8)) (x : List UInt8) (hx : x.length ≤ 100000) : Fn Try.prog 28 [.pt 9 0, az x] (wkH e L 23) (.tp []) (wkE ({ e with now := rplS e.now e.now.p.toNat (min e.now.t.length (e.now.p.toNat + 1)) [] }) L 23) [9] := by
  have h0 := h.now.2.1
  have h1 := h.now.2.2
  have ht := h.now.1
  have hK := h.nk
  have hKs := h.kills
  have hmk := h.mark
  have c1 := replace_fn e L 23 e.now.p.toNat (min e.now.t.length (e.now.p.toNat + 1)) [] (by omega) (by omega) (by omega) (by simp)
  clear h
  obtain ⟨⟨t, z⟩, m, K, U, R, ks, la, li, sd⟩ := e
  simp only at h0 h1 ht hK hKs hmk
  obtain ⟨p, rfl⟩ : ∃ p : Nat, z = p := ⟨z.toNat, by omega⟩
  simp only [wkH, wkC, wkE, rplS, Int.toNat_natCast] at c1 ⊢
  refine Fn_of_aw (keep := [9, 3000, 4000]) Try.func28 rfl rfl (by simp [Try.ntmps28]) ?_
  simp only [num_cons, num_nil, Try.ntmps28, Try.results28]
  repeat' (first
 | ((with_reducible apply awO_ev); (· rfl); (· exact sv))
 | ((with_reducible apply aw_seq); intro _ _)
 | (with_reducible apply aw_region)
 | (with_reducible apply aw_block)
 | ((first | (with_reducible apply awO_nil) | (with_reducible apply aw_exit) | (with_reducible apply aw_skip) | (with_reducible apply aw_ret)); (try simp only [CT, ↓reduceIte, Nat.reduceEqDiff]))
 | ((with_reducible apply aw_cond_true); (· exact sv))
 | ((with_reducible apply aw_cond_false); (· exact sv))
 | (refine Kont.go ‹Kont _ _ _ _› _ ?_)
 | ((with_reducible apply awO_m); (· rfl); (· rfl); (· exact sv); (· (first | exact c1)); (· exact svq); (· exact svq); (· exact svq); (· exact svq); (· rfl); (· exact nd); (with_reducible apply awO_st); (· exact svs))
 | ((with_reducible apply aw_draw); (· decide +kernel); (simp only [List.size_toArray, List.length_cons, List.length_nil, Nat.reduceAdd]))
 | ((with_reducible apply awY_done); (· decide +kernel); (try simp only [CT, ↓reduceIte, Nat.reduceEqDiff]))
 | ((with_reducible apply awY_q); (· exact sQ); (· exact np); (· exact svg); (· rfl); (· exact sv)))
  all_goals (refine retQ_wE (by first | exact .inr rfl | exact .inl rfl) rfl rfl rfl sv rfl (roS _) rfl (roS _) rfl rfl ?_ rfl rfl; first | rfl | (simp only [List.append_nil, List.length_nil]; rfl))
theorem act11_fn (e : Er) (h : okEr e) (L : List (List UInt8)) (x : List UInt8) (hx : x.length ≤ 100000) : Fn Try.prog 28 [.pt 9 0, az x] (wkH e L 11) (.tp []) (wkE (kilE e e.now.p.toNat e.now.t.length 11) L 11) [9] := by
  have h0 := h.now.2.1
  have h1 := h.now.2.2
  have ht := h.now.1
  have hK := h.nk
  have hKs := h.kills
  have hmk := h.mark
  have c1 := kill_fn e L 11 e.now.p.toNat e.now.t.length (by omega) (by omega) ht hK hKs
  clear h
  obtain ⟨⟨t, z⟩, m, K, U, R, ks, la, li, sd⟩ := e
  simp only at h0 h1 ht hK hKs hmk
  obtain ⟨p, rfl⟩ : ∃ p : Nat, z = p := ⟨z.toNat, by omega⟩
  simp only [wkH, wkC, wkE, rplS, Int.toNat_natCast] at c1 ⊢
  refine Fn_of_aw (keep := [9, 3000, 4000]) Try.func28 rfl rfl (by simp [Try.ntmps28]) ?_
  simp only [num_cons, num_nil, Try.ntmps28, Try.results28]
  repeat' (first
 | ((with_reducible apply awO_ev); (· rfl); (· exact sv))
 | ((with_reducible apply aw_seq); intro _ _)
 | (with_reducible apply aw_region)
 | (with_reducible apply aw_block)
 | ((first | (with_reducible apply awO_nil) | (with_reducible apply aw_exit) | (with_reducible apply aw_skip) | (with_reducible apply aw_ret)); (try simp only [CT, ↓reduceIte, Nat.reduceEqDiff]))
 | ((with_reducible apply aw_cond_true); (· exact sv))
 | ((with_reducible apply aw_cond_false); (· exact sv))
 | (refine Kont.go ‹Kont _ _ _ _› _ ?_)
 | ((with_reducible apply awO_m); (· rfl); (· rfl); (· exact sv); (· (first | exact c1)); (· exact svq); (· exact svq); (· exact svq); (· exact svq); (· rfl); (· exact nd); (with_reducible apply awO_st); (· exact svs))
 | ((with_reducible apply aw_draw); (· decide +kernel); (simp only [List.size_toArray, List.length_cons, List.length_nil, Nat.reduceAdd]))
 | ((with_reducible apply awY_done); (· decide +kernel); (try simp only [CT, ↓reduceIte, Nat.reduceEqDiff]))
 | ((with_reducible apply awY_q); (· exact sQ); (· exact np); (· exact svg); (· rfl); (· exact sv)))
  all_goals (refine retQ_wE (by first | exact .inr rfl | exact .inl rfl) rfl rfl rfl sv rfl (roS _) rfl (roS _) rfl rfl ?_ rfl rfl; first | rfl | (simp only [List.append_nil, List.length_nil]; rfl))
theorem act12_fn (e : Er) (h : okEr e) (L : List (List UInt8)) (x : List UInt8) (hx : x.length ≤ 100000) : Fn Try.prog 28 [.pt 9 0, az x] (wkH e L 12) (.tp []) (wkE (kilE e 0 e.now.p.toNat 12) L 12) [9] := by
  have h0 := h.now.2.1
  have h1 := h.now.2.2
  have ht := h.now.1
  have hK := h.nk
  have hKs := h.kills
  have hmk := h.mark
  have c1 := kill_fn e L 12 0 e.now.p.toNat (by omega) (by omega) ht hK hKs
  clear h
  obtain ⟨⟨t, z⟩, m, K, U, R, ks, la, li, sd⟩ := e
  simp only at h0 h1 ht hK hKs hmk
  obtain ⟨p, rfl⟩ : ∃ p : Nat, z = p := ⟨z.toNat, by omega⟩
  simp only [wkH, wkC, wkE, rplS, Int.toNat_natCast] at c1 ⊢
  refine Fn_of_aw (keep := [9, 3000, 4000]) Try.func28 rfl rfl (by simp [Try.ntmps28]) ?_
  simp only [num_cons, num_nil, Try.ntmps28, Try.results28]
  repeat' (first
 | ((with_reducible apply awO_ev); (· rfl); (· exact sv))
 | ((with_reducible apply aw_seq); intro _ _)
 | (with_reducible apply aw_region)
 | (with_reducible apply aw_block)
 | ((first | (with_reducible apply awO_nil) | (with_reducible apply aw_exit) | (with_reducible apply aw_skip) | (with_reducible apply aw_ret)); (try simp only [CT, ↓reduceIte, Nat.reduceEqDiff]))
 | ((with_reducible apply aw_cond_true); (· exact sv))
 | ((with_reducible apply aw_cond_false); (· exact sv))
 | (refine Kont.go ‹Kont _ _ _ _› _ ?_)
 | ((with_reducible apply awO_m); (· rfl); (· rfl); (· exact sv); (· (first | exact c1)); (· exact svq); (· exact svq); (· exact svq); (· exact svq); (· rfl); (· exact nd); (with_reducible apply awO_st); (· exact svs))
 | ((with_reducible apply aw_draw); (· decide +kernel); (simp only [List.size_toArray, List.length_cons, List.length_nil, Nat.reduceAdd]))
 | ((with_reducible apply awY_done); (· decide +kernel); (try simp only [CT, ↓reduceIte, Nat.reduceEqDiff]))
 | ((with_reducible apply awY_q); (· exact sQ); (· exact np); (· exact svg); (· rfl); (· exact sv)))
  all_goals (refine retQ_wE (by first | exact .inr rfl | exact .inl rfl) rfl rfl rfl sv rfl (roS _) rfl (roS _) rfl rfl ?_ rfl rfl; first | rfl | (simp only [List.append_nil, List.length_nil]; rfl))
theorem act13_fn (e : Er) (h : okEr e) (L : List (List UInt8)) (x : List UInt8) (hx : x.length ≤ 100000) : Fn Try.prog 28 [.pt 9 0, az x] (wkH e L 13) (.tp []) (wkE (kilE e e.now.p.toNat (nxW e.now.t e.now.p.toNat) 13) L 13) [9] := by
  have h0 := h.now.2.1
  have h1 := h.now.2.2
  have ht := h.now.1
  have hK := h.nk
  have hKs := h.kills
  have hmk := h.mark
  have hq := nxW_le e.now.t e.now.p.toNat (by omega)
  have c1 := after_fn e L 13 h0 h1 (by omega)
  have c2 := kill_fn e L 13 e.now.p.toNat (nxW e.now.t e.now.p.toNat) hq.1 hq.2 ht hK hKs
  clear h
  obtain ⟨⟨t, z⟩, m, K, U, R, ks, la, li, sd⟩ := e
  simp only at h0 h1 ht hK hKs hmk hq
  obtain ⟨p, rfl⟩ : ∃ p : Nat, z = p := ⟨z.toNat, by omega⟩
  simp only [wkH, wkC, wkE, rplS, Int.toNat_natCast] at c1 c2 ⊢
  refine Fn_of_aw (keep := [9, 3000, 4000]) Try.func28 rfl rfl (by simp [Try.ntmps28]) ?_
  simp only [num_cons, num_nil, Try.ntmps28, Try.results28]
  repeat' (first
 | ((with_reducible apply awY_p); (· exact sH); (with_reducible apply awP_1); (· decide +kernel))
 | ((with_reducible apply awO_ev); (· rfl); (· exact sv))
 | ((with_reducible apply aw_seq); intro _ _)
 | (with_reducible apply aw_region)
 | (with_reducible apply aw_block)
 | ((first | (with_reducible apply awO_nil) | (with_reducible apply aw_exit) | (with_reducible apply aw_skip) | (with_reducible apply aw_ret)); (try simp only [CT, ↓reduceIte, Nat.reduceEqDiff]))
 | ((with_reducible apply aw_cond_true); (· exact sv))
 | ((with_reducible apply aw_cond_false); (· exact sv))
 | (refine Kont.go ‹Kont _ _ _ _› _ ?_)
 | ((with_reducible apply awO_m); (· rfl); (· rfl); (· exact sv); (· (first | exact c1 | exact c2)); (· exact svq); (· exact svq); (· exact svq); (· exact svq); (· rfl); (· exact nd); (with_reducible apply awO_st); (· exact svs))
 | ((with_reducible apply aw_draw); (· decide +kernel); (simp only [List.size_toArray, List.length_cons, List.length_nil, Nat.reduceAdd]))
 | ((with_reducible apply awY_done); (· decide +kernel); (try simp only [CT, ↓reduceIte, Nat.reduceEqDiff]))
 | ((with_reducible apply awY_q); (· exact sQ); (· exact np); (· exact svg); (· rfl); (· exact sv))
 | ((with_reducible apply awI_ev); (· exact svg); (· rfl); (· exact sv)))
  all_goals (refine retQ_wE (by first | exact .inr rfl | exact .inl rfl) rfl rfl rfl sv rfl (roS _) rfl (roS _) rfl rfl ?_ rfl rfl; first | rfl | (simp only [List.append_nil, List.length_nil]; rfl))
theorem act14_fn (e : Er) (h : okEr e) (L : List (List UInt8)) (x : List UInt8) (hx : x.length ≤ 100000) : Fn Try.prog 28 [.pt 9 0, az x] (wkH e L 14) (.tp []) (wkE (kilE e (lsW e.now.t e.now.p.toNat) e.now.p.toNat 14) L 14) [9] := by
  have h0 := h.now.2.1
  have h1 := h.now.2.2
  have ht := h.now.1
  have hK := h.nk
  have hKs := h.kills
  have hmk := h.mark
  have hq := lsW_le e.now.t e.now.p.toNat
  have c1 := before_fn e L 14 h0 h1 (by omega)
  have c2 := kill_fn e L 14 (lsW e.now.t e.now.p.toNat) e.now.p.toNat hq (by omega) ht hK hKs
  clear h
  obtain ⟨⟨t, z⟩, m, K, U, R, ks, la, li, sd⟩ := e
  simp only at h0 h1 ht hK hKs hmk hq
  obtain ⟨p, rfl⟩ : ∃ p : Nat, z = p := ⟨z.toNat, by omega⟩
  simp only [wkH, wkC, wkE, rplS, Int.toNat_natCast] at c1 c2 ⊢
  refine Fn_of_aw (keep := [9, 3000, 4000]) Try.func28 rfl rfl (by simp [Try.ntmps28]) ?_
  simp only [num_cons, num_nil, Try.ntmps28, Try.results28]
  repeat' (first
 | ((with_reducible apply awY_p); (· exact sH); (with_reducible apply awP_1); (· decide +kernel))
 | ((with_reducible apply awO_ev); (· rfl); (· exact sv))
 | ((with_reducible apply aw_seq); intro _ _)
 | (with_reducible apply aw_region)
 | (with_reducible apply aw_block)
 | ((first | (with_reducible apply awO_nil) | (with_reducible apply aw_exit) | (with_reducible apply aw_skip) | (with_reducible apply aw_ret)); (try simp only [CT, ↓reduceIte, Nat.reduceEqDiff]))
 | ((with_reducible apply aw_cond_true); (· exact sv))
 | ((with_reducible apply aw_cond_false); (· exact sv))
 | (refine Kont.go ‹Kont _ _ _ _› _ ?_)
 | ((with_reducible apply awO_m); (· rfl); (· rfl); (· exact sv); (· (first | exact c1 | exact c2)); (· exact svq); (· exact svq); (· exact svq); (· exact svq); (· rfl); (· exact nd); (with_reducible apply awO_st); (· exact svs))
 | ((with_reducible apply aw_draw); (· decide +kernel); (simp only [List.size_toArray, List.length_cons, List.length_nil, Nat.reduceAdd]))
 | ((with_reducible apply awY_done); (· decide +kernel); (try simp only [CT, ↓reduceIte, Nat.reduceEqDiff]))
 | ((with_reducible apply awY_q); (· exact sQ); (· exact np); (· exact svg); (· rfl); (· exact sv))
 | ((with_reducible apply awI_ev); (· exact svg); (· rfl); (· exact sv)))
  all_goals (refine retQ_wE (by first | exact .inr rfl | exact .inl rfl) rfl rfl rfl sv rfl (roS _) rfl (roS _) rfl rfl ?_ rfl rfl; first | rfl | (simp only [List.append_nil, List.length_nil]; rfl))
end Go.Proofs.Ytapmolfpkhfpgaa
