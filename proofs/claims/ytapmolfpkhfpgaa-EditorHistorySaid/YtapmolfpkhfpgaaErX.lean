/- The editor: act of the program, on the abstract machine. -/
import Derived.Test.YtapmolfpkhfpgaaErT
import Derived.Test.YtapmolfpkhfpgaaErH
import Derived.Test.YtapmolfpkhfpgaaErL
import Derived.Test.YtapmolfpkhfpgaaErW
namespace Go.Proofs.Ytapmolfpkhfpgaa
open Go.RowKit
set_option linter.unusedVariables false
set_option linter.unusedSimpArgs false
set_option maxRecDepth 100000
set_option maxHeartbeats 8000000
theorem act1_fn (e : Er) (h : okEr e) (L : List (List UInt8)) (x : List UInt8) (hx : x.length ≤ 100000) : Fn Try.prog 28 [.pt 9 0, az x] (wkH e L 1) (.tp []) (wkE ({ e with now := rplS e.now e.now.p.toNat e.now.p.toNat x }) L 1) [9] := by
  have h0 := h.now.2.1
  have h1 := h.now.2.2
  have ht := h.now.1
  have hK := h.nk
  have hKs := h.kills
  have hmk := h.mark
  have c1 := replace_fn e L 1 e.now.p.toNat e.now.p.toNat x (by omega) (by omega) (by omega) hx
  clear h
  obtain ⟨⟨t, z⟩, m, K, U, R, ks, la, li, sd⟩ := e
  simp only at h0 h1 ht hK hKs hmk
  obtain ⟨p, rfl⟩ : ∃ p : Nat, z = p := ⟨z.toNat, by omega⟩
  simp only [wkH, wkC, wkE, rplS, Int.toNat_natCast] at c1 ⊢
  refine Fn_of_aw (keep := [9, 3000, 4000]) Try.func28 rfl rfl (by simp [Try.ntmps28]) ?_
  simp only [num_cons, num_nil, Try.ntmps28, Try.results28]
  repeat' (first
 | ((with_reducible apply awO_ev); (· rfl); (· exact sv))
 | ((with_reducible apply aw_seq); intro _ _)
 | (with_reducible apply aw_region)
 | (with_reducible apply aw_block)
 | ((first | (with_reducible apply awO_nil) | (with_reducible apply aw_exit) | (with_reducible apply aw_skip) | (with_reducible apply aw_ret)); (try simp only [CT, ↓reduceIte, Nat.reduceEqDiff]))
 | ((with_reducible apply aw_cond_true); (· exact sv))
 | (refine Kont.go ‹Kont _ _ _ _› _ ?_)
 | ((with_reducible apply awO_m); (· rfl); (· rfl); (· exact sv); (· (first | exact c1)); (· exact svq); (· exact svq); (· exact svq); (· exact svq); (· rfl); (· exact nd); (with_reducible apply awO_st); (· exact svs))
 | ((with_reducible apply aw_draw); (· decide +kernel); (simp only [List.size_toArray, List.length_cons, List.length_nil, Nat.reduceAdd]))
 | ((with_reducible apply awY_done); (· decide +kernel); (try simp only [CT, ↓reduceIte, Nat.reduceEqDiff]))
 | ((with_reducible apply awY_q); (· exact sQ); (· exact np); (· exact svg); (· rfl); (· exact sv)))
  all_goals (refine retQ_wE (by first | exact .inr rfl | exact .inl rfl) rfl rfl rfl sv rfl (roS _) rfl (roS _) rfl rfl ?_ rfl rfl; first | rfl | (simp only [List.append_nil, List.length_nil]; rfl))
theorem act5_fn (e : Er) (h : okEr e) (L : List (List UInt8)) (x : List UInt8) (hx : x.length ≤ 100000) : Fn Try.prog 28 [.pt 9 0, az x] (wkH e L 5) (.tp []) (wkE ({ e with now := ⟨e.now.t, 0⟩ }) L 5) [9] := by
  have h0 := h.now.2.1
  have h1 := h.now.2.2
  have ht := h.now.1
  have hK := h.nk
  have hKs := h.kills
  have hmk := h.mark
  clear h
  obtain ⟨⟨t, z⟩, m, K, U, R, ks, la, li, sd⟩ := e
  simp only at h0 h1 ht hK hKs hmk
  obtain ⟨p, rfl⟩ : ∃ p : Nat, z = p := ⟨z.toNat, by omega⟩
  simp only [wkH, wkC, wkE, rplS, Int.toNat_natCast]
  refine Fn_of_aw (keep := [9, 3000, 4000]) Try.func28 rfl rfl (by simp [Try.ntmps28]) ?_
  simp only [num_cons, num_nil, Try.ntmps28, Try.results28]
  repeat' (first
 | ((with_reducible apply awO_ev); (· rfl); (· exact sv))
 | ((with_reducible apply aw_seq); intro _ _)
 | (with_reducible apply aw_region)
 | (with_reducible apply aw_block)
 | ((first | (with_reducible apply awO_nil) | (with_reducible apply aw_exit) | (with_reducible apply aw_skip) | (with_reducible apply aw_ret)); (try simp only [CT, ↓reduceIte, Nat.reduceEqDiff]))
 | ((with_reducible apply aw_cond_true); (· exact sv))
 | ((with_reducible apply aw_cond_false); (· exact sv))
 | (refine Kont.go ‹Kont _ _ _ _› _ ?_)
 | ((with_reducible apply aw_draw); (· decide +kernel); (simp only [List.size_toArray, List.length_cons, List.length_nil, Nat.reduceAdd]))
 | ((with_reducible apply awY_done); (· decide +kernel); (try simp only [CT, ↓reduceIte, Nat.reduceEqDiff]))
 | ((with_reducible apply awY_q); (· exact sQ); (· exact np); (· exact svg); (· rfl); (· exact sv)))
  all_goals (refine retQ_wE (by first | exact .inr rfl | exact .inl rfl) rfl rfl rfl sv rfl (roS _) rfl (roS _) rfl rfl ?_ rfl rfl; first | rfl | (simp only [List.append_nil, List.length_nil]; rfl))
theorem act6_fn (e : Er) (h : okEr e) (L : List (List UInt8)) (x : List UInt8) (hx : x.length ≤ 100000) : Fn Try.prog 28 [.pt 9 0, az x] (wkH e L 6) (.tp []) (wkE ({ e with now := ⟨e.now.t, e.now.t.length⟩ }) L 6) [9] := by
  have h0 := h.now.2.1
  have h1 := h.now.2.2
  have ht := h.now.1
  have hK := h.nk
  have hKs := h.kills
  have hmk := h.mark
  clear h
  obtain ⟨⟨t, z⟩, m, K, U, R, ks, la, li, sd⟩ := e
  simp only at h0 h1 ht hK hKs hmk
  obtain ⟨p, rfl⟩ : ∃ p : Nat, z = p := ⟨z.toNat, by omega⟩
  simp only [wkH, wkC, wkE, rplS, Int.toNat_natCast]
  refine Fn_of_aw (keep := [9, 3000, 4000]) Try.func28 rfl rfl (by simp [Try.ntmps28]) ?_
  simp only [num_cons, num_nil, Try.ntmps28, Try.results28]
  repeat' (first
 | ((with_reducible apply awO_ev); (· rfl); (· exact sv))
 | ((with_reducible apply aw_seq); intro _ _)
 | (with_reducible apply aw_region)
 | (with_reducible apply aw_block)
 | ((first | (with_reducible apply awO_nil) | (with_reducible apply aw_exit) | (with_reducible apply aw_skip) | (with_reducible apply aw_ret)); (try simp only [CT, ↓reduceIte, Nat.reduceEqDiff]))
 | ((with_reducible apply aw_cond_true); (· exact sv))
 | ((with_reducible apply aw_cond_false); (· exact sv))
 | (refine Kont.go ‹Kont _ _ _ _› _ ?_)
 | ((with_reducible apply aw_draw); (· decide +kernel); (simp only [List.size_toArray, List.length_cons, List.length_nil, Nat.reduceAdd]))
 | ((with_reducible apply awY_done); (· decide +kernel); (try simp only [CT, ↓reduceIte, Nat.reduceEqDiff]))
 | ((with_reducible apply awY_q); (· exact sQ); (· exact np); (· exact svg); (· rfl); (· exact sv)))
  all_goals (refine retQ_wE (by first | exact .inr rfl | exact .inl rfl) rfl rfl rfl sv rfl (roS _) rfl (roS _) rfl rfl ?_ rfl rfl; first | rfl | (simp only [List.append_nil, List.length_nil]; rfl))
theorem act7_fn (e : Er) (h : okEr e) (L : List (List UInt8)) (x : List UInt8) (hx : x.length ≤ 100000) : Fn Try.prog 28 [.pt 9 0, az x] (wkH e L 7) (.tp []) (wkE ({ e with now := ⟨e.now.t, lsW e.now.t e.now.p.toNat⟩ }) L 7) [9] := by
  have h0 := h.now.2.1
  have h1 := h.now.2.2
  have ht := h.now.1
  have hK := h.nk
  have hKs := h.kills
  have hmk := h.mark
  have c1 := before_fn e L 7 h0 h1 (by omega)
  clear h
  obtain ⟨⟨t, z⟩, m, K, U, R, ks, la, li, sd⟩ := e
  simp only at h0 h1 ht hK hKs hmk
  obtain ⟨p, rfl⟩ : ∃ p : Nat, z = p := ⟨z.toNat, by omega⟩
  simp only [wkH, wkC, wkE, rplS, Int.toNat_natCast] at c1 ⊢
  refine Fn_of_aw (keep := [9, 3000, 4000]) Try.func28 rfl rfl (by simp [Try.ntmps28]) ?_
  simp only [num_cons, num_nil, Try.ntmps28, Try.results28]
  repeat' (first
 | ((with_reducible apply awO_ev); (· rfl); (· exact sv))
 | ((with_reducible apply aw_seq); intro _ _)
 | (with_reducible apply aw_region)
 | (with_reducible apply aw_block)
 | ((first | (with_reducible apply awO_nil) | (with_reducible apply aw_exit) | (with_reducible apply aw_skip) | (with_reducible apply aw_ret)); (try simp only [CT, ↓reduceIte, Nat.reduceEqDiff]))
 | ((with_reducible apply aw_cond_true); (· exact sv))
 | ((with_reducible apply aw_cond_false); (· exact sv))
 | (refine Kont.go ‹Kont _ _ _ _› _ ?_)
 | ((with_reducible apply awO_m); (· rfl); (· rfl); (· exact sv); (· (first | exact c1)); (· exact svq); (· exact svq); (· exact svq); (· exact svq); (· rfl); (· exact nd); (with_reducible apply awO_st); (· exact svs))
 | ((with_reducible apply aw_draw); (· decide +kernel); (simp only [List.size_toArray, List.length_cons, List.length_nil, Nat.reduceAdd]))
 | ((with_reducible apply awY_done); (· decide +kernel); (try simp only [CT, ↓reduceIte, Nat.reduceEqDiff]))
 | ((with_reducible apply awY_q); (· exact sQ); (· exact np); (· exact svg); (· rfl); (· exact sv)))
  all_goals (refine retQ_wE (by first | exact .inr rfl | exact .inl rfl) rfl rfl rfl sv rfl (roS _) rfl (roS _) rfl rfl ?_ rfl rfl; first | rfl | (simp only [List.append_nil, List.length_nil]; rfl))
theorem act8_fn (e : Er) (h : okEr e) (L : List (List UInt8)) (x : List UInt8) (hx : x.length ≤ 100000) : Fn Try.prog 28 [.pt 9 0, az x] (wkH e L 8) (.tp []) (wkE ({ e with now := ⟨e.now.t, nxW e.now.t e.now.p.toNat⟩ }) L 8) [9] := by
  have h0 := h.now.2.1
  have h1 := h.now.2.2
  have ht := h.now.1
  have hK := h.nk
  have hKs := h.kills
  have hmk := h.mark
  have c1 := after_fn e L 8 h0 h1 (by omega)
  clear h
  obtain ⟨⟨t, z⟩, m, K, U, R, ks, la, li, sd⟩ := e
  simp only at h0 h1 ht hK hKs hmk
  obtain ⟨p, rfl⟩ : ∃ p : Nat, z = p := ⟨z.toNat, by omega⟩
  simp only [wkH, wkC, wkE, rplS, Int.toNat_natCast] at c1 ⊢
  refine Fn_of_aw (keep := [9, 3000, 4000]) Try.func28 rfl rfl (by simp [Try.ntmps28]) ?_
  simp only [num_cons, num_nil, Try.ntmps28, Try.results28]
  repeat' (first
 | ((with_reducible apply awO_ev); (· rfl); (· exact sv))
 | ((with_reducible apply aw_seq); intro _ _)
 | (with_reducible apply aw_region)
 | (with_reducible apply aw_block)
 | ((first | (with_reducible apply awO_nil) | (with_reducible apply aw_exit) | (with_reducible apply aw_skip) | (with_reducible apply aw_ret)); (try simp only [CT, ↓reduceIte, Nat.reduceEqDiff]))
 | ((with_reducible apply aw_cond_true); (· exact sv))
 | ((with_reducible apply aw_cond_false); (· exact sv))
 | (refine Kont.go ‹Kont _ _ _ _› _ ?_)
 | ((with_reducible apply awO_m); (· rfl); (· rfl); (· exact sv); (· (first | exact c1)); (· exact svq); (· exact svq); (· exact svq); (· exact svq); (· rfl); (· exact nd); (with_reducible apply awO_st); (· exact svs))
 | ((with_reducible apply aw_draw); (· decide +kernel); (simp only [List.size_toArray, List.length_cons, List.length_nil, Nat.reduceAdd]))
 | ((with_reducible apply awY_done); (· decide +kernel); (try simp only [CT, ↓reduceIte, Nat.reduceEqDiff]))
 | ((with_reducible apply awY_q); (· exact sQ); (· exact np); (· exact svg); (· rfl); (· exact sv)))
  all_goals (refine retQ_wE (by first | exact .inr rfl | exact .inl rfl) rfl rfl rfl sv rfl (roS _) rfl (roS _) rfl rfl ?_ rfl rfl; first | rfl | (simp only [List.append_nil, List.length_nil]; rfl))
theorem act16_fn (e : Er) (h : okEr e) (L : List (List UInt8)) (x : List UInt8) (hx : x.length ≤ 100000) : Fn Try.prog 28 [.pt 9 0, az x] (wkH e L 16) (.tp []) (wkE (rotE e) L 16) [9] := by
  have h0 := h.now.2.1
  have h1 := h.now.2.2
  have ht := h.now.1
  have hK := h.nk
  have hKs := h.kills
  have hmk := h.mark
  have c1 := rotate_fn e L 16 h0 h1 ht hK hKs
  clear h
  obtain ⟨⟨t, z⟩, m, K, U, R, ks, la, li, sd⟩ := e
  simp only at h0 h1 ht hK hKs hmk
  obtain ⟨p, rfl⟩ : ∃ p : Nat, z = p := ⟨z.toNat, by omega⟩
  simp only [wkH, wkC, wkE, rplS, Int.toNat_natCast] at c1 ⊢
  refine Fn_of_aw (keep := [9, 3000, 4000]) Try.func28 rfl rfl (by simp [Try.ntmps28]) ?_
  simp only [num_cons, num_nil, Try.ntmps28, Try.results28]
  repeat' (first
 | ((with_reducible apply awO_ev); (· rfl); (· exact sv))
 | ((with_reducible apply aw_seq); intro _ _)
 | (with_reducible apply aw_region)
 | (with_reducible apply aw_block)
 | ((first | (with_reducible apply awO_nil) | (with_reducible apply aw_exit) | (with_reducible apply aw_skip) | (with_reducible apply aw_ret)); (try simp only [CT, ↓reduceIte, Nat.reduceEqDiff]))
 | ((with_reducible apply aw_cond_true); (· exact sv))
 | ((with_reducible apply aw_cond_false); (· exact sv))
 | (refine Kont.go ‹Kont _ _ _ _› _ ?_)
 | ((with_reducible apply awO_m); (· rfl); (· rfl); (· exact sv); (· (first | exact c1)); (· exact svq); (· exact svq); (· exact svq); (· exact svq); (· rfl); (· exact nd); (with_reducible apply awO_st); (· exact svs))
 | ((with_reducible apply aw_draw); (· decide +kernel); (simp only [List.size_toArray, List.length_cons, List.length_nil, Nat.reduceAdd]))
 | ((with_reducible apply awY_done); (· decide +kernel); (try simp only [CT, ↓reduceIte, Nat.reduceEqDiff]))
 | ((with_reducible apply awY_q); (· exact sQ); (· exact np); (· exact svg); (· rfl); (· exact sv)))
  all_goals (refine retQ_wE (by first | exact .inr rfl | exact .inl rfl) rfl rfl rfl sv rfl (roS _) rfl (roS _) rfl rfl ?_ rfl rfl; first | rfl | (simp only [List.append_nil, List.length_nil]; rfl))
theorem act25_fn (e : Er) (h : okEr e) (L : List (List UInt8)) (x : List UInt8) (hx : x.length ≤ 100000) : Fn Try.prog 28 [.pt 9 0, az x] (wkH e L 25) (.tp []) (wkE ({ e with mark := e.now.p }) L 25) [9] := by
  have h0 := h.now.2.1
  have h1 := h.now.2.2
  have ht := h.now.1
  have hK := h.nk
  have hKs := h.kills
  have hmk := h.mark
  clear h
  obtain ⟨⟨t, z⟩, m, K, U, R, ks, la, li, sd⟩ := e
  simp only at h0 h1 ht hK hKs hmk
  obtain ⟨p, rfl⟩ : ∃ p : Nat, z = p := ⟨z.toNat, by omega⟩
  simp only [wkH, wkC, wkE, rplS, Int.toNat_natCast]
  refine Fn_of_aw (keep := [9, 3000, 4000]) Try.func28 rfl rfl (by simp [Try.ntmps28]) ?_
  simp only [num_cons, num_nil, Try.ntmps28, Try.results28]
  repeat' (first
 | ((with_reducible apply awO_ev); (· rfl); (· exact sv))
 | ((with_reducible apply aw_seq); intro _ _)
 | (with_reducible apply aw_region)
 | (with_reducible apply aw_block)
 | ((first | (with_reducible apply awO_nil) | (with_reducible apply aw_exit) | (with_reducible apply aw_skip) | (with_reducible apply aw_ret)); (try simp only [CT, ↓reduceIte, Nat.reduceEqDiff]))
 | ((with_reducible apply aw_cond_true); (· exact sv))
 | ((with_reducible apply aw_cond_false); (· exact sv))
 | (refine Kont.go ‹Kont _ _ _ _› _ ?_)
 | ((with_reducible apply aw_draw); (· decide +kernel); (simp only [List.size_toArray, List.length_cons, List.length_nil, Nat.reduceAdd]))
 | ((with_reducible apply awY_done); (· decide +kernel); (try simp only [CT, ↓reduceIte, Nat.reduceEqDiff]))
 | ((with_reducible apply awY_q); (· exact sQ); (· exact np); (· exact svg); (· rfl); (· exact sv)))
  all_goals (refine retQ_wE (by first | exact .inr rfl | exact .inl rfl) rfl rfl rfl sv rfl (roS _) rfl (roS _) rfl rfl ?_ rfl rfl; first | rfl | (simp only [List.append_nil, List.length_nil]; rfl))
theorem act26_fn (e : Er) (h : okEr e) (L : List (List UInt8)) (x : List UInt8) (hx : x.length ≤ 100000) : Fn Try.prog 28 [.pt 9 0, az x] (wkH e L 26) (.tp []) (wkE ({ e with now := ⟨e.now.t, e.mark⟩, mark := e.now.p }) L 26) [9] := by
  have h0 := h.now.2.1
  have h1 := h.now.2.2
  have ht := h.now.1
  have hK := h.nk
  have hKs := h.kills
  have hmk := h.mark
  clear h
  obtain ⟨⟨t, z⟩, m, K, U, R, ks, la, li, sd⟩ := e
  simp only at h0 h1 ht hK hKs hmk
  obtain ⟨p, rfl⟩ : ∃ p : Nat, z = p := ⟨z.toNat, by omega⟩
  simp only [wkH, wkC, wkE, rplS, Int.toNat_natCast]
  refine Fn_of_aw (keep := [9, 3000, 4000]) Try.func28 rfl rfl (by simp [Try.ntmps28]) ?_
  simp only [num_cons, num_nil, Try.ntmps28, Try.results28]
  repeat' (first
 | ((with_reducible apply awO_ev); (· rfl); (· exact sv))
 | ((with_reducible apply aw_seq); intro _ _)
 | (with_reducible apply aw_region)
 | (with_reducible apply aw_block)
 | ((first | (with_reducible apply awO_nil) | (with_reducible apply aw_exit) | (with_reducible apply aw_skip) | (with_reducible apply aw_ret)); (try simp only [CT, ↓reduceIte, Nat.reduceEqDiff]))
 | ((with_reducible apply aw_cond_true); (· exact sv))
 | ((with_reducible apply aw_cond_false); (· exact sv))
 | (refine Kont.go ‹Kont _ _ _ _› _ ?_)
 | ((with_reducible apply aw_draw); (· decide +kernel); (simp only [List.size_toArray, List.length_cons, List.length_nil, Nat.reduceAdd]))
 | ((with_reducible apply awY_done); (· decide +kernel); (try simp only [CT, ↓reduceIte, Nat.reduceEqDiff]))
 | ((with_reducible apply awY_q); (· exact sQ); (· exact np); (· exact svg); (· rfl); (· exact sv)))
  all_goals (refine retQ_wE (by first | exact .inr rfl | exact .inl rfl) rfl rfl rfl sv rfl (roS _) rfl (roS _) rfl rfl ?_ rfl rfl; first | rfl | (simp only [List.append_nil, List.length_nil]; rfl))
theorem act19_fn (e : Er) (h : okEr e) (L : List (List UInt8)) (x : List UInt8) (hx : x.length ≤ 100000) : Fn Try.prog 28 [.pt 9 0, az x] (wkH e L 19) (.tp []) (wkE (trnE e) L 19) [9] := by
  have h0 := h.now.2.1
  have h1 := h.now.2.2
  have ht := h.now.1
  have hK := h.nk
  have hKs := h.kills
  have hmk := h.mark
  have c1 := more19_fn e L h0 h1 ht
  clear h
  obtain ⟨⟨t, z⟩, m, K, U, R, ks, la, li, sd⟩ := e
  simp only at h0 h1 ht hK hKs hmk
  obtain ⟨p, rfl⟩ : ∃ p : Nat, z = p := ⟨z.toNat, by omega⟩
  simp only [wkH, wkC, wkE, rplS, Int.toNat_natCast] at c1 ⊢
  refine Fn_of_aw (keep := [9, 3000, 4000]) Try.func28 rfl rfl (by simp [Try.ntmps28]) ?_
  simp only [num_cons, num_nil, Try.ntmps28, Try.results28]
  repeat' (first
 | ((with_reducible apply awO_ev); (· rfl); (· exact sv))
 | ((with_reducible apply aw_seq); intro _ _)
 | (with_reducible apply aw_region)
 | (with_reducible apply aw_block)
 | ((first | (with_reducible apply awO_nil) | (with_reducible apply aw_exit) | (with_reducible apply aw_skip) | (with_reducible apply aw_ret)); (try simp only [CT, ↓reduceIte, Nat.reduceEqDiff]))
 | ((with_reducible apply aw_cond_false); (· exact sv))
 | (refine Kont.go ‹Kont _ _ _ _› _ ?_)
 | ((with_reducible apply awO_m); (· rfl); (· rfl); (· exact sv); (· (first | exact c1)); (· exact svq); (· exact svq); (· exact svq); (· exact svq); (· rfl); (· exact nd); (with_reducible apply awO_st); (· exact svs))
 | ((with_reducible apply aw_draw); (· decide +kernel); (simp only [List.size_toArray, List.length_cons, List.length_nil, Nat.reduceAdd]))
 | ((with_reducible apply awY_done); (· decide +kernel); (try simp only [CT, ↓reduceIte, Nat.reduceEqDiff]))
 | ((with_reducible apply awY_q); (· exact sQ); (· exact np); (· exact svg); (· rfl); (· exact sv)))
  all_goals (refine retQ_wE (by first | exact .inr rfl | exact .inl rfl) rfl rfl rfl sv rfl (roS _) rfl (roS _) rfl rfl ?_ rfl rfl; first | rfl | (simp only [List.append_nil, List.length_nil]; rfl))
theorem act27_fn (e : Er) (h : okEr e) (L : List (List UInt8)) (x : List UInt8) (hx : x.length ≤ 100000) : Fn Try.prog 28 [.pt 9 0, az x] (wkH e L 27) (.tp []) (wkE (ltrE e upC) L 27) [9] := by
  have h0 := h.now.2.1
  have h1 := h.now.2.2
  have ht := h.now.1
  have hK := h.nk
  have hKs := h.kills
  have hmk := h.mark
  have c1 := more27_fn e L h0 h1 ht
  clear h
  obtain ⟨⟨t, z⟩, m, K, U, R, ks, la, li, sd⟩ := e
  simp only at h0 h1 ht hK hKs hmk
  obtain ⟨p, rfl⟩ : ∃ p : Nat, z = p := ⟨z.toNat, by omega⟩
  simp only [wkH, wkC, wkE, rplS, Int.toNat_natCast] at c1 ⊢
  refine Fn_of_aw (keep := [9, 3000, 4000]) Try.func28 rfl rfl (by simp [Try.ntmps28]) ?_
  simp only [num_cons, num_nil, Try.ntmps28, Try.results28]
  repeat' (first
 | ((with_reducible apply awO_ev); (· rfl); (· exact sv))
 | ((with_reducible apply aw_seq); intro _ _)
 | (with_reducible apply aw_region)
 | (with_reducible apply aw_block)
 | ((first | (with_reducible apply awO_nil) | (with_reducible apply aw_exit) | (with_reducible apply aw_skip) | (with_reducible apply aw_ret)); (try simp only [CT, ↓reduceIte, Nat.reduceEqDiff]))
 | ((with_reducible apply aw_cond_false); (· exact sv))
 | (refine Kont.go ‹Kont _ _ _ _› _ ?_)
 | ((with_reducible apply awO_m); (· rfl); (· rfl); (· exact sv); (· (first | exact c1)); (· exact svq); (· exact svq); (· exact svq); (· exact svq); (· rfl); (· exact nd); (with_reducible apply awO_st); (· exact svs))
 | ((with_reducible apply aw_draw); (· decide +kernel); (simp only [List.size_toArray, List.length_cons, List.length_nil, Nat.reduceAdd]))
 | ((with_reducible apply awY_done); (· decide +kernel); (try simp only [CT, ↓reduceIte, Nat.reduceEqDiff]))
 | ((with_reducible apply awY_q); (· exact sQ); (· exact np); (· exact svg); (· rfl); (· exact sv)))
  all_goals (refine retQ_wE (by first | exact .inr rfl | exact .inl rfl) rfl rfl rfl sv rfl (roS _) rfl (roS _) rfl rfl ?_ rfl rfl; first | rfl | (simp only [List.append_nil, List.length_nil]; rfl))
theorem act28_fn (e : Er) (h : okEr e) (L : List (List UInt8)) (x : List UInt8) (hx : x.length ≤ 100000) : Fn Try.prog 28 [.pt 9 0, az x] (wkH e L 28) (.tp []) (wkE (ltrE e loC) L 28) [9] := by
  have h0 := h.now.2.1
  have h1 := h.now.2.2
  have ht := h.now.1
  have hK := h.nk
  have hKs := h.kills
  have hmk := h.mark
  have c1 := more28_fn e L h0 h1 ht
  clear h
  obtain ⟨⟨t, z⟩, m, K, U, R, ks, la, li, sd⟩ := e
  simp only at h0 h1 ht hK hKs hmk
  obtain ⟨p, rfl⟩ : ∃ p : Nat, z = p := ⟨z.toNat, by omega⟩
  simp only [wkH, wkC, wkE, rplS, Int.toNat_natCast] at c1 ⊢
  refine Fn_of_aw (keep := [9, 3000, 4000]) Try.func28 rfl rfl (by simp [Try.ntmps28]) ?_
  simp only [num_cons, num_nil, Try.ntmps28, Try.results28]
  repeat' (first
 | ((with_reducible apply awO_ev); (· rfl); (· exact sv))
 | ((with_reducible apply aw_seq); intro _ _)
 | (with_reducible apply aw_region)
 | (with_reducible apply aw_block)
 | ((first | (with_reducible apply awO_nil) | (with_reducible apply aw_exit) | (with_reducible apply aw_skip) | (with_reducible apply aw_ret)); (try simp only [CT, ↓reduceIte, Nat.reduceEqDiff]))
 | ((with_reducible apply aw_cond_false); (· exact sv))
 | (refine Kont.go ‹Kont _ _ _ _› _ ?_)
 | ((with_reducible apply awO_m); (· rfl); (· rfl); (· exact sv); (· (first | exact c1)); (· exact svq); (· exact svq); (· exact svq); (· exact svq); (· rfl); (· exact nd); (with_reducible apply awO_st); (· exact svs))
 | ((with_reducible apply aw_draw); (· decide +kernel); (simp only [List.size_toArray, List.length_cons, List.length_nil, Nat.reduceAdd]))
 | ((with_reducible apply awY_done); (· decide +kernel); (try simp only [CT, ↓reduceIte, Nat.reduceEqDiff]))
 | ((with_reducible apply awY_q); (· exact sQ); (· exact np); (· exact svg); (· rfl); (· exact sv)))
  all_goals (refine retQ_wE (by first | exact .inr rfl | exact .inl rfl) rfl rfl rfl sv rfl (roS _) rfl (roS _) rfl rfl ?_ rfl rfl; first | rfl | (simp only [List.append_nil, List.length_nil]; rfl))
theorem act0_fn (e : Er) (h : okEr e) (L : List (List UInt8)) (x : List UInt8) (hx : x.length ≤ 100000) : Fn Try.prog 28 [.pt 9 0, az x] (wkH e L 0) (.tp []) (wkE (e) L 0) [9] := by
  have h0 := h.now.2.1
  have h1 := h.now.2.2
  have ht := h.now.1
  have hK := h.nk
  have hKs := h.kills
  have hmk := h.mark
  have c1 := more0_fn e L 0 (by omega)
  clear h
  obtain ⟨⟨t, z⟩, m, K, U, R, ks, la, li, sd⟩ := e
  simp only at h0 h1 ht hK hKs hmk
  obtain ⟨p, rfl⟩ : ∃ p : Nat, z = p := ⟨z.toNat, by omega⟩
  simp only [wkH, wkC, wkE, rplS, Int.toNat_natCast] at c1 ⊢
  refine Fn_of_aw (keep := [9, 3000, 4000]) Try.func28 rfl rfl (by simp [Try.ntmps28]) ?_
  simp only [num_cons, num_nil, Try.ntmps28, Try.results28]
  repeat' (first
 | ((with_reducible apply awO_ev); (· rfl); (· exact sv))
 | ((with_reducible apply aw_seq); intro _ _)
 | (with_reducible apply aw_region)
 | (with_reducible apply aw_block)
 | ((first | (with_reducible apply awO_nil) | (with_reducible apply aw_exit) | (with_reducible apply aw_skip) | (with_reducible apply aw_ret)); (try simp only [CT, ↓reduceIte, Nat.reduceEqDiff]))
 | ((with_reducible apply aw_cond_false); (· exact sv))
 | (refine Kont.go ‹Kont _ _ _ _› _ ?_)
 | ((with_reducible apply awO_m); (· rfl); (· rfl); (· exact sv); (· (first | exact c1)); (· exact svq); (· exact svq); (· exact svq); (· exact svq); (· rfl); (· exact nd); (with_reducible apply awO_st); (· exact svs))
 | ((with_reducible apply aw_draw); (· decide +kernel); (simp only [List.size_toArray, List.length_cons, List.length_nil, Nat.reduceAdd]))
 | ((with_reducible apply awY_done); (· decide +kernel); (try simp only [CT, ↓reduceIte, Nat.reduceEqDiff]))
 | ((with_reducible apply awY_q); (· exact sQ); (· exact np); (· exact svg); (· rfl); (· exact sv)))
  all_goals (refine retQ_wE (by first | exact .inr rfl | exact .inl rfl) rfl rfl rfl sv rfl (roS _) rfl (roS _) rfl rfl ?_ rfl rfl; first | rfl | (simp only [List.append_nil, List.length_nil]; rfl))
theorem act2_fn (e : Er) (h : okEr e) (L : List (List UInt8)) (x : List UInt8) (hx : x.length ≤ 100000) : Fn Try.prog 28 [.pt 9 0, az x] (wkH e L 2) (.tp []) (wkE (e) L 2) [9] := by
  have h0 := h.now.2.1
  have h1 := h.now.2.2
  have ht := h.now.1
  have hK := h.nk
  have hKs := h.kills
  have hmk := h.mark
  have c1 := more0_fn e L 2 (by omega)
  clear h
  obtain ⟨⟨t, z⟩, m, K, U, R, ks, la, li, sd⟩ := e
  simp only at h0 h1 ht hK hKs hmk
  obtain ⟨p, rfl⟩ : ∃ p : Nat, z = p := ⟨z.toNat, by omega⟩
  simp only [wkH, wkC, wkE, rplS, Int.toNat_natCast] at c1 ⊢
  refine Fn_of_aw (keep := [9, 3000, 4000]) Try.func28 rfl rfl (by simp [Try.ntmps28]) ?_
  simp only [num_cons, num_nil, Try.ntmps28, Try.results28]
  repeat' (first
 | ((with_reducible apply awO_ev); (· rfl); (· exact sv))
 | ((with_reducible apply aw_seq); intro _ _)
 | (with_reducible apply aw_region)
 | (with_reducible apply aw_block)
 | ((first | (with_reducible apply awO_nil) | (with_reducible apply aw_exit) | (with_reducible apply aw_skip) | (with_reducible apply aw_ret)); (try simp only [CT, ↓reduceIte, Nat.reduceEqDiff]))
 | ((with_reducible apply aw_cond_false); (· exact sv))
 | (refine Kont.go ‹Kont _ _ _ _› _ ?_)
 | ((with_reducible apply awO_m); (· rfl); (· rfl); (· exact sv); (· (first | exact c1)); (· exact svq); (· exact svq); (· exact svq); (· exact svq); (· rfl); (· exact nd); (with_reducible apply awO_st); (· exact svs))
 | ((with_reducible apply aw_draw); (· decide +kernel); (simp only [List.size_toArray, List.length_cons, List.length_nil, Nat.reduceAdd]))
 | ((with_reducible apply awY_done); (· decide +kernel); (try simp only [CT, ↓reduceIte, Nat.reduceEqDiff]))
 | ((with_reducible apply awY_q); (· exact sQ); (· exact np); (· exact svg); (· rfl); (· exact sv)))
  all_goals (refine retQ_wE (by first | exact .inr rfl | exact .inl rfl) rfl rfl rfl sv rfl (roS _) rfl (roS _) rfl rfl ?_ rfl rfl; first | rfl | (simp only [List.append_nil, List.length_nil]; rfl))
theorem act22_fn (e : Er) (h : okEr e) (L : List (List UInt8)) (x : List UInt8) (hx : x.length ≤ 100000) : Fn Try.prog 28 [.pt 9 0, az x] (wkH e L 22) (.tp []) (wkE (e) L 22) [9] := by
  have h0 := h.now.2.1
  have h1 := h.now.2.2
  have ht := h.now.1
  have hK := h.nk
  have hKs := h.kills
  have hmk := h.mark
  have c1 := more0_fn e L 22 (by omega)
  clear h
  obtain ⟨⟨t, z⟩, m, K, U, R, ks, la, li, sd⟩ := e
  simp only at h0 h1 ht hK hKs hmk
  obtain ⟨p, rfl⟩ : ∃ p : Nat, z = p := ⟨z.toNat, by omega⟩
  simp only [wkH, wkC, wkE, rplS, Int.toNat_natCast] at c1 ⊢
  refine Fn_of_aw (keep := [9, 3000, 4000]) Try.func28 rfl rfl (by simp [Try.ntmps28]) ?_
  simp only [num_cons, num_nil, Try.ntmps28, Try.results28]
  repeat' (first
 | ((with_reducible apply awO_ev); (· rfl); (· exact sv))
 | ((with_reducible apply aw_seq); intro _ _)
 | (with_reducible apply aw_region)
 | (with_reducible apply aw_block)
 | ((first | (with_reducible apply awO_nil) | (with_reducible apply aw_exit) | (with_reducible apply aw_skip) | (with_reducible apply aw_ret)); (try simp only [CT, ↓reduceIte, Nat.reduceEqDiff]))
 | ((with_reducible apply aw_cond_false); (· exact sv))
 | (refine Kont.go ‹Kont _ _ _ _› _ ?_)
 | ((with_reducible apply awO_m); (· rfl); (· rfl); (· exact sv); (· (first | exact c1)); (· exact svq); (· exact svq); (· exact svq); (· exact svq); (· rfl); (· exact nd); (with_reducible apply awO_st); (· exact svs))
 | ((with_reducible apply aw_draw); (· decide +kernel); (simp only [List.size_toArray, List.length_cons, List.length_nil, Nat.reduceAdd]))
 | ((with_reducible apply awY_done); (· decide +kernel); (try simp only [CT, ↓reduceIte, Nat.reduceEqDiff]))
 | ((with_reducible apply awY_q); (· exact sQ); (· exact np); (· exact svg); (· rfl); (· exact sv)))
  all_goals (refine retQ_wE (by first | exact .inr rfl | exact .inl rfl) rfl rfl rfl sv rfl (roS _) rfl (roS _) rfl rfl ?_ rfl rfl; first | rfl | (simp only [List.append_nil, List.length_nil]; rfl))
theorem act24_fn (e : Er) (h : okEr e) (L : List (List UInt8)) (x : List UInt8) (hx : x.length ≤ 100000) : Fn Try.prog 28 [.pt 9 0, az x] (wkH e L 24) (.tp []) (wkE (e) L 24) [9] := by
  have h0 := h.now.2.1
  have h1 := h.now.2.2
  have ht := h.now.1
  have hK := h.nk
  have hKs := h.kills
  have hmk := h.mark
  have c1 := more0_fn e L 24 (by omega)
  clear h
  obtain ⟨⟨t, z⟩, m, K, U, R, ks, la, li, sd⟩ := e
  simp only at h0 h1 ht hK hKs hmk
  obtain ⟨p, rfl⟩ : ∃ p : Nat, z = p := ⟨z.toNat, by omega⟩
  simp only [wkH, wkC, wkE, rplS, Int.toNat_natCast] at c1 ⊢
  refine Fn_of_aw (keep := [9, 3000, 4000]) Try.func28 rfl rfl (by simp [Try.ntmps28]) ?_
  simp only [num_cons, num_nil, Try.ntmps28, Try.results28]
  repeat' (first
 | ((with_reducible apply awO_ev); (· rfl); (· exact sv))
 | ((with_reducible apply aw_seq); intro _ _)
 | (with_reducible apply aw_region)
 | (with_reducible apply aw_block)
 | ((first | (with_reducible apply awO_nil) | (with_reducible apply aw_exit) | (with_reducible apply aw_skip) | (with_reducible apply aw_ret)); (try simp only [CT, ↓reduceIte, Nat.reduceEqDiff]))
 | ((with_reducible apply aw_cond_false); (· exact sv))
 | (refine Kont.go ‹Kont _ _ _ _› _ ?_)
 | ((with_reducible apply awO_m); (· rfl); (· rfl); (· exact sv); (· (first | exact c1)); (· exact svq); (· exact svq); (· exact svq); (· exact svq); (· rfl); (· exact nd); (with_reducible apply awO_st); (· exact svs))
 | ((with_reducible apply aw_draw); (· decide +kernel); (simp only [List.size_toArray, List.length_cons, List.length_nil, Nat.reduceAdd]))
 | ((with_reducible apply awY_done); (· decide +kernel); (try simp only [CT, ↓reduceIte, Nat.reduceEqDiff]))
 | ((with_reducible apply awY_q); (· exact sQ); (· exact np); (· exact svg); (· rfl); (· exact sv)))
  all_goals (refine retQ_wE (by first | exact .inr rfl | exact .inl rfl) rfl rfl rfl sv rfl (roS _) rfl (roS _) rfl rfl ?_ rfl rfl; first | rfl | (simp only [List.append_nil, List.length_nil]; rfl))
end Go.Proofs.Ytapmolfpkhfpgaa
