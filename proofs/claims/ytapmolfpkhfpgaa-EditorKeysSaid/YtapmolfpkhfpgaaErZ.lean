/- The editor: act, third part of the program, on the abstract machine. -/
import Derived.Test.YtapmolfpkhfpgaaErX
namespace Go.Proofs.Ytapmolfpkhfpgaa
open Go.RowKit
set_option linter.unusedVariables false
set_option linter.unusedSimpArgs false
set_option maxRecDepth 100000
set_option maxHeartbeats 8000000
def yankE (e : Er) : Er := match e.kills.getLast? with
  | none => e
  | some s => { e with now := rplS e.now e.now.p.toNat e.now.p.toNat s }
theorem act15_fn (e : Er) (h : okEr e) (L : List (List UInt8)) (x : List UInt8) (hx : x.length ≤ 100000) : Fn Try.prog 28 [.pt 9 0, az x] (wkH e L 15) (.tp []) (wkE (yankE e) L 15) [9] := by
  have h0 := h.now.2.1
  have h1 := h.now.2.2
  have ht := h.now.1
  have hK := h.nk
  have hKs := h.kills
  have hmk := h.mark
  clear h
  unfold yankE
  by_cases hk0 : 0 < e.kills.length
  · rw [last_get hk0]
    have hkx := hKs _ (List.getElem_mem (show e.kills.length - 1 < e.kills.length by omega))
    have c1 := replace_fn e L 15 e.now.p.toNat e.now.p.toNat (e.kills[e.kills.length - 1]'(by omega)) (by omega) (by omega) (by omega) (by omega)
    obtain ⟨⟨t, z⟩, m, K, U, R, ks, la, li, sd⟩ := e
    simp only at h0 h1 ht hK hKs hmk hk0 hkx
    obtain ⟨p, rfl⟩ : ∃ p : Nat, z = p := ⟨z.toNat, by omega⟩
    simp only [wkH, wkC, wkE, rplS, Int.toNat_natCast] at c1 ⊢
    refine Fn_of_aw (keep := [9, 3000, 4000]) Try.func28 rfl rfl (by simp [Try.ntmps28]) ?_
    simp only [num_cons, num_nil, Try.ntmps28, Try.results28]
    repeat' (first
 | ((with_reducible apply awO_ev); (· rfl); (· exact sv))
 | ((with_reducible apply aw_seq); intro _ _)
 | (with_reducible apply aw_region)
 | (with_reducible apply aw_block)
 | ((first | (with_reducible apply awO_nil) | (with_reducible apply aw_exit) | (with_reducible apply aw_skip) | (with_reducible apply aw_ret)); (try simp only [CT, ↓reduceIte, Nat.reduceEqDiff]))
 | ((with_reducible apply aw_cond_true); (· exact sv))
 | ((with_reducible apply aw_cond_false); (· exact sv))
 | (refine Kont.go ‹Kont _ _ _ _› _ ?_)
 | ((with_reducible apply awO_m); (· rfl); (· rfl); (· exact sv); (· (first | exact c1)); (· exact svq); (· exact svq); (· exact svq); (· exact svq); (· rfl); (· exact nd); (with_reducible apply awO_st); (· exact svs))
 | ((with_reducible apply aw_draw); (· decide +kernel); (simp only [List.size_toArray, List.length_cons, List.length_nil, Nat.reduceAdd]))
 | ((with_reducible apply awY_done); (· decide +kernel); (try simp only [CT, ↓reduceIte, Nat.reduceEqDiff]))
 | ((with_reducible apply awY_q); (· exact sQ); (· exact np); (· exact svg); (· rfl); (· exact sv))
 | ((first | ((with_reducible apply awO_guard); (· rfl); (· rfl); (· exact sv)) | ((with_reducible apply aw_cond); (· exact sv))); all_goals (intro hg; (try simp only [Bool.not_true, Bool.not_false]); (try simp only [decide_eq_true_eq, decide_eq_false_iff_not, Bool.not_true, Bool.not_false, Bool.not_eq_true', Bool.not_eq_false', Bool.not_not, beq_eq_false_iff_ne, ne_eq, beq_iff_eq, decide_eq_decide] at hg); try (exfalso; omega))))
    all_goals (refine retQ_wE (by first | exact .inr rfl | exact .inl rfl) rfl rfl rfl sv rfl (roS _) rfl (roS _) rfl rfl ?_ rfl rfl; rfl)
  · obtain ⟨⟨t, z⟩, m, K, U, R, ks, la, li, sd⟩ := e
    simp only at h0 h1 ht hK hKs hmk hk0
    obtain rfl : K = [] := List.eq_nil_of_length_eq_zero (by omega)
    obtain ⟨p, rfl⟩ : ∃ p : Nat, z = p := ⟨z.toNat, by omega⟩
    simp only [wkH, wkC, wkE, List.getLast?_nil]
    refine Fn_of_aw (keep := [9, 3000, 4000]) Try.func28 rfl rfl (by simp [Try.ntmps28]) ?_
    simp only [num_cons, num_nil, Try.ntmps28, Try.results28]
    repeat' (first
 | ((with_reducible apply awO_ev); (· rfl); (· exact sv))
 | ((with_reducible apply aw_seq); intro _ _)
 | (with_reducible apply aw_region)
 | (with_reducible apply aw_block)
 | ((first | (with_reducible apply awO_nil) | (with_reducible apply aw_exit) | (with_reducible apply aw_skip) | (with_reducible apply aw_ret)); (try simp only [CT, ↓reduceIte, Nat.reduceEqDiff]))
 | ((with_reducible apply aw_cond_true); (· exact sv))
 | ((with_reducible apply aw_cond_false); (· exact sv))
 | (refine Kont.go ‹Kont _ _ _ _› _ ?_)
 | ((with_reducible apply aw_draw); (· decide +kernel); (simp only [List.size_toArray, List.length_cons, List.length_nil, Nat.reduceAdd]))
 | ((with_reducible apply awY_done); (· decide +kernel); (try simp only [CT, ↓reduceIte, Nat.reduceEqDiff]))
 | ((with_reducible apply awY_q); (· exact sQ); (· exact np); (· exact svg); (· rfl); (· exact sv)))
    all_goals (refine retQ_wE (by first | exact .inr rfl | exact .inl rfl) rfl rfl rfl sv rfl (roS _) rfl (roS _) rfl rfl ?_ rfl rfl; rfl)
theorem act17_fn (e : Er) (h : okEr e) (L : List (List UInt8)) (x : List UInt8) (hL : L.length ≤ 9000000000000000) (hl : ∀ s ∈ L, s.length ≤ 9000000000000000) : Fn Try.prog 28 [.pt 9 0, az x] (wkH e L 17) (.tp []) (wkD (bakE e) L 17) [9] := by
  have h0 := h.now.2.1
  have h1 := h.now.2.2
  have ht := h.now.1
  have c1 := more17_fn e L h.nu h.nr
  clear h
  generalize bakE e = g at *
  obtain ⟨⟨t, z⟩, m, K, U, R, ks, la, li, sd⟩ := e
  simp only at h0 h1 ht
  simp only [wkH, wkC, wkD] at c1 ⊢
  refine Fn_of_aw (keep := [9]) Try.func28 rfl rfl (by simp [Try.ntmps28]) ?_
  simp only [num_cons, num_nil, Try.ntmps28, Try.results28]
  repeat' (first
 | ((with_reducible apply awO_ev); (· rfl); (· exact sv))
 | ((with_reducible apply aw_seq); intro _ _)
 | (with_reducible apply aw_region)
 | (with_reducible apply aw_block)
 | ((first | (with_reducible apply awO_nil) | (with_reducible apply aw_exit) | (with_reducible apply aw_skip) | (with_reducible apply aw_ret)); (try simp only [CT, ↓reduceIte, Nat.reduceEqDiff]))
 | ((with_reducible apply aw_cond_false); (· exact sv))
 | (refine Kont.go ‹Kont _ _ _ _› _ ?_)
 | ((with_reducible apply awO_m); (· rfl); (· rfl); (· exact sv); (· (first | exact c1)); (· exact svq); (· exact svq); (· exact svq); (· exact svq); (· rfl); (· exact nd); (with_reducible apply awO_st); (· exact svs))
 | ((with_reducible apply aw_draw); (· decide +kernel); (simp only [List.size_toArray, List.length_cons, List.length_nil, Nat.reduceAdd]))
 | ((with_reducible apply awY_done); (· decide +kernel); (try simp only [CT, ↓reduceIte, Nat.reduceEqDiff]))
 | ((with_reducible apply awY_q); (· exact sQ); (· exact np); (· exact svg); (· rfl); (· exact sv)))
  all_goals (refine retQ_wD (by first | exact .inr rfl | exact .inl rfl) rfl rfl rfl sv rfl rfl ?_; rfl)
theorem act18_fn (e : Er) (h : okEr e) (L : List (List UInt8)) (x : List UInt8) (hL : L.length ≤ 9000000000000000) (hl : ∀ s ∈ L, s.length ≤ 9000000000000000) : Fn Try.prog 28 [.pt 9 0, az x] (wkH e L 18) (.tp []) (wkD (fwdE e) L 18) [9] := by
  have h0 := h.now.2.1
  have h1 := h.now.2.2
  have ht := h.now.1
  have c1 := more18_fn e L h.nu h.nr
  clear h
  generalize fwdE e = g at *
  obtain ⟨⟨t, z⟩, m, K, U, R, ks, la, li, sd⟩ := e
  simp only at h0 h1 ht
  simp only [wkH, wkC, wkD] at c1 ⊢
  refine Fn_of_aw (keep := [9]) Try.func28 rfl rfl (by simp [Try.ntmps28]) ?_
  simp only [num_cons, num_nil, Try.ntmps28, Try.results28]
  repeat' (first
 | ((with_reducible apply awO_ev); (· rfl); (· exact sv))
 | ((with_reducible apply aw_seq); intro _ _)
 | (with_reducible apply aw_region)
 | (with_reducible apply aw_block)
 | ((first | (with_reducible apply awO_nil) | (with_reducible apply aw_exit) | (with_reducible apply aw_skip) | (with_reducible apply aw_ret)); (try simp only [CT, ↓reduceIte, Nat.reduceEqDiff]))
 | ((with_reducible apply aw_cond_false); (· exact sv))
 | (refine Kont.go ‹Kont _ _ _ _› _ ?_)
 | ((with_reducible apply awO_m); (· rfl); (· rfl); (· exact sv); (· (first | exact c1)); (· exact svq); (· exact svq); (· exact svq); (· exact svq); (· rfl); (· exact nd); (with_reducible apply awO_st); (· exact svs))
 | ((with_reducible apply aw_draw); (· decide +kernel); (simp only [List.size_toArray, List.length_cons, List.length_nil, Nat.reduceAdd]))
 | ((with_reducible apply awY_done); (· decide +kernel); (try simp only [CT, ↓reduceIte, Nat.reduceEqDiff]))
 | ((with_reducible apply awY_q); (· exact sQ); (· exact np); (· exact svg); (· rfl); (· exact sv)))
  all_goals (refine retQ_wD (by first | exact .inr rfl | exact .inl rfl) rfl rfl rfl sv rfl rfl ?_; rfl)
theorem act20_fn (e : Er) (h : okEr e) (L : List (List UInt8)) (x : List UInt8) (hL : L.length ≤ 9000000000000000) (hl : ∀ s ∈ L, s.length ≤ 9000000000000000) : Fn Try.prog 28 [.pt 9 0, az x] (wkH e L 20) (.tp []) (wkD (upE e L) L 20) [9] := by
  have h0 := h.now.2.1
  have h1 := h.now.2.2
  have ht := h.now.1
  have c1 := more20_fn e L h.line hL hl (by have := h.saved; omega)
  clear h
  generalize upE e L = g at *
  obtain ⟨⟨t, z⟩, m, K, U, R, ks, la, li, sd⟩ := e
  simp only at h0 h1 ht
  simp only [wkH, wkC, wkD] at c1 ⊢
  refine Fn_of_aw (keep := [9]) Try.func28 rfl rfl (by simp [Try.ntmps28]) ?_
  simp only [num_cons, num_nil, Try.ntmps28, Try.results28]
  repeat' (first
 | ((with_reducible apply awO_ev); (· rfl); (· exact sv))
 | ((with_reducible apply aw_seq); intro _ _)
 | (with_reducible apply aw_region)
 | (with_reducible apply aw_block)
 | ((first | (with_reducible apply awO_nil) | (with_reducible apply aw_exit) | (with_reducible apply aw_skip) | (with_reducible apply aw_ret)); (try simp only [CT, ↓reduceIte, Nat.reduceEqDiff]))
 | ((with_reducible apply aw_cond_false); (· exact sv))
 | (refine Kont.go ‹Kont _ _ _ _› _ ?_)
 | ((with_reducible apply awO_m); (· rfl); (· rfl); (· exact sv); (· (first | exact c1)); (· exact svq); (· exact svq); (· exact svq); (· exact svq); (· rfl); (· exact nd); (with_reducible apply awO_st); (· exact svs))
 | ((with_reducible apply aw_draw); (· decide +kernel); (simp only [List.size_toArray, List.length_cons, List.length_nil, Nat.reduceAdd]))
 | ((with_reducible apply awY_done); (· decide +kernel); (try simp only [CT, ↓reduceIte, Nat.reduceEqDiff]))
 | ((with_reducible apply awY_q); (· exact sQ); (· exact np); (· exact svg); (· rfl); (· exact sv)))
  all_goals (refine retQ_wD (by first | exact .inr rfl | exact .inl rfl) rfl rfl rfl sv rfl rfl ?_; rfl)
theorem act21_fn (e : Er) (h : okEr e) (L : List (List UInt8)) (x : List UInt8) (hL : L.length ≤ 9000000000000000) (hl : ∀ s ∈ L, s.length ≤ 9000000000000000) : Fn Try.prog 28 [.pt 9 0, az x] (wkH e L 21) (.tp []) (wkD (dwE e L) L 21) [9] := by
  have h0 := h.now.2.1
  have h1 := h.now.2.2
  have ht := h.now.1
  have c1 := more21_fn e L h.line hL hl (by have := h.saved; omega)
  clear h
  generalize dwE e L = g at *
  obtain ⟨⟨t, z⟩, m, K, U, R, ks, la, li, sd⟩ := e
  simp only at h0 h1 ht
  simp only [wkH, wkC, wkD] at c1 ⊢
  refine Fn_of_aw (keep := [9]) Try.func28 rfl rfl (by simp [Try.ntmps28]) ?_
  simp only [num_cons, num_nil, Try.ntmps28, Try.results28]
  repeat' (first
 | ((with_reducible apply awO_ev); (· rfl); (· exact sv))
 | ((with_reducible apply aw_seq); intro _ _)
 | (with_reducible apply aw_region)
 | (with_reducible apply aw_block)
 | ((first | (with_reducible apply awO_nil) | (with_reducible apply aw_exit) | (with_reducible apply aw_skip) | (with_reducible apply aw_ret)); (try simp only [CT, ↓reduceIte, Nat.reduceEqDiff]))
 | ((with_reducible apply aw_cond_false); (· exact sv))
 | (refine Kont.go ‹Kont _ _ _ _› _ ?_)
 | ((with_reducible apply awO_m); (· rfl); (· rfl); (· exact sv); (· (first | exact c1)); (· exact svq); (· exact svq); (· exact svq); (· exact svq); (· rfl); (· exact nd); (with_reducible apply awO_st); (· exact svs))
 | ((with_reducible apply aw_draw); (· decide +kernel); (simp only [List.size_toArray, List.length_cons, List.length_nil, Nat.reduceAdd]))
 | ((with_reducible apply awY_done); (· decide +kernel); (try simp only [CT, ↓reduceIte, Nat.reduceEqDiff]))
 | ((with_reducible apply awY_q); (· exact sQ); (· exact np); (· exact svg); (· rfl); (· exact sv)))
  all_goals (refine retQ_wD (by first | exact .inr rfl | exact .inl rfl) rfl rfl rfl sv rfl rfl ?_; rfl)
end Go.Proofs.Ytapmolfpkhfpgaa
