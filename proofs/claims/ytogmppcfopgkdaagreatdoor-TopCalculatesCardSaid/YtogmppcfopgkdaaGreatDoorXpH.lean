/- Expansions: arithmetic that fails, on the abstract machine. -/
import Derived.Test.YtogmppcfopgkdaaGreatDoorXpF
import Derived.Test.YtogmppcfopgkdaaGreatDoorTsB
import Derived.Test.YtogmppcfopgkdaaGreatDoorChN
namespace Go.Proofs.YtogmppcfopgkdaaGreatDoor
open Go.RowKit
set_option linter.unusedVariables false
set_option linter.unusedSimpArgs false
set_option maxRecDepth 100000
set_option maxHeartbeats 8000000
section
attribute [local go_sem] vrC_at
variable {msg : List UInt8} {err : Int} {q f : Bool} {c : Int} {L : List Vr}
theorem arith_err {kn : Nat} {kc : List AV} {s : List UInt8} {n e : Int} {A : Mp} (hval : Fn Tryz.prog fValue [.pt 200 0, .rd kn kc, moA true false 0] [(200, xpC L msg err)] (.tp [az s, ab true]) [(200, xpC L msg err)] [200])
    (hs : s.length ≤ 4000) (h40 : 40 ∉ s) (hL : L.length ≤ 60) (hst : ∀ v ∈ L, v.st = true) (hsz : ∀ v ∈ L, v.nm.length ≤ 4096 ∧ v.val.length ≤ 4096) (ht : txR s (bndV L) = (n, A, e)) (he : e ≠ 0) :
    ∃ m', Fn Tryz.prog fArith [.pt 200 0, .ag (ptCs ⟨6, [], 0, false, kn, kc⟩), moA q f c] [(200, xpC L msg err)] (.tp [nilV, ab false]) [(200, xpC L m' 32)] [200] := by
  have hbl := bndV_len L
  have hbz : ∀ p ∈ bndV L, p.1.length ≤ 5000 ∧ p.2.length ≤ 5000 := fun p hp => by
    obtain ⟨v, hv, rfl⟩ := List.mem_map.1 hp
    have := hsz v hv
    exact ⟨by simp only; omega, by simp only; omega⟩
  have cT := calcText_ab s (bndV L) (by omega) h40 (by omega) hbz
  rw [ht] at cT
  simp only at cT
  have hmj := fun j (hj : j ≤ (bndV L).length) => (mpJ_ok (bndV L) hbz j hj).len
  obtain ⟨rs, hrl, cI⟩ := reason_ab e
  refine ⟨s ++ [58, 32] ++ rs, ?_⟩
  have cF := fatal_fn (L := L) (msg := msg) (err := err) (s ++ [58, 32] ++ rs)
  refine Fn_of_aw (keep := [200]) Tryz.func117 rfl rfl (by simp [Tryz.ntmps117]) ?_
  refine aw_of_awM TT ?_
  simp only [num_cons, num_nil, Tryz.ntmps117, Tryz.results117]
  repeat' (first
 | ((with_reducible apply awMO_mk); (· rfl); (· rfl); (· rfl); (· exact nd); intro nb)
 | ((with_reducible apply awMO_ev); (· rfl); (· exact sv))
 | ((with_reducible apply awM_seq); intro _ _)
 | ((with_reducible apply awM_region))
 | ((with_reducible apply awM_block))
 | ((with_reducible apply awMO_nil); (try simp only [CTM, ↓reduceIte, Nat.reduceEqDiff]))
 | ((with_reducible apply awM_skip); (try simp only [CTM, ↓reduceIte, Nat.reduceEqDiff]))
 | ((with_reducible apply awM_cond_false); (· exact sv))
 | (refine KontM.go ‹KontM _ _ _ _ _› _ _ ?_)
 | ((with_reducible apply awMO_m); (· rfl); (· rfl); (· exact sv); (· (first | exact hval)); (· exact svq); (· exact svq); (· exact svq); (· exact svq); (· rfl); (· exact nd); (with_reducible apply awMO_st); (· exact svs)))
  refine awM_virt 10 100 2 rfl (by omega) (by simp) ?_
  refine awM_st svs ?_
  refine awM_loopF (fun j : Nat => [(38, ai j), (10, .os 100 0 2 j)]) (fun j => [(100, bnC ((bndV L).take j)), (200, xpC L msg err), (5, [ab q, ab f, ai c])]) (fun j => some (nb, mpJ (bndV L) j)) (fun j => j ≤ L.length) (fun j => L.length - j) 0 (Nat.zero_le _) rfl ?_ ?_ ?_
  · exact ⟨rfl, rfl, trivial⟩
  · exact ⟨rfl, rfl, rfl, trivial⟩
  rintro j hj
  (simp only [LP, List.append_assoc, List.nil_append, List.cons_append, List.append_nil, List.contains_cons, List.contains_nil, Nat.reduceBEq, Bool.or_false, Bool.or_true, Bool.true_or, Bool.false_or, ↓reduceIte, Bool.false_eq_true])
  have hjt : ((bndV L).take j).length = j := by rw [List.length_take]; omega
  by_cases hjl : j < L.length
  · have hq := hst L[j] (List.getElem_mem hjl)
    have hz := hsz L[j] (List.getElem_mem hjl)
    have hm1 := hmj j (by omega)
    have e0 : (bndV L)[j] = (L[j].nm, L[j].val) := by simp [bndV]
    have e1 : (bndV L).take (j + 1) = (bndV L).take j ++ [(L[j].nm, L[j].val)] := by rw [List.take_succ_eq_append_getElem (by omega), e0]
    have e2 := mpJ_succ (L := bndV L) (j := j) (by omega)
    rw [e0] at e2
    clear cT cI cF hval e0
    generalize (bndV L).take j = B at hjt e1 ⊢
    generalize mpJ (bndV L) j = m at hm1 e2 ⊢
    exact wq24
  obtain rfl : j = L.length := by omega
  have e3 : (bndV L).take L.length = bndV L := by rw [← hbl, List.take_length]
  have e4 : mpJ (bndV L) L.length = mp0 (bndV L) := by rw [← hbl, mpJ_len]
  rw [e3, e4]
  rw [hbl] at cT
  refine awM_pub 10 100 (off := 0) (sz := 2) (n := L.length) (cs := bnC (bndV L)) rfl rfl ?_ ?_ ?_
  · rw [bnC_len, hbl]; omega
  · exact all_sub (bnC_data _) _ _
  rw [show ((bnC (bndV L)).drop 0).take (L.length * 2) = bnC (bndV L) from by rw [List.drop_zero, ← hbl, ← bnC_len, List.take_length]]
  refine awM_st svs ?_
  generalize bnC (bndV L) = B at *
  generalize mp0 (bndV L) = m at *
  repeat' (first
 | ((with_reducible apply awMO_ev); (· rfl); (· exact sv))
 | ((with_reducible apply awM_seq); intro _ _)
 | ((with_reducible apply awM_region))
 | ((with_reducible apply awMO_nil); (try simp only [CTM, ↓reduceIte, Nat.reduceEqDiff]))
 | ((with_reducible apply awM_exit); (try simp only [CTM, ↓reduceIte, Nat.reduceEqDiff]))
 | ((with_reducible apply awM_ret); (try simp only [CTM, ↓reduceIte, Nat.reduceEqDiff]))
 | (refine KontM.go ‹KontM _ _ _ _ _› _ _ ?_)
 | ((with_reducible apply awMO_c); (· rfl); (· rfl); (· exact sv); (· (first | exact cT | exact cI | exact cF)); (· rfl); (· rfl); (· rfl); (· decide))
 | ((with_reducible apply awMO_m); (· rfl); (· rfl); (· exact sv); (· (first | exact cT | exact cI | exact cF)); (· exact svq); (· exact svq); (· exact svq); (· exact svq); (· rfl); (· exact nd); (with_reducible apply awMO_st); (· exact svs))
 | ((with_reducible apply awM_cond); (· exact sv); all_goals (intro hg; (try simp only [decide_eq_true_eq, decide_eq_false_iff_not, Bool.not_true, Bool.not_false, Bool.not_eq_true', Bool.not_eq_false', Bool.not_not, beq_eq_false_iff_ne, ne_eq, beq_iff_eq, decide_eq_decide] at hg); try (exfalso; omega)))
 | ((try with_reducible apply wk_id); (with_reducible apply retQ_mk1); (· exact rI); (· exact sv); (· exact sv); (· exact sv); (· exact sv); rotate_left; rotate_left; (· simp); (· rfl)))
  all_goals first | rfl | contradiction
end
end Go.Proofs.YtogmppcfopgkdaaGreatDoor
/- Expansions: the parameter x, double quotes, on the abstract machine. -/
namespace Go.Proofs.YtogmppcfopgkdaaGreatDoor
open Go.RowKit
set_option linter.unusedVariables false
set_option linter.unusedSimpArgs false
set_option maxRecDepth 100000
set_option maxHeartbeats 8000000
section
variable {msg : List UInt8} {err : Int} {q f : Bool} {c : Int} {L L' : List Vr}
theorem special_x : Ab Tryz.prog 216 [az [120]] (ab false) := by
  have c1 := contains_x
  refine Fn_of_aw (keep := []) Tryz.func216 rfl rfl (by simp [Tryz.ntmps216]) ?_
  simp only [num_cons, num_nil, Tryz.ntmps216, Tryz.results216]
  exact wkA
theorem digits_x : Ab Tryz.prog 218 [az [120]] (.tp [ai 0, ab false]) := by
  have c2 := digitR_ab 120
  have hdec : Utf8.decode (str [120]) 0 = (120, 1) := by rfl
  refine Fn_of_aw (keep := []) Tryz.func218 rfl rfl (by simp [Tryz.ntmps218]) ?_
  simp only [num_cons, num_nil, Tryz.ntmps218, Tryz.results218]
  refine aw_of_awS tBld 5 ?_
  repeat' (first
 | ((with_reducible apply awSO_range); (· rfl); (· rfl); (· kernel_rfl); (· exact sv); (· rfl); (· exact nd); intro nc)
 | ((with_reducible apply awSO_ev); (· rfl); (· exact sv))
 | ((with_reducible apply awS_seq); intro _ _)
 | ((with_reducible apply awS_region))
 | ((with_reducible apply awS_block))
 | ((with_reducible apply awSO_nil); (try simp only [CTS, ↓reduceIte, Nat.reduceEqDiff]))
 | ((with_reducible apply awS_skip); (try simp only [CTS, ↓reduceIte, Nat.reduceEqDiff]))
 | ((with_reducible apply awS_ret); (try simp only [CTS, ↓reduceIte, Nat.reduceEqDiff]))
 | ((with_reducible apply awSO_y); (· rfl); (· rfl); (· decide); (· exact sv); (· exact sv))
 | (refine KontS.go ‹KontS _ _ _ _ _ _› _ _ ?_)
 | ((with_reducible apply awS_cond); (· exact sv); all_goals (intro hg; (try simp only [decide_eq_true_eq, decide_eq_false_iff_not, Bool.not_true, Bool.not_false, Bool.not_eq_true', Bool.not_eq_false', Bool.not_not, beq_eq_false_iff_ne, ne_eq, beq_iff_eq, decide_eq_decide] at hg); try (exfalso; omega)))
 | ((with_reducible apply retQ_mk); (· exact rI); (· exact sv); (· exact sv); rotate_left; (· rfl)))
  all_goals first | (exfalso; revert hg; decide) | skip
  refine awS_loopF (fun _ : Nat => []) (fun _ => []) (fun p => ⟨none, some (nc, [120], p)⟩) (fun p => p = 0) (fun p => 1 - p) 0 rfl rfl ?_ ?_ ?_
  · exact trivial
  · exact trivial
  rintro p rfl
  (simp only [LP, List.append_assoc, List.nil_append, List.cons_append, List.append_nil, List.contains_cons, List.contains_nil, Nat.reduceBEq, Bool.or_false, Bool.or_true, Bool.true_or, Bool.false_or, ↓reduceIte, Bool.false_eq_true])
  repeat' (first
 | ((with_reducible apply awSO_next); (· rfl); (· rfl); (· exact sv); (· rfl); (· exact nd); all_goals (intro hg; try (exfalso; omega)))
 | ((with_reducible apply awSO_ev); (· rfl); (· exact sv))
 | ((with_reducible apply awS_seq); intro _ _)
 | ((with_reducible apply awS_region))
 | ((with_reducible apply awS_block))
 | ((with_reducible apply awSO_nil); (try simp only [CTS, ↓reduceIte, Nat.reduceEqDiff]))
 | ((with_reducible apply awS_exit); (try simp only [CTS, ↓reduceIte, Nat.reduceEqDiff]))
 | ((with_reducible apply awS_skip); (try simp only [CTS, ↓reduceIte, Nat.reduceEqDiff]))
 | ((with_reducible apply awS_ret); (try simp only [CTS, ↓reduceIte, Nat.reduceEqDiff]))
 | ((with_reducible apply awS_cond_true); (· exact sv))
 | ((with_reducible apply awS_cond_false); (· exact sv))
 | (refine KontS.go ‹KontS _ _ _ _ _ _› _ _ ?_)
 | ((with_reducible apply awSO_c); (· rfl); (· rfl); (· exact sv); (· (first | exact c2)); (· rfl); (· rfl); (· rfl); (· decide))
 | ((with_reducible apply retQ_mk); (· exact rI); (· exact sv); (· exact sv); rotate_left; (· rfl)))
  all_goals first | (exfalso; simp at hg; done) | rfl
theorem variable_x (v : List UInt8) (ve vr : Bool) (hL : L.length ≤ 1000) (hg : getV L [120] = some ⟨[120], v, true, ve, vr⟩) : Ab Tryz.prog 219 [.ag (enC L), az [120]] (.tp [az v, ab true]) := by
  have c1 := get_ab L [120] _ hL hg
  refine Fn_of_aw (keep := []) Tryz.func219 rfl rfl (by simp [Tryz.ntmps219]) ?_
  simp only [num_cons, num_nil, Tryz.ntmps219, Tryz.results219]
  exact wkA
theorem value_x (v : List UInt8) (ve vr : Bool) (hL : L.length ≤ 1000) (hg : getV L [120] = some ⟨[120], v, true, ve, vr⟩) : Ab Tryz.prog 177 [.ag (enC L), az [120]] (.tp [az v, ab true]) := by
  have c1 := variable_x v ve vr hL hg
  have c2 := name_ab [120] (by decide)
  have e2 : nmB [120] = true := by decide
  rw [e2] at c2
  refine Fn_of_aw (keep := []) Tryz.func177 rfl rfl (by simp [Tryz.ntmps177]) ?_
  simp only [num_cons, num_nil, Tryz.ntmps177, Tryz.results177]
  have gl0 := special_x
  have gl1 := digits_x
  exact wkA
theorem choose0_ab (v : List UInt8) : Ab Tryz.prog 222 [ai 0, ab false, ab true, az v] (ai 0) := by
  refine Fn_of_aw (keep := []) Tryz.func222 rfl rfl (by simp [Tryz.ntmps222]) ?_
  simp only [num_cons, num_nil, Tryz.ntmps222, Tryz.results222]
  exact wkA
theorem list_x : Ab Tryz.prog 178 [az [120]] (ab false) := by
  refine Fn_of_aw (keep := []) Tryz.func178 rfl rfl (by simp [Tryz.ntmps178]) ?_
  simp only [num_cons, num_nil, Tryz.ntmps178, Tryz.results178]
  exact wq25
theorem itself_fn (v : List UInt8) : Fn Tryz.prog 224 [.pt 200 0, az [120], az v, moA q f c] [(200, xpC L msg err)] (elsA [⟨v, if q = true then 1 else 2⟩]) [(200, xpC L msg err)] [200] := by
  have c1 := result_ab q f c
  have c2 := one_ab v (if q = true then 1 else 2)
  generalize (if q = true then (1 : Int) else 2) = k at *
  refine Fn_of_aw (keep := [200]) Tryz.func224 rfl rfl (by simp [Tryz.ntmps224]) (aw_wk ?_)
  simp only [num_cons, num_nil, Tryz.ntmps224, Tryz.results224]
  have gl0 := list_x
  exact wkA
theorem choose_fn (v : List UInt8) (kn : Nat) (kc : List AV) : Fn Tryz.prog 182 [.pt 200 0, .ag (ptCs ⟨4, [120], 0, false, kn, kc⟩), moA q f c, az v, ab true] [(200, xpC L msg err)] (.tp [elsA [⟨v, if q = true then 1 else 2⟩], ab true]) [(200, xpC L msg err)] [200] := by
  have c1 := itself_fn (q := q) (f := f) (c := c) (L := L) (msg := msg) (err := err) v
  have c2 := choose0_ab v
  generalize (if q = true then (1 : Int) else 2) = k at *
  refine Fn_of_aw (keep := [200]) Tryz.func182 rfl rfl (by simp [Tryz.ntmps182]) (aw_wk ?_)
  simp only [num_cons, num_nil, Tryz.ntmps182, Tryz.results182]
  exact wkA
theorem parameter_fn (v : List UInt8) (ve vr : Bool) (kn : Nat) (kc : List AV) (hL : L.length ≤ 1000) (hg : getV L [120] = some ⟨[120], v, true, ve, vr⟩) :
    Fn Tryz.prog 118 [.pt 200 0, .ag (ptCs ⟨4, [120], 0, false, kn, kc⟩), moA q f c] [(200, xpC L msg err)] (.tp [elsA [⟨v, if q = true then 1 else 2⟩], ab true]) [(200, xpC L msg err)] [200] := by
  have c1 := value_x v ve vr hL hg
  have c2 := choose_fn (q := q) (f := f) (c := c) (L := L) (msg := msg) (err := err) v kn kc
  generalize (if q = true then (1 : Int) else 2) = k at *
  refine Fn_of_aw (keep := [200]) Tryz.func118 rfl rfl (by simp [Tryz.ntmps118]) (aw_wk ?_)
  simp only [num_cons, num_nil, Tryz.ntmps118, Tryz.results118]
  exact wkA
theorem part_param (v : List UInt8) (ve vr : Bool) (kn : Nat) (kc : List AV) (hL : L.length ≤ 1000) (hg : getV L [120] = some ⟨[120], v, true, ve, vr⟩) :
    Fn Tryz.prog fPart [.pt 200 0, .ag (ptCs ⟨4, [120], 0, false, kn, kc⟩), moA q f c] [(200, xpC L msg err)] (.tp [elsA [⟨v, if q = true then 1 else 2⟩], ab true]) [(200, xpC L msg err)] [200] := by
  have c2 := parameter_fn (q := q) (f := f) (c := c) (msg := msg) (err := err) v ve vr kn kc hL hg
  generalize (if q = true then (1 : Int) else 2) = k at *
  refine Fn_of_aw (keep := [200]) Tryz.func73 rfl rfl (by simp [Tryz.ntmps73]) (aw_wk ?_)
  simp only [num_cons, num_nil, Tryz.ntmps73, Tryz.results73]
  exact wkA
theorem part_arith {kn : Nat} {kc : List AV} (Rs : List El) {msg' : List UInt8} {err' : Int} (h : Fn Tryz.prog fArith [.pt 200 0, .ag (ptCs ⟨6, [], 0, false, kn, kc⟩), moA q f c] [(200, xpC L msg err)] (.tp [elsA Rs, ab true]) [(200, xpC L' msg' err')] [200]) :
    Fn Tryz.prog fPart [.pt 200 0, .ag (ptCs ⟨6, [], 0, false, kn, kc⟩), moA q f c] [(200, xpC L msg err)] (.tp [elsA Rs, ab true]) [(200, xpC L' msg' err')] [200] := by
  refine Fn_of_aw (keep := [200]) Tryz.func73 rfl rfl (by simp [Tryz.ntmps73]) (aw_wk ?_)
  simp only [num_cons, num_nil, Tryz.ntmps73, Tryz.results73]
  exact wkA
theorem part_arithN {kn : Nat} {kc : List AV} {msg' : List UInt8} {err' : Int} (h : Fn Tryz.prog fArith [.pt 200 0, .ag (ptCs ⟨6, [], 0, false, kn, kc⟩), moA q f c] [(200, xpC L msg err)] (.tp [nilV, ab false]) [(200, xpC L' msg' err')] [200]) :
    Fn Tryz.prog fPart [.pt 200 0, .ag (ptCs ⟨6, [], 0, false, kn, kc⟩), moA q f c] [(200, xpC L msg err)] (.tp [nilV, ab false]) [(200, xpC L' msg' err')] [200] := by
  refine Fn_of_aw (keep := [200]) Tryz.func73 rfl rfl (by simp [Tryz.ntmps73]) (aw_wk ?_)
  simp only [num_cons, num_nil, Tryz.ntmps73, Tryz.results73]
  exact wkA
theorem double_fn {kn : Nat} {kc : List AV} (Rs : List El) (hR : 0 < Rs.length) (hRl : Rs.length ≤ 1000) (h : Fn Tryz.prog fParts [.pt 200 0, .rd kn kc, moA true f 0] [(200, xpC L msg err)] (.tp [elsA Rs, ab true]) [(200, xpC L msg err)] [200]) :
    Fn Tryz.prog 115 [.pt 200 0, .ag (ptCs ⟨3, [], 0, false, kn, kc⟩), moA q f c] [(200, xpC L msg err)] (.tp [elsA Rs, ab true]) [(200, xpC L msg err)] [200] := by
  refine Fn_of_aw (keep := [200]) Tryz.func115 rfl rfl (by simp [Tryz.ntmps115]) (aw_wk ?_)
  simp only [num_cons, num_nil, Tryz.ntmps115, Tryz.results115]
  exact wkA
theorem part_double {kn : Nat} {kc : List AV} (Rs : List El) (hR : 0 < Rs.length) (hRl : Rs.length ≤ 1000) (h : Fn Tryz.prog fParts [.pt 200 0, .rd kn kc, moA true f 0] [(200, xpC L msg err)] (.tp [elsA Rs, ab true]) [(200, xpC L msg err)] [200]) :
    Fn Tryz.prog fPart [.pt 200 0, .ag (ptCs ⟨3, [], 0, false, kn, kc⟩), moA q f c] [(200, xpC L msg err)] (.tp [elsA Rs, ab true]) [(200, xpC L msg err)] [200] := by
  have c1 := double_fn (q := q) (c := c) Rs hR hRl h
  refine Fn_of_aw (keep := [200]) Tryz.func73 rfl rfl (by simp [Tryz.ntmps73]) (aw_wk ?_)
  simp only [num_cons, num_nil, Tryz.ntmps73, Tryz.results73]
  exact wkA
end
end Go.Proofs.YtogmppcfopgkdaaGreatDoor
