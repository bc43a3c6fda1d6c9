/- Expansions: arithmetic, on the abstract machine. -/
import Derived.Test.YtogmppcfopgkdaaGreatDoorXpC
import Derived.Test.YtogmppcfopgkdaaGreatDoorSpE
import Derived.Test.YtogmppcfopgkdaaGreatDoorBit
namespace Go.Proofs.YtogmppcfopgkdaaGreatDoor
open Go.RowKit
set_option linter.unusedVariables false
set_option linter.unusedSimpArgs false
set_option maxRecDepth 100000
set_option maxHeartbeats 8000000
section
variable {P : Program} {T : MT} {c : Code} {st st' : St} {σ : Mo} {Q : Exit → St → Mo → Prop}
/-- A piece of code that does without the map. -/
theorem awM_reg {M : St} (h : aw P c st (endQ M)) (hfx : M.fx = st.fx) (hM : Q .normal M σ) : awM P T c st σ Q := fun E a w ⟨E', D, hl, hS⟩ =>
  wp_mono (h E' a w hS) fun e a' w' hq => by
    obtain ⟨s, hs, rfl, hsub⟩ := hq
    exact ⟨M, σ, ⟨E', D, by rw [hfx]; exact hl, hsub.S hs⟩, hM⟩
end
theorem vrC_at {L : List Vr} {k : Nat} (hk : k < L.length) : (vrC L).drop (k * 5) = az L[k].nm :: az L[k].val :: ab L[k].st :: ab L[k].ex :: ab L[k].ro :: vrC (L.drop (k + 1)) := by
  rw [vrC_drop, List.drop_eq_getElem_cons hk]
  rfl
section
attribute [local go_sem] vrC_at
variable {msg : List UInt8} {err : Int} {q f : Bool} {c : Int} {L : List Vr}
theorem arith_ok {kn : Nat} {kc : List AV} {s : List UInt8} {n : Int} {A : Mp} (hval : Fn Tryz.prog fValue [.pt 200 0, .rd kn kc, moA true false 0] [(200, xpC L msg err)] (.tp [az s, ab true]) [(200, xpC L msg err)] [200])
    (hs : s.length ≤ 4000) (h40 : 40 ∉ s) (hL : L.length ≤ 60) (hst : ∀ v ∈ L, v.st = true) (hsz : ∀ v ∈ L, v.nm.length ≤ 4096 ∧ v.val.length ≤ 4096) (hro : ∀ v ∈ L, v.ro = false) (ht : txR s (bndV L) = (n, A, 0)) (hA : ∀ p ∈ A, nmB p.1 = true ∧ p.2.length ≤ 4096) (hAl : L.length + A.length < 128) (hn : I64 n) :
    Fn Tryz.prog fArith [.pt 200 0, .ag (ptCs ⟨6, [], 0, false, kn, kc⟩), moA q f c] [(200, xpC L msg err)] (.tp [elsA [⟨Lib.itoa n, if q = true then 1 else 2⟩], ab true]) [(200, xpC (asgA (mp0 (bndV L)) A L) msg err)] [200] := by
  have hbl := bndV_len L
  have hbz : ∀ p ∈ bndV L, p.1.length ≤ 5000 ∧ p.2.length ≤ 5000 := fun p hp => by
    obtain ⟨v, hv, rfl⟩ := List.mem_map.1 hp
    have := hsz v hv
    exact ⟨by simp only; omega, by simp only; omega⟩
  have cT := calcText_ab s (bndV L) (by omega) h40 (by omega) hbz
  rw [ht] at cT
  simp only at cT
  have hmj := fun j (hj : j ≤ (bndV L).length) => (mpJ_ok (bndV L) hbz j hj).len
  have cI := itoa_ab n hn
  have cR := result_ab q f c
  have cO := one_ab (Lib.itoa n) (if q = true then 1 else 2)
  generalize (if q = true then (1 : Int) else 2) = k1 at *
  generalize Lib.itoa n = ns at *
  refine Fn_of_aw (keep := [200]) Tryz.func117 rfl rfl (by simp [Tryz.ntmps117]) ?_
  refine aw_of_awM TT ?_
  simp only [num_cons, num_nil, Tryz.ntmps117, Tryz.results117]
  repeat' (first
 | ((with_reducible apply awMO_mk); (· rfl); (· rfl); (· rfl); (· exact nd); intro nb)
 | ((with_reducible apply awMO_ev); (· rfl); (· exact sv))
 | ((with_reducible apply awM_seq); intro _ _)
 | ((with_reducible apply awM_region))
 | ((with_reducible apply awM_block))
 | ((with_reducible apply awMO_nil); (try simp only [CTM, ↓reduceIte, Nat.reduceEqDiff]))
 | ((with_reducible apply awM_skip); (try simp only [CTM, ↓reduceIte, Nat.reduceEqDiff]))
 | ((with_reducible apply awM_cond_false); (· exact sv))
 | (refine KontM.go ‹KontM _ _ _ _ _› _ _ ?_)
 | ((with_reducible apply awMO_m); (· rfl); (· rfl); (· exact sv); (· (first | exact hval)); (· exact svq); (· exact svq); (· exact svq); (· exact svq); (· rfl); (· exact nd); (with_reducible apply awMO_st); (· exact svs)))
  refine awM_virt 10 100 2 rfl (by omega) (by simp) ?_
  refine awM_st svs ?_
  refine awM_loopF (fun j : Nat => [(38, ai j), (10, .os 100 0 2 j)]) (fun j => [(100, bnC ((bndV L).take j)), (200, xpC L msg err), (5, [ab q, ab f, ai c])]) (fun j => some (nb, mpJ (bndV L) j)) (fun j => j ≤ L.length) (fun j => L.length - j) 0 (Nat.zero_le _) rfl ?_ ?_ ?_
  · exact ⟨rfl, rfl, trivial⟩
  · exact ⟨rfl, rfl, rfl, trivial⟩
  rintro j hj
  (simp only [LP, List.append_assoc, List.nil_append, List.cons_append, List.append_nil, List.contains_cons, List.contains_nil, Nat.reduceBEq, Bool.or_false, Bool.or_true, Bool.true_or, Bool.false_or, ↓reduceIte, Bool.false_eq_true])
  have hjt : ((bndV L).take j).length = j := by rw [List.length_take]; omega
  by_cases hjl : j < L.length
  · have hq := hst L[j] (List.getElem_mem hjl)
    have hz := hsz L[j] (List.getElem_mem hjl)
    have hm1 := hmj j (by omega)
    have e0 : (bndV L)[j] = (L[j].nm, L[j].val) := by simp [bndV]
    have e1 : (bndV L).take (j + 1) = (bndV L).take j ++ [(L[j].nm, L[j].val)] := by rw [List.take_succ_eq_append_getElem (by omega), e0]
    have e2 := mpJ_succ (L := bndV L) (j := j) (by omega)
    rw [e0] at e2
    clear cT cI cR cO hval e0
    generalize (bndV L).take j = B at hjt e1 ⊢
    generalize mpJ (bndV L) j = m at hm1 e2 ⊢
    exact wq24
  obtain rfl : j = L.length := by omega
  have e3 : (bndV L).take L.length = bndV L := by rw [← hbl, List.take_length]
  have e4 : mpJ (bndV L) L.length = mp0 (bndV L) := by rw [← hbl, mpJ_len]
  rw [e3, e4]
  rw [hbl] at cT
  refine awM_pub 10 100 (off := 0) (sz := 2) (n := L.length) (cs := bnC (bndV L)) rfl rfl ?_ ?_ ?_
  · rw [bnC_len, hbl]; omega
  · exact all_sub (bnC_data _) _ _
  rw [show ((bnC (bndV L)).drop 0).take (L.length * 2) = bnC (bndV L) from by rw [List.drop_zero, ← hbl, ← bnC_len, List.take_length]]
  refine awM_st svs ?_
  generalize bnC (bndV L) = B at *
  generalize mp0 (bndV L) = m at *
  repeat' (first
 | ((with_reducible apply awMO_ev); (· rfl); (· exact sv))
 | ((with_reducible apply awM_seq); intro _ _)
 | ((with_reducible apply awM_region))
 | ((with_reducible apply awM_block))
 | ((with_reducible apply awMO_nil); (try simp only [CTM, ↓reduceIte, Nat.reduceEqDiff]))
 | ((with_reducible apply awM_exit); (try simp only [CTM, ↓reduceIte, Nat.reduceEqDiff]))
 | ((with_reducible apply awM_skip); (try simp only [CTM, ↓reduceIte, Nat.reduceEqDiff]))
 | ((with_reducible apply awM_cond_false); (· exact sv))
 | (refine KontM.go ‹KontM _ _ _ _ _› _ _ ?_)
 | ((with_reducible apply awMO_c); (· rfl); (· rfl); (· exact sv); (· (first | exact cT)); (· rfl); (· rfl); (· rfl); (· decide))
 | ((with_reducible apply awM_cond); (· exact sv); all_goals (intro hg; (try simp only [decide_eq_true_eq, decide_eq_false_iff_not, Bool.not_true, Bool.not_false, Bool.not_eq_true', Bool.not_eq_false', Bool.not_not, beq_eq_false_iff_ne, ne_eq, beq_iff_eq, decide_eq_decide] at hg); try (exfalso; omega))))
  clear cT hval
  refine awM_loopF (fun j : Nat => [(76, ai j)]) (fun j => [(200, xpC (asgA m (A.take j) L) msg err), (5, [ab q, ab f, ai c])]) (fun _ => some (nb, m)) (fun j => j ≤ A.length) (fun j => A.length - j) 0 (Nat.zero_le _) rfl ?_ ?_ ?_
  · exact ⟨rfl, trivial⟩
  · exact ⟨rfl, rfl, trivial⟩
  rintro i hi
  (simp only [LP, List.append_assoc, List.nil_append, List.cons_append, List.append_nil, List.contains_cons, List.contains_nil, Nat.reduceBEq, Bool.or_false, Bool.or_true, Bool.true_or, Bool.false_or, ↓reduceIte, Bool.false_eq_true])
  by_cases hil : i < A.length
  · have hAi := hA A[i] (List.getElem_mem hil)
    have hAz := nmB_len hAi.1
    obtain ⟨hl1, hr1⟩ := asgA_ok (m := m) (A := A) hro i hi
    have hs1 := asgA_succ (m := m) (L := L) hil
    generalize asgA m (A.take i) L = M at *
    have c6 := assign_fn (msg := msg) (err := err) (L := M) A[i].1 A[i].2 hAi.1 hAi.2 (by omega) hr1
    unfold asgS at hs1
    clear cI cR cO
    by_cases ha : hasM m A[i].1 = true ∧ getM m A[i].1 = A[i].2
    · rw [if_pos ha] at hs1
      obtain ⟨ha1, ha2⟩ := ha
      repeat' (first
 | ((with_reducible apply (awMO_lookk mtok)); (· rfl); (· rfl); (· rfl); (· exact sv); (· exact sv); (· omega); (· rfl); (· exact nd))
 | ((with_reducible apply awMO_ev); (· rfl); (· exact sv))
 | ((with_reducible apply awM_seq); intro _ _)
 | ((with_reducible apply awM_region))
 | ((with_reducible apply awM_block))
 | ((with_reducible apply awMO_nil); (try simp only [CTM, ↓reduceIte, Nat.reduceEqDiff]))
 | ((with_reducible apply awM_exit); (try simp only [CTM, ↓reduceIte, Nat.reduceEqDiff]))
 | ((with_reducible apply awM_skip); (try simp only [CTM, ↓reduceIte, Nat.reduceEqDiff]))
 | ((with_reducible apply awMO_y); (· rfl); (· rfl); (· decide); (· exact sv); (· exact sv))
 | ((with_reducible apply awMO_n); (· rfl); (· rfl); (· decide); (· exact sv); (· rfl); (· rfl); (· decide))
 | ((with_reducible apply awM_cond_false); (· exact sv))
 | (refine KontM.go ‹KontM _ _ _ _ _› _ _ ?_)
 | ((with_reducible apply awMO_m); (· rfl); (· rfl); (· exact sv); (· (first | exact c6)); (· exact svq); (· exact svq); (· exact svq); (· exact svq); (· rfl); (· exact nd); (with_reducible apply awMO_st); (· exact svs))
 | ((with_reducible apply awMO_guard); (· rfl); (· rfl); (· exact sv); all_goals (intro hg; (try simp only [Bool.not_true, Bool.not_false]); (try simp only [decide_eq_true_eq, decide_eq_false_iff_not, Bool.not_true, Bool.not_false, Bool.not_eq_true', Bool.not_eq_false', Bool.not_not, beq_eq_false_iff_ne, ne_eq, beq_iff_eq, decide_eq_decide] at hg); try (exfalso; omega)))
 | ((with_reducible apply awM_cond); (· exact sv); all_goals (intro hg; (try simp only [decide_eq_true_eq, decide_eq_false_iff_not, Bool.not_true, Bool.not_false, Bool.not_eq_true', Bool.not_eq_false', Bool.not_not, beq_eq_false_iff_ne, ne_eq, beq_iff_eq, decide_eq_decide] at hg); try (exfalso; omega))))
      all_goals try exact none
      all_goals first
        | (exfalso; simp [ha1, ha2] at hg; done)
        | (refine LEM_mk (i + 1) ?_ ?_ ?_ sN sN ?_
           · exact hil
           · omega
           · rfl
           · exact ⟨by rw [hs1]; rfl, rfl, trivial⟩)
    · rw [if_neg ha] at hs1
      repeat' (first
 | ((with_reducible apply (awMO_lookk mtok)); (· rfl); (· rfl); (· rfl); (· exact sv); (· exact sv); (· omega); (· rfl); (· exact nd))
 | ((with_reducible apply awMO_ev); (· rfl); (· exact sv))
 | ((with_reducible apply awM_seq); intro _ _)
 | ((with_reducible apply awM_region))
 | ((with_reducible apply awM_block))
 | ((with_reducible apply awMO_nil); (try simp only [CTM, ↓reduceIte, Nat.reduceEqDiff]))
 | ((with_reducible apply awM_exit); (try simp only [CTM, ↓reduceIte, Nat.reduceEqDiff]))
 | ((with_reducible apply awM_skip); (try simp only [CTM, ↓reduceIte, Nat.reduceEqDiff]))
 | ((with_reducible apply awMO_y); (· rfl); (· rfl); (· decide); (· exact sv); (· exact sv))
 | ((with_reducible apply awMO_n); (· rfl); (· rfl); (· decide); (· exact sv); (· rfl); (· rfl); (· decide))
 | ((with_reducible apply awM_cond_false); (· exact sv))
 | (refine KontM.go ‹KontM _ _ _ _ _› _ _ ?_)
 | ((with_reducible apply awMO_m); (· rfl); (· rfl); (· exact sv); (· (first | exact c6)); (· exact svq); (· exact svq); (· exact svq); (· exact svq); (· rfl); (· exact nd); (with_reducible apply awMO_st); (· exact svs))
 | ((with_reducible apply awMO_guard); (· rfl); (· rfl); (· exact sv); all_goals (intro hg; (try simp only [Bool.not_true, Bool.not_false]); (try simp only [decide_eq_true_eq, decide_eq_false_iff_not, Bool.not_true, Bool.not_false, Bool.not_eq_true', Bool.not_eq_false', Bool.not_not, beq_eq_false_iff_ne, ne_eq, beq_iff_eq, decide_eq_decide] at hg); try (exfalso; omega)))
 | ((with_reducible apply awM_cond); (· exact sv); all_goals (intro hg; (try simp only [decide_eq_true_eq, decide_eq_false_iff_not, Bool.not_true, Bool.not_false, Bool.not_eq_true', Bool.not_eq_false', Bool.not_not, beq_eq_false_iff_ne, ne_eq, beq_iff_eq, decide_eq_decide] at hg); try (exfalso; omega))))
      all_goals try exact none
      all_goals first
        | exact absurd ⟨by assumption, by assumption⟩ ha
        | (refine LEM_mk (i + 1) ?_ ?_ ?_ sN sN ?_
           · exact hil
           · omega
           · rfl
           · exact ⟨by rw [hs1]; rfl, rfl, trivial⟩)
  obtain rfl : i = A.length := by omega
  rw [List.take_length]
  generalize asgA m A L = M at *
  repeat' (first
 | ((with_reducible apply awMO_ev); (· rfl); (· exact sv))
 | ((with_reducible apply awM_seq); intro _ _)
 | ((with_reducible apply awM_region))
 | ((with_reducible apply awMO_nil); (try simp only [CTM, ↓reduceIte, Nat.reduceEqDiff]))
 | ((with_reducible apply awM_exit); (try simp only [CTM, ↓reduceIte, Nat.reduceEqDiff]))
 | (refine KontM.go ‹KontM _ _ _ _ _› _ _ ?_)
 | ((with_reducible apply awM_cond); (· exact sv); all_goals (intro hg; (try simp only [decide_eq_true_eq, decide_eq_false_iff_not, Bool.not_true, Bool.not_false, Bool.not_eq_true', Bool.not_eq_false', Bool.not_not, beq_eq_false_iff_ne, ne_eq, beq_iff_eq, decide_eq_decide] at hg); try (exfalso; omega))))
  apply awM_reg
  · skip
    repeat' (first
 | ((with_reducible apply aw_draw); (· decide +kernel); (simp only [List.size_toArray, List.length_cons, List.length_nil, Nat.reduceAdd]))
 | ((with_reducible apply awY_done); (· decide +kernel); (try simp only [CT, ↓reduceIte, Nat.reduceEqDiff]))
 | ((with_reducible apply awY_q); (· exact sQ); (· exact np); (· exact svg); (· rfl); (· exact sv))
 | ((with_reducible apply endQ_rfl))
 | ((with_reducible apply awI_c); (· exact svg); (· rfl); (· rfl); (· exact sv); (· (first | exact cI | exact cR | exact cO)); (· rfl); (· rfl); (· rfl); (· exact nd); simp only [put_some])
 | ((with_reducible apply awY_p); (· exact sH); (first | ((with_reducible apply awP_1); (· decide +kernel)) | ((with_reducible apply awP_2); (· exact sP)))))
  · rfl
  · skip
    repeat' (first
 | ((with_reducible apply awM_ret); (try simp only [CTM, ↓reduceIte, Nat.reduceEqDiff]))
 | (refine KontM.go ‹KontM _ _ _ _ _› _ _ ?_)
 | ((try with_reducible apply wk_id); (with_reducible apply retQ_mk1); (· exact rI); (· exact sv); (· exact sv); (· exact sv); (· exact sv); rotate_left; rotate_left; (· simp); (· rfl)))
    all_goals rfl
end
end Go.Proofs.YtogmppcfopgkdaaGreatDoor
/- Expansions: the environment, the fields of a word, Words, on the abstract machine. -/
namespace Go.Proofs.YtogmppcfopgkdaaGreatDoor
open Go.RowKit
set_option linter.unusedVariables false
set_option linter.unusedSimpArgs false
set_option maxRecDepth 100000
set_option maxHeartbeats 8000000
abbrev fExp : FuncId := 47
abbrev filesA : AV := .rd 1 [az [47], ab true, az []]
/-- A copy of the environment. -/
abbrev enC2 (L : List Vr) : List AV := [az [106, 111, 98, 115, 104, 101, 108, 108], .rd L.length (vrC L), .rd 2 [az [112, 32, 113], az [42]], .rd 0 [], .rd 0 [], .rd 0 [], ai 0, ai 0, ai 0, ai 0, az [47], ai 1, ai 0, ai 0, ab false]
/-- What Words answers. -/
abbrev epC (F : List AV) (L : List Vr) : List AV := [.rd F.length F, az [106, 111, 98, 115, 104, 101, 108, 108], .rd L.length (vrC L), .rd 2 [az [112, 32, 113], az [42]], .rd 0 [], .rd 0 [], .rd 0 [], ai 0, ai 0, ai 0, ai 0, az [47], ai 1, ai 0, ai 0, ab false, ab false, az [], az [], ai (-1)]
section
variable {L L' : List Vr} {msg : List UInt8} {err : Int}
theorem cloneEnv_ab (hL : L.length ≤ 1000) : Ab Tryz.prog 48 [.ag (enC L)] (.ag (enC2 L)) := by
  have c1 := cloneV_ab L hL
  have c2 := cloneS_ab [[112, 32, 113], [42]] (by decide)
  simp only [List.map_cons, List.map_nil, List.length_cons, List.length_nil] at c2
  have h1 := vrC_len L
  refine Fn_of_aw (keep := []) Tryz.func48 rfl rfl (by simp [Tryz.ntmps48]) ?_
  simp only [num_cons, num_nil, Tryz.ntmps48, Tryz.results48]
  repeat' (first
 | ((with_reducible apply awO_ev); (· rfl); (· exact sv))
 | ((with_reducible apply aw_seq); intro _ _)
 | (with_reducible apply aw_region)
 | (with_reducible apply aw_block)
 | ((with_reducible first | apply awO_nil | apply aw_exit | apply aw_skip | apply aw_ret); (try simp only [CT, ↓reduceIte, Nat.reduceEqDiff]))
 | (refine Kont.go ‹Kont _ _ _ _› _ ?_)
 | ((with_reducible apply awO_c); (· rfl); (· rfl); (· exact sv); (· (first | exact c1 | exact c2 | exact cloneA_ab | exact cloneT_ab | exact cloneF_ab)); (· rfl); (· rfl); (· rfl); (· decide)))
  refine aw_loopF (fun j : Nat => [(27, ai j)]) (fun _ => [(1, [az [106, 111, 98, 115, 104, 101, 108, 108], .rd L.length (vrC L), .rd 2 [az [112, 32, 113], az [42]], .rd 0 [], .rd 0 [], .rd 0 [], ai 0, ai 0, ai 0, ai 0, az [47], ai 1, ai 0, ai 0, ab false]), (2, [az [], nilV, nilV, nilV, nilV, nilV, ai 0, ai 0, ai 0, ai 0, az [], ai 0, ai 0, ai 0, ab false])]) (fun j => j ≤ 0) (fun j => 0 - j) 0 (Nat.zero_le _) ?_ ?_ ?_
  · exact ⟨rfl, trivial⟩
  · exact ⟨rfl, rfl, trivial⟩
  rintro j hj
  obtain rfl : j = 0 := by omega
  (simp only [LP, List.append_assoc, List.nil_append, List.cons_append, List.append_nil, List.contains_cons, List.contains_nil, Nat.reduceBEq, Bool.or_false, Bool.or_true, Bool.true_or, Bool.false_or, ↓reduceIte, Bool.false_eq_true])
  exact wkA
theorem finish_ok (F : List AV) (hL : L.length ≤ 1000) : Fn Tryz.prog 23 [.pt 200 0, .rd F.length F, ab true] [(200, xpC L msg err)] (.tp [.ag (epC F L), ai 0]) [(200, xpC L msg err)] [200] := by
  have c1 := cloneEnv_ab hL
  refine Fn_of_aw (keep := [200]) Tryz.func23 rfl rfl (by simp [Tryz.ntmps23]) (aw_wk ?_)
  simp only [num_cons, num_nil, Tryz.ntmps23, Tryz.results23]
  exact wkA
/-- What Words answers if it fails. -/
abbrev epB (msg : List UInt8) : List AV := [nilV, az [], nilV, nilV, nilV, nilV, nilV, ai 0, ai 0, ai 0, ai 0, az [], ai 0, ai 0, ai 0, ab false, ab false, az [], az msg, ai 0]
theorem finish_no : Fn Tryz.prog 23 [.pt 200 0, nilV, ab false] [(200, xpC L msg err)] (.tp [.ag (epB msg), ai err]) [(200, xpC L msg err)] [200] := by
  refine Fn_of_aw (keep := [200]) Tryz.func23 rfl rfl (by simp [Tryz.ntmps23]) (aw_wk ?_)
  simp only [num_cons, num_nil, Tryz.ntmps23, Tryz.results23]
  exact wkA
/-! ### The fields of a word -/
abbrev catA (F : List (List El)) : List AV := F.map fun f => az (cat f)
theorem catA_succ {F : List (List El)} {i : Nat} (h : i < F.length) : catA (F.take (i + 1)) = catA (F.take i) ++ [az (cat F[i])] := by
  unfold catA
  rw [List.take_succ_eq_append_getElem h, List.map_append]; rfl
theorem word_fn {kn : Nat} {kc : List AV} (Rs : List El) (F : List (List El)) (v : Vr) (hL : L'.length ≤ 1000) (hR : Rs.length ≤ 1000) (hRc : (cat Rs).length ≤ 5000)
    (hp : Fn Tryz.prog fParts [.pt 200 0, .rd kn kc, moA false true 0] [(200, xpC L msg err)] (.tp [elsA Rs, ab true]) [(200, xpC L' msg err)] [200])
    (hg : getV L' [73, 70, 83] = some v) (hv : v.st = true) (hF : fieldsOf Rs v.val = F) (hFl : F.length ≤ 500) (hFc : ∀ i (h : i < F.length), F[i].length ≤ 1000 ∧ (cat F[i]).length ≤ 4096)
    (hpe : ∀ i (h : i < F.length), Ab Tryz.prog fExp [filesA, az [47], elsA F[i]] (.tp [.rd 1 [az (cat F[i])], ai 0])) :
    Fn Tryz.prog 21 [.pt 200 0, .ag [ai 0, .rd kn kc]] [(200, xpC L msg err)] (.tp [.rd F.length (catA F), ab true]) [(200, xpC L' msg err)] [200] := by
  have c1 := get_ab L' [73, 70, 83] v hL hg
  have c2 := fields_ab Rs v.val (by omega) (by omega)
  rw [hF] at c2
  have c3 := fun i (h : i < F.length) => text_ab F[i] (by have := hFc i h; omega) (by have := hFc i h; omega)
  clear hF hg
  obtain ⟨vn, vv, vs, ve, vr⟩ := v
  simp only at hv c1 c2
  subst hv
  refine Fn_of_aw (keep := [200]) Tryz.func21 rfl rfl (by simp [Tryz.ntmps21]) (aw_wk ?_)
  simp only [num_cons, num_nil, Tryz.ntmps21, Tryz.results21]
  repeat' (first
 | ((with_reducible apply awO_ev); (· rfl); (· exact sv))
 | ((with_reducible apply aw_seq); intro _ _)
 | (with_reducible apply aw_region)
 | (with_reducible apply aw_block)
 | ((with_reducible first | apply awO_nil | apply aw_exit | apply aw_skip | apply aw_ret); (try simp only [CT, ↓reduceIte, Nat.reduceEqDiff]))
 | ((with_reducible apply awO_y); (· rfl); (· rfl); (· decide); (· exact sv); (· exact sv))
 | ((with_reducible apply aw_cond_true); (· exact sv))
 | ((with_reducible apply aw_cond_false); (· exact sv))
 | (refine Kont.go ‹Kont _ _ _ _› _ ?_)
 | ((with_reducible apply awO_c); (· rfl); (· rfl); (· exact sv); (· (first | exact hp | exact c1 | exact c2)); (· rfl); (· rfl); (· rfl); (· decide))
 | ((with_reducible apply awO_m); (· rfl); (· rfl); (· exact sv); (· (first | exact hp | exact c1 | exact c2)); (· exact svq); (· exact svq); (· exact svq); (· exact svq); (· rfl); (· exact nd); (with_reducible apply awO_st); (· exact svs)))
  clear hp c1 c2
  refine aw_loopF (fun j : Nat => [(50, ai j)]) (fun _ => [(200, xpC L' msg err)]) (fun j => j ≤ F.length) (fun j => F.length - j) 0 (Nat.zero_le _) ?_ ?_ ?_
  · exact ⟨rfl, trivial⟩
  · exact ⟨rfl, trivial⟩
  rintro j hj
  (simp only [LP, List.append_assoc, List.nil_append, List.cons_append, List.append_nil, List.contains_cons, List.contains_nil, Nat.reduceBEq, Bool.or_false, Bool.or_true, Bool.true_or, Bool.false_or, ↓reduceIte, Bool.false_eq_true])
  by_cases hjl : j < F.length
  · have q1 := hFc j hjl
    have c4 := c3 j hjl
    repeat' (first
 | ((with_reducible apply awO_ev); (· rfl); (· exact sv))
 | ((with_reducible apply aw_seq); intro _ _)
 | (with_reducible apply aw_region)
 | (with_reducible apply aw_block)
 | ((with_reducible first | apply awO_nil | apply aw_exit | apply aw_skip | apply aw_ret); (try simp only [CT, ↓reduceIte, Nat.reduceEqDiff]))
 | (refine Kont.go ‹Kont _ _ _ _› _ ?_)
 | ((with_reducible apply awO_c); (· rfl); (· rfl); (· exact sv); (· (first | exact c4)); (· rfl); (· rfl); (· rfl); (· decide))
 | ((first | ((with_reducible apply awO_guardN); (· rfl); (· rfl); (· exact sv); (· exact nB)) | ((with_reducible apply aw_condN); (· exact sv))); (· exact pN); (· exact pN); all_goals (intro hg; try (exfalso; omega))))
    all_goals
      refine LE_mk (j + 1) ?_ ?_ sN sN sN
      · exact hjl
      · omega
  obtain rfl : j = F.length := by omega
  repeat' (first
 | ((with_reducible apply awO_ev); (· rfl); (· exact sv))
 | ((with_reducible apply aw_seq); intro _ _)
 | (with_reducible apply aw_region)
 | (with_reducible apply aw_block)
 | ((with_reducible first | apply awO_nil | apply aw_exit | apply aw_skip | apply aw_ret); (try simp only [CT, ↓reduceIte, Nat.reduceEqDiff]))
 | (refine Kont.go ‹Kont _ _ _ _› _ ?_)
 | ((first | ((with_reducible apply awO_guardN); (· rfl); (· rfl); (· exact sv); (· exact nB)) | ((with_reducible apply aw_condN); (· exact sv))); (· exact pN); (· exact pN); all_goals (intro hg; try (exfalso; omega))))
  refine aw_virt 14 100 1 rfl (by omega) (by simp) ?_
  refine aw_st svs ?_
  refine aw_loopF (fun i : Nat => [(63, ai i), (14, .os 100 0 1 i)]) (fun i => [(100, catA (F.take i)), (200, xpC L' msg err)]) (fun i => i ≤ F.length) (fun i => F.length - i) 0 (Nat.zero_le _) ?_ ?_ ?_
  · exact ⟨rfl, rfl, trivial⟩
  · exact ⟨rfl, rfl, trivial⟩
  rintro i hi
  (simp only [LP, List.append_assoc, List.nil_append, List.cons_append, List.append_nil, List.contains_cons, List.contains_nil, Nat.reduceBEq, Bool.or_false, Bool.or_true, Bool.true_or, Bool.false_or, ↓reduceIte, Bool.false_eq_true])
  have hlen : (F.take i).length = i := by rw [List.length_take]; omega
  by_cases hil : i < F.length
  · have c5 := hpe i hil
    have e1 := catA_succ hil
    repeat' (first
 | ((with_reducible apply awO_ev); (· rfl); (· exact sv))
 | ((with_reducible apply aw_seq); intro _ _)
 | (with_reducible apply aw_region)
 | (with_reducible apply aw_block)
 | ((with_reducible first | apply awO_nil | apply aw_exit | apply aw_skip | apply aw_ret); (try simp only [CT, ↓reduceIte, Nat.reduceEqDiff]))
 | ((with_reducible apply aw_cond_false); (· exact sv))
 | (refine Kont.go ‹Kont _ _ _ _› _ ?_)
 | ((with_reducible apply aw_draw); (· decide +kernel); (simp only [List.size_toArray, List.length_cons, List.length_nil, Nat.reduceAdd]))
 | ((with_reducible apply awY_done); (· decide +kernel); (try simp only [CT, ↓reduceIte, Nat.reduceEqDiff]))
 | ((with_reducible apply awY_q); (· exact sQ); (· exact np); (· exact svg); (· rfl); (· exact sv))
 | ((with_reducible apply awI_c); (· exact svg); (· rfl); (· rfl); (· exact sv); (· (first | exact c5)); (· rfl); (· rfl); (· rfl); (· exact nd); simp only [put_some])
 | ((first | ((with_reducible apply awO_guardN); (· rfl); (· rfl); (· exact sv); (· exact nB)) | ((with_reducible apply aw_condN); (· exact sv))); (· exact pN); (· exact pN); all_goals (intro hg; try (exfalso; omega)))
 | ((with_reducible apply awY_p); (· exact sH); (first | ((with_reducible apply awP_1); (· decide +kernel)) | ((with_reducible apply awP_2); (· exact sP)))))
    all_goals
      refine LE_mk (i + 1) ?_ ?_ ?_ sN ?_
      · exact hil
      · omega
      · exact ⟨rfl, rfl, trivial⟩
      · refine ⟨?_, rfl, trivial⟩
        show some _ = some _
        rw [e1]
  · obtain rfl : i = F.length := by omega
    rw [List.take_length]
    exact wkA
end
end Go.Proofs.YtogmppcfopgkdaaGreatDoor
/- Expansions: Words, on the abstract machine. -/
namespace Go.Proofs.YtogmppcfopgkdaaGreatDoor
open Go.RowKit
set_option linter.unusedVariables false
set_option linter.unusedSimpArgs false
set_option maxRecDepth 100000
set_option maxHeartbeats 8000000
abbrev fWord : FuncId := 21
section
variable {L L' : List Vr} {msg msg' : List UInt8} {err err' : Int}
theorem azs_okC (C : List (List UInt8)) : (C.map az).all okC = true := by
  rw [List.all_eq_true]
  intro x hx
  obtain ⟨v, _, rfl⟩ := List.mem_map.1 hx
  rfl
theorem azs_free (k : Nat) (C : List (List UInt8)) : freeOf k (C.map az) = true := by
  unfold freeOf
  rw [List.all_eq_true]
  intro x hx
  obtain ⟨v, _, rfl⟩ := List.mem_map.1 hx
  rfl
theorem azs_data (C : List (List UInt8)) : (C.map az).all dataC = true := by
  rw [List.all_eq_true]
  intro x hx
  obtain ⟨v, _, rfl⟩ := List.mem_map.1 hx
  rfl
theorem all_sub2 {α : Type} {p : α → Bool} {l : List α} (h : l.all p = true) (i n : Nat) : ((l.drop i).take n).all p = true := by
  rw [List.all_eq_true] at h ⊢
  exact fun x hx => h x (List.mem_of_mem_drop (List.mem_of_mem_take hx))
def pick2 {α : Type} (a b : α) : Nat → α
  | 0 => a
  | _ + 1 => b
theorem words_ok {kn : Nat} {kc : List AV} (C : List (List UInt8)) (hC : C.length ≤ 500) (hL : L'.length ≤ 1000)
    (hw : Fn Tryz.prog fWord [.pt 200 0, .ag [ai 0, .rd kn kc]] [(200, xpC L [] 0)] (.tp [.rd C.length (C.map az), ab true]) [(200, xpC L' [] 0)] [200]) :
    Ab Tryz.prog 9 [.ag (enC L), filesA, .rd 1 [ai 0, .rd kn kc], nilV] (.tp [.ag (epC (C.map az) L'), ai 0]) := by
  have c1 := start_fn (L := L)
  have c3 := finish_ok (L := L') (msg := []) (err := 0) (C.map az) hL
  have q1 := azs_okC C
  have q2 := azs_free 100 C
  have q3 : (C.map az).length = C.length := List.length_map _
  refine Fn_of_aw (keep := []) Tryz.func9 rfl rfl (by simp [Tryz.ntmps9]) ?_
  simp only [num_cons, num_nil, Tryz.ntmps9, Tryz.results9]
  repeat' (first
 | ((with_reducible apply awO_ev); (· rfl); (· exact sv))
 | ((with_reducible apply aw_seq); intro _ _)
 | (with_reducible apply aw_region)
 | (with_reducible apply aw_block)
 | ((with_reducible first | apply awO_nil | apply aw_exit | apply aw_skip | apply aw_ret); (try simp only [CT, ↓reduceIte, Nat.reduceEqDiff]))
 | (refine Kont.go ‹Kont _ _ _ _› _ ?_)
 | ((with_reducible apply awO_m); (· rfl); (· rfl); (· exact sv); (· (first | exact c1)); (· exact svq); (· exact svq); (· exact svq); (· exact svq); (· rfl); (· exact nd); (with_reducible apply awO_st); (· exact svs)))
  refine aw_virt 11 100 1 rfl (by omega) (by simp) ?_
  refine aw_st svs ?_
  refine aw_loopF (fun j : Nat => [(22, ai j), (11, .os 100 0 1 (pick2 0 C.length j))]) (fun j => [(100, pick2 [] (C.map az) j), (200, xpC (pick2 L L' j) [] 0), (8, [nilV, az [], nilV, nilV, nilV, nilV, nilV, ai 0, ai 0, ai 0, ai 0, az [], ai 0, ai 0, ai 0, ab false, ab false, az [], az [], ai 0])]) (fun j => j ≤ 1) (fun j => 1 - j) 0 (Nat.zero_le _) ?_ ?_ ?_
  · exact ⟨rfl, rfl, trivial⟩
  · exact ⟨rfl, rfl, rfl, trivial⟩
  rintro j hj
  (simp only [LP, List.append_assoc, List.nil_append, List.cons_append, List.append_nil, List.contains_cons, List.contains_nil, Nat.reduceBEq, Bool.or_false, Bool.or_true, Bool.true_or, Bool.false_or, ↓reduceIte, Bool.false_eq_true])
  by_cases hj0 : j = 0
  · subst hj0
    simp only [pick2]
    clear c3
    repeat' (first
 | ((with_reducible apply awO_ev); (· rfl); (· exact sv))
 | ((with_reducible apply aw_seq); intro _ _)
 | (with_reducible apply aw_region)
 | (with_reducible apply aw_block)
 | ((with_reducible first | apply awO_nil | apply aw_exit | apply aw_skip | apply aw_ret); (try simp only [CT, ↓reduceIte, Nat.reduceEqDiff]))
 | ((with_reducible apply awO_y); (· rfl); (· rfl); (· decide); (· exact sv); (· exact sv))
 | ((with_reducible apply aw_cond_true); (· exact sv))
 | ((with_reducible apply aw_cond_false); (· exact sv))
 | (refine Kont.go ‹Kont _ _ _ _› _ ?_)
 | ((with_reducible apply awO_m); (· rfl); (· rfl); (· exact sv); (· (first | exact hw)); (· exact svq); (· exact svq); (· exact svq); (· exact svq); (· rfl); (· exact nd); (with_reducible apply awO_st); (· exact svs))
 | ((first | ((with_reducible apply awO_guardN); (· rfl); (· rfl); (· exact sv); (· exact nB)) | ((with_reducible apply aw_condN); (· exact sv))); (· exact pN); (· exact pN); all_goals (intro hg; try (exfalso; omega))))
    all_goals
      refine LE_mk 1 ?_ ?_ ?_ sN ?_
      · omega
      · omega
      · exact ⟨rfl, rfl, trivial⟩
      · exact ⟨rfl, rfl, rfl, trivial⟩
  obtain rfl : j = 1 := by omega
  simp only [pick2]
  rw [q3] at c3
  refine aw_pub 11 100 (off := 0) (sz := 1) (n := C.length) (cs := C.map az) rfl rfl ?_ ?_ ?_
  · omega
  · exact all_sub2 (azs_data C) _ _
  rw [show ((C.map az).drop 0).take (C.length * 1) = C.map az from by rw [List.drop_zero, Nat.mul_one, ← q3, List.take_length]]
  refine aw_st svs ?_
  exact wkA
/-- A part that fails: so do the parts. -/
theorem parts_bad {q f : Bool} {c : Int} (p : Pt) (hp : Fn Tryz.prog fPart [.pt 200 0, .ag (ptCs p), moA q f c] [(200, xpC L msg err)] (.tp [nilV, ab false]) [(200, xpC L' msg' err')] [200]) :
    Fn Tryz.prog fParts [.pt 200 0, .rd 1 (ptC [p]), moA q f c] [(200, xpC L msg err)] (.tp [nilV, ab false]) [(200, xpC L' msg' err')] [200] := by
  simp only [ptC, List.flatMap_cons, List.flatMap_nil, List.append_nil]
  refine Fn_of_aw (keep := [200]) Tryz.func44 rfl rfl (by simp [Tryz.ntmps44]) (aw_wk ?_)
  simp only [num_cons, num_nil, Tryz.ntmps44, Tryz.results44]
  repeat' (first
 | ((with_reducible apply awO_ev); (· rfl); (· exact sv))
 | ((with_reducible apply aw_seq); intro _ _)
 | (with_reducible apply aw_region)
 | (with_reducible apply aw_block)
 | ((with_reducible first | apply awO_nil | apply aw_exit | apply aw_skip | apply aw_ret); (try simp only [CT, ↓reduceIte, Nat.reduceEqDiff]))
 | (refine Kont.go ‹Kont _ _ _ _› _ ?_))
  refine aw_loopF (fun i : Nat => [(18, ai i)]) (fun i => [(5, [ab q, ab f, ai c]), (200, xpC L msg err)]) (fun i => i ≤ 0) (fun i => 1 - i) 0 (Nat.zero_le _) ?_ ?_ ?_
  · exact ⟨rfl, trivial⟩
  · exact ⟨rfl, rfl, trivial⟩
  rintro i hi
  obtain rfl : i = 0 := by omega
  (simp only [LP, List.append_assoc, List.nil_append, List.cons_append, List.append_nil, List.contains_cons, List.contains_nil, Nat.reduceBEq, Bool.or_false, Bool.or_true, Bool.true_or, Bool.false_or, ↓reduceIte, Bool.false_eq_true])
  exact wkD
theorem word_bad {kn : Nat} {kc : List AV} (hp : Fn Tryz.prog fParts [.pt 200 0, .rd kn kc, moA false true 0] [(200, xpC L msg err)] (.tp [nilV, ab false]) [(200, xpC L' msg' err')] [200]) :
    Fn Tryz.prog fWord [.pt 200 0, .ag [ai 0, .rd kn kc]] [(200, xpC L msg err)] (.tp [nilV, ab false]) [(200, xpC L' msg' err')] [200] := by
  refine Fn_of_aw (keep := [200]) Tryz.func21 rfl rfl (by simp [Tryz.ntmps21]) (aw_wk ?_)
  simp only [num_cons, num_nil, Tryz.ntmps21, Tryz.results21]
  exact wkA
theorem words_bad {kn : Nat} {kc : List AV} (hw : Fn Tryz.prog fWord [.pt 200 0, .ag [ai 0, .rd kn kc]] [(200, xpC L [] 0)] (.tp [nilV, ab false]) [(200, xpC L' msg' err')] [200]) :
    Ab Tryz.prog 9 [.ag (enC L), filesA, .rd 1 [ai 0, .rd kn kc], nilV] (.tp [.ag (epB msg'), ai err']) := by
  have c1 := start_fn (L := L)
  have c3 := finish_no (L := L') (msg := msg') (err := err')
  refine Fn_of_aw (keep := []) Tryz.func9 rfl rfl (by simp [Tryz.ntmps9]) ?_
  simp only [num_cons, num_nil, Tryz.ntmps9, Tryz.results9]
  repeat' (first
 | ((with_reducible apply awO_ev); (· rfl); (· exact sv))
 | ((with_reducible apply aw_seq); intro _ _)
 | (with_reducible apply aw_region)
 | (with_reducible apply aw_block)
 | ((with_reducible first | apply awO_nil | apply aw_exit | apply aw_skip | apply aw_ret); (try simp only [CT, ↓reduceIte, Nat.reduceEqDiff]))
 | (refine Kont.go ‹Kont _ _ _ _› _ ?_)
 | ((with_reducible apply awO_m); (· rfl); (· rfl); (· exact sv); (· (first | exact c1)); (· exact svq); (· exact svq); (· exact svq); (· exact svq); (· rfl); (· exact nd); (with_reducible apply awO_st); (· exact svs)))
  refine aw_loopF (fun j : Nat => [(22, ai j)]) (fun j => [(200, xpC L [] 0), (8, [nilV, az [], nilV, nilV, nilV, nilV, nilV, ai 0, ai 0, ai 0, ai 0, az [], ai 0, ai 0, ai 0, ab false, ab false, az [], az [], ai 0])]) (fun j => j ≤ 0) (fun j => 1 - j) 0 (Nat.zero_le _) ?_ ?_ ?_
  · exact ⟨rfl, trivial⟩
  · exact ⟨rfl, rfl, trivial⟩
  rintro j hj
  obtain rfl : j = 0 := by omega
  (simp only [LP, List.append_assoc, List.nil_append, List.cons_append, List.append_nil, List.contains_cons, List.contains_nil, Nat.reduceBEq, Bool.or_false, Bool.or_true, Bool.true_or, Bool.false_or, ↓reduceIte, Bool.false_eq_true])
  exact wkA
end
end Go.Proofs.YtogmppcfopgkdaaGreatDoor
