/- Arithmetic expressions: depth, Valid, on the abstract machine. -/
import Derived.Test.YtogmppcfopgkdaaGreatDoorCaH
import Derived.Test.YtogmppcfopgkdaaGreatDoorCbB
namespace Go.Proofs.YtogmppcfopgkdaaGreatDoor
open Go.RowKit
set_option linter.unusedVariables false
set_option linter.unusedSimpArgs false
set_option maxRecDepth 100000
set_option maxHeartbeats 8000000
def opE : Ex → Int
  | .mk op _ _ _ => op
def nE : Ex → Int
  | .mk _ n _ _ => n
def nmE : Ex → List UInt8
  | .mk _ _ nm _ => nm
def ksE : Ex → List Ex
  | .mk _ _ _ ks => ks
theorem exC_eta (e : Ex) : exC e = [ai (opE e), ai (nE e), az (nmE e), .rd (ksE e).length (exCs (ksE e))] := by cases e; rw [exC_mk]; rfl
theorem exCs_flat (ks : List Ex) : exCs ks = ks.flatMap fun e => [ai (opE e), ai (nE e), az (nmE e), .rd (ksE e).length (exCs (ksE e))] := by
  induction ks with
  | nil => rw [exCs_nil]; rfl
  | cons e r ih => rw [exCs_cons, exC_eta, ih]; rfl
theorem szE_pos (e : Ex) : 0 < szE e := by cases e; rw [szE]; omega
theorem szEs_get : ∀ (ks : List Ex) (i : Nat) (h : i < ks.length), szE ks[i] ≤ szEs ks
  | e :: r, 0, h => by rw [szEs]; simp only [List.getElem_cons_zero]; omega
  | e :: r, i + 1, h => by have := szEs_get r i (by simpa using h); rw [szEs]; simp only [List.getElem_cons_succ]; omega
theorem szEs_len : ∀ ks : List Ex, ks.length ≤ szEs ks
  | [] => by rw [szEs]; exact Nat.le_refl _
  | e :: r => by have := szEs_len r; have := szE_pos e; rw [szEs, List.length_cons]; omega
theorem dpEs_get : ∀ (ks : List Ex) (i : Nat) (h : i < ks.length), dpE ks[i] ≤ dpEs ks
  | e :: r, 0, h => by rw [dpEs]; simp only [List.getElem_cons_zero]; omega
  | e :: r, i + 1, h => by have := dpEs_get r i (by simpa using h); rw [dpEs]; simp only [List.getElem_cons_succ]; omega
mutual
theorem dpE_sz : ∀ e : Ex, dpE e ≤ szE e
  | .mk op n nm ks => by have := dpEs_sz ks; rw [dpE, szE]; omega
theorem dpEs_sz : ∀ ks : List Ex, dpEs ks ≤ szEs ks
  | [] => by rw [dpEs, szEs]; exact Nat.le_refl _
  | e :: r => by have := dpE_sz e; have := dpEs_sz r; rw [dpEs, szEs]; omega
end
theorem depth_ab : ∀ (N : Nat) (e : Ex), szE e ≤ N → szE e ≤ 1000000 → Ab Tryz.prog 34 [exA e] (ai (dpE e : Nat))
  | 0, e, h, _ => absurd (szE_pos e) (by omega)
  | N + 1, .mk op n nm ks, h, h6 => by
    have ih := depth_ab N
    rw [szE] at h h6
    have hln := szEs_len ks
    have hds := dpEs_sz ks
    rw [dpE]
    simp only [exA, exC_mk]
    rw [exCs_flat ks]
    generalize hM : dpEs ks = M at *
    refine Fn_of_aw (keep := []) Tryz.func34 rfl rfl (by simp [Tryz.ntmps34]) ?_
    simp only [num_cons, num_nil, Tryz.ntmps34, Tryz.results34]
    repeat' (first
 | ((with_reducible apply awO_ev); (· rfl); (· exact sv))
 | ((with_reducible apply aw_seq); intro _ _)
 | (with_reducible apply aw_region)
 | (with_reducible apply aw_block)
 | ((with_reducible first | apply awO_nil | apply aw_exit | apply aw_skip | apply aw_ret); (try simp only [CT, ↓reduceIte, Nat.reduceEqDiff]))
 | (refine Kont.go ‹Kont _ _ _ _› _ ?_))
    refine aw_loopF (fun x : Nat × Nat => [(9, ai x.1), (3, ai x.2)]) (fun _ => []) (fun x => x.1 ≤ ks.length ∧ max x.2 (dpEs (ks.drop x.1)) = M) (fun x => ks.length - x.1) (0, 0) ⟨Nat.zero_le _, by simpa using hM⟩ ?_ ?_ ?_
    · exact ⟨rfl, rfl, trivial⟩
    · exact trivial
    rintro ⟨i, m⟩ ⟨hi, hI⟩
    simp only at hi hI
    (simp only [LP, List.append_assoc, List.nil_append, List.cons_append, List.append_nil, List.contains_cons, List.contains_nil, Nat.reduceBEq, Bool.or_false, Bool.or_true, Bool.true_or, Bool.false_or, ↓reduceIte, Bool.false_eq_true])
    by_cases hil : i < ks.length
    rotate_left
    · rw [List.drop_eq_nil_of_le (by omega), dpEs] at hI
      obtain rfl : m = M := by omega
      exact wkA
    have g1 := szEs_get ks i hil
    have g2 := dpEs_get ks i hil
    have c1 := ih ks[i] (by omega) (by omega)
    rw [List.drop_eq_getElem_cons hil, dpEs] at hI
    simp only [exA, exC_eta] at c1
    generalize hdk : dpE ks[i] = dk at *
    clear ih
    by_cases hmd : m < dk
    · skip
      repeat' (first
 | ((with_reducible apply awO_ev); (· rfl); (· exact sv))
 | ((with_reducible apply aw_seq); intro _ _)
 | (with_reducible apply aw_region)
 | (with_reducible apply aw_block)
 | ((with_reducible first | apply awO_nil | apply aw_exit | apply aw_skip | apply aw_ret); (try simp only [CT, ↓reduceIte, Nat.reduceEqDiff]))
 | (refine Kont.go ‹Kont _ _ _ _› _ ?_)
 | ((with_reducible apply awO_c); (· rfl); (· rfl); (· exact sv); (· (first | exact c1)); (· rfl); (· rfl); (· rfl); (· decide))
 | ((first | ((with_reducible apply awO_guardN); (· rfl); (· rfl); (· exact sv); (· exact nB)) | ((with_reducible apply aw_condN); (· exact sv))); (· exact pN); (· exact pN); all_goals (intro hg; try (exfalso; omega))))
      all_goals
        refine LE_mk ((i + 1, dk)) ?_ ?_ sN sN sN
        · exact ⟨hil, by show max dk (dpEs (ks.drop (i + 1))) = M; rw [← hI]; omega⟩
        · show _ - (i + 1) < _ - i
          omega
    · skip
      repeat' (first
 | ((with_reducible apply awO_ev); (· rfl); (· exact sv))
 | ((with_reducible apply aw_seq); intro _ _)
 | (with_reducible apply aw_region)
 | (with_reducible apply aw_block)
 | ((with_reducible first | apply awO_nil | apply aw_exit | apply aw_skip | apply aw_ret); (try simp only [CT, ↓reduceIte, Nat.reduceEqDiff]))
 | (refine Kont.go ‹Kont _ _ _ _› _ ?_)
 | ((with_reducible apply awO_c); (· rfl); (· rfl); (· exact sv); (· (first | exact c1)); (· rfl); (· rfl); (· rfl); (· decide))
 | ((first | ((with_reducible apply awO_guardN); (· rfl); (· rfl); (· exact sv); (· exact nB)) | ((with_reducible apply aw_condN); (· exact sv))); (· exact pN); (· exact pN); all_goals (intro hg; try (exfalso; omega))))
      all_goals
        refine LE_mk ((i + 1, m)) ?_ ?_ sN sN sN
        · exact ⟨hil, by show max m (dpEs (ks.drop (i + 1))) = M; rw [← hI]; omega⟩
        · show _ - (i + 1) < _ - i
          omega
/-- What the loop in describe looks at from j on. -/
def dscJ (op : Int) (j : Nat) : Option (List UInt8 × Int × Int) := (binL.drop j).find? fun o => decide (o.2.2 = op)
theorem dscJ_end {op : Int} {j : Nat} (h : 18 ≤ j) : dscJ op j = none := by
  unfold dscJ
  rw [List.drop_eq_nil_of_le (by rw [binL_len]; exact h)]
  rfl
theorem dscJ_yes {op : Int} {j : Nat} (h : j < binL.length) (h1 : binL[j].2.2 = op) : dscJ op j = some binL[j] := by
  unfold dscJ
  rw [List.drop_eq_getElem_cons h, List.find?_cons_of_pos (by rw [decide_eq_true h1])]
theorem dscJ_no {op : Int} {j : Nat} (h : j < binL.length) (h1 : ¬ binL[j].2.2 = op) : dscJ op j = dscJ op (j + 1) := by
  unfold dscJ
  rw [List.drop_eq_getElem_cons h, List.find?_cons_of_neg]
  simpa only [decide_eq_true_eq] using h1
theorem describe_bin (op : Int) (h7 : 7 ≤ op) (h24 : op ≤ 24) : ∃ lv sy, 3 ≤ lv ∧ lv ≤ 12 ∧ Ab Tryz.prog 100 [ai op] (.tp [ai lv, az sy]) := by
  have hs : ∃ q, dscJ op 0 = some q ∧ 3 ≤ q.2.1 ∧ q.2.1 ≤ 12 := by
    have hop : op = 7 ∨ op = 8 ∨ op = 9 ∨ op = 10 ∨ op = 11 ∨ op = 12 ∨ op = 13 ∨ op = 14 ∨ op = 15 ∨ op = 16 ∨ op = 17 ∨ op = 18 ∨ op = 19 ∨ op = 20 ∨ op = 21 ∨ op = 22 ∨ op = 23 ∨ op = 24 := by omega
    rcases hop with rfl | rfl | rfl | rfl | rfl | rfl | rfl | rfl | rfl | rfl | rfl | rfl | rfl | rfl | rfl | rfl | rfl | rfl <;> exact ⟨_, rfl, by decide, by decide⟩
  obtain ⟨q, hq, q1, q2⟩ := hs
  refine ⟨q.2.1, q.1, q1, q2, ?_⟩
  clear q1 q2
  have c3 := binaries_ab
  refine Fn_of_aw (keep := []) Tryz.func100 rfl rfl (by simp [Tryz.ntmps100]) ?_
  simp only [num_cons, num_nil, Tryz.ntmps100, Tryz.results100]
  repeat' (first
 | ((with_reducible apply awO_ev); (· rfl); (· exact sv))
 | ((with_reducible apply aw_seq); intro _ _)
 | (with_reducible apply aw_region)
 | (with_reducible apply aw_block)
 | ((with_reducible first | apply awO_nil | apply aw_exit | apply aw_skip | apply aw_ret); (try simp only [CT, ↓reduceIte, Nat.reduceEqDiff]))
 | (refine Kont.go ‹Kont _ _ _ _› _ ?_)
 | ((with_reducible apply awO_c); (· rfl); (· rfl); (· exact sv); (· (first | exact c3)); (· rfl); (· rfl); (· rfl); (· decide))
 | ((first | ((with_reducible apply awO_guardN); (· rfl); (· rfl); (· exact sv); (· exact nB)) | ((with_reducible apply aw_condN); (· exact sv))); (· exact pN); (· exact pN); all_goals (intro hg; try (exfalso; omega))))
  refine aw_loopF (fun j : Nat => [(24, ai j)]) (fun _ => []) (fun j => j ≤ 18 ∧ dscJ op j = some q) (fun j => 18 - j) 0 ⟨Nat.zero_le _, hq⟩ ?_ ?_ ?_
  · exact ⟨rfl, trivial⟩
  · exact trivial
  rintro j ⟨hj, hJ⟩
  clear hq c3
  (simp only [LP, List.append_assoc, List.nil_append, List.cons_append, List.append_nil, List.contains_cons, List.contains_nil, Nat.reduceBEq, Bool.or_false, Bool.or_true, Bool.true_or, Bool.false_or, ↓reduceIte, Bool.false_eq_true])
  by_cases hjl : j < binL.length
  rotate_left
  · rw [dscJ_end (by rw [binL_len] at hjl; omega)] at hJ
    cases hJ
  have hj18 : j < 18 := hjl
  by_cases e1 : binL[j].2.2 = op
  · rw [dscJ_yes hjl e1] at hJ
    injection hJ with hJ
    subst hJ
    exact wkA
  · rw [dscJ_no hjl e1] at hJ
    exact wq3
theorem describe_1 : Ab Tryz.prog 100 [ai 1] (.tp [ai 14, az []]) := by
  refine Fn_of_aw (keep := []) Tryz.func100 rfl rfl (by simp [Tryz.ntmps100]) ?_
  simp only [num_cons, num_nil, Tryz.ntmps100, Tryz.results100]
  exact wkA
theorem describe_2 : Ab Tryz.prog 100 [ai 2] (.tp [ai 14, az []]) := by
  refine Fn_of_aw (keep := []) Tryz.func100 rfl rfl (by simp [Tryz.ntmps100]) ?_
  simp only [num_cons, num_nil, Tryz.ntmps100, Tryz.results100]
  exact wkA
theorem describe_3 : Ab Tryz.prog 100 [ai 3] (.tp [ai 13, az [45]]) := by
  refine Fn_of_aw (keep := []) Tryz.func100 rfl rfl (by simp [Tryz.ntmps100]) ?_
  simp only [num_cons, num_nil, Tryz.ntmps100, Tryz.results100]
  exact wkA
theorem describe_4 : Ab Tryz.prog 100 [ai 4] (.tp [ai 13, az [43]]) := by
  refine Fn_of_aw (keep := []) Tryz.func100 rfl rfl (by simp [Tryz.ntmps100]) ?_
  simp only [num_cons, num_nil, Tryz.ntmps100, Tryz.results100]
  exact wkA
theorem describe_5 : Ab Tryz.prog 100 [ai 5] (.tp [ai 13, az [33]]) := by
  refine Fn_of_aw (keep := []) Tryz.func100 rfl rfl (by simp [Tryz.ntmps100]) ?_
  simp only [num_cons, num_nil, Tryz.ntmps100, Tryz.results100]
  exact wkA
theorem describe_6 : Ab Tryz.prog 100 [ai 6] (.tp [ai 13, az [126]]) := by
  refine Fn_of_aw (keep := []) Tryz.func100 rfl rfl (by simp [Tryz.ntmps100]) ?_
  simp only [num_cons, num_nil, Tryz.ntmps100, Tryz.results100]
  exact wkA
theorem describe_25 : Ab Tryz.prog 100 [ai 25] (.tp [ai 2, az [63]]) := by
  refine Fn_of_aw (keep := []) Tryz.func100 rfl rfl (by simp [Tryz.ntmps100]) ?_
  simp only [num_cons, num_nil, Tryz.ntmps100, Tryz.results100]
  exact wkA
theorem describe_26 : Ab Tryz.prog 100 [ai 26] (.tp [ai 1, az [61]]) := by
  refine Fn_of_aw (keep := []) Tryz.func100 rfl rfl (by simp [Tryz.ntmps100]) ?_
  simp only [num_cons, num_nil, Tryz.ntmps100, Tryz.results100]
  exact wkA
/-- The kids of a tree that the parser makes are such trees. -/
theorem Wf.kids {op n : Int} {nm : List UInt8} {ks : List Ex} (h : Wf (.mk op n nm ks)) : ∀ k ∈ ks, Wf k := by
  cases h with
  | num => simp
  | var => simp
  | un _ _ ha => simpa using ha
  | bin _ _ ha hb => simpa using ⟨ha, hb⟩
  | cnd ha hb hc => simpa using ⟨ha, hb, hc⟩
  | set _ _ _ _ ha => simpa using ha
theorem Wf.facts {op n : Int} {nm : List UInt8} {ks : List Ex} (h : Wf (.mk op n nm ks)) : (op = 1 ∧ 0 ≤ n ∧ nm = [] ∧ ks.length = 0) ∨ (op = 2 ∧ n = 0 ∧ nmB nm = true ∧ ks.length = 0) ∨ (3 ≤ op ∧ op ≤ 6 ∧ n = 0 ∧ nm = [] ∧ ks.length = 1) ∨
    (7 ≤ op ∧ op ≤ 24 ∧ n = 0 ∧ nm = [] ∧ ks.length = 2) ∨ (op = 25 ∧ n = 0 ∧ nm = [] ∧ ks.length = 3) ∨ (op = 26 ∧ (n = 0 ∨ cmpB n = true) ∧ nmB nm = true ∧ ks.length = 1) := by
  cases h with
  | num _ h0 h1 => exact .inl ⟨rfl, h0, rfl, rfl⟩
  | var _ h => exact .inr (.inl ⟨rfl, rfl, h, rfl⟩)
  | un _ h ha => exact .inr (.inr (.inl ⟨h.1, h.2, rfl, rfl, rfl⟩))
  | bin _ h ha hb => exact .inr (.inr (.inr (.inl ⟨h.1, h.2, rfl, rfl, rfl⟩)))
  | cnd ha hb hc => exact .inr (.inr (.inr (.inr (.inl ⟨rfl, rfl, rfl, rfl⟩))))
  | set _ h _ hn ha => exact .inr (.inr (.inr (.inr (.inr ⟨rfl, h, hn, rfl⟩))))
theorem valid_ab : ∀ (N : Nat) (e : Ex) (b : Nat) (z : Int), z = b → Wf e → szE e ≤ N → dpE e + b ≤ 32 → Ab Tryz.prog 62 [exA e, ai z] (ai 0)
  | 0, e, b, z, _, _, h, _ => absurd (szE_pos e) (by omega)
  | N + 1, .mk op n nm ks, b, z, hz, hw, h, hd => by
    have ih := valid_ab N
    have hkw := hw.kids
    have hln := szEs_len ks
    have hds := dpEs_sz ks
    rw [szE] at h
    rw [dpE] at hd
    subst hz
    simp only [exA, exC_mk]
    rw [exCs_flat ks]
    have hb32 : b < 32 := by omega
    rcases hw.facts with ⟨rfl, h0, rfl, hkl⟩ | ⟨rfl, rfl, hnm, hkl⟩ | ⟨h3, h6, rfl, rfl, hkl⟩ | ⟨h7, h24, rfl, rfl, hkl⟩ | ⟨rfl, rfl, rfl, hkl⟩ | ⟨rfl, hn, hnm, hkl⟩
    · clear hw
      have d1 := describe_1
      refine Fn_of_aw (keep := []) Tryz.func62 rfl rfl (by simp [Tryz.ntmps62]) ?_
      simp only [num_cons, num_nil, Tryz.ntmps62, Tryz.results62]
      exact wq7
    · clear hw
      have c8 := name_ab nm (by have := hnm; unfold nmB at this; simp only [Bool.and_eq_true, decide_eq_true_eq] at this; omega)
      rw [hnm] at c8
      have hne : ¬ nm = [] := fun h => by subst h; cases hnm
      have hnl : ¬ nm.length = 0 := fun h => hne (List.length_eq_zero_iff.1 h)
      have hnp : 0 < nm.length := by omega
      have d1 := describe_2
      refine Fn_of_aw (keep := []) Tryz.func62 rfl rfl (by simp [Tryz.ntmps62]) ?_
      simp only [num_cons, num_nil, Tryz.ntmps62, Tryz.results62]
      exact wq8
    · clear hw
      obtain rfl | rfl | rfl | rfl : op = 3 ∨ op = 4 ∨ op = 5 ∨ op = 6 := by omega
      · have d1 := describe_3
        refine Fn_of_aw (keep := []) Tryz.func62 rfl rfl (by simp [Tryz.ntmps62]) ?_
        simp only [num_cons, num_nil, Tryz.ntmps62, Tryz.results62]
        exact wq7
      · have d1 := describe_4
        refine Fn_of_aw (keep := []) Tryz.func62 rfl rfl (by simp [Tryz.ntmps62]) ?_
        simp only [num_cons, num_nil, Tryz.ntmps62, Tryz.results62]
        exact wq7
      · have d1 := describe_5
        refine Fn_of_aw (keep := []) Tryz.func62 rfl rfl (by simp [Tryz.ntmps62]) ?_
        simp only [num_cons, num_nil, Tryz.ntmps62, Tryz.results62]
        exact wq7
      · have d1 := describe_6
        refine Fn_of_aw (keep := []) Tryz.func62 rfl rfl (by simp [Tryz.ntmps62]) ?_
        simp only [num_cons, num_nil, Tryz.ntmps62, Tryz.results62]
        exact wq7
    · clear hw
      obtain ⟨lv, sy, l3, l12, d1⟩ := describe_bin op h7 h24
      refine Fn_of_aw (keep := []) Tryz.func62 rfl rfl (by simp [Tryz.ntmps62]) ?_
      simp only [num_cons, num_nil, Tryz.ntmps62, Tryz.results62]
      exact wq7
    · clear hw
      have d1 := describe_25
      refine Fn_of_aw (keep := []) Tryz.func62 rfl rfl (by simp [Tryz.ntmps62]) ?_
      simp only [num_cons, num_nil, Tryz.ntmps62, Tryz.results62]
      exact wq7
    · clear hw
      by_cases hn0 : n = 0
      · subst hn0
        have c8 := name_ab nm (by have := hnm; unfold nmB at this; simp only [Bool.and_eq_true, decide_eq_true_eq] at this; omega)
        rw [hnm] at c8
        have hne : ¬ nm = [] := fun h => by subst h; cases hnm
        have hnl : ¬ nm.length = 0 := fun h => hne (List.length_eq_zero_iff.1 h)
        have hnp : 0 < nm.length := by omega
        have d1 := describe_26
        refine Fn_of_aw (keep := []) Tryz.func62 rfl rfl (by simp [Tryz.ntmps62]) ?_
        simp only [num_cons, num_nil, Tryz.ntmps62, Tryz.results62]
        exact wq8
      · have hn := hn.resolve_left hn0
        have c8 := name_ab nm (by have := hnm; unfold nmB at this; simp only [Bool.and_eq_true, decide_eq_true_eq] at this; omega)
        rw [hnm] at c8
        have hne : ¬ nm = [] := fun h => by subst h; cases hnm
        have hnl : ¬ nm.length = 0 := fun h => hne (List.length_eq_zero_iff.1 h)
        have hnp : 0 < nm.length := by omega
        have d1 := describe_26
        have c7 := compound_ab n
        rw [hn] at c7
        refine Fn_of_aw (keep := []) Tryz.func62 rfl rfl (by simp [Tryz.ntmps62]) ?_
        simp only [num_cons, num_nil, Tryz.ntmps62, Tryz.results62]
        repeat' (first
 | ((with_reducible apply awO_ev); (· rfl); (· exact sv))
 | ((with_reducible apply aw_seq); intro _ _)
 | (with_reducible apply aw_region)
 | (with_reducible apply aw_block)
 | ((with_reducible first | apply awO_nil | apply aw_exit | apply aw_skip | apply aw_ret); (try simp only [CT, ↓reduceIte, Nat.reduceEqDiff]))
 | ((with_reducible apply awO_y); (· rfl); (· rfl); (· decide); (· exact sv); (· exact sv))
 | ((with_reducible apply aw_cond_true); (· exact sv))
 | ((with_reducible apply aw_cond_false); (· exact sv))
 | ((with_reducible apply awO_un); (· rfl); (· decide); (· exact sv))
 | (refine Kont.go ‹Kont _ _ _ _› _ ?_)
 | ((with_reducible apply awO_c); (· rfl); (· rfl); (· exact sv); (· (first | exact d1 | exact c8 | exact c7)); (· rfl); (· rfl); (· rfl); (· decide))
 | ((first | ((with_reducible apply awO_guardN); (· rfl); (· rfl); (· exact sv); (· exact nB)) | ((with_reducible apply aw_condN); (· exact sv))); (· exact pN); (· exact pN); all_goals (intro hg; try (exfalso; omega)))
 | ((with_reducible apply retQ_mk); (· exact rI); (· exact sv); (· exact sv); rotate_left; (· rfl)))
        all_goals try (exfalso; revert hg; simp [hnp]; done)
        refine aw_loopF (fun i : Nat => [(85, ai i)]) (fun _ => []) (fun i => i ≤ ks.length) (fun i => ks.length - i) 0 (Nat.zero_le _) ?_ ?_ ?_
        · exact ⟨rfl, trivial⟩
        · exact trivial
        rintro i hi
        (simp only [LP, List.append_assoc, List.nil_append, List.cons_append, List.append_nil, List.contains_cons, List.contains_nil, Nat.reduceBEq, Bool.or_false, Bool.or_true, Bool.true_or, Bool.false_or, ↓reduceIte, Bool.false_eq_true])
        by_cases hil : i < ks.length
        rotate_left
        · exact wkA
        have g1 := szEs_get ks i hil
        have g2 := dpEs_get ks i hil
        have c9 := ih ks[i] (b + 1) (b + 1) (by omega) (hkw _ (List.getElem_mem hil)) (by omega) (by omega)
        simp only [exA, exC_eta] at c9
        exact wq9
theorem Valid_ab (e : Ex) (hw : Wf e) (hd : dpE e ≤ 32) : Ab Tryz.prog 35 [exA e] (ai 0) := by
  have c1 := valid_ab (szE e) e 0 0 rfl hw (Nat.le_refl _) (by omega)
  simp only [exA, exC_eta] at c1 ⊢
  refine Fn_of_aw (keep := []) Tryz.func35 rfl rfl (by simp [Tryz.ntmps35]) ?_
  simp only [num_cons, num_nil, Tryz.ntmps35, Tryz.results35]
  exact wkA
end Go.Proofs.YtogmppcfopgkdaaGreatDoor
