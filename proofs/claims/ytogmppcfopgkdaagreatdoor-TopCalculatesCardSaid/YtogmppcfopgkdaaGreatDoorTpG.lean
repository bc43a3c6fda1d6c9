/- jobshelltop.TopCalculates, on the abstract machine. -/
import Derived.Test.YtogmppcfopgkdaaGreatDoorTpF
namespace Go.Proofs.YtogmppcfopgkdaaGreatDoor
open Go.RowKit
set_option linter.unusedVariables false
set_option linter.unusedSimpArgs false
set_option maxRecDepth 100000
set_option maxHeartbeats 8000000
/-- The bytes of an expression, and those of a value. -/
abbrev byE : List UInt8 := [120, 48, 49, 50, 51, 52, 53, 54, 55, 56, 57, 32, 43, 45, 42, 47, 37, 60, 62, 61, 33, 38, 124, 94, 63, 58, 126, 44]
abbrev byD : List UInt8 := [48, 49, 50, 51, 52, 53, 54, 55, 56, 57]
theorem mad_mem {s B : List UInt8} (h : madB s B = true) : ∀ c ∈ s, c ∈ B := fun c hc => by
  unfold madB at h
  obtain ⟨d, hd, e⟩ := List.any_eq_true.1 (List.all_eq_true.1 h c hc)
  have : d = c := by simpa using e
  exact this ▸ hd
theorem top_no1 (s v : List UInt8) (c1 : Ab Tryz.prog 4 [az s, az byE, ai 60] (ab false)) : Ab Tryz.prog 3 [az s, az v] (ab true) := by
  have c9 := live_ab
  refine Fn_of_aw (keep := []) Tryz.func3 rfl rfl (by simp [Tryz.ntmps3]) ?_
  simp only [num_cons, num_nil, Tryz.ntmps3, Tryz.results3]
  exact wkA
theorem top_no2 (s v : List UInt8) (c1 : Ab Tryz.prog 4 [az s, az byE, ai 60] (ab true)) (c2 : Ab Tryz.prog 4 [az v, az byD, ai 9] (ab false)) : Ab Tryz.prog 3 [az s, az v] (ab true) := by
  have c9 := live_ab
  refine Fn_of_aw (keep := []) Tryz.func3 rfl rfl (by simp [Tryz.ntmps3]) ?_
  simp only [num_cons, num_nil, Tryz.ntmps3, Tryz.results3]
  exact wkA
/-- The environment, cell by cell. -/
abbrev enX (v : List UInt8) : List AV := [az [106, 111, 98, 115, 104, 101, 108, 108], .rd 2 [az ifsN, az ifsV, ab true, ab false, ab false, az [120], az v, ab true, ab false, ab false], .rd 2 [az [112, 32, 113], az [42]], nilV, nilV, nilV, ai 0, ai 0, ai 0, ai 0, az [47], ai 1, ai 0, ai 0, ab false]
section
variable {s v : List UInt8} {n er : Int} {A : Mp}
/-- The expression has no value. -/
theorem top_bad {m' : List UInt8} (hs : s.length ≤ 60) (hv : v.length ≤ 9) (c1 : Ab Tryz.prog 4 [az s, az byE, ai 60] (ab true)) (c2 : Ab Tryz.prog 4 [az v, az byD, ai 9] (ab true))
    (c4 : Ab Tryz.prog 7 [az s, .rd 2 [az ifsN, az ifsV, az [120], az v]] (.tp [ai n, .rd A.length (bnC A), ai er])) (her : er ≠ 0) (c5 : Ab Tryz.prog 8 [az (wA s)] (.tp [.rd 1 (ptC [ptA s]), ai 0, ai 0]))
    (c6 : Ab Tryz.prog 9 [.ag (enX v), filesA, .rd 1 [ai 0, .rd 1 (ptC [ptA s])], nilV] (.tp [.ag (epB m'), ai 32])) : Ab Tryz.prog 3 [az s, az v] (ab true) := by
  have c3 : Ab Tryz.prog 6 [az v, ai 0] (.tp [.ag (enX v), ab true]) := environ_ab v (by omega)
  have c7 := rnew_ab
  have c9 := live_ab
  generalize ptC [ptA s] = kc at *
  refine Fn_of_aw (keep := []) Tryz.func3 rfl rfl (by simp [Tryz.ntmps3]) ?_
  simp only [num_cons, num_nil, Tryz.ntmps3, Tryz.results3]
  repeat' (first
 | ((with_reducible apply awO_ev); (· rfl); (· exact sv))
 | ((with_reducible apply aw_seq); intro _ _)
 | (with_reducible apply aw_region)
 | (with_reducible apply aw_block)
 | ((with_reducible first | apply awO_nil | apply aw_exit | apply aw_skip | apply aw_ret); (try simp only [CT, ↓reduceIte, Nat.reduceEqDiff]))
 | ((with_reducible apply awO_y); (· rfl); (· rfl); (· decide); (· exact sv); (· exact sv))
 | ((with_reducible apply aw_cond_false); (· exact sv))
 | ((with_reducible apply awO_un); (· rfl); (· decide); (· exact sv))
 | (refine Kont.go ‹Kont _ _ _ _› _ ?_)
 | ((with_reducible apply awO_c); (· rfl); (· rfl); (· exact sv); (· (first | exact c1 | exact c2 | exact c3)); (· rfl); (· rfl); (· rfl); (· decide))
      | fail)
  refine aw_virt 7 100 2 rfl (by omega) (by simp) ?_
  refine aw_st svs ?_
  refine aw_loopF (fun j : Nat => [(41, ai j), (7, .os 100 0 2 j)]) (fun j => [(100, three [] [az ifsN, az ifsV] [az ifsN, az ifsV, az [120], az v] j), (5, enX v)]) (fun j => j ≤ 2) (fun j => 2 - j) 0 (Nat.zero_le _) ?_ ?_ ?_
  · exact ⟨rfl, rfl, trivial⟩
  · exact ⟨rfl, rfl, trivial⟩
  rintro j hj
  (simp only [LP, List.append_assoc, List.nil_append, List.cons_append, List.append_nil, List.contains_cons, List.contains_nil, Nat.reduceBEq, Bool.or_false, Bool.or_true, Bool.true_or, Bool.false_or, ↓reduceIte, Bool.false_eq_true])
  rcases j with _ | _ | _ | j
  · simp only [three]
    exact wq29
  · simp only [three]
    exact wq30
  · simp only [three]
    repeat' (first
 | ((with_reducible apply awO_ev); (· rfl); (· exact sv))
 | ((with_reducible apply aw_seq); intro _ _)
 | (with_reducible apply aw_region)
 | ((with_reducible first | apply awO_nil | apply aw_exit | apply aw_skip | apply aw_ret); (try simp only [CT, ↓reduceIte, Nat.reduceEqDiff]))
 | ((with_reducible apply aw_cond_false); (· exact sv))
 | (refine Kont.go ‹Kont _ _ _ _› _ ?_)
        | fail)
    refine awO_pub 56 100 (off := 0) (sz := 2) (n := 2) (cs := [az ifsN, az ifsV, az [120], az v]) rfl rfl (Nat.le_refl _) rfl ?_
    refine awO_st svs ?_
    repeat' (first
 | ((with_reducible apply awO_ev); (· rfl); (· exact sv))
 | ((with_reducible apply aw_seq); intro _ _)
 | (with_reducible apply aw_region)
 | ((with_reducible first | apply awO_nil | apply aw_exit | apply aw_skip | apply aw_ret); (try simp only [CT, ↓reduceIte, Nat.reduceEqDiff]))
 | ((with_reducible apply aw_cond_false); (· exact sv))
 | (refine Kont.go ‹Kont _ _ _ _› _ ?_)
 | ((with_reducible apply awO_c); (· rfl); (· rfl); (· exact sv); (· (first | exact c4 | exact c5)); (· rfl); (· rfl); (· rfl); (· decide))
 | ((with_reducible apply aw_draw); (· decide +kernel); (simp only [List.size_toArray, List.length_cons, List.length_nil, Nat.reduceAdd]))
 | ((with_reducible apply awY_q); (· exact sQ); (· exact np); (· exact svg); (· rfl); (· exact sv))
        | fail)
    (with_reducible apply awY_p); (· exact sH)
    (with_reducible apply awP_3 4 9); (· decide +kernel)
    repeat' (first
 | ((with_reducible apply awI_pub 76 76 (off := 0) (sz := 2) (n := 1) (cs := [ai 0, AV.rd 1 kc])); (· rfl); (· rfl); (· exact Nat.le_refl _); (· rfl); (with_reducible apply awI_st); (· exact svs))
 | ((with_reducible apply awO_ev); (· rfl); (· exact sv))
 | ((with_reducible apply aw_seq); intro _ _)
 | (with_reducible apply aw_region)
 | ((with_reducible first | apply awO_nil | apply aw_exit | apply aw_skip | apply aw_ret); (try simp only [CT, ↓reduceIte, Nat.reduceEqDiff]))
 | ((with_reducible apply awO_un); (· rfl); (· decide); (· exact sv))
 | (refine Kont.go ‹Kont _ _ _ _› _ ?_)
 | ((with_reducible apply awO_c); (· rfl); (· rfl); (· exact sv); (· (first | exact c6 | exact c7 | exact c9)); (· rfl); (· rfl); (· rfl); (· decide))
 | ((with_reducible apply awY_done); (· decide +kernel); (try simp only [CT, ↓reduceIte, Nat.reduceEqDiff]))
 | ((with_reducible apply awY_q); (· exact sQ); (· exact np); (· exact svg); (· rfl); (· exact sv))
 | ((with_reducible apply endQ_rfl))
 | ((with_reducible apply endQ_sub); (· exact sE); (· exact sN))
 | ((with_reducible apply awI_ev); (· exact svg); (· rfl); (· exact sv))
 | ((with_reducible apply awI_c); (· exact svg); (· rfl); (· rfl); (· exact sv); (· (first | exact c6 | exact c7 | exact c9)); (· rfl); (· rfl); (· rfl); (· exact nd); simp only [put_some])
 | ((first | ((with_reducible apply awO_guardN); (· rfl); (· rfl); (· exact sv); (· exact nB)) | ((with_reducible apply aw_condN); (· exact sv))); (· exact pN); (· exact pN); all_goals (intro hg; try (exfalso; omega)))
 | ((with_reducible apply retQ_mk); (· exact rI); (· exact sv); (· exact sv); rotate_left; (· rfl))
 | ((with_reducible apply awY_p); (· exact sH); (first | ((with_reducible apply awP_1); (· decide +kernel)) | ((with_reducible apply awP_2); (· exact sP)))))
    all_goals first | rfl
  · omega
/-- The expression has the value n. -/
theorem top_good {L' : List Vr} (hs : s.length ≤ 60) (hv : v.length ≤ 9) (c1 : Ab Tryz.prog 4 [az s, az byE, ai 60] (ab true)) (c2 : Ab Tryz.prog 4 [az v, az byD, ai 9] (ab true))
    (c4 : Ab Tryz.prog 7 [az s, .rd 2 [az ifsN, az ifsV, az [120], az v]] (.tp [ai n, .rd A.length (bnC A), ai 0])) (c5 : Ab Tryz.prog 8 [az (wA s)] (.tp [.rd 1 (ptC [ptA s]), ai 0, ai 0]))
    (c6 : Ab Tryz.prog 9 [.ag (enX v), filesA, .rd 1 [ai 0, .rd 1 (ptC [ptA s])], nilV] (.tp [.ag (epC [az (Lib.itoa n)] L'), ai 0])) (hn : I64 n) (hAl : A.length ≤ 1000) (hL : L'.length ≤ 1000) (hA : ∀ (j : Nat) (h : j < A.length), ∃ u, getV L' A[j].1 = some u ∧ u.val = A[j].2) : Ab Tryz.prog 3 [az s, az v] (ab true) := by
  have c3 : Ab Tryz.prog 6 [az v, ai 0] (.tp [.ag (enX v), ab true]) := environ_ab v (by omega)
  have c7 := rnew_ab
  have c9 := live_ab
  have c8 := digits_ab n hn
  generalize Lib.itoa n = D at *
  generalize ptC [ptA s] = kc at *
  refine Fn_of_aw (keep := []) Tryz.func3 rfl rfl (by simp [Tryz.ntmps3]) ?_
  simp only [num_cons, num_nil, Tryz.ntmps3, Tryz.results3]
  repeat' (first
 | ((with_reducible apply awO_ev); (· rfl); (· exact sv))
 | ((with_reducible apply aw_seq); intro _ _)
 | (with_reducible apply aw_region)
 | (with_reducible apply aw_block)
 | ((with_reducible first | apply awO_nil | apply aw_exit | apply aw_skip | apply aw_ret); (try simp only [CT, ↓reduceIte, Nat.reduceEqDiff]))
 | ((with_reducible apply awO_y); (· rfl); (· rfl); (· decide); (· exact sv); (· exact sv))
 | ((with_reducible apply aw_cond_false); (· exact sv))
 | ((with_reducible apply awO_un); (· rfl); (· decide); (· exact sv))
 | (refine Kont.go ‹Kont _ _ _ _› _ ?_)
 | ((with_reducible apply awO_c); (· rfl); (· rfl); (· exact sv); (· (first | exact c1 | exact c2 | exact c3)); (· rfl); (· rfl); (· rfl); (· decide))
      | fail)
  refine aw_virt 7 100 2 rfl (by omega) (by simp) ?_
  refine aw_st svs ?_
  refine aw_loopF (fun j : Nat => [(41, ai j), (7, .os 100 0 2 j)]) (fun j => [(100, three [] [az ifsN, az ifsV] [az ifsN, az ifsV, az [120], az v] j), (5, enX v)]) (fun j => j ≤ 2) (fun j => 2 - j) 0 (Nat.zero_le _) ?_ ?_ ?_
  · exact ⟨rfl, rfl, trivial⟩
  · exact ⟨rfl, rfl, trivial⟩
  rintro j hj
  (simp only [LP, List.append_assoc, List.nil_append, List.cons_append, List.append_nil, List.contains_cons, List.contains_nil, Nat.reduceBEq, Bool.or_false, Bool.or_true, Bool.true_or, Bool.false_or, ↓reduceIte, Bool.false_eq_true])
  rcases j with _ | _ | _ | j
  · simp only [three]
    exact wq29
  · simp only [three]
    exact wq30
  · simp only [three]
    repeat' (first
 | ((with_reducible apply awO_ev); (· rfl); (· exact sv))
 | ((with_reducible apply aw_seq); intro _ _)
 | (with_reducible apply aw_region)
 | ((with_reducible first | apply awO_nil | apply aw_exit | apply aw_skip | apply aw_ret); (try simp only [CT, ↓reduceIte, Nat.reduceEqDiff]))
 | ((with_reducible apply aw_cond_false); (· exact sv))
 | (refine Kont.go ‹Kont _ _ _ _› _ ?_)
        | fail)
    refine awO_pub 56 100 (off := 0) (sz := 2) (n := 2) (cs := [az ifsN, az ifsV, az [120], az v]) rfl rfl (Nat.le_refl _) rfl ?_
    refine awO_st svs ?_
    repeat' (first
 | ((with_reducible apply awO_ev); (· rfl); (· exact sv))
 | ((with_reducible apply aw_seq); intro _ _)
 | (with_reducible apply aw_region)
 | ((with_reducible first | apply awO_nil | apply aw_exit | apply aw_skip | apply aw_ret); (try simp only [CT, ↓reduceIte, Nat.reduceEqDiff]))
 | ((with_reducible apply aw_cond_false); (· exact sv))
 | (refine Kont.go ‹Kont _ _ _ _› _ ?_)
 | ((with_reducible apply awO_c); (· rfl); (· rfl); (· exact sv); (· (first | exact c4 | exact c5)); (· rfl); (· rfl); (· rfl); (· decide))
 | ((with_reducible apply aw_draw); (· decide +kernel); (simp only [List.size_toArray, List.length_cons, List.length_nil, Nat.reduceAdd]))
 | ((with_reducible apply awY_q); (· exact sQ); (· exact np); (· exact svg); (· rfl); (· exact sv))
        | fail)
    (with_reducible apply awY_p); (· exact sH)
    (with_reducible apply awP_3 4 9); (· decide +kernel)
    repeat' (first
 | ((with_reducible apply awI_pub 76 76 (off := 0) (sz := 2) (n := 1) (cs := [ai 0, AV.rd 1 kc])); (· rfl); (· rfl); (· exact Nat.le_refl _); (· rfl); (with_reducible apply awI_st); (· exact svs))
 | ((with_reducible apply awO_ev); (· rfl); (· exact sv))
 | ((with_reducible apply aw_seq); intro _ _)
 | (with_reducible apply aw_region)
 | (with_reducible apply aw_block)
 | ((with_reducible first | apply awO_nil | apply aw_exit | apply aw_skip | apply aw_ret); (try simp only [CT, ↓reduceIte, Nat.reduceEqDiff]))
 | ((with_reducible apply aw_cond_false); (· exact sv))
 | (refine Kont.go ‹Kont _ _ _ _› _ ?_)
 | ((with_reducible apply aw_draw); (· decide +kernel); (simp only [List.size_toArray, List.length_cons, List.length_nil, Nat.reduceAdd]))
 | ((with_reducible apply awY_done); (· decide +kernel); (try simp only [CT, ↓reduceIte, Nat.reduceEqDiff]))
 | ((with_reducible apply awY_q); (· exact sQ); (· exact np); (· exact svg); (· rfl); (· exact sv))
 | ((with_reducible apply awY_qy); (· exact sQ); (· exact np); (· exact svg); (· rfl); (· rfl); (· exact nd); (· exact sv); (· exact sv))
 | ((with_reducible apply endQ_rfl))
 | ((with_reducible apply endQ_sub); (· exact sE); (· exact sN))
 | ((with_reducible apply awI_ev); (· exact svg); (· rfl); (· exact sv))
 | ((with_reducible apply awI_c); (· exact svg); (· rfl); (· rfl); (· exact sv); (· (first | exact c6 | exact c7 | exact c8)); (· rfl); (· rfl); (· rfl); (· exact nd); simp only [put_some])
 | ((with_reducible apply awI_cy); (· exact svg); (· rfl); (· rfl); (· exact nd); (· exact sv); (· rfl); (· exact sv); (· (first | exact c6 | exact c7 | exact c8)); (· rfl); (· rfl); (· rfl); (· exact nd); simp only [put_some])
 | ((with_reducible apply awY_p); (· exact sH); (first | ((with_reducible apply awP_1); (· decide +kernel)) | ((with_reducible apply awP_2); (· exact sP)))))
    refine aw_loopF (fun j : Nat => [(106, ai j)]) (fun _ => [(16, epC [az D] L')]) (fun j => j ≤ A.length) (fun j => A.length - j) 0 (Nat.zero_le _) ?_ ?_ ?_
    · exact ⟨rfl, trivial⟩
    · exact ⟨rfl, trivial⟩
    rintro j hj
    (simp only [LP, List.append_assoc, List.nil_append, List.cons_append, List.append_nil, List.contains_cons, List.contains_nil, Nat.reduceBEq, Bool.or_false, Bool.or_true, Bool.true_or, Bool.false_or, ↓reduceIte, Bool.false_eq_true])
    by_cases hjl : j < A.length
    · obtain ⟨⟨nm, val, st, ex, ro⟩, hu1, hu2⟩ := hA j hjl
      have q1 := get_ab L' A[j].1 _ hL hu1
      simp only at hu2
      subst hu2
      repeat' (first
 | ((with_reducible apply awO_ev); (· rfl); (· exact sv))
 | ((with_reducible apply aw_seq); intro _ _)
 | (with_reducible apply aw_region)
 | (with_reducible apply aw_block)
 | ((with_reducible first | apply awO_nil | apply aw_exit | apply aw_skip | apply aw_ret); (try simp only [CT, ↓reduceIte, Nat.reduceEqDiff]))
 | ((with_reducible apply awO_y); (· rfl); (· rfl); (· decide); (· exact sv); (· exact sv))
 | ((with_reducible apply aw_cond_false); (· exact sv))
 | (refine Kont.go ‹Kont _ _ _ _› _ ?_)
 | ((with_reducible apply awO_c); (· rfl); (· rfl); (· exact sv); (· (first | exact q1)); (· rfl); (· rfl); (· rfl); (· decide))
 | ((first | ((with_reducible apply awO_guardN); (· rfl); (· rfl); (· exact sv); (· exact nB)) | ((with_reducible apply aw_condN); (· exact sv))); (· exact pN); (· exact pN); all_goals (intro hg; try (exfalso; omega)))
          | fail)
      all_goals
        refine LE_mk (j + 1) ?_ ?_ sN sN sN
        · exact hjl
        · omega
    · obtain rfl : j = A.length := by omega
      repeat' (first
 | ((with_reducible apply awO_ev); (· rfl); (· exact sv))
 | ((with_reducible apply aw_seq); intro _ _)
 | (with_reducible apply aw_region)
 | ((with_reducible first | apply awO_nil | apply aw_exit | apply aw_skip | apply aw_ret); (try simp only [CT, ↓reduceIte, Nat.reduceEqDiff]))
 | (refine Kont.go ‹Kont _ _ _ _› _ ?_)
 | ((with_reducible apply awO_c); (· rfl); (· rfl); (· exact sv); (· (first | exact c9)); (· rfl); (· rfl); (· rfl); (· decide))
 | ((first | ((with_reducible apply awO_guardN); (· rfl); (· rfl); (· exact sv); (· exact nB)) | ((with_reducible apply aw_condN); (· exact sv))); (· exact pN); (· exact pN); all_goals (intro hg; try (exfalso; omega)))
 | ((with_reducible apply retQ_mk); (· exact rI); (· exact sv); (· exact sv); rotate_left; (· rfl))
          | fail)
      all_goals rfl
  · omega
end
end Go.Proofs.YtogmppcfopgkdaaGreatDoor
