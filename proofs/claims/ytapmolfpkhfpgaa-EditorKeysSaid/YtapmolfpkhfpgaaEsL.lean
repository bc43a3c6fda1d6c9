/- The editor: awake, on the abstract machine. -/
import Derived.Test.YtapmolfpkhfpgaaEsI
import Derived.Test.YtapmolfpkhfpgaaEsK
namespace Go.Proofs.Ytapmolfpkhfpgaa
open Go.RowKit
set_option linter.unusedVariables false
set_option linter.unusedSimpArgs false
set_option maxRecDepth 100000
set_option maxHeartbeats 8000000
def exL : List (List UInt8) := [[120], [121]]
def exE1 : Er := ⟨⟨[97, 98], 2⟩, 0, [], [⟨[], 0⟩], [], [], 1, 0, []⟩
def exE : Er := ⟨⟨[97, 98, 99], 3⟩, 0, [], [⟨[], 0⟩], [], [], 1, 0, []⟩
def exU : Er := ⟨⟨[], 0⟩, 0, [], [], [⟨[97, 98, 99], 3⟩], [], 17, 0, []⟩
def exR : Er := ⟨⟨[97, 98, 99], 3⟩, 0, [], [⟨[], 0⟩], [], [], 18, 0, []⟩
def exK : Er := ⟨⟨[], 0⟩, 0, [[97, 98, 99]], [⟨[], 0⟩, ⟨[97, 98, 99], 3⟩], [], [], 12, 0, []⟩
def exUp : Er := ⟨⟨[121], 1⟩, 0, [], [], [], [], 20, 1, [97, 98, 99]⟩
def exDn : Er := ⟨⟨[97, 98, 99], 3⟩, 0, [], [], [], [], 21, 0, []⟩
theorem ex1 : doR newR 1 [97, 98] exL = exE1 := by kernel_rfl
theorem ex2 : doR exE1 1 [99] exL = exE := by kernel_rfl
theorem ex3 : doR exE 17 [] exL = exU := by kernel_rfl
theorem ex4 : doR exU 18 [] exL = exR := by kernel_rfl
theorem ex5 : keyR exE [⟨[113], 12⟩] 113 exL = (exK, 0) := by kernel_rfl
theorem ex6 : doR exE 20 [] exL = exUp := by kernel_rfl
theorem ex7 : doR exUp 21 [] exL = exDn := by kernel_rfl
theorem ok1 : okEr exE1 := by rw [← ex1]; exact doR_ok newR_ok _ _ _
theorem ok2 : okEr exE := by rw [← ex2]; exact doR_ok ok1 _ _ _
theorem ok3 : okEr exU := by rw [← ex3]; exact doR_ok ok2 _ _ _
theorem ok6 : okEr exUp := by rw [← ex6]; exact doR_ok ok2 _ _ _
theorem exV : vdR ⟨⟨[], 0⟩, 1, [], [], [], [], 0, 0, []⟩ = 2 := by decide
theorem awake_ab : Ab Try.prog 10 [] (ab true) := by
  have hl : ∀ s ∈ exL, s.length ≤ 9000000000000000 := fun s hs => by
    simp only [exL, List.mem_cons, List.not_mem_nil, or_false] at hs
    rcases hs with rfl | rfl <;> simp
  have c0 := new_ab
  have c1 := do_ab newR exL 1 [97, 98] 0 newR_ok (by simp) (by simp [exL]) hl
  rw [ex1] at c1
  have c2 := do_ab exE1 exL 1 [99] 0 ok1 (by simp) (by simp [exL]) hl
  rw [ex2] at c2
  have c3 := do_ab exE exL 17 [] 0 ok2 (by simp) (by simp [exL]) hl
  rw [ex3] at c3
  have c4 := do_ab exU exL 18 [] 0 ok3 (by simp) (by simp [exL]) hl
  rw [ex4] at c4
  have c5 := key_ab exE [⟨[113], 12⟩] 113 exL 0 ok2 (by simp) (fun i h => by
    have : i = 0 := by simpa using h
    subst this
    show ([113] : List UInt8).length ≤ _
    simp) (by simp [exL]) hl
  rw [ex5] at c5
  have c6 := do_ab exE exL 20 [] 0 ok2 (by simp) (by simp [exL]) hl
  rw [ex6] at c6
  have c7 := do_ab exUp exL 21 [] 0 ok6 (by simp) (by simp [exL]) hl
  rw [ex7] at c7
  have c8 := valid_ab exE (by simp [exE]) (by simp [exE]) (by simp [exE])
  rw [(vdR_ok exE).2 ok2] at c8
  have c9 := valid_ab ⟨⟨[], 0⟩, 1, [], [], [], [], 0, 0, []⟩ (by simp) (by simp) (by simp)
  rw [exV] at c9
  have c9' : Ab Try.prog 11 [.ag [az [], ai 0, ai 1, .v (.slice none 0 0), .v (.slice none 0 0), .v (.slice none 0 0), az [], ai 0, ai 0, az []]] (ai 2) := Fn_nz c9
  simp only [newR, exE1, exE, exU, exR, exK, exUp, exDn, exL, erA, erC, hsA, List.map_cons, List.map_nil, List.length_cons, List.length_nil, snC, List.flatMap_cons, List.flatMap_nil, List.append_nil, List.cons_append, List.nil_append, Nat.zero_add, Nat.reduceAdd, biA, biC] at c0 c1 c2 c3 c4 c5 c6 c7 c8
  refine Fn_of_aw (keep := []) Try.func10 rfl rfl (by simp [Try.ntmps10]) ?_
  simp only [num_cons, num_nil, Try.ntmps10, Try.results10]
  refine aw_join [] [] ?_ ?_
  · skip
    repeat' (first
 | ((with_reducible apply awO_ev); (· rfl); (· exact sv))
 | (with_reducible apply aw_region)
 | ((first | (with_reducible apply awO_nil) | (with_reducible apply aw_exit) | (with_reducible apply aw_skip) | (with_reducible apply aw_ret)); (try simp only [CT, ↓reduceIte, Nat.reduceEqDiff])))
    all_goals exact endQ_mk trivial trivial
  refine aw_join [(1, .pt 1 0)] [(1, [ai 0, .v (.slice none 0 0)])] ?_ ?_
  · skip
    repeat' (first
 | ((with_reducible apply awO_ev); (· rfl); (· exact sv))
 | (with_reducible apply aw_region)
 | ((first | (with_reducible apply awO_nil) | (with_reducible apply aw_exit) | (with_reducible apply aw_skip) | (with_reducible apply aw_ret)); (try simp only [CT, ↓reduceIte, Nat.reduceEqDiff])))
    all_goals exact endQ_mk ⟨rfl, trivial⟩ ⟨rfl, trivial⟩
  refine aw_join [(1, .pt 1 0)] [(1, [ai 0, .rd 2 [az [120], az [121]]])] ?_ ?_
  · with_reducible apply aw_region
    with_reducible apply awO_ev
    · rfl
    · exact sv
    refine awO_pub 9 9 rfl rfl (by simp) rfl (awO_st svs ?_)
    repeat' (first
 | ((with_reducible apply awO_ev); (· rfl); (· exact sv))
 | ((first | (with_reducible apply awO_nil) | (with_reducible apply aw_exit) | (with_reducible apply aw_skip) | (with_reducible apply aw_ret)); (try simp only [CT, ↓reduceIte, Nat.reduceEqDiff])))
    all_goals exact endQ_mk ⟨rfl, trivial⟩ ⟨rfl, trivial⟩
  repeat' (first
 | ((with_reducible apply awY_p); (· exact sH); (with_reducible apply awP_1); (· decide +kernel))
 | ((with_reducible apply awO_ev); (· rfl); (· exact sv))
 | ((with_reducible apply aw_seq); intro _ _)
 | (with_reducible apply aw_region)
 | ((first | (with_reducible apply awO_nil) | (with_reducible apply aw_exit) | (with_reducible apply aw_skip) | (with_reducible apply aw_ret)); (try simp only [CT, ↓reduceIte, Nat.reduceEqDiff]))
 | (refine Kont.go ‹Kont _ _ _ _› _ ?_)
 | ((with_reducible apply awO_c); (· rfl); (· rfl); (· exact sv); (· (first | exact c0 | exact c1 | exact c2 | exact c3 | exact c4 | exact c5 | exact c6 | exact c7 | exact c8 | exact c9')); (· rfl); (· rfl); (· rfl); (· decide))
 | ((with_reducible apply aw_draw); (· decide +kernel); (simp only [List.size_toArray, List.length_cons, List.length_nil, Nat.reduceAdd]))
 | ((with_reducible apply awY_done); (· decide +kernel); (try simp only [CT, ↓reduceIte, Nat.reduceEqDiff]))
 | ((with_reducible apply awY_q); (· exact sQ); (· exact np); (· exact svg); (· rfl); (· exact sv))
 | ((with_reducible apply endQ_rfl))
 | ((with_reducible apply endQ_sub); (· exact sE); (· exact sN))
 | ((with_reducible apply awI_ev); (· exact svg); (· rfl); (· exact sv))
 | ((with_reducible apply awI_c); (· exact svg); (· rfl); (· rfl); (· exact sv); (· (first | exact c0 | exact c1 | exact c2 | exact c3 | exact c4 | exact c5 | exact c6 | exact c7 | exact c8 | exact c9')); (· rfl); (· rfl); (· rfl); (· exact nd); simp only [put_some])
 | ((with_reducible apply awY_p); (· exact sH); (first | ((with_reducible apply awP_1); (· decide +kernel)) | ((with_reducible apply awP_2); (· exact sP)))))
  refine awO_pub 25 25 rfl rfl (by simp) rfl (awO_st svs ?_)
  repeat' (first
 | ((with_reducible apply awO_ev); (· rfl); (· exact sv))
 | ((with_reducible apply aw_seq); intro _ _)
 | (with_reducible apply aw_region)
 | ((first | (with_reducible apply awO_nil) | (with_reducible apply aw_exit) | (with_reducible apply aw_skip) | (with_reducible apply aw_ret)); (try simp only [CT, ↓reduceIte, Nat.reduceEqDiff]))
 | ((with_reducible apply awO_y); (· rfl); (· rfl); (· decide); (· exact sv); (· exact sv))
 | ((with_reducible apply aw_cond_false); (· exact sv))
 | ((with_reducible apply awO_un); (· rfl); (· decide); (· exact sv))
 | (refine Kont.go ‹Kont _ _ _ _› _ ?_)
 | ((with_reducible apply awO_c); (· rfl); (· rfl); (· exact sv); (· (first | exact c5 | exact c6 | exact c7 | exact c8 | exact c9')); (· rfl); (· rfl); (· rfl); (· decide))
 | ((first | ((with_reducible apply awO_guard); (· rfl); (· rfl); (· exact sv)) | ((with_reducible apply aw_cond); (· exact sv))); all_goals (intro hg; (try simp only [Bool.not_true, Bool.not_false]); (try simp only [decide_eq_true_eq, decide_eq_false_iff_not, Bool.not_true, Bool.not_false, Bool.not_eq_true', Bool.not_eq_false', Bool.not_not, beq_eq_false_iff_ne, ne_eq, beq_iff_eq, decide_eq_decide] at hg); try (exfalso; omega)))
 | ((with_reducible apply retQ_mk); (· (first | exact .inr rfl | exact .inl rfl)); (· exact sv); (· exact sv); rotate_left; (· rfl)))
  all_goals rfl
end Go.Proofs.Ytapmolfpkhfpgaa
