/- Arithmetic expressions: the parser, on the abstract machine. -/
import Derived.Test.YtogmppcfopgkdaaGreatDoorCaF
namespace Go.Proofs.YtogmppcfopgkdaaGreatDoor
open Go.RowKit
set_option linter.unusedVariables false
set_option linter.unusedSimpArgs false
set_option maxRecDepth 100000
set_option maxHeartbeats 8000000
/-! The cells of a tree. -/
mutual
def exC : Ex → List AV
  | .mk op n nm ks => [ai op, ai n, az nm, .rd ks.length (exCs ks)]
def exCs : List Ex → List AV
  | [] => []
  | e :: r => exC e ++ exCs r
end
abbrev exA (e : Ex) : AV := .ag (exC e)
theorem exC_mk (op n : Int) (nm : List UInt8) (ks : List Ex) : exC (.mk op n nm ks) = [ai op, ai n, az nm, .rd ks.length (exCs ks)] := by rw [exC]
theorem exCs_nil : exCs [] = [] := by rw [exCs]
theorem exCs_cons (e : Ex) (r : List Ex) : exCs (e :: r) = exC e ++ exCs r := by rw [exCs]
/-- What a function of the parser does, if the answer is R. -/
def OutC (f : FuncId) (ex : List AV) (s : List UInt8) (t : Tk) : Pr → Prop
  | .ok e t1 => Fn Tryz.prog f (.pt 16 0 :: ex) [(16, pcs s t)] (exA e) [(16, pcs s t1)] [16]
  | .er p y => Pan Tryz.prog f (.pt 16 0 :: ex) [(16, pcs s t)] (fltV p y)
abbrev fEx : FuncId := 32
abbrev fCn : FuncId := 57
abbrev fOp : FuncId := 93
abbrev fUn : FuncId := 144
abbrev fPr : FuncId := 198
section
variable {s : List UInt8} {t : Tk} {n : Nat}
theorem primary_out (hs : s.length ≤ 1000000) (h40 : 40 ∉ s) (ht : TkOk s t) (n : Nat) : OutC fPr [] s t (psF s (n + 1) .pr t) := by
  have hle := ht.le
  have hpar := ht.par h40
  have hne := ht.ne
  simp only [psF]
  by_cases h1 : t.kind = 1
  · rw [if_pos h1]
    have c1 := value_ab t.text (hne (by omega)) (by omega)
    have c2 := advance_fn hs ht
    by_cases h0 : (valZ t.text).2 = 0
    · rw [if_pos h0]
      rw [h0] at c1
      simp only [OutC, exA, exC_mk, exCs_nil, exCs_cons, List.length_nil, List.length_cons, List.append_nil]
      obtain ⟨kd, p, x⟩ := t
      simp only at h1
      subst h1
      refine Fn_of_aw (keep := [16]) Tryz.func198 rfl rfl (by simp [Tryz.ntmps198]) (aw_wk ?_)
      simp only [num_cons, num_nil, Tryz.ntmps198, Tryz.results198]
      exact wkC
    · rw [if_neg h0]
      simp only [OutC]
      obtain ⟨kd, p, x⟩ := t
      simp only at h1
      subst h1
      refine Pan_of_aw Tryz.func198 rfl rfl (by simp [Tryz.ntmps198]) ?_
      simp only [num_cons, num_nil, Tryz.ntmps198, Tryz.results198]
      exact wkC
  rw [if_neg h1]
  by_cases h2 : t.kind = 2
  · rw [if_pos h2]
    by_cases hn : nmB t.text = true
    · rw [if_pos hn]
      have c1 := variable_fn hs ht hn
      simp only [OutC, exA, exC_mk, exCs_nil, exCs_cons, List.length_nil, List.length_cons, List.append_nil]
      obtain ⟨kd, p, x⟩ := t
      simp only at h2
      subst h2
      refine Fn_of_aw (keep := [16]) Tryz.func198 rfl rfl (by simp [Tryz.ntmps198]) (aw_wk ?_)
      simp only [num_cons, num_nil, Tryz.ntmps198, Tryz.results198]
      exact wkC
    · rw [if_neg hn]
      have c1 := variable_pan hs ht (by simpa using hn)
      simp only [OutC]
      obtain ⟨kd, p, x⟩ := t
      simp only at h2
      subst h2
      refine Pan_of_aw Tryz.func198 rfl rfl (by simp [Tryz.ntmps198]) ?_
      simp only [num_cons, num_nil, Tryz.ntmps198, Tryz.results198]
      exact wkC
  · rw [if_neg h2]
    have c1 := expect_pan (s := s) (t := t) [40] (decide_eq_false fun h => hpar h.2)
    simp only [OutC]
    obtain ⟨kd, p, x⟩ := t
    simp only at h1 h2
    refine Pan_of_aw Tryz.func198 rfl rfl (by simp [Tryz.ntmps198]) ?_
    simp only [num_cons, num_nil, Tryz.ntmps198, Tryz.results198]
    exact wkC
theorem unary_out (hs : s.length ≤ 1000000) (ht : TkOk s t) (hun : 0 < t.text.length → OutC fUn [] s (nxK s t) (psF s n .un (nxK s t))) (hpr : OutC fPr [] s t (psF s n .pr t)) : OutC fUn [] s t (psF s (n + 1) .un t) := by
  have a1 := sees_fn s t [45]
  have a2 := sees_fn s t [43]
  have a3 := sees_fn s t [33]
  have a4 := sees_fn s t [126]
  have adv := advance_fn hs ht
  simp only [psF]
  by_cases s1 : seeF t [45] = true
  · rw [s1] at a1
    have hu : unL t = some 3 := by unfold unL; rw [if_pos s1]
    have hnt := hun (by have := s1; simp only [seeF, decide_eq_true_eq] at this; rw [this.2]; decide)
    clear hun hpr
    rw [hu]
    simp only
    cases hR : psF s n .un (nxK s t) with
    | ok e t1 =>
      rw [hR] at hnt
      obtain ⟨op, m, nm, ks⟩ := e
      simp only [OutC, exA, exC_mk] at hnt
      simp only [OutC, exA, exC_mk, exCs_nil, exCs_cons, List.length_nil, List.length_cons, List.append_nil]
      obtain ⟨kd, p, x⟩ := t
      refine Fn_of_aw (keep := [16]) Tryz.func144 rfl rfl (by simp [Tryz.ntmps144]) (aw_wk ?_)
      simp only [num_cons, num_nil, Tryz.ntmps144, Tryz.results144]
      exact wkC
    | er p y =>
      rw [hR] at hnt
      simp only [OutC] at hnt
      simp only [OutC]
      obtain ⟨kd, p, x⟩ := t
      refine Pan_of_aw Tryz.func144 rfl rfl (by simp [Tryz.ntmps144]) ?_
      simp only [num_cons, num_nil, Tryz.ntmps144, Tryz.results144]
      exact wkC
  by_cases s2 : seeF t [43] = true
  · rw [s2] at a2
    have hu : unL t = some 4 := by unfold unL; rw [if_neg s1]; rw [if_pos s2]
    have hnt := hun (by have := s2; simp only [seeF, decide_eq_true_eq] at this; rw [this.2]; decide)
    clear hun hpr
    rw [hu]
    simp only
    rw [Bool.eq_false_iff.2 s1] at a1
    cases hR : psF s n .un (nxK s t) with
    | ok e t1 =>
      rw [hR] at hnt
      obtain ⟨op, m, nm, ks⟩ := e
      simp only [OutC, exA, exC_mk] at hnt
      simp only [OutC, exA, exC_mk, exCs_nil, exCs_cons, List.length_nil, List.length_cons, List.append_nil]
      obtain ⟨kd, p, x⟩ := t
      refine Fn_of_aw (keep := [16]) Tryz.func144 rfl rfl (by simp [Tryz.ntmps144]) (aw_wk ?_)
      simp only [num_cons, num_nil, Tryz.ntmps144, Tryz.results144]
      exact wkC
    | er p y =>
      rw [hR] at hnt
      simp only [OutC] at hnt
      simp only [OutC]
      obtain ⟨kd, p, x⟩ := t
      refine Pan_of_aw Tryz.func144 rfl rfl (by simp [Tryz.ntmps144]) ?_
      simp only [num_cons, num_nil, Tryz.ntmps144, Tryz.results144]
      exact wkC
  by_cases s3 : seeF t [33] = true
  · rw [s3] at a3
    have hu : unL t = some 5 := by unfold unL; rw [if_neg s1]; rw [if_neg s2]; rw [if_pos s3]
    have hnt := hun (by have := s3; simp only [seeF, decide_eq_true_eq] at this; rw [this.2]; decide)
    clear hun hpr
    rw [hu]
    simp only
    rw [Bool.eq_false_iff.2 s1] at a1
    rw [Bool.eq_false_iff.2 s2] at a2
    cases hR : psF s n .un (nxK s t) with
    | ok e t1 =>
      rw [hR] at hnt
      obtain ⟨op, m, nm, ks⟩ := e
      simp only [OutC, exA, exC_mk] at hnt
      simp only [OutC, exA, exC_mk, exCs_nil, exCs_cons, List.length_nil, List.length_cons, List.append_nil]
      obtain ⟨kd, p, x⟩ := t
      refine Fn_of_aw (keep := [16]) Tryz.func144 rfl rfl (by simp [Tryz.ntmps144]) (aw_wk ?_)
      simp only [num_cons, num_nil, Tryz.ntmps144, Tryz.results144]
      exact wkC
    | er p y =>
      rw [hR] at hnt
      simp only [OutC] at hnt
      simp only [OutC]
      obtain ⟨kd, p, x⟩ := t
      refine Pan_of_aw Tryz.func144 rfl rfl (by simp [Tryz.ntmps144]) ?_
      simp only [num_cons, num_nil, Tryz.ntmps144, Tryz.results144]
      exact wkC
  by_cases s4 : seeF t [126] = true
  · rw [s4] at a4
    have hu : unL t = some 6 := by unfold unL; rw [if_neg s1]; rw [if_neg s2]; rw [if_neg s3]; rw [if_pos s4]
    have hnt := hun (by have := s4; simp only [seeF, decide_eq_true_eq] at this; rw [this.2]; decide)
    clear hun hpr
    rw [hu]
    simp only
    rw [Bool.eq_false_iff.2 s1] at a1
    rw [Bool.eq_false_iff.2 s2] at a2
    rw [Bool.eq_false_iff.2 s3] at a3
    cases hR : psF s n .un (nxK s t) with
    | ok e t1 =>
      rw [hR] at hnt
      obtain ⟨op, m, nm, ks⟩ := e
      simp only [OutC, exA, exC_mk] at hnt
      simp only [OutC, exA, exC_mk, exCs_nil, exCs_cons, List.length_nil, List.length_cons, List.append_nil]
      obtain ⟨kd, p, x⟩ := t
      refine Fn_of_aw (keep := [16]) Tryz.func144 rfl rfl (by simp [Tryz.ntmps144]) (aw_wk ?_)
      simp only [num_cons, num_nil, Tryz.ntmps144, Tryz.results144]
      exact wkC
    | er p y =>
      rw [hR] at hnt
      simp only [OutC] at hnt
      simp only [OutC]
      obtain ⟨kd, p, x⟩ := t
      refine Pan_of_aw Tryz.func144 rfl rfl (by simp [Tryz.ntmps144]) ?_
      simp only [num_cons, num_nil, Tryz.ntmps144, Tryz.results144]
      exact wkC
  have hu : unL t = none := by unfold unL; rw [if_neg s1, if_neg s2, if_neg s3, if_neg s4]
  clear hun
  rw [hu]
  simp only
  rw [Bool.eq_false_iff.2 s1] at a1
  rw [Bool.eq_false_iff.2 s2] at a2
  rw [Bool.eq_false_iff.2 s3] at a3
  rw [Bool.eq_false_iff.2 s4] at a4
  cases hR : psF s n .pr t with
  | ok e t1 =>
    rw [hR] at hpr
    obtain ⟨op, m, nm, ks⟩ := e
    simp only [OutC, exA, exC_mk] at hpr
    simp only [OutC, exA, exC_mk, exCs_nil, exCs_cons, List.length_nil, List.length_cons, List.append_nil]
    obtain ⟨kd, p, x⟩ := t
    refine Fn_of_aw (keep := [16]) Tryz.func144 rfl rfl (by simp [Tryz.ntmps144]) (aw_wk ?_)
    simp only [num_cons, num_nil, Tryz.ntmps144, Tryz.results144]
    exact wkC
  | er p y =>
    rw [hR] at hpr
    simp only [OutC] at hpr
    simp only [OutC]
    obtain ⟨kd, p, x⟩ := t
    refine Pan_of_aw Tryz.func144 rfl rfl (by simp [Tryz.ntmps144]) ?_
    simp only [num_cons, num_nil, Tryz.ntmps144, Tryz.results144]
    exact wkC
theorem condition_out (hs : s.length ≤ 1000000) (ht : TkOk s t) (hop : OutC fOp [ai 3] s t (psF s n (.op 3) t)) (hex : ∀ t1, TkOk s t1 → t.pos < t1.pos → OutC fEx [] s t1 (psF s n .ex t1)) (hcn : ∀ t1, TkOk s t1 → t.pos < t1.pos → OutC fCn [] s t1 (psF s n .cn t1)) : OutC fCn [] s t (psF s (n + 1) .cn t) := by
  have q1 := psF_ok s n (.op 3) t ht (by simp [NtOk])
  simp only [psF]
  cases hR1 : psF s n (.op 3) t with
  | er p1 y1 =>
    rw [hR1] at hop
    simp only [OutC] at hop
    clear hex hcn q1
    simp only [OutC]
    obtain ⟨kd, p, x⟩ := t
    refine Pan_of_aw Tryz.func57 rfl rfl (by simp [Tryz.ntmps57]) ?_
    simp only [num_cons, num_nil, Tryz.ntmps57, Tryz.results57]
    exact wkC
  | ok e1 t1 =>
    rw [hR1] at hop q1
    obtain ⟨-, k1, l1, -⟩ := q1
    obtain ⟨op1, m1, nm1, ks1⟩ := e1
    simp only [OutC, exA, exC_mk] at hop
    simp only
    have a1 := sees_fn s t1 [63]
    by_cases s1 : seeF t1 [63] = true
    rotate_left
    · rw [if_neg s1]
      rw [Bool.eq_false_iff.2 s1] at a1
      clear hex hcn
      simp only [OutC, exA, exC_mk, exCs_nil, exCs_cons, List.length_nil, List.length_cons, List.append_nil]
      obtain ⟨kd, p, x⟩ := t
      refine Fn_of_aw (keep := [16]) Tryz.func57 rfl rfl (by simp [Tryz.ntmps57]) (aw_wk ?_)
      simp only [num_cons, num_nil, Tryz.ntmps57, Tryz.results57]
      exact wkC
    rw [if_pos s1]
    rw [s1] at a1
    have adv := advance_fn hs k1
    have k2 := nxK_ok k1
    have n1 : 0 < t1.text.length := by have := s1; simp only [seeF, decide_eq_true_eq] at this; rw [this.2]; decide
    have hy := hex (nxK s t1) k2.1 (by omega)
    have q2 := psF_ok s n .ex (nxK s t1) k2.1 trivial
    cases hR2 : psF s n .ex (nxK s t1) with
    | er p2 y2 =>
      rw [hR2] at hy
      simp only [OutC] at hy
      clear hex hcn q2
      simp only [OutC]
      obtain ⟨kd, p, x⟩ := t
      refine Pan_of_aw Tryz.func57 rfl rfl (by simp [Tryz.ntmps57]) ?_
      simp only [num_cons, num_nil, Tryz.ntmps57, Tryz.results57]
      exact wkC
    | ok e2 t2 =>
      rw [hR2] at hy q2
      obtain ⟨-, k3, l2, -⟩ := q2
      obtain ⟨op2, m2, nm2, ks2⟩ := e2
      simp only [OutC, exA, exC_mk] at hy
      simp only
      by_cases s2 : seeF t2 [58] = true
      rotate_left
      · rw [if_neg s2]
        have b1 := expect_pan (s := s) (t := t2) [58] (Bool.eq_false_iff.2 s2)
        clear hex hcn
        simp only [OutC]
        obtain ⟨kd, p, x⟩ := t
        refine Pan_of_aw Tryz.func57 rfl rfl (by simp [Tryz.ntmps57]) ?_
        simp only [num_cons, num_nil, Tryz.ntmps57, Tryz.results57]
        exact wkC
      rw [if_pos s2]
      have b1 := expect_fn hs k3 [58] s2
      have k4 := nxK_ok k3
      have hz := hcn (nxK s t2) k4.1 (by omega)
      cases hR3 : psF s n .cn (nxK s t2) with
      | er p3 y3 =>
        rw [hR3] at hz
        simp only [OutC] at hz
        clear hex hcn
        simp only [OutC]
        obtain ⟨kd, p, x⟩ := t
        refine Pan_of_aw Tryz.func57 rfl rfl (by simp [Tryz.ntmps57]) ?_
        simp only [num_cons, num_nil, Tryz.ntmps57, Tryz.results57]
        exact wkC
      | ok e3 t3 =>
        rw [hR3] at hz
        obtain ⟨op3, m3, nm3, ks3⟩ := e3
        simp only [OutC, exA, exC_mk] at hz
        clear hex hcn
        simp only [OutC, exA, exC_mk, exCs_nil, exCs_cons, List.length_nil, List.length_cons, List.append_nil]
        obtain ⟨kd, p, x⟩ := t
        refine Fn_of_aw (keep := [16]) Tryz.func57 rfl rfl (by simp [Tryz.ntmps57]) (aw_wk ?_)
        simp only [num_cons, num_nil, Tryz.ntmps57, Tryz.results57]
        exact wkC
theorem expression_out (hs : s.length ≤ 1000000) (ht : TkOk s t) (hex : t.kind = 2 → OutC fEx [] s (nxK s (nxK s t)) (psF s n .ex (nxK s (nxK s t)))) (hcn : OutC fCn [] s t (psF s n .cn t)) : OutC fEx [] s t (psF s (n + 1) .ex t) := by
  have hle := ht.le
  have k1 := (nxK_ok ht).1
  have hle1 := k1.le
  have c1 := after_fn hs ht
  have c2 := assignment_ab (nxK s t) (by omega)
  simp only [psF]
  by_cases h2 : t.kind = 2
  rotate_left
  · rw [if_neg h2]
    clear hex
    cases hR : psF s n .cn t with
    | ok e t1 =>
      rw [hR] at hcn
      obtain ⟨op, m, nm, ks⟩ := e
      simp only [OutC, exA, exC_mk] at hcn
      simp only [OutC, exA, exC_mk, exCs_nil, exCs_cons, List.length_nil, List.length_cons, List.append_nil]
      obtain ⟨kd, p, x⟩ := t
      simp only at h2
      refine Fn_of_aw (keep := [16]) Tryz.func32 rfl rfl (by simp [Tryz.ntmps32]) (aw_wk ?_)
      simp only [num_cons, num_nil, Tryz.ntmps32, Tryz.results32]
      exact wkC
    | er p y =>
      rw [hR] at hcn
      simp only [OutC] at hcn
      simp only [OutC]
      obtain ⟨kd, p, x⟩ := t
      simp only at h2
      refine Pan_of_aw Tryz.func32 rfl rfl (by simp [Tryz.ntmps32]) ?_
      simp only [num_cons, num_nil, Tryz.ntmps32, Tryz.results32]
      exact wkC
  rw [if_pos h2]
  have hex := hex h2
  cases ha : asgF (nxK s t) with
  | none =>
    rw [ha] at c2
    simp only [Option.getD_none, Option.isSome_none] at c2
    simp only
    clear hex
    cases hR : psF s n .cn t with
    | ok e t1 =>
      rw [hR] at hcn
      obtain ⟨op, m, nm, ks⟩ := e
      simp only [OutC, exA, exC_mk] at hcn
      simp only [OutC, exA, exC_mk, exCs_nil, exCs_cons, List.length_nil, List.length_cons, List.append_nil]
      obtain ⟨kd, p, x⟩ := t
      simp only at h2
      subst h2
      refine Fn_of_aw (keep := [16]) Tryz.func32 rfl rfl (by simp [Tryz.ntmps32]) (aw_wk ?_)
      simp only [num_cons, num_nil, Tryz.ntmps32, Tryz.results32]
      exact wkC
    | er p y =>
      rw [hR] at hcn
      simp only [OutC] at hcn
      simp only [OutC]
      obtain ⟨kd, p, x⟩ := t
      simp only at h2
      subst h2
      refine Pan_of_aw Tryz.func32 rfl rfl (by simp [Tryz.ntmps32]) ?_
      simp only [num_cons, num_nil, Tryz.ntmps32, Tryz.results32]
      exact wkC
  | some op0 =>
    rw [ha] at c2
    simp only [Option.getD_some, Option.isSome_some] at c2
    simp only
    clear hcn
    by_cases hn : nmB t.text = true
    rotate_left
    · rw [if_neg hn]
      have c3 := variable_pan hs ht (by simpa using hn)
      clear hex
      simp only [OutC]
      obtain ⟨kd, p, x⟩ := t
      simp only at h2
      subst h2
      refine Pan_of_aw Tryz.func32 rfl rfl (by simp [Tryz.ntmps32]) ?_
      simp only [num_cons, num_nil, Tryz.ntmps32, Tryz.results32]
      exact wkC
    rw [if_pos hn]
    have c3 := variable_fn hs ht hn
    have c4 := advance_fn hs k1
    cases hR : psF s n .ex (nxK s (nxK s t)) with
    | ok e t1 =>
      rw [hR] at hex
      obtain ⟨op, m, nm, ks⟩ := e
      simp only [OutC, exA, exC_mk] at hex
      simp only [OutC, exA, exC_mk, exCs_nil, exCs_cons, List.length_nil, List.length_cons, List.append_nil]
      obtain ⟨kd, p, x⟩ := t
      simp only at h2
      subst h2
      refine Fn_of_aw (keep := [16]) Tryz.func32 rfl rfl (by simp [Tryz.ntmps32]) (aw_wk ?_)
      simp only [num_cons, num_nil, Tryz.ntmps32, Tryz.results32]
      exact wkC
    | er p y =>
      rw [hR] at hex
      simp only [OutC] at hex
      simp only [OutC]
      obtain ⟨kd, p, x⟩ := t
      simp only at h2
      subst h2
      refine Pan_of_aw Tryz.func32 rfl rfl (by simp [Tryz.ntmps32]) ?_
      simp only [num_cons, num_nil, Tryz.ntmps32, Tryz.results32]
      exact wkC
end
end Go.Proofs.YtogmppcfopgkdaaGreatDoor
/- Arithmetic expressions: operations, and the parser as a whole, on the abstract machine. -/
namespace Go.Proofs.YtogmppcfopgkdaaGreatDoor
open Go.RowKit
set_option linter.unusedVariables false
set_option linter.unusedSimpArgs false
set_option maxRecDepth 100000
set_option maxHeartbeats 8000000
theorem oprF_le (t : Tk) : (oprF t).1 ≤ 12 := by
  unfold oprF
  split
  · cases hf : binL.find? fun o => decide (o.1 = t.text) with
    | none => simp
    | some o =>
      have := List.mem_of_find?_eq_some hf
      simp only [Option.map_some, Option.getD_some]
      revert this; generalize o = u; clear hf; revert u; decide
  · decide
section
variable {s : List UInt8} {t : Tk}
theorem operation_out (hs : s.length ≤ 1000000) (ht : TkOk s t) (n : Nat) (l : Int) (hl0 : 0 < l) (hun : OutC fUn [] s t (psF s n .un t)) (hr : rkN s (.op l) t < n + 1)
    (hop : ∀ m, m < n → ∀ l', 0 < l' → l' ≤ 13 → ∀ t1, TkOk s t1 → rkN s (.op l') t1 < m → OutC fOp [ai l'] s t1 (psF s m (.op l') t1)) : OutC fOp [ai l] s t (psF s (n + 1) (.op l) t) := by
  simp only [psF]
  have q1 := psF_ok s n .un t ht trivial
  cases hR1 : psF s n .un t with
  | er p1 y1 =>
    rw [hR1] at hun
    simp only [OutC] at hun
    clear hop q1
    simp only [OutC]
    obtain ⟨kd, p, x⟩ := t
    refine Pan_of_aw Tryz.func93 rfl rfl (by simp [Tryz.ntmps93]) ?_
    simp only [num_cons, num_nil, Tryz.ntmps93, Tryz.results93]
    exact wkC
  | ok e t1 =>
    rw [hR1] at hun q1
    obtain ⟨-, k1, l1, -⟩ := q1
    obtain ⟨op0, n0, nm0, ks0⟩ := e
    simp only [OutC, exA, exC_mk] at hun
    simp only
    have hr1 : 6 * (s.length - t1.pos) + 3 < n := by simp only [rkN, tagN] at hr; omega
    clear hR1
    generalize hR : psF s n (.ol l (.mk op0 n0 nm0 ks0)) t1 = R
    cases R with
    | ok E T =>
      simp only [OutC]
      refine Fn_of_aw (keep := [16]) Tryz.func93 rfl rfl (by simp [Tryz.ntmps93]) (aw_wk ?_)
      simp only [num_cons, num_nil, Tryz.ntmps93, Tryz.results93]
      repeat' (first
 | ((with_reducible apply awO_ev); (· rfl); (· exact sv))
 | ((with_reducible apply aw_seq); intro _ _)
 | (with_reducible apply aw_region)
 | (with_reducible apply aw_block)
 | ((with_reducible first | apply awO_nil | apply aw_exit | apply aw_skip | apply aw_ret); (try simp only [CT, ↓reduceIte, Nat.reduceEqDiff]))
 | (refine Kont.go ‹Kont _ _ _ _› _ ?_)
 | ((with_reducible apply awO_m); (· rfl); (· rfl); (· exact sv); (· (first | exact hun)); (· exact svq); (· exact svq); (· exact svq); (· exact svq); (· rfl); (· exact nd); (with_reducible apply awO_st); (· exact svs)))
      refine aw_loopF (fun x : Nat × Ex × Tk => []) (fun x => [(5, exC x.2.1), (16, pcs s x.2.2), (4, [ai 0, ai 0, az [], .v (.slice none 0 0)])]) (fun x => x.1 ≤ n ∧ TkOk s x.2.2 ∧ 6 * (s.length - x.2.2.pos) + 3 < x.1 ∧ psF s x.1 (.ol l x.2.1) x.2.2 = .ok E T) (fun x => x.1) (n, .mk op0 n0 nm0 ks0, t1) ⟨Nat.le_refl _, k1, hr1, hR⟩ ?_ ?_ ?_
      · exact trivial
      · exact ⟨rfl, rfl, rfl, trivial⟩
      rintro ⟨m, ⟨op1, n1, nm1, ks1⟩, t⟩ ⟨hm, kt, rk, hI⟩
      simp only at hm kt rk hI
      simp only [exA, exC_mk]
      clear hR hun hr1 k1 l1
      cases m with
      | zero => omega
      | succ m =>
        simp only [psF] at hI
        have o1 := operator_fn s t
        (simp only [LP, List.append_assoc, List.nil_append, List.cons_append, List.append_nil, List.contains_cons, List.contains_nil, Nat.reduceBEq, Bool.or_false, Bool.or_true, Bool.true_or, Bool.false_or, ↓reduceIte, Bool.false_eq_true])
        by_cases hlv : (oprF t).1 < l
        · rw [if_pos hlv] at hI
          injection hI with h1 h2
          subst h1 h2
          exact wkC
        rw [if_neg hlv] at hI
        have hol := oprF_le t
        have hok := oprF_ok (t := t) (by omega)
        have hne := kt.ne (by omega)
        have k2 := nxK_ok kt
        have hle := kt.le
        have o2 := advance_fn hs kt
        have o3 := hop m (by omega) ((oprF t).1 + 1) (by omega) (by omega) (nxK s t) k2.1 (by simp only [rkN, tagN]; omega)
        have q3 := psF_ok s m (.op ((oprF t).1 + 1)) (nxK s t) k2.1 (by simp only [NtOk]; omega)
        clear hop
        cases hR2 : psF s m (.op ((oprF t).1 + 1)) (nxK s t) with
        | er p2 y2 =>
          rw [hR2] at hI
          cases hI
        | ok r t2 =>
          rw [hR2] at hI o3 q3
          simp only at hI
          obtain ⟨-, k4, l4, -⟩ := q3
          obtain ⟨op2, n2, nm2, ks2⟩ := r
          simp only [OutC, exA, exC_mk] at o3
          exact wq6
    | er py yy =>
      simp only [OutC]
      refine Pan_of_aw Tryz.func93 rfl rfl (by simp [Tryz.ntmps93]) ?_
      simp only [num_cons, num_nil, Tryz.ntmps93, Tryz.results93]
      repeat' (first
 | ((with_reducible apply awO_ev); (· rfl); (· exact sv))
 | ((with_reducible apply aw_seq); intro _ _)
 | (with_reducible apply aw_region)
 | (with_reducible apply aw_block)
 | ((with_reducible first | apply awO_nil | apply aw_exit | apply aw_skip | apply aw_ret); (try simp only [CT, ↓reduceIte, Nat.reduceEqDiff]))
 | (refine Kont.go ‹Kont _ _ _ _› _ ?_)
 | ((with_reducible apply awO_m); (· rfl); (· rfl); (· exact sv); (· (first | exact hun)); (· exact svq); (· exact svq); (· exact svq); (· exact svq); (· rfl); (· exact nd); (with_reducible apply awO_st); (· exact svs)))
      refine aw_loopF (fun x : Nat × Ex × Tk => []) (fun x => [(5, exC x.2.1), (16, pcs s x.2.2), (4, [ai 0, ai 0, az [], .v (.slice none 0 0)])]) (fun x => x.1 ≤ n ∧ TkOk s x.2.2 ∧ 6 * (s.length - x.2.2.pos) + 3 < x.1 ∧ psF s x.1 (.ol l x.2.1) x.2.2 = .er py yy) (fun x => x.1) (n, .mk op0 n0 nm0 ks0, t1) ⟨Nat.le_refl _, k1, hr1, hR⟩ ?_ ?_ ?_
      · exact trivial
      · exact ⟨rfl, rfl, rfl, trivial⟩
      rintro ⟨m, ⟨op1, n1, nm1, ks1⟩, t⟩ ⟨hm, kt, rk, hI⟩
      simp only at hm kt rk hI
      simp only [exA, exC_mk]
      clear hR hun hr1 k1 l1
      cases m with
      | zero => omega
      | succ m =>
        simp only [psF] at hI
        have o1 := operator_fn s t
        (simp only [LP, List.append_assoc, List.nil_append, List.cons_append, List.append_nil, List.contains_cons, List.contains_nil, Nat.reduceBEq, Bool.or_false, Bool.or_true, Bool.true_or, Bool.false_or, ↓reduceIte, Bool.false_eq_true])
        by_cases hlv : (oprF t).1 < l
        · rw [if_pos hlv] at hI
          cases hI
        rw [if_neg hlv] at hI
        have hol := oprF_le t
        have hok := oprF_ok (t := t) (by omega)
        have hne := kt.ne (by omega)
        have k2 := nxK_ok kt
        have hle := kt.le
        have o2 := advance_fn hs kt
        have o3 := hop m (by omega) ((oprF t).1 + 1) (by omega) (by omega) (nxK s t) k2.1 (by simp only [rkN, tagN]; omega)
        have q3 := psF_ok s m (.op ((oprF t).1 + 1)) (nxK s t) k2.1 (by simp only [NtOk]; omega)
        clear hop
        cases hR2 : psF s m (.op ((oprF t).1 + 1)) (nxK s t) with
        | er p2 y2 =>
          rw [hR2] at hI o3
          injection hI with h1 h2
          subst h1 h2
          simp only [OutC] at o3
          exact wkC
        | ok r t2 =>
          rw [hR2] at hI o3 q3
          simp only at hI
          obtain ⟨-, k4, l4, -⟩ := q3
          obtain ⟨op2, n2, nm2, ks2⟩ := r
          simp only [OutC, exA, exC_mk] at o3
          exact wq6
/-- The parser's functions, all of them. -/
theorem ps_all (hs : s.length ≤ 1000000) (h40 : 40 ∉ s) : ∀ (n : Nat) (t : Tk), TkOk s t →
    (rkN s .ex t < n → OutC fEx [] s t (psF s n .ex t)) ∧ (rkN s .cn t < n → OutC fCn [] s t (psF s n .cn t)) ∧ (∀ l, 0 < l → l ≤ 13 → rkN s (.op l) t < n → OutC fOp [ai l] s t (psF s n (.op l) t)) ∧ (rkN s .un t < n → OutC fUn [] s t (psF s n .un t)) ∧ (rkN s .pr t < n → OutC fPr [] s t (psF s n .pr t)) := by
  intro n
  induction n using Nat.strongRecOn with
  | ind n ih =>
    intro t ht
    cases n with
    | zero => exact ⟨fun h => by omega, fun h => by omega, fun l _ _ h => by omega, fun h => by omega, fun h => by omega⟩
    | succ n =>
      have hle := ht.le
      have hn := ih n (Nat.lt_succ_self n)
      have k1 := nxK_ok ht
      have k2 := nxK_ok k1.1
      have hle1 := k1.1.le
      have hle2 := k2.1.le
      simp only [rkN, tagN] at hn ⊢
      refine ⟨fun h => ?_, fun h => ?_, fun l h1 h2 h => ?_, fun h => ?_, fun h => ?_⟩
      · exact expression_out hs ht (fun h2 => (hn _ k2.1).1 (by have := ht.ne (by omega); omega)) ((hn t ht).2.1 (by omega))
      · exact condition_out hs ht ((hn t ht).2.2.1 3 (by decide) (by decide) (by omega)) (fun t1 q1 q2 => (hn t1 q1).1 (by have := q1.le; omega)) (fun t1 q1 q2 => (hn t1 q1).2.1 (by have := q1.le; omega))
      · exact operation_out hs ht n l h1 ((hn t ht).2.2.2.1 (by omega)) (by simp only [rkN, tagN]; omega) (fun m hm l' g1 g2 t1 q1 q2 => (ih m (by omega) t1 q1).2.2.1 l' g1 g2 q2)
      · exact unary_out hs ht (fun h2 => (hn _ k1.1).2.2.2.1 (by omega)) ((hn t ht).2.2.2.2 (by omega))
      · exact primary_out hs h40 ht n
end
end Go.Proofs.YtogmppcfopgkdaaGreatDoor
