/- Arithmetic expressions: Parse, on the abstract machine. -/
import Derived.Test.YtogmppcfopgkdaaGreatDoorCaI
import Derived.Test.YtogmppcfopgkdaaGreatDoorRen
namespace Go.Proofs.YtogmppcfopgkdaaGreatDoor
open Go.RowKit
set_option linter.unusedVariables false
set_option linter.unusedSimpArgs false
set_option maxRecDepth 100000
set_option maxHeartbeats 8000000
section
variable {P : Program} {t : TypeId} {x y : Operand}
theorem bin_neqI0 : bin Tryz.prog .neq 20 x (.const .nilIface) .nilIface .nilIface = some (.bool false) := by cases x <;> rfl
theorem bin_neqI1 (T : TypeId) (v : Value) : bin Tryz.prog .neq 20 x y (.iface T v) .nilIface = some (.bool true) := by rfl
theorem retQ_mk3 {rs : List ResultVar} {r r' : AV} {ys : List AV} {e : Exit} {st : St} {fix : List Nat} (he : e = .normal ∨ e = .ret) (h1 : resL P st rs = some ys) (h2 : roA st.hp [] (one ys) = some r') (h4 : st.fx = fix) (h3 : r' = r) : retQ P rs r [] [] fix e st :=
  ⟨he, ⟨ys, h1, by rw [h2, h3]⟩, fun p hp => (by cases hp), h4⟩
end
theorem cst_nilI : cst .nilIface = .v .nilIface := rfl
theorem aw_end {P : Program} {c : Code} {st M : St} {Q : Exit → St → Prop} (h : aw P c st (endQ M)) (hM : Q .normal M) : aw P c st Q := fun E a w hS =>
  wp_mono (h E a w hS) fun e a' w' hq => by
    obtain ⟨s, hs, rfl, hsub⟩ := hq
    exact ⟨M, hsub.S hs, hM⟩
attribute [go_sem] bin_neqI0 bin_neqI1 cst_nilI
abbrev ex0 : Ex := .mk 0 0 [] []
abbrev nilS : AV := .v (.slice none 0 0)
/-- What Parse answers. -/
def parR (s : List UInt8) : Ex × Nat × Int :=
  if (scnL s 0).kind = 0 then (.mk 1 0 [] [], 0, 0) else
  match psF s (6 * s.length + 7) .ex (scnL s 0) with
  | .ok e t1 => if t1.kind ≠ 0 then (ex0, t1.pos, 6) else if 32 < dpE e then (ex0, 0, 5) else (e, 0, 0)
  | .er p y => (ex0, p, y)
theorem parR_ok (s : List UInt8) (h : (parR s).2.2 = 0) : Wf (parR s).1 ∧ dpE (parR s).1 ≤ 32 := by
  have h1 := psF_ok s (6 * s.length + 7) .ex (scnL s 0) (scnL_ok s (Nat.zero_le _)).1 trivial
  revert h
  unfold parR
  split
  · intro _; exact ⟨.num 0 (by decide) (by decide), by decide⟩
  · cases hp : psF s (6 * s.length + 7) .ex (scnL s 0) with
    | ok e t1 =>
      rw [hp] at h1
      simp only
      split
      · intro h; cases h
      split
      · intro h; cases h
      · next h3 => intro _; exact ⟨h1.1, Nat.le_of_not_lt h3⟩
    | er p y =>
      rw [hp] at h1
      intro h
      exact absurd h h1
theorem parR_sz (s : List UInt8) : szE (parR s).1 ≤ s.length + 1 := by
  have h1 := psF_ok s (6 * s.length + 7) .ex (scnL s 0) (scnL_ok s (Nat.zero_le _)).1 trivial
  unfold parR
  split
  · simp [szE, szEs]
  · cases hp : psF s (6 * s.length + 7) .ex (scnL s 0) with
    | ok e t1 =>
      rw [hp] at h1
      obtain ⟨_, k1, _, k2⟩ := h1
      have := k1.le
      simp only [szN] at k2
      simp only
      split
      · simp [szE, szEs]
      split
      · simp [szE, szEs]
      · simp only; omega
    | er p y => simp [szE, szEs]
abbrev fP1 : FuncId := 30
theorem parse1_ret : FnD Tryz.prog fP1 [.un, .un, .un] [] .returning [] [] .returning := by
  refine FnD_of_aw (i0 := 0) (d1 := 6) (d2 := 3) (x := .nilIface) Tryz.func30 rfl rfl rfl (by simp) (by simp [Tryz.ntmps30]) (by simp [Tryz.ntmps30]) ⟨rfl, rfl, rfl⟩ ⟨rfl, rfl, rfl⟩ (fun c cs h => .inr ⟨recD_ret c cs h, rfl, rfl⟩) ?_
  simp only [num_cons, num_nil, Tryz.ntmps30]
  exact wq10
theorem parse1_pan (a b c d x y : AV) (p : Nat) (e : Int) : FnD Tryz.prog fP1 [.pt 102 0, .pt 103 0, .pt 104 0] [(102, [a, b, c, d]), (103, [x]), (104, [y])] (.panicking (pnc (fltV p e)))
    [(102, [ai 0, ai 0, az [], .rd 0 []]), (103, [ai (p : Nat)]), (104, [ai e])] [102, 103, 104] (.panicking [{ v := fltV p e, recovered := true }]) := by
  refine FnD_of_aw (i0 := 0) (d1 := 6) (d2 := 3) (x := fltV p e) Tryz.func30 rfl rfl rfl (by simp) (by simp [Tryz.ntmps30]) (by simp [Tryz.ntmps30]) ⟨rfl, rfl, rfl⟩ ⟨rfl, rfl, rfl⟩ (fun c cs h => .inl (recD_pan _ c cs h)) ?_
  refine aw_end (M := ⟨[], [(102, [ai 0, ai 0, az [], .rd 0 []]), (103, [ai (p : Nat)]), (104, [ai e])], 20, [102, 103, 104]⟩) ?_ ⟨.inl rfl, rfl, sN⟩
  simp only [num_cons, num_nil, Tryz.ntmps30]
  repeat' (first
 | ((with_reducible apply awO_bnz); (· rfl); (· rfl); (· rfl); (· exact sv); (with_reducible apply awO_st); (· exact svs))
 | ((with_reducible apply awO_tas); (· rfl); (· rfl); (· exact svp); (· exact sv); (· rfl); (· exact nd))
 | ((with_reducible apply awO_ev); (· rfl); (· exact sv))
 | ((with_reducible apply aw_seq); intro _ _)
 | (with_reducible apply aw_region)
 | ((with_reducible first | apply awO_nil | apply aw_exit | apply aw_skip | apply aw_ret); (try simp only [CT, ↓reduceIte, Nat.reduceEqDiff]))
 | ((with_reducible apply aw_cond_true); (· exact sv))
 | (refine Kont.go ‹Kont _ _ _ _› _ ?_)
 | ((with_reducible apply aw_draw); (· decide +kernel); (simp only [List.size_toArray, List.length_cons, List.length_nil, Nat.reduceAdd]))
 | ((with_reducible apply awY_done); (· decide +kernel); (try simp only [CT, ↓reduceIte, Nat.reduceEqDiff]))
 | ((with_reducible apply awY_q); (· exact sQ); (· exact np); (· exact svg); (· rfl); (· exact sv))
 | ((with_reducible apply endQ_rfl))
 | ((with_reducible apply endQ_sub); (· exact sE); (· exact sN))
 | ((with_reducible apply awI_ev); (· exact svg); (· rfl); (· exact sv))
 | ((with_reducible apply awY_p); (· exact sH); (first | ((with_reducible apply awP_1); (· decide +kernel)) | ((with_reducible apply awP_2); (· exact sP)))))
theorem parse1_panR (a b c d x y : AV) (p : Nat) (e : Int) : FnD Tryz.prog fP1 [.pt 2 0, .pt 3 0, .pt 4 0] [(2, [a, b, c, d]), (3, [x]), (4, [y])] (.panicking (pnc (fltV p e)))
    [(2, [ai 0, ai 0, az [], .rd 0 []]), (3, [ai (p : Nat)]), (4, [ai e])] [2, 3, 4] (.panicking [{ v := fltV p e, recovered := true }]) := by
  have := (parse1_pan (renA up1 a) (renA up1 b) (renA up1 c) (renA up1 d) (renA up1 x) (renA up1 y) p e).ren up1 up1_inv
  simp only [renAs_cons, renAs_nil, renA_pt, renA_v, renH, List.map_cons, List.map_nil, renA_inv up1_inv] at this
  exact this
theorem parse_ab (s : List UInt8) (hs : s.length ≤ 4096) (h40 : 40 ∉ s) : Ab Tryz.prog 17 [az s] (.tp [exA (parR s).1, ai ((parR s).2.1 : Nat), ai (parR s).2.2]) := by
  have ht0 := (scnL_ok s (Nat.zero_le _)).1
  have c1 := scan_ab s 0 0 rfl (Nat.zero_le _) (by omega)
  have hps := (ps_all (s := s) (by omega) h40 (6 * s.length + 7) (scnL s 0) ht0).1 (by simp only [rkN, tagN]; omega)
  have hok := psF_ok s (6 * s.length + 7) .ex (scnL s 0) ht0 trivial
  unfold parR
  generalize scnL s 0 = t0 at *
  by_cases h0 : t0.kind = 0
  · rw [if_pos h0]
    simp only [exA, exC_mk, exCs_nil, List.length_nil]
    clear hps hok
    obtain ⟨kd, q, x⟩ := t0
    simp only at h0
    subst h0
    refine Ab_dfr (fr := [(2, .pt 2 0), (3, .pt 3 0), (4, .pt 4 0), (0, az s)]) (hp := [(2, [ai 0, ai 0, az [], nilS]), (3, [ai 0]), (4, [ai 0])]) (caps := [2, 3, 4]) (m := 6) (g := fP1) Tryz.func17 rfl rfl (by simp [Tryz.ntmps17]) ?_ ⟨rfl, rfl, rfl⟩ (by simp [Tryz.ntmps17]) ⟨rfl, rfl, rfl⟩ rfl (by intro k hk; simp only [List.mem_cons, List.not_mem_nil, or_false] at hk; rcases hk with rfl | rfl | rfl <;> rfl) parse1_ret ?_
    · simp only [num_cons, num_nil, Tryz.ntmps17]
      exact wq11
    simp only [Tryz.ntmps17, Tryz.results17]
    repeat' (first
 | ((with_reducible apply awO_bnz); (· rfl); (· rfl); (· rfl); (· exact sv); (with_reducible apply awO_st); (· exact svs))
 | ((with_reducible apply awO_ev); (· rfl); (· exact sv))
 | ((with_reducible apply aw_seq); intro _ _)
 | (with_reducible apply aw_region)
 | ((with_reducible first | apply awO_nil | apply aw_exit | apply aw_skip | apply aw_ret); (try simp only [CT, ↓reduceIte, Nat.reduceEqDiff]))
 | ((with_reducible apply aw_cond_true); (· exact sv))
 | (refine Kont.go ‹Kont _ _ _ _› _ ?_)
 | ((with_reducible apply awO_c); (· rfl); (· rfl); (· exact sv); (· (first | exact c1)); (· rfl); (· rfl); (· rfl); (· decide))
 | ((first | ((with_reducible apply awO_guardN); (· rfl); (· rfl); (· exact sv); (· exact nB)) | ((with_reducible apply aw_condN); (· exact sv))); (· exact pN); (· exact pN); all_goals (intro hg; try (exfalso; omega))))
    all_goals (refine retQ_mk3 (by first | exact .inr rfl | exact .inl rfl) sv sv rfl ?_; rfl)
  rw [if_neg h0]
  cases hR : psF s (6 * s.length + 7) .ex t0 with
  | er q y =>
    rw [hR] at hps
    simp only [OutC] at hps
    simp only [exA, exC_mk, exCs_nil, List.length_nil]
    clear hok hR
    obtain ⟨kd, q0, x⟩ := t0
    simp only at h0
    refine Ab_rec (fr := [(2, .pt 2 0), (3, .pt 3 0), (4, .pt 4 0), (0, az s)]) (hp := [(2, [ai 0, ai 0, az [], nilS]), (3, [ai 0]), (4, [ai 0])]) (caps := [2, 3, 4]) (m := 6) (g := fP1) (x := fltV q y) (hpP := [(2, [ai 0, ai 0, az [], nilS]), (3, [ai 0]), (4, [ai 0])]) (hpQ := [(2, [ai 0, ai 0, az [], .rd 0 []]), (3, [ai (q : Nat)]), (4, [ai y])]) Tryz.func17 rfl rfl (by simp [Tryz.ntmps17]) ?_ ⟨rfl, rfl, rfl⟩ (by simp [Tryz.ntmps17]) ⟨rfl, rfl, rfl⟩ rfl (by intro k hk; simp only [List.mem_cons, List.not_mem_nil, or_false] at hk; rcases hk with rfl | rfl | rfl <;> rfl) (parse1_panR _ _ _ _ _ _ _ _) ?_ rfl (by simp [keysH]) sN sN rfl rfl
    · simp only [num_cons, num_nil, Tryz.ntmps17]
      exact wq11
    simp only [Tryz.ntmps17, Tryz.results17]
    repeat' (first
 | ((with_reducible apply awO_bnz); (· rfl); (· rfl); (· rfl); (· exact sv); (with_reducible apply awO_st); (· exact svs))
 | ((with_reducible apply awO_ev); (· rfl); (· exact sv))
 | ((with_reducible apply aw_seq); intro _ _)
 | (with_reducible apply aw_region)
 | ((with_reducible first | apply awO_nil | apply aw_exit | apply aw_skip | apply aw_ret); (try simp only [CT, ↓reduceIte, Nat.reduceEqDiff]))
 | (refine Kont.go ‹Kont _ _ _ _› _ ?_)
 | ((with_reducible apply awO_c); (· rfl); (· rfl); (· exact sv); (· (first | exact c1 | exact hps)); (· rfl); (· rfl); (· rfl); (· decide))
 | ((with_reducible apply awO_pan); (· rfl); (· rfl); (· exact sv); (· (first | exact c1 | exact hps)); (· exact svq); (· rfl); (· exact nd); (try simp only [CT, CTP, ↓reduceIte, Nat.reduceEqDiff]))
 | ((first | ((with_reducible apply awO_guardN); (· rfl); (· rfl); (· exact sv); (· exact nB)) | ((with_reducible apply aw_condN); (· exact sv))); (· exact pN); (· exact pN); all_goals (intro hg; try (exfalso; omega))))
    simp only [St.gone, List.map_cons, List.map_nil, subL_cons, subL_nil, look_cut]
    simp (disch := first | omega | (refine id ?_; simp only [go_sem, List.length_cons, List.length_nil, List.length_map, List.all_cons, List.all_nil, List.drop_zero, List.drop_succ_cons, List.not_mem_nil, Bool.and_self, Bool.not_false, not_false_eq_true, implies_true, List.mem_cons, or_false, or_self, Nat.reduceAdd, Nat.reduceMul, Nat.reduceLeDiff, Nat.reduceEqDiff, Nat.reduceBEq, Bool.and_true]; done) | (refine id ?_; simp only [List.length_cons, List.length_nil, List.length_map, List.length_append, List.length_drop, List.length_take, List.length_replicate, flat2_len, flat3_len, flat4_len, flat5_len, flat6_len]; omega)) only [go_sem, Option.bind_some, Option.map_some, Option.bind_none, List.map_cons, List.map_nil, List.drop_succ_cons, List.drop_zero, List.take_succ_cons, List.take_zero, List.getElem?_cons_zero, List.getElem?_cons_succ, List.length_cons, List.length_nil, List.cons_append, List.nil_append, List.append_nil, List.set_cons_zero, List.set_cons_succ, List.any_cons, List.any_nil, List.replicate_succ, List.replicate_zero, Nat.add_zero, Nat.zero_add, Nat.sub_zero, Nat.mul_one, Nat.one_mul, Nat.zero_mul, Nat.mul_zero, Int.toNat_natCast, Int.toNat_zero, Int.toNat_one, Int.reduceToNat, Bool.or_false, Bool.false_or, Bool.and_self, Bool.and_true, Bool.true_and, Bool.false_eq_true, Nat.reduceBEq, ↓reduceIte, Nat.reduceAdd, Nat.reduceMul, Nat.reduceLeDiff, Nat.reduceEqDiff, List.not_mem_nil, List.mem_cons, or_false, false_or, or_true, true_or, eq_self, decide_true, decide_false, Int.cast_ofNat_Int, Int.reduceEq, Int.reduceLT, Int.reduceLE, Int.reduceAdd, Int.reduceSub, Int.reduceNeg, Bool.not_true, Bool.not_false, Bool.or_true, Bool.true_or, Bool.and_false, Bool.false_and, List.cons.injEq, reduceCtorEq, and_false, false_and, and_true, true_and]
    all_goals first | rfl | exact ⟨_, _, rfl⟩ | exact ⟨rfl, ⟨rfl, rfl, rfl, trivial⟩, ⟨rfl, rfl, rfl, trivial⟩, rfl, rfl⟩ | exact ⟨trivial, ⟨rfl, rfl, rfl, trivial⟩, ⟨rfl, rfl, rfl, trivial⟩, trivial, trivial⟩ | exact ⟨rfl, ⟨rfl, rfl, rfl, rfl, trivial⟩, ⟨rfl, rfl, rfl, trivial⟩, rfl, rfl⟩ | exact ⟨trivial, ⟨rfl, rfl, rfl, rfl, trivial⟩, ⟨rfl, rfl, rfl, trivial⟩, trivial, trivial⟩ | (refine ⟨?_, sN, sN, ?_, ?_⟩ <;> first | trivial | rfl)
  | ok e t1 =>
    rw [hR] at hps hok
    obtain ⟨hw, k1, l1, l2⟩ := hok
    have c3 := depth_ab (szE e) e (Nat.le_refl _) (by have := k1.le; simp only [szN] at l2; omega)
    obtain ⟨op, n, nm, ks⟩ := e
    simp only [OutC, exA, exC_mk] at hps c3
    simp only
    clear hR
    obtain ⟨kd, q0, x⟩ := t0
    simp only at h0
    by_cases h1 : t1.kind = 0
    rotate_left
    · rw [if_pos h1]
      simp only [exA, exC_mk, exCs_nil, List.length_nil]
      have c4 := reject_pan s t1
      obtain ⟨kd1, q1, x1⟩ := t1
      simp only at h1
      refine Ab_rec (fr := [(2, .pt 2 0), (3, .pt 3 0), (4, .pt 4 0), (0, az s)]) (hp := [(2, [ai 0, ai 0, az [], nilS]), (3, [ai 0]), (4, [ai 0])]) (caps := [2, 3, 4]) (m := 6) (g := fP1) (x := fltV q1 6) (hpP := [(2, [ai op, ai n, az nm, .rd ks.length (exCs ks)]), (3, [ai 0]), (4, [ai 0])]) (hpQ := [(2, [ai 0, ai 0, az [], .rd 0 []]), (3, [ai (q1 : Nat)]), (4, [ai 6])]) Tryz.func17 rfl rfl (by simp [Tryz.ntmps17]) ?_ ⟨rfl, rfl, rfl⟩ (by simp [Tryz.ntmps17]) ⟨rfl, rfl, rfl⟩ rfl (by intro k hk; simp only [List.mem_cons, List.not_mem_nil, or_false] at hk; rcases hk with rfl | rfl | rfl <;> rfl) (parse1_panR _ _ _ _ _ _ _ _) ?_ rfl (by simp [keysH]) sN sN rfl rfl
      · simp only [num_cons, num_nil, Tryz.ntmps17]
        exact wq11
      simp only [Tryz.ntmps17, Tryz.results17]
      repeat' (first
 | ((with_reducible apply awO_bnz); (· rfl); (· rfl); (· rfl); (· exact sv); (with_reducible apply awO_st); (· exact svs))
 | ((with_reducible apply awO_ev); (· rfl); (· exact sv))
 | ((with_reducible apply aw_seq); intro _ _)
 | (with_reducible apply aw_region)
 | ((with_reducible first | apply awO_nil | apply aw_exit | apply aw_skip | apply aw_ret); (try simp only [CT, ↓reduceIte, Nat.reduceEqDiff]))
 | (refine Kont.go ‹Kont _ _ _ _› _ ?_)
 | ((with_reducible apply awO_c); (· rfl); (· rfl); (· exact sv); (· (first | exact c1 | exact hps | exact c4)); (· rfl); (· rfl); (· rfl); (· decide))
 | ((with_reducible apply awO_m); (· rfl); (· rfl); (· exact sv); (· (first | exact c1 | exact hps | exact c4)); (· exact svq); (· exact svq); (· exact svq); (· exact svq); (· rfl); (· exact nd); (with_reducible apply awO_st); (· exact svs))
 | ((with_reducible apply awO_pan); (· rfl); (· rfl); (· exact sv); (· (first | exact c1 | exact hps | exact c4)); (· exact svq); (· rfl); (· exact nd); (try simp only [CT, CTP, ↓reduceIte, Nat.reduceEqDiff]))
 | ((first | ((with_reducible apply awO_guardN); (· rfl); (· rfl); (· exact sv); (· exact nB)) | ((with_reducible apply aw_condN); (· exact sv))); (· exact pN); (· exact pN); all_goals (intro hg; try (exfalso; omega))))
      simp only [St.gone, List.map_cons, List.map_nil, subL_cons, subL_nil, look_cut]
      simp (disch := first | omega | (refine id ?_; simp only [go_sem, List.length_cons, List.length_nil, List.length_map, List.all_cons, List.all_nil, List.drop_zero, List.drop_succ_cons, List.not_mem_nil, Bool.and_self, Bool.not_false, not_false_eq_true, implies_true, List.mem_cons, or_false, or_self, Nat.reduceAdd, Nat.reduceMul, Nat.reduceLeDiff, Nat.reduceEqDiff, Nat.reduceBEq, Bool.and_true]; done) | (refine id ?_; simp only [List.length_cons, List.length_nil, List.length_map, List.length_append, List.length_drop, List.length_take, List.length_replicate, flat2_len, flat3_len, flat4_len, flat5_len, flat6_len]; omega)) only [go_sem, Option.bind_some, Option.map_some, Option.bind_none, List.map_cons, List.map_nil, List.drop_succ_cons, List.drop_zero, List.take_succ_cons, List.take_zero, List.getElem?_cons_zero, List.getElem?_cons_succ, List.length_cons, List.length_nil, List.cons_append, List.nil_append, List.append_nil, List.set_cons_zero, List.set_cons_succ, List.any_cons, List.any_nil, List.replicate_succ, List.replicate_zero, Nat.add_zero, Nat.zero_add, Nat.sub_zero, Nat.mul_one, Nat.one_mul, Nat.zero_mul, Nat.mul_zero, Int.toNat_natCast, Int.toNat_zero, Int.toNat_one, Int.reduceToNat, Bool.or_false, Bool.false_or, Bool.and_self, Bool.and_true, Bool.true_and, Bool.false_eq_true, Nat.reduceBEq, ↓reduceIte, Nat.reduceAdd, Nat.reduceMul, Nat.reduceLeDiff, Nat.reduceEqDiff, List.not_mem_nil, List.mem_cons, or_false, false_or, or_true, true_or, eq_self, decide_true, decide_false, Int.cast_ofNat_Int, Int.reduceEq, Int.reduceLT, Int.reduceLE, Int.reduceAdd, Int.reduceSub, Int.reduceNeg, Bool.not_true, Bool.not_false, Bool.or_true, Bool.true_or, Bool.and_false, Bool.false_and, List.cons.injEq, reduceCtorEq, and_false, false_and, and_true, true_and]
      all_goals first | rfl | exact ⟨_, _, rfl⟩ | exact ⟨rfl, ⟨rfl, rfl, rfl, trivial⟩, ⟨rfl, rfl, rfl, trivial⟩, rfl, rfl⟩ | exact ⟨trivial, ⟨rfl, rfl, rfl, trivial⟩, ⟨rfl, rfl, rfl, trivial⟩, trivial, trivial⟩ | exact ⟨rfl, ⟨rfl, rfl, rfl, rfl, trivial⟩, ⟨rfl, rfl, rfl, trivial⟩, rfl, rfl⟩ | exact ⟨trivial, ⟨rfl, rfl, rfl, rfl, trivial⟩, ⟨rfl, rfl, rfl, trivial⟩, trivial, trivial⟩ | (refine ⟨?_, sN, sN, ?_, ?_⟩ <;> first | trivial | rfl)
    rw [if_neg (fun h => h h1)]
    obtain ⟨kd1, q1, x1⟩ := t1
    simp only at h1
    subst h1
    generalize hdd : dpE (.mk op n nm ks) = dd at *
    by_cases h2 : 32 < dd
    · rw [if_pos h2]
      simp only [exA, exC_mk, exCs_nil, List.length_nil]
      refine Ab_rec (fr := [(2, .pt 2 0), (3, .pt 3 0), (4, .pt 4 0), (0, az s)]) (hp := [(2, [ai 0, ai 0, az [], nilS]), (3, [ai 0]), (4, [ai 0])]) (caps := [2, 3, 4]) (m := 6) (g := fP1) (x := fltV 0 5) (hpP := [(2, [ai op, ai n, az nm, .rd ks.length (exCs ks)]), (3, [ai 0]), (4, [ai 0])]) (hpQ := [(2, [ai 0, ai 0, az [], .rd 0 []]), (3, [ai (0 : Nat)]), (4, [ai 5])]) Tryz.func17 rfl rfl (by simp [Tryz.ntmps17]) ?_ ⟨rfl, rfl, rfl⟩ (by simp [Tryz.ntmps17]) ⟨rfl, rfl, rfl⟩ rfl (by intro k hk; simp only [List.mem_cons, List.not_mem_nil, or_false] at hk; rcases hk with rfl | rfl | rfl <;> rfl) (parse1_panR _ _ _ _ _ _ _ _) ?_ rfl (by simp [keysH]) sN sN rfl rfl
      · simp only [num_cons, num_nil, Tryz.ntmps17]
        exact wq11
      simp only [Tryz.ntmps17, Tryz.results17]
      repeat' (first
 | ((with_reducible apply awO_bnz); (· rfl); (· rfl); (· rfl); (· exact sv); (with_reducible apply awO_st); (· exact svs))
 | ((with_reducible apply awO_mki); (· rfl); (· rfl); (· exact svp); (· exact sv); (· exact sv); (· rfl); (· exact nd))
 | ((with_reducible apply awO_panic); (· rfl); (· rfl); (· exact sv); (· exact ⟨_, _, rfl⟩); (try simp only [CT, CTP, ↓reduceIte, Nat.reduceEqDiff]))
 | ((with_reducible apply awO_ev); (· rfl); (· exact sv))
 | ((with_reducible apply aw_seq); intro _ _)
 | (with_reducible apply aw_region)
 | ((with_reducible first | apply awO_nil | apply aw_exit | apply aw_skip | apply aw_ret); (try simp only [CT, ↓reduceIte, Nat.reduceEqDiff]))
 | ((with_reducible apply aw_cond_false); (· exact sv))
 | (refine Kont.go ‹Kont _ _ _ _› _ ?_)
 | ((with_reducible apply awO_c); (· rfl); (· rfl); (· exact sv); (· (first | exact c1 | exact hps | exact c3)); (· rfl); (· rfl); (· rfl); (· decide))
 | ((with_reducible apply awO_m); (· rfl); (· rfl); (· exact sv); (· (first | exact c1 | exact hps | exact c3)); (· exact svq); (· exact svq); (· exact svq); (· exact svq); (· rfl); (· exact nd); (with_reducible apply awO_st); (· exact svs))
 | ((first | ((with_reducible apply awO_guardN); (· rfl); (· rfl); (· exact sv); (· exact nB)) | ((with_reducible apply aw_condN); (· exact sv))); (· exact pN); (· exact pN); all_goals (intro hg; try (exfalso; omega))))
      simp only [St.gone, List.map_cons, List.map_nil, subL_cons, subL_nil, look_cut]
      simp (disch := first | omega | (refine id ?_; simp only [go_sem, List.length_cons, List.length_nil, List.length_map, List.all_cons, List.all_nil, List.drop_zero, List.drop_succ_cons, List.not_mem_nil, Bool.and_self, Bool.not_false, not_false_eq_true, implies_true, List.mem_cons, or_false, or_self, Nat.reduceAdd, Nat.reduceMul, Nat.reduceLeDiff, Nat.reduceEqDiff, Nat.reduceBEq, Bool.and_true]; done) | (refine id ?_; simp only [List.length_cons, List.length_nil, List.length_map, List.length_append, List.length_drop, List.length_take, List.length_replicate, flat2_len, flat3_len, flat4_len, flat5_len, flat6_len]; omega)) only [go_sem, Option.bind_some, Option.map_some, Option.bind_none, List.map_cons, List.map_nil, List.drop_succ_cons, List.drop_zero, List.take_succ_cons, List.take_zero, List.getElem?_cons_zero, List.getElem?_cons_succ, List.length_cons, List.length_nil, List.cons_append, List.nil_append, List.append_nil, List.set_cons_zero, List.set_cons_succ, List.any_cons, List.any_nil, List.replicate_succ, List.replicate_zero, Nat.add_zero, Nat.zero_add, Nat.sub_zero, Nat.mul_one, Nat.one_mul, Nat.zero_mul, Nat.mul_zero, Int.toNat_natCast, Int.toNat_zero, Int.toNat_one, Int.reduceToNat, Bool.or_false, Bool.false_or, Bool.and_self, Bool.and_true, Bool.true_and, Bool.false_eq_true, Nat.reduceBEq, ↓reduceIte, Nat.reduceAdd, Nat.reduceMul, Nat.reduceLeDiff, Nat.reduceEqDiff, List.not_mem_nil, List.mem_cons, or_false, false_or, or_true, true_or, eq_self, decide_true, decide_false, Int.cast_ofNat_Int, Int.reduceEq, Int.reduceLT, Int.reduceLE, Int.reduceAdd, Int.reduceSub, Int.reduceNeg, Bool.not_true, Bool.not_false, Bool.or_true, Bool.true_or, Bool.and_false, Bool.false_and, List.cons.injEq, reduceCtorEq, and_false, false_and, and_true, true_and]
      all_goals first | rfl | exact ⟨_, _, rfl⟩ | exact ⟨rfl, ⟨rfl, rfl, rfl, trivial⟩, ⟨rfl, rfl, rfl, trivial⟩, rfl, rfl⟩ | exact ⟨trivial, ⟨rfl, rfl, rfl, trivial⟩, ⟨rfl, rfl, rfl, trivial⟩, trivial, trivial⟩ | exact ⟨rfl, ⟨rfl, rfl, rfl, rfl, trivial⟩, ⟨rfl, rfl, rfl, trivial⟩, rfl, rfl⟩ | exact ⟨trivial, ⟨rfl, rfl, rfl, rfl, trivial⟩, ⟨rfl, rfl, rfl, trivial⟩, trivial, trivial⟩ | (refine ⟨?_, sN, sN, ?_, ?_⟩ <;> first | trivial | rfl)
    · rw [if_neg h2]
      simp only [exA, exC_mk]
      refine Ab_dfr (fr := [(2, .pt 2 0), (3, .pt 3 0), (4, .pt 4 0), (0, az s)]) (hp := [(2, [ai 0, ai 0, az [], nilS]), (3, [ai 0]), (4, [ai 0])]) (caps := [2, 3, 4]) (m := 6) (g := fP1) Tryz.func17 rfl rfl (by simp [Tryz.ntmps17]) ?_ ⟨rfl, rfl, rfl⟩ (by simp [Tryz.ntmps17]) ⟨rfl, rfl, rfl⟩ rfl (by intro k hk; simp only [List.mem_cons, List.not_mem_nil, or_false] at hk; rcases hk with rfl | rfl | rfl <;> rfl) parse1_ret ?_
      · simp only [num_cons, num_nil, Tryz.ntmps17]
        exact wq11
      simp only [Tryz.ntmps17, Tryz.results17]
      repeat' (first
 | ((with_reducible apply awO_bnz); (· rfl); (· rfl); (· rfl); (· exact sv); (with_reducible apply awO_st); (· exact svs))
 | ((with_reducible apply awO_ev); (· rfl); (· exact sv))
 | ((with_reducible apply aw_seq); intro _ _)
 | (with_reducible apply aw_region)
 | ((with_reducible first | apply awO_nil | apply aw_exit | apply aw_skip | apply aw_ret); (try simp only [CT, ↓reduceIte, Nat.reduceEqDiff]))
 | ((with_reducible apply aw_cond_false); (· exact sv))
 | (refine Kont.go ‹Kont _ _ _ _› _ ?_)
 | ((with_reducible apply awO_c); (· rfl); (· rfl); (· exact sv); (· (first | exact c1 | exact hps | exact c3)); (· rfl); (· rfl); (· rfl); (· decide))
 | ((with_reducible apply awO_m); (· rfl); (· rfl); (· exact sv); (· (first | exact c1 | exact hps | exact c3)); (· exact svq); (· exact svq); (· exact svq); (· exact svq); (· rfl); (· exact nd); (with_reducible apply awO_st); (· exact svs))
 | ((first | ((with_reducible apply awO_guardN); (· rfl); (· rfl); (· exact sv); (· exact nB)) | ((with_reducible apply aw_condN); (· exact sv))); (· exact pN); (· exact pN); all_goals (intro hg; try (exfalso; omega))))
      all_goals (refine retQ_mk3 (by first | exact .inr rfl | exact .inl rfl) sv sv rfl ?_; rfl)
end Go.Proofs.YtogmppcfopgkdaaGreatDoor
