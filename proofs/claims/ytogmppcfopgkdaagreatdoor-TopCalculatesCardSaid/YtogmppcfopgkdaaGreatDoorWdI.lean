/- Words: parameters and quotes, on the abstract machine. -/
import Derived.Test.YtogmppcfopgkdaaGreatDoorWdF
import Derived.Test.YtogmppcfopgkdaaGreatDoorCaK
namespace Go.Proofs.YtogmppcfopgkdaaGreatDoor
open Go.RowKit
set_option linter.unusedVariables false
set_option linter.unusedSimpArgs false
set_option maxRecDepth 100000
set_option maxHeartbeats 8000000
section
variable {s T : List UInt8} {at1 pl lv op dp : Int} {opd : Bool} {Ls Ms : List Pt}
theorem dollar_x {i : Nat} {a2 : Int} {T2 : List UInt8} {L2 : List Pt} (hs : s.length ≤ 10000) (hi : i + 1 < s.length) (hx : s[i + 1] = 120) (he : i + 1 + 1 = s.length ∨ ∃ h : i + 1 + 1 < s.length, s[i + 1 + 1] = 34)
    (ha : Fn Tryz.prog fAdd [.pt 200 0, .ag [ai 4, az [120], ai 0, ab false, .rd 0 []], ai ((i : Int) + 1 + 1)] (scH s i pl false lv op dp T Ls) (.tp []) (scH s a2 pl false lv op dp T2 L2) [200]) :
    Fn Tryz.prog fDollar [.pt 200 0] (scH s i pl false lv op dp T Ls) (.tp []) (scH s a2 pl false lv op dp T2 L2) [200] := by
  have hd : s.drop (i + 1) = 120 :: s.drop (i + 1 + 1) := by rw [List.drop_eq_getElem_cons hi, hx]
  have hlen : 0 < (s.drop (i + 1)).length := by rw [hd]; simp
  have c1 := hasPrefix_ab (s.drop (i + 1)) [40, 40]
  have c2 := hasPrefix_ab (s.drop (i + 1)) [40]
  have c3 := hasPrefix_ab (s.drop (i + 1)) [123]
  rw [show ([40, 40] : List UInt8).isPrefixOf (s.drop (i + 1)) = false by rw [hd]; rfl] at c1
  rw [show ([40] : List UInt8).isPrefixOf (s.drop (i + 1)) = false by rw [hd]; rfl] at c2
  rw [show ([123] : List UInt8).isPrefixOf (s.drop (i + 1)) = false by rw [hd]; rfl] at c3
  have h0 : (s.drop (i + 1))[0] = 120 := by
    have := List.getElem_drop (xs := s) (i := i + 1) (j := 0) (h := hlen)
    rw [this]
    exact hx
  have h0i : ((s.drop (i + 1))[0].toNat : Int) = 120 := by rw [h0]; rfl
  have c4 := digitB_ab (s.drop (i + 1))[0]
  rw [h0i] at c4
  have c5 := parameter_x (at1 := i) (pl := pl) (opd := false) (lv := lv) (op := op) (dp := dp) (T := T) (Ls := Ls) hs hi hx he
  have c6 := name_x (at1 := i) (pl := pl) (opd := false) (lv := lv) (op := op) (dp := dp) (T := T) (Ls := Ls) (i : Int) hs hi hx
  have e1 : ((i + 1 : Nat) : Int) = (i : Int) + 1 := by omega
  have e2 : ((i + 1 + 1 : Nat) : Int) = (i : Int) + 1 + 1 := by omega
  rw [e1, e2] at c5
  rw [e1, e2] at c6
  have ht : List.take (((i : Int) + 1 + 1).toNat - (i + 1)) (List.drop (i + 1) s) = [120] := by
    rw [hd, show ((i : Int) + 1 + 1).toNat - (i + 1) = 1 by omega]
    rfl
  have ha2 : Fn Tryz.prog fAdd [.pt 200 0, .ag [ai 4, az (List.take (((i : Int) + 1 + 1).toNat - (i + 1)) (List.drop (i + 1) s)), ai 0, ab false, .v (.slice none 0 0)], ai ((i : Int) + 1 + 1)] (scH s i pl false lv op dp T Ls) (.tp []) (scH s a2 pl false lv op dp T2 L2) [200] := Fn_nz (by rw [ht]; exact ha)
  simp only [scH, scC] at c5 c6 ha2 ⊢
  refine Fn_of_aw (keep := [200, 201, 202]) Tryz.func109 rfl rfl (by simp [Tryz.ntmps109]) (aw_wk ?_)
  simp only [num_cons, num_nil, Tryz.ntmps109, Tryz.results109]
  repeat' (first
 | ((with_reducible apply awY_p); (· exact sH); (with_reducible apply awP_1); (· decide +kernel))
 | ((with_reducible apply awO_ev); (· rfl); (· exact sv))
 | ((with_reducible apply aw_seq); intro _ _)
 | (with_reducible apply aw_region)
 | (with_reducible apply aw_block)
 | ((with_reducible first | apply awO_nil | apply aw_exit | apply aw_skip | apply aw_ret); (try simp only [CT, ↓reduceIte, Nat.reduceEqDiff]))
 | ((with_reducible apply awO_y); (· rfl); (· rfl); (· decide); (· exact sv); (· exact sv))
 | ((with_reducible apply aw_cond_false); (· exact sv))
 | ((with_reducible apply awO_un); (· rfl); (· decide); (· exact sv))
 | (refine Kont.go ‹Kont _ _ _ _› _ ?_)
 | ((with_reducible apply awO_c); (· rfl); (· rfl); (· exact sv); (· (first | exact c1 | exact c2 | exact c3 | exact c4 | exact c5 | exact c6 | exact ha2)); (· rfl); (· rfl); (· rfl); (· decide))
 | ((with_reducible apply awO_m); (· rfl); (· rfl); (· exact sv); (· (first | exact c1 | exact c2 | exact c3 | exact c4 | exact c5 | exact c6 | exact ha2)); (· exact svq); (· exact svq); (· exact svq); (· exact svq); (· rfl); (· exact nd); (with_reducible apply awO_st); (· exact svs))
 | ((with_reducible apply aw_draw); (· decide +kernel); (simp only [List.size_toArray, List.length_cons, List.length_nil, Nat.reduceAdd]))
 | ((with_reducible apply awY_done); (· decide +kernel); (try simp only [CT, ↓reduceIte, Nat.reduceEqDiff]))
 | ((with_reducible apply awY_q); (· exact sQ); (· exact np); (· exact svg); (· rfl); (· exact sv))
 | ((with_reducible apply awI_ev); (· exact svg); (· rfl); (· exact sv))
 | ((with_reducible apply awI_m); (· exact svg); (· decide +kernel); (· rfl); (· rfl); (· exact sv); (· (first | exact c1 | exact c2 | exact c3 | exact c4 | exact c5 | exact c6 | exact ha2)); (· exact svq); (· exact svq); (· exact svq); (· exact svq); (· rfl); (· exact nd); (with_reducible apply awY_st); (· exact svs))
 | ((first | ((with_reducible apply awO_guardN); (· rfl); (· rfl); (· exact sv); (· exact nB)) | ((with_reducible apply aw_condN); (· exact sv))); (· exact pN); (· exact pN); all_goals (intro hg; try (exfalso; omega))))
  all_goals first | (exfalso; omega) | (refine wk_id ?_; refine retQ_mkL (by first | exact .inr rfl | exact .inl rfl) sv sv rfl ?_ rfl)
  all_goals exact ⟨⟨by simp, rfl⟩, ⟨by simp, ro_by _ _ _⟩, ⟨by simp, ro_pt _ _ _⟩, trivial⟩
theorem unq_quote {i : Nat} {kn : Nat} {kc : List AV} {e : Int} {a2 : Int} {T2 : List UInt8} {L2 : List Pt} (hs : s.length ≤ 10000) (hi : i < s.length) (hlv : lv ≤ 31) (hke : 0 ≤ e ∧ e ≤ 10000)
    (hn : Fn Tryz.prog fNested [.pt 200 0, ai ((i : Int) + 1), ai i, ai 1, ab false] (scH s i 0 false lv op dp T Ls) (.tp [.rd kn kc, ai e]) (scH s i 0 false lv op dp T Ls) [200])
    (ha : Fn Tryz.prog fAdd [.pt 200 0, .ag [ai 3, az [], ai 0, ab false, .rd kn kc], ai (e + 1)] (scH s i 0 false lv op dp T Ls) (.tp []) (scH s a2 0 false lv op dp T2 L2) [200]) :
    ∀ c : UInt8, (c.toNat : Int) = 34 → Fn Tryz.prog fUnq [.pt 200 0, au c] (scH s i 0 false lv op dp T Ls) (.tp []) (scH s a2 0 false lv op dp T2 L2) [200] := by
  intro c hc
  simp only [scH, scC] at hn ha ⊢
  refine Fn_of_aw (keep := [200, 201, 202]) Tryz.func111 rfl rfl (by simp [Tryz.ntmps111]) (aw_wk ?_)
  simp only [num_cons, num_nil, Tryz.ntmps111, Tryz.results111]
  repeat' (first
 | ((with_reducible apply awY_p); (· exact sH); (with_reducible apply awP_1); (· decide +kernel))
 | ((with_reducible apply awO_ev); (· rfl); (· exact sv))
 | ((with_reducible apply aw_seq); intro _ _)
 | (with_reducible apply aw_region)
 | (with_reducible apply aw_block)
 | ((with_reducible first | apply awO_nil | apply aw_exit | apply aw_skip | apply aw_ret); (try simp only [CT, ↓reduceIte, Nat.reduceEqDiff]))
 | (refine Kont.go ‹Kont _ _ _ _› _ ?_)
 | ((with_reducible apply awO_m); (· rfl); (· rfl); (· exact sv); (· (first | exact hn | exact ha)); (· exact svq); (· exact svq); (· exact svq); (· exact svq); (· rfl); (· exact nd); (with_reducible apply awO_st); (· exact svs))
 | ((with_reducible apply aw_draw); (· decide +kernel); (simp only [List.size_toArray, List.length_cons, List.length_nil, Nat.reduceAdd]))
 | ((with_reducible apply awY_done); (· decide +kernel); (try simp only [CT, ↓reduceIte, Nat.reduceEqDiff]))
 | ((with_reducible apply awY_q); (· exact sQ); (· exact np); (· exact svg); (· rfl); (· exact sv))
 | ((with_reducible apply awI_ev); (· exact svg); (· rfl); (· exact sv))
 | ((with_reducible apply awI_m); (· exact svg); (· decide +kernel); (· rfl); (· rfl); (· exact sv); (· (first | exact hn | exact ha)); (· exact svq); (· exact svq); (· exact svq); (· exact svq); (· rfl); (· exact nd); (with_reducible apply awY_st); (· exact svs))
 | ((first | ((with_reducible apply awO_guardN); (· rfl); (· rfl); (· exact sv); (· exact nB)) | ((with_reducible apply aw_condN); (· exact sv))); (· exact pN); (· exact pN); all_goals (intro hg; try (exfalso; omega))))
  all_goals first | (exfalso; omega) | (refine wk_id ?_; refine retQ_mkL (by first | exact .inr rfl | exact .inl rfl) sv sv rfl ?_ rfl)
  all_goals exact ⟨⟨by simp, rfl⟩, ⟨by simp, ro_by _ _ _⟩, ⟨by simp, ro_pt _ _ _⟩, trivial⟩
end
end Go.Proofs.YtogmppcfopgkdaaGreatDoor
/- Words: Parse, on the abstract machine. -/
namespace Go.Proofs.YtogmppcfopgkdaaGreatDoor
open Go.RowKit
set_option linter.unusedVariables false
set_option linter.unusedSimpArgs false
set_option maxRecDepth 100000
set_option maxHeartbeats 8000000
abbrev fPw1 : FuncId := 41
theorem parsew1_ret : FnD Tryz.prog fPw1 [.un, .un, .un] [] .returning [] [] .returning := by
  refine FnD_of_aw (i0 := 0) (d1 := 6) (d2 := 3) (x := .nilIface) Tryz.func41 rfl rfl rfl (by simp) (by simp [Tryz.ntmps41]) (by simp [Tryz.ntmps41]) ⟨rfl, rfl, rfl⟩ ⟨rfl, rfl, rfl⟩ (fun c cs h => .inr ⟨recD_ret c cs h, rfl, rfl⟩) ?_
  simp only [num_cons, num_nil, Tryz.ntmps41]
  exact wq10
theorem wparse_ab {s : List UInt8} {Ms : List Pt} {e : Int} (hs : s.length ≤ 10000) (hp : Fn Tryz.prog fSParse [.pt 200 0] (scH s 0 0 false 1 (-1) 0 [] []) (.tp []) (scH s e 0 false 1 (-1) 0 [] Ms) [200]) :
    Ab Tryz.prog 19 [az s, ai 0] (.tp [.rd Ms.length (ptC Ms), ai 0, ai 0]) := by
  have c1 := hp.ren (sw3 16) (sw3_inv 16 (by omega))
  simp only [renAs_cons, renAs_nil, renA_pt, renA_v, renA_rd, renA_ag, renA_os, renA_tp, renH, scH, scC, List.map_cons, List.map_nil, renAs_pts, List.length_nil] at c1
  have c2 : Fn Tryz.prog fSParse [.pt 16 0] [(16, [az s, ai 0, ai 0, ab false, ai 1, ai (-1), ai 0, .os 301 0 1 0, .os 302 0 5 0]), (301, []), (302, [])] (.tp []) [(16, [az s, ai e, ai 0, ab false, ai 1, ai (-1), ai 0, .os 301 0 1 0, .os 302 0 5 Ms.length]), (301, []), (302, ptC Ms)] [16] := c1
  clear c1 hp
  have q1 := ptC_len Ms
  refine Ab_dfr (fr := [(4, .pt 4 0), (5, .pt 5 0), (6, .pt 6 0), (0, az s), (1, ai 0)]) (hp := [(4, [nilS]), (5, [ai 0]), (6, [ai 0])]) (caps := [4, 5, 6]) (m := 8) (g := fPw1) Tryz.func19 rfl rfl (by simp [Tryz.ntmps19]) ?_ ⟨rfl, rfl, rfl⟩ (by simp [Tryz.ntmps19]) ⟨rfl, rfl, rfl⟩ rfl (by intro k hk; simp only [List.mem_cons, List.not_mem_nil, or_false] at hk; rcases hk with rfl | rfl | rfl <;> rfl) parsew1_ret ?_
  · simp only [num_cons, num_nil, Tryz.ntmps19]
    repeat' (first
 | ((with_reducible apply awO_ev); (· rfl); (· exact sv))
 | (with_reducible apply aw_region)
 | ((with_reducible first | apply awO_nil | apply aw_exit | apply aw_skip | apply aw_ret); (try simp only [CT, ↓reduceIte, Nat.reduceEqDiff])))
    all_goals first | exact ⟨rfl, ⟨rfl, rfl, rfl, rfl, rfl, trivial⟩, ⟨rfl, rfl, rfl, trivial⟩, rfl, rfl⟩ | exact ⟨trivial, ⟨rfl, rfl, rfl, rfl, rfl, trivial⟩, ⟨rfl, rfl, rfl, trivial⟩, trivial, trivial⟩
  simp only [Tryz.ntmps19, Tryz.results19]
  repeat' (first
 | ((with_reducible apply awO_ev); (· rfl); (· exact sv))
 | ((with_reducible apply aw_seq); intro _ _)
 | (with_reducible apply aw_region)
 | ((with_reducible first | apply awO_nil | apply aw_exit | apply aw_skip | apply aw_ret); (try simp only [CT, ↓reduceIte, Nat.reduceEqDiff]))
 | (refine Kont.go ‹Kont _ _ _ _› _ ?_)
 | ((first | ((with_reducible apply awO_guardN); (· rfl); (· rfl); (· exact sv); (· exact nB)) | ((with_reducible apply aw_condN); (· exact sv))); (· exact pN); (· exact pN); all_goals (intro hg; try (exfalso; omega))))
  refine awO_virtC 16 7 301 1 rfl rfl (by omega) (by simp) (by omega) ?_
  refine awO_virtC 16 8 302 5 rfl rfl (by omega) (by simp) (by omega) ?_
  simp (disch := first | omega | (refine id ?_; simp only [go_sem, List.length_cons, List.length_nil, List.length_map, List.all_cons, List.all_nil, List.drop_zero, List.drop_succ_cons, List.not_mem_nil, Bool.and_self, Bool.not_false, not_false_eq_true, implies_true, List.mem_cons, or_false, or_self, Nat.reduceAdd, Nat.reduceMul, Nat.reduceLeDiff, Nat.reduceEqDiff, Nat.reduceBEq, Bool.and_true]; done) | (refine id ?_; simp only [List.length_cons, List.length_nil, List.length_map, List.length_append, List.length_drop, List.length_take, List.length_replicate, flat2_len, flat3_len, flat4_len, flat5_len, flat6_len]; omega)) only [go_sem, Option.bind_some, Option.map_some, Option.bind_none, List.map_cons, List.map_nil, List.drop_succ_cons, List.drop_zero, List.take_succ_cons, List.take_zero, List.getElem?_cons_zero, List.getElem?_cons_succ, List.length_cons, List.length_nil, List.cons_append, List.nil_append, List.append_nil, List.set_cons_zero, List.set_cons_succ, List.any_cons, List.any_nil, List.replicate_succ, List.replicate_zero, Nat.add_zero, Nat.zero_add, Nat.sub_zero, Nat.mul_one, Nat.one_mul, Nat.zero_mul, Nat.mul_zero, Int.toNat_natCast, Int.toNat_zero, Int.toNat_one, Int.reduceToNat, Bool.or_false, Bool.false_or, Bool.and_self, Bool.and_true, Bool.true_and, Bool.false_eq_true, Nat.reduceBEq, ↓reduceIte, Nat.reduceAdd, Nat.reduceMul, Nat.reduceLeDiff, Nat.reduceEqDiff, List.not_mem_nil, List.mem_cons, or_false, false_or, or_true, true_or, eq_self, decide_true, decide_false, Int.cast_ofNat_Int, Int.reduceEq, Int.reduceLT, Int.reduceLE, Int.reduceAdd, Int.reduceSub, Int.reduceNeg, Bool.not_true, Bool.not_false, Bool.or_true, Bool.true_or, Bool.and_false, Bool.false_and, List.cons.injEq, reduceCtorEq, and_false, false_and, and_true, true_and]
  repeat' (first
 | ((with_reducible apply awO_ev); (· rfl); (· exact sv))
 | ((with_reducible apply aw_seq); intro _ _)
 | (with_reducible apply aw_region)
 | ((with_reducible first | apply awO_nil | apply aw_exit | apply aw_skip | apply aw_ret); (try simp only [CT, ↓reduceIte, Nat.reduceEqDiff]))
 | (refine Kont.go ‹Kont _ _ _ _› _ ?_)
 | ((with_reducible apply awO_m); (· rfl); (· rfl); (· exact sv); (· (first | exact c2)); (· exact svq); (· exact svq); (· exact svq); (· exact svq); (· rfl); (· exact nd); (with_reducible apply awO_st); (· exact svs)))
  all_goals (refine retQ_mk3 (by first | exact .inr rfl | exact .inl rfl) sv sv rfl ?_; rfl)
theorem wParse_ab {s : List UInt8} {Ms : List Pt} {e : Int} (hs : s.length ≤ 10000) (hp : Fn Tryz.prog fSParse [.pt 200 0] (scH s 0 0 false 1 (-1) 0 [] []) (.tp []) (scH s e 0 false 1 (-1) 0 [] Ms) [200]) :
    Ab Tryz.prog 8 [az s] (.tp [.rd Ms.length (ptC Ms), ai 0, ai 0]) := by
  have c1 := wparse_ab hs hp
  generalize ptC Ms = C at *
  refine Fn_of_aw (keep := []) Tryz.func8 rfl rfl (by simp [Tryz.ntmps8]) ?_
  simp only [num_cons, num_nil, Tryz.ntmps8, Tryz.results8]
  exact wkA
end Go.Proofs.YtogmppcfopgkdaaGreatDoor
/- Words: the three words that are parsed, on the abstract machine. -/
namespace Go.Proofs.YtogmppcfopgkdaaGreatDoor
open Go.RowKit
set_option linter.unusedVariables false
set_option linter.unusedSimpArgs false
set_option maxRecDepth 100000
set_option maxHeartbeats 8000000
abbrev ptX : Pt := ⟨4, [120], 0, false, 0, []⟩
abbrev wX : List UInt8 := [36, 120]
abbrev wQ : List UInt8 := [112, 34, 36, 120, 34, 113]
abbrev ptD : Pt := ⟨3, [], 0, false, 1, ptC [ptX]⟩
section
variable {T : List UInt8} {lv op dp : Int} {Ls : List Pt}
def two {α : Type} (a b : α) : Nat → α
  | 0 => a
  | _ + 1 => b
theorem parse_x : Ab Tryz.prog 8 [az wX] (.tp [.rd 1 (ptC [ptX]), ai 0, ai 0]) := by
  have hf := flush_nil (s := wX) (at1 := (0 : Nat)) (pl := 0) (opd := false) (lv := 1) (op := -1) (dp := 0) (Ls := [])
  have ha := add_fn 4 [120] 0 false 0 [] 2 (by simp) hf
  have hd : Fn Tryz.prog fDollar [.pt 200 0] (scH wX (0 : Nat) 0 false 1 (-1) 0 [] []) (.tp []) (scH wX 2 0 false 1 (-1) 0 [] [ptX]) [200] := dollar_x (by decide) (by decide) rfl (.inl rfl) ha
  have hn := next_dollar (i := 0) (by decide) (by decide) rfl hd
  have := sparse_fn (s := wX) (pl := 0) (lv := 1) (op := -1) 1 (two 0 2) (fun _ => []) (two [] [ptX]) [ptX]
    (fun j hj => by
      obtain rfl : j = 0 := by omega
      exact ended_bare (i := 0) (by decide) (by decide))
    (ended_end (by decide) (by decide))
    (fun j hj => by
      obtain rfl : j = 0 := by omega
      exact hn)
    flush_nil
  exact wParse_ab (by decide) this
theorem parse_q : Ab Tryz.prog 8 [az wQ] (.tp [.rd 3 (ptC [⟨1, [112], 0, false, 0, []⟩, ptD, ⟨1, [113], 0, false, 0, []⟩]), ai 0, ai 0]) := by
  -- what lies within the quotes
  have hf1 := flush_nil (s := wQ) (at1 := (2 : Nat)) (pl := 1) (opd := false) (lv := 2) (op := 1) (dp := 0) (Ls := [])
  have ha1 := add_fn 4 [120] 0 false 0 [] 4 (by simp) hf1
  have hd1 : Fn Tryz.prog fDollar [.pt 200 0] (scH wQ (2 : Nat) 1 false 2 1 0 [] []) (.tp []) (scH wQ 4 1 false 2 1 0 [] [ptX]) [200] := dollar_x (by decide) (by decide) rfl (.inr ⟨by decide, rfl⟩) ha1
  have hn1 := next_dollar (i := 2) (by decide) (by decide) rfl hd1
  have hin := sparse_fn (s := wQ) (pl := 1) (lv := 2) (op := 1) 1 (two 2 4) (fun _ => []) (two [] [ptX]) [ptX]
    (fun j hj => by
      obtain rfl : j = 0 := by omega
      exact ended_dbl (i := 2) (by decide) (by decide))
    (ended_dbl (i := 4) (by decide) (by decide))
    (fun j hj => by
      obtain rfl : j = 0 := by omega
      exact hn1)
    flush_nil
  have hnest : Fn Tryz.prog fNested [.pt 200 0, ai (((1 : Nat) : Int) + 1), ai (1 : Nat), ai 1, ab false] (scH wQ (1 : Nat) 0 false 1 (-1) 0 [112] []) (.tp [.rd 1 (ptC [ptX]), ai 4]) (scH wQ (1 : Nat) 0 false 1 (-1) 0 [112] []) [200] := nested_fn (s := wQ) (T := [112]) (at1 := (1 : Nat)) (pl := 0) (opd := false) (lv := 1) (op := -1) (dp := 0) (Ls := []) (Ms := [ptX]) 2 1 1 4 (by omega) hin
  have hf2 := flush_ne (s := wQ) (T := [112]) (at1 := (1 : Nat)) (pl := 0) (opd := false) (lv := 1) (op := -1) (dp := 0) (Ls := []) (by simp) (by simp) (by simp)
  have ha2 := add_fn 3 [] 0 false 1 (ptC [ptX]) (4 + 1) (by simp) hf2
  have hu2 := unq_quote (s := wQ) (i := 1) (by decide) (by decide) (by omega) (by omega) hnest ha2
  have hn2 := next_bare (s := wQ) (i := 1) (Hq := []) (by decide) (by decide) (by decide) (by decide) (by decide) (hu2 34 rfl)
  have hn0 := next_bare (s := wQ) (i := 0) (Hq := []) (lv := 1) (op := -1) (dp := 0) (T := []) (Ls := []) (by decide) (by decide) (by decide) (by decide) (by decide) (unq_lit 112 (0 : Nat) (by omega) (by omega) (by simp) (.inl rfl))
  have hn5 := next_bare (s := wQ) (i := 5) (Hq := []) (lv := 1) (op := -1) (dp := 0) (T := []) (Ls := [⟨1, [112], 0, false, 0, []⟩, ptD]) (by decide) (by decide) (by decide) (by decide) (by decide) (unq_lit 113 (5 : Nat) (by omega) (by omega) (by simp) (.inr rfl))
  have hfl := flush_ne (s := wQ) (T := [113]) (at1 := (6 : Nat)) (pl := 0) (opd := false) (lv := 1) (op := -1) (dp := 0) (Ls := [⟨1, [112], 0, false, 0, []⟩, ptD]) (by simp) (by simp) (by simp)
  have := sparse_fn (s := wQ) (pl := 0) (lv := 1) (op := -1) 3 (fun j => match j with | 0 => 0 | 1 => 1 | 2 => 5 | _ => 6) (fun j => match j with | 0 => [] | 1 => [112] | 2 => [] | _ => [113]) (fun j => match j with | 0 => [] | 1 => [] | 2 => [⟨1, [112], 0, false, 0, []⟩, ptD] | _ => [⟨1, [112], 0, false, 0, []⟩, ptD]) [⟨1, [112], 0, false, 0, []⟩, ptD, ⟨1, [113], 0, false, 0, []⟩]
    (fun j hj => by
      obtain rfl | rfl | rfl : j = 0 ∨ j = 1 ∨ j = 2 := by omega
      · exact ended_bare (i := 0) (by decide) (by decide)
      · exact ended_bare (i := 1) (by decide) (by decide)
      · exact ended_bare (i := 5) (by decide) (by decide))
    (ended_end (by decide) (by decide))
    (fun j hj => by
      obtain rfl | rfl | rfl : j = 0 ∨ j = 1 ∨ j = 2 := by omega
      · exact hn0
      · exact hn2
      · exact hn5)
    hfl
  exact wParse_ab (by decide) this
/-- The parts of an arithmetic expansion. -/
abbrev ptT (t : List UInt8) : List Pt := if t = [] then [] else [⟨1, t, 0, false, 0, []⟩]
abbrev ptA (t : List UInt8) : Pt := ⟨6, [], 0, false, (ptT t).length, ptC (ptT t)⟩
def wA (t : List UInt8) : List UInt8 := 36 :: 40 :: 40 :: (t ++ [41, 41])
theorem wA_len (t : List UInt8) : (wA t).length = t.length + 5 := by simp [wA]
theorem wA_get {t : List UInt8} {j : Nat} (h : j < t.length) : (wA t)[3 + j]'(by rw [wA_len]; omega) = t[j] := by
  simp only [wA, Nat.add_comm 3 j, List.getElem_cons_succ]
  rw [List.getElem_append_left h]
theorem wA_e1 (t : List UInt8) : (wA t)[3 + t.length]'(by rw [wA_len]; omega) = 41 := by
  simp only [wA, Nat.add_comm 3 t.length, List.getElem_cons_succ]
  rw [List.getElem_append_right (Nat.le_refl _)]
  simp
theorem wA_e2 (t : List UInt8) : (wA t)[3 + t.length + 1]'(by rw [wA_len]; omega) = 41 := by
  have h : 3 + t.length + 1 = (t.length + 1) + 3 := by omega
  simp only [wA, h, List.getElem_cons_succ]
  rw [List.getElem_append_right (by omega)]
  simp
theorem parse_a (t : List UInt8) (hl : t.length ≤ 4000) (hc : ∀ c ∈ t, c ≠ 92 ∧ c ≠ 36 ∧ c ≠ 96 ∧ c ≠ 40 ∧ c ≠ 41) : Ab Tryz.prog 8 [az (wA t)] (.tp [.rd 1 (ptC [ptA t]), ai 0, ai 0]) := by
  have hw := wA_len t
  have hs : (wA t).length ≤ 10000 := by omega
  have hfl : Fn Tryz.prog fFlush [.pt 200 0] (scH (wA t) ((3 + t.length : Nat) : Int) 2 false 2 0 0 t []) (.tp []) (scH (wA t) ((3 + t.length : Nat) : Int) 2 false 2 0 0 [] (ptT t)) [200] := by
    by_cases h : t = []
    · have e : ptT t = [] := if_pos h
      rw [e]
      have := flush_nil (s := wA t) (at1 := ((3 + t.length : Nat) : Int)) (pl := 2) (opd := false) (lv := 2) (op := 0) (dp := 0) (Ls := [])
      rw [← h] at this
      rw [h] at this ⊢
      exact this
    · have e : ptT t = [⟨1, t, 0, false, 0, []⟩] := if_neg h
      rw [e]
      exact flush_ne h (by omega) (by simp)
  have hin := sparse_fn (s := wA t) (pl := 2) (lv := 2) (op := 0) t.length (fun j => ((3 + j : Nat) : Int)) (fun j => t.take j) (fun _ => []) (ptT t)
    (fun j hj => ended_no (i := 3 + j) (by omega) (by omega) (by rw [wA_get hj]; exact (hc _ (List.getElem_mem hj)).2.2.2.2))
    (ended_yes (i := 3 + t.length) (by omega) (by omega) (wA_e1 t) (wA_e2 t))
    (fun j hj => by
      have hcc := hc _ (List.getElem_mem hj)
      have := next_lit (s := wA t) (i := 3 + j) (T := t.take j) (lv := 2) (op := 0) (dp := 0) (Ls := []) (by omega) (by omega) (by rw [List.length_take]; omega) (by rw [wA_get hj]; exact hcc.1) (by rw [wA_get hj]; exact hcc.2.1) (by rw [wA_get hj]; exact hcc.2.2.1) (by rw [wA_get hj]; exact hcc.2.2.2.1) (by rw [wA_get hj]; exact hcc.2.2.2.2)
      rw [wA_get hj, ← List.take_succ_eq_append_getElem hj] at this
      exact this)
    (by rw [List.take_length]; exact hfl)
  have hnest : Fn Tryz.prog fNested [.pt 200 0, ai (((0 : Nat) : Int) + 3), ai (0 : Nat), ai 2, ab false] (scH (wA t) (0 : Nat) 0 false 1 (-1) 0 [] []) (.tp [.rd (ptT t).length (ptC (ptT t)), ai ((3 + t.length : Nat) : Int)]) (scH (wA t) (0 : Nat) 0 false 1 (-1) 0 [] []) [200] := nested_fn 3 0 2 _ (by omega) hin
  have hf := flush_nil (s := wA t) (at1 := (0 : Nat)) (pl := 0) (opd := false) (lv := 1) (op := -1) (dp := 0) (Ls := [])
  have ha := add_fn 6 [] 0 false (ptT t).length (ptC (ptT t)) (((3 + t.length : Nat) : Int) + 2) (by simp) hf
  have hd := dollar_arith (s := wA t) (i := 0) (by omega) (by omega) (by omega) (by simp [wA, List.isPrefixOf]) (by omega) hnest ha
  have hn := next_dollar (s := wA t) (i := 0) (by omega) (by omega) rfl hd
  have e5 : ((3 + t.length : Nat) : Int) + 2 = (((wA t).length : Nat) : Int) := by rw [hw]; omega
  rw [e5] at hn
  have := sparse_fn (s := wA t) (pl := 0) (lv := 1) (op := -1) 1 (two 0 (((wA t).length : Nat) : Int)) (fun _ => []) (two [] [ptA t]) [ptA t]
    (fun j hj => by
      obtain rfl : j = 0 := by omega
      exact ended_bare (i := 0) (by omega) (by omega))
    (ended_end (by omega) (by omega))
    (fun j hj => by
      obtain rfl : j = 0 := by omega
      exact hn)
    flush_nil
  exact wParse_ab (by omega) this
end
end Go.Proofs.YtogmppcfopgkdaaGreatDoor
