/- Words: the parser's loop, the next byte, nested parts, on the abstract machine. -/
import Derived.Test.YtogmppcfopgkdaaGreatDoorWdC
import Derived.Test.YtogmppcfopgkdaaGreatDoorStr
namespace Go.Proofs.YtogmppcfopgkdaaGreatDoor
open Go.RowKit
set_option linter.unusedVariables false
set_option linter.unusedSimpArgs false
set_option maxRecDepth 100000
set_option maxHeartbeats 8000000
abbrev fNext : FuncId := 71
abbrev fSParse : FuncId := 43
abbrev fNested : FuncId := 163
abbrev fUnq : FuncId := 111
section
variable {s T : List UInt8} {at1 pl lv op dp : Int} {opd : Bool} {Ls Ms : List Pt}
theorem sparse_fn (N : Nat) (A : Nat → Int) (T : Nat → List UInt8) (Lf : Nat → List Pt) (Ms : List Pt)
    (hno : ∀ j, j < N → Fn Tryz.prog fEnded [.pt 200 0] (scH s (A j) pl false lv op 0 (T j) (Lf j)) (ab false) (scH s (A j) pl false lv op 0 (T j) (Lf j)) [200])
    (hyes : Fn Tryz.prog fEnded [.pt 200 0] (scH s (A N) pl false lv op 0 (T N) (Lf N)) (ab true) (scH s (A N) pl false lv op 0 (T N) (Lf N)) [200])
    (hnext : ∀ j, j < N → Fn Tryz.prog fNext [.pt 200 0] (scH s (A j) pl false lv op 0 (T j) (Lf j)) (.tp []) (scH s (A (j + 1)) pl false lv op 0 (T (j + 1)) (Lf (j + 1))) [200])
    (hfl : Fn Tryz.prog fFlush [.pt 200 0] (scH s (A N) pl false lv op 0 (T N) (Lf N)) (.tp []) (scH s (A N) pl false lv op 0 [] Ms) [200]) :
    Fn Tryz.prog fSParse [.pt 200 0] (scH s (A 0) pl false lv op 0 (T 0) (Lf 0)) (.tp []) (scH s (A N) pl false lv op 0 [] Ms) [200] := by
  refine Fn_of_aw (keep := [200, 201, 202]) Tryz.func43 rfl rfl (by simp [Tryz.ntmps43]) (aw_wk ?_)
  simp only [num_cons, num_nil, Tryz.ntmps43, Tryz.results43]
  repeat' (first
 | ((with_reducible apply aw_seq); intro _ _)
 | (with_reducible apply aw_block))
  refine aw_loopF (fun _ : Nat => []) (fun j => scH s (A j) pl false lv op 0 (T j) (Lf j)) (fun j => j ≤ N) (fun j => N - j) 0 (Nat.zero_le _) ?_ ?_ ?_
  · exact trivial
  · exact ⟨rfl, rfl, rfl, trivial⟩
  rintro j hj
  simp only [scH, scC] at hno hyes hnext hfl ⊢
  (simp only [LP, List.append_assoc, List.nil_append, List.cons_append, List.append_nil, List.contains_cons, List.contains_nil, Nat.reduceBEq, Bool.or_false, Bool.or_true, Bool.true_or, Bool.false_or, ↓reduceIte, Bool.false_eq_true])
  by_cases hjl : j < N
  · have c1 := hno j hjl
    have c2 := hnext j hjl
    repeat' (first
 | ((with_reducible apply awO_ev); (· rfl); (· exact sv))
 | ((with_reducible apply aw_seq); intro _ _)
 | (with_reducible apply aw_region)
 | (with_reducible apply aw_block)
 | ((with_reducible first | apply awO_nil | apply aw_exit | apply aw_skip | apply aw_ret); (try simp only [CT, ↓reduceIte, Nat.reduceEqDiff]))
 | ((with_reducible apply aw_cond_true); (· exact sv))
 | (refine Kont.go ‹Kont _ _ _ _› _ ?_)
 | ((with_reducible apply awO_m); (· rfl); (· rfl); (· exact sv); (· (first | exact c1 | exact c2)); (· exact svq); (· exact svq); (· exact svq); (· exact svq); (· rfl); (· exact nd); (with_reducible apply awO_st); (· exact svs)))
    all_goals
      refine LE_mk (j + 1) ?_ ?_ sN sN sN
      · exact hjl
      · omega
  obtain rfl : j = N := by omega
  repeat' (first
 | ((with_reducible apply awO_ev); (· rfl); (· exact sv))
 | ((with_reducible apply aw_seq); intro _ _)
 | (with_reducible apply aw_region)
 | ((with_reducible first | apply awO_nil | apply aw_exit | apply aw_skip | apply aw_ret); (try simp only [CT, ↓reduceIte, Nat.reduceEqDiff]))
 | ((with_reducible apply aw_cond_false); (· exact sv))
 | (refine Kont.go ‹Kont _ _ _ _› _ ?_)
 | ((with_reducible apply awO_m); (· rfl); (· rfl); (· exact sv); (· (first | exact hyes | exact hfl)); (· exact svq); (· exact svq); (· exact svq); (· exact svq); (· rfl); (· exact nd); (with_reducible apply awO_st); (· exact svs)))
  all_goals (refine wk_id ?_; refine retQ_mkL (by first | exact .inr rfl | exact .inl rfl) rfl rfl rfl ?_ rfl)
  all_goals exact ⟨⟨by simp, rfl⟩, ⟨by simp, rfl⟩, ⟨by simp, ro_pt _ _ _⟩, trivial⟩
/-- A byte of an arithmetic expansion that is text. -/
theorem next_lit {i : Nat} (hi : i < s.length) (hs : s.length ≤ 10000) (hT : T.length ≤ 10000) (h92 : s[i] ≠ 92) (h36 : s[i] ≠ 36) (h96 : s[i] ≠ 96) (h40 : s[i] ≠ 40) (h41 : s[i] ≠ 41) :
    Fn Tryz.prog fNext [.pt 200 0] (scH s i 2 false lv op dp T Ls) (.tp []) (scH s ((i + 1 : Nat) : Int) 2 false lv op dp (T ++ [s[i]]) Ls) [200] := by
  have c1 := literal_fn (s := s) (T := T) (at1 := i) (pl := 2) (opd := false) (lv := lv) (op := op) (dp := dp) (Ls := Ls) s[i] (by omega) (by omega) (by omega)
  have e1 : ((i + 1 : Nat) : Int) = (i : Int) + 1 := by omega
  rw [e1]
  have n92 : ¬ ((s[i].toNat : Int) = 92) := fun h => h92 (UInt8.toNat_inj.1 (by have : (92 : UInt8).toNat = 92 := rfl; omega))
  have n36 : ¬ ((s[i].toNat : Int) = 36) := fun h => h36 (UInt8.toNat_inj.1 (by have : (36 : UInt8).toNat = 36 := rfl; omega))
  have n96 : ¬ ((s[i].toNat : Int) = 96) := fun h => h96 (UInt8.toNat_inj.1 (by have : (96 : UInt8).toNat = 96 := rfl; omega))
  have n40 : ¬ ((s[i].toNat : Int) = 40) := fun h => h40 (UInt8.toNat_inj.1 (by have : (40 : UInt8).toNat = 40 := rfl; omega))
  have n41 : ¬ ((s[i].toNat : Int) = 41) := fun h => h41 (UInt8.toNat_inj.1 (by have : (41 : UInt8).toNat = 41 := rfl; omega))
  simp only [scH, scC] at c1 ⊢
  generalize T ++ [s[i]] = T2 at *
  refine Fn_of_aw (keep := [200, 201, 202]) Tryz.func71 rfl rfl (by simp [Tryz.ntmps71]) (aw_wk ?_)
  simp only [num_cons, num_nil, Tryz.ntmps71, Tryz.results71]
  repeat' (first
 | ((with_reducible apply awO_ev); (· rfl); (· exact sv))
 | ((with_reducible apply aw_seq); intro _ _)
 | (with_reducible apply aw_region)
 | (with_reducible apply aw_block)
 | ((with_reducible first | apply awO_nil | apply aw_exit | apply aw_skip | apply aw_ret); (try simp only [CT, ↓reduceIte, Nat.reduceEqDiff]))
 | ((with_reducible apply awO_y); (· rfl); (· rfl); (· decide); (· exact sv); (· exact sv))
 | ((with_reducible apply awO_n); (· rfl); (· rfl); (· decide); (· exact sv); (· rfl); (· rfl); (· decide))
 | ((with_reducible apply aw_cond_true); (· exact sv))
 | ((with_reducible apply aw_cond_false); (· exact sv))
 | (refine Kont.go ‹Kont _ _ _ _› _ ?_)
 | ((with_reducible apply awO_m); (· rfl); (· rfl); (· exact sv); (· (first | exact c1)); (· exact svq); (· exact svq); (· exact svq); (· exact svq); (· rfl); (· exact nd); (with_reducible apply awO_st); (· exact svs))
 | ((with_reducible apply aw_draw); (· decide +kernel); (simp only [List.size_toArray, List.length_cons, List.length_nil, Nat.reduceAdd]))
 | ((with_reducible apply awY_done); (· decide +kernel); (try simp only [CT, ↓reduceIte, Nat.reduceEqDiff]))
 | ((with_reducible apply awY_q); (· exact sQ); (· exact np); (· exact svg); (· rfl); (· exact sv))
 | ((first | ((with_reducible apply awO_guardN); (· rfl); (· rfl); (· exact sv); (· exact nB)) | ((with_reducible apply aw_condN); (· exact sv))); (· exact pN); (· exact pN); all_goals (intro hg; try (exfalso; omega))))
  all_goals first | (exfalso; first | exact n92 (by assumption) | exact n36 (by assumption) | exact n96 (by assumption) | exact n40 (by assumption) | exact n41 (by assumption)) | (refine wk_id ?_; refine retQ_mkL (by first | exact .inr rfl | exact .inl rfl) rfl rfl rfl ?_ rfl)
  all_goals exact ⟨⟨by simp, rfl⟩, ⟨by simp, ro_by _ _ _⟩, ⟨by simp, ro_pt _ _ _⟩, trivial⟩
/-- A byte of a word that is text. -/
theorem unq_lit (c : UInt8) (i : Int) (h0 : 0 ≤ i) (h1 : i ≤ 10000) (hT : T.length ≤ 10000) (hc : c = 112 ∨ c = 113) :
    Fn Tryz.prog fUnq [.pt 200 0, au c] (scH s i 0 false lv op dp T Ls) (.tp []) (scH s (i + 1) 0 false lv op dp (T ++ [c]) Ls) [200] := by
  have c1 := literal_fn (s := s) (T := T) (at1 := i) (pl := 0) (opd := false) (lv := lv) (op := op) (dp := dp) (Ls := Ls) c (by omega) (by omega) (by omega)
  simp only [scH, scC] at c1 ⊢
  generalize T ++ [c] = T2 at *
  have hn : (c.toNat : Int) = 112 ∨ (c.toNat : Int) = 113 := by
    rcases hc with rfl | rfl
    · exact .inl rfl
    · exact .inr rfl
  clear hc
  refine Fn_of_aw (keep := [200, 201, 202]) Tryz.func111 rfl rfl (by simp [Tryz.ntmps111]) (aw_wk ?_)
  simp only [num_cons, num_nil, Tryz.ntmps111, Tryz.results111]
  exact wq22
/-- A byte of a word, on its own: as unquoted does. -/
theorem next_bare {i : Nat} {Hq : Hp} (hi : i < s.length) (hs : s.length ≤ 10000) (h92 : s[i] ≠ 92) (h36 : s[i] ≠ 36) (h96 : s[i] ≠ 96) {a2 : Int} {T2 : List UInt8} {L2 : List Pt}
    (c1 : Fn Tryz.prog fUnq [.pt 200 0, au s[i]] (scH s i 0 false lv op dp T Ls) (.tp []) (scH s a2 0 false lv op dp T2 L2) [200]) :
    Fn Tryz.prog fNext [.pt 200 0] (scH s i 0 false lv op dp T Ls) (.tp []) (scH s a2 0 false lv op dp T2 L2) [200] := by
  have n92 : ¬ ((s[i].toNat : Int) = 92) := fun h => h92 (UInt8.toNat_inj.1 (by have : (92 : UInt8).toNat = 92 := rfl; omega))
  have n36 : ¬ ((s[i].toNat : Int) = 36) := fun h => h36 (UInt8.toNat_inj.1 (by have : (36 : UInt8).toNat = 36 := rfl; omega))
  have n96 : ¬ ((s[i].toNat : Int) = 96) := fun h => h96 (UInt8.toNat_inj.1 (by have : (96 : UInt8).toNat = 96 := rfl; omega))
  simp only [scH, scC] at c1 ⊢
  refine Fn_of_aw (keep := [200, 201, 202]) Tryz.func71 rfl rfl (by simp [Tryz.ntmps71]) (aw_wk ?_)
  simp only [num_cons, num_nil, Tryz.ntmps71, Tryz.results71]
  repeat' (first
 | ((with_reducible apply awO_ev); (· rfl); (· exact sv))
 | ((with_reducible apply aw_seq); intro _ _)
 | (with_reducible apply aw_region)
 | (with_reducible apply aw_block)
 | ((with_reducible first | apply awO_nil | apply aw_exit | apply aw_skip | apply aw_ret); (try simp only [CT, ↓reduceIte, Nat.reduceEqDiff]))
 | ((with_reducible apply aw_cond_true); (· exact sv))
 | (refine Kont.go ‹Kont _ _ _ _› _ ?_)
 | ((with_reducible apply awO_m); (· rfl); (· rfl); (· exact sv); (· (first | exact c1)); (· exact svq); (· exact svq); (· exact svq); (· exact svq); (· rfl); (· exact nd); (with_reducible apply awO_st); (· exact svs))
 | ((with_reducible apply aw_draw); (· decide +kernel); (simp only [List.size_toArray, List.length_cons, List.length_nil, Nat.reduceAdd]))
 | ((with_reducible apply awY_done); (· decide +kernel); (try simp only [CT, ↓reduceIte, Nat.reduceEqDiff]))
 | ((with_reducible apply awY_q); (· exact sQ); (· exact np); (· exact svg); (· rfl); (· exact sv))
 | ((first | ((with_reducible apply awO_guardN); (· rfl); (· rfl); (· exact sv); (· exact nB)) | ((with_reducible apply aw_condN); (· exact sv))); (· exact pN); (· exact pN); all_goals (intro hg; try (exfalso; omega))))
  all_goals first | (exfalso; first | exact n92 (by assumption) | exact n36 (by assumption) | exact n96 (by assumption)) | (refine wk_id ?_; refine retQ_mkL (by first | exact .inr rfl | exact .inl rfl) rfl rfl rfl ?_ rfl)
  all_goals exact ⟨⟨by simp, rfl⟩, ⟨by simp, ro_by _ _ _⟩, ⟨by simp, ro_pt _ _ _⟩, trivial⟩
/-- A dollar. -/
theorem next_dollar {i : Nat} (hi : i < s.length) (hs : s.length ≤ 10000) (h36 : s[i] = 36) {a2 : Int} {T2 : List UInt8} {L2 : List Pt}
    (c1 : Fn Tryz.prog 109 [.pt 200 0] (scH s i pl false lv op dp T Ls) (.tp []) (scH s a2 pl false lv op dp T2 L2) [200]) :
    Fn Tryz.prog fNext [.pt 200 0] (scH s i pl false lv op dp T Ls) (.tp []) (scH s a2 pl false lv op dp T2 L2) [200] := by
  have n36 : (s[i].toNat : Int) = 36 := by rw [h36]; rfl
  simp only [scH, scC] at c1 ⊢
  refine Fn_of_aw (keep := [200, 201, 202]) Tryz.func71 rfl rfl (by simp [Tryz.ntmps71]) (aw_wk ?_)
  simp only [num_cons, num_nil, Tryz.ntmps71, Tryz.results71]
  exact wq22
end
end Go.Proofs.YtogmppcfopgkdaaGreatDoor
/- Words: nested parts, dollars, on the abstract machine. -/
namespace Go.Proofs.YtogmppcfopgkdaaGreatDoor
open Go.RowKit
set_option linter.unusedVariables false
set_option linter.unusedSimpArgs false
set_option maxRecDepth 100000
set_option maxHeartbeats 8000000
def sw3 (b k : Nat) : Nat := if k = 200 then b else if k = b then 200 else if k = 201 then 301 else if k = 301 then 201 else if k = 202 then 302 else if k = 302 then 202 else k
theorem sw3_inv (b : Nat) (hb : b < 200) (k : Nat) : sw3 b (sw3 b k) = k := by
  unfold sw3
  (repeat' split) <;> omega
theorem renAs_pts (σ : Nat → Nat) (L : List Pt) : renAs σ (ptC L) = ptC L := by
  have h : ∀ cs : List AV, (∀ x ∈ cs, renA σ x = x) → renAs σ cs = cs := by
    intro cs
    induction cs with
    | nil => intro _; exact renAs_nil
    | cons a r ih => intro h; rw [renAs_cons, h a List.mem_cons_self, ih fun x hx => h x (List.mem_cons_of_mem _ hx)]
  refine h _ fun x hx => ?_
  rcases ptC_mem hx with ⟨y, rfl, _⟩ | ⟨n, c, rfl⟩
  · exact renA_v _
  · exact renA_rd _ _
theorem awO_virtC {P : Program} {Q : Exit → St → Prop} {fr : List (Nat × AV)} {hp : Hp} {nt : Nat} {fx : List Nat} {ops : Array Oper} {rest : List Oper} (k j K sz : Nat) {cs : List AV} (hk : look hp k = some cs) (hj : cs[j]? = some (.v (.slice none 0 0))) (hz : 0 < sz) (hK : K ∉ fx) (hne : k ≠ K) (h : awO P ops rest ⟨turn (killX K) fr, hset k ((cs.map (killC K)).set j (.os K 0 sz 0)) (hset K [] (turn (List.map (killC K)) hp)), nt, fx⟩ Q) : awO P ops rest ⟨fr, hp, nt, fx⟩ Q :=
  fun E a w hS => h E a w (S_virtC k j K sz hk hj hz hK hne hS)
section
variable {s T : List UInt8} {at1 pl lv op dp : Int} {opd : Bool} {Ls Ms : List Pt}
theorem bytesA_kills (ks : List Nat) (T : List UInt8) : (bytesA T).map (killsC ks) = bytesA T := by
  conv => rhs; rw [← List.map_id (bytesA T)]
  refine List.map_congr_left fun x hx => ?_
  obtain ⟨b, _, rfl⟩ := List.mem_map.1 hx
  unfold killsC
  rw [if_neg (by simp [cellM])]
  rfl
attribute [go_sem] bytesA_kills
theorem nested_fn (a o p2 e : Int) (hlv : 0 ≤ lv ∧ lv ≤ 100) (hp : Fn Tryz.prog fSParse [.pt 200 0] (scH s a p2 false (lv + 1) o 0 [] []) (.tp []) (scH s e p2 false (lv + 1) o 0 [] Ms) [200]) :
    Fn Tryz.prog fNested [.pt 200 0, ai a, ai o, ai p2, ab false] (scH s at1 pl opd lv op dp T Ls) (.tp [.rd Ms.length (ptC Ms), ai e]) (scH s at1 pl opd lv op dp T Ls) [200] := by
  have c1 := hp.ren (sw3 27) (sw3_inv 27 (by omega))
  simp only [renAs_cons, renAs_nil, renA_pt, renA_v, renA_rd, renA_ag, renA_os, renA_tp, renH, scH, scC, List.map_cons, List.map_nil, renAs_pts, List.length_nil] at c1
  have c2 : Fn Tryz.prog fSParse [.pt 27 0] [(27, [az s, ai a, ai p2, ab false, ai (lv + 1), ai o, ai 0, .os 301 0 1 0, .os 302 0 5 0]), (301, []), (302, [])] (.tp []) [(27, [az s, ai e, ai p2, ab false, ai (lv + 1), ai o, ai 0, .os 301 0 1 0, .os 302 0 5 Ms.length]), (301, []), (302, ptC Ms)] [27] := c1
  clear c1 hp
  have q1 := ptC_len Ms
  simp only [scH, scC]
  refine Fn_of_aw (keep := [200, 201, 202]) Tryz.func163 rfl rfl (by simp [Tryz.ntmps163]) (aw_wk ?_)
  simp only [num_cons, num_nil, Tryz.ntmps163, Tryz.results163]
  repeat' (first
 | ((with_reducible apply awO_ev); (· rfl); (· exact sv))
 | ((with_reducible apply aw_seq); intro _ _)
 | (with_reducible apply aw_region)
 | ((with_reducible first | apply awO_nil | apply aw_exit | apply aw_skip | apply aw_ret); (try simp only [CT, ↓reduceIte, Nat.reduceEqDiff]))
 | (refine Kont.go ‹Kont _ _ _ _› _ ?_)
 | ((with_reducible apply aw_draw); (· decide +kernel); (simp only [List.size_toArray, List.length_cons, List.length_nil, Nat.reduceAdd]))
 | ((with_reducible apply awY_done); (· decide +kernel); (try simp only [CT, ↓reduceIte, Nat.reduceEqDiff]))
 | ((with_reducible apply awY_q); (· exact sQ); (· exact np); (· exact svg); (· rfl); (· exact sv))
 | ((with_reducible apply awI_ev); (· exact svg); (· rfl); (· exact sv))
 | ((with_reducible apply awY_p); (· exact sH); (first | ((with_reducible apply awP_1); (· decide +kernel)) | ((with_reducible apply awP_2); (· exact sP)))))
  refine awO_virtC 27 7 301 1 rfl rfl (by omega) (by simp) (by omega) ?_
  refine awO_virtC 27 8 302 5 rfl rfl (by omega) (by simp) (by omega) ?_
  simp (disch := first | omega | (refine id ?_; simp only [go_sem, List.length_cons, List.length_nil, List.length_map, List.all_cons, List.all_nil, List.drop_zero, List.drop_succ_cons, List.not_mem_nil, Bool.and_self, Bool.not_false, not_false_eq_true, implies_true, List.mem_cons, or_false, or_self, Nat.reduceAdd, Nat.reduceMul, Nat.reduceLeDiff, Nat.reduceEqDiff, Nat.reduceBEq, Bool.and_true]; done) | (refine id ?_; simp only [List.length_cons, List.length_nil, List.length_map, List.length_append, List.length_drop, List.length_take, List.length_replicate, flat2_len, flat3_len, flat4_len, flat5_len, flat6_len]; omega)) only [go_sem, Option.bind_some, Option.map_some, Option.bind_none, List.map_cons, List.map_nil, List.drop_succ_cons, List.drop_zero, List.take_succ_cons, List.take_zero, List.getElem?_cons_zero, List.getElem?_cons_succ, List.length_cons, List.length_nil, List.cons_append, List.nil_append, List.append_nil, List.set_cons_zero, List.set_cons_succ, List.any_cons, List.any_nil, List.replicate_succ, List.replicate_zero, Nat.add_zero, Nat.zero_add, Nat.sub_zero, Nat.mul_one, Nat.one_mul, Nat.zero_mul, Nat.mul_zero, Int.toNat_natCast, Int.toNat_zero, Int.toNat_one, Int.reduceToNat, Bool.or_false, Bool.false_or, Bool.and_self, Bool.and_true, Bool.true_and, Bool.false_eq_true, Nat.reduceBEq, ↓reduceIte, Nat.reduceAdd, Nat.reduceMul, Nat.reduceLeDiff, Nat.reduceEqDiff, List.not_mem_nil, List.mem_cons, or_false, false_or, or_true, true_or, eq_self, decide_true, decide_false, Int.cast_ofNat_Int, Int.reduceEq, Int.reduceLT, Int.reduceLE, Int.reduceAdd, Int.reduceSub, Int.reduceNeg, Bool.not_true, Bool.not_false, Bool.or_true, Bool.true_or, Bool.and_false, Bool.false_and, List.cons.injEq, reduceCtorEq, and_false, false_and, and_true, true_and]
  repeat' (first
 | ((with_reducible apply aw_seq); intro _ _)
 | ((with_reducible first | apply awO_nil | apply aw_exit | apply aw_skip | apply aw_ret); (try simp only [CT, ↓reduceIte, Nat.reduceEqDiff]))
 | (refine Kont.go ‹Kont _ _ _ _› _ ?_)
 | ((with_reducible apply awO_m); (· rfl); (· rfl); (· exact sv); (· (first | exact c2)); (· exact svq); (· exact svq); (· exact svq); (· exact svq); (· rfl); (· exact nd); (with_reducible apply awO_st); (· exact svs))
 | ((with_reducible apply aw_draw); (· decide +kernel); (simp only [List.size_toArray, List.length_cons, List.length_nil, Nat.reduceAdd]))
 | ((with_reducible apply awY_done); (· decide +kernel); (try simp only [CT, ↓reduceIte, Nat.reduceEqDiff]))
 | ((with_reducible apply awY_q); (· exact sQ); (· exact np); (· exact svg); (· rfl); (· exact sv)))
  all_goals (refine wk_id ?_; refine retQ_mkL (by first | exact .inr rfl | exact .inl rfl) sv sv rfl ?_ rfl)
  all_goals exact ⟨⟨by simp, rfl⟩, ⟨by simp, ro_by _ _ _⟩, ⟨by simp, ro_pt _ _ _⟩, trivial⟩
end
end Go.Proofs.YtogmppcfopgkdaaGreatDoor
/- Words: dollars, on the abstract machine. -/
namespace Go.Proofs.YtogmppcfopgkdaaGreatDoor
open Go.RowKit
set_option linter.unusedVariables false
set_option linter.unusedSimpArgs false
set_option maxRecDepth 100000
set_option maxHeartbeats 8000000
abbrev fDollar : FuncId := 109
abbrev fParam : FuncId := 167
abbrev fNm : FuncId := 168
section
variable {s T : List UInt8} {at1 pl lv op dp : Int} {opd : Bool} {Ls Ms : List Pt}
theorem digitB_ab (c : UInt8) : Ab Tryz.prog 166 [au c] (ab (decide (48 ≤ (c.toNat : Int) ∧ (c.toNat : Int) ≤ 57))) := by
  refine Fn_of_aw (keep := []) Tryz.func166 rfl rfl (by simp [Tryz.ntmps166]) ?_
  simp only [num_cons, num_nil, Tryz.ntmps166, Tryz.results166]
  repeat' (first
 | ((with_reducible apply awO_ev); (· rfl); (· exact sv))
 | ((with_reducible apply aw_seq); intro _ _)
 | (with_reducible apply aw_region)
 | ((with_reducible first | apply awO_nil | apply aw_exit | apply aw_skip | apply aw_ret); (try simp only [CT, ↓reduceIte, Nat.reduceEqDiff]))
 | ((with_reducible apply awO_y); (· rfl); (· rfl); (· decide); (· exact sv); (· exact sv))
 | ((with_reducible apply awO_n); (· rfl); (· rfl); (· decide); (· exact sv); (· rfl); (· rfl); (· decide))
 | (refine Kont.go ‹Kont _ _ _ _› _ ?_)
 | ((first | ((with_reducible apply awO_guardN); (· rfl); (· rfl); (· exact sv); (· exact nB)) | ((with_reducible apply aw_condN); (· exact sv))); (· exact pN); (· exact pN); all_goals (intro hg; try (exfalso; omega)))
 | ((with_reducible apply retQ_mk); (· exact rI); (· exact sv); (· exact sv); rotate_left; (· rfl)))
  all_goals first | rfl | (congr 2; simp; omega)
theorem startsB_x (c : UInt8) (h : (c.toNat : Int) = 120) : Ab Tryz.prog 210 [au c] (ab true) := by
  refine Fn_of_aw (keep := []) Tryz.func210 rfl rfl (by simp [Tryz.ntmps210]) ?_
  simp only [num_cons, num_nil, Tryz.ntmps210, Tryz.results210]
  exact wq23
theorem startsB_q (c : UInt8) (h : (c.toNat : Int) = 34) : Ab Tryz.prog 210 [au c] (ab false) := by
  refine Fn_of_aw (keep := []) Tryz.func210 rfl rfl (by simp [Tryz.ntmps210]) ?_
  simp only [num_cons, num_nil, Tryz.ntmps210, Tryz.results210]
  exact wq23
theorem parameter_x {i : Nat} (hs : s.length ≤ 10000) (hi : i < s.length) (hx : s[i] = 120) (he : i + 1 = s.length ∨ ∃ h : i + 1 < s.length, s[i + 1] = 34) :
    Fn Tryz.prog fParam [.pt 200 0, ai i] (scH s at1 pl opd lv op dp T Ls) (ai ((i + 1 : Nat) : Int)) (scH s at1 pl opd lv op dp T Ls) [200] := by
  have hxi : (s[i].toNat : Int) = 120 := by rw [hx]; rfl
  have c1 := indexByte_ab [64, 42, 35, 63, 45, 36, 33, 48] s[i]
  have e1 : idxB [64, 42, 35, 63, 45, 36, 33, 48] s[i] = -1 := by rw [hx]; rfl
  rw [e1] at c1
  have c2 := digitB_ab s[i]
  rw [hxi] at c2
  have c3 := startsB_x s[i] hxi
  simp only [scH, scC]
  refine Fn_of_aw (keep := [200, 201, 202]) Tryz.func167 rfl rfl (by simp [Tryz.ntmps167]) (aw_wk ?_)
  simp only [num_cons, num_nil, Tryz.ntmps167, Tryz.results167]
  repeat' (first
 | ((with_reducible apply awO_ev); (· rfl); (· exact sv))
 | ((with_reducible apply aw_seq); intro _ _)
 | (with_reducible apply aw_region)
 | (with_reducible apply aw_block)
 | ((with_reducible first | apply awO_nil | apply aw_exit | apply aw_skip | apply aw_ret); (try simp only [CT, ↓reduceIte, Nat.reduceEqDiff]))
 | ((with_reducible apply aw_cond_true); (· exact sv))
 | ((with_reducible apply aw_cond_false); (· exact sv))
 | (refine Kont.go ‹Kont _ _ _ _› _ ?_)
 | ((with_reducible apply awO_c); (· rfl); (· rfl); (· exact sv); (· (first | exact c1 | exact c2 | exact c3)); (· rfl); (· rfl); (· rfl); (· decide))
 | ((first | ((with_reducible apply awO_guardN); (· rfl); (· rfl); (· exact sv); (· exact nB)) | ((with_reducible apply aw_condN); (· exact sv))); (· exact pN); (· exact pN); all_goals (intro hg; try (exfalso; omega))))
  refine aw_loopF (fun j : Nat => [(1, ai ((i + j : Nat) : Int))]) (fun j => [(200, [az s, ai at1, ai pl, ab opd, ai lv, ai op, ai dp, .os 201 0 1 T.length, .os 202 0 5 Ls.length]), (201, bytesA T), (202, ptC Ls)]) (fun j => j ≤ 1) (fun j => 1 - j) 0 (Nat.zero_le _) ?_ ?_ ?_
  · exact ⟨rfl, trivial⟩
  · exact ⟨rfl, rfl, rfl, trivial⟩
  rintro j hj
  (simp only [LP, List.append_assoc, List.nil_append, List.cons_append, List.append_nil, List.contains_cons, List.contains_nil, Nat.reduceBEq, Bool.or_false, Bool.or_true, Bool.true_or, Bool.false_or, ↓reduceIte, Bool.false_eq_true])
  by_cases hj0 : j = 0
  · subst hj0
    repeat' (first
 | ((with_reducible apply awO_ev); (· rfl); (· exact sv))
 | ((with_reducible apply aw_seq); intro _ _)
 | (with_reducible apply aw_region)
 | (with_reducible apply aw_block)
 | ((with_reducible first | apply awO_nil | apply aw_exit | apply aw_skip | apply aw_ret); (try simp only [CT, ↓reduceIte, Nat.reduceEqDiff]))
 | ((with_reducible apply awO_y); (· rfl); (· rfl); (· decide); (· exact sv); (· exact sv))
 | ((with_reducible apply awO_n); (· rfl); (· rfl); (· decide); (· exact sv); (· rfl); (· rfl); (· decide))
 | ((with_reducible apply aw_cond_true); (· exact sv))
 | ((with_reducible apply awO_un); (· rfl); (· decide); (· exact sv))
 | (refine Kont.go ‹Kont _ _ _ _› _ ?_)
 | ((with_reducible apply awO_c); (· rfl); (· rfl); (· exact sv); (· (first | exact c2 | exact c3)); (· rfl); (· rfl); (· rfl); (· decide))
 | ((first | ((with_reducible apply awO_guardN); (· rfl); (· rfl); (· exact sv); (· exact nB)) | ((with_reducible apply aw_condN); (· exact sv))); (· exact pN); (· exact pN); all_goals (intro hg; try (exfalso; omega))))
    all_goals
      refine LE_mk (1) ?_ ?_ sN sN sN
      · omega
      · omega
  obtain rfl : j = 1 := by omega
  rcases he with he | ⟨h, he⟩
  · skip
    repeat' (first
 | ((with_reducible apply awO_ev); (· rfl); (· exact sv))
 | ((with_reducible apply aw_seq); intro _ _)
 | (with_reducible apply aw_region)
 | ((with_reducible first | apply awO_nil | apply aw_exit | apply aw_skip | apply aw_ret); (try simp only [CT, ↓reduceIte, Nat.reduceEqDiff]))
 | ((with_reducible apply awO_n); (· rfl); (· rfl); (· decide); (· exact sv); (· rfl); (· rfl); (· decide))
 | ((with_reducible apply awO_u); (· rfl); (· rfl); (· exact svr); (· rfl); (· decide))
 | ((with_reducible apply aw_cond_false); (· exact sv))
 | (refine Kont.go ‹Kont _ _ _ _› _ ?_)
 | ((first | ((with_reducible apply awO_guardN); (· rfl); (· rfl); (· exact sv); (· exact nB)) | ((with_reducible apply aw_condN); (· exact sv))); (· exact pN); (· exact pN); all_goals (intro hg; try (exfalso; omega))))
    all_goals first | (exfalso; omega) | (refine wk_id ?_; refine retQ_mkL (by first | exact .inr rfl | exact .inl rfl) sv sv rfl ?_ rfl)
    all_goals exact ⟨⟨by simp, rfl⟩, ⟨by simp, ro_by _ _ _⟩, ⟨by simp, ro_pt _ _ _⟩, trivial⟩
  · have hqi : (s[i + 1].toNat : Int) = 34 := by rw [he]; rfl
    have c4 := digitB_ab s[i + 1]
    rw [hqi] at c4
    have c5 := startsB_q s[i + 1] hqi
    repeat' (first
 | ((with_reducible apply awO_ev); (· rfl); (· exact sv))
 | ((with_reducible apply aw_seq); intro _ _)
 | (with_reducible apply aw_region)
 | ((with_reducible first | apply awO_nil | apply aw_exit | apply aw_skip | apply aw_ret); (try simp only [CT, ↓reduceIte, Nat.reduceEqDiff]))
 | ((with_reducible apply awO_y); (· rfl); (· rfl); (· decide); (· exact sv); (· exact sv))
 | ((with_reducible apply aw_cond_false); (· exact sv))
 | ((with_reducible apply awO_un); (· rfl); (· decide); (· exact sv))
 | (refine Kont.go ‹Kont _ _ _ _› _ ?_)
 | ((with_reducible apply awO_c); (· rfl); (· rfl); (· exact sv); (· (first | exact c4 | exact c5)); (· rfl); (· rfl); (· rfl); (· decide))
 | ((first | ((with_reducible apply awO_guardN); (· rfl); (· rfl); (· exact sv); (· exact nB)) | ((with_reducible apply aw_condN); (· exact sv))); (· exact pN); (· exact pN); all_goals (intro hg; try (exfalso; omega))))
    all_goals first | (exfalso; omega) | (refine wk_id ?_; refine retQ_mkL (by first | exact .inr rfl | exact .inl rfl) sv sv rfl ?_ rfl)
    all_goals exact ⟨⟨by simp, rfl⟩, ⟨by simp, ro_by _ _ _⟩, ⟨by simp, ro_pt _ _ _⟩, trivial⟩
theorem name_x {i : Nat} (a : Int) (hs : s.length ≤ 10000) (hi : i < s.length) (hx : s[i] = 120) :
    Fn Tryz.prog fNm [.pt 200 0, ai i, ai ((i + 1 : Nat) : Int), ai a] (scH s at1 pl opd lv op dp T Ls) (.tp []) (scH s at1 pl opd lv op dp T Ls) [200] := by
  have hxi : (s[i].toNat : Int) = 120 := by rw [hx]; rfl
  have c3 := startsB_x s[i] hxi
  simp only [scH, scC]
  refine Fn_of_aw (keep := [200, 201, 202]) Tryz.func168 rfl rfl (by simp [Tryz.ntmps168]) (aw_wk ?_)
  simp only [num_cons, num_nil, Tryz.ntmps168, Tryz.results168]
  repeat' (first
 | ((with_reducible apply awO_ev); (· rfl); (· exact sv))
 | ((with_reducible apply aw_seq); intro _ _)
 | (with_reducible apply aw_region)
 | ((with_reducible first | apply awO_nil | apply aw_exit | apply aw_skip | apply aw_ret); (try simp only [CT, ↓reduceIte, Nat.reduceEqDiff]))
 | ((with_reducible apply awO_y); (· rfl); (· rfl); (· decide); (· exact sv); (· exact sv))
 | (refine Kont.go ‹Kont _ _ _ _› _ ?_)
 | ((with_reducible apply awO_c); (· rfl); (· rfl); (· exact sv); (· (first | exact c3)); (· rfl); (· rfl); (· rfl); (· decide))
 | ((first | ((with_reducible apply awO_guardN); (· rfl); (· rfl); (· exact sv); (· exact nB)) | ((with_reducible apply aw_condN); (· exact sv))); (· exact pN); (· exact pN); all_goals (intro hg; try (exfalso; omega))))
  all_goals first | (exfalso; omega) | (refine wk_id ?_; refine retQ_mkL (by first | exact .inr rfl | exact .inl rfl) sv sv rfl ?_ rfl)
  all_goals exact ⟨⟨by simp, rfl⟩, ⟨by simp, ro_by _ _ _⟩, ⟨by simp, ro_pt _ _ _⟩, trivial⟩
theorem dollar_arith {i : Nat} {kn : Nat} {kc : List AV} {e : Int} {a2 : Int} {T2 : List UInt8} {L2 : List Pt} (hs : s.length ≤ 10000) (hi : i + 1 ≤ s.length) (hlv : lv ≤ 31) (hpre : ([40, 40] : List UInt8).isPrefixOf (s.drop (i + 1)) = true) (hke : 0 ≤ e ∧ e ≤ 10000)
    (hn : Fn Tryz.prog fNested [.pt 200 0, ai ((i : Int) + 3), ai i, ai 2, ab false] (scH s i pl false lv op dp T Ls) (.tp [.rd kn kc, ai e]) (scH s i pl false lv op dp T Ls) [200])
    (ha : Fn Tryz.prog fAdd [.pt 200 0, .ag [ai 6, az [], ai 0, ab false, .rd kn kc], ai (e + 2)] (scH s i pl false lv op dp T Ls) (.tp []) (scH s a2 pl false lv op dp T2 L2) [200]) :
    Fn Tryz.prog fDollar [.pt 200 0] (scH s i pl false lv op dp T Ls) (.tp []) (scH s a2 pl false lv op dp T2 L2) [200] := by
  have c1 := hasPrefix_ab (s.drop (i + 1)) [40, 40]
  rw [hpre] at c1
  simp only [scH, scC] at hn ha ⊢
  refine Fn_of_aw (keep := [200, 201, 202]) Tryz.func109 rfl rfl (by simp [Tryz.ntmps109]) (aw_wk ?_)
  simp only [num_cons, num_nil, Tryz.ntmps109, Tryz.results109]
  repeat' (first
 | ((with_reducible apply awY_p); (· exact sH); (with_reducible apply awP_1); (· decide +kernel))
 | ((with_reducible apply awO_ev); (· rfl); (· exact sv))
 | ((with_reducible apply aw_seq); intro _ _)
 | (with_reducible apply aw_region)
 | (with_reducible apply aw_block)
 | ((with_reducible first | apply awO_nil | apply aw_exit | apply aw_skip | apply aw_ret); (try simp only [CT, ↓reduceIte, Nat.reduceEqDiff]))
 | ((with_reducible apply aw_cond_true); (· exact sv))
 | (refine Kont.go ‹Kont _ _ _ _› _ ?_)
 | ((with_reducible apply awO_c); (· rfl); (· rfl); (· exact sv); (· (first | exact c1 | exact hn | exact ha)); (· rfl); (· rfl); (· rfl); (· decide))
 | ((with_reducible apply awO_m); (· rfl); (· rfl); (· exact sv); (· (first | exact c1 | exact hn | exact ha)); (· exact svq); (· exact svq); (· exact svq); (· exact svq); (· rfl); (· exact nd); (with_reducible apply awO_st); (· exact svs))
 | ((with_reducible apply aw_draw); (· decide +kernel); (simp only [List.size_toArray, List.length_cons, List.length_nil, Nat.reduceAdd]))
 | ((with_reducible apply awY_done); (· decide +kernel); (try simp only [CT, ↓reduceIte, Nat.reduceEqDiff]))
 | ((with_reducible apply awY_q); (· exact sQ); (· exact np); (· exact svg); (· rfl); (· exact sv))
 | ((with_reducible apply awI_ev); (· exact svg); (· rfl); (· exact sv))
 | ((with_reducible apply awI_m); (· exact svg); (· decide +kernel); (· rfl); (· rfl); (· exact sv); (· (first | exact c1 | exact hn | exact ha)); (· exact svq); (· exact svq); (· exact svq); (· exact svq); (· rfl); (· exact nd); (with_reducible apply awY_st); (· exact svs))
 | ((first | ((with_reducible apply awO_guardN); (· rfl); (· rfl); (· exact sv); (· exact nB)) | ((with_reducible apply aw_condN); (· exact sv))); (· exact pN); (· exact pN); all_goals (intro hg; try (exfalso; omega))))
  all_goals first | (exfalso; omega) | (refine wk_id ?_; refine retQ_mkL (by first | exact .inr rfl | exact .inl rfl) sv sv rfl ?_ rfl)
  all_goals exact ⟨⟨by simp, rfl⟩, ⟨by simp, ro_by _ _ _⟩, ⟨by simp, ro_pt _ _ _⟩, trivial⟩
end
end Go.Proofs.YtogmppcfopgkdaaGreatDoor
