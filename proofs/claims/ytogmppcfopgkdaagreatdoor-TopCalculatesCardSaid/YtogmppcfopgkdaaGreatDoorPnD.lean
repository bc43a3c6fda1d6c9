/- pathname.Expand on a field without slashes and without patterns, on the abstract machine. -/
import Derived.Test.YtogmppcfopgkdaaGreatDoorPnC
import Derived.Test.YtogmppcfopgkdaaGreatDoorTsB
import Derived.Test.YtogmppcfopgkdaaGreatDoorRng
import Derived.Test.YtogmppcfopgkdaaGreatDoorXpH
namespace Go.Proofs.YtogmppcfopgkdaaGreatDoor
open Go.RowKit
set_option linter.unusedVariables false
set_option linter.unusedSimpArgs false
set_option maxRecDepth 100000
set_option maxHeartbeats 8000000
/-- A field without slashes and without characters of patterns. -/
structure Pln (f : List El) : Prop where
  len : f.length ≤ 1000
  cl : (cat f).length ≤ 4096
  k : ∀ x ∈ f, (x.k = 0 ∨ x.k = 1 ∨ x.k = 2) ∧ 47 ∉ x.t ∧ 91 ∉ x.t ∧ 42 ∉ x.t ∧ 63 ∉ x.t
theorem chs_pln : ∀ (f : List El), (∀ x ∈ f, x.k = 0 ∨ x.k = 1 ∨ x.k = 2) → (chs f).map (·.b) = cat f
  | [], _ => rfl
  | x :: r, h => by
    have ih := chs_pln r fun y hy => h y (List.mem_cons_of_mem _ hy)
    have hx : chOf x = x.t.map fun c => ⟨c, !decide (x.k = 1)⟩ := by
      unfold chOf
      rw [if_pos (h x List.mem_cons_self)]
    simp only [chs, List.flatMap_cons, List.map_append, cat] at ih ⊢
    rw [ih, hx, List.map_map]
    congr 1
    exact List.map_id _
theorem chs_mem {f : List El} {x : Cx} (h : x ∈ chs f) : ∃ y ∈ f, x.b ∈ y.t := by
  unfold chs at h
  rw [List.mem_flatMap] at h
  obtain ⟨y, hy, hx⟩ := h
  refine ⟨y, hy, ?_⟩
  unfold chOf at hx
  split at hx
  · obtain ⟨c, hc, rfl⟩ := List.mem_map.1 hx
    exact hc
  · cases hx
theorem isC_no {f : List El} {b : UInt8} (h : ∀ x ∈ f, b ∉ x.t) (i : Nat) : isC (chs f) i b = false := by
  unfold isC
  split
  · next x hx =>
    obtain ⟨y, hy, hm⟩ := chs_mem (List.mem_of_getElem? hx)
    have : x.b ≠ b := fun e => h y hy (e ▸ hm)
    simp [this]
  · rfl
/-- What the bytes s are compiled to. -/
abbrev bysA (s : List UInt8) : AV := .rd s.length (s.flatMap fun b => [ai 1, az [b], ab false, .rd 0 []])
theorem its_bys (l : List Cx) : itsA (l.map fun x => byI x.b) = bysA (l.map (·.b)) := by
  simp only [itsA, bysA, List.length_map, itC, List.flatMap_map]
  rfl
theorem compile_pln {f : List El} (hf : Pln f) : Ab Tryz.prog 81 [elsA f] (bysA (cat f)) := by
  have h := compileP f (by have := hf.len; omega) (by have := hf.cl; omega) fun i => ⟨isC_no (fun x hx => (hf.k x hx).2.2.1) i, isC_no (fun x hx => (hf.k x hx).2.2.2.1) i, isC_no (fun x hx => (hf.k x hx).2.2.2.2) i⟩
  rwa [its_bys, chs_pln f fun x hx => (hf.k x hx).1] at h
abbrev fPie : FuncId := 129
/-- The iterator over the pieces of a field. -/
theorem pieces_ab (f : List El) : Ab Tryz.prog 80 [elsA f] (.fn fPie [.rp [elsA f]]) := by
  refine Fn_of_aw (keep := []) Tryz.func80 rfl rfl (by simp [Tryz.ntmps80]) ?_
  simp only [num_cons, num_nil, Tryz.ntmps80, Tryz.results80]
  repeat' (first
 | ((with_reducible apply awO_ev); (· rfl); (· exact sv))
 | ((with_reducible apply aw_seq); intro _ _)
 | (with_reducible apply aw_region)
 | ((with_reducible first | apply awO_nil | apply aw_exit | apply aw_skip | apply aw_ret); (try simp only [CT, ↓reduceIte, Nat.reduceEqDiff]))
 | (refine Kont.go ‹Kont _ _ _ _› _ ?_))
  refine awO_mkf rfl rfl rfl bok sv (by (exact nd)) ?_
  repeat' (first
 | ((with_reducible apply awO_ev); (· rfl); (· exact sv))
 | ((with_reducible first | apply awO_nil | apply aw_exit | apply aw_skip | apply aw_ret); (try simp only [CT, ↓reduceIte, Nat.reduceEqDiff]))
 | (refine Kont.go ‹Kont _ _ _ _› _ ?_))
  refine retQ_mk (ys := [.fn fPie [.pt 1 0]]) (r' := .fn fPie [.rp [elsA f]]) (.inr rfl) ?_ ?_ rfl rfl
  · rfl
  · show (roCs [(1, [AV.rd f.length (elC f)])] [] [.pt 1 0]).map (AV.fn fPie) = some (.fn fPie [.rp [elsA f]])
    simp only [roCs_cons, roCs_nil, roC, List.not_mem_nil, if_false, look_cons, if_true, Option.bind_some, List.drop_zero]
    rfl
section
variable {P : Program} {ops : Array Oper} {rest : List Oper} {st : St} {Q : Exit → St → Prop} {o : Oper}
theorem awO_mkm {t : TypeId} {d : Nat} (hg : o.guard = none) (ho : o.op = .makeMap t none) (hd : o.dst = some d) (hdn : d < st.nt) (h : ∀ b : Nat, awO P ops rest (st.put (some d) (.v (.map (some b)))) Q) : awO P ops (o :: rest) st Q := fun E a w ⟨ρ, hS⟩ => by
  refine wpList_plain hg fun K hK => ?_
  have hrun : (execOp a.eval o).run P w = .ok (.value (.map (some w.heap.size))) (w.alloc (.map #[] 0)) := by
    simp [execOp, ho, run_makeMap]
  unfold Oper.wp
  rw [hrun, Oper.upon_value, hd]
  exact hK _ _ (h w.heap.size E _ _ ⟨ρ, (hS.below ((Below.refl _ w).alloc (Nat.le_refl _) _)).put (some d) (fun t e => by injection e with e; subst e; exact hdn) (.im (.v _))⟩)
/-- A call that hands back a function. -/
theorem awO_callR {f : FuncId} {args : List Operand} {ts : Array TypeId} {ys : List AV} {r : AV} (hg : o.guard = none) (ho : o.op = .call ⟨.value (.func f), args.toArray, ts⟩) (ha : argsA st args = some ys) (hc : Ab P f ys r) (hr : ∀ k, mentM k r = false)
    (hd : ∀ d, o.dst = some d → d < st.nt) (h : awO P ops rest (st.put o.dst r) Q) : awO P ops (o :: rest) st Q := fun E a w ⟨ρ, hS⟩ => by
  refine wpList_plain hg fun K hK => ?_
  unfold Oper.wp
  rw [run_call ho hc.1, Oper.upon_enter]
  have hargs := argsA_rep hS ha
  refine (hc.2 w (avd E.bad ρ st.hp) ρ _ ⟨fun b hb => ?_, hS.glob, fun b hb => by obtain ⟨k, cs, hk, _⟩ := hb; simp [look] at hk⟩ (fun b hb => ?_) HR.nil ⟨hargs.1, fun j y v hj hv => ?_⟩).mono ?_
  · rcases hb with hb | ⟨k, cs, h1, h2, rfl⟩
    · exact Nat.lt_of_lt_of_le (hS.bad.1 b hb) hS.keep.size
    · exact ((hS.hr.obj k cs h1).mem h2).1
  · obtain ⟨k, cs, hk, _⟩ := hb; simp [look] at hk
  · exact (hargs.2 j y v hj hv).tr (Nat.le_refl _) (fun _ _ _ _ => rfl) (fun b _ hb => (avd_nil _ _ b).1 hb) (fun _ hk => absurd rfl hk)
  · rintro e w' ⟨v, ρ', rfl, hrep, _, hkeep, _⟩
    have hb := keeps_nil hkeep
    refine hK _ _ (h E _ w' ⟨ρ, (hS.below hb).put o.dst hd ?_⟩)
    exact hrep.tr (Nat.le_refl _) (fun _ _ _ _ => rfl) (fun b _ hb => (avd_nil _ _ b).2 hb) (fun k _ => hr k)
end
attribute [local go_sem] cellsA_map one_map
theorem elC_succ {L : List El} {i : Nat} (h : i < L.length) : elC (L.take (i + 1)) = elC (L.take i) ++ [az L[i].t, ai L[i].k] := by
  unfold elC
  rw [List.take_succ_eq_append_getElem h, List.flatMap_append]
  rfl
theorem expand_ab (f : List El) (hf : Pln f) : Ab Tryz.prog fExp [filesA, az [47], elsA f] (.tp [.rd 1 [az (cat f)], ai 0]) := by
  have c1 := clean_ab
  have c2 := pieces_ab f
  have c3 := text_ab f (by have := hf.len; omega) (by have := hf.cl; omega)
  have c4 := compile_pln hf
  have c5 := literalP (cat f) (by have := hf.cl; omega)
  have c6 := join_one (cat f) [47] (by have := hf.cl; omega)
  have c7 : ∀ i (h : i < f.length), Ab Tryz.prog 130 [az f[i].t, az [47]] (.tp [az f[i].t, az [], ab false]) := fun i h => cut_none _ _ (by have := hf.cl; have := cat_get_len h; omega) (hf.k _ (List.getElem_mem h)).2.1
  have hk := hf.k
  have hl := hf.len
  have hcl := hf.cl
  have hel := elC_len f
  refine Ab_rng (ks := [10, 11]) (g := 27) (p := 28) (s := 3) (k := 100) (off := 0) (sz := 2) (n := f.length) (cs := elC f) (ds := elC f) (m1 := 59) (m2 := 60) (m3 := 61) (caps := [.rp [elsA f]])
    (M1 := ⟨[(0, filesA), (1, az [47]), (2, elsA f)], [], 77, []⟩) (M2 := ⟨[(0, filesA), (1, az [47]), (2, elsA f)], [], 77, []⟩) (M3 := ⟨[(10, .pt 10 0), (2, elsA f)], [(10, [filesA, nilV, nilV, nilV, .un])], 77, []⟩) (M4 := ⟨[(11, .pt 11 0), (10, .pt 10 0), (2, elsA f)], [(11, [ab true]), (10, [filesA, nilV, nilV, nilV, .un])], 77, []⟩)
    (fr := [(27, .fn fPie [.rp [elsA f]]), (11, .pt 11 0), (10, .pt 10 0)]) (hp := [(11, [ab true]), (10, [filesA, nilV, nilV, nilV, .un])]) (fr' := [(11, .pt 11 0), (10, .pt 10 0)]) (frb := [(12, elsA f), (11, .pt 11 0), (10, .pt 10 0)]) (hpb := [(11, [ab true]), (10, [filesA, nilV, nilV, nilV, .un])])
    (hp' := [(57, [az (cat f)]), (11, [ab true]), (10, [filesA, .os 50 0 3 1, .os 57 0 1 1, nilV, .un])]) (N0 := fun y => ⟨[(0, .v y), (1, .rp [elsA f]), (3, nilV)], [(11, [ab true]), (10, [filesA, nilV, nilV, nilV, .un])], 62, [10, 11]⟩)
    Tryz.func47 rfl rfl (by simp [Tryz.ntmps47]) ?hA ?hB ?hC ?hD ?hE rfl (by decide) (by simp [Tryz.ntmps47]) (by simp) ⟨rfl, rfl, trivial⟩ rfl
    Tryz.func129 rfl rfl rfl (by simp [Tryz.ntmps129]) ⟨rfl, rfl, rfl⟩ ⟨rfl, rfl, rfl⟩ ⟨rfl, rfl, rfl⟩ (by simp [Tryz.ntmps129]) (by simp [Tryz.ntmps129]) (by decide) (by decide) (by decide) ?hI (by omega) ?hcd ?hds ?hfr ?hassign ?hbody ?hrest
  case hA =>
    simp only [num_cons, num_nil, Tryz.ntmps47]
    repeat' (first
 | ((with_reducible apply awO_ev); (· rfl); (· exact sv))
 | (with_reducible apply aw_region)
 | ((with_reducible first | apply awO_nil | apply aw_exit | apply aw_skip | apply aw_ret); (try simp only [CT, ↓reduceIte, Nat.reduceEqDiff])))
    all_goals exact endQ_mk ⟨rfl, rfl, rfl, trivial⟩ trivial
  case hB =>
    repeat' (first
 | ((with_reducible apply awO_ev); (· rfl); (· exact sv))
 | ((with_reducible apply aw_seq); intro _ _)
 | (with_reducible apply aw_region)
 | ((with_reducible first | apply awO_nil | apply aw_exit | apply aw_skip | apply aw_ret); (try simp only [CT, ↓reduceIte, Nat.reduceEqDiff]))
 | ((with_reducible apply aw_cond_false); (· exact sv))
 | (refine Kont.go ‹Kont _ _ _ _› _ ?_)
 | ((with_reducible apply awO_c); (· rfl); (· rfl); (· exact sv); (· (first | exact c1)); (· rfl); (· rfl); (· rfl); (· decide))
 | ((with_reducible apply endQ_sub); (· exact sE); (· exact sN)))
    all_goals exact endQ_mk ⟨rfl, rfl, rfl, trivial⟩ trivial
  case hC =>
    repeat' (first
 | ((with_reducible apply awO_ev); (· rfl); (· exact sv))
 | (with_reducible apply aw_region))
    refine awO_mkm rfl rfl rfl (by (exact nd)) fun b => ?_
    repeat' (first
 | ((with_reducible apply awO_ev); (· rfl); (· exact sv))
 | ((with_reducible first | apply awO_nil | apply aw_exit | apply aw_skip | apply aw_ret); (try simp only [CT, ↓reduceIte, Nat.reduceEqDiff])))
    refine ⟨rfl, fun E a w hS => ?_⟩
    obtain ⟨ρ, hS⟩ := hS
    have h2 := hS.re 10 (cs := [filesA, nilV, nilV, nilV, .v (.map (some b))]) (cs' := [filesA, nilV, nilV, nilV, .un]) rfl rfl fun j x y v hx hy hr => by
      rcases j with _ | _ | _ | _ | _ | j <;> simp only [List.getElem?_cons_zero, List.getElem?_cons_succ, Option.some.injEq] at hx hy
      · subst hx; subst hy; exact hr
      · subst hx; subst hy; exact hr
      · subst hx; subst hy; exact hr
      · subst hx; subst hy; exact hr
      · subst hy; exact .im (.un _)
      · simp at hx
    refine SubK.S ?_ ⟨ρ, h2⟩
    refine (endQ_mk ?_ ?_).2
    · exact ⟨rfl, rfl, trivial⟩
    · exact ⟨rfl, trivial⟩
  case hD =>
    exact wq27
  case hE =>
    simp only [Tryz.ntmps47]
    repeat' (first
 | ((with_reducible apply awO_ev); (· rfl); (· exact sv))
 | (with_reducible apply aw_region))
    refine awO_callR rfl rfl rfl c2 (fun k => rfl) (fun d h => by injection h with h; subst h; exact (by decide : 27 < 77)) ?_
    exact wq27
  case hcd =>
    rw [List.all_eq_true]
    intro x hx
    have := List.mem_of_mem_drop (List.mem_of_mem_take hx)
    simp only [elC, List.mem_flatMap] at this
    obtain ⟨y, _, hy⟩ := this
    rcases List.mem_cons.1 hy with rfl | hy
    · rfl
    · rcases List.mem_cons.1 hy with rfl | hy
      · rfl
      · cases hy
  case hds =>
    rw [List.drop_zero, List.take_of_length_le (by omega)]
  case hfr =>
    intro q hq
    rcases List.mem_cons.1 hq with rfl | hq
    · exact ⟨rfl, rfl⟩
    · rcases List.mem_cons.1 hq with rfl | hq
      · exact ⟨rfl, rfl⟩
      · cases hq
  case hassign =>
    simp only [Tryz.ntmps47]
    refine awR_region rfl ?_
    exact wq27
  case hbody =>
    simp only [Tryz.ntmps47]
    refine awR_seq (M := ⟨[(13, .pt 13 0), (11, .pt 11 0), (10, .pt 10 0)], [(13, [az (cat f), bysA (cat f), ab false]), (11, [ab true]), (10, [filesA, nilV, nilV, nilV, .un])], 77, [10, 11]⟩) (awR_region rfl ?_) ?_
    · skip
      repeat' (first
 | ((with_reducible apply awO_ev); (· rfl); (· exact sv))
 | ((with_reducible first | apply awO_nil | apply aw_exit | apply aw_skip | apply aw_ret); (try simp only [CT, ↓reduceIte, Nat.reduceEqDiff]))
 | ((with_reducible apply awO_c); (· rfl); (· rfl); (· exact sv); (· (first | exact c3 | exact c4)); (· rfl); (· rfl); (· rfl); (· decide))
 | ((with_reducible apply endQ_sub); (· exact sE); (· exact sN)))
      all_goals exact endQ_mk ⟨rfl, rfl, rfl, trivial⟩ ⟨rfl, rfl, rfl, trivial⟩
    refine awR_seq (M := ⟨[(13, .pt 13 0), (11, .pt 11 0), (10, .pt 10 0)], [(13, [az (cat f), bysA (cat f), ab true]), (11, [ab true]), (10, [filesA, nilV, nilV, nilV, .un])], 77, [10, 11]⟩) (awR_region rfl ?_) ?_
    · skip
      repeat' (first
 | ((with_reducible apply awO_ev); (· rfl); (· exact sv))
 | ((with_reducible first | apply awO_nil | apply aw_exit | apply aw_skip | apply aw_ret); (try simp only [CT, ↓reduceIte, Nat.reduceEqDiff]))
 | ((with_reducible apply awO_c); (· rfl); (· rfl); (· exact sv); (· (first | exact c5)); (· rfl); (· rfl); (· rfl); (· decide))
 | ((with_reducible apply endQ_sub); (· exact sE); (· exact sN)))
      all_goals exact endQ_mk ⟨rfl, rfl, rfl, trivial⟩ ⟨rfl, rfl, rfl, trivial⟩
    refine awR_seq (M := ⟨[(13, .pt 13 0), (11, .pt 11 0), (10, .pt 10 0)], [(13, [az (cat f), bysA (cat f), ab true]), (11, [ab true]), (10, [filesA, nilV, nilV, nilV, .un])], 77, [10, 11]⟩) (awR_region rfl ?_) ?_
    · exact wq28
    refine awR_seq (M := ⟨[(13, .pt 13 0), (11, .pt 11 0), (10, .pt 10 0)], [(13, [az (cat f), bysA (cat f), ab true]), (11, [ab true]), (10, [filesA, .os 50 0 3 1, nilV, nilV, .un])], 77, [10, 11]⟩) (awR_region rfl ?_) (awR_region rfl ?_)
    · exact wq28
    · skip
      repeat' (first
 | ((with_reducible apply awO_ev); (· rfl); (· exact sv))
 | ((with_reducible first | apply awO_nil | apply aw_exit | apply aw_skip | apply aw_ret); (try simp only [CT, ↓reduceIte, Nat.reduceEqDiff]))
 | ((with_reducible apply endQ_sub); (· exact sE); (· exact sN)))
      all_goals exact endQ_mk trivial ⟨rfl, rfl, rfl, trivial⟩
  case hrest =>
    simp only [Tryz.ntmps47, Tryz.results47]
    exact wkA
  case hI =>
    intro y
    simp only [num_cons, num_nil, Tryz.ntmps129]
    constructor
    · exact wq27
    refine aw_virt 3 100 2 rfl (by omega) (by simp) ?_
    refine aw_st svs ?_
    repeat' (first
 | ((with_reducible apply awO_ev); (· rfl); (· exact sv))
 | ((with_reducible apply aw_seq); intro _ _)
 | (with_reducible apply aw_region)
 | (with_reducible apply aw_block)
 | ((with_reducible first | apply awO_nil | apply aw_exit | apply aw_skip | apply aw_ret); (try simp only [CT, ↓reduceIte, Nat.reduceEqDiff]))
 | (refine Kont.go ‹Kont _ _ _ _› _ ?_))
    refine aw_loopF (fun i : Nat => [(11, ai i), (3, .os 100 0 2 i)]) (fun i => [(100, elC (f.take i)), (11, [ab true]), (10, [filesA, nilV, nilV, nilV, .un])]) (fun i => i ≤ f.length) (fun i => f.length - i) 0 (Nat.zero_le _) ?_ ?_ ?_
    · exact ⟨rfl, rfl, trivial⟩
    · exact ⟨rfl, rfl, rfl, trivial⟩
    intro i hi
    (simp only [LP, List.append_assoc, List.nil_append, List.cons_append, List.append_nil, List.contains_cons, List.contains_nil, Nat.reduceBEq, Bool.or_false, Bool.or_true, Bool.true_or, Bool.false_or, ↓reduceIte, Bool.false_eq_true])
    have hlen := elC_len (f.take i)
    rw [List.length_take, Nat.min_eq_left hi] at hlen
    by_cases hil : i < f.length
    · have c8 := c7 i hil
      have e1 := elC_succ hil
      have hk1 := (hk _ (List.getElem_mem hil)).1
      have q4 := elC_free 100 (f.take i)
      rcases hk1 with hk1 | hk1 | hk1
      all_goals
        repeat' (first
 | ((with_reducible apply awO_ev); (· rfl); (· exact sv))
 | ((with_reducible apply aw_seq); intro _ _)
 | (with_reducible apply aw_region)
 | (with_reducible apply aw_block)
 | ((with_reducible first | apply awO_nil | apply aw_exit | apply aw_skip | apply aw_ret); (try simp only [CT, ↓reduceIte, Nat.reduceEqDiff]))
 | ((with_reducible apply awO_y); (· rfl); (· rfl); (· decide); (· exact sv); (· exact sv))
 | ((with_reducible apply awO_n); (· rfl); (· rfl); (· decide); (· exact sv); (· rfl); (· rfl); (· decide))
 | ((with_reducible apply aw_cond_false); (· exact sv))
 | (refine Kont.go ‹Kont _ _ _ _› _ ?_)
 | ((with_reducible apply awO_c); (· rfl); (· rfl); (· exact sv); (· (first | exact c8)); (· rfl); (· rfl); (· rfl); (· decide))
 | ((first | ((with_reducible apply awO_guardN); (· rfl); (· rfl); (· exact sv); (· exact nB)) | ((with_reducible apply aw_condN); (· exact sv))); (· exact pN); (· exact pN); all_goals (intro hg; try (exfalso; omega))))
        refine aw_loopF (fun j : Nat => [(8, ab false), (3, .os 100 0 2 (i + 1))]) (fun _ => [(100, elC (f.take i) ++ [az f[i].t, ai f[i].k]), (11, [ab true]), (10, [filesA, nilV, nilV, nilV, .un])]) (fun j => j ≤ 0) (fun j => 0 - j) 0 (Nat.zero_le _) ?_ ?_ ?_
        · exact ⟨rfl, rfl, trivial⟩
        · exact ⟨rfl, rfl, rfl, trivial⟩
        rintro j hj
        (simp only [LP, List.append_assoc, List.nil_append, List.cons_append, List.append_nil, List.contains_cons, List.contains_nil, Nat.reduceBEq, Bool.or_false, Bool.or_true, Bool.true_or, Bool.false_or, ↓reduceIte, Bool.false_eq_true])
        repeat' (first
 | ((with_reducible apply awO_ev); (· rfl); (· exact sv))
 | ((with_reducible apply aw_seq); intro _ _)
 | (with_reducible apply aw_region)
 | ((with_reducible first | apply awO_nil | apply aw_exit | apply aw_skip | apply aw_ret); (try simp only [CT, ↓reduceIte, Nat.reduceEqDiff]))
 | ((with_reducible apply aw_cond_false); (· exact sv))
 | (refine Kont.go ‹Kont _ _ _ _› _ ?_))
        refine LE_mk (i + 1) ?_ ?_ ?_ sN ?_
        · exact hil
        · omega
        · exact ⟨rfl, rfl, trivial⟩
        · refine ⟨?_, rfl, rfl, trivial⟩
          show some _ = some _
          rw [e1]
    · obtain rfl : i = f.length := by omega
      rw [List.take_length] at *
      repeat' (first
 | ((with_reducible apply awO_ev); (· rfl); (· exact sv))
 | ((with_reducible apply aw_seq); intro _ _)
 | (with_reducible apply aw_region)
 | ((with_reducible first | apply awO_nil | apply aw_exit | apply aw_skip | apply aw_ret); (try simp only [CT, ↓reduceIte, Nat.reduceEqDiff]))
 | (refine Kont.go ‹Kont _ _ _ _› _ ?_)
 | ((with_reducible apply endQ_sub); (· exact sE); (· exact sN))
 | ((first | ((with_reducible apply awO_guardN); (· rfl); (· rfl); (· exact sv); (· exact nB)) | ((with_reducible apply aw_condN); (· exact sv))); (· exact pN); (· exact pN); all_goals (intro hg; try (exfalso; omega))))
      all_goals exact endQ_mk ⟨rfl, rfl, trivial⟩ ⟨rfl, rfl, rfl, trivial⟩
end Go.Proofs.YtogmppcfopgkdaaGreatDoor
