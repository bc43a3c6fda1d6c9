/- slices.Insert of bindings, on the abstract machine. -/
import Derived.Test.YtoncfnbgajnhgaaDoorIsB
import Derived.Test.YtoncfnbgajnhgaaDoorIsC
import Derived.Test.YtoncfnbgajnhgaaDoorKmL
namespace Go.Proofs.YtoncfnbgajnhgaaDoor
open Go.RowKit
set_option linter.unusedVariables false
set_option linter.unusedSimpArgs false
set_option maxRecDepth 100000
set_option maxHeartbeats 8000000
theorem insEnd (L : List Bi) (s : List UInt8) (a : Int) (hL : L.length ≤ 10000) :
    Fn Tryd.prog 40 [.os 5 0 2 L.length, ai L.length, .os 88 0 2 1] [(5, biC L), (88, [az s, ai a])] (.os 5 0 2 (L.length + 1)) [(5, biC (L ++ [⟨s, a⟩]))] [] := by
  refine Fn_of_aw (keep := [5]) Tryd.func40 rfl rfl (by simp [Tryd.ntmps40]) ?_
  simp only [num_cons, num_nil, Tryd.ntmps40, Tryd.results40]
  repeat' (first
 | ((with_reducible apply awO_ev); (· rfl); (· exact sv))
 | ((with_reducible apply aw_seq); intro _ _)
 | (with_reducible apply aw_region)
 | (with_reducible apply aw_block)
 | ((first | (with_reducible apply awO_nil) | (with_reducible apply aw_exit) | (with_reducible apply aw_skip) | (with_reducible apply aw_ret)); (try simp only [CT, ↓reduceIte, Nat.reduceEqDiff]))
 | ((with_reducible apply awO_y); (· rfl); (· rfl); (· decide); (· exact sv); (· exact sv))
 | ((with_reducible apply awO_n); (· rfl); (· rfl); (· decide); (· exact sv); (· rfl); (· rfl); (· decide))
 | ((with_reducible apply awO_u); (· rfl); (· rfl); (· exact svr); (· rfl); (· decide))
 | ((with_reducible apply aw_cond_true); (· exact sv))
 | ((with_reducible apply aw_cond_false); (· exact sv))
 | ((with_reducible apply awO_un); (· rfl); (· decide); (· exact sv))
 | (refine Kont.go ‹Kont _ _ _ _› _ ?_)
 | ((first | ((with_reducible apply awO_guard); (· rfl); (· rfl); (· exact sv)) | ((with_reducible apply aw_cond); (· exact sv))); all_goals (intro hg; (try simp only [Bool.not_true, Bool.not_false]); (try simp only [decide_eq_true_eq, decide_eq_false_iff_not, Bool.not_true, Bool.not_false, Bool.not_eq_true', Bool.not_eq_false', Bool.not_not, beq_eq_false_iff_ne, ne_eq, beq_iff_eq, decide_eq_decide] at hg); try (exfalso; omega)))
 | ((with_reducible apply retQ_mk); (· (first | exact .inr rfl | exact .inl rfl)); (· exact sv); (· exact sv); rotate_left; (· rfl))
 | ((with_reducible apply wk_id); (with_reducible apply retQ_mk); (· (first | exact .inr rfl | exact .inl rfl)); (· exact sv); (· exact sv); rotate_left; (· rfl))
 | ((try with_reducible apply wk_id); (with_reducible apply retQ_mk1); (· (first | exact .inr rfl | exact .inl rfl)); (· exact sv); (· exact sv); (· exact sv); (· exact sv); rotate_left; rotate_left; (· simp); (· rfl))
 | ((try with_reducible apply wk_id); (with_reducible apply retQ_mk2); (· (first | exact .inr rfl | exact .inl rfl)); (· exact sv); (· exact sv); (· exact sv); (· exact sv); (· exact sv); (· exact sv); rotate_left; rotate_left; rotate_left; (· simp); (· simp); (· rfl)))
  all_goals simp only [biC_append]
  all_goals rfl
def biV (L : List Bi) : List Value := L.flatMap fun x => [.string (str x.k), .int .i64 x.a]
theorem biC_biV (L : List Bi) : biC L = (biV L).map .v := by
  induction L with
  | nil => rfl
  | cons x r ih => simp only [biC, biV, List.flatMap_cons, List.map_append] at ih ⊢; rw [ih]; rfl
theorem biV_len (L : List Bi) : (biV L).length = L.length * 2 := by
  have := biC_len L
  rwa [biC_biV, List.length_map] at this
theorem biV_one (L : List Bi) : ∀ v ∈ biV L, v.oneCell' = true := by
  intro v hv
  obtain ⟨x, _, hx⟩ := List.mem_flatMap.1 hv
  simp only [List.mem_cons, List.not_mem_nil, or_false] at hx
  rcases hx with rfl | rfl <;> rfl
theorem biV_drop (L : List Bi) (i : Nat) : (biV L).drop (i * 2) = biV (L.drop i) := by
  induction L generalizing i with
  | nil => simp [biV]
  | cons x r ih =>
    cases i with
    | zero => simp
    | succ i =>
      have := ih i
      simp only [biV, List.flatMap_cons] at this ⊢
      rw [show (i + 1) * 2 = i * 2 + 2 by omega]
      simpa using this
theorem biV_take (L : List Bi) (i : Nat) : (biV L).take (i * 2) = biV (L.take i) := by
  induction L generalizing i with
  | nil => simp [biV]
  | cons x r ih =>
    cases i with
    | zero => simp [biV]
    | succ i =>
      have := ih i
      simp only [biV, List.flatMap_cons, List.take_succ_cons] at this ⊢
      rw [show (i + 1) * 2 = i * 2 + 2 by omega]
      simpa using this
/-- Known values that an own object holds. -/
theorem obj_known {w : World} {av : Nat → Prop} {ρ : Nat → Loc} {k : Nat} {us : List Value} (h : ObjR w av ρ (ρ k) (us.map .v)) : ∀ j v, us[j]? = some v → w.cell? ⟨(ρ k).g, (ρ k).off + j, none⟩ = some v := fun j v hj => by
  obtain ⟨x, hx, hr⟩ := h.cells j (.v v) (by rw [List.getElem?_map, hj]; rfl)
  rw [hx, hr.v_eq]
def insA (L : List Bi) (i : Nat) (x : Bi) : List Bi := L.take i ++ x :: L.drop i
theorem biV_ins (L : List Bi) (i : Nat) (x : Bi) : biV (insA L i x) = (biV L).take (i * 2) ++ ([Value.string (str x.k), Value.int .i64 x.a] ++ (biV L).drop (i * 2)) := by
  rw [biV_take, biV_drop]
  simp [biV, insA]
theorem ins_get (L : List Bi) (i : Nat) (x : Bi) (hi : i ≤ L.length) (j : Nat) : (biV (insA L i x))[j]? = if j < i * 2 then (biV L)[j]? else if j < (i + 1) * 2 then [Value.string (str x.k), Value.int .i64 x.a][j - i * 2]? else ((biV L).drop (i * 2))[j - (i + 1) * 2]? := by
  have hl : ((biV L).take (i * 2)).length = i * 2 := by rw [List.length_take, biV_len]; omega
  rw [biV_ins]
  by_cases h1 : j < i * 2
  · rw [if_pos h1, List.getElem?_append_left (by omega), List.getElem?_take, if_pos h1]
  · rw [if_neg h1, List.getElem?_append_right (by omega), hl]
    by_cases h2 : j < (i + 1) * 2
    · rw [if_pos h2, List.getElem?_append_left (by simp; omega)]
    · rw [if_neg h2, List.getElem?_append_right (by simp; omega)]
      congr 1
      simp only [List.length_cons, List.length_nil]
      omega
/-- The cells behind the two copies. -/
theorem ins_cells (L : List Bi) (i : Nat) (x : Bi) (hi : i ≤ L.length) (w : World) (g o : Nat) (h0 : ∀ j v, j < i * 2 → (biV L)[j]? = some v → w.cell? ⟨g, o + j, none⟩ = some v) (hs : ∀ j, j < (L.length + 1) * 2 → (w.cell? ⟨g, o + j, none⟩).isSome = true)
    (w' : World) (h : w' = (w.setCells g (o + (i + 1) * 2) ((biV L).drop (i * 2))).setCells g (o + i * 2) [Value.string (str x.k), Value.int .i64 x.a] ∨ w' = (w.setCells g (o + i * 2) [Value.string (str x.k), Value.int .i64 x.a]).setCells g (o + (i + 1) * 2) ((biV L).drop (i * 2))) :
    ∀ j v, (biV (insA L i x))[j]? = some v → w'.cell? ⟨g, o + j, none⟩ = some v := by
  have hl := biV_len L
  have hd : ((biV L).drop (i * 2)).length = (L.length - i) * 2 := by rw [List.length_drop, hl]; omega
  have s1 : ∀ j, j < (L.length + 1) * 2 → ((w.setCells g (o + (i + 1) * 2) ((biV L).drop (i * 2))).cell? ⟨g, o + j, none⟩).isSome = true := fun j hj => World.isSome_setCells _ _ _ _ _ (hs j hj)
  have s2 : ∀ j, j < (L.length + 1) * 2 → ((w.setCells g (o + i * 2) [Value.string (str x.k), Value.int .i64 x.a]).cell? ⟨g, o + j, none⟩).isSome = true := fun j hj => World.isSome_setCells _ _ _ _ _ (hs j hj)
  intro j v hj
  rw [ins_get L i x hi] at hj
  rcases h with rfl | rfl
  · by_cases c1 : j < i * 2
    · rw [if_pos c1] at hj
      rw [World.cell?_setCells_out _ _ _ _ _ (fun _ _ => by show o + j < _ ∨ _; omega), World.cell?_setCells_out _ _ _ _ _ (fun _ _ => by show o + j < _ ∨ _; omega)]
      exact h0 j v c1 hj
    · rw [if_neg c1] at hj
      by_cases c2 : j < (i + 1) * 2
      · rw [if_pos c2] at hj
        have := World.cell?_setCells_in g [Value.string (str x.k), Value.int .i64 x.a] (o + i * 2) (w.setCells g (o + (i + 1) * 2) ((biV L).drop (i * 2))) (fun t ht => by rw [Nat.add_assoc]; exact s1 _ (by simp at ht; omega)) (j - i * 2) (by simp; omega)
        rw [show o + i * 2 + (j - i * 2) = o + j by omega] at this
        rw [this, ← hj, List.getElem?_eq_getElem]
      · rw [if_neg c2] at hj
        have hj2 := (List.getElem?_eq_some_iff.1 hj).1
        rw [World.cell?_setCells_out _ _ _ _ _ (fun _ _ => by show o + j < _ ∨ _ ≤ o + j; simp; omega)]
        have := World.cell?_setCells_in g ((biV L).drop (i * 2)) (o + (i + 1) * 2) w (fun t ht => by rw [Nat.add_assoc]; exact hs _ (by omega)) (j - (i + 1) * 2) hj2
        rw [show o + (i + 1) * 2 + (j - (i + 1) * 2) = o + j by omega] at this
        rw [this, ← hj, List.getElem?_eq_getElem]
  · by_cases c1 : j < i * 2
    · rw [if_pos c1] at hj
      rw [World.cell?_setCells_out _ _ _ _ _ (fun _ _ => by show o + j < _ ∨ _; omega), World.cell?_setCells_out _ _ _ _ _ (fun _ _ => by show o + j < _ ∨ _; omega)]
      exact h0 j v c1 hj
    · rw [if_neg c1] at hj
      by_cases c2 : j < (i + 1) * 2
      · rw [if_pos c2] at hj
        rw [World.cell?_setCells_out _ _ _ _ _ (fun _ _ => by show o + j < _ ∨ _; omega)]
        have := World.cell?_setCells_in g [Value.string (str x.k), Value.int .i64 x.a] (o + i * 2) w (fun t ht => by rw [Nat.add_assoc]; exact hs _ (by simp at ht; omega)) (j - i * 2) (by simp; omega)
        rw [show o + i * 2 + (j - i * 2) = o + j by omega] at this
        rw [this, ← hj, List.getElem?_eq_getElem]
      · rw [if_neg c2] at hj
        have hj2 := (List.getElem?_eq_some_iff.1 hj).1
        have := World.cell?_setCells_in g ((biV L).drop (i * 2)) (o + (i + 1) * 2) (w.setCells g (o + i * 2) [Value.string (str x.k), Value.int .i64 x.a]) (fun t ht => by rw [Nat.add_assoc]; exact s2 _ (by omega)) (j - (i + 1) * 2) hj2
        rw [show o + (i + 1) * 2 + (j - (i + 1) * 2) = o + j by omega] at this
        rw [this, ← hj, List.getElem?_eq_getElem]
theorem insX (L : List Bi) (i : Nat) (s : List UInt8) (a : Int) (hi : i ≤ L.length) (hL : L.length ≤ 10000) :
    FnX Tryd.prog 40 88 [.os 5 0 2 L.length, ai i, .os 88 0 2 1] [(5, biC L), (88, [az s, ai a])] (.os 5 0 2 (L.length + 1)) [(5, biC (insA L i ⟨s, a⟩))] := by
  have hend := insEnd L s a hL
  rcases Nat.lt_or_ge i L.length with hlt | hge
  case inr =>
    obtain rfl : i = L.length := by omega
    have e : insA L L.length ⟨s, a⟩ = L ++ [⟨s, a⟩] := by simp [insA]
    rw [e]
    exact hend.toX
  case inl =>
  refine ⟨hend.1, fun w bad ρ vs hbad hnb hX hHR hargs => ?_⟩
  have hsz : vs.size = 3 := hargs.1
  obtain ⟨v0, v1, v2, rfl⟩ : ∃ v0 v1 v2, vs = #[v0, v1, v2] := ⟨vs[0], vs[1], vs[2], by
    apply Array.ext
    · simp [hsz]
    · intro j h1 h2
      simp at h2
      match j, h2 with
      | 0, _ => rfl
      | 1, _ => rfl
      | 2, _ => rfl⟩
  obtain ⟨A, c, rfl, q0, q1, q2, qm⟩ := (hargs.2 0 _ _ rfl rfl).os_inv
  obtain ⟨A', vc, rfl, p0, p1, p2, pm⟩ := (hargs.2 2 _ _ rfl rfl).os_inv
  obtain rfl := (hargs.2 1 _ _ rfl rfl).v_eq
  obtain ⟨rfl, qc⟩ := qm (by omega)
  obtain ⟨rfl, pc⟩ := pm (by omega)
  have hob := hHR.obj 5 (biC L) rfl
  have hod := hHR.obj 88 [az s, ai a] rfl
  have hdis : (ρ 88).g ≠ (ρ 5).g := hHR.dis 88 5 _ _ rfl rfl (by omega) (by omega) (by omega)
  obtain ⟨hx0, hxf⟩ := hX
  rw [biC_biV] at hob
  have hcs := obj_known hob
  have hvs : ∀ j v, [Value.string (str s), Value.int .i64 a][j]? = some v → w.cell? ⟨(ρ 88).g, j, none⟩ = some v := fun j v hj => by
    have := obj_known (us := [Value.string (str s), Value.int .i64 a]) hod j v hj
    rwa [hx0, Nat.zero_add] at this
  obtain ⟨hgl, hth⟩ := hob.mem (by omega)
  rw [hx0]
  simp only [Nat.add_zero]
  have hown : blockOf ρ [(5, biC L), (88, [az s, ai a])] 5 (ρ 5).g := ⟨_, rfl, by omega, rfl⟩
  have hone : ∀ v ∈ [Value.string (str s), Value.int .i64 a], v.oneCell' = true := by
    intro v hv
    simp only [List.mem_cons, List.not_mem_nil, or_false] at hv
    rcases hv with rfl | rfl <;> rfl
  have hlen : (biC (insA L i ⟨s, a⟩)).length = (L.length + 1) * 2 := by
    rw [biC_len]
    simp [insA]
    omega
  have hcell : ∀ (w' : World) (g o : Nat), (∀ j v, (biV (insA L i ⟨s, a⟩))[j]? = some v → w'.cell? ⟨g, o + j, none⟩ = some v) → ∀ (j : Nat) (x : AV), (biC (insA L i ⟨s, a⟩))[j]? = some x → ∃ v, w'.cell? ⟨g, o + j, none⟩ = some v ∧ Rep w (avd bad ρ [(5, biC L), (88, [az s, ai a])]) ρ x v := by
    intro w' g o h j x hx
    rw [biC_biV, List.getElem?_map, Option.map_eq_some_iff] at hx
    obtain ⟨v, hv, rfl⟩ := hx
    exact ⟨v, h j v hv, .im (.v _)⟩
  have hment : ∀ x ∈ biC (insA L i ⟨s, a⟩), mentM 5 x = false := by
    intro x hx
    rw [biC_biV] at hx
    obtain ⟨v, _, rfl⟩ := List.mem_map.1 hx
    rfl
  rcases Nat.lt_or_ge c (L.length + 1) with hc | hc
  · refine (insC_grow (ρ 5).g (ρ 5).off L.length c i (ρ 88).g vc (biV L) [Value.string (str s), Value.int .i64 a] w hlt q1 hc (by omega) (biV_len L) rfl hcs hvs (biV_one L) hone).mono ?_
    rintro e w' ⟨G, g1, g2, rfl, ROW, r1, r2, m, hw'⟩
    have hsc : ∀ j, j < G * 2 → (((w.drewN m).alloc (.cells ROW bEl)).cell? ⟨w.heap.size, 0 + j, none⟩).isSome = true := fun j hj => by
      rw [World.cell?_alloc_at (w := w.drewN m) ROW _ w.heap.size (0 + j) rfl, Nat.zero_add, Array.getElem?_eq_getElem (by omega)]; rfl
    have hfz : ∀ j, ((w.drewN m).alloc (.cells ROW bEl)).frozen? ⟨w.heap.size, j, none⟩ = false := fun j => World.frozen?_alloc_at (w := w.drewN m) ROW _ w.heap.size j rfl
    obtain ⟨f1, f2, f3, f4, f5⟩ := setCells_frame w.heap.size [Value.string (str s), Value.int .i64 a] (i * 2) ((w.drewN m).alloc (.cells ROW bEl))
    obtain ⟨k1, k2, k3, k4, k5⟩ := setCells_frame w.heap.size ((biV L).drop (i * 2)) ((i + 1) * 2) (((w.drewN m).alloc (.cells ROW bEl)).setCells w.heap.size (i * 2) [Value.string (str s), Value.int .i64 a])
    rw [← hw'] at k1 k2 k3 k4 k5
    refine done_fresh (L := ⟨w.heap.size, 0, G * 2⟩) hbad hnb hHR (k1.trans f1) (k2.trans f2) (k3.trans f3) (by rw [k4, f4]; simp) (fun b hb hn => ?_) (fun _ => .inr (Nat.le_refl _)) (by rw [hlen]; show _ ≤ G * 2; omega) (fun _ => ⟨by rw [k4, f4]; simp, ?_⟩) (hcell _ _ _ (ins_cells L i ⟨s, a⟩ hi ((w.drewN m).alloc (.cells ROW bEl)) w.heap.size 0 (fun j v hj hv => ?_) (fun j hj => hsc j (by omega)) _ (.inr (by rw [hw', Nat.zero_add, Nat.zero_add])))) hment ?_
    · rw [k5 b (by omega), f5 b (by omega)]
      exact Below.heap_alloc (w.drewN m) _ b hb
    · rw [hw']
      exact World.there_setCells (World.there_setCells (fun j hj => ⟨hsc j hj, hfz _⟩) _ _ _) _ _ _
    · rw [World.cell?_alloc_at (w := w.drewN m) ROW _ w.heap.size (0 + j) rfl, Nat.zero_add, r2 j hj, hv]
    · refine .os (by omega) g1 g2 fun _ => ?_
      rw [rset_same]
      exact ⟨rfl, by show 0 + G * 2 ≤ G * 2; omega⟩
  · refine (insC_shift (ρ 5).g (ρ 5).off L.length c i (ρ 88).g vc (biV L) [Value.string (str s), Value.int .i64 a] w hlt hc q2 hdis (biV_len L) rfl hcs (fun j hj => (hth j (by omega)).1) (fun j hj => (hth j (by omega)).2) hvs (biV_one L) hone hxf).mono ?_
    rintro e w' ⟨rfl, m, hw'⟩
    obtain ⟨f1, f2, f3, f4, f5⟩ := setCells_frame (ρ 5).g ((biV L).drop (i * 2)) ((ρ 5).off + (i + 1) * 2) (w.drewN m)
    obtain ⟨k1, k2, k3, k4, k5⟩ := setCells_frame (ρ 5).g [Value.string (str s), Value.int .i64 a] ((ρ 5).off + i * 2) ((w.drewN m).setCells (ρ 5).g ((ρ 5).off + (i + 1) * 2) ((biV L).drop (i * 2)))
    rw [← hw'] at k1 k2 k3 k4 k5
    refine done_fresh (L := ρ 5) hbad hnb hHR (k1.trans f1) (k2.trans f2) (k3.trans f3) (by rw [k4, f4]; exact Nat.le_refl _) (fun b hb hn => ?_) (fun _ => .inl hown) (by rw [hlen]; omega) (fun _ => ⟨by rw [k4, f4]; exact hgl, ?_⟩) (hcell _ _ _ (ins_cells L i ⟨s, a⟩ hi (w.drewN m) (ρ 5).g (ρ 5).off (fun j v hj hv => hcs j v hv) (fun j hj => (hth j (by omega)).1) _ (.inl hw'))) hment ?_
    · have hne : b ≠ (ρ 5).g := fun e => hn (e ▸ hown)
      rw [k5 b hne, f5 b hne]
      rfl
    · rw [hw']
      exact World.there_setCells (World.there_setCells (w := w.drewN m) (fun j hj => hth j hj) _ _ _) _ _ _
    · refine .os (by omega) hc q2 fun _ => ?_
      rw [rset_same]
      exact ⟨rfl, by omega⟩
end Go.Proofs.YtoncfnbgajnhgaaDoor
