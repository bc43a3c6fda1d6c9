/- slices.Insert of strings, on the abstract machine. -/
import Derived.Test.YtapmolfpkhfpgaaIsB
import Derived.Test.YtapmolfpkhfpgaaIsS
namespace Go.Proofs.Ytapmolfpkhfpgaa
open Go.RowKit
set_option linter.unusedVariables false
set_option linter.unusedSimpArgs false
set_option maxRecDepth 100000
set_option maxHeartbeats 8000000
def zV (L : List (List UInt8)) : List Value := L.map fun x => .string (str x)
theorem az_zV (L : List (List UInt8)) : L.map az = (zV L).map .v := by simp [zV]
theorem zV_len (L : List (List UInt8)) : (zV L).length = L.length := by simp [zV]
theorem zV_one (L : List (List UInt8)) : ∀ v ∈ zV L, v.oneCell' = true := by
  intro v hv
  obtain ⟨x, _, rfl⟩ := List.mem_map.1 hv
  rfl
theorem zV_drop (L : List (List UInt8)) (i : Nat) : (zV L).drop i = zV (L.drop i) := by simp [zV, List.map_drop]
theorem zV_take (L : List (List UInt8)) (i : Nat) : (zV L).take i = zV (L.take i) := by simp [zV, List.map_take]
/-- Known values that an own object holds. -/
theorem obj_known {w : World} {av : Nat → Prop} {ρ : Nat → Loc} {k : Nat} {us : List Value} (h : ObjR w av ρ (ρ k) (us.map .v)) : ∀ j v, us[j]? = some v → w.cell? ⟨(ρ k).g, (ρ k).off + j, none⟩ = some v := fun j v hj => by
  obtain ⟨x, hx, hr⟩ := h.cells j (.v v) (by rw [List.getElem?_map, hj]; rfl)
  rw [hx, hr.v_eq]
def insA (L : List (List UInt8)) (i : Nat) (x : List UInt8) : List (List UInt8) := L.take i ++ x :: L.drop i
theorem zV_ins (L : List (List UInt8)) (i : Nat) (x : List UInt8) : zV (insA L i x) = (zV L).take i ++ ([Value.string (str x)] ++ (zV L).drop i) := by
  rw [zV_take, zV_drop]
  simp [zV, insA]
theorem ins_get (L : List (List UInt8)) (i : Nat) (x : List UInt8) (hi : i ≤ L.length) (j : Nat) : (zV (insA L i x))[j]? = if j < i then (zV L)[j]? else if j < (i + 1) then [Value.string (str x)][j - i]? else ((zV L).drop (i))[j - (i + 1)]? := by
  have hl : ((zV L).take (i)).length = i := by rw [List.length_take, zV_len]; omega
  rw [zV_ins]
  by_cases h1 : j < i
  · rw [if_pos h1, List.getElem?_append_left (by omega), List.getElem?_take, if_pos h1]
  · rw [if_neg h1, List.getElem?_append_right (by omega), hl]
    by_cases h2 : j < (i + 1)
    · rw [if_pos h2, List.getElem?_append_left (by simp; omega)]
    · rw [if_neg h2, List.getElem?_append_right (by simp; omega)]
      congr 1
/-- The cells behind the two copies. -/
theorem ins_cells (L : List (List UInt8)) (i : Nat) (x : List UInt8) (hi : i ≤ L.length) (w : World) (g o : Nat) (h0 : ∀ j v, j < i → (zV L)[j]? = some v → w.cell? ⟨g, o + j, none⟩ = some v) (hs : ∀ j, j < (L.length + 1) → (w.cell? ⟨g, o + j, none⟩).isSome = true)
    (w' : World) (h : w' = (w.setCells g (o + (i + 1)) ((zV L).drop (i))).setCells g (o + i) [Value.string (str x)] ∨ w' = (w.setCells g (o + i) [Value.string (str x)]).setCells g (o + (i + 1)) ((zV L).drop (i))) :
    ∀ j v, (zV (insA L i x))[j]? = some v → w'.cell? ⟨g, o + j, none⟩ = some v := by
  have hl := zV_len L
  have hd : ((zV L).drop (i)).length = (L.length - i) := by rw [List.length_drop, hl]
  have s1 : ∀ j, j < (L.length + 1) → ((w.setCells g (o + (i + 1)) ((zV L).drop (i))).cell? ⟨g, o + j, none⟩).isSome = true := fun j hj => World.isSome_setCells _ _ _ _ _ (hs j hj)
  have s2 : ∀ j, j < (L.length + 1) → ((w.setCells g (o + i) [Value.string (str x)]).cell? ⟨g, o + j, none⟩).isSome = true := fun j hj => World.isSome_setCells _ _ _ _ _ (hs j hj)
  intro j v hj
  rw [ins_get L i x hi] at hj
  rcases h with rfl | rfl
  · by_cases c1 : j < i
    · rw [if_pos c1] at hj
      rw [World.cell?_setCells_out _ _ _ _ _ (fun _ _ => by show o + j < _ ∨ _; omega), World.cell?_setCells_out _ _ _ _ _ (fun _ _ => by show o + j < _ ∨ _; omega)]
      exact h0 j v c1 hj
    · rw [if_neg c1] at hj
      by_cases c2 : j < (i + 1)
      · rw [if_pos c2] at hj
        have := World.cell?_setCells_in g [Value.string (str x)] (o + i) (w.setCells g (o + (i + 1)) ((zV L).drop (i))) (fun t ht => by rw [Nat.add_assoc]; exact s1 _ (by simp at ht; omega)) (j - i) (by simp; omega)
        rw [show o + i + (j - i) = o + j by omega] at this
        rw [this, ← hj, List.getElem?_eq_getElem]
      · rw [if_neg c2] at hj
        have hj2 := (List.getElem?_eq_some_iff.1 hj).1
        rw [World.cell?_setCells_out _ _ _ _ _ (fun _ _ => by show o + j < _ ∨ _ ≤ o + j; simp; omega)]
        have := World.cell?_setCells_in g ((zV L).drop (i)) (o + (i + 1)) w (fun t ht => by rw [Nat.add_assoc]; exact hs _ (by omega)) (j - (i + 1)) hj2
        rw [show o + (i + 1) + (j - (i + 1)) = o + j by omega] at this
        rw [this, ← hj, List.getElem?_eq_getElem]
  · by_cases c1 : j < i
    · rw [if_pos c1] at hj
      rw [World.cell?_setCells_out _ _ _ _ _ (fun _ _ => by show o + j < _ ∨ _; omega), World.cell?_setCells_out _ _ _ _ _ (fun _ _ => by show o + j < _ ∨ _; omega)]
      exact h0 j v c1 hj
    · rw [if_neg c1] at hj
      by_cases c2 : j < (i + 1)
      · rw [if_pos c2] at hj
        rw [World.cell?_setCells_out _ _ _ _ _ (fun _ _ => by show o + j < _ ∨ _; omega)]
        have := World.cell?_setCells_in g [Value.string (str x)] (o + i) w (fun t ht => by rw [Nat.add_assoc]; exact hs _ (by simp at ht; omega)) (j - i) (by simp; omega)
        rw [show o + i + (j - i) = o + j by omega] at this
        rw [this, ← hj, List.getElem?_eq_getElem]
      · rw [if_neg c2] at hj
        have hj2 := (List.getElem?_eq_some_iff.1 hj).1
        have := World.cell?_setCells_in g ((zV L).drop (i)) (o + (i + 1)) (w.setCells g (o + i) [Value.string (str x)]) (fun t ht => by rw [Nat.add_assoc]; exact s2 _ (by omega)) (j - (i + 1)) hj2
        rw [show o + (i + 1) + (j - (i + 1)) = o + j by omega] at this
        rw [this, ← hj, List.getElem?_eq_getElem]
theorem insS (K : List (List UInt8)) (n i : Nat) (s : List UInt8) (hm : n ≤ K.length) (hlt : i < n) (hL : K.length ≤ 10000) :
    FnX Try.prog 59 65 [.os 2000 0 1 n, ai i, .os 65 0 1 1] [(2000, K.map az), (65, [az s])] (.os 2000 0 1 (n + 1)) [(2000, (insA (K.take n) i s).map az)] := by
  obtain ⟨L, hKL⟩ : ∃ L, L = K.take n := ⟨_, rfl⟩
  rw [← hKL]
  have hLn : L.length = n := by rw [hKL, List.length_take]; omega
  have hi : i ≤ L.length := by omega
  subst hLn
  refine ⟨by kernel_rfl, fun w bad ρ vs hbad hnb hX hHR hargs => ?_⟩
  have hsz : vs.size = 3 := hargs.1
  obtain ⟨v0, v1, v2, rfl⟩ : ∃ v0 v1 v2, vs = #[v0, v1, v2] := ⟨vs[0], vs[1], vs[2], by
    apply Array.ext
    · simp [hsz]
    · intro j h1 h2
      simp at h2
      match j, h2 with
      | 0, _ => rfl
      | 1, _ => rfl
      | 2, _ => rfl⟩
  obtain ⟨A, c, rfl, q0, q1, q2, qm⟩ := (hargs.2 0 _ _ rfl rfl).os_inv
  obtain ⟨A', vc, rfl, p0, p1, p2, pm⟩ := (hargs.2 2 _ _ rfl rfl).os_inv
  obtain rfl := (hargs.2 1 _ _ rfl rfl).v_eq
  obtain ⟨rfl, qc⟩ := qm (by omega)
  obtain ⟨rfl, pc⟩ := pm (by omega)
  have hob := hHR.obj 2000 (K.map az) rfl
  have hod := hHR.obj 65 [az s] rfl
  have hdis : (ρ 65).g ≠ (ρ 2000).g := hHR.dis 65 2000 _ _ rfl rfl (by omega) (by omega) (by omega)
  obtain ⟨hx0, hxf⟩ := hX
  rw [az_zV] at hob
  have hcs : ∀ j v, (zV L)[j]? = some v → w.cell? ⟨(ρ 2000).g, (ρ 2000).off + j, none⟩ = some v := fun j v hj => obj_known hob j v (by
    rw [hKL, ← zV_take, List.getElem?_take] at hj
    split at hj
    · exact hj
    · cases hj)
  have hvs : ∀ j v, [Value.string (str s)][j]? = some v → w.cell? ⟨(ρ 65).g, j, none⟩ = some v := fun j v hj => by
    have := obj_known (us := [Value.string (str s)]) hod j v hj
    rwa [hx0, Nat.zero_add] at this
  obtain ⟨hgl, hth⟩ := hob.mem (by omega)
  rw [hx0]
  simp only [Nat.add_zero]
  have hown : blockOf ρ [(2000, K.map az), (65, [az s])] 2000 (ρ 2000).g := ⟨_, rfl, by omega, rfl⟩
  have hone : ∀ v ∈ [Value.string (str s)], v.oneCell' = true := by
    intro v hv
    simp only [List.mem_cons, List.not_mem_nil, or_false] at hv
    subst hv; rfl
  have hlen : (List.map az (insA L i s)).length = (L.length + 1) := by
    rw [List.length_map]
    simp [insA]
    omega
  have hcell : ∀ (w' : World) (g o : Nat), (∀ j v, (zV (insA L i s))[j]? = some v → w'.cell? ⟨g, o + j, none⟩ = some v) → ∀ (j : Nat) (x : AV), (List.map az (insA L i s))[j]? = some x → ∃ v, w'.cell? ⟨g, o + j, none⟩ = some v ∧ Rep w (avd bad ρ [(2000, K.map az), (65, [az s])]) ρ x v := by
    intro w' g o h j x hx
    rw [az_zV, List.getElem?_map, Option.map_eq_some_iff] at hx
    obtain ⟨v, hv, rfl⟩ := hx
    exact ⟨v, h j v hv, .im (.v _)⟩
  have hment : ∀ x ∈ List.map az (insA L i s), mentM 2000 x = false := by
    intro x hx
    rw [az_zV] at hx
    obtain ⟨v, _, rfl⟩ := List.mem_map.1 hx
    rfl
  rcases Nat.lt_or_ge c (L.length + 1) with hc | hc
  · refine (insC_grow (ρ 2000).g (ρ 2000).off L.length c i (ρ 65).g vc (zV L) [Value.string (str s)] w hlt q1 hc (by omega) (zV_len L) rfl hcs hvs (zV_one L) hone).mono ?_
    rintro e w' ⟨G, g1, g2, rfl, ROW, r1, r2, m, hw'⟩
    have hsc : ∀ j, j < G → (((w.drewN m).alloc (.cells ROW bEl)).cell? ⟨w.heap.size, 0 + j, none⟩).isSome = true := fun j hj => by
      rw [World.cell?_alloc_at (w := w.drewN m) ROW _ w.heap.size (0 + j) rfl, Nat.zero_add, Array.getElem?_eq_getElem (by omega)]; rfl
    have hfz : ∀ j, ((w.drewN m).alloc (.cells ROW bEl)).frozen? ⟨w.heap.size, j, none⟩ = false := fun j => World.frozen?_alloc_at (w := w.drewN m) ROW _ w.heap.size j rfl
    obtain ⟨f1, f2, f3, f4, f5⟩ := setCells_frame w.heap.size [Value.string (str s)] (i) ((w.drewN m).alloc (.cells ROW bEl))
    obtain ⟨k1, k2, k3, k4, k5⟩ := setCells_frame w.heap.size ((zV L).drop (i)) ((i + 1)) (((w.drewN m).alloc (.cells ROW bEl)).setCells w.heap.size (i) [Value.string (str s)])
    rw [← hw'] at k1 k2 k3 k4 k5
    refine done_fresh (L := ⟨w.heap.size, 0, G⟩) hbad hnb hHR (k1.trans f1) (k2.trans f2) (k3.trans f3) (by rw [k4, f4]; simp) (fun b hb hn => ?_) (fun _ => .inr (Nat.le_refl _)) (by rw [hlen]; show _ ≤ G; omega) (fun _ => ⟨by rw [k4, f4]; simp, ?_⟩) (hcell _ _ _ (ins_cells L i s hi ((w.drewN m).alloc (.cells ROW bEl)) w.heap.size 0 (fun j v hj hv => ?_) (fun j hj => hsc j (by omega)) _ (.inr (by rw [hw', Nat.zero_add, Nat.zero_add])))) hment ?_
    · rw [k5 b (by omega), f5 b (by omega)]
      exact Below.heap_alloc (w.drewN m) _ b hb
    · rw [hw']
      exact World.there_setCells (World.there_setCells (fun j hj => ⟨hsc j hj, hfz _⟩) _ _ _) _ _ _
    · rw [World.cell?_alloc_at (w := w.drewN m) ROW _ w.heap.size (0 + j) rfl, Nat.zero_add, r2 j hj, hv]
    · refine .os (by omega) g1 g2 fun _ => ?_
      rw [rset_same]
      exact ⟨rfl, by show 0 + G * 1 ≤ G; omega⟩
  · refine (insC_shift (ρ 2000).g (ρ 2000).off L.length c i (ρ 65).g vc (zV L) [Value.string (str s)] w hlt hc q2 hdis (zV_len L) rfl hcs (fun j hj => (hth j (by omega)).1) (fun j hj => (hth j (by omega)).2) hvs (zV_one L) hone hxf).mono ?_
    rintro e w' ⟨rfl, m, hw'⟩
    obtain ⟨f1, f2, f3, f4, f5⟩ := setCells_frame (ρ 2000).g ((zV L).drop (i)) ((ρ 2000).off + (i + 1)) (w.drewN m)
    obtain ⟨k1, k2, k3, k4, k5⟩ := setCells_frame (ρ 2000).g [Value.string (str s)] ((ρ 2000).off + i) ((w.drewN m).setCells (ρ 2000).g ((ρ 2000).off + (i + 1)) ((zV L).drop (i)))
    rw [← hw'] at k1 k2 k3 k4 k5
    refine done_fresh (L := ρ 2000) hbad hnb hHR (k1.trans f1) (k2.trans f2) (k3.trans f3) (by rw [k4, f4]; exact Nat.le_refl _) (fun b hb hn => ?_) (fun _ => .inl hown) (by rw [hlen]; omega) (fun _ => ⟨by rw [k4, f4]; exact hgl, ?_⟩) (hcell _ _ _ (ins_cells L i s hi (w.drewN m) (ρ 2000).g (ρ 2000).off (fun j v hj hv => hcs j v hv) (fun j hj => (hth j (by omega)).1) _ (.inl hw'))) hment ?_
    · have hne : b ≠ (ρ 2000).g := fun e => hn (e ▸ hown)
      rw [k5 b hne, f5 b hne]
      rfl
    · rw [hw']
      exact World.there_setCells (World.there_setCells (w := w.drewN m) (fun j hj => hth j hj) _ _ _) _ _ _
    · refine .os (by omega) hc q2 fun _ => ?_
      rw [rset_same]
      exact ⟨rfl, by omega⟩
end Go.Proofs.Ytapmolfpkhfpgaa
