/- slices.Delete of bindings, on the abstract machine. -/
import Derived.Test.YtoncfnbgajnhgaaDoorIsD
import Derived.Test.YtoncfnbgajnhgaaDoorIsE
namespace Go.Proofs.YtoncfnbgajnhgaaDoor
open Go.RowKit
set_option linter.unusedVariables false
set_option linter.unusedSimpArgs false
set_option maxRecDepth 100000
set_option maxHeartbeats 8000000
def delA (L : List Bi) (i : Nat) : List Bi := L.take i ++ L.drop (i + 1)
theorem biV_del (L : List Bi) (i : Nat) : biV (delA L i) = (biV L).take (i * 2) ++ (biV L).drop ((i + 1) * 2) := by
  rw [biV_take, biV_drop]
  simp [biV, delA]
theorem delF (L : List Bi) (i : Nat) (hi : i < L.length) : Fn Tryd.prog 38 [.os 5 0 2 L.length, ai i, ai ((i : Int) + 1)] [(5, biC L)] (.os 5 0 2 (L.length - 1)) [(5, biC (delA L i))] [] := by
  refine ⟨by rfl, fun w bad ρ vs hbad hnb hHR hargs => ?_⟩
  have hsz : vs.size = 3 := hargs.1
  obtain ⟨v0, v1, v2, rfl⟩ : ∃ v0 v1 v2, vs = #[v0, v1, v2] := ⟨vs[0], vs[1], vs[2], by
    apply Array.ext
    · simp [hsz]
    · intro j h1 h2
      simp at h2
      match j, h2 with
      | 0, _ => rfl
      | 1, _ => rfl
      | 2, _ => rfl⟩
  obtain ⟨A, c, rfl, q0, q1, q2, qm⟩ := (hargs.2 0 _ _ rfl rfl).os_inv
  obtain rfl := (hargs.2 1 _ _ rfl rfl).v_eq
  obtain rfl := (hargs.2 2 _ _ rfl rfl).v_eq
  obtain ⟨rfl, qc⟩ := qm (by omega)
  have hob := hHR.obj 5 (biC L) rfl
  rw [biC_biV] at hob
  have hcs := obj_known hob
  obtain ⟨hgl, hth⟩ := hob.mem (by omega)
  simp only [Nat.add_zero]
  have hown : blockOf ρ [(5, biC L)] 5 (ρ 5).g := ⟨_, rfl, by omega, rfl⟩
  have hl := biV_len L
  have hlen : (biC (delA L i)).length = (L.length - 1) * 2 := by
    rw [biC_len]
    simp [delA]
    omega
  have hmain := delC (ρ 5).g (ρ 5).off L.length c i (i + 1) (biV L) w rfl (by omega) q1 q2 hl hcs (fun j hj => (hth j (by omega)).2) (biV_one L)
  rw [show (((i + 1 : Nat) : Int)) = (i : Int) + 1 by omega, show i + (L.length - (i + 1)) = L.length - 1 by omega] at hmain
  refine hmain.mono ?_
  rintro e w' ⟨rfl, m, hw'⟩
  obtain ⟨f1, f2, f3, f4, f5⟩ := setCells_frame (ρ 5).g ((biV L).drop ((i + 1) * 2)) ((ρ 5).off + i * 2) (w.drewN m)
  obtain ⟨k1, k2, k3, k4, k5⟩ := setCells_frame (ρ 5).g [Value.string ⟨#[]⟩, Value.int .i64 0] ((ρ 5).off + (L.length - 1) * 2) ((w.drewN m).setCells (ρ 5).g ((ρ 5).off + i * 2) ((biV L).drop ((i + 1) * 2)))
  rw [← hw'] at k1 k2 k3 k4 k5
  obtain ⟨v', ρ', a1, a2, a3, a4, a5⟩ := done_fresh (w' := w') (k := 5) (L := ρ 5) (cs := biC (delA L i)) (v := .slice (some ⟨(ρ 5).g, (ρ 5).off, none⟩) (L.length - 1) c) (r := .os 5 0 2 (L.length - 1)) hbad hnb hHR (k1.trans f1) (k2.trans f2) (k3.trans f3) (by rw [k4, f4]; exact Nat.le_refl _) (fun b hb hn => by
      have hne : b ≠ (ρ 5).g := fun e => hn (e ▸ hown)
      rw [k5 b hne, f5 b hne]
      rfl) (fun _ => .inl hown) (by rw [hlen]; omega) (fun _ => ⟨by rw [k4, f4]; exact hgl, by
      rw [hw']
      exact World.there_setCells (World.there_setCells (w := w.drewN m) (fun j hj => hth j hj) _ _ _) _ _ _⟩) (fun j x hx => by
      have hjl := (List.getElem?_eq_some_iff.1 hx).1
      rw [hlen] at hjl
      rw [biC_biV, List.getElem?_map, Option.map_eq_some_iff] at hx
      obtain ⟨v, hv, rfl⟩ := hx
      refine ⟨v, ?_, .im (.v _)⟩
      rw [biV_del] at hv
      have hl2 : ((biV L).take (i * 2)).length = i * 2 := by rw [List.length_take, hl]; omega
      rw [hw', World.cell?_setCells_out _ _ _ _ _ (fun _ _ => by show (ρ 5).off + j < _ ∨ _; omega)]
      by_cases c1 : j < i * 2
      · rw [List.getElem?_append_left (by omega), List.getElem?_take, if_pos c1] at hv
        rw [World.cell?_setCells_out _ _ _ _ _ (fun _ _ => by show (ρ 5).off + j < _ ∨ _; omega)]
        exact hcs j v hv
      · rw [List.getElem?_append_right (by omega), hl2] at hv
        have hj2 := (List.getElem?_eq_some_iff.1 hv).1
        have := World.cell?_setCells_in (ρ 5).g ((biV L).drop ((i + 1) * 2)) ((ρ 5).off + i * 2) (w.drewN m) (fun t ht => by
          rw [List.length_drop, hl] at ht
          rw [Nat.add_assoc]
          exact (hth _ (by omega)).1) (j - i * 2) hj2
        rw [show (ρ 5).off + i * 2 + (j - i * 2) = (ρ 5).off + j by omega] at this
        rw [this, ← hv, List.getElem?_eq_getElem]) (fun x hx => by
      rw [biC_biV] at hx
      obtain ⟨v, _, rfl⟩ := List.mem_map.1 hx
      rfl) (.os (by omega) (by omega) q2 fun _ => by
      rw [rset_same]
      exact ⟨rfl, by omega⟩)
  exact ⟨v', ρ', a1, a2, a3, a4, a5, fun k hk => by cases hk⟩
end Go.Proofs.YtoncfnbgajnhgaaDoor
