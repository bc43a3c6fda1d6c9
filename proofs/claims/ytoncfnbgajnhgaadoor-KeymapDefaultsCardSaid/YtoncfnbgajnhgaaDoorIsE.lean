/- slices.Delete of bindings: said of cells. -/
import Derived.Test.YtoncfnbgajnhgaaDoorIsC
import Derived.Lib.Hide
import Derived.Lib.SliceRun
namespace Go.Proofs.YtoncfnbgajnhgaaDoor
open Go.RowKit Go.Lib
set_option linter.unusedVariables false
set_option linter.unusedSimpArgs false
set_option linter.unusedSimpArgs false
theorem run_clearN {P : Program} (w : World) (t e ty : TypeId) (z : Value) (ht : P.underlying t = some (.slice e)) (hv : ∀ w, (zeroValue e).run P w = .ok z w) (b o n c : Nat) (zs : List Value) (hz : (Builtin.zeroCells z.cells n).toList = zs) (h1 : ∀ v ∈ zs, v.oneCell' = true) (hn : 0 < n)
    (hc : ∀ j, j < zs.length → (w.cell? ⟨b, o + j, none⟩).isSome = true) (hf : ∀ j, j < zs.length → w.frozen? ⟨b, o + j, none⟩ = false) :
    (Builtin.clear_ #[t] ty #[.slice (some ⟨b, o, none⟩) n c]).run P w = .ok (.tuple #[]) (w.setCells b o zs) := by
  have hst := run_storeCells_cells (P := P) b o zs 0 w (by simpa using hc) (by simpa using hf) h1
  simp only [Nat.add_zero] at hst
  obtain ⟨m, rfl⟩ : ∃ m, n = m + 1 := ⟨n - 1, by omega⟩
  simp [Builtin.clear_, run_underlying ht, hv, hz, hst]
theorem zeroB (w : World) : (zeroValue bEl).run Tryd.prog w = .ok zB w := by
  obtain ⟨i, hi, hz, _⟩ := info_bEl
  simp [zeroValue, typeInfo, hi, hz]
set_option maxHeartbeats 4000000 in
set_option maxRecDepth 100000 in
theorem delC (b off n c i j : Nat) (cs : List Value) (w : World) (hi : j = i + 1) (hj : j ≤ n) (hnc : n ≤ c) (hc63 : c ≤ 9223372036854775807) (hcl : cs.length = n * 2)
    (hcs : ∀ j v, cs[j]? = some v → w.cell? ⟨b, off + j, none⟩ = some v) (hfz : ∀ j, j < n * 2 → w.frozen? ⟨b, off + j, none⟩ = false) (h1c : ∀ v ∈ cs, v.oneCell' = true) :
    Calls Tryd.prog 38 #[.slice (some ⟨b, off, none⟩) n c, .int .i64 i, .int .i64 j] w fun e w' =>
      e = .returned (.slice (some ⟨b, off, none⟩) (i + (n - j)) c) ∧ ∃ k, w' = ((w.drewN k).setCells b (off + i * 2) (cs.drop (j * 2))).setCells b (off + (i + (n - j)) * 2) [.string ⟨#[]⟩, .int .i64 0] := by
  have mixed := mixedB
  have hlt : i < j := by omega
  obtain ⟨i0, hi0, hz0, hz1, hz2⟩ := info_bEl
  have hsp : ∀ k, k < n * 2 → (w.cell? ⟨b, off + k, none⟩).isSome = true := fun k hk => by rw [hcs k _ (List.getElem?_eq_getElem (by omega))]; rfl
  obtain ⟨news, hnews⟩ : ∃ news, news = cs.drop (j * 2) := ⟨_, rfl⟩
  have hlen : news.length = (n - j) * 2 := by rw [hnews, List.length_drop, hcl]; omega
  obtain ⟨A, hA, hsrc⟩ : ∃ A : Addr, (if c = j then some (⟨b, off, none⟩ : Addr) else some ⟨b, off + j * 2, none⟩) = some A ∧ Hid (∀ t u, news[t]? = some u → w.drew.cell? (A.add t) = some u) := by
    by_cases h : c = j
    · refine ⟨⟨b, off, none⟩, by simp [h], fun t u hu => ?_⟩
      have h0 : news.length = 0 := by rw [hlen]; omega
      rw [List.length_eq_zero_iff.1 h0] at hu
      simp at hu
    · refine ⟨⟨b, off + j * 2, none⟩, by simp [h], fun t u hu => ?_⟩
      rw [Addr.add_lit, show off + j * 2 + t = off + (j * 2 + t) by omega]
      rw [hnews, List.getElem?_drop] at hu
      exact hcs _ u hu
  have s1 : Hid (news.length = (n - j) * 2) := hlen
  have s2 : Hid (∀ u ∈ news, u.oneCell' = true) := fun u hu => h1c u (List.mem_of_mem_drop (by rw [← hnews]; exact hu))
  have s3 : Hid (∀ t, t < news.length → (w.drew.cell? ⟨b, off + i * 2 + t, none⟩).isSome = true ∧ w.drew.frozen? ⟨b, off + i * 2 + t, none⟩ = false) := by
    intro t ht
    rw [hlen] at ht
    rw [Nat.add_assoc]
    exact ⟨hsp _ (by omega), hfz _ (by omega)⟩
  obtain ⟨W1, hW1⟩ : ∃ W1, W1 = w.drew.setCells b (off + i * 2) news := ⟨_, rfl⟩
  have hcl2 : ∀ ty, (Builtin.clear_ #[bSl] ty #[.slice (some ⟨b, off + (i + (n - j)) * 2, none⟩) (n - (i + (n - j))) (c - (i + (n - j)))]).run Tryd.prog W1 = .ok (.tuple #[]) (W1.setCells b (off + (i + (n - j)) * 2) [.string ⟨#[]⟩, .int .i64 0]) := fun ty => by
    have e1 : n - (i + (n - j)) = 1 := by omega
    rw [e1]
    exact run_clearN W1 bSl bEl ty zB u_bSl zeroB b (off + (i + (n - j)) * 2) 1 _ [.string ⟨#[]⟩, .int .i64 0] (by simp [Builtin.zeroCells, Value.cells, Array.range_succ]) (by intro v hv; simp only [List.mem_cons, List.not_mem_nil, or_false] at hv; rcases hv with rfl | rfl <;> rfl) (by omega)
      (fun t ht => by
        simp at ht
        rw [hW1, Nat.add_assoc]
        exact World.isSome_setCells _ _ _ _ _ (hsp _ (by omega)))
      (fun t ht => by
        simp at ht
        rw [hW1, World.frozen?_setCells, Nat.add_assoc]
        exact hfz _ (by omega))
  have hW : Hid (W1 = w.drew.setCells b (off + i * 2) news) := hW1
  have hic : i ≤ c := by omega
  have hjc : j ≤ c := by omega
  have hin : i ≤ n := by omega
  have hij : ¬ ((i : Int) = (j : Int)) := by omega
  have hN : Hid (news = cs.drop (j * 2)) := hnews
  have hI : Hid (j = i + 1) := hi
  clear hW1 hnews hlen hi
  go_enter Tryd.func38, Tryd.ntmps38
  go_wp2_with fail
  go_region_law_o (refine step_append_room rfl (.tmp 22) (.tmp 25) bSl rfl bEl i0 2 u_bSl hi0 hz1 b off i c (by simp [Act.eval, Act.put]) A (n - j) (c - j) news (by simp [Act.eval, Act.put, hA]) s1.out hsrc.out s2.out (by omega) s3.out ?_; rw [← hW.out])
  go_wp2
  go_ret
  refine ⟨rfl, 1, ?_⟩
  rw [← hN.out]
  first | rfl | (rw [hW.out]; rfl)
end Go.Proofs.YtoncfnbgajnhgaaDoor
