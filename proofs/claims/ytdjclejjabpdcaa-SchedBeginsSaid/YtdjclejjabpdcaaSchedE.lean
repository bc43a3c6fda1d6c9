/- The examples of the chapter (awake): they hold. And how a schedule that comes in as an argument reads. -/
import Derived.Test.YtdjclejjabpdcaaSchedD
namespace Go.Proofs.Ytdjclejjabpdcaa
open Go.ChangeShapes Go.WideShapes Go.ChangeAt Go.RowKit Go.Joins
set_option linter.unusedVariables false
set_option linter.unusedSimpArgs false
theorem aw1 : pickF ⟨2, 0, 0, [4, 0]⟩ [2, 5, 7] = (5, ⟨2, 5, 0, [0]⟩, 0) := by kernel_rfl
theorem aw2 : pickF ⟨2, 5, 0, [0]⟩ [2, 5, 7] = (2, ⟨2, 2, 0, []⟩, 0) := by kernel_rfl
theorem aw3 : pickF ⟨2, 2, 0, []⟩ [2, 5, 7] = (5, ⟨2, 5, 0, []⟩, 0) := by kernel_rfl
theorem aw4 : pickF ⟨3, 0, 0, []⟩ [2, 5] = (5, ⟨3, 5, 11400714819323198485, []⟩, 0) := by kernel_rfl
theorem aw5 : pickF ⟨1, 7, 0, []⟩ [2, 5, 7] = (2, ⟨1, 2, 0, []⟩, 0) := by kernel_rfl
set_option maxHeartbeats 1000000 in
set_option maxRecDepth 100000 in
theorem awake_any (w : World) : Calls Try.prog 8 #[] w fun e w' => e = .returned (.bool true) ∧ Below w.heap.size w w' := by
  go_enter Try.func8, Try.ntmps8
  go_wp2_with fail
  have hR := Reads.new w 3 #[.int .i64 2, .int .i64 5, .int .i64 7] 3 rfl (by omega)
  have hL := Reads.new (w.alloc (.cells #[.int .i64 2, .int .i64 5, .int .i64 7] 3)) 3 #[.int .i64 4, .int .i64 0] 2 rfl (by omega)
  replace hR := hR.below ((Below.refl _ _).alloc (Nat.le_refl _) (.cells #[.int .i64 4, .int .i64 0] 3))
  with_reducible refine (pick_any 2 0 0 _ 2 2 [4, 0] _ 3 3 [2, 5, 7] _ (by simpa using hL) hR (by omega)).mono ?_
  rw [aw1]
  rintro e w1 ⟨A1, n1, c1, rfl, hr1, hb1, _⟩
  obtain rfl : 1 = n1 := hr1.len_int
  have hB1 : Below w.heap.size w w1 := (((Below.refl _ _).alloc (Nat.le_refl _) _).alloc (by simp) _).trans (hb1.mono (by simp; omega))
  replace hR := hR.below hb1
  clear hb1 hL
  simp only [] at hr1 ⊢
  go_wp2_with fail
  with_reducible refine (pick_any 2 5 0 _ 1 c1 [0] _ 3 3 [2, 5, 7] _ (hr1.alloc _) (hR.alloc _) (by omega)).mono ?_
  rw [aw2]
  rintro e w2 ⟨A2, n2, c2, rfl, hr2, hb2, _⟩
  obtain rfl : 0 = n2 := hr2.len_int
  have hB2 : Below w.heap.size w w2 := (hB1.alloc hB1.size _).trans (hb2.mono (by have := hB1.size; simp; omega))
  replace hR := (hR.alloc _).below hb2
  clear hb2 hr1 hB1
  simp only [] at hr2 ⊢
  go_wp2_with fail
  with_reducible refine (pick_any 2 2 0 _ 0 c2 [] _ 3 3 [2, 5, 7] _ (hr2.alloc _) (hR.alloc _) (by omega)).mono ?_
  rw [aw3]
  rintro e w3 ⟨A3, n3, c3, rfl, hr3, hb3, _⟩
  have hB3 : Below w.heap.size w w3 := (hB2.alloc hB2.size _).trans (hb3.mono (by have := hB2.size; simp; omega))
  replace hR := (hR.alloc _).below hb3
  clear hb3 hr2 hB2 hr3
  simp only []
  go_wp2_with fail
  with_reducible refine (pick_any 3 0 0 none 0 0 [] _ 2 2 [2, 5] _ (Reads.nil _ _) (by simpa using Reads.new (w3.alloc (.cells #[.int .i64 2, .int .i64 5, .int .u64 0, .slice A3 n3 c3] 25)) 3 #[.int .i64 2, .int .i64 5] 2 rfl (by omega)) (by omega)).mono ?_
  rw [aw4]
  rintro e w4 ⟨A4, n4, c4, rfl, hr4, hb4, _⟩
  have hB4 : Below w.heap.size w w4 := ((hB3.alloc hB3.size _).alloc (by have := hB3.size; simp; omega) _).trans (hb4.mono (by have := hB3.size; simp; omega))
  replace hR := ((hR.alloc _).alloc _).below hb4
  clear hb4 hB3 hr4
  simp only []
  go_wp2_with fail
  with_reducible refine (pick_any 1 7 0 none 0 0 [] _ 3 3 [2, 5, 7] _ (Reads.nil _ _) (hR.alloc _) (by omega)).mono ?_
  rw [aw5]
  rintro e w5 ⟨A5, n5, c5, rfl, hr5, hb5, _⟩
  have hB5 : Below w.heap.size w w5 := (hB4.alloc hB4.size _).trans (hb5.mono (by have := hB4.size; simp; omega))
  clear hb5 hB4 hr5
  simp only []
  go_wp2
  go_ret
  exact ⟨rfl, hB5.alloc hB5.size _⟩
theorem knob : ownKnob Try.prog.godebug = none := by kernel_rfl
theorem laidOut : laidOutB Try.prog = true := by kernel_rfl
section
variable {H : Type} {enc : TypeId × Value → H} {W : World} {base b0 : Nat}
theorem open_sched {r : Reach} {v : Value} {d : DataW H} {p : List MemPlace} (hv : Value.okWide Try.prog W r b0 25 v) (h : DataW.Trod enc Try.prog W base (fun _ => true) true 25 v d p) :
    ∃ (k t sd : Int) (A : Option Addr) (n c : Nat) (L : List Int), v = .agg #[.int .i64 k, .int .i64 t, .int .u64 sd, .slice A n c] ∧ Reads W 1 A n c (L.map (Value.int .i64)) := by
  obtain ⟨c0, c1, c2, c3, y0, y1, y2, y3, m, rfl, rfl, rfl, hy0, hy1, hy2, hy3⟩ := open_agg4 Try.underlying25 (by kernel_rfl) (by kernel_rfl) hv h
  obtain ⟨k, e0, _, _⟩ := DataW.trod_int Try.underlying3 hy0
  obtain ⟨t, e1, _, _⟩ := DataW.trod_int Try.underlying3 hy1
  obtain ⟨sd, e2, _, _⟩ := DataW.trod_int Try.underlying22 hy2
  obtain ⟨A, n, c, L, e3, hR, _⟩ := open_intsR Try.underlying23 Try.underlying3 (by kernel_rfl) hy3
  simp only [List.cons.injEq, and_true] at e0 e1 e2
  subst e0; subst e1; subst e2; subst e3
  exact ⟨k, t, sd, A, n, c, L, rfl, hR⟩
theorem open_list {r : Reach} {v : Value} {d : DataW H} {p : List MemPlace} (hv : Value.okWide Try.prog W r b0 23 v) (h : DataW.Trod enc Try.prog W base (fun _ => true) true 23 v d p) :
    ∃ (A : Option Addr) (n c : Nat) (L : List Int), v = .slice A n c ∧ Reads W 1 A n c (L.map (Value.int .i64)) := by
  obtain ⟨a0, len0, cap0, rfl⟩ := okWide_slice Try.underlying23 hv
  obtain ⟨fuel, hf⟩ := h
  obtain ⟨A, n, c, L, e3, hR, _⟩ := open_intsR Try.underlying23 Try.underlying3 (by kernel_rfl) hf
  exact ⟨A, n, c, L, e3, hR⟩
end
end Go.Proofs.Ytdjclejjabpdcaa
