/- SchedValid: the law returns true for every schedule and every integer, and its arguments read as before. No condition. -/
import Derived.Test.YtdjclejjabpdcaaSchedE
import Derived.Deep.RegionHeld3
import Derived.Deep.OwnRows
namespace Go.Proofs.Ytdjclejjabpdcaa
open Go.ChangeShapes Go.WideShapes Go.ChangeAt Go.RowKit
set_option linter.unusedVariables false
set_option linter.unusedSimpArgs false
set_option maxHeartbeats 1000000 in
set_option maxRecDepth 100000 in
theorem schedValid_walk (k t sd : Int) (A : Option Addr) (n c : Nat) (m : Int) (w : World) :
    Calls Try.prog 3 #[.agg #[.int .i64 k, .int .i64 t, .int .u64 sd, .slice A n c], .int .i64 m] w fun e w' => e = .returned (.bool true) ∧ Below w.heap.size w w' := by
  by_cases h : 100 < n ∨ m < 0 ∨ 100100 < m
  · go_enter Try.func3, Try.ntmps3
    go_wp2_with fail
    all_goals first
      | (with_reducible refine (awake_any _).mono ?_
         rintro e w2 ⟨rfl, hb2⟩
         go_wp2
         go_ret
         exact ⟨rfl, ((Below.refl _ _).alloc (Nat.le_refl _) _).trans (hb2.mono (by simp))⟩)
      | (exfalso; omega)
  · have h1 : n ≤ 100 := by omega
    have h2 : 0 ≤ m := by omega
    have h3 : m ≤ 100100 := by omega
    obtain ⟨mn, rfl⟩ := Int.eq_ofNat_of_zero_le h2
    clear h h2
    have hmk := fun W => run_make_row' (P := Try.prog) 23 3 (.int .i64 0) 8 Try.underlying23 (by kernel_rfl) rfl .i64 .i64 mn (by omega) (by omega) W
    have n1 : decide (100 < n) = false := by simp; omega
    have n2 : decide (100100 < (mn : Int)) = false := by simp; omega
    go_enter Try.func3, Try.ntmps3
    go_wp2_with fail
    have b0 : Blk (((w.alloc (.cells #[.int .i64 k, .int .i64 t, .int .u64 sd, .slice A n c] 25)).alloc (.cells #[.int .i64 k, .int .i64 t, .int .u64 sd, .slice (some ⟨w.heap.size + 1 + 1, 0, none⟩) mn mn] 25)).alloc (.cells (madeCells #[.int .i64 0] mn) 3)) w.heap.size 25 #[.int .i64 k, .int .i64 t, .int .u64 sd, .slice A n c] := ((Blk.new w _ _).alloc _).alloc _
    have b1 : Blk (((w.alloc (.cells #[.int .i64 k, .int .i64 t, .int .u64 sd, .slice A n c] 25)).alloc (.cells #[.int .i64 k, .int .i64 t, .int .u64 sd, .slice (some ⟨w.heap.size + 1 + 1, 0, none⟩) mn mn] 25)).alloc (.cells (madeCells #[.int .i64 0] mn) 3)) (w.heap.size + 1) 25 #[.int .i64 k, .int .i64 t, .int .u64 sd, .slice (some ⟨w.heap.size + 1 + 1, 0, none⟩) mn mn] := by
      have := (Blk.new (w.alloc (.cells #[.int .i64 k, .int .i64 t, .int .u64 sd, .slice A n c] 25)) 25 #[.int .i64 k, .int .i64 t, .int .u64 sd, .slice (some ⟨w.heap.size + 1 + 1, 0, none⟩) mn mn]).alloc (.cells (madeCells #[.int .i64 0] mn) 3)
      simpa using this
    have hB : Below w.heap.size w (((w.alloc (.cells #[.int .i64 k, .int .i64 t, .int .u64 sd, .slice A n c] 25)).alloc (.cells #[.int .i64 k, .int .i64 t, .int .u64 sd, .slice (some ⟨w.heap.size + 1 + 1, 0, none⟩) mn mn] 25)).alloc (.cells (madeCells #[.int .i64 0] mn) 3)) := (((Below.refl _ _).alloc (Nat.le_refl _) _).alloc (by simp) _).alloc (by simp; omega) _
    generalize (((w.alloc (Obj.cells #[.int .i64 k, .int .i64 t, .int .u64 sd, .slice A n c] 25)).alloc (Obj.cells #[.int .i64 k, .int .i64 t, .int .u64 sd, .slice (some ⟨w.heap.size + 1 + 1, 0, none⟩) mn mn] 25)).alloc (Obj.cells (madeCells #[.int .i64 0] mn) 3)) = W at *
    clear hmk
    have hlt := b1.lt
    have HK : Hid (∀ w', Below W.heap.size W w' → Below W.heap.size W w' ∧ w'.cell? ⟨w.heap.size, 0, none⟩ = some (.int .i64 k) ∧ w'.cell? ⟨w.heap.size, 1, none⟩ = some (.int .i64 t) ∧ w'.cell? ⟨w.heap.size, 2, none⟩ = some (.int .u64 sd) ∧ w'.cell? ⟨w.heap.size, 3, none⟩ = some (.slice A n c) ∧
       w'.cell? ⟨w.heap.size + 1, 0, none⟩ = some (.int .i64 k) ∧ w'.cell? ⟨w.heap.size + 1, 1, none⟩ = some (.int .i64 t) ∧ w'.cell? ⟨w.heap.size + 1, 2, none⟩ = some (.int .u64 sd) ∧ w'.cell? ⟨w.heap.size + 1, 3, none⟩ = some (.slice (some ⟨w.heap.size + 1 + 1, 0, none⟩) mn mn)) := fun w' hb => by
      obtain ⟨x0, x1, x2, x3, _⟩ := (b0.below hb b0.lt).c4
      obtain ⟨y0, y1, y2, y3, _⟩ := (b1.below hb b1.lt).c4
      exact ⟨hb, x0, x1, x2, x3, y0, y1, y2, y3⟩
    generalize hv1 : vErr k t n = v1
    go_region_held3 (fun w' => Below W.heap.size W w' ∧ w'.cell? ⟨w.heap.size, 0, none⟩ = some (.int .i64 k) ∧ w'.cell? ⟨w.heap.size, 1, none⟩ = some (.int .i64 t) ∧ w'.cell? ⟨w.heap.size, 2, none⟩ = some (.int .u64 sd) ∧ w'.cell? ⟨w.heap.size, 3, none⟩ = some (.slice A n c) ∧
       w'.cell? ⟨w.heap.size + 1, 0, none⟩ = some (.int .i64 k) ∧ w'.cell? ⟨w.heap.size + 1, 1, none⟩ = some (.int .i64 t) ∧ w'.cell? ⟨w.heap.size + 1, 2, none⟩ = some (.int .u64 sd) ∧ w'.cell? ⟨w.heap.size + 1, 3, none⟩ = some (.slice (some ⟨w.heap.size + 1 + 1, 0, none⟩) mn mn))
      (first | exact HK.out _ ((Below.refl _ _).drew) | exact HK.out _ hS)
      (first
        | (go_at_call 9; (have hh := (‹Below W.heap.size W _ ∧ _›).1; (with_reducible refine (valid_any _ _ _ _ _ _ _).mono ?_); rintro e w' ⟨rfl, hb'⟩; have hS := hh.trans (hb'.mono hh.size); clear hh hb'))
        | (go_at_call 10; have hh := (‹Below W.heap.size W _ ∧ _›).1; (with_reducible refine (rvalid_any _ _ _ _ _ _ _).mono ?_); rintro e w' ⟨rfl, hb'⟩; have hS := hh.trans (hb'.mono hh.size); clear hh hb')
        | (go_at_call 8; have hh := (‹Below W.heap.size W _ ∧ _›).1; (with_reducible refine (awake_any _).mono ?_); rintro e w' ⟨rfl, hb'⟩; have hS := hh.trans (hb'.mono hh.size); clear hh hb'))
    go_wp2
    go_ret
    exact ⟨rfl, hB.trans (hS.mono hB.size)⟩
set_option maxRecDepth 100000 in
theorem schedValid_lifted (os : Os) (started : os.Started) (H : Type) (enc : TypeId × Value → H) :
    ReturnsInHanded {} Try.checked os 3 .any (Rows.schedValidSpec.pre6 enc Try.prog Try.f3 Rows.schedValidRow.domain false) (Rows.schedValidSpec.post enc Try.prog Try.f3 false true false false) := by
  refine law_lift (C := Try.checked) (tb := 4) knob started (by kernel_rfl) Try.func3 laidOut rfl Try.underlying4 rfl (by kernel_rfl) (fun ds hds => ?_)
    (ChangeSpec.witness6 (enc := enc) (C := Try.checked) false ⟨#[], #[.agg #[.int .i64 0, .int .i64 0, .int .u64 0, .slice none 0 0], .int .i64 0], []⟩ 8 (by kernel_rfl) (by kernel_rfl) (by kernel_rfl) (by kernel_rfl)) ?_
  · match ds, hds with
    | [d1, d2], _ => rfl
  · intro W base args ds ps hval0 hA0
    have hval : ∀ (j : Nat) t v, Try.f3.params[j]? = some t → args[j]? = some v → Value.okWide Try.prog W .any base t v := hval0
    have hA : DataW.TrodAll enc Try.prog W 0 (fun _ => true) true Try.f3.params.toList args.toList ds ps := hA0
    rw [Try.params3] at hA hval
    obtain ⟨v0, vs0, d0, ds0, p0, q0, hargs, rfl, rfl, h0, r0⟩ := trodAll_cons hA
    obtain ⟨v1, vs1, d1, ds1, p1, q1, rfl, rfl, rfl, h1, r1⟩ := trodAll_cons r0
    obtain ⟨rfl, rfl, rfl⟩ := trodAll_nil r1
    obtain rfl : args = #[v0, v1] := by cases args; simp_all
    obtain ⟨k, t, sd, A, n, c, L, rfl, hL⟩ := open_sched (hval 0 25 v0 rfl rfl) h0
    obtain ⟨m, rfl, rfl, rfl, wm⟩ := open_int Try.underlying3 (hval 1 3 v1 rfl rfl) h1
    exact schedValid_walk k t sd A n c m W
theorem schedValid_holds : Rows.SchedValidSaid :=
  OpenClaim.holds_of_wide 3 Try.f3 rfl rfl rfl rfl rfl rfl rfl ⟨rfl, rfl, rfl, rfl, rfl⟩ rfl rfl rfl rfl rfl (by kernel_rfl) Try.func3 (by kernel_rfl)
    (of_decide_eq_true (by kernel_rfl)) (by unfold Func.isWrapper; first | (rw [if_pos (by decide +kernel)]; kernel_rfl) | (rw [if_neg (by decide +kernel)]; exact ⟨rfl, rfl⟩))
    (fun os started H enc _ => schedValid_lifted os started H enc)
#print axioms schedValid_holds
end Go.Proofs.Ytdjclejjabpdcaa
