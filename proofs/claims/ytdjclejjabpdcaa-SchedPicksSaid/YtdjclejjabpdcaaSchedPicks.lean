/- SchedPicks: the law returns true for every schedule and every list of ready processes, and its arguments read as before. No condition. -/
import Derived.Test.YtdjclejjabpdcaaSchedE
namespace Go.Proofs.Ytdjclejjabpdcaa
open Go.ChangeShapes Go.WideShapes Go.ChangeAt Go.RowKit
set_option linter.unusedVariables false
set_option linter.unusedSimpArgs false
theorem shortB_le {n n2 : Nat} (h : shortB n n2 = true) : n ≤ 300 ∧ n2 ≤ 100 := by simpa [shortB] using h
set_option maxHeartbeats 1000000 in
set_option maxRecDepth 100000 in
theorem schedPicks_walk (k t sd : Int) (A : Option Addr) (n c : Nat) (L : List Int) (A2 : Option Addr) (n2 c2 : Nat) (R : List Int) (w : World)
    (hL : Reads w 1 A n c (L.map (Value.int .i64))) (hR : Reads w 1 A2 n2 c2 (R.map (Value.int .i64))) :
    Calls Try.prog 4 #[.agg #[.int .i64 k, .int .i64 t, .int .u64 sd, .slice A n c], .slice A2 n2 c2] w fun e w' => e = .returned (.bool true) ∧ Below w.heap.size w w' := by
  go_enter Try.func4, Try.ntmps4
  go_wp2_with fail
  with_reducible refine (short_any _ _ _ _ _ _ _ _ _ _).mono ?_
  rintro e w1 ⟨rfl, hb1⟩
  have hB1 : Below w.heap.size w w1 := ((Below.refl _ _).alloc (Nat.le_refl _) _).trans (hb1.mono (by simp))
  have bs : Blk w1 w.heap.size 25 #[.int .i64 k, .int .i64 t, .int .u64 sd, .slice A n c] := (Blk.new w _ _).below hb1 (by simp)
  replace hL := hL.below hB1
  replace hR := hR.below hB1
  clear hb1
  cases hs : shortB n n2 with
  | false =>
    clear hs
    go_wp2_with fail
    with_reducible refine (awake_any _).mono ?_
    rintro e w2 ⟨rfl, hb2⟩
    go_wp2
    go_ret
    exact ⟨rfl, hB1.trans (hb2.mono hB1.size)⟩
  | true =>
    obtain ⟨hn, hn2⟩ := shortB_le hs
    clear hs
    obtain ⟨s0, s1, s2, s3, sf⟩ := bs.c4
    go_wp2_with fail
    with_reducible refine (pick_any _ _ _ _ _ _ L _ _ _ R _ hL hR (by omega)).mono ?_
    rintro e w2 ⟨A3, n3, c3, rfl, hr3, hb2⟩
    have hB2 := hB1.trans (hb2.mono hB1.size)
    replace bs := bs.below hb2 bs.lt
    replace hL := hL.below hb2
    replace hR := hR.below hb2
    clear s0 s1 s2 s3 sf hB1 hb2
    generalize hp : pickF ⟨k, t, sd, L⟩ R = p at *
    have HP := Lib.hid hp
    clear hp
    obtain ⟨pn, ⟨pk, pt, ps, pl⟩, pe⟩ := p
    simp only [] at hr3 ⊢
    obtain ⟨s0, s1, s2, s3, sf⟩ := bs.c4
    have hlt := bs.lt
    go_wp2_with fail
    with_reducible refine (rpick_any _ _ _ _ _ _ L _ _ _ R _ (hL.alloc _) (hR.alloc _) (by omega)).mono ?_
    rw [HP.out]
    rintro e w3 ⟨A4, n4, c4, rfl, hr4, hb3⟩
    simp only [] at hr4 ⊢
    have bt : Blk w3 w2.heap.size 25 #[.int .i64 pk, .int .i64 pt, .int .u64 ps, .slice A3 n3 c3] := (Blk.new w2 _ _).below hb3 (by simp)
    have hB3 : Below w.heap.size w w3 := (hB2.alloc hB2.size _).trans (hb3.mono (by have := hB2.size; simp; omega))
    replace hr3 := (hr3.alloc _).below hb3
    clear hL hR bs hb3 s0 s1 s2 s3 sf hB2
    obtain ⟨s0, s1, s2, s3, sf⟩ := bt.c4
    have hlt3 := bt.lt
    go_wp2_with fail
    with_reducible refine (same_any _ _ _ _ _ _ pl _ _ _ _ _ _ pl _ (hr3.alloc _) (hr4.alloc _)).mono ?_
    rintro e w4 ⟨rfl, hb4⟩
    rw [show sameF pk pt ps pl pk pt ps pl = true from by simp [sameF]]
    have hB4 : Below w.heap.size w w4 := (hB3.alloc hB3.size _).trans (hb4.mono (by have := hB3.size; simp; omega))
    clear hb4 bt s0 s1 s2 s3 sf hr3 hr4
    go_wp2_with fail
    with_reducible refine (awake_any _).mono ?_
    rintro e w5 ⟨rfl, hb5⟩
    go_wp2
    go_ret
    exact ⟨rfl, hB4.trans (hb5.mono hB4.size)⟩

set_option maxRecDepth 100000 in
theorem schedPicks_lifted (os : Os) (started : os.Started) (H : Type) (enc : TypeId × Value → H) :
    ReturnsInHanded {} Try.checked os 4 .any (Rows.schedPicksSpec.pre6 enc Try.prog Try.f4 Rows.schedPicksRow.domain false) (Rows.schedPicksSpec.post enc Try.prog Try.f4 false true false false) := by
  refine law_lift (C := Try.checked) (tb := 4) knob started (by kernel_rfl) Try.func4 laidOut rfl Try.underlying4 rfl (by kernel_rfl) (fun ds hds => ?_)
    (ChangeSpec.witness6 (enc := enc) (C := Try.checked) false ⟨#[], #[.agg #[.int .i64 0, .int .i64 0, .int .u64 0, .slice none 0 0], .slice none 0 0], []⟩ 8 (by kernel_rfl) (by kernel_rfl) (by kernel_rfl) (by kernel_rfl)) ?_
  · match ds, hds with
    | [d1, d2], _ => rfl
  · intro W base args ds ps hval0 hA0
    have hval : ∀ (j : Nat) t v, Try.f4.params[j]? = some t → args[j]? = some v → Value.okWide Try.prog W .any base t v := hval0
    have hA : DataW.TrodAll enc Try.prog W 0 (fun _ => true) true Try.f4.params.toList args.toList ds ps := hA0
    rw [Try.params4] at hA hval
    obtain ⟨v0, vs0, d0, ds0, p0, q0, hargs, rfl, rfl, h0, r0⟩ := trodAll_cons hA
    obtain ⟨v1, vs1, d1, ds1, p1, q1, rfl, rfl, rfl, h1, r1⟩ := trodAll_cons r0
    obtain ⟨rfl, rfl, rfl⟩ := trodAll_nil r1
    obtain rfl : args = #[v0, v1] := by cases args; simp_all
    obtain ⟨k, t, sd, A, n, c, L, rfl, hL⟩ := open_sched (hval 0 25 v0 rfl rfl) h0
    obtain ⟨A2, n2, c2, R, rfl, hR⟩ := open_list (hval 1 23 v1 rfl rfl) h1
    exact schedPicks_walk k t sd A n c L A2 n2 c2 R W hL hR
theorem schedPicks_holds : Rows.SchedPicksSaid :=
  OpenClaim.holds_of_wide 4 Try.f4 rfl rfl rfl rfl rfl rfl rfl ⟨rfl, rfl, rfl, rfl, rfl⟩ rfl rfl rfl rfl rfl (by kernel_rfl) Try.func4 (by kernel_rfl)
    (of_decide_eq_true (by kernel_rfl)) (by unfold Func.isWrapper; first | (rw [if_pos (by decide +kernel)]; kernel_rfl) | (rw [if_neg (by decide +kernel)]; exact ⟨rfl, rfl⟩))
    (fun os started H enc _ => schedPicks_lifted os started H enc)
#print axioms schedPicks_holds
end Go.Proofs.Ytdjclejjabpdcaa
