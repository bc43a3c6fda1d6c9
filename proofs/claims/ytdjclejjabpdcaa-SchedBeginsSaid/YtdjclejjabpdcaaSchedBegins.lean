/- SchedBegins: the law returns true for all lists and every turn, and its arguments read as before. No condition. -/
import Derived.Test.YtdjclejjabpdcaaSchedStays
namespace Go.Proofs.Ytdjclejjabpdcaa
open Go.ChangeShapes Go.WideShapes Go.ChangeAt Go.RowKit
set_option linter.unusedVariables false
set_option linter.unusedSimpArgs false
theorem pick_both (t x : Int) (L1 L2 R : List Int) (h1 : L1.length ≤ 1000) (h2 : L2.length ≤ 1000) :
    (∃ er, er ≠ 0 ∧ pickF ⟨2, t, 0, x :: L1⟩ R = (0, Sch.zero, er) ∧ pickF ⟨2, t, 0, x :: L2⟩ R = (0, Sch.zero, er)) ∨
    ∃ n, pickF ⟨2, t, 0, x :: L1⟩ R = (n, ⟨2, n, 0, L1⟩, 0) ∧ pickF ⟨2, t, 0, x :: L2⟩ R = (n, ⟨2, n, 0, L2⟩, 0) := by
  by_cases ht : t < 0
  · left
    refine ⟨1, by omega, ?_, ?_⟩ <;> simp [pickF, vErr, ht]
  · have e1 : vErr 2 t (L1.length + 1) = 0 := by unfold vErr; rw [if_neg (by omega), if_neg (by omega)]
    have e2 : vErr 2 t (L2.length + 1) = 0 := by unfold vErr; rw [if_neg (by omega), if_neg (by omega)]
    cases hr : rightB R with
    | false => exact .inl ⟨1, by omega, by simp [pickF, e1, hr], by simp [pickF, e2, hr]⟩
    | true => exact .inr ⟨_, by simp [pickF, e1, hr]; rfl, by simp [pickF, e2, hr]⟩
/-- The slice's block is neither of the two. -/
def Apart (g g' : Nat) (A : Option Addr) (n : Nat) : Prop := 0 < n → ∀ b off, A = some ⟨b, off, none⟩ → b ≠ g ∧ b ≠ g'
set_option maxHeartbeats 1000000 in
set_option maxRecDepth 100000 in
theorem schedBegins_walk (A : Option Addr) (n c : Nat) (L : List Int) (A1 : Option Addr) (n1 c1 : Nat) (M : List Int) (A2 : Option Addr) (n2 c2 : Nat) (R : List Int) (t : Int) (w : World)
    (hL : Reads w 1 A n c (L.map (Value.int .i64))) (hM : Reads w 1 A1 n1 c1 (M.map (Value.int .i64))) (hR : Reads w 1 A2 n2 c2 (R.map (Value.int .i64))) :
    Calls Try.prog 7 #[.slice A n c, .slice A1 n1 c1, .slice A2 n2 c2, .int .i64 t] w fun e w' => e = .returned (.bool true) ∧ Below w.heap.size w w' := by
  have HLL := Lib.hid hL.len_int
  have HLM := Lib.hid hM.len_int
  have hcm := hL.le63
  by_cases hc : 40 < n ∨ 40 < n1 ∨ 30 < n2
  · go_enter Try.func7, Try.ntmps7
    go_wp2_with fail
    all_goals first
      | (with_reducible refine (awake_any _).mono ?_
         rintro e w5 ⟨rfl, hb5⟩
         go_wp2
         go_ret
         exact ⟨rfl, hb5⟩)
      | (exfalso; omega)
  · have h1 : n ≤ 40 := by omega
    have h2 : n1 ≤ 40 := by omega
    have h3 : n2 ≤ 30 := by omega
    clear hc
    have h1' : decide (40 < n) = false := by simp; omega
    have h2' : decide (40 < n1) = false := by simp; omega
    have h3' : decide (30 < n2) = false := by simp; omega
    go_enter Try.func7, Try.ntmps7
    go_wp2_with (at_builtin; go_must (refine wpList_app (.tmp 33) (.tmp 34) slTy rfl rfl (B := w.heap.size) (A := none) (n := 0) (c := 0) (m := n) (xs := []) (news := L.map (Value.int .i64)) rfl (Owns.nil _ _ _) rfl (Src.ofReads Try.underlying23 hL (ones_int L .i64)) ?c3 ?c4 ?c5 ?_))
    case c3 => omega
    case c4 => omega
    case c5 => exact Nat.le_refl _
    intro B1 d1 w1 ho1 hg1 ha1
    try simp only [Nat.zero_add, List.nil_append] at ho1
    have hB1 : Below w.heap.size w w1 := below_app (Below.refl _ _) (Owns.nil _ _ 1) hg1 (Nat.le_refl _)
    clear hg1 ha1
    go_wp2_with (at_builtin; go_must (refine wpList_app (.tmp 36) (.tmp 37) slTy rfl rfl (B := w.heap.size) (A := B1) (n := n) (c := d1) (m := n1) (xs := L.map (Value.int .i64)) (news := M.map (Value.int .i64)) rfl ho1 rfl (Src.ofReads Try.underlying23 (hM.below hB1) (ones_int M .i64)) ?c3 ?c4 ?c5 ?_))
    case c3 => omega
    case c4 => omega
    case c5 => exact hB1.size
    intro B2 d2 w2 ho2 hg2 ha2
    have hB2 : Below w.heap.size w w2 := below_app hB1 ho1 hg2 hB1.size
    clear hg2 ha2 ho1 hB1
    replace hR := hR.below hB2
    replace hL := hL.below hB2
    go_wp2_with fail
    have ap1 : Apart w2.heap.size (w2.heap.size + 1) A n := fun hn' b off e => by have := hL.lt hn' e; omega
    have ap2 : Apart w2.heap.size (w2.heap.size + 1) B2 (n + n1) := fun hn' b off e => by have := ho2.reads.lt hn' e; omega
    have ap3 : Apart w2.heap.size (w2.heap.size + 1) A2 n2 := fun hn' b off e => by have := hR.lt hn' e; omega
    have AP3 := Lib.hid ap3
    have bs := (Blk.new w2 25 #[.int .i64 2, .int .i64 t, .int .u64 0, .slice A n c]).alloc (.cells #[.int .i64 2, .int .i64 t, .int .u64 0, .slice B2 (n + n1) d2] 25)
    have bt := Blk.new (w2.alloc (.cells #[.int .i64 2, .int .i64 t, .int .u64 0, .slice A n c] 25)) 25 #[.int .i64 2, .int .i64 t, .int .u64 0, .slice B2 (n + n1) d2]
    replace bt : Blk ((w2.alloc (.cells #[.int .i64 2, .int .i64 t, .int .u64 0, .slice A n c] 25)).alloc (.cells #[.int .i64 2, .int .i64 t, .int .u64 0, .slice B2 (n + n1) d2] 25)) (w2.heap.size + 1) 25 #[.int .i64 2, .int .i64 t, .int .u64 0, .slice B2 (n + n1) d2] := by simpa using bt
    have hB3 : Below w.heap.size w ((w2.alloc (.cells #[.int .i64 2, .int .i64 t, .int .u64 0, .slice A n c] 25)).alloc (.cells #[.int .i64 2, .int .i64 t, .int .u64 0, .slice B2 (n + n1) d2] 25)) := (hB2.alloc hB2.size _).alloc (by have := hB2.size; simp; omega) _
    replace hR := (hR.alloc (.cells #[.int .i64 2, .int .i64 t, .int .u64 0, .slice A n c] 25)).alloc (.cells #[.int .i64 2, .int .i64 t, .int .u64 0, .slice B2 (n + n1) d2] 25)
    replace hL := (hL.alloc (.cells #[.int .i64 2, .int .i64 t, .int .u64 0, .slice A n c] 25)).alloc (.cells #[.int .i64 2, .int .i64 t, .int .u64 0, .slice B2 (n + n1) d2] 25)
    have hT := (ho2.reads.alloc (.cells #[.int .i64 2, .int .i64 t, .int .u64 0, .slice A n c] 25)).alloc (.cells #[.int .i64 2, .int .i64 t, .int .u64 0, .slice B2 (n + n1) d2] 25)
    rw [← List.map_append] at hT
    have hwg := hB2.size
    generalize ((w2.alloc (Obj.cells #[.int .i64 2, .int .i64 t, .int .u64 0, .slice A n c] 25)).alloc (Obj.cells #[.int .i64 2, .int .i64 t, .int .u64 0, .slice B2 (n + n1) d2] 25)) = w3 at *
    generalize w2.heap.size = g at *
    clear ho2 hB2
    go_loopw [12] (fun i wr => ∃ (j : Nat) (t' : Int) (SA : Option Addr) (sn sc : Nat) (TA : Option Addr) (tn tc : Nat), i = .int .i64 j ∧ j ≤ n ∧ Blk wr g 25 #[.int .i64 2, .int .i64 t', .int .u64 0, .slice SA sn sc] ∧ Blk wr (g + 1) 25 #[.int .i64 2, .int .i64 t', .int .u64 0, .slice TA tn tc] ∧
        Reads wr 1 SA sn sc ((L.drop j).map (Value.int .i64)) ∧ Reads wr 1 TA tn tc (((L ++ M).drop j).map (Value.int .i64)) ∧ Hid (Apart g (g + 1) SA sn) ∧ Hid (Apart g (g + 1) TA tn) ∧ Reads wr 1 A2 n2 c2 (R.map (Value.int .i64)) ∧ Below w.heap.size w wr) (fun i _ => n - (intOf i).toNat)
    case atStart => exact ⟨0, t, A, n, c, B2, n + n1, d2, rfl, by omega, bs, bt, by simpa using hL, by simpa using hT, ap1, ap2, hR, hB3⟩
    case round =>
      clear bs bt hL hT ap1 ap2 ap3 hR hB3
      obtain ⟨j, t', SA, sn, sc, TA, tn, tc, rfl, hj, bs, bt, hS, hT, APS, APT, hR, hB⟩ := hrel
      have hg1 := bs.lt
      have hg2 := bt.lt
      have hBs := hB.size
      by_cases hjn : j < n
      · have hjl : j < L.length := by rw [HLL.out]; exact hjn
        obtain ⟨x, hx⟩ : ∃ x, L[j]? = some x := ⟨_, List.getElem?_eq_getElem hjl⟩
        have hx2 : (L ++ M)[j]? = some x := by rw [List.getElem?_append_left hjl]; exact hx
        rw [drop_at hx] at hS
        rw [drop_at hx2] at hT
        have hls : (x :: L.drop (j + 1)).length = sn := hS.len_int
        have hlt' : (x :: (L ++ M).drop (j + 1)).length = tn := hT.len_int
        have hl1 : (L.drop (j + 1)).length ≤ 1000 := by rw [List.length_drop, HLL.out]; omega
        have hl2 : ((L ++ M).drop (j + 1)).length ≤ 1000 := by rw [List.length_drop, List.length_append, HLL.out, HLM.out]; omega
        have hsn : sn ≤ 1001 := by rw [← hls]; simp only [List.length_cons]; omega
        have htn : tn ≤ 1001 := by rw [← hlt']; simp only [List.length_cons]; omega
        have hpb := pick_both t' x (L.drop (j + 1)) ((L ++ M).drop (j + 1)) R hl1 hl2
        generalize hq1 : L.drop (j + 1) = L1 at *
        generalize hq2 : (L ++ M).drop (j + 1) = L2 at *
        have HQ1 := Lib.hid hq1
        have HQ2 := Lib.hid hq2
        clear hq1 hq2
        clear hx hx2 hjl hls hlt' hl1 hl2
        have HPB := Lib.hid hpb
        clear hpb
        obtain ⟨s0, s1, s2, s3, sf⟩ := bs.c4
        go_wp2_with fail
        with_reducible refine (pick_any _ _ _ _ _ _ (x :: L1) _ _ _ R _ hS hR (by omega)).mono ?_
        rintro e w4 ⟨A3, n3, c3, rfl, hr3, hb4, hfr3⟩
        have hB4 := hB.trans (hb4.mono hB.size)
        replace bs := bs.below hb4 bs.lt
        replace bt := bt.below hb4 bt.lt
        replace hR := hR.below hb4
        replace hT := hT.below hb4
        have hsz4 := hb4.size
        clear s0 s1 s2 s3 sf hb4 hS APS
        obtain ⟨t0, t1, t2, t3, tf⟩ := bt.c4
        have hg41 := bs.lt
        have hg42 := bt.lt
        generalize hp1 : pickF ⟨2, t', 0, x :: L1⟩ R = p1 at *
        generalize hp2 : pickF ⟨2, t', 0, x :: L2⟩ R = p2 at *
        have HP2 := Lib.hid hp2
        clear hp1 hp2
        obtain ⟨a1, ⟨k1, u1, sd1, l1⟩, e1⟩ := p1
        obtain ⟨a2, ⟨k2, u2, sd2, l2⟩, e2⟩ := p2
        simp only [] at hr3 ⊢
        go_wp2_with fail
        with_reducible refine (pick_any _ _ _ _ _ _ (x :: L2) _ _ _ R _ (hT.alloc _) (hR.alloc _) (by omega)).mono ?_
        rw [HP2.out]
        rintro e w5 ⟨A4, n4, c4, rfl, hr4, hb5, hfr4⟩
        simp only [] at hr4 ⊢
        have hB5 : Below w.heap.size w w5 := (hB4.alloc hB4.size _).trans (hb5.mono (by have := hB4.size; simp; omega))
        replace bs := (bs.alloc _).below hb5 (by simp; omega)
        replace bt := (bt.alloc _).below hb5 (by simp; omega)
        have bu : Blk w5 w4.heap.size 25 #[.int .i64 k1, .int .i64 u1, .int .u64 sd1, .slice A3 n3 c3] := (Blk.new w4 _ _).below hb5 (by simp)
        replace hR := (hR.alloc _).below hb5
        replace hr3 := (hr3.alloc _).below hb5
        have hsz5 : w4.heap.size + 1 ≤ w5.heap.size := by have := hb5.size; simpa using this
        have hfr4' : Fresh (w4.heap.size + 1) A4 n4 := by simpa using hfr4
        clear hb5 hT t0 t1 t2 t3 tf hfr4
        obtain ⟨v0, v1, v2, v3, vf⟩ := bu.c4
        have hlt5 := bu.lt
        have hg51 := bs.lt
        have hg52 := bt.lt
        rcases HPB.out with ⟨er, her, q1, q2⟩ | ⟨m, q1, q2⟩
        · simp only [Sch.zero, Prod.mk.injEq, Sch.mk.injEq] at q1 q2
          obtain ⟨rfl, ⟨rfl, rfl, rfl, rfl⟩, rfl⟩ := q1
          obtain ⟨rfl, ⟨rfl, rfl, rfl, rfl⟩, rfl⟩ := q2
          have her' : (e2 != 0) = true := by simp [her]
          have HE := Lib.hid her
          clear her
          go_wp2_with fail
          with_reducible refine (awake_any _).mono ?_
          rintro e w6 ⟨rfl, hb6⟩
          go_wp2
          go_ret
          exact ⟨rfl, (hB5.alloc hB5.size _).trans (hb6.mono (by have := hB5.size; simp; omega))⟩
        · simp only [Prod.mk.injEq, Sch.mk.injEq] at q1 q2
          obtain ⟨rfl, ⟨rfl, rfl, rfl, rfl⟩, rfl⟩ := q1
          obtain ⟨rfl, ⟨rfl, rfl, rfl, rfl⟩, rfl⟩ := q2
          go_wp2_with fail
          have bv := Blk.new w5 25 #[.int .i64 2, .int .i64 u2, .int .u64 0, .slice A4 n4 c4]
          replace bs := bs.alloc (.cells #[.int .i64 2, .int .i64 u2, .int .u64 0, .slice A4 n4 c4] 25)
          replace bt := bt.alloc (.cells #[.int .i64 2, .int .i64 u2, .int .u64 0, .slice A4 n4 c4] 25)
          replace bu := bu.alloc (.cells #[.int .i64 2, .int .i64 u2, .int .u64 0, .slice A4 n4 c4] 25)
          replace hR := hR.alloc (.cells #[.int .i64 2, .int .i64 u2, .int .u64 0, .slice A4 n4 c4] 25)
          replace hr3 := hr3.alloc (.cells #[.int .i64 2, .int .i64 u2, .int .u64 0, .slice A4 n4 c4] 25)
          replace hr4 := hr4.alloc (.cells #[.int .i64 2, .int .i64 u2, .int .u64 0, .slice A4 n4 c4] 25)
          replace hB5 := hB5.alloc hB5.size (.cells #[.int .i64 2, .int .i64 u2, .int .u64 0, .slice A4 n4 c4] 25)
          clear v0 v1 v2 v3 vf
          generalize (w5.alloc (Obj.cells #[.int .i64 2, .int .i64 u2, .int .u64 0, .slice A4 n4 c4] 25)) = w6 at *
          obtain ⟨s0, s1, s2, s3, sf⟩ := bs.c4
          obtain ⟨t0, t1, t2, t3, tf⟩ := bt.c4
          obtain ⟨v0, v1, v2, v3, vf⟩ := bu.c4
          obtain ⟨x0, x1, x2, x3, xf⟩ := bv.c4
          go_region
          go_wp2
          go_roundw
          case rel =>
            have n1 : g ≠ g + 1 := by omega
            refine ⟨j + 1, u2, A3, n3, c3, A4, n4, c4, by go_num, by omega, ?_, ?_, ?_, ?_, ?_, ?_, ?_, ?_⟩
            · have N : g ≠ g + 1 := by omega
              exact Blk.drew (Blk.cast ((((((((bs.set_ 0 (.int .i64 2)).set_ 1 (.int .i64 u2)).set_ 2 (.int .u64 0)).set_ 3 (.slice A3 n3 c3)).far (p := ⟨g + 1, 0, none⟩) N (.int .i64 2)).far (p := ⟨g + 1, 1, none⟩) N (.int .i64 u2)).far (p := ⟨g + 1, 2, none⟩) N (.int .u64 0)).far (p := ⟨g + 1, 3, none⟩) N (.slice A4 n4 c4)) (by simp))
            · have N : g + 1 ≠ g := by omega
              exact Blk.drew (Blk.cast ((((((((bt.far (p := ⟨g, 0, none⟩) N (.int .i64 2)).far (p := ⟨g, 1, none⟩) N (.int .i64 u2)).far (p := ⟨g, 2, none⟩) N (.int .u64 0)).far (p := ⟨g, 3, none⟩) N (.slice A3 n3 c3)).set_ 0 (.int .i64 2)).set_ 1 (.int .i64 u2)).set_ 2 (.int .u64 0)).set_ 3 (.slice A4 n4 c4)) (by simp))
            · have H1 : 0 < n3 → ∀ b off, A3 = some ⟨b, off, none⟩ → b ≠ g := fun hn' b off e => by have := hfr3 hn' b off e; omega
              have H2 : 0 < n3 → ∀ b off, A3 = some ⟨b, off, none⟩ → b ≠ g + 1 := fun hn' b off e => by have := hfr3 hn' b off e; omega
              rw [HQ1.out]
              exact ((((((((hr3.setCell (p := ⟨g, 0, none⟩) (.int .i64 2) H1).setCell (p := ⟨g, 1, none⟩) (.int .i64 u2) H1).setCell (p := ⟨g, 2, none⟩) (.int .u64 0) H1).setCell (p := ⟨g, 3, none⟩) (.slice A3 n3 c3) H1).setCell (p := ⟨g + 1, 0, none⟩) (.int .i64 2) H2).setCell (p := ⟨g + 1, 1, none⟩) (.int .i64 u2) H2).setCell (p := ⟨g + 1, 2, none⟩) (.int .u64 0) H2).setCell (p := ⟨g + 1, 3, none⟩) (.slice A4 n4 c4) H2).drew
            · have H1 : 0 < n4 → ∀ b off, A4 = some ⟨b, off, none⟩ → b ≠ g := fun hn' b off e => by have := hfr4' hn' b off e; omega
              have H2 : 0 < n4 → ∀ b off, A4 = some ⟨b, off, none⟩ → b ≠ g + 1 := fun hn' b off e => by have := hfr4' hn' b off e; omega
              rw [HQ2.out]
              exact ((((((((hr4.setCell (p := ⟨g, 0, none⟩) (.int .i64 2) H1).setCell (p := ⟨g, 1, none⟩) (.int .i64 u2) H1).setCell (p := ⟨g, 2, none⟩) (.int .u64 0) H1).setCell (p := ⟨g, 3, none⟩) (.slice A3 n3 c3) H1).setCell (p := ⟨g + 1, 0, none⟩) (.int .i64 2) H2).setCell (p := ⟨g + 1, 1, none⟩) (.int .i64 u2) H2).setCell (p := ⟨g + 1, 2, none⟩) (.int .u64 0) H2).setCell (p := ⟨g + 1, 3, none⟩) (.slice A4 n4 c4) H2).drew
            · exact fun hn' b off e => by have := hfr3 hn' b off e; omega
            · exact fun hn' b off e => by have := hfr4' hn' b off e; omega
            · have H1 : 0 < n2 → ∀ b off, A2 = some ⟨b, off, none⟩ → b ≠ g := fun hn' b off e => (AP3.out hn' b off e).1
              have H2 : 0 < n2 → ∀ b off, A2 = some ⟨b, off, none⟩ → b ≠ g + 1 := fun hn' b off e => (AP3.out hn' b off e).2
              exact ((((((((hR.setCell (p := ⟨g, 0, none⟩) (.int .i64 2) H1).setCell (p := ⟨g, 1, none⟩) (.int .i64 u2) H1).setCell (p := ⟨g, 2, none⟩) (.int .u64 0) H1).setCell (p := ⟨g, 3, none⟩) (.slice A3 n3 c3) H1).setCell (p := ⟨g + 1, 0, none⟩) (.int .i64 2) H2).setCell (p := ⟨g + 1, 1, none⟩) (.int .i64 u2) H2).setCell (p := ⟨g + 1, 2, none⟩) (.int .u64 0) H2).setCell (p := ⟨g + 1, 3, none⟩) (.slice A4 n4 c4) H2).drew
            · have e1 : w.heap.size ≤ g := hwg
              have e2 : w.heap.size ≤ g + 1 := by omega
              exact ((((((((hB5.setCell (p := ⟨g, 0, none⟩) e1 (.int .i64 2)).setCell (p := ⟨g, 1, none⟩) e1 (.int .i64 u2)).setCell (p := ⟨g, 2, none⟩) e1 (.int .u64 0)).setCell (p := ⟨g, 3, none⟩) e1 (.slice A3 n3 c3)).setCell (p := ⟨g + 1, 0, none⟩) e2 (.int .i64 2)).setCell (p := ⟨g + 1, 1, none⟩) e2 (.int .i64 u2)).setCell (p := ⟨g + 1, 2, none⟩) e2 (.int .u64 0)).setCell (p := ⟨g + 1, 3, none⟩) e2 (.slice A4 n4 c4)).drew
          case measure => simp [intOf]; omega
      · go_wp2_with fail
        with_reducible refine (awake_any _).mono ?_
        rintro e w5 ⟨rfl, hb5⟩
        go_wp2
        go_ret
        exact ⟨rfl, hB.trans (hb5.mono hB.size)⟩
set_option maxRecDepth 100000 in
theorem schedBegins_lifted (os : Os) (started : os.Started) (H : Type) (enc : TypeId × Value → H) :
    ReturnsInHanded {} Try.checked os 7 .any (Rows.schedBeginsSpec.pre6 enc Try.prog Try.f7 Rows.schedBeginsRow.domain false) (Rows.schedBeginsSpec.post enc Try.prog Try.f7 false true false false) := by
  refine law_lift (C := Try.checked) (tb := 4) knob started (by kernel_rfl) Try.func7 laidOut rfl Try.underlying4 rfl (by kernel_rfl) (fun ds hds => ?_)
    (ChangeSpec.witness6 (enc := enc) (C := Try.checked) false ⟨#[], #[.slice none 0 0, .slice none 0 0, .slice none 0 0, .int .i64 0], []⟩ 8 (by kernel_rfl) (by kernel_rfl) (by kernel_rfl) (by kernel_rfl)) ?_
  · match ds, hds with
    | [d1, d2, d3, d4], _ => rfl
  · intro W base args ds ps hval0 hA0
    have hval : ∀ (j : Nat) t v, Try.f7.params[j]? = some t → args[j]? = some v → Value.okWide Try.prog W .any base t v := hval0
    have hA : DataW.TrodAll enc Try.prog W 0 (fun _ => true) true Try.f7.params.toList args.toList ds ps := hA0
    rw [Try.params7] at hA hval
    obtain ⟨v0, vs0, d0, ds0, p0, q0, hargs, rfl, rfl, h0, r0⟩ := trodAll_cons hA
    obtain ⟨v1, vs1, d1, ds1, p1, q1, rfl, rfl, rfl, h1, r1⟩ := trodAll_cons r0
    obtain ⟨v2, vs2, d2, ds2, p2, q2, rfl, rfl, rfl, h2, r2⟩ := trodAll_cons r1
    obtain ⟨v3, vs3, d3, ds3, p3, q3, rfl, rfl, rfl, h3, r3⟩ := trodAll_cons r2
    obtain ⟨rfl, rfl, rfl⟩ := trodAll_nil r3
    obtain rfl : args = #[v0, v1, v2, v3] := by cases args; simp_all
    obtain ⟨A, n, c, L, rfl, hL⟩ := open_list (hval 0 23 v0 rfl rfl) h0
    obtain ⟨A1, n1, c1, M, rfl, hM⟩ := open_list (hval 1 23 v1 rfl rfl) h1
    obtain ⟨A2, n2, c2, R, rfl, hR⟩ := open_list (hval 2 23 v2 rfl rfl) h2
    obtain ⟨t, rfl, rfl, rfl, wt⟩ := open_int Try.underlying3 (hval 3 3 v3 rfl rfl) h3
    exact schedBegins_walk A n c L A1 n1 c1 M A2 n2 c2 R t W hL hM hR
theorem schedBegins_holds : Rows.SchedBeginsSaid :=
  OpenClaim.holds_of_wide 7 Try.f7 rfl rfl rfl rfl rfl rfl rfl ⟨rfl, rfl, rfl, rfl, rfl⟩ rfl rfl rfl rfl rfl (by kernel_rfl) Try.func7 (by kernel_rfl)
    (of_decide_eq_true (by kernel_rfl)) (by unfold Func.isWrapper; first | (rw [if_pos (by decide +kernel)]; kernel_rfl) | (rw [if_neg (by decide +kernel)]; exact ⟨rfl, rfl⟩))
    (fun os started H enc _ => schedBegins_lifted os started H enc)
#print axioms schedBegins_holds
end Go.Proofs.Ytdjclejjabpdcaa
