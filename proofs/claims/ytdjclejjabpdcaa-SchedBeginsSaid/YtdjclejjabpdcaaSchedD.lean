/- The walk of the reference's Pick: its results are those of the same plain function pickF. -/
import Derived.Test.YtdjclejjabpdcaaSchedC
namespace Go.Proofs.Ytdjclejjabpdcaa
open Go.RowKit
set_option linter.unusedVariables false
set_option linter.unusedSimpArgs false
theorem pickPost_same {w w' : World} {K N SD er : Int} {A : Option Addr} {n c : Nat} {L : List Int} (hL : Reads w 1 A n c (L.map (Value.int .i64))) (hb : Below w.heap.size w w') :
    PickPost w (N, ⟨K, N, SD, L⟩, er) (.returned (.tuple #[.int .i64 N, .agg #[.int .i64 K, .int .i64 N, .int .u64 SD, .slice A n c], .int .i64 er])) w' := ⟨_, _, _, rfl, hL.below hb, hb⟩
set_option maxHeartbeats 1000000 in
theorem rpick_any (k t sd : Int) (A : Option Addr) (n c : Nat) (L : List Int) (A2 : Option Addr) (n2 c2 : Nat) (R : List Int) (w : World)
    (hL : Reads w 1 A n c (L.map (Value.int .i64))) (hR : Reads w 1 A2 n2 c2 (R.map (Value.int .i64))) (hn : n ≤ 1000000) :
    Calls Try.prog 13 #[.agg #[.int .i64 k, .int .i64 t, .int .u64 sd, .slice A n c], .slice A2 n2 c2] w (PickPost w (pickF ⟨k, t, sd, L⟩ R)) := by
  have HL := Lib.hid hL.len_int
  have HR := Lib.hid hR.len_int
  have hcm := hR.le63
  have HB : Hid (vErr k t n ≠ 0 → pickF ⟨k, t, sd, L⟩ R = (0, Sch.zero, vErr k t n)) := fun hv => by simp [pickF, HL.out, hv]
  have HW : Hid (vErr k t n = 0 → rightB R = false → pickF ⟨k, t, sd, L⟩ R = (0, Sch.zero, 1)) := fun hv h => pick_wrong (by simp only [HL.out]; exact hv) h
  go_enter Try.func13, Try.ntmps13
  go_wp2_with fail
  refine (rvalid_any _ _ _ _ _ _ _).mono ?_
  rintro e w1 ⟨rfl, hb1⟩
  have bs : Blk w1 w.heap.size 25 #[.int .i64 k, .int .i64 t, .int .u64 sd, .slice A n c] := ((Blk.new w _ _).alloc _).below hb1 (by simp; omega)
  have br : Blk w1 (w.heap.size + 1) 25 #[.int .i64 0, .int .i64 0, .int .u64 0, .slice none 0 0] := by
    have := (Blk.new (w.alloc (.cells #[.int .i64 k, .int .i64 t, .int .u64 sd, .slice A n c] 25)) 25 #[.int .i64 0, .int .i64 0, .int .u64 0, .slice none 0 0]).below hb1 (by simp)
    simpa using this
  have hBel : Below w.heap.size w w1 := ((((Below.refl _ _).alloc (Nat.le_refl _) _).alloc (by simp) _).trans (hb1.mono (by simp; omega)))
  have hR1 : Reads w1 1 A2 n2 c2 (R.map (Value.int .i64)) := hR.below hBel
  have hL1 : Reads w1 1 A n c (L.map (Value.int .i64)) := hL.below hBel
  clear hb1
  obtain ⟨s0, s1, s2, s3, sf⟩ := bs.c4
  obtain ⟨r0, r1, r2, r3, rf⟩ := br.c4
  have hwlt := br.lt
  by_cases hv : vErr k t n = 0
  · rw [hv]
    have HV := Lib.hid hv
    clear hv
    go_wp2_with fail
    refine (right_any A2 n2 c2 R _ hR1).mono ?_
    rintro e w2 ⟨rfl, m, rfl⟩
    cases hrt : rightB R with
    | false =>
      have HRT := Lib.hid hrt
      clear hrt
      go_wp2
      refine bodyPost_ret (v := .tuple #[.int .i64 0, .agg #[.int .i64 0, .int .i64 0, .int .u64 0, .slice none 0 0], .int .i64 1]) (by simp [results, Try.results13, go_sem, r0, r1, r2, r3]) rfl ?_
      rw [HW.out HV.out HRT.out]
      refine ⟨none, 0, 0, rfl, Reads.nil _ _, ?_⟩
      repeat (first | with_reducible exact hBel | with_reducible refine Below.drew ?_ | with_reducible refine below_drewN ?_ _ | (with_reducible refine Below.setCell ?_ ?_ _; rotate_left; simp))
    | true =>
      have HRT := Lib.hid hrt
      clear hrt HW HB
      have h0 : 0 < n2 := by
        rcases Nat.eq_zero_or_pos n2 with h | h
        · have h1 := HRT.out
          rw [List.eq_nil_of_length_eq_zero (HR.out.trans h)] at h1
          simp [rightB] at h1
        · exact h
      go_wp2_with fail
      refine (rfair_any t A2 n2 c2 R _ (hR1.drewN m) h0).mono ?_
      rintro e w3' ⟨rfl, rfl⟩
      obtain ⟨b, off, x0, rfl, hbw, _, _⟩ := hR.ints h0
      have HFV : Hid (fairF t R = fairF t R) := rfl
      generalize hfv : fairF t R = fv at HFV ⊢
      have HF := Lib.hid hfv
      clear hfv HFV
      by_cases h2 : k = 2 ∧ 0 < n
      · obtain ⟨rfl, hn0⟩ := h2
        have hn0' : decide (0 < (n : Int)) = true := by simp; omega
        have hnc := hL.1
        have hcc := hL.2.1
        obtain ⟨g, o, y, rfl, hgw, hy, _⟩ := hL.ints hn0
        obtain ⟨y', hg, hy', hcy⟩ := hL1.intsAt hn0
        obtain rfl : y = y' := by have h1 := hy.out; have h2 := hy'.out; rw [h1] at h2; cases h2; rfl
        clear hy'
        simp only [Nat.add_zero] at hcy
        have htl : Reads w1 1 (some ⟨g, o + 1, none⟩) (n - 1) (c - 1) (L.tail.map (Value.int .i64)) := by rw [List.map_tail]; exact hL1.tail1 hn0
        have HP1 : Hid (0 ≤ y → ∀ z, R[(y % (n2 : Int)).toNat]? = some z → pickF ⟨2, t, sd, L⟩ R = (z, ⟨2, z, sd, L.tail⟩, 0)) := fun hy0 z hz => pick_list_pos (by simp only [HL.out]; exact HV.out) HRT.out hy.out hy0 (by rw [HR.out]; exact hz)
        have HP2 : Hid (y < 0 → pickF ⟨2, t, sd, L⟩ R = (fv, ⟨2, fv, sd, L.tail⟩, 0)) := fun hy0 => by rw [← HF.out]; exact pick_list_neg (by simp only [HL.out]; exact HV.out) HRT.out hy.out (by omega)
        have hsrc : ∃ SA SC, (if c = 1 then (some ⟨g, o, none⟩ : Option Addr) else some ⟨g, o + 1, none⟩) = SA ∧ SC = c - 1 ∧ Reads w1 1 SA (n - 1) SC (L.tail.map (Value.int .i64)) := by
          refine ⟨_, _, rfl, rfl, ?_⟩
          by_cases hc1 : c = 1
          · rw [if_pos hc1]
            have hl1 : L.tail = [] := List.eq_nil_of_length_eq_zero (by rw [List.length_tail, HL.out]; omega)
            rw [hl1, show n - 1 = 0 from by omega]
            exact Reads.zero _ _ _ _ (by omega)
          · rw [if_neg hc1]; exact htl
        by_cases hc1 : c = 1
        · subst hc1
          obtain rfl : n = 1 := by omega
          have htl0 : Reads w1 1 (some ⟨g, o, none⟩) 0 0 (L.tail.map (Value.int .i64)) := by obtain ⟨SA, SC, e1, e2, e3⟩ := hsrc; rw [if_pos rfl] at e1; subst e1; subst e2; exact e3
          clear hsrc htl
          go_wp2_with (at_builtin; go_must (refine wpList_app (.tmp 38) (.tmp 41) slTy rfl rfl (B := (w1.drewN m).heap.size) (A := none) (n := 0) (c := 0) (m := 0) (xs := []) (news := L.tail.map (Value.int .i64)) rfl (Owns.nil _ _ _) rfl (Src.ofReads Try.underlying23 (htl0.drewN m) (ones_int L.tail .i64)) ?c1 ?c2 ?c3 ?_))
          case c1 => omega
          case c2 => omega
          case c3 => exact Nat.le_refl _
          intro A' c' w4 ho4 hg4 ha4
          try simp only [Nat.zero_add, List.nil_append] at ho4
          try rw [← List.map_tail] at ho4
          replace bs := (bs.drewN m).grown hg4 (by simp [own])
          replace br := (br.drewN m).grown hg4 (by simp [own])
          have hstep : Below (w1.drewN m).heap.size (w1.drewN m) w4 := below_app (Below.refl _ _) (Owns.nil _ _ 1) hg4 (Nat.le_refl _)
          replace hR1 : Reads w4 1 _ n2 c2 (R.map (Value.int .i64)) := (hR1.drewN m).below hstep
          replace hBel : Below w.heap.size w w4 := (below_drewN hBel m).trans (hstep.mono hBel.size)
          have HGB : Hid (0 < 0 → ∀ b' off', A' = some ⟨b', off', none⟩ → w.heap.size + 1 < b') := fun hn' b' off' e => by
            have h1 := ho4.blk (by have := ho4.1; omega) e
            have h2 : (w1.drewN m).heap.size = w1.heap.size := rfl
            omega
          clear hstep hg4 ha4 hL1 htl0 s0 s1 s2 s3 sf r0 r1 r2 r3 rf hcy hg
          obtain ⟨s0, s1, s2, s3, sf⟩ := bs.c4
          obtain ⟨r0, r1, r2, r3, rf⟩ := br.c4
          by_cases hy0 : 0 ≤ y
          · have hq0 : 0 ≤ y % (n2 : Int) := Int.emod_nonneg _ (by omega)
            have hq1 : y % (n2 : Int) < (n2 : Int) := Int.emod_lt_of_pos _ (by omega)
            obtain ⟨z, _, hz, hcz⟩ := hR1.intsAt (k := (y % (n2 : Int)).toNat) (by omega)
            go_wp2
            go_region
            go_wp2
            refine bodyPost_ret (v := .tuple #[.int .i64 z, .agg #[.int .i64 2, .int .i64 z, .int .u64 sd, .slice A' 0 c'], .int .i64 0]) (by simp [results, Try.results13, go_sem, r0, r1, r2, r3]) rfl ?_
            rw [HP1.out hy0 z hz.out]
            refine ⟨_, _, _, rfl, ?_, ?_⟩
            · show Reads _ 1 _ _ _ _
              repeat (first | with_reducible exact ho4.reads | with_reducible refine Reads.drew ?_ | (with_reducible refine Reads.setCell ?_ _ ?_; rotate_left; (intro hn' b' off' e; have := HGB.out hn' b' off' e; show b' ≠ _; simp only []; omega)))
            · repeat (first | with_reducible exact hBel | with_reducible refine Below.drew ?_ | with_reducible refine below_drewN ?_ _ | (with_reducible refine Below.setCell ?_ ?_ _; rotate_left; simp))
          · have hy0' : decide (0 ≤ y) = false := by simpa using hy0
            go_wp2
            go_region
            go_wp2
            refine bodyPost_ret (v := .tuple #[.int .i64 fv, .agg #[.int .i64 2, .int .i64 fv, .int .u64 sd, .slice A' 0 c'], .int .i64 0]) (by simp [results, Try.results13, go_sem, r0, r1, r2, r3]) rfl ?_
            rw [HP2.out (by omega)]
            refine ⟨_, _, _, rfl, ?_, ?_⟩
            · show Reads _ 1 _ _ _ _
              repeat (first | with_reducible exact ho4.reads | with_reducible refine Reads.drew ?_ | (with_reducible refine Reads.setCell ?_ _ ?_; rotate_left; (intro hn' b' off' e; have := HGB.out hn' b' off' e; show b' ≠ _; simp only []; omega)))
            · repeat (first | with_reducible exact hBel | with_reducible refine Below.drew ?_ | with_reducible refine below_drewN ?_ _ | (with_reducible refine Below.setCell ?_ ?_ _; rotate_left; simp))
        · have hc1' : ¬ (1 = c) := fun h => hc1 h.symm
          clear hsrc
          go_wp2_with (at_builtin; go_must (refine wpList_app (.tmp 38) (.tmp 41) slTy rfl rfl (B := (w1.drewN m).heap.size) (A := none) (n := 0) (c := 0) (m := (n - 1)) (xs := []) (news := L.tail.map (Value.int .i64)) rfl (Owns.nil _ _ _) rfl (Src.ofReads Try.underlying23 (htl.drewN m) (ones_int L.tail .i64)) ?c1 ?c2 ?c3 ?_))
          case c1 => omega
          case c2 => omega
          case c3 => exact Nat.le_refl _
          intro A' c' w4 ho4 hg4 ha4
          try simp only [Nat.zero_add, List.nil_append] at ho4
          try rw [← List.map_tail] at ho4
          replace bs := (bs.drewN m).grown hg4 (by simp [own])
          replace br := (br.drewN m).grown hg4 (by simp [own])
          have hstep : Below (w1.drewN m).heap.size (w1.drewN m) w4 := below_app (Below.refl _ _) (Owns.nil _ _ 1) hg4 (Nat.le_refl _)
          replace hR1 : Reads w4 1 _ n2 c2 (R.map (Value.int .i64)) := (hR1.drewN m).below hstep
          replace hBel : Below w.heap.size w w4 := (below_drewN hBel m).trans (hstep.mono hBel.size)
          have HGB : Hid (0 < (n - 1) → ∀ b' off', A' = some ⟨b', off', none⟩ → w.heap.size + 1 < b') := fun hn' b' off' e => by
            have h1 := ho4.blk (by have := ho4.1; omega) e
            have h2 : (w1.drewN m).heap.size = w1.heap.size := rfl
            omega
          clear hstep hg4 ha4 hL1 htl s0 s1 s2 s3 sf r0 r1 r2 r3 rf hcy hg
          obtain ⟨s0, s1, s2, s3, sf⟩ := bs.c4
          obtain ⟨r0, r1, r2, r3, rf⟩ := br.c4
          by_cases hy0 : 0 ≤ y
          · have hq0 : 0 ≤ y % (n2 : Int) := Int.emod_nonneg _ (by omega)
            have hq1 : y % (n2 : Int) < (n2 : Int) := Int.emod_lt_of_pos _ (by omega)
            obtain ⟨z, _, hz, hcz⟩ := hR1.intsAt (k := (y % (n2 : Int)).toNat) (by omega)
            go_wp2
            go_region
            go_wp2
            refine bodyPost_ret (v := .tuple #[.int .i64 z, .agg #[.int .i64 2, .int .i64 z, .int .u64 sd, .slice A' (n - 1) c'], .int .i64 0]) (by simp [results, Try.results13, go_sem, r0, r1, r2, r3]) rfl ?_
            rw [HP1.out hy0 z hz.out]
            refine ⟨_, _, _, rfl, ?_, ?_⟩
            · show Reads _ 1 _ _ _ _
              repeat (first | with_reducible exact ho4.reads | with_reducible refine Reads.drew ?_ | (with_reducible refine Reads.setCell ?_ _ ?_; rotate_left; (intro hn' b' off' e; have := HGB.out hn' b' off' e; show b' ≠ _; simp only []; omega)))
            · repeat (first | with_reducible exact hBel | with_reducible refine Below.drew ?_ | with_reducible refine below_drewN ?_ _ | (with_reducible refine Below.setCell ?_ ?_ _; rotate_left; simp))
          · have hy0' : decide (0 ≤ y) = false := by simpa using hy0
            go_wp2
            go_region
            go_wp2
            refine bodyPost_ret (v := .tuple #[.int .i64 fv, .agg #[.int .i64 2, .int .i64 fv, .int .u64 sd, .slice A' (n - 1) c'], .int .i64 0]) (by simp [results, Try.results13, go_sem, r0, r1, r2, r3]) rfl ?_
            rw [HP2.out (by omega)]
            refine ⟨_, _, _, rfl, ?_, ?_⟩
            · show Reads _ 1 _ _ _ _
              repeat (first | with_reducible exact ho4.reads | with_reducible refine Reads.drew ?_ | (with_reducible refine Reads.setCell ?_ _ ?_; rotate_left; (intro hn' b' off' e; have := HGB.out hn' b' off' e; show b' ≠ _; simp only []; omega)))
            · repeat (first | with_reducible exact hBel | with_reducible refine Below.drew ?_ | with_reducible refine below_drewN ?_ _ | (with_reducible refine Below.setCell ?_ ?_ _; rotate_left; simp))
      · by_cases h3 : k = 3
        · subst h3
          generalize hsd : IntKind.u64.wrap (sd + 11400714819323198485) = sd2
          have HSD := Lib.hid hsd
          clear hsd
          generalize hmz : mixF sd2 = mz
          have hm0 := mixF_bd sd2
          rw [hmz] at hm0
          obtain ⟨hm0, hm1⟩ := hm0
          have HMZ := Lib.hid hmz
          clear hmz
          have hq0 : 0 ≤ mz % (n2 : Int) := Int.emod_nonneg _ (by omega)
          have hq1 : mz % (n2 : Int) < (n2 : Int) := Int.emod_lt_of_pos _ (by omega)
          obtain ⟨z, _, hz, hcz⟩ := hR1.intsAt (k := (mz % (n2 : Int)).toNat) (by omega)
          have HP : Hid (pickF ⟨3, t, sd, L⟩ R = (z, ⟨3, z, sd2, L⟩, 0)) := by
            have := pick_seed (t := t) (sd := sd) (z := z) (L := L) (R := R) (by simp only [HL.out]; exact HV.out) HRT.out (by rw [HR.out, HSD.out, HMZ.out]; exact hz.out)
            rw [HSD.out] at this
            exact this
          go_wp2_with fail
          rw [HSD.out]
          refine (rmix_any _ _).mono ?_
          rintro e w4 ⟨rfl, rfl⟩
          rw [HMZ.out]
          go_wp2
          go_region
          go_wp2
          refine bodyPost_ret (v := .tuple #[.int .i64 z, .agg #[.int .i64 3, .int .i64 z, .int .u64 sd2, .slice A n c], .int .i64 0]) (by simp [results, Try.results13, go_sem, r0, r1, r2, r3]) rfl ?_
          rw [HP.out]
          refine pickPost_same hL ?_
          repeat (first | with_reducible exact hBel | with_reducible refine Below.drew ?_ | with_reducible refine below_drewN ?_ _ | (with_reducible refine Below.setCell ?_ ?_ _; rotate_left; simp))
        · have HP : Hid (pickF ⟨k, t, sd, L⟩ R = (fv, ⟨k, fv, sd, L⟩, 0)) := by
            rw [← HF.out]
            exact pick_fair (by simp only [HL.out]; exact HV.out) HRT.out (by rw [HL.out]; exact h2) h3
          have h3' : (k == 3) = false := by simpa using h3
          by_cases hk2 : k = 2
          · subst hk2
            obtain rfl : n = 0 := by omega
            go_wp2
            go_region
            go_wp2
            refine bodyPost_ret (v := .tuple #[.int .i64 fv, .agg #[.int .i64 2, .int .i64 fv, .int .u64 sd, .slice A 0 c], .int .i64 0]) (by simp [results, Try.results13, go_sem, r0, r1, r2, r3]) rfl ?_
            rw [HP.out]
            refine pickPost_same hL ?_
            repeat (first | with_reducible exact hBel | with_reducible refine Below.drew ?_ | with_reducible refine below_drewN ?_ _ | (with_reducible refine Below.setCell ?_ ?_ _; rotate_left; simp))
          · have hk2' : (k == 2) = false := by simpa using hk2
            go_wp2
            go_region
            go_wp2
            refine bodyPost_ret (v := .tuple #[.int .i64 fv, .agg #[.int .i64 k, .int .i64 fv, .int .u64 sd, .slice A n c], .int .i64 0]) (by simp [results, Try.results13, go_sem, r0, r1, r2, r3]) rfl ?_
            rw [HP.out]
            refine pickPost_same hL ?_
            repeat (first | with_reducible exact hBel | with_reducible refine Below.drew ?_ | with_reducible refine below_drewN ?_ _ | (with_reducible refine Below.setCell ?_ ?_ _; rotate_left; simp))
  · have HBZ := Lib.hid (HB.out hv)
    generalize hz : vErr k t n = z at *
    have HZ := Lib.hid hz
    have hv' : (z != 0) = true := by simp [hv]
    have HV := Lib.hid hv
    clear hv hz HB HW
    go_wp2
    refine bodyPost_ret (v := .tuple #[.int .i64 0, .agg #[.int .i64 0, .int .i64 0, .int .u64 0, .slice none 0 0], .int .i64 z]) (by simp [results, Try.results13, go_sem, r0, r1, r2, r3]) rfl ?_
    rw [HBZ.out]
    refine ⟨none, 0, 0, rfl, Reads.nil _ _, ?_⟩
    repeat (first | with_reducible exact hBel | with_reducible refine Below.drew ?_ | with_reducible refine below_drewN ?_ _ | (with_reducible refine Below.setCell ?_ ?_ _; rotate_left; simp))
theorem pick_any (k t sd : Int) (A : Option Addr) (n c : Nat) (L : List Int) (A2 : Option Addr) (n2 c2 : Nat) (R : List Int) (w : World)
    (hL : Reads w 1 A n c (L.map (Value.int .i64))) (hR : Reads w 1 A2 n2 c2 (R.map (Value.int .i64))) (hn : n ≤ 1000000) :
    Calls Try.prog 12 #[.agg #[.int .i64 k, .int .i64 t, .int .u64 sd, .slice A n c], .slice A2 n2 c2] w (PickPostF w (pickF ⟨k, t, sd, L⟩ R)) := by
  by_cases hv : vErr k t n = 0
  · exact pick_good k t sd A n c L A2 n2 c2 R w hL hR hn hv
  · exact pick_bad k t sd A n c L A2 n2 c2 R w hL hv
end Go.Proofs.Ytdjclejjabpdcaa
