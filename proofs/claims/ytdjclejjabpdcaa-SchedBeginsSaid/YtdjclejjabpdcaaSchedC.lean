/- The walk of the layer's Pick: its results are those of the plain function pickF. -/
import Derived.Test.YtdjclejjabpdcaaSchedB
namespace Go.Proofs.Ytdjclejjabpdcaa
open Go.RowKit
set_option linter.unusedVariables false
set_option linter.unusedSimpArgs false
structure Sch where
  kind : Int
  turn : Int
  seed : Int
  list : List Int
def Sch.zero : Sch := ⟨0, 0, 0, []⟩
def pickF (s : Sch) (R : List Int) : Int × Sch × Int :=
  if vErr s.kind s.turn s.list.length ≠ 0 then (0, Sch.zero, vErr s.kind s.turn s.list.length)
  else if rightB R = false then (0, Sch.zero, 1)
  else if s.kind = 2 ∧ 0 < s.list.length then
    let n := if 0 ≤ s.list.headD 0 then R.getD ((s.list.headD 0) % (R.length : Int)).toNat 0 else fairF s.turn R
    (n, ⟨s.kind, n, s.seed, s.list.tail⟩, 0)
  else if s.kind = 3 then
    let sd := IntKind.u64.wrap (s.seed + 11400714819323198485)
    let n := R.getD (mixF sd % (R.length : Int)).toNat 0
    (n, ⟨s.kind, n, sd, s.list⟩, 0)
  else (fairF s.turn R, ⟨s.kind, fairF s.turn R, s.seed, s.list⟩, 0)
/-- What Pick leaves: the three results stand for r, the old memory is as it was. -/
def PickPost (w : World) (r : Int × Sch × Int) (e : Ending) (w' : World) : Prop :=
  ∃ A n c, e = .returned (.tuple #[.int .i64 r.1, .agg #[.int .i64 r.2.1.kind, .int .i64 r.2.1.turn, .int .u64 r.2.1.seed, .slice A n c], .int .i64 r.2.2]) ∧
    Reads w' 1 A n c (r.2.1.list.map (Value.int .i64)) ∧ Below w.heap.size w w'
/-- The same, and the list of the result lies in new memory. -/
def PickPostF (w : World) (r : Int × Sch × Int) (e : Ending) (w' : World) : Prop :=
  ∃ A n c, e = .returned (.tuple #[.int .i64 r.1, .agg #[.int .i64 r.2.1.kind, .int .i64 r.2.1.turn, .int .u64 r.2.1.seed, .slice A n c], .int .i64 r.2.2]) ∧
    Reads w' 1 A n c (r.2.1.list.map (Value.int .i64)) ∧ Below w.heap.size w w' ∧ Fresh w.heap.size A n
theorem pick_bad (k t sd : Int) (A : Option Addr) (n c : Nat) (L : List Int) (A2 : Option Addr) (n2 c2 : Nat) (R : List Int) (w : World)
    (hL : Reads w 1 A n c (L.map (Value.int .i64))) (hv : vErr k t n ≠ 0) :
    Calls Try.prog 12 #[.agg #[.int .i64 k, .int .i64 t, .int .u64 sd, .slice A n c], .slice A2 n2 c2] w (PickPostF w (pickF ⟨k, t, sd, L⟩ R)) := by
  have hl := hL.len_int
  have HP : Hid (pickF ⟨k, t, sd, L⟩ R = (0, Sch.zero, vErr k t n)) := by
    show _ = _
    simp [pickF, hl, hv]
  rw [HP.out]
  generalize hz : vErr k t n = z at *
  have HZ := Lib.hid hz
  clear hz
  have hv' : (z != 0) = true := by simp [hv]
  have HV := Lib.hid hv
  clear hv hl
  go_enter Try.func12, Try.ntmps12
  go_wp2_with fail
  refine (valid_any _ _ _ _ _ _ _).mono ?_
  rintro e w1 ⟨rfl, hb1⟩
  rw [HZ.out]
  obtain ⟨hc1, hf1⟩ := bcell hb1
  have hz1 := hb1.size
  simp at hz1 hc1 hf1
  go_wp2
  refine bodyPost_ret (v := .tuple #[.int .i64 0, .agg #[.int .i64 0, .int .i64 0, .int .u64 0, .slice none 0 0], .int .i64 z]) (by simp [results, Try.results12, go_sem, hc1, hf1]) rfl ⟨none, 0, 0, rfl, Reads.nil _ _, ?_, Fresh.zero _ _⟩
  exact ((((((Below.refl _ _).alloc (Nat.le_refl _) _).alloc (by simp) _).trans (hb1.mono (by simp; omega))).setCell (by simp) _).setCell (by simp) _ |>.setCell (by simp) _).setCell (by simp) _

def incInv (R : List Int) (k : Nat) : Prop := ∃ p, R[k]? = some p ∧ rightB R = incB p (R.drop (k + 1))
theorem incInv_zero {R : List Int} {x : Int} (h : R[0]? = some x) (h1 : 1 ≤ x) : incInv R 0 := by
  refine ⟨x, h, ?_⟩
  cases R with
  | nil => simp at h
  | cons a R => simp at h; subst h; simp [rightB, h1]
theorem incInv_end {R : List Int} {k : Nat} (h : incInv R k) (hk : R.length ≤ k + 1) : rightB R = true := by
  obtain ⟨p, _, h⟩ := h
  rw [h, List.drop_eq_nil_of_le hk]; rfl
theorem incInv_step {R : List Int} {k : Nat} {x y : Int} (h : incInv R k) (hx : R[k]? = some x) (hy : R[k + 1]? = some y) : (x < y → incInv R (k + 1)) ∧ (y ≤ x → rightB R = false) := by
  obtain ⟨p, hp, h⟩ := h
  rw [hx] at hp; cases hp
  rw [drop_at hy] at h
  constructor
  · intro hl; exact ⟨y, hy, by rw [h]; simp [incB, hl]⟩
  · intro hl; rw [h]; simp [incB]; omega
theorem pick_wrong {s : Sch} {R : List Int} (hv : vErr s.kind s.turn s.list.length = 0) (hr : rightB R = false) : pickF s R = (0, Sch.zero, 1) := by simp [pickF, hv, hr]
theorem mixF_bd (z : Int) : 0 ≤ mixF z ∧ mixF z ≤ 18446744073709551615 := by
  unfold mixF
  exact bounds_u64 (wf_bits _ _ _ _)
theorem pick_list_pos {t sd y z : Int} {L R : List Int} (hv : vErr 2 t L.length = 0) (hr : rightB R = true) (hy : L[0]? = some y) (h0 : 0 ≤ y) (hz : R[(y % (R.length : Int)).toNat]? = some z) : pickF ⟨2, t, sd, L⟩ R = (z, ⟨2, z, sd, L.tail⟩, 0) := by
  cases L with
  | nil => simp at hy
  | cons a L =>
    simp at hy; subst hy
    simp only [List.length_cons] at hv
    simp [pickF, hv, hr, h0, hz]
theorem pick_list_neg {t sd y : Int} {L R : List Int} (hv : vErr 2 t L.length = 0) (hr : rightB R = true) (hy : L[0]? = some y) (h0 : y < 0) : pickF ⟨2, t, sd, L⟩ R = (fairF t R, ⟨2, fairF t R, sd, L.tail⟩, 0) := by
  cases L with
  | nil => simp at hy
  | cons a L =>
    simp at hy; subst hy
    simp only [List.length_cons] at hv
    simp [pickF, hv, hr, show ¬ (0 ≤ a) from by omega]
theorem pick_seed {t sd z : Int} {L R : List Int} (hv : vErr 3 t L.length = 0) (hr : rightB R = true) (hz : R[(mixF (IntKind.u64.wrap (sd + 11400714819323198485)) % (R.length : Int)).toNat]? = some z) :
    pickF ⟨3, t, sd, L⟩ R = (z, ⟨3, z, IntKind.u64.wrap (sd + 11400714819323198485), L⟩, 0) := by
  simp [pickF, hv, hr, hz]
theorem pick_fair {k t sd : Int} {L R : List Int} (hv : vErr k t L.length = 0) (hr : rightB R = true) (h2 : ¬ (k = 2 ∧ 0 < L.length)) (h3 : k ≠ 3) : pickF ⟨k, t, sd, L⟩ R = (fairF t R, ⟨k, fairF t R, sd, L⟩, 0) := by
  simp only [pickF, hv, hr]
  rw [if_neg (by simp), if_neg (by simp), if_neg h2, if_neg h3]
set_option maxHeartbeats 1000000 in
theorem pick_good (k t sd : Int) (A : Option Addr) (n c : Nat) (L : List Int) (A2 : Option Addr) (n2 c2 : Nat) (R : List Int) (w : World)
    (hL : Reads w 1 A n c (L.map (Value.int .i64))) (hR : Reads w 1 A2 n2 c2 (R.map (Value.int .i64))) (hn : n ≤ 1000000) (hv : vErr k t n = 0) :
    Calls Try.prog 12 #[.agg #[.int .i64 k, .int .i64 t, .int .u64 sd, .slice A n c], .slice A2 n2 c2] w (PickPostF w (pickF ⟨k, t, sd, L⟩ R)) := by
  have HL := Lib.hid hL.len_int
  have HR := Lib.hid hR.len_int
  have hcm := hR.le63
  have HV := Lib.hid hv
  clear hv
  have HW : Hid (rightB R = false → pickF ⟨k, t, sd, L⟩ R = (0, Sch.zero, 1)) := fun h => pick_wrong (by simp only [HL.out]; exact HV.out) h
  go_enter Try.func12, Try.ntmps12
  go_wp2_with fail
  refine (valid_any _ _ _ _ _ _ _).mono ?_
  rintro e w1 ⟨rfl, hb1⟩
  rw [HV.out]
  have bs : Blk w1 w.heap.size 25 #[.int .i64 k, .int .i64 t, .int .u64 sd, .slice A n c] := ((Blk.new w _ _).alloc _).below hb1 (by simp; omega)
  have br : Blk w1 (w.heap.size + 1) 25 #[.int .i64 0, .int .i64 0, .int .u64 0, .slice none 0 0] := by
    have := (Blk.new (w.alloc (.cells #[.int .i64 k, .int .i64 t, .int .u64 sd, .slice A n c] 25)) 25 #[.int .i64 0, .int .i64 0, .int .u64 0, .slice none 0 0]).below hb1 (by simp)
    simpa using this
  have hBel : Below w.heap.size w w1 := ((((Below.refl _ _).alloc (Nat.le_refl _) _).alloc (by simp) _).trans (hb1.mono (by simp; omega)))
  have hR1 : Reads w1 1 A2 n2 c2 (R.map (Value.int .i64)) := hR.below hBel
  clear hb1
  obtain ⟨s0, s1, s2, s3, sf⟩ := bs.c4
  obtain ⟨r0, r1, r2, r3, rf⟩ := br.c4
  rcases Nat.eq_zero_or_pos n2 with h0 | h0
  · subst h0
    go_wp2
    refine bodyPost_ret (v := .tuple #[.int .i64 0, .agg #[.int .i64 0, .int .i64 0, .int .u64 0, .slice none 0 0], .int .i64 1]) (by simp [results, Try.results12, go_sem, r0, r1, r2, r3]) rfl ?_
    rw [HW.out (by rw [List.eq_nil_of_length_eq_zero HR.out]; rfl)]
    exact ⟨none, 0, 0, rfl, Reads.nil _ _, (((hBel.setCell (by simp) _).setCell (by simp) _).setCell (by simp) _).setCell (by simp) _, Fresh.zero _ _⟩
  · obtain ⟨b, off, x, rfl, hb, hx, hc⟩ := hR1.ints h0
    simp only [Nat.add_zero] at hc
    have hne : ((n2 : Int) == 0) = false := by simp; omega
    by_cases h1 : x < 1
    · go_wp2
      refine bodyPost_ret (v := .tuple #[.int .i64 0, .agg #[.int .i64 0, .int .i64 0, .int .u64 0, .slice none 0 0], .int .i64 1]) (by simp [results, Try.results12, go_sem, r0, r1, r2, r3]) rfl ?_
      rw [HW.out (by have := hx.out; cases R with | nil => rfl | cons a R => simp at this; subst this; simp [rightB]; omega)]
      exact ⟨none, 0, 0, rfl, Reads.nil _ _, (((hBel.setCell (by simp) _).setCell (by simp) _).setCell (by simp) _).setCell (by simp) _, Fresh.zero _ _⟩
    · have h1' : decide (x < 1) = false := by simpa using h1
      go_wp2
      have HI : Hid (incInv R 0) := incInv_zero hx.out (by omega)
      clear hc hx h1 h1'
      go_loopw [30] (fun i wr => ∃ j m : Nat, j < n2 ∧ i = .int .i64 j ∧ Hid (incInv R j) ∧ wr = w1.drewN m) (fun i _ => n2 - (intOf i).toNat)
      case atStart => exact ⟨0, 0, by omega, rfl, HI, rfl⟩
      case round =>
        obtain ⟨j, m, hj, rfl, HF, rfl⟩ := hrel
        by_cases hjn : j + 1 < n2
        · obtain ⟨x, _, hx, hcx⟩ := hR1.intsAt hj
          obtain ⟨y, _, hy, hcy⟩ := hR1.intsAt hjn
          have hlt : (j : Int) < (n2 : Int) - 1 := by omega
          by_cases hxy : y ≤ x
          · have HS := Lib.hid ((incInv_step HF.out hx.out hy.out).2 hxy)
            have q1 : (0 : Int) ≤ (j : Int) + 1 := by omega
            have q3 : (j : Int) + 1 < n2 := by omega
            have q2 : ((j : Int) + 1).toNat = j + 1 := by omega
            have q4 : IntKind.i64.wrap ((j : Int) + 1) = (j : Int) + 1 := IntWalk.i64_in _ (by omega)
            go_wp2
            go_quiet (fail)
            go_wp2
            refine bodyPost_ret (v := .tuple #[.int .i64 0, .agg #[.int .i64 0, .int .i64 0, .int .u64 0, .slice none 0 0], .int .i64 1]) (by simp [results, Try.results12, go_sem, r0, r1, r2, r3]) rfl ?_
            rw [HW.out HS.out]
            exact ⟨none, 0, 0, rfl, Reads.nil _ _, (((((below_drewN hBel _)).setCell (by simp) _).setCell (by simp) _).setCell (by simp) _).setCell (by simp) _, Fresh.zero _ _⟩
          · have HS := Lib.hid ((incInv_step HF.out hx.out hy.out).1 (by omega))
            have hxy' : decide (y ≤ x) = false := by simpa using hxy
            have q1 : (0 : Int) ≤ (j : Int) + 1 := by omega
            have q3 : (j : Int) + 1 < n2 := by omega
            have q2 : ((j : Int) + 1).toNat = j + 1 := by omega
            have q4 : IntKind.i64.wrap ((j : Int) + 1) = (j : Int) + 1 := IntWalk.i64_in _ (by omega)
            go_wp2
            go_quiet (fail)
            go_wp2
            clear q1 q2 q3 q4
            go_roundw
            case rel => exact ⟨j + 1, _, by omega, by go_num, HS, rfl⟩
            case measure => simp [intOf]; omega
        · have HRT := Lib.hid (incInv_end HF.out (by rw [HR.out]; omega))
          clear HF HI HW
          go_wp2_with fail
          have hL1 : Reads (w1.drewN m) 1 A n c (L.map (Value.int .i64)) := hL.below (below_drewN hBel m)
          refine (clone_any A n c L _ hL1 hn).mono ?_
          rintro e w2 ⟨A', c', rfl, ho2, hb2⟩
          replace bs := (bs.drewN m).below hb2 bs.lt
          have br1 := br
          replace br := (br.drewN m).below hb2 br.lt
          replace hR1 : Reads w2 1 _ n2 c2 (R.map (Value.int .i64)) := hR1.below ((below_drewN (Below.refl _ _) m).trans hb2)
          replace hBel : Below w.heap.size w w2 := (below_drewN hBel m).trans (hb2.mono (by have := hBel.size; simpa using this))
          have hlt2 := hb2.size
          have hw1 := br1.lt
          clear hb2 s0 s1 s2 s3 sf r0 r1 r2 r3 rf hL1
          obtain ⟨s0, s1, s2, s3, sf⟩ := bs.c4
          go_wp2_with fail
          have hbw : b < w.heap.size := (hR.intsAt h0).choose_spec.1
          have hlt1 := bs.lt
          have hBm : w.heap.size < (w1.drewN m).heap.size := by simp; omega
          clear br1
          replace hR1 := hR1.setCell (p := ⟨w.heap.size, 3, none⟩) (.slice A' n c') (fun _ b' off' e => by injection e with e; injection e with e _; subst e; simp; omega)
          replace ho2 := ho2.setCell (p := ⟨w.heap.size, 3, none⟩) (.slice A' n c') hBm
          replace bs := bs.set_ 3 (.slice A' n c')
          replace br := br.far (p := ⟨w.heap.size, 3, none⟩) (by simp) (.slice A' n c')
          replace hBel := hBel.setCell (p := ⟨w.heap.size, 3, none⟩) (by simp) (.slice A' n c')
          clear s0 s1 s2 s3 sf
          refine (fair_any t _ n2 c2 R _ hR1 h0).mono ?_
          rintro e w3' ⟨rfl, rfl⟩
          generalize (w2.setCell { block := w.heap.size, off := 3 } (Value.slice A' n c')) = w3 at *
          simp at bs
          obtain ⟨s0, s1, s2, s3, sf⟩ := bs.c4
          obtain ⟨r0, r1, r2, r3, rf⟩ := br.c4
          have HFV : Hid (fairF t R = fairF t R) := rfl
          generalize hfv : fairF t R = fv at HFV ⊢
          have HF := Lib.hid hfv
          clear hfv HFV
          by_cases h2 : k = 2 ∧ 0 < n
          · obtain ⟨rfl, hn0⟩ := h2
            have hn0' : decide (0 < (n : Int)) = true := by simp; omega
            have hnc := ho2.1
            have hgB0 := fun b off (e : A' = some ⟨b, off, none⟩) => ho2.blk (by omega) e
            obtain ⟨g, o, y, rfl, hg, hy, hcy⟩ := ho2.reads.ints hn0
            have hgB : w.heap.size + 1 < g := by have := hgB0 g o rfl; simp at this; omega
            clear hgB0
            simp only [Nat.add_zero] at hcy
            have htl : Reads w3 1 (some ⟨g, o + 1, none⟩) (n - 1) (c' - 1) (L.tail.map (Value.int .i64)) := by rw [List.map_tail]; exact ho2.reads.tail1 hn0
            by_cases hy0 : 0 ≤ y
            · have hq0 : 0 ≤ y % (n2 : Int) := Int.emod_nonneg _ (by omega)
              have hq1 : y % (n2 : Int) < (n2 : Int) := Int.emod_lt_of_pos _ (by omega)
              obtain ⟨z, _, hz, hcz⟩ := hR1.intsAt (k := (y % (n2 : Int)).toNat) (by omega)
              have HP : Hid (pickF ⟨2, t, sd, L⟩ R = (z, ⟨2, z, sd, L.tail⟩, 0)) := pick_list_pos (by simp only [HL.out]; exact HV.out) HRT.out hy.out hy0 (by rw [HR.out]; exact hz.out)
              by_cases hc1 : c' = 1
              · subst hc1
                obtain rfl : n = 1 := by omega
                have hl1 : L.tail = [] := List.eq_nil_of_length_eq_zero (by rw [List.length_tail, HL.out])
                have HL1 := Lib.hid hl1
                clear hl1
                go_wp2
                go_region
                go_wp2
                refine bodyPost_ret (v := .tuple #[.int .i64 z, .agg #[.int .i64 2, .int .i64 z, .int .u64 sd, .slice (some ⟨g, o, none⟩) 0 0], .int .i64 0]) (by simp [results, Try.results12, go_sem, r0, r1, r2, r3]) rfl ?_
                rw [HP.out, HL1.out]
                refine ⟨_, _, _, rfl, ?_, ?_, ?_⟩
                · exact Reads.zero _ _ _ _ (by omega)
                · repeat (first | with_reducible exact hBel | with_reducible refine Below.drew ?_ | (with_reducible refine Below.setCell ?_ ?_ _; rotate_left; simp))
                · exact Fresh.zero _ _
              · have hc1' : ¬ (1 = c') := fun h => hc1 h.symm
                go_wp2
                go_region
                go_wp2
                refine bodyPost_ret (v := .tuple #[.int .i64 z, .agg #[.int .i64 2, .int .i64 z, .int .u64 sd, .slice (some ⟨g, o + 1, none⟩) (n - 1) (c' - 1)], .int .i64 0]) (by simp [results, Try.results12, go_sem, r0, r1, r2, r3]) rfl ?_
                rw [HP.out]
                refine ⟨_, _, _, rfl, ?_, ?_, ?_⟩
                · show Reads _ 1 _ _ _ _
                  repeat (first | with_reducible exact htl | with_reducible refine Reads.drew ?_ | (with_reducible refine Reads.setCell ?_ _ ?_; rotate_left; (intro _ b' off' e; injection e with e; injection e with e _; subst e; simp; omega)))
                · repeat (first | with_reducible exact hBel | with_reducible refine Below.drew ?_ | (with_reducible refine Below.setCell ?_ ?_ _; rotate_left; simp))
                · intro _ b' off' e; injection e with e; injection e with e _; subst e; omega
            · have hy0' : decide (0 ≤ y) = false := by simpa using hy0
              have HP : Hid (pickF ⟨2, t, sd, L⟩ R = (fv, ⟨2, fv, sd, L.tail⟩, 0)) := by rw [← HF.out]; exact pick_list_neg (by simp only [HL.out]; exact HV.out) HRT.out hy.out (by omega)
              by_cases hc1 : c' = 1
              · subst hc1
                obtain rfl : n = 1 := by omega
                have hl1 : L.tail = [] := List.eq_nil_of_length_eq_zero (by rw [List.length_tail, HL.out])
                have HL1 := Lib.hid hl1
                clear hl1
                go_wp2
                go_region
                go_wp2
                refine bodyPost_ret (v := .tuple #[.int .i64 fv, .agg #[.int .i64 2, .int .i64 fv, .int .u64 sd, .slice (some ⟨g, o, none⟩) 0 0], .int .i64 0]) (by simp [results, Try.results12, go_sem, r0, r1, r2, r3]) rfl ?_
                rw [HP.out, HL1.out]
                refine ⟨_, _, _, rfl, ?_, ?_, ?_⟩
                · exact Reads.zero _ _ _ _ (by omega)
                · repeat (first | with_reducible exact hBel | with_reducible refine Below.drew ?_ | (with_reducible refine Below.setCell ?_ ?_ _; rotate_left; simp))
                · exact Fresh.zero _ _
              · have hc1' : ¬ (1 = c') := fun h => hc1 h.symm
                go_wp2
                go_region
                go_wp2
                refine bodyPost_ret (v := .tuple #[.int .i64 fv, .agg #[.int .i64 2, .int .i64 fv, .int .u64 sd, .slice (some ⟨g, o + 1, none⟩) (n - 1) (c' - 1)], .int .i64 0]) (by simp [results, Try.results12, go_sem, r0, r1, r2, r3]) rfl ?_
                rw [HP.out]
                refine ⟨_, _, _, rfl, ?_, ?_, ?_⟩
                · show Reads _ 1 _ _ _ _
                  repeat (first | with_reducible exact htl | with_reducible refine Reads.drew ?_ | (with_reducible refine Reads.setCell ?_ _ ?_; rotate_left; (intro _ b' off' e; injection e with e; injection e with e _; subst e; simp; omega)))
                · repeat (first | with_reducible exact hBel | with_reducible refine Below.drew ?_ | (with_reducible refine Below.setCell ?_ ?_ _; rotate_left; simp))
                · intro _ b' off' e; injection e with e; injection e with e _; subst e; omega
          · have HGB : Hid (0 < n → ∀ b' off', A' = some ⟨b', off', none⟩ → w.heap.size + 1 < b') := fun hn' b' off' e => by
              have h1 := ho2.blk (by have := ho2.1; omega) e
              have h2 : (w1.drewN m).heap.size = w1.heap.size := rfl
              omega
            by_cases h3 : k = 3
            · subst h3
              generalize hsd : IntKind.u64.wrap (sd + 11400714819323198485) = sd2
              have HSD := Lib.hid hsd
              clear hsd
              generalize hmz : mixF sd2 = mz
              have hm0 := mixF_bd sd2
              rw [hmz] at hm0
              obtain ⟨hm0, hm1⟩ := hm0
              have HMZ := Lib.hid hmz
              clear hmz
              have hq0 : 0 ≤ mz % (n2 : Int) := Int.emod_nonneg _ (by omega)
              have hq1 : mz % (n2 : Int) < (n2 : Int) := Int.emod_lt_of_pos _ (by omega)
              obtain ⟨z, _, hz, hcz⟩ := hR1.intsAt (k := (mz % (n2 : Int)).toNat) (by omega)
              have HP : Hid (pickF ⟨3, t, sd, L⟩ R = (z, ⟨3, z, sd2, L⟩, 0)) := by
                have := pick_seed (t := t) (sd := sd) (z := z) (L := L) (R := R) (by simp only [HL.out]; exact HV.out) HRT.out (by rw [HR.out, HSD.out, HMZ.out]; exact hz.out)
                rw [HSD.out] at this
                exact this
              go_wp2_with fail
              rw [HSD.out]
              refine (mix_any _ _).mono ?_
              rintro e w4 ⟨rfl, rfl⟩
              rw [HMZ.out]
              go_wp2
              go_region
              go_wp2
              refine bodyPost_ret (v := .tuple #[.int .i64 z, .agg #[.int .i64 3, .int .i64 z, .int .u64 sd2, .slice A' n c'], .int .i64 0]) (by simp [results, Try.results12, go_sem, r0, r1, r2, r3]) rfl ?_
              rw [HP.out]
              refine ⟨_, _, _, rfl, ?_, ?_, ?_⟩
              · show Reads _ 1 _ _ _ _
                repeat (first | with_reducible exact ho2.reads | with_reducible refine Reads.drew ?_ | (with_reducible refine Reads.setCell ?_ _ ?_; rotate_left; (intro hn' b' off' e; have := HGB.out hn' b' off' e; show b' ≠ _; simp only []; omega)))
              · repeat (first | with_reducible exact hBel | with_reducible refine Below.drew ?_ | (with_reducible refine Below.setCell ?_ ?_ _; rotate_left; simp))
              · intro hn' b' off' e; have := HGB.out hn' b' off' e; omega
            · have HP : Hid (pickF ⟨k, t, sd, L⟩ R = (fv, ⟨k, fv, sd, L⟩, 0)) := by
                rw [← HF.out]
                exact pick_fair (by simp only [HL.out]; exact HV.out) HRT.out (by rw [HL.out]; exact h2) h3
              have h3' : (k == 3) = false := by simpa using h3
              by_cases hk2 : k = 2
              · subst hk2
                obtain rfl : n = 0 := by omega
                go_wp2
                go_region
                go_wp2
                refine bodyPost_ret (v := .tuple #[.int .i64 fv, .agg #[.int .i64 2, .int .i64 fv, .int .u64 sd, .slice A' 0 c'], .int .i64 0]) (by simp [results, Try.results12, go_sem, r0, r1, r2, r3]) rfl ?_
                rw [HP.out]
                refine ⟨_, _, _, rfl, ?_, ?_, ?_⟩
                · show Reads _ 1 _ _ _ _
                  repeat (first | with_reducible exact ho2.reads | with_reducible refine Reads.drew ?_ | (with_reducible refine Reads.setCell ?_ _ ?_; rotate_left; (intro hn' b' off' e; have := HGB.out hn' b' off' e; show b' ≠ _; simp only []; omega)))
                · repeat (first | with_reducible exact hBel | with_reducible refine Below.drew ?_ | (with_reducible refine Below.setCell ?_ ?_ _; rotate_left; simp))
                · intro hn' b' off' e; have := HGB.out hn' b' off' e; omega
              · have hk2' : (k == 2) = false := by simpa using hk2
                go_wp2
                go_region
                go_wp2
                refine bodyPost_ret (v := .tuple #[.int .i64 fv, .agg #[.int .i64 k, .int .i64 fv, .int .u64 sd, .slice A' n c'], .int .i64 0]) (by simp [results, Try.results12, go_sem, r0, r1, r2, r3]) rfl ?_
                rw [HP.out]
                refine ⟨_, _, _, rfl, ?_, ?_, ?_⟩
                · show Reads _ 1 _ _ _ _
                  repeat (first | with_reducible exact ho2.reads | with_reducible refine Reads.drew ?_ | (with_reducible refine Reads.setCell ?_ _ ?_; rotate_left; (intro hn' b' off' e; have := HGB.out hn' b' off' e; show b' ≠ _; simp only []; omega)))
                · repeat (first | with_reducible exact hBel | with_reducible refine Below.drew ?_ | (with_reducible refine Below.setCell ?_ ?_ _; rotate_left; simp))
                · intro hn' b' off' e; have := HGB.out hn' b' off' e; omega
end Go.Proofs.Ytdjclejjabpdcaa
