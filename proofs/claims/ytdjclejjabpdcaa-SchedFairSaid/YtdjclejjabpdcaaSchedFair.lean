/- SchedFair: the law returns true for every turn and every list of ready processes, and its arguments read as before. No condition. -/
import Derived.Test.YtdjclejjabpdcaaSchedStays
namespace Go.Proofs.Ytdjclejjabpdcaa
open Go.ChangeShapes Go.WideShapes Go.ChangeAt Go.RowKit
set_option linter.unusedVariables false
set_option linter.unusedSimpArgs false
theorem incB_lt {p : Int} {R : List Int} (h : incB p R = true) : List.Pairwise (· < ·) (p :: R) := by
  induction R generalizing p with
  | nil => simp
  | cons a R ih =>
    simp [incB] at h
    have h2 := ih h.2
    rw [List.pairwise_cons]
    refine ⟨fun x hx => ?_, h2⟩
    rcases List.mem_cons.1 hx with rfl | hx
    · exact h.1
    · have := (List.pairwise_cons.1 h2).1 x hx; omega
theorem right_lt {R : List Int} (h : rightB R = true) : List.Pairwise (· < ·) R := by
  cases R with
  | nil => simp
  | cons a R => simp [rightB] at h; exact incB_lt h.2
theorem right_at {R : List Int} (h : rightB R = true) {i j : Nat} (hij : i < j) (hj : j < R.length) : R.getD i 0 < R.getD j 0 := by
  have := List.pairwise_iff_getElem.1 (right_lt h) i j (by omega) hj hij
  simpa [List.getD, List.getElem?_eq_getElem hj, List.getElem?_eq_getElem (show i < R.length by omega)] using this
theorem fairGo_at {t d : Int} {R : List Int} {i : Nat} (h : ∀ j, j < i → R.getD j 0 ≤ t) (hi : i < R.length) (hg : t < R.getD i 0) : fairGo t d R = R.getD i 0 := by
  induction R generalizing i with
  | nil => simp at hi
  | cons a R ih =>
    cases i with
    | zero => simp at hg; simp [fairGo, hg]
    | succ i =>
      have h0 := h 0 (by omega)
      simp at h0
      simp only [fairGo]
      rw [if_neg (by omega)]
      have := ih (i := i) (fun j hj => by have := h (j + 1) (by omega); simpa using this) (by simpa using hi) (by simpa using hg)
      simpa using this
theorem fairGo_end {t d : Int} {R : List Int} (h : ∀ j, j < R.length → R.getD j 0 ≤ t) : fairGo t d R = d := by
  induction R with
  | nil => rfl
  | cons a R ih =>
    have h0 := h 0 (by simp)
    simp at h0
    simp only [fairGo]
    rw [if_neg (by omega)]
    exact ih (fun j hj => by have := h (j + 1) (by simpa using hj); simpa using this)
/-- The index of the l-th pick. -/
def gix (i0 n l : Nat) : Nat := if i0 + l < n then i0 + l else i0 + l - n
def metL (R : List Int) (i0 j : Nat) : List Int := (List.range j).map fun l => R.getD (gix i0 R.length l) 0
theorem metL_succ (R : List Int) (i0 j : Nat) : metL R i0 (j + 1) = metL R i0 j ++ [R.getD (gix i0 R.length j) 0] := by simp [metL, List.range_succ]
theorem fair_first {t : Int} {R : List Int} (h : rightB R = true) : ∃ i0, i0 < R.length ∧ fairF t R = R.getD (gix i0 R.length 0) 0 := by
  obtain ⟨i, hi, e⟩ := List.getElem_of_mem (fairF_mem (t := t) h)
  refine ⟨i, hi, ?_⟩
  rw [← e]
  simp [gix, hi, List.getD, List.getElem?_eq_getElem hi]
theorem fair_next {R : List Int} (h : rightB R = true) {i0 j : Nat} (hi : i0 < R.length) (hj : j + 1 < R.length) : fairF (R.getD (gix i0 R.length j) 0) R = R.getD (gix i0 R.length (j + 1)) 0 := by
  generalize hm : gix i0 R.length j = m
  have hml : m < R.length := by unfold gix at hm; split at hm <;> omega
  unfold fairF
  by_cases hlast : m + 1 < R.length
  · have e : gix i0 R.length (j + 1) = m + 1 := by
      unfold gix at hm ⊢
      split at hm <;> split <;> omega
    rw [e]
    refine fairGo_at (fun q hq => ?_) hlast (right_at h (by omega) hlast)
    rcases Nat.lt_or_eq_of_le (Nat.le_of_lt_succ hq) with hq | hq
    · have := right_at h hq hml; omega
    · subst hq; exact Int.le_refl _
  · have e : gix i0 R.length (j + 1) = 0 := by
      unfold gix at hm ⊢
      split at hm <;> split <;> omega
    rw [e]
    rw [fairGo_end (fun q hq => ?_)]
    · cases R with
      | nil => simp at hi
      | cons a R => simp
    · rcases Nat.lt_or_eq_of_le (show q ≤ m by omega) with hq | hq
      · have := right_at h hq hml; omega
      · subst hq; exact Int.le_refl _
theorem getD_inj {R : List Int} (h : rightB R = true) {i j : Nat} (hi : i < R.length) (hj : j < R.length) (e : R.getD i 0 = R.getD j 0) : i = j := by
  rcases Nat.lt_trichotomy i j with hl | hl | hl
  · have := right_at h hl hj; omega
  · exact hl
  · have := right_at h hl hi; omega
theorem met_new {R : List Int} (h : rightB R = true) {i0 j : Nat} (hi : i0 < R.length) (hj : j < R.length) : hasF (metL R i0 j) (R.getD (gix i0 R.length j) 0) = false := by
  rw [Bool.eq_false_iff]
  intro hc
  rw [hasF_mem] at hc
  obtain ⟨l, hl, e⟩ := List.mem_map.1 hc
  rw [List.mem_range] at hl
  have h1 : gix i0 R.length l < R.length := by unfold gix; split <;> omega
  have h2 : gix i0 R.length j < R.length := by unfold gix; split <;> omega
  have := getD_inj h h1 h2 e
  unfold gix at this
  split at this <;> split at this <;> omega
theorem met_all {R : List Int} {i0 : Nat} (hi : i0 < R.length) {x : Int} (hx : x ∈ R) : hasF (metL R i0 R.length) x = true := by
  rw [hasF_mem]
  obtain ⟨i, hil, rfl⟩ := List.getElem_of_mem hx
  refine List.mem_map.2 ⟨if i0 ≤ i then i - i0 else i + R.length - i0, ?_, ?_⟩
  · rw [List.mem_range]; split <;> omega
  · have e : gix i0 R.length (if i0 ≤ i then i - i0 else i + R.length - i0) = i := by
      unfold gix
      split <;> split <;> omega
    rw [e]
    simp [List.getD, List.getElem?_eq_getElem hil]

/-- What holds of the turn before the j-th pick. -/
def turnOk (R : List Int) (i0 j : Nat) (t : Int) : Prop := 0 ≤ t ∧ (rightB R = true → j < R.length → fairF t R = R.getD (gix i0 R.length j) 0)
theorem pick_f {t : Int} {R : List Int} (ht : 0 ≤ t) (hr : rightB R = true) : pickF ⟨1, t, 0, []⟩ R = (fairF t R, ⟨1, fairF t R, 0, []⟩, 0) := by
  refine pick_fair ?_ hr (by simp) (by omega)
  unfold vErr
  rw [if_neg (by omega), if_neg (by simp)]
theorem pick_x {t : Int} {R : List Int} (ht : 0 ≤ t) (hr : rightB R = false) : pickF ⟨1, t, 0, []⟩ R = (0, Sch.zero, 1) := by
  refine pick_wrong ?_ hr
  unfold vErr
  rw [if_neg (by simp only; omega), if_neg (by simp)]
theorem turn_next {R : List Int} (h : rightB R = true) {i0 j : Nat} (hi : i0 < R.length) (hj : j < R.length) : turnOk R i0 (j + 1) (R.getD (gix i0 R.length j) 0) := by
  refine ⟨?_, fun _ hj' => fair_next h hi hj'⟩
  have hg : gix i0 R.length j < R.length := by unfold gix; split <;> omega
  have := right_pos h _ (getD_mem hg)
  omega
set_option maxHeartbeats 1000000 in
set_option maxRecDepth 100000 in
theorem schedFair_walk (t : Int) (A2 : Option Addr) (n2 c2 : Nat) (R : List Int) (w : World) (hR : Reads w 1 A2 n2 c2 (R.map (Value.int .i64))) :
    Calls Try.prog 6 #[.int .i64 t, .slice A2 n2 c2] w fun e w' => e = .returned (.bool true) ∧ Below w.heap.size w w' := by
  have HLR := Lib.hid hR.len_int
  have hcm := hR.le63
  by_cases hc : 100 < n2 ∨ t < 0
  · go_enter Try.func6, Try.ntmps6
    go_wp2_with fail
    all_goals first
      | (with_reducible refine (awake_any _).mono ?_
         rintro e w5 ⟨rfl, hb5⟩
         go_wp2
         go_ret
         exact ⟨rfl, ((Below.refl _ _).alloc (Nat.le_refl _) _).trans (hb5.mono (by simp))⟩)
      | (exfalso; omega)
  · have h1 : n2 ≤ 100 := by omega
    have h2 : 0 ≤ t := by omega
    clear hc
    have h1' : decide (100 < n2) = false := by simp; omega
    obtain ⟨i0, HI⟩ : ∃ i0, Hid (rightB R = true → i0 < R.length ∧ fairF t R = R.getD (gix i0 R.length 0) 0) := by
      cases hr : rightB R with
      | false => exact ⟨0, fun h => by cases h⟩
      | true => obtain ⟨i0, h⟩ := fair_first (t := t) hr; exact ⟨i0, fun _ => h⟩
    have HRB : Hid (∀ b off, A2 = some ⟨b, off, none⟩ → 0 < n2 → b < w.heap.size) := fun b off e hn' => hR.lt hn' e
    go_enter Try.func6, Try.ntmps6
    go_wp2_with fail
    have bs0 := Blk.new w 25 #[.int .i64 1, .int .i64 t, .int .u64 0, .slice none 0 0]
    have hB0 : Below w.heap.size w (w.alloc (.cells #[.int .i64 1, .int .i64 t, .int .u64 0, .slice none 0 0] 25)) := (Below.refl _ _).alloc (Nat.le_refl _) _
    have hR0 := hR.alloc (.cells #[.int .i64 1, .int .i64 t, .int .u64 0, .slice none 0 0] 25)
    generalize (w.alloc (Obj.cells #[.int .i64 1, .int .i64 t, .int .u64 0, .slice none 0 0] 25)) = w1 at *
    go_loopw [6, 7] (fun met i wr => ∃ (j : Nat) (t' : Int) (A' : Option Addr) (c' : Nat) (MA : Option Addr) (mc : Nat), i = .int .i64 j ∧ j ≤ n2 ∧ met = .slice MA j mc ∧ Blk wr w.heap.size 25 #[.int .i64 1, .int .i64 t', .int .u64 0, .slice A' 0 c'] ∧ c' ≤ 9223372036854775807 ∧ Owns wr (w.heap.size + 1) 1 MA j mc ((metL R i0 j).map (Value.int .i64)) ∧ Reads wr 1 A2 n2 c2 (R.map (Value.int .i64)) ∧ Below w.heap.size w wr ∧ Hid (turnOk R i0 j t') ∧ Hid (0 < j → rightB R = true)) (fun _ i _ => n2 - (intOf i).toNat)
    case atStart => exact ⟨0, t, none, 0, none, 0, rfl, by omega, rfl, bs0, by omega, Owns.nil _ _ _, hR0, hB0, ⟨h2, fun h _ => (HI.out h).2⟩, fun h => absurd h (by omega)⟩
    case round =>
      clear bs0 hB0 hR0 hR
      obtain ⟨j, t', A', c', MA, mc, rfl, hj, rfl, bs, hc', ho, hR, hB, HT, HJ⟩ := hrel
      have hBs := hB.size
      obtain ⟨s0, s1, s2, s3, sf⟩ := bs.c4
      have hlt := bs.lt
      by_cases hjn : j < n2
      · go_wp2_with fail
        with_reducible refine (pick_any _ _ _ _ _ _ [] _ _ _ R _ (Reads.zero _ _ _ _ hc') hR (by omega)).mono ?_
        rintro e w3 ⟨A3, n3, c3, rfl, hr3, hb3, hfr⟩
        have hB3 := hB.trans (hb3.mono hB.size)
        replace bs := bs.below hb3 bs.lt
        replace hR := hR.below hb3
        replace ho := ho.below hb3
        have hsz3 := hb3.size
        clear s0 s1 s2 s3 sf hb3 hfr
        cases hr : rightB R with
        | false =>
          rw [pick_x HT.out.1 hr] at hr3 ⊢
          simp only [Sch.zero] at hr3 ⊢
          clear hr
          go_wp2_with fail
          with_reducible refine (awake_any _).mono ?_
          rintro e w5 ⟨rfl, hb5⟩
          go_wp2
          go_ret
          exact ⟨rfl, (hB3.alloc hB3.size _).trans (hb5.mono (by have := hB3.size; simp; omega))⟩
        | true =>
          have hi0 := (HI.out hr).1
          have hjl : j < R.length := by rw [HLR.out]; exact hjn
          have hf := HT.out.2 hr hjl
          rw [pick_f HT.out.1 hr] at hr3 ⊢
          rw [hf] at hr3 ⊢
          have HNEW := Lib.hid (met_new hr hi0 hjl)
          have HNEXT := Lib.hid (turn_next hr hi0 hjl)
          have HM := Lib.hid (metL_succ R i0 j)
          simp only [] at hr3 ⊢
          obtain rfl : 0 = n3 := hr3.len_int
          generalize R.getD (gix i0 R.length j) 0 = x at *
          have HR := Lib.hid hr
          clear hr hf hjl hi0
          have hlt3 := bs.lt
          go_wp2_with fail
          with_reducible refine (has_any _ _ _ _ (metL R i0 j) _ (ho.reads.alloc _)).mono ?_
          rintro e w4 ⟨rfl, rfl⟩
          rw [HNEW.out]
          go_wp2_with (at_builtin; go_must (refine wpList_app (.tmp 41) (.tmp 43) slTy rfl rfl (B := w.heap.size + 1) (A := MA) (n := j) (c := mc) (m := 1) (xs := (metL R i0 j).map (Value.int .i64)) (news := [x].map (Value.int .i64)) rfl ?c1 rfl (Src.ofReads Try.underlying23 ?c2 (ones_int [x] .i64)) ?c3 ?c4 ?c5 ?_))
          case c1 => exact (ho.below ((Below.refl _ _).alloc (Nat.le_refl _) _)).below ((Below.refl _ _).alloc (Nat.le_refl _) _)
          case c2 => simpa using Reads.new (w3.alloc (.cells #[.int .i64 1, .int .i64 x, .int .u64 0, .slice A3 0 c3] 25)) 3 #[.int .i64 x] 1 rfl (by omega)
          case c3 => omega
          case c4 => omega
          case c5 => simp; omega
          intro MA' mc' w5 ho5 hg5 ha5
          have hoa : ∀ g, own MA mc = some g → w.heap.size + 1 ≤ g ∧ g < w3.heap.size := fun g hg => ho.lt hg
          have bt : Blk w5 w3.heap.size 25 #[.int .i64 1, .int .i64 x, .int .u64 0, .slice A3 0 c3] := ((Blk.new w3 _ _).alloc _).grown hg5 (fun e => by have := hoa _ e; omega)
          replace bs := ((bs.alloc (.cells #[.int .i64 1, .int .i64 x, .int .u64 0, .slice A3 0 c3] 25)).alloc (.cells #[.int .i64 x] 3)).grown hg5 (fun e => by have := hoa _ e; omega)
          have hB5 : Below w.heap.size w w5 := Below.grown ((hB3.alloc hB3.size _).alloc (by have := hB3.size; simp; omega) _) hg5 (by have := hB3.size; simp; omega) (fun g e => by have := hoa _ e; omega)
          have hR5 : Reads w5 1 A2 n2 c2 (R.map (Value.int .i64)) := Reads.grown (B' := w.heap.size + 1) ((hR.alloc (.cells #[.int .i64 1, .int .i64 x, .int .u64 0, .slice A3 0 c3] 25)).alloc (.cells #[.int .i64 x] 3)) (fun hn' b off e => by have := HRB.out b off e hn'; omega) hg5 (fun g e => (hoa g e).1)
          have hc3 := hr3.2.1
          clear hoa hg5 ha5 ho hR hr3
          obtain ⟨s0, s1, s2, s3, sf⟩ := bs.c4
          obtain ⟨t0, t1, t2, t3, tf⟩ := bt.c4
          have hlt5 := bt.lt
          have hne : ¬ (w3.heap.size = w.heap.size) := by omega
          go_wp2
          go_roundw
          case rel =>
            refine ⟨j + 1, x, A3, c3, MA', mc', by go_num, by omega, rfl, ?_, hc3, ?_, ?_, ?_, HNEXT, fun _ => HR.out⟩
            · have := (((bs.set_ 0 (.int .i64 1)).set_ 1 (.int .i64 x)).set_ 2 (.int .u64 0)).set_ 3 (.slice A3 0 c3)
              simpa using this
            · have e : List.map (Value.int .i64) (metL R i0 (j + 1)) = List.map (Value.int .i64) (metL R i0 j) ++ [.int .i64 x] := by rw [HM.out]; simp
              rw [e]
              exact (((ho5.setCell (p := ⟨w.heap.size, 0, none⟩) _ (by simp)).setCell (p := ⟨w.heap.size, 1, none⟩) _ (by simp)).setCell (p := ⟨w.heap.size, 2, none⟩) _ (by simp)).setCell (p := ⟨w.heap.size, 3, none⟩) _ (by simp)
            · have H : 0 < n2 → ∀ b off, A2 = some ⟨b, off, none⟩ → b ≠ w.heap.size := fun hn' b off e => by have := HRB.out b off e hn'; omega
              exact (((hR5.setCell (p := ⟨w.heap.size, 0, none⟩) _ H).setCell (p := ⟨w.heap.size, 1, none⟩) _ H).setCell (p := ⟨w.heap.size, 2, none⟩) _ H).setCell (p := ⟨w.heap.size, 3, none⟩) _ H
            · exact (((hB5.setCell (Nat.le_refl _) _).setCell (Nat.le_refl _) _).setCell (Nat.le_refl _) _).setCell (Nat.le_refl _) _
          case measure => simp [intOf]; omega
      · obtain rfl : j = n2 := by omega
        clear s0 s1 s2 s3 sf bs
        go_wp2_with fail
        go_loopw [11] (fun i w6 => ∃ k : Nat, i = .int .i64 k ∧ k ≤ j ∧ w6 = wr) (fun i _ => j - (intOf i).toNat)
        case atStart => exact ⟨0, rfl, by omega, rfl⟩
        case round =>
          obtain ⟨k, rfl, hk, rfl⟩ := hrel
          by_cases hkj : k < j
          · obtain ⟨b, off, y, rfl, hb, hy, hcy⟩ := hR.ints hkj
            have hr := HJ.out (by omega)
            have hall := met_all (i0 := i0) (HI.out hr).1 (List.mem_of_getElem? hy.out)
            rw [HLR.out] at hall
            have HALL := Lib.hid hall
            clear hr hall
            go_wp2_with fail
            with_reducible refine (has_any _ _ _ _ (metL R i0 j) _ ho.reads).mono ?_
            rintro e w4 ⟨rfl, rfl⟩
            rw [HALL.out]
            go_wp2
            go_roundw
            case rel => exact ⟨k + 1, by go_num, by omega, by first | rfl | trivial⟩
            case measure => simp [intOf]; omega
          · go_wp2_with fail
            with_reducible refine (awake_any _).mono ?_
            rintro e w5 ⟨rfl, hb5⟩
            go_wp2
            go_ret
            exact ⟨rfl, hB.trans (hb5.mono hB.size)⟩
set_option maxRecDepth 100000 in
theorem schedFair_lifted (os : Os) (started : os.Started) (H : Type) (enc : TypeId × Value → H) :
    ReturnsInHanded {} Try.checked os 6 .any (Rows.schedFairSpec.pre6 enc Try.prog Try.f6 Rows.schedFairRow.domain false) (Rows.schedFairSpec.post enc Try.prog Try.f6 false true false false) := by
  refine law_lift (C := Try.checked) (tb := 4) knob started (by kernel_rfl) Try.func6 laidOut rfl Try.underlying4 rfl (by kernel_rfl) (fun ds hds => ?_)
    (ChangeSpec.witness6 (enc := enc) (C := Try.checked) false ⟨#[], #[.int .i64 0, .slice none 0 0], []⟩ 8 (by kernel_rfl) (by kernel_rfl) (by kernel_rfl) (by kernel_rfl)) ?_
  · match ds, hds with
    | [d1, d2], _ => rfl
  · intro W base args ds ps hval0 hA0
    have hval : ∀ (j : Nat) t v, Try.f6.params[j]? = some t → args[j]? = some v → Value.okWide Try.prog W .any base t v := hval0
    have hA : DataW.TrodAll enc Try.prog W 0 (fun _ => true) true Try.f6.params.toList args.toList ds ps := hA0
    rw [Try.params6] at hA hval
    obtain ⟨v0, vs0, d0, ds0, p0, q0, hargs, rfl, rfl, h0, r0⟩ := trodAll_cons hA
    obtain ⟨v1, vs1, d1, ds1, p1, q1, rfl, rfl, rfl, h1, r1⟩ := trodAll_cons r0
    obtain ⟨rfl, rfl, rfl⟩ := trodAll_nil r1
    obtain rfl : args = #[v0, v1] := by cases args; simp_all
    obtain ⟨t, rfl, rfl, rfl, wt⟩ := open_int Try.underlying3 (hval 0 3 v0 rfl rfl) h0
    obtain ⟨A2, n2, c2, R, rfl, hR⟩ := open_list (hval 1 23 v1 rfl rfl) h1
    exact schedFair_walk t A2 n2 c2 R W hR
theorem schedFair_holds : Rows.SchedFairSaid :=
  OpenClaim.holds_of_wide 6 Try.f6 rfl rfl rfl rfl rfl rfl rfl ⟨rfl, rfl, rfl, rfl, rfl⟩ rfl rfl rfl rfl rfl (by kernel_rfl) Try.func6 (by kernel_rfl)
    (of_decide_eq_true (by kernel_rfl)) (by unfold Func.isWrapper; first | (rw [if_pos (by decide +kernel)]; kernel_rfl) | (rw [if_neg (by decide +kernel)]; exact ⟨rfl, rfl⟩))
    (fun os started H enc _ => schedFair_lifted os started H enc)
#print axioms schedFair_holds
end Go.Proofs.Ytdjclejjabpdcaa
