/- SchedStays: the law returns true for every schedule, every list of ready processes and every byte, and its arguments read as before. No condition. -/
import Derived.Test.YtdjclejjabpdcaaSchedE
namespace Go.Proofs.Ytdjclejjabpdcaa
open Go.ChangeShapes Go.WideShapes Go.ChangeAt Go.RowKit
set_option linter.unusedVariables false
set_option linter.unusedSimpArgs false
theorem shortB_le {n n2 : Nat} (h : shortB n n2 = true) : n ≤ 300 ∧ n2 ≤ 100 := by simpa [shortB] using h
/-- What a pick of a valid schedule gives: an error and nothing, or a ready process and a valid schedule of the same kind. -/
theorem hasF_mem {R : List Int} {m : Int} : hasF R m = true ↔ m ∈ R := by
  induction R with
  | nil => simp [hasF]
  | cons a R ih =>
    simp only [hasF, Bool.or_eq_true, beq_iff_eq, ih, List.mem_cons]
    constructor
    · rintro (h | h)
      · exact .inl h.symm
      · exact .inr h
    · rintro (h | h)
      · exact .inl h.symm
      · exact .inr h
theorem fairGo_mem {t d : Int} {R : List Int} : fairGo t d R = d ∨ fairGo t d R ∈ R := by
  induction R with
  | nil => simp [fairGo]
  | cons a R ih =>
    simp only [fairGo]
    split
    · simp
    · rcases ih with h | h
      · exact .inl h
      · exact .inr (by simp [h])
theorem fairF_mem {t : Int} {R : List Int} (h : rightB R = true) : fairF t R ∈ R := by
  cases R with
  | nil => simp [rightB] at h
  | cons a R =>
    unfold fairF
    rcases fairGo_mem (t := t) (d := (a :: R).headD 0) (R := a :: R) with h | h
    · rw [h]; simp
    · exact h
theorem inc_pos {p : Int} {R : List Int} (h : incB p R = true) (hp : 1 ≤ p) : ∀ x ∈ R, 1 ≤ x := by
  induction R generalizing p with
  | nil => simp
  | cons a R ih =>
    simp [incB] at h
    intro x hx
    rcases List.mem_cons.1 hx with rfl | hx
    · omega
    · exact ih h.2 (by omega) x hx
theorem right_pos {R : List Int} (h : rightB R = true) : ∀ x ∈ R, 1 ≤ x := by
  cases R with
  | nil => simp
  | cons a R =>
    simp [rightB] at h
    intro x hx
    rcases List.mem_cons.1 hx with rfl | hx
    · exact h.1
    · exact inc_pos h.2 h.1 x hx
theorem getD_mem {R : List Int} {i : Nat} (h : i < R.length) : R.getD i 0 ∈ R := by
  simp [List.getD, List.getElem?_eq_getElem h]
theorem mod_lt {R : List Int} (h : rightB R = true) (x : Int) : (x % (R.length : Int)).toNat < R.length := by
  cases R with
  | nil => simp [rightB] at h
  | cons a R =>
    have hp : (0 : Int) < ((a :: R).length : Int) := by simp only [List.length_cons]; omega
    have h0 : (0 : Int) ≤ x % ((a :: R).length : Int) := Int.emod_nonneg _ (by omega)
    have h1 : x % ((a :: R).length : Int) < ((a :: R).length : Int) := Int.emod_lt_of_pos _ hp
    omega
theorem pick_stays (k t sd : Int) (L R : List Int) (hv : vErr k t L.length = 0) :
    (∃ er, er ≠ 0 ∧ pickF ⟨k, t, sd, L⟩ R = (0, Sch.zero, er)) ∨
    ∃ n sd' L', pickF ⟨k, t, sd, L⟩ R = (n, ⟨k, n, sd', L'⟩, 0) ∧ hasF R n = true ∧ vErr k n L'.length = 0 ∧ L'.length ≤ L.length := by
  have hk : ∀ n : Int, 1 ≤ n → ∀ m : Nat, m ≤ L.length → vErr k n m = 0 := by
    intro n hn m hm
    unfold vErr at hv ⊢
    split at hv
    · cases hv
    · split at hv
      · cases hv
      · rw [if_neg (by omega), if_neg (by omega)]
  cases hr : rightB R with
  | false => exact .inl ⟨1, by omega, pick_wrong hv hr⟩
  | true =>
    right
    have hpos := right_pos hr
    by_cases h2 : k = 2 ∧ 0 < L.length
    · obtain ⟨rfl, hl⟩ := h2
      simp only [pickF, hv, hr]
      rw [if_neg (by simp), if_neg (by simp), if_pos ⟨trivial, hl⟩]
      have hmem : (if 0 ≤ L.headD 0 then R.getD ((L.headD 0) % (R.length : Int)).toNat 0 else fairF t R) ∈ R := by
        split
        · exact getD_mem (mod_lt hr _)
        · exact fairF_mem hr
      exact ⟨_, _, _, rfl, hasF_mem.2 hmem, hk _ (hpos _ hmem) _ (by simp), by simp⟩
    · by_cases h3 : k = 3
      · subst h3
        simp only [pickF, hv, hr]
        rw [if_neg (by simp), if_neg (by simp), if_neg (by simp), if_pos trivial]
        have hmem := getD_mem (mod_lt hr (mixF (IntKind.u64.wrap (sd + 11400714819323198485))))
        exact ⟨_, _, _, rfl, hasF_mem.2 hmem, hk _ (hpos _ hmem) _ (Nat.le_refl _), Nat.le_refl _⟩
      · rw [pick_fair hv hr h2 h3]
        exact ⟨_, _, _, rfl, hasF_mem.2 (fairF_mem hr), hk _ (hpos _ (fairF_mem hr)) _ (Nat.le_refl _), Nat.le_refl _⟩
set_option maxHeartbeats 1000000 in
set_option maxRecDepth 100000 in
theorem schedStays_walk (k t sd : Int) (A : Option Addr) (n c : Nat) (L : List Int) (A2 : Option Addr) (n2 c2 : Nat) (R : List Int) (u : Int) (w : World)
    (hL : Reads w 1 A n c (L.map (Value.int .i64))) (hR : Reads w 1 A2 n2 c2 (R.map (Value.int .i64))) (hu : 0 ≤ u ∧ u ≤ 255) :
    Calls Try.prog 5 #[.agg #[.int .i64 k, .int .i64 t, .int .u64 sd, .slice A n c], .slice A2 n2 c2, .int .u8 u] w fun e w' => e = .returned (.bool true) ∧ Below w.heap.size w w' := by
  obtain ⟨hu0, hu1⟩ := hu
  have hR0 := hR
  go_enter Try.func5, Try.ntmps5
  go_wp2_with fail
  with_reducible refine (short_any _ _ _ _ _ _ _ _ _ _).mono ?_
  rintro e w1 ⟨rfl, hb1⟩
  have hB1 : Below w.heap.size w w1 := ((Below.refl _ _).alloc (Nat.le_refl _) _).trans (hb1.mono (by simp))
  have bs : Blk w1 w.heap.size 25 #[.int .i64 k, .int .i64 t, .int .u64 sd, .slice A n c] := (Blk.new w _ _).below hb1 (by simp)
  replace hL := hL.below hB1
  replace hR := hR.below hB1
  clear hb1
  obtain ⟨s0, s1, s2, s3, sf⟩ := bs.c4
  cases hs : shortB n n2 with
  | false =>
    clear hs
    go_wp2_with fail
    with_reducible refine (awake_any _).mono ?_
    rintro e w2 ⟨rfl, hb2⟩
    go_wp2
    go_ret
    exact ⟨rfl, hB1.trans (hb2.mono hB1.size)⟩
  | true =>
    obtain ⟨hn, hn2⟩ := shortB_le hs
    clear hs
    go_wp2_with fail
    with_reducible refine (rvalid_any _ _ _ _ _ _ _).mono ?_
    rintro e w2 ⟨rfl, hb2⟩
    have hB2 := hB1.trans (hb2.mono hB1.size)
    replace bs := bs.below hb2 bs.lt
    replace hL := hL.below hb2
    replace hR := hR.below hb2
    clear s0 s1 s2 s3 sf hB1 hb2
    by_cases hv : vErr k t n = 0
    · rw [hv]
      go_wp2_with fail
      have hRb : ∀ b off, A2 = some ⟨b, off, none⟩ → 0 < n2 → b < w.heap.size := fun b off e hn' => hR0.lt hn' e
      have HRB := Lib.hid hRb
      have HLEN := Lib.hid hL.len_int
      have HV := Lib.hid hv
      clear hRb hv hR0
      go_loopw [7] (fun i wr => ∃ (j : Nat) (t' sd' : Int) (A' : Option Addr) (c' : Nat) (L' : List Int), i = .int .i64 j ∧ j ≤ 50 ∧ Blk wr w.heap.size 25 #[.int .i64 k, .int .i64 t', .int .u64 sd', .slice A' L'.length c'] ∧ Reads wr 1 A' L'.length c' (L'.map (Value.int .i64)) ∧ Reads wr 1 A2 n2 c2 (R.map (Value.int .i64)) ∧ Below w.heap.size w wr ∧ Hid (vErr k t' L'.length = 0) ∧ L'.length ≤ 300) (fun i _ => 51 - (intOf i).toNat)
      case atStart => exact ⟨0, t, sd, A, c, L, rfl, by omega, by rw [HLEN.out]; exact bs, by rw [HLEN.out]; exact hL, hR, hB2, by rw [HLEN.out]; exact HV, by rw [HLEN.out]; exact hn⟩
      case round =>
        clear bs hL hR hB2 HV HLEN hn
        obtain ⟨j, t', sd', A', c', L', rfl, hj, bs, hL, hR, hB, HV, hn⟩ := hrel
        generalize hnl : L'.length = n' at *
        have HN := Lib.hid hnl
        clear hnl
        obtain ⟨s0, s1, s2, s3, sf⟩ := bs.c4
        have hlt := bs.lt
        by_cases hcond : (j : Int) < u ∧ j < 50
        · obtain ⟨q1, q2⟩ := hcond
          have q3 : (j : Int) < 50 := by omega
          go_wp2_with fail
          with_reducible refine (pick_any _ _ _ _ _ _ L' _ _ _ R _ hL hR (by omega)).mono ?_
          rintro e w3 ⟨A3, n3, c3, rfl, hr3, hb3, hfr⟩
          have hB3 := hB.trans (hb3.mono hB.size)
          replace bs := bs.below hb3 bs.lt
          replace hR := hR.below hb3
          clear hL s0 s1 s2 s3 sf hb3
          rcases pick_stays k t' sd' L' R (by rw [HN.out]; exact HV.out) with ⟨er, her, hp⟩ | ⟨pn, psd, pL, hp, hhas, hv', hle⟩
          · rw [hp] at hr3 ⊢
            simp only [Sch.zero] at hr3 ⊢
            obtain rfl : 0 = n3 := hr3.len_int
            have her' : (er != 0) = true := by simp [her]
            clear hp her
            have hlt3 := bs.lt
            go_wp2_with fail
            with_reducible refine (same_any _ _ _ _ _ _ [] _ _ _ _ _ _ [] _ (hr3.alloc _) (Reads.nil _ _)).mono ?_
            rintro e w4 ⟨rfl, hb4⟩
            have hB4 := (hB3.alloc hB3.size _).trans (hb4.mono (by have := hB3.size; simp; omega))
            rw [show sameF 0 0 0 [] 0 0 0 [] = true from by simp [sameF]]
            go_wp2_with fail
            with_reducible refine (awake_any _).mono ?_
            rintro e w5 ⟨rfl, hb5⟩
            go_wp2
            go_ret
            exact ⟨rfl, hB4.trans (hb5.mono hB4.size)⟩
          · rw [hp] at hr3 ⊢
            simp only [] at hr3 ⊢
            have HP := Lib.hid hp
            clear hp
            have hn3 : pL.length = n3 := hr3.len_int
            rw [HN.out, hn3] at hle
            rw [hn3] at hv'
            have HN3 := Lib.hid hn3
            have HV' := Lib.hid hv'
            have HH := Lib.hid hhas
            clear hn3 hv' hhas
            have hlt3 := bs.lt
            obtain ⟨s0, s1, s2, s3, sf⟩ := bs.c4
            have hle' : decide (n' < n3) = false := by simp; omega
            go_wp2_with fail
            with_reducible refine (has_any _ _ _ _ R _ (hR.alloc _)).mono ?_
            rintro e w4 ⟨rfl, rfl⟩
            rw [HH.out]
            go_wp2_with fail
            with_reducible refine (valid_any _ _ _ _ _ _ _).mono ?_
            rintro e w4 ⟨rfl, hb4⟩
            rw [HV'.out]
            have bt : Blk w4 w3.heap.size 25 #[.int .i64 k, .int .i64 pn, .int .u64 psd, .slice A3 n3 c3] := (Blk.new w3 _ _).below hb4 (by simp)
            replace bs := (bs.alloc _).below hb4 (by simp; omega)
            have hB4 : Below w.heap.size w w4 := (hB3.alloc hB3.size _).trans (hb4.mono (by have := hB3.size; simp; omega))
            replace hR := (hR.alloc _).below hb4
            replace hr3 := (hr3.alloc _).below hb4
            clear s0 s1 s2 s3 sf hb4
            obtain ⟨s0, s1, s2, s3, sf⟩ := bs.c4
            obtain ⟨t0, t1, t2, t3, tf⟩ := bt.c4
            have hlt4 := bt.lt
            go_wp2
            go_roundw
            case rel =>
              refine ⟨j + 1, pn, psd, A3, c3, pL, by go_num, by omega, ?_, ?_, ?_, ?_, by rw [HN3.out]; exact HV', by rw [HN3.out]; omega⟩
              · rw [HN3.out]
                have := (((bs.set_ 0 (.int .i64 k)).set_ 1 (.int .i64 pn)).set_ 2 (.int .u64 psd)).set_ 3 (.slice A3 n3 c3)
                simpa using this
              · rw [HN3.out]
                have H : 0 < n3 → ∀ b off, A3 = some ⟨b, off, none⟩ → b ≠ w.heap.size := fun hn' b off e => by have := hfr hn' b off e; omega
                exact (((hr3.setCell (p := ⟨w.heap.size, 0, none⟩) _ H).setCell (p := ⟨w.heap.size, 1, none⟩) _ H).setCell (p := ⟨w.heap.size, 2, none⟩) _ H).setCell (p := ⟨w.heap.size, 3, none⟩) _ H
              · have H : 0 < n2 → ∀ b off, A2 = some ⟨b, off, none⟩ → b ≠ w.heap.size := fun hn' b off e => by have := HRB.out b off e hn'; omega
                exact (((hR.setCell (p := ⟨w.heap.size, 0, none⟩) _ H).setCell (p := ⟨w.heap.size, 1, none⟩) _ H).setCell (p := ⟨w.heap.size, 2, none⟩) _ H).setCell (p := ⟨w.heap.size, 3, none⟩) _ H
              · exact (((hB4.setCell (Nat.le_refl _) _).setCell (Nat.le_refl _) _).setCell (Nat.le_refl _) _).setCell (Nat.le_refl _) _
            case measure => simp [intOf]; omega
        · go_wp2_with fail
          all_goals first
            | (with_reducible refine (awake_any _).mono ?_
               rintro e w5 ⟨rfl, hb5⟩
               go_wp2
               go_ret
               exact ⟨rfl, hB.trans (hb5.mono hB.size)⟩)
            | (exfalso; omega)
    · have hv' : (vErr k t n != 0) = true := by simp [hv]
      clear hv
      go_wp2_with fail
      with_reducible refine (awake_any _).mono ?_
      rintro e w3 ⟨rfl, hb3⟩
      go_wp2
      go_ret
      exact ⟨rfl, hB2.trans (hb3.mono hB2.size)⟩
set_option maxRecDepth 100000 in
theorem schedStays_lifted (os : Os) (started : os.Started) (H : Type) (enc : TypeId × Value → H) :
    ReturnsInHanded {} Try.checked os 5 .any (Rows.schedStaysSpec.pre6 enc Try.prog Try.f5 Rows.schedStaysRow.domain false) (Rows.schedStaysSpec.post enc Try.prog Try.f5 false true false false) := by
  refine law_lift (C := Try.checked) (tb := 4) knob started (by kernel_rfl) Try.func5 laidOut rfl Try.underlying4 rfl (by kernel_rfl) (fun ds hds => ?_)
    (ChangeSpec.witness6 (enc := enc) (C := Try.checked) false ⟨#[], #[.agg #[.int .i64 0, .int .i64 0, .int .u64 0, .slice none 0 0], .slice none 0 0, .int .u8 0], []⟩ 8 (by kernel_rfl) (by kernel_rfl) (by kernel_rfl) (by kernel_rfl)) ?_
  · match ds, hds with
    | [d1, d2, d3], _ => rfl
  · intro W base args ds ps hval0 hA0
    have hval : ∀ (j : Nat) t v, Try.f5.params[j]? = some t → args[j]? = some v → Value.okWide Try.prog W .any base t v := hval0
    have hA : DataW.TrodAll enc Try.prog W 0 (fun _ => true) true Try.f5.params.toList args.toList ds ps := hA0
    rw [Try.params5] at hA hval
    obtain ⟨v0, vs0, d0, ds0, p0, q0, hargs, rfl, rfl, h0, r0⟩ := trodAll_cons hA
    obtain ⟨v1, vs1, d1, ds1, p1, q1, rfl, rfl, rfl, h1, r1⟩ := trodAll_cons r0
    obtain ⟨v2, vs2, d2, ds2, p2, q2, rfl, rfl, rfl, h2, r2⟩ := trodAll_cons r1
    obtain ⟨rfl, rfl, rfl⟩ := trodAll_nil r2
    obtain rfl : args = #[v0, v1, v2] := by cases args; simp_all
    obtain ⟨k, t, sd, A, n, c, L, rfl, hL⟩ := open_sched (hval 0 25 v0 rfl rfl) h0
    obtain ⟨A2, n2, c2, R, rfl, hR⟩ := open_list (hval 1 23 v1 rfl rfl) h1
    obtain ⟨u, rfl, rfl, rfl, wu⟩ := open_int Try.underlying5 (hval 2 5 v2 rfl rfl) h2
    exact schedStays_walk k t sd A n c L A2 n2 c2 R u W hL hR (bounds_u8 wu)
theorem schedStays_holds : Rows.SchedStaysSaid :=
  OpenClaim.holds_of_wide 5 Try.f5 rfl rfl rfl rfl rfl rfl rfl ⟨rfl, rfl, rfl, rfl, rfl⟩ rfl rfl rfl rfl rfl (by kernel_rfl) Try.func5 (by kernel_rfl)
    (of_decide_eq_true (by kernel_rfl)) (by unfold Func.isWrapper; first | (rw [if_pos (by decide +kernel)]; kernel_rfl) | (rw [if_neg (by decide +kernel)]; exact ⟨rfl, rfl⟩))
    (fun os started H enc _ => schedStays_lifted os started H enc)
#print axioms schedStays_holds
end Go.Proofs.Ytdjclejjabpdcaa
