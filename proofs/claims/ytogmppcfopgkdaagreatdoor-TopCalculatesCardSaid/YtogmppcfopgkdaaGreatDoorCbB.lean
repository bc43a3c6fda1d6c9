/- Arithmetic evaluation: what it computes. No program is named here. -/
import Derived.Test.YtogmppcfopgkdaaGreatDoorCaD
import Derived.Test.YtogmppcfopgkdaaGreatDoorBit
import Derived.Test.YtogmppcfopgkdaaGreatDoorMap
import Derived.Test.YtogmppcfopgkdaaGreatDoorCaE
namespace Go.Proofs.YtogmppcfopgkdaaGreatDoor
open Go.RowKit
set_option linter.unusedVariables false
set_option linter.unusedSimpArgs false
/-- The value of a hexadecimal digit, and 16 for other bytes. -/
def dgC (c : UInt8) : Int := if 48 ≤ c.toNat ∧ c.toNat ≤ 57 then (c.toNat : Int) - 48 else if 97 ≤ c.toNat ∧ c.toNat ≤ 102 then (c.toNat : Int) - 87 else if 65 ≤ c.toNat ∧ c.toNat ≤ 70 then (c.toNat : Int) - 55 else 16
theorem dgC_lt (c : UInt8) : 0 ≤ dgC c ∧ dgC c ≤ 16 := by unfold dgC; split <;> (try split) <;> (try split) <;> omega
/-- The digits of a constant of at most 2^63. -/
def mgL (base : Int) : List UInt8 → Int → Bool → Int × Int
  | [], n, large => if large = true then (0, 14) else (n, 0)
  | c :: r, n, large => if base ≤ dgC c then (0, 6) else if large = true ∨ (9223372036854775808 - dgC c) / base < n then mgL base r n true else mgL base r (n * base + dgC c) false
def magF (s : List UInt8) : Int × Int :=
  if [48, 120].isPrefixOf s = true ∨ [48, 88].isPrefixOf s = true then (if s.drop 2 = [] then (0, 6) else mgL 16 (s.drop 2) 0 false)
  else if [48].isPrefixOf s = true then mgL 8 s 0 false else if s = [] then (0, 6) else mgL 10 s 0 false
theorem mgL_ok (base : Int) (hb : 0 < base) (h16 : base ≤ 16) : ∀ (l : List UInt8) (n : Int) (large : Bool), 0 ≤ n → n ≤ 9223372036854775808 → 0 ≤ (mgL base l n large).1 ∧ (mgL base l n large).1 ≤ 9223372036854775808
  | [], n, large, h0, h1 => by simp only [mgL]; split <;> simp <;> omega
  | c :: r, n, large, h0, h1 => by
    have hd := dgC_lt c
    simp only [mgL]
    split
    · simp
    · next hc =>
      split
      · exact mgL_ok base hb h16 r n true h0 h1
      · next hl =>
        have h2 : n ≤ (9223372036854775808 - dgC c) / base := by
          rcases Classical.em ((9223372036854775808 - dgC c) / base < n) with h | h
          · exact absurd (.inr h) hl
          · omega
        have h3 : n * base ≤ 9223372036854775808 - dgC c := Int.le_trans (Int.mul_le_mul_of_nonneg_right h2 (by omega)) (Int.ediv_mul_le _ (by omega))
        have h4 : 0 ≤ n * base := Int.mul_nonneg h0 (by omega)
        exact mgL_ok base hb h16 r _ false (by omega) (by omega)
theorem magF_ok (s : List UInt8) : 0 ≤ (magF s).1 ∧ (magF s).1 ≤ 9223372036854775808 := by
  unfold magF
  split
  · split
    · simp
    · exact mgL_ok 16 (by decide) (by decide) _ 0 false (by omega) (by omega)
  · split
    · exact mgL_ok 8 (by decide) (by decide) _ 0 false (by omega) (by omega)
    · split
      · simp
      · exact mgL_ok 10 (by decide) (by decide) _ 0 false (by omega) (by omega)
/-- The integer value of a string. -/
def intF : List UInt8 → Int × Bool
  | [] => (0, true)
  | c :: r =>
    if c.toNat = 45 then (if (magF r).2 = 0 then (-(magF r).1, true) else (0, false))
    else if c.toNat = 43 then (if (magF r).2 = 0 ∧ (magF r).1 ≠ 9223372036854775808 then ((magF r).1, true) else (0, false))
    else (if (magF (c :: r)).2 = 0 ∧ (magF (c :: r)).1 ≠ 9223372036854775808 then ((magF (c :: r)).1, true) else (0, false))
theorem intF_ok (s : List UInt8) : I64 (intF s).1 := by
  unfold I64
  cases s with
  | nil => simp [intF]
  | cons c r =>
    have h1 := magF_ok r
    have h2 := magF_ok (c :: r)
    simp only [intF]
    split
    · split <;> simp <;> omega
    split
    · split
      · simp only; omega
      · simp
    · split
      · simp only; omega
      · simp
def trI (b : Bool) : Int := if b = true then 1 else 0
def unF (op a : Int) : Int := if op = 3 then IntKind.i64.wrap (0 - a) else if op = 5 then trI (decide (a = 0)) else if op = 6 then xorW (-1) a else a
def cmF (op a b : Int) : Bool := if op = 14 then decide (a < b) else if op = 15 then decide (b < a) else if op = 16 then decide (a ≤ b) else if op = 17 then decide (b ≤ a) else if op = 18 then decide (a = b) else !decide (a = b)
def binF (op a b : Int) : Int × Int :=
  if op = 7 then (IntKind.i64.wrap (a * b), 0)
  else if op = 8 then (if b = 0 then (0, 13) else (IntKind.i64.wrap (a.tdiv b), 0))
  else if op = 9 then (if b = 0 then (0, 13) else (a.tmod b, 0))
  else if op = 10 then (IntKind.i64.wrap (a + b), 0)
  else if op = 11 then (IntKind.i64.wrap (a - b), 0)
  else if op = 12 then (shlW a b, 0)
  else if op = 13 then (shrW a b, 0)
  else if op = 20 then (andW a b, 0)
  else if op = 21 then (xorW a b, 0)
  else if op = 22 then (orW a b, 0)
  else if op = 23 then (trI (!decide (a = 0) && !decide (b = 0)), 0)
  else if op = 24 then (trI (!decide (a = 0) || !decide (b = 0)), 0)
  else (trI (cmF op a b), 0)
theorem I64_0 : I64 0 := ⟨by decide, by decide⟩
theorem I64_1 : I64 1 := ⟨by decide, by decide⟩
theorem I64_ite {c : Prop} [Decidable c] {x y : Int × Int} (hx : I64 x.1) (hy : I64 y.1) : I64 (if c then x else y).1 := by
  split <;> assumption
theorem trI_ok (b : Bool) : I64 (trI b) := by
  cases b
  · exact I64_0
  · exact I64_1
theorem unF_ok (op : Int) {a : Int} (h : I64 a) : I64 (unF op a) := by
  unfold unF
  split
  · exact I64_wrap _
  split
  · exact trI_ok _
  split
  · exact I64_wrap _
  · exact h
theorem I64_rem {a : Int} (b : Int) (h : I64 a) : I64 (a.tmod b) := by
  have h5 : ∀ c : Int, (c.tmod b).natAbs ≤ c.natAbs := fun c => by rw [Int.natAbs_tmod]; exact Nat.mod_le _ _
  have h6 := h5 a
  obtain ⟨h3, h4⟩ := h
  rcases Int.lt_or_le a 0 with h0 | h0
  · have h7 := Int.tmod_nonneg (a := -a) b (by omega)
    rw [Int.neg_tmod] at h7
    exact ⟨by omega, by omega⟩
  · have h7 := Int.tmod_nonneg (a := a) b h0
    exact ⟨by omega, by omega⟩
theorem binF_ok (op : Int) {a b : Int} (ha : I64 a) : I64 (binF op a b).1 := by
  unfold binF
  repeat' apply I64_ite
  all_goals first | exact I64_wrap _ | exact I64_rem _ ha | exact trI_ok _ | exact I64_shr _ ha | exact I64_0
/-! ### The value of a tree, and the variables behind it -/
def vrF (nm : List UInt8) (m : Mp) : Int × Int := if (intF (getM m nm)).2 = true then ((intF (getM m nm)).1, 0) else (0, 1)
/-- What an assignment makes of the value n. -/
def asF (N : Int) (nm : List UInt8) (n : Int) (m : Mp) : Int × Int :=
  if N = 0 then (n, 0) else if (vrF nm m).2 ≠ 0 then (0, (vrF nm m).2) else if (binF N (vrF nm m).1 n).2 ≠ 0 then (0, (binF N (vrF nm m).1 n).2) else ((binF N (vrF nm m).1 n).1, 0)
def evE (nu : Int → List UInt8) : Nat → Ex → Mp → (Int × Int) × Mp
  | 0, _, m => ((0, 0), m)
  | k + 1, .mk op N nm ks, m =>
    if op = 1 then ((N, 0), m)
    else if op = 2 then (vrF nm m, m)
    else match ks with
      | [] => ((0, 0), m)
      | a :: r =>
        match evE nu k a m with
        | ((x, e), m1) => if e ≠ 0 then ((0, e), m1)
          else if op = 26 then (if (asF N nm x m1).2 ≠ 0 then ((0, (asF N nm x m1).2), m1) else (((asF N nm x m1).1, 0), putM nm (nu (asF N nm x m1).1) m1))
          else if 3 ≤ op ∧ op ≤ 6 then ((unF op x, 0), m1)
          else match r with
            | [] => ((0, 0), m1)
            | y :: r2 =>
              if op = 25 then (if x ≠ 0 then evE nu k y m1 else match r2 with
                | [] => ((0, 0), m1)
                | z :: _ => evE nu k z m1)
              else if op = 23 ∧ x = 0 then ((0, 0), m1)
              else if op = 24 ∧ x ≠ 0 then ((1, 0), m1)
              else match evE nu k y m1 with
                | ((u, e2), m2) => if e2 ≠ 0 then ((0, e2), m2) else (binF op x u, m2)
mutual
/-- The depth of a tree. -/
def dpE : Ex → Nat
  | .mk _ _ _ ks => dpEs ks + 1
def dpEs : List Ex → Nat
  | [] => 0
  | e :: r => max (dpE e) (dpEs r)
end
theorem vrF_ok (nm : List UInt8) (m : Mp) : I64 (vrF nm m).1 := by
  unfold vrF
  split
  · exact intF_ok _
  · exact I64_0
theorem asF_ok (N : Int) (nm : List UInt8) {n : Int} (hn : I64 n) (m : Mp) : I64 (asF N nm n m).1 := by
  unfold asF
  split
  · exact hn
  split
  · exact I64_0
  split
  · exact I64_0
  · exact binF_ok _ (vrF_ok _ _)
theorem I64_of {n : Int} (h0 : 0 ≤ n) (h1 : n ≤ 9223372036854775807) : I64 n := ⟨by omega, h1⟩
end Go.Proofs.YtogmppcfopgkdaaGreatDoor
/- Arithmetic evaluation: small functions, on the abstract machine. -/
namespace Go.Proofs.YtogmppcfopgkdaaGreatDoor
open Go.RowKit
set_option linter.unusedVariables false
set_option linter.unusedSimpArgs false
set_option maxRecDepth 100000
set_option maxHeartbeats 8000000
abbrev a64 (n : Int) : AV := .v (.int .u64 n)
theorem cnvU8U64 {n : Int} (h0 : 0 ≤ n) (h1 : n ≤ 255) : cnv Tryz.prog 5 254 (.int .u8 n) = some (.int .u64 n) := by
  rw [cnv_int (k := .u64) .u8 n (by kernel_rfl) (by kernel_rfl), wrapU64 h0 (by omega)]
theorem cnvU64I (n : Int) : cnv Tryz.prog 254 3 (.int .u64 n) = some (.int .i64 (IntKind.i64.wrap n)) := by
  rw [cnv_int (k := .i64) .u64 n (by kernel_rfl) (by kernel_rfl)]
attribute [go_sem] cnvU8U64 cnvU64I
theorem wrap_neg {n : Int} (h0 : 0 ≤ n) (h1 : n ≤ 9223372036854775808) : IntKind.i64.wrap (IntKind.u64.wrap (0 - n)) = -n := by
  rw [IntKind.wrap_i64]
  simp [IntKind.wrap, IntKind.signed, IntKind.bits]
  omega
theorem cdigit_ab (c : UInt8) : Ab Tryz.prog 199 [au c] (a64 (dgC c)) := by
  have hc := c.toNat_lt
  generalize hd : dgC c = d
  unfold dgC at hd
  by_cases h1 : 48 ≤ c.toNat ∧ c.toNat ≤ 57
  · rw [if_pos h1] at hd
    subst hd
    refine Fn_of_aw (keep := []) Tryz.func199 rfl rfl (by simp [Tryz.ntmps199]) ?_
    simp only [num_cons, num_nil, Tryz.ntmps199, Tryz.results199]
    exact wkB
  rw [if_neg h1] at hd
  by_cases h2 : 97 ≤ c.toNat ∧ c.toNat ≤ 102
  · rw [if_pos h2] at hd
    obtain rfl : (c.toNat : Int) - 97 + 10 = d := by omega
    clear hd
    refine Fn_of_aw (keep := []) Tryz.func199 rfl rfl (by simp [Tryz.ntmps199]) ?_
    simp only [num_cons, num_nil, Tryz.ntmps199, Tryz.results199]
    exact wkB
  rw [if_neg h2] at hd
  by_cases h3 : 65 ≤ c.toNat ∧ c.toNat ≤ 70
  · rw [if_pos h3] at hd
    obtain rfl : (c.toNat : Int) - 65 + 10 = d := by omega
    clear hd
    refine Fn_of_aw (keep := []) Tryz.func199 rfl rfl (by simp [Tryz.ntmps199]) ?_
    simp only [num_cons, num_nil, Tryz.ntmps199, Tryz.results199]
    exact wkB
  · rw [if_neg h3] at hd
    subst hd
    refine Fn_of_aw (keep := []) Tryz.func199 rfl rfl (by simp [Tryz.ntmps199]) ?_
    simp only [num_cons, num_nil, Tryz.ntmps199, Tryz.results199]
    exact wkB
theorem magnitude_ab (s : List UInt8) (hl : s.length ≤ 1000000) : Ab Tryz.prog 148 [az s] (.tp [a64 (magF s).1, ai (magF s).2]) := by
  have c1 := hasPrefix_ab s [48, 120]
  have c2 := hasPrefix_ab s [48, 88]
  have c3 := hasPrefix_ab s [48]
  generalize hR : magF s = R
  unfold magF at hR
  by_cases hx : [48, 120].isPrefixOf s = true ∨ [48, 88].isPrefixOf s = true
  · have h2 : 2 ≤ s.length := by
      rcases hx with h | h <;> · have := (List.isPrefixOf_iff_prefix.1 h).length_le; simpa using this
    rw [if_pos hx] at hR
    have hdl : (s.drop 2).length = s.length - 2 := List.length_drop
    by_cases he : s.drop 2 = []
    · rw [if_pos he] at hR
      have hel : s.length = 2 := by rw [he] at hdl; simp at hdl; omega
      subst hR
      rcases hx with h | h
      · rw [h] at c1
        refine Fn_of_aw (keep := []) Tryz.func148 rfl rfl (by simp [Tryz.ntmps148]) ?_
        simp only [num_cons, num_nil, Tryz.ntmps148, Tryz.results148]
        exact wkA
      · rw [h] at c2
        cases h1 : [48, 120].isPrefixOf s <;> rw [h1] at c1
        · skip
          refine Fn_of_aw (keep := []) Tryz.func148 rfl rfl (by simp [Tryz.ntmps148]) ?_
          simp only [num_cons, num_nil, Tryz.ntmps148, Tryz.results148]
          exact wkA
        · skip
          refine Fn_of_aw (keep := []) Tryz.func148 rfl rfl (by simp [Tryz.ntmps148]) ?_
          simp only [num_cons, num_nil, Tryz.ntmps148, Tryz.results148]
          exact wkA
    · rw [if_neg he] at hR
      have hel : ¬ (s.drop 2).length = 0 := fun h => he (List.length_eq_zero_iff.1 h)
      rcases hx with h | h
      · rw [h] at c1
        refine Fn_of_aw (keep := []) Tryz.func148 rfl rfl (by simp [Tryz.ntmps148]) ?_
        simp only [num_cons, num_nil, Tryz.ntmps148, Tryz.results148]
        exact wq12
      · rw [h] at c2
        cases h1 : [48, 120].isPrefixOf s with
        | true =>
          rw [h1] at c1
          refine Fn_of_aw (keep := []) Tryz.func148 rfl rfl (by simp [Tryz.ntmps148]) ?_
          simp only [num_cons, num_nil, Tryz.ntmps148, Tryz.results148]
          exact wq12
        | false =>
          rw [h1] at c1
          refine Fn_of_aw (keep := []) Tryz.func148 rfl rfl (by simp [Tryz.ntmps148]) ?_
          simp only [num_cons, num_nil, Tryz.ntmps148, Tryz.results148]
          exact wq12
  · rw [if_neg hx] at hR
    have e1 : [48, 120].isPrefixOf s = false := by cases h : [48, 120].isPrefixOf s <;> simp_all
    have e2 : [48, 88].isPrefixOf s = false := by cases h : [48, 88].isPrefixOf s <;> simp_all
    rw [e1] at c1
    rw [e2] at c2
    by_cases h8 : [48].isPrefixOf s = true
    · rw [if_pos h8] at hR
      rw [h8] at c3
      have hne : ¬ s.length = 0 := by have := (List.isPrefixOf_iff_prefix.1 h8).length_le; simp only [List.length_cons, List.length_nil] at this; omega
      refine Fn_of_aw (keep := []) Tryz.func148 rfl rfl (by simp [Tryz.ntmps148]) ?_
      simp only [num_cons, num_nil, Tryz.ntmps148, Tryz.results148]
      repeat' (first
 | ((with_reducible apply awO_ev); (· rfl); (· exact sv))
 | ((with_reducible apply aw_seq); intro _ _)
 | (with_reducible apply aw_region)
 | (with_reducible apply aw_block)
 | ((with_reducible first | apply awO_nil | apply aw_exit | apply aw_skip | apply aw_ret); (try simp only [CT, ↓reduceIte, Nat.reduceEqDiff]))
 | ((with_reducible apply awO_y); (· rfl); (· rfl); (· decide); (· exact sv); (· exact sv))
 | ((with_reducible apply aw_cond_true); (· exact sv))
 | ((with_reducible apply aw_cond_false); (· exact sv))
 | ((with_reducible apply awO_un); (· rfl); (· decide); (· exact sv))
 | (refine Kont.go ‹Kont _ _ _ _› _ ?_)
 | ((with_reducible apply awO_c); (· rfl); (· rfl); (· exact sv); (· (first | exact c1 | exact c2 | exact c3)); (· rfl); (· rfl); (· rfl); (· decide))
 | ((first | ((with_reducible apply awO_guardN); (· rfl); (· rfl); (· exact sv); (· exact nB)) | ((with_reducible apply aw_condN); (· exact sv))); (· exact pN); (· exact pN); all_goals (intro hg; try (exfalso; omega))))
      refine aw_loopF (fun x : Nat × Int × Bool => [(8, ai x.1), (6, a64 x.2.1), (7, ab x.2.2)]) (fun _ => []) (fun x => x.1 ≤ (s).length ∧ 0 ≤ x.2.1 ∧ x.2.1 ≤ 9223372036854775808 ∧ mgL 8 ((s).drop x.1) x.2.1 x.2.2 = R) (fun x => (s).length - x.1) (0, 0, false) ⟨Nat.zero_le _, by decide, by decide, hR⟩ ?_ ?_ ?_
      · exact ⟨rfl, rfl, rfl, trivial⟩
      · trivial
      rintro ⟨i, n, large⟩ ⟨hi, hn0, hn1, hI⟩
      simp only at hi hn0 hn1 hI
      clear hR
      (simp only [LP, List.append_assoc, List.nil_append, List.cons_append, List.append_nil, List.contains_cons, List.contains_nil, Nat.reduceBEq, Bool.or_false, Bool.or_true, Bool.true_or, Bool.false_or, ↓reduceIte, Bool.false_eq_true])
      by_cases hil : i < (s).length
      rotate_left
      · rw [List.drop_eq_nil_of_le (by omega)] at hI
        cases large with
        | true =>
          have hI : (0, 14) = R := hI
          subst hI
          exact wkA
        | false =>
          have hI : (n, 0) = R := hI
          subst hI
          exact wkA
      have hlt : i < (s).length := hil
      rw [List.drop_eq_getElem_cons hlt, mgL] at hI
      have hd := dgC_lt (s)[i]
      have c4 := cdigit_ab (s)[i]
      generalize hg : dgC (s)[i] = d at *
      by_cases hc : 8 ≤ d
      · rw [if_pos hc] at hI
        subst hI
        exact wkA
      rw [if_neg hc] at hI
      have hq : (9223372036854775808 - d) / 8 = (9223372036854775808 - d).tdiv 8 := by
        rw [Int.tdiv_eq_ediv_of_nonneg (by omega)]
      have hq2 : (9223372036854775808 - d) / 8 ≤ 9223372036854775808 := by omega
      cases large with
      | true =>
        rw [if_pos (.inl rfl)] at hI
        exact wq13
      | false =>
        by_cases hl2 : (9223372036854775808 - d) / 8 < n
        · rw [if_pos (.inr hl2)] at hI
          exact wq13
        · rw [if_neg (by simpa using hl2)] at hI
          have hb1 : n * 8 + d ≤ 9223372036854775808 := by omega
          repeat' (first
 | ((with_reducible apply awO_ev); (· rfl); (· exact sv))
 | ((with_reducible apply aw_seq); intro _ _)
 | (with_reducible apply aw_region)
 | (with_reducible apply aw_block)
 | ((with_reducible first | apply awO_nil | apply aw_exit | apply aw_skip | apply aw_ret); (try simp only [CT, ↓reduceIte, Nat.reduceEqDiff]))
 | ((with_reducible apply awO_y); (· rfl); (· rfl); (· decide); (· exact sv); (· exact sv))
 | (refine Kont.go ‹Kont _ _ _ _› _ ?_)
 | ((with_reducible apply awO_c); (· rfl); (· rfl); (· exact sv); (· (first | exact c4)); (· rfl); (· rfl); (· rfl); (· decide))
 | ((first | ((with_reducible apply awO_guardN); (· rfl); (· rfl); (· exact sv); (· exact nB)) | ((with_reducible apply aw_condN); (· exact sv))); (· exact pN); (· exact pN); all_goals (intro hg; try (exfalso; omega))))
          all_goals
            refine LE_mk ((i + 1, n * 8 + d, false)) ?_ ?_ sN sN sN
            · exact ⟨hlt, by show 0 ≤ n * 8 + d; omega, hb1, hI⟩
            · show _ - (i + 1) < _ - i
              omega
    rw [if_neg h8] at hR
    rw [Bool.eq_false_iff.2 h8] at c3
    by_cases h0 : s = []
    · rw [if_pos h0] at hR
      subst h0 hR
      refine Fn_of_aw (keep := []) Tryz.func148 rfl rfl (by simp [Tryz.ntmps148]) ?_
      simp only [num_cons, num_nil, Tryz.ntmps148, Tryz.results148]
      exact wkA
    · rw [if_neg h0] at hR
      have hne : ¬ s.length = 0 := fun h => h0 (List.length_eq_zero_iff.1 h)
      refine Fn_of_aw (keep := []) Tryz.func148 rfl rfl (by simp [Tryz.ntmps148]) ?_
      simp only [num_cons, num_nil, Tryz.ntmps148, Tryz.results148]
      repeat' (first
 | ((with_reducible apply awO_ev); (· rfl); (· exact sv))
 | ((with_reducible apply aw_seq); intro _ _)
 | (with_reducible apply aw_region)
 | (with_reducible apply aw_block)
 | ((with_reducible first | apply awO_nil | apply aw_exit | apply aw_skip | apply aw_ret); (try simp only [CT, ↓reduceIte, Nat.reduceEqDiff]))
 | ((with_reducible apply awO_y); (· rfl); (· rfl); (· decide); (· exact sv); (· exact sv))
 | ((with_reducible apply aw_cond_false); (· exact sv))
 | ((with_reducible apply awO_un); (· rfl); (· decide); (· exact sv))
 | (refine Kont.go ‹Kont _ _ _ _› _ ?_)
 | ((with_reducible apply awO_c); (· rfl); (· rfl); (· exact sv); (· (first | exact c1 | exact c2 | exact c3)); (· rfl); (· rfl); (· rfl); (· decide))
 | ((first | ((with_reducible apply awO_guardN); (· rfl); (· rfl); (· exact sv); (· exact nB)) | ((with_reducible apply aw_condN); (· exact sv))); (· exact pN); (· exact pN); all_goals (intro hg; try (exfalso; omega))))
      refine aw_loopF (fun x : Nat × Int × Bool => [(8, ai x.1), (6, a64 x.2.1), (7, ab x.2.2)]) (fun _ => []) (fun x => x.1 ≤ (s).length ∧ 0 ≤ x.2.1 ∧ x.2.1 ≤ 9223372036854775808 ∧ mgL 10 ((s).drop x.1) x.2.1 x.2.2 = R) (fun x => (s).length - x.1) (0, 0, false) ⟨Nat.zero_le _, by decide, by decide, hR⟩ ?_ ?_ ?_
      · exact ⟨rfl, rfl, rfl, trivial⟩
      · trivial
      rintro ⟨i, n, large⟩ ⟨hi, hn0, hn1, hI⟩
      simp only at hi hn0 hn1 hI
      clear hR
      (simp only [LP, List.append_assoc, List.nil_append, List.cons_append, List.append_nil, List.contains_cons, List.contains_nil, Nat.reduceBEq, Bool.or_false, Bool.or_true, Bool.true_or, Bool.false_or, ↓reduceIte, Bool.false_eq_true])
      by_cases hil : i < (s).length
      rotate_left
      · rw [List.drop_eq_nil_of_le (by omega)] at hI
        cases large with
        | true =>
          have hI : (0, 14) = R := hI
          subst hI
          exact wkA
        | false =>
          have hI : (n, 0) = R := hI
          subst hI
          exact wkA
      have hlt : i < (s).length := hil
      rw [List.drop_eq_getElem_cons hlt, mgL] at hI
      have hd := dgC_lt (s)[i]
      have c4 := cdigit_ab (s)[i]
      generalize hg : dgC (s)[i] = d at *
      by_cases hc : 10 ≤ d
      · rw [if_pos hc] at hI
        subst hI
        exact wkA
      rw [if_neg hc] at hI
      have hq : (9223372036854775808 - d) / 10 = (9223372036854775808 - d).tdiv 10 := by
        rw [Int.tdiv_eq_ediv_of_nonneg (by omega)]
      have hq2 : (9223372036854775808 - d) / 10 ≤ 9223372036854775808 := by omega
      cases large with
      | true =>
        rw [if_pos (.inl rfl)] at hI
        exact wq13
      | false =>
        by_cases hl2 : (9223372036854775808 - d) / 10 < n
        · rw [if_pos (.inr hl2)] at hI
          exact wq13
        · rw [if_neg (by simpa using hl2)] at hI
          have hb1 : n * 10 + d ≤ 9223372036854775808 := by omega
          repeat' (first
 | ((with_reducible apply awO_ev); (· rfl); (· exact sv))
 | ((with_reducible apply aw_seq); intro _ _)
 | (with_reducible apply aw_region)
 | (with_reducible apply aw_block)
 | ((with_reducible first | apply awO_nil | apply aw_exit | apply aw_skip | apply aw_ret); (try simp only [CT, ↓reduceIte, Nat.reduceEqDiff]))
 | ((with_reducible apply awO_y); (· rfl); (· rfl); (· decide); (· exact sv); (· exact sv))
 | (refine Kont.go ‹Kont _ _ _ _› _ ?_)
 | ((with_reducible apply awO_c); (· rfl); (· rfl); (· exact sv); (· (first | exact c4)); (· rfl); (· rfl); (· rfl); (· decide))
 | ((first | ((with_reducible apply awO_guardN); (· rfl); (· rfl); (· exact sv); (· exact nB)) | ((with_reducible apply aw_condN); (· exact sv))); (· exact pN); (· exact pN); all_goals (intro hg; try (exfalso; omega))))
          all_goals
            refine LE_mk ((i + 1, n * 10 + d, false)) ?_ ?_ sN sN sN
            · exact ⟨hlt, by show 0 ≤ n * 10 + d; omega, hb1, hI⟩
            · show _ - (i + 1) < _ - i
              omega
theorem integer_ab (s : List UInt8) (hl : s.length ≤ 1000000) : Ab Tryz.prog 101 [az s] (.tp [ai (intF s).1, ab (intF s).2]) := by
  cases s with
  | nil =>
    refine Fn_of_aw (keep := []) Tryz.func101 rfl rfl (by simp [Tryz.ntmps101]) ?_
    simp only [num_cons, num_nil, Tryz.ntmps101, Tryz.results101]
    exact wkA
  | cons c r =>
    have hrl : r.length + 1 ≤ 1000000 := by simpa using hl
    have hne : ¬ (c :: r).length = 0 := by simp
    have hcl : (c :: r).length = r.length + 1 := rfl
    generalize hR : intF (c :: r) = R
    simp only [intF] at hR
    by_cases h1 : c.toNat = 45
    · rw [if_pos h1] at hR
      have h1' : ((c :: r)[0]).toNat = 45 := h1
      have c1 := magnitude_ab r (by omega)
      have hm := magF_ok r
      by_cases h2 : (magF r).2 = 0
      · rw [if_pos h2] at hR
        rw [h2] at c1
        subst hR
        have hw := wrap_neg hm.1 hm.2
        rw [← hw]
        generalize (magF r).1 = n at *
        refine Fn_of_aw (keep := []) Tryz.func101 rfl rfl (by simp [Tryz.ntmps101]) ?_
        simp only [num_cons, num_nil, Tryz.ntmps101, Tryz.results101]
        exact wkA
      · rw [if_neg h2] at hR
        subst hR
        refine Fn_of_aw (keep := []) Tryz.func101 rfl rfl (by simp [Tryz.ntmps101]) ?_
        simp only [num_cons, num_nil, Tryz.ntmps101, Tryz.results101]
        exact wkA
    rw [if_neg h1] at hR
    have h1' : ¬ ((c :: r)[0]).toNat = 45 := h1
    by_cases h3 : c.toNat = 43
    · rw [if_pos h3] at hR
      have h3' : ((c :: r)[0]).toNat = 43 := h3
      have c1 := magnitude_ab r (by omega)
      have hm := magF_ok r
      by_cases h2 : (magF r).2 = 0 ∧ (magF r).1 ≠ 9223372036854775808
      · rw [if_pos h2] at hR
        rw [h2.1] at c1
        subst hR
        have h4 := h2.2
        generalize (magF r).1 = n at *
        refine Fn_of_aw (keep := []) Tryz.func101 rfl rfl (by simp [Tryz.ntmps101]) ?_
        simp only [num_cons, num_nil, Tryz.ntmps101, Tryz.results101]
        exact wkA
      · rw [if_neg h2] at hR
        subst hR
        generalize hn : (magF r).1 = n at *
        by_cases h5 : (magF r).2 = 0
        · obtain rfl : n = 9223372036854775808 := Classical.byContradiction fun h => h2 ⟨h5, h⟩
          rw [h5] at c1
          refine Fn_of_aw (keep := []) Tryz.func101 rfl rfl (by simp [Tryz.ntmps101]) ?_
          simp only [num_cons, num_nil, Tryz.ntmps101, Tryz.results101]
          exact wkA
        · skip
          refine Fn_of_aw (keep := []) Tryz.func101 rfl rfl (by simp [Tryz.ntmps101]) ?_
          simp only [num_cons, num_nil, Tryz.ntmps101, Tryz.results101]
          exact wkA
    rw [if_neg h3] at hR
    have h3' : ¬ ((c :: r)[0]).toNat = 43 := h3
    have c1 := magnitude_ab (c :: r) hl
    have hm := magF_ok (c :: r)
    by_cases h2 : (magF (c :: r)).2 = 0 ∧ (magF (c :: r)).1 ≠ 9223372036854775808
    · rw [if_pos h2] at hR
      rw [h2.1] at c1
      subst hR
      have h4 := h2.2
      generalize (magF (c :: r)).1 = n at *
      refine Fn_of_aw (keep := []) Tryz.func101 rfl rfl (by simp [Tryz.ntmps101]) ?_
      simp only [num_cons, num_nil, Tryz.ntmps101, Tryz.results101]
      exact wkA
    · rw [if_neg h2] at hR
      subst hR
      generalize hn : (magF (c :: r)).1 = n at *
      by_cases h5 : (magF (c :: r)).2 = 0
      · obtain rfl : n = 9223372036854775808 := Classical.byContradiction fun h => h2 ⟨h5, h⟩
        rw [h5] at c1
        refine Fn_of_aw (keep := []) Tryz.func101 rfl rfl (by simp [Tryz.ntmps101]) ?_
        simp only [num_cons, num_nil, Tryz.ntmps101, Tryz.results101]
        exact wkA
      · skip
        refine Fn_of_aw (keep := []) Tryz.func101 rfl rfl (by simp [Tryz.ntmps101]) ?_
        simp only [num_cons, num_nil, Tryz.ntmps101, Tryz.results101]
        exact wkA
theorem truth_ab (b : Bool) : Ab Tryz.prog 103 [ab b] (ai (trI b)) := by
  cases b
  · skip
    refine Fn_of_aw (keep := []) Tryz.func103 rfl rfl (by simp [Tryz.ntmps103]) ?_
    simp only [num_cons, num_nil, Tryz.ntmps103, Tryz.results103]
    exact wkB
  · skip
    refine Fn_of_aw (keep := []) Tryz.func103 rfl rfl (by simp [Tryz.ntmps103]) ?_
    simp only [num_cons, num_nil, Tryz.ntmps103, Tryz.results103]
    exact wkB
theorem unary_ab (op a : Int) (h3 : 3 ≤ op) (h6 : op ≤ 6) : Ab Tryz.prog 65 [ai op, ai a] (ai (unF op a)) := by
  have c1 := truth_ab (decide (a = 0))
  obtain rfl | rfl | rfl | rfl : op = 3 ∨ op = 4 ∨ op = 5 ∨ op = 6 := by omega
  · skip
    refine Fn_of_aw (keep := []) Tryz.func65 rfl rfl (by simp [Tryz.ntmps65]) ?_
    simp only [num_cons, num_nil, Tryz.ntmps65, Tryz.results65]
    exact wkA
  · skip
    refine Fn_of_aw (keep := []) Tryz.func65 rfl rfl (by simp [Tryz.ntmps65]) ?_
    simp only [num_cons, num_nil, Tryz.ntmps65, Tryz.results65]
    exact wkA
  · skip
    refine Fn_of_aw (keep := []) Tryz.func65 rfl rfl (by simp [Tryz.ntmps65]) ?_
    simp only [num_cons, num_nil, Tryz.ntmps65, Tryz.results65]
    exact wkA
  · skip
    refine Fn_of_aw (keep := []) Tryz.func65 rfl rfl (by simp [Tryz.ntmps65]) ?_
    simp only [num_cons, num_nil, Tryz.ntmps65, Tryz.results65]
    exact wkA
theorem compare_ab (op a b : Int) (h : 14 ≤ op ∧ op ≤ 19) : Ab Tryz.prog 104 [ai op, ai a, ai b] (ab (cmF op a b)) := by
  obtain rfl | rfl | rfl | rfl | rfl | rfl : op = 14 ∨ op = 15 ∨ op = 16 ∨ op = 17 ∨ op = 18 ∨ op = 19 := by omega
  · skip
    refine Fn_of_aw (keep := []) Tryz.func104 rfl rfl (by simp [Tryz.ntmps104]) ?_
    simp only [num_cons, num_nil, Tryz.ntmps104, Tryz.results104]
    exact wkA
  · skip
    refine Fn_of_aw (keep := []) Tryz.func104 rfl rfl (by simp [Tryz.ntmps104]) ?_
    simp only [num_cons, num_nil, Tryz.ntmps104, Tryz.results104]
    exact wkA
  · skip
    refine Fn_of_aw (keep := []) Tryz.func104 rfl rfl (by simp [Tryz.ntmps104]) ?_
    simp only [num_cons, num_nil, Tryz.ntmps104, Tryz.results104]
    exact wkA
  · skip
    refine Fn_of_aw (keep := []) Tryz.func104 rfl rfl (by simp [Tryz.ntmps104]) ?_
    simp only [num_cons, num_nil, Tryz.ntmps104, Tryz.results104]
    exact wkA
  · skip
    refine Fn_of_aw (keep := []) Tryz.func104 rfl rfl (by simp [Tryz.ntmps104]) ?_
    simp only [num_cons, num_nil, Tryz.ntmps104, Tryz.results104]
    exact wkA
  · skip
    refine Fn_of_aw (keep := []) Tryz.func104 rfl rfl (by simp [Tryz.ntmps104]) ?_
    simp only [num_cons, num_nil, Tryz.ntmps104, Tryz.results104]
    exact wkA
theorem binary_ab (op a b : Int) (h7 : 7 ≤ op) (h24 : op ≤ 24) : Ab Tryz.prog 66 [ai op, ai a, ai b] (.tp [ai (binF op a b).1, ai (binF op a b).2]) := by
  obtain rfl | rfl | rfl | rfl | rfl | rfl | rfl | rfl | rfl | rfl | rfl | rfl | rfl | rfl | rfl | rfl | rfl | rfl : op = 7 ∨ op = 8 ∨ op = 9 ∨ op = 10 ∨ op = 11 ∨ op = 12 ∨ op = 13 ∨ op = 14 ∨ op = 15 ∨ op = 16 ∨ op = 17 ∨ op = 18 ∨ op = 19 ∨ op = 20 ∨ op = 21 ∨ op = 22 ∨ op = 23 ∨ op = 24 := by omega
  · skip
    refine Fn_of_aw (keep := []) Tryz.func66 rfl rfl (by simp [Tryz.ntmps66]) ?_
    simp only [num_cons, num_nil, Tryz.ntmps66, Tryz.results66]
    exact wkA
  · by_cases hb : b = 0
    · subst hb
      refine Fn_of_aw (keep := []) Tryz.func66 rfl rfl (by simp [Tryz.ntmps66]) ?_
      simp only [num_cons, num_nil, Tryz.ntmps66, Tryz.results66]
      exact wkA
    · have e : binF 8 a b = (IntKind.i64.wrap (a.tdiv b), 0) := by simp only [binF, Int.reduceEq, if_true, if_false, if_neg hb]
      rw [e]
      refine Fn_of_aw (keep := []) Tryz.func66 rfl rfl (by simp [Tryz.ntmps66]) ?_
      simp only [num_cons, num_nil, Tryz.ntmps66, Tryz.results66]
      exact wkA
  · by_cases hb : b = 0
    · subst hb
      refine Fn_of_aw (keep := []) Tryz.func66 rfl rfl (by simp [Tryz.ntmps66]) ?_
      simp only [num_cons, num_nil, Tryz.ntmps66, Tryz.results66]
      exact wkA
    · have e : binF 9 a b = (a.tmod b, 0) := by simp only [binF, Int.reduceEq, if_true, if_false, if_neg hb]
      rw [e]
      refine Fn_of_aw (keep := []) Tryz.func66 rfl rfl (by simp [Tryz.ntmps66]) ?_
      simp only [num_cons, num_nil, Tryz.ntmps66, Tryz.results66]
      exact wkA
  · skip
    refine Fn_of_aw (keep := []) Tryz.func66 rfl rfl (by simp [Tryz.ntmps66]) ?_
    simp only [num_cons, num_nil, Tryz.ntmps66, Tryz.results66]
    exact wkA
  · skip
    refine Fn_of_aw (keep := []) Tryz.func66 rfl rfl (by simp [Tryz.ntmps66]) ?_
    simp only [num_cons, num_nil, Tryz.ntmps66, Tryz.results66]
    exact wkA
  · skip
    refine Fn_of_aw (keep := []) Tryz.func66 rfl rfl (by simp [Tryz.ntmps66]) ?_
    simp only [num_cons, num_nil, Tryz.ntmps66, Tryz.results66]
    exact wkA
  · skip
    refine Fn_of_aw (keep := []) Tryz.func66 rfl rfl (by simp [Tryz.ntmps66]) ?_
    simp only [num_cons, num_nil, Tryz.ntmps66, Tryz.results66]
    exact wkA
  · have c1 := compare_ab 14 a b (by decide)
    have c2 := truth_ab (cmF 14 a b)
    refine Fn_of_aw (keep := []) Tryz.func66 rfl rfl (by simp [Tryz.ntmps66]) ?_
    simp only [num_cons, num_nil, Tryz.ntmps66, Tryz.results66]
    exact wkA
  · have c1 := compare_ab 15 a b (by decide)
    have c2 := truth_ab (cmF 15 a b)
    refine Fn_of_aw (keep := []) Tryz.func66 rfl rfl (by simp [Tryz.ntmps66]) ?_
    simp only [num_cons, num_nil, Tryz.ntmps66, Tryz.results66]
    exact wkA
  · have c1 := compare_ab 16 a b (by decide)
    have c2 := truth_ab (cmF 16 a b)
    refine Fn_of_aw (keep := []) Tryz.func66 rfl rfl (by simp [Tryz.ntmps66]) ?_
    simp only [num_cons, num_nil, Tryz.ntmps66, Tryz.results66]
    exact wkA
  · have c1 := compare_ab 17 a b (by decide)
    have c2 := truth_ab (cmF 17 a b)
    refine Fn_of_aw (keep := []) Tryz.func66 rfl rfl (by simp [Tryz.ntmps66]) ?_
    simp only [num_cons, num_nil, Tryz.ntmps66, Tryz.results66]
    exact wkA
  · have c1 := compare_ab 18 a b (by decide)
    have c2 := truth_ab (cmF 18 a b)
    refine Fn_of_aw (keep := []) Tryz.func66 rfl rfl (by simp [Tryz.ntmps66]) ?_
    simp only [num_cons, num_nil, Tryz.ntmps66, Tryz.results66]
    exact wkA
  · have c1 := compare_ab 19 a b (by decide)
    have c2 := truth_ab (cmF 19 a b)
    refine Fn_of_aw (keep := []) Tryz.func66 rfl rfl (by simp [Tryz.ntmps66]) ?_
    simp only [num_cons, num_nil, Tryz.ntmps66, Tryz.results66]
    exact wkA
  · skip
    refine Fn_of_aw (keep := []) Tryz.func66 rfl rfl (by simp [Tryz.ntmps66]) ?_
    simp only [num_cons, num_nil, Tryz.ntmps66, Tryz.results66]
    exact wkA
  · skip
    refine Fn_of_aw (keep := []) Tryz.func66 rfl rfl (by simp [Tryz.ntmps66]) ?_
    simp only [num_cons, num_nil, Tryz.ntmps66, Tryz.results66]
    exact wkA
  · skip
    refine Fn_of_aw (keep := []) Tryz.func66 rfl rfl (by simp [Tryz.ntmps66]) ?_
    simp only [num_cons, num_nil, Tryz.ntmps66, Tryz.results66]
    exact wkA
  · have c1 := fun q => truth_ab q
    by_cases ha : a = 0
    · subst ha
      by_cases hb : b = 0
      · subst hb
        refine Fn_of_aw (keep := []) Tryz.func66 rfl rfl (by simp [Tryz.ntmps66]) ?_
        simp only [num_cons, num_nil, Tryz.ntmps66, Tryz.results66]
        exact wq14
      · have e : binF 23 0 b = (0, 0) := by simp [binF, trI, hb]
        rw [e]
        have c0 := truth_ab false
        have c5 : Ab Tryz.prog 103 [ab (!decide (b = 0))] (ai (trI true)) := by rw [decide_eq_false hb]; exact truth_ab true
        refine Fn_of_aw (keep := []) Tryz.func66 rfl rfl (by simp [Tryz.ntmps66]) ?_
        simp only [num_cons, num_nil, Tryz.ntmps66, Tryz.results66]
        exact wkA
    · by_cases hb : b = 0
      · subst hb
        have e : binF 23 a 0 = (0, 0) := by simp [binF, trI, ha]
        rw [e]
        have c0 := truth_ab false
        refine Fn_of_aw (keep := []) Tryz.func66 rfl rfl (by simp [Tryz.ntmps66]) ?_
        simp only [num_cons, num_nil, Tryz.ntmps66, Tryz.results66]
        exact wkA
      · have e : binF 23 a b = (1, 0) := by simp [binF, trI, ha, hb]
        rw [e]
        have c0 := truth_ab true
        have c5 : Ab Tryz.prog 103 [ab (!decide (b = 0))] (ai (trI true)) := by rw [decide_eq_false hb]; exact truth_ab true
        refine Fn_of_aw (keep := []) Tryz.func66 rfl rfl (by simp [Tryz.ntmps66]) ?_
        simp only [num_cons, num_nil, Tryz.ntmps66, Tryz.results66]
        exact wkA
  · have c1 := fun q => truth_ab q
    by_cases ha : a = 0
    · subst ha
      by_cases hb : b = 0
      · subst hb
        refine Fn_of_aw (keep := []) Tryz.func66 rfl rfl (by simp [Tryz.ntmps66]) ?_
        simp only [num_cons, num_nil, Tryz.ntmps66, Tryz.results66]
        exact wq14
      · have e : binF 24 0 b = (1, 0) := by simp [binF, trI, hb]
        rw [e]
        have c0 := truth_ab true
        have c5 : Ab Tryz.prog 103 [ab (!decide (b = 0))] (ai (trI true)) := by rw [decide_eq_false hb]; exact truth_ab true
        refine Fn_of_aw (keep := []) Tryz.func66 rfl rfl (by simp [Tryz.ntmps66]) ?_
        simp only [num_cons, num_nil, Tryz.ntmps66, Tryz.results66]
        exact wkA
    · by_cases hb : b = 0
      · subst hb
        have e : binF 24 a 0 = (1, 0) := by simp [binF, trI, ha]
        rw [e]
        have c0 := truth_ab true
        refine Fn_of_aw (keep := []) Tryz.func66 rfl rfl (by simp [Tryz.ntmps66]) ?_
        simp only [num_cons, num_nil, Tryz.ntmps66, Tryz.results66]
        exact wkA
      · have e : binF 24 a b = (1, 0) := by simp [binF, trI, ha, hb]
        rw [e]
        have c0 := truth_ab true
        have c5 : Ab Tryz.prog 103 [ab (!decide (b = 0))] (ai (trI true)) := by rw [decide_eq_false hb]; exact truth_ab true
        refine Fn_of_aw (keep := []) Tryz.func66 rfl rfl (by simp [Tryz.ntmps66]) ?_
        simp only [num_cons, num_nil, Tryz.ntmps66, Tryz.results66]
        exact wkA
end Go.Proofs.YtogmppcfopgkdaaGreatDoor
