/- Walks of the small functions of the layer sched and of its reference: what each computes. -/
import Derived.Test.YtdjclejjabpdcaaRows
import Derived.Test.YtdjclejjabpdcaaBase
namespace Go.Proofs.Ytdjclejjabpdcaa
open Go.RowKit
set_option linter.unusedVariables false
set_option linter.unusedSimpArgs false

def vErr (k t : Int) (n : Nat) : Int := if k < 1 ∨ 3 < k ∨ t < 0 then 1 else if 100000 < n then 4 else 0
def fairGo (turn d : Int) : List Int → Int
  | [] => d
  | x :: xs => if turn < x then x else fairGo turn d xs
def fairF (turn : Int) (R : List Int) : Int := fairGo turn (R.headD 0) R
def mixF (z : Int) : Int :=
  let a := IntKind.u64.wrap (bits .xor .u64 z (z / 1073741824) * 13787848793156543929)
  let b := IntKind.u64.wrap (bits .xor .u64 a (a / 134217728) * 10723151780598845931)
  bits .xor .u64 b (b / 2147483648)
def incB (p : Int) : List Int → Bool
  | [] => true
  | x :: xs => decide (p < x) && incB x xs
def rightB : List Int → Bool
  | [] => false
  | x :: xs => decide (1 ≤ x) && incB x xs

def hasF : List Int → Int → Bool
  | [], _ => false
  | x :: xs, m => (x == m) || hasF xs m

theorem slTy : SlTy Try.prog 23 3 1 8 := SlTy.mk' (.int .i64 0) Try.underlying23 (by kernel_rfl) rfl (by omega)

theorem valid_any (k t sd : Int) (A : Option Addr) (n c : Nat) (w : World) :
    Calls Try.prog 9 #[.agg #[.int .i64 k, .int .i64 t, .int .u64 sd, .slice A n c]] w fun e w' => e = .returned (.int .i64 (vErr k t n)) ∧ Below w.heap.size w w' := by
  go_enter Try.func9, Try.ntmps9
  go_wp2
  all_goals
    go_ret
    refine ⟨ret_int ?_, (Below.refl _ _).alloc (Nat.le_refl _) _⟩
    unfold vErr
    split
    · first | rfl | omega
    · first | (rw [if_pos (by omega)]; rfl) | (rw [if_neg (by omega)]; rfl) | omega
theorem rvalid_any (k t sd : Int) (A : Option Addr) (n c : Nat) (w : World) :
    Calls Try.prog 10 #[.agg #[.int .i64 k, .int .i64 t, .int .u64 sd, .slice A n c]] w fun e w' => e = .returned (.int .i64 (vErr k t n)) ∧ Below w.heap.size w w' := by
  go_enter Try.func10, Try.ntmps10
  go_wp2
  all_goals
    go_ret
    refine ⟨ret_int ?_, (Below.refl _ _).alloc (Nat.le_refl _) _⟩
    unfold vErr
    split
    · first | rfl | omega
    · first | (rw [if_pos (by omega)]; rfl) | (rw [if_neg (by omega)]; rfl) | omega
def shortB (n n2 : Nat) : Bool := decide (n ≤ 300) && decide (n2 ≤ 100)
theorem short_any (k t sd : Int) (A : Option Addr) (n c : Nat) (A2 : Option Addr) (n2 c2 : Nat) (w : World) :
    Calls Try.prog 11 #[.agg #[.int .i64 k, .int .i64 t, .int .u64 sd, .slice A n c], .slice A2 n2 c2] w fun e w' => e = .returned (.bool (shortB n n2)) ∧ Below w.heap.size w w' := by
  go_enter Try.func11, Try.ntmps11
  go_wp2
  all_goals
    go_ret
    refine ⟨ret_bool ?_, (Below.refl _ _).alloc (Nat.le_refl _) _⟩
    unfold shortB
    rw [Bool.eq_iff_iff]
    simp
    try omega
theorem mix_any (z : Int) (w : World) : Calls Try.prog 18 #[.int .u64 z] w fun e w' => e = .returned (.int .u64 (mixF z)) ∧ w = w' := by
  go_enter Try.func18, Try.ntmps18
  go_wp2
  go_ret
  exact ⟨rfl, rfl⟩
theorem rmix_any (z : Int) (w : World) : Calls Try.prog 21 #[.int .u64 z] w fun e w' => e = .returned (.int .u64 (mixF z)) ∧ w = w' := by
  go_enter Try.func21, Try.ntmps21
  go_wp2
  go_ret
  exact ⟨rfl, rfl⟩
theorem fair_any (turn : Int) (A : Option Addr) (n c : Nat) (R : List Int) (w : World) (hR : Reads w 1 A n c (R.map (Value.int .i64))) (hn : 0 < n) :
    Calls Try.prog 17 #[.int .i64 turn, .slice A n c] w fun e w' => e = .returned (.int .i64 (fairF turn R)) ∧ w = w' := by
  have HL := Lib.hid hR.len_int
  have hcm := hR.le63
  go_enter Try.func17, Try.ntmps17
  go_wp2
  go_loop [8] (fun i => ∃ k : Nat, k ≤ n ∧ i = .int .i64 k ∧ Hid (fairF turn R = fairGo turn (R.headD 0) (R.drop k))) (fun i => n - (intOf i).toNat)
  case atStart => exact ⟨0, by omega, rfl, rfl⟩
  case round =>
    obtain ⟨k, hk, rfl, HF⟩ := hrel
    by_cases hkn : k < n
    · obtain ⟨b, off, x, rfl, hb, hx, hc⟩ := hR.ints hkn
      by_cases hg : turn < x
      · go_wp2
        go_ret
        exact ⟨ret_int (by rw [HF.out, drop_at hx.out]; simp [fairGo, hg]), rfl⟩
      · go_wp2
        go_round
        case rel => exact ⟨k + 1, by omega, by go_num, by show _ = _; rw [HF.out, drop_at hx.out]; simp [fairGo, hg]⟩
        case measure => simp [intOf]; omega
    · obtain ⟨b, off, x, rfl, hb, hx, hc⟩ := hR.ints hn
      simp only [Nat.add_zero] at hc
      go_wp2
      go_ret
      exact ⟨ret_int (by rw [HF.out, List.drop_eq_nil_of_le (by rw [HL.out]; omega)]; have h0 := hx.out; cases R with | nil => simp at h0 | cons a R => simp at h0; simp [h0, fairGo]), rfl⟩
theorem rfair_any (turn : Int) (A : Option Addr) (n c : Nat) (R : List Int) (w : World) (hR : Reads w 1 A n c (R.map (Value.int .i64))) (hn : 0 < n) :
    Calls Try.prog 20 #[.int .i64 turn, .slice A n c] w fun e w' => e = .returned (.int .i64 (fairF turn R)) ∧ w = w' := by
  have HL := Lib.hid hR.len_int
  have hcm := hR.le63
  go_enter Try.func20, Try.ntmps20
  go_wp2
  go_loop [5] (fun i => ∃ k : Nat, k ≤ n ∧ i = .int .i64 k ∧ Hid (fairF turn R = fairGo turn (R.headD 0) (R.drop k))) (fun i => n - (intOf i).toNat)
  case atStart => exact ⟨0, by omega, rfl, rfl⟩
  case round =>
    obtain ⟨k, hk, rfl, HF⟩ := hrel
    by_cases hkn : k < n
    · obtain ⟨b, off, x, rfl, hb, hx, hc⟩ := hR.ints hkn
      by_cases hg : turn < x
      · go_wp2
        go_ret
        exact ⟨ret_int (by rw [HF.out, drop_at hx.out]; simp [fairGo, hg]), rfl⟩
      · go_wp2
        go_round
        case rel => exact ⟨k + 1, by omega, by go_num, by show _ = _; rw [HF.out, drop_at hx.out]; simp [fairGo, hg]⟩
        case measure => simp [intOf]; omega
    · obtain ⟨b, off, x, rfl, hb, hx, hc⟩ := hR.ints hn
      simp only [Nat.add_zero] at hc
      go_wp2
      go_ret
      exact ⟨ret_int (by rw [HF.out, List.drop_eq_nil_of_le (by rw [HL.out]; omega)]; have h0 := hx.out; cases R with | nil => simp at h0 | cons a R => simp at h0; simp [h0, fairGo]), rfl⟩
theorem has_any (m : Int) (A : Option Addr) (n c : Nat) (R : List Int) (w : World) (hR : Reads w 1 A n c (R.map (Value.int .i64))) :
    Calls Try.prog 15 #[.slice A n c, .int .i64 m] w fun e w' => e = .returned (.bool (hasF R m)) ∧ w = w' := by
  have HL := Lib.hid hR.len_int
  have hcm := hR.le63
  go_enter Try.func15, Try.ntmps15
  go_wp2
  go_loop [5] (fun i => ∃ k : Nat, k ≤ n ∧ i = .int .i64 k ∧ Hid (hasF R m = hasF (R.drop k) m)) (fun i => n - (intOf i).toNat)
  case atStart => exact ⟨0, by omega, rfl, rfl⟩
  case round =>
    obtain ⟨k, hk, rfl, HF⟩ := hrel
    by_cases hkn : k < n
    · obtain ⟨b, off, x, rfl, hb, hx, hc⟩ := hR.ints hkn
      by_cases hg : x = m
      · have hg' : (x == m) = true := by simp [hg]
        have HG := Lib.hid hg
        clear hg
        go_wp2
        go_ret
        exact ⟨ret_bool (by rw [HF.out, drop_at hx.out]; simp [hasF, HG.out]), rfl⟩
      · have hg' : (x == m) = false := by simp [hg]
        have HG := Lib.hid hg
        clear hg
        go_wp2
        go_round
        case rel => exact ⟨k + 1, by omega, by go_num, by show _ = _; rw [HF.out, drop_at hx.out]; have := HG.out; simp [hasF, this]⟩
        case measure => simp [intOf]; omega
    · go_wp2
      go_ret
      exact ⟨ret_bool (by rw [HF.out, List.drop_eq_nil_of_le (by rw [HL.out]; omega)]; rfl), rfl⟩
theorem clone_any (A : Option Addr) (n c : Nat) (R : List Int) (w : World) (hR : Reads w 1 A n c (R.map (Value.int .i64))) (hn : n ≤ 1000000) :
    Calls Try.prog 16 #[.slice A n c] w fun e w' => ∃ A' c', e = .returned (.slice A' n c') ∧ Owns w' w.heap.size 1 A' n c' (R.map (Value.int .i64)) ∧ Below w.heap.size w w' := by
  have hnil := fun (w : World) => Lib.run_eql_slice_nil (P := Try.prog) w 23 3 A n c 0 0 Try.underlying23
  rcases A with _ | ad
  · have h0 : n = 0 := by
      rcases Nat.eq_zero_or_pos n with h | h
      · exact h
      · obtain ⟨b, off, x, h, _⟩ := hR.ints h; cases h
    subst h0
    have hr : R = [] := List.eq_nil_of_length_eq_zero hR.len_int
    subst hr
    go_enter Try.func16, Try.ntmps16
    go_wp2
    go_ret
    exact ⟨none, 0, rfl, Owns.nil _ _ _, Below.refl _ _⟩
  · go_enter Try.func16, Try.ntmps16
    go_wp2_with (at_builtin; go_must (refine wpList_app (.tmp 5) (.tmp 6) slTy rfl rfl (B := w.heap.size) (xs := []) (news := R.map (Value.int .i64)) rfl (Owns.zero _ _ _ _) rfl (Src.ofReads Try.underlying23 ?c1 (ones_int R .i64)) ?c2 ?c3 ?c4 ?_))
    case c1 => exact hR.below ((Below.refl _ _).alloc (Nat.le_refl _) _)
    case c2 => omega
    case c3 => omega
    case c4 => simp
    intro A' c' w1 ho hg ha
    go_wp2
    go_ret
    exact ⟨A', c', rfl, ho, below_app ((Below.refl _ _).alloc (Nat.le_refl _) _) (Owns.zero _ _ 1 (some ⟨w.heap.size, 0, none⟩)) hg (by simp)⟩
end Go.Proofs.Ytdjclejjabpdcaa
