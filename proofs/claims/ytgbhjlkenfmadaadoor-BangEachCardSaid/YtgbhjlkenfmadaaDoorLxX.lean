/- The examples of the chapter (awake), on the abstract machine. -/
import Derived.Test.YtgbhjlkenfmadaaDoorLxI
import Derived.Test.YtgbhjlkenfmadaaDoorStEq
namespace Go.Proofs.YtgbhjlkenfmadaaDoor
open Go.RowKit
set_option linter.unusedVariables false
set_option linter.unusedSimpArgs false
set_option maxRecDepth 100000
set_option maxHeartbeats 8000000
theorem tyQTok : eqK Tryd.prog 49 = some [0, 0, 0, 2] := by kernel_rfl
attribute [go_sem] tyQTok
theorem wrd_nil (o : Nat) : wrd [] o = (o, 0) := by rw [wrd]
theorem wrd_stop {c : UInt8} {r : List UInt8} {o : Nat} (h : divB c = true) : wrd (c :: r) o = (o, 0) := by rw [wrd, if_pos h]
theorem wrd_one {c : UInt8} {r : List UInt8} {o : Nat} (h : divB c = false) (h2 : begB (c :: r) = false) : wrd (c :: r) o = wrd r (o + 1) := by
  rw [wrd, if_neg (by rw [h]; decide), pas_one (.inr h2)]; simp
theorem ari_one {c : UInt8} {r : List UInt8} {o dep : Nat} (h : ¬ (c.toNat = 41 ∧ dep = 0)) (h2 : begB (c :: r) = false) : ari (c :: r) o dep = ari r (o + 1) (if c.toNat = 40 then dep + 1 else if c.toNat = 41 then dep - 1 else dep) := by
  rw [ari_step h, pas_one (.inr h2)]; simp
def exS : List UInt8 := [97, 62, 98, 32, 50, 62, 38, 49, 32, 35, 99]
theorem exN0 : nextF exS 0 = (⟨1, 0, 1, [97]⟩, 0) := by
  have hw : wrd (exS.drop 0) 0 = (1, 0) := by show wrd (97 :: 62 :: _) 0 = _; rw [wrd_one (by decide) (by decide), wrd_stop (by decide)]
  have := nxt_word (s := exS) (a := 0) (w := 1) (by decide) (by decide) (by decide) hw
  exact this
theorem exN1 : nextF exS 1 = (⟨2, 1, 2, [62]⟩, 0) := nxt_op (s := exS) (a := 1) (k := 0) (by decide) (by decide) (by decide)
theorem exN2 : nextF exS 2 = (⟨1, 2, 3, [98]⟩, 0) := by
  have hw : wrd (exS.drop 2) 0 = (1, 0) := by show wrd (98 :: 32 :: _) 0 = _; rw [wrd_one (by decide) (by decide), wrd_stop (by decide)]
  exact nxt_word (s := exS) (a := 2) (w := 1) (by decide) (by decide) (by decide) hw
theorem exN3 : nextF exS 3 = (⟨4, 4, 5, [50]⟩, 0) := by
  have hw : wrd (exS.drop 4) 0 = (1, 0) := by show wrd (50 :: 62 :: _) 0 = _; rw [wrd_one (by decide) (by decide), wrd_stop (by decide)]
  exact nxt_word (s := exS) (a := 4) (w := 1) (by decide) (by decide) (by decide) hw
theorem exN5 : nextF exS 5 = (⟨2, 5, 7, [62, 38]⟩, 0) := nxt_op (s := exS) (a := 5) (k := 1) (by decide) (by decide) (by decide)
theorem exN7 : nextF exS 7 = (⟨1, 7, 8, [49]⟩, 0) := by
  have hw : wrd (exS.drop 7) 0 = (1, 0) := by show wrd (49 :: 32 :: _) 0 = _; rw [wrd_one (by decide) (by decide), wrd_stop (by decide)]
  exact nxt_word (s := exS) (a := 7) (w := 1) (by decide) (by decide) (by decide) hw
theorem exN8 : nextF exS 8 = (⟨5, 11, 11, []⟩, 0) := nxt_end (s := exS) (a := 11) (by decide)
def exL : List Tok := [⟨1, 0, 1, [97]⟩, ⟨2, 1, 2, [62]⟩, ⟨1, 2, 3, [98]⟩, ⟨4, 4, 5, [50]⟩, ⟨2, 5, 7, [62, 38]⟩, ⟨1, 7, 8, [49]⟩, ⟨5, 11, 11, []⟩]
theorem exAll : allF exS = (exL, 0, 0) := by
  show allT exS 13 0 = _
  simp only [allT, Int.ofNat_eq_natCast, Int.cast_ofNat_Int, exN0, exN1, exN2, exN3, exN5, exN7, exN8]
  simp [exL]
theorem exC1 : closeF [36, 40, 40, 49, 43, 40, 50, 41, 41, 41] 0 = (10, 0) := by
  have h : con [36, 40, 40, 49, 43, 40, 50, 41, 41, 41] 0 = (10, 0) := by
    rw [con_36 (by decide)]
    show ari [49, 43, 40, 50, 41, 41, 41] 3 0 = _
    rw [ari_one (by decide) (by decide), ari_one (by decide) (by decide), ari_one (by decide) (by decide), ari_one (by decide) (by decide), ari_one (by decide) (by decide)]
    exact ari_close (c := 41) (r := [41]) (o := 8) (by decide)
  unfold closeF
  rw [if_neg (by decide), if_neg (by decide)]
  show (((0 + (con [36, 40, 40, 49, 43, 40, 50, 41, 41, 41] 0).1 : Nat) : Int), (con [36, 40, 40, 49, 43, 40, 50, 41, 41, 41] 0).2) = _
  rw [h]; rfl
theorem exC2 : closeF [34, 36, 40, 97] 0 = (1, 7) := by
  have h1 : cmd [97] 2 0 true = (0, 7) := by
    rw [cmd, if_neg (by decide), if_neg (by decide), if_neg (by decide), if_neg (by decide), cmd]
  have h2 : pas [36, 40, 97] 1 = (0, 7) := by
    rw [pas_con (.inr (by decide)) (by decide), con_36 (by decide)]
    exact h1
  have h : con [34, 36, 40, 97] 0 = (1, 7) := by
    rw [con_34 (by decide), dbl, if_neg (by decide), h2]; rfl
  unfold closeF
  rw [if_neg (by decide), if_neg (by decide)]
  show (((0 + (con [34, 36, 40, 97] 0).1 : Nat) : Int), (con [34, 36, 40, 97] 0).2) = _
  rw [h]; rfl
theorem ca1 : Ab Tryd.prog 19 [az [97, 62, 98, 32, 50, 62, 38, 49, 32, 35, 99]] (.tp [.rd 7 [ai 1, ai 0, ai 1, az [97], ai 2, ai 1, ai 2, az [62], ai 1, ai 2, ai 3, az [98], ai 4, ai 4, ai 5, az [50], ai 2, ai 5, ai 7, az [62, 38], ai 1, ai 7, ai 8, az [49], ai 5, ai 11, ai 11, az []], ai 0, ai 0]) := by
  have := all_ab exS (by decide)
  rw [exAll] at this
  exact this
theorem ca4 : Ab Tryd.prog 44 [az [32, 9, 35, 120, 10, 121], ai 0] (ai 4) := by
  have := skip_ab [32, 9, 35, 120, 10, 121] 0 (by decide)
  rw [show skp [32, 9, 35, 120, 10, 121] 0 = 4 from by decide] at this
  exact this
theorem ca5 : Ab Tryd.prog 46 [az [60, 60, 45]] (ab true) := by
  have := oper_ab [60, 60, 45]
  rwa [show operB [60, 60, 45] = true from by decide] at this
end Go.Proofs.YtgbhjlkenfmadaaDoor
