/- bang: the examples of the chapter. -/
import Derived.Test.YtgbhjlkenfmadaaGreatDoorBgM
import Derived.Test.YtgbhjlkenfmadaaGreatDoorLxX
namespace Go.Proofs.YtgbhjlkenfmadaaGreatDoor
set_option linter.unusedVariables false
set_option linter.unusedSimpArgs false
set_option maxRecDepth 100000
set_option maxHeartbeats 8000000
def xaS : List UInt8 := [108, 115, 32, 45, 108, 32, 97, 46, 99, 32, 98, 47, 99, 46, 100]
theorem xaN0 : nextF xaS 0 = (⟨1, 0, 2, [108, 115]⟩, 0) := by
  have hw : wrd (xaS.drop 0) 0 = (2, 0) := by show wrd (108 :: 115 :: 32 :: _) 0 = _; rw [wrd_one (by decide) (by decide), wrd_one (by decide) (by decide), wrd_stop (by decide)]
  exact nxt_word (s := xaS) (a := 0) (w := 2) (by decide) (by decide) (by decide) hw
theorem xaN1 : nextF xaS 2 = (⟨1, 3, 5, [45, 108]⟩, 0) := by
  have hw : wrd (xaS.drop 3) 0 = (2, 0) := by show wrd (45 :: 108 :: 32 :: _) 0 = _; rw [wrd_one (by decide) (by decide), wrd_one (by decide) (by decide), wrd_stop (by decide)]
  exact nxt_word (s := xaS) (a := 3) (w := 2) (by decide) (by decide) (by decide) hw
theorem xaN2 : nextF xaS 5 = (⟨1, 6, 9, [97, 46, 99]⟩, 0) := by
  have hw : wrd (xaS.drop 6) 0 = (3, 0) := by show wrd (97 :: 46 :: 99 :: 32 :: _) 0 = _; rw [wrd_one (by decide) (by decide), wrd_one (by decide) (by decide), wrd_one (by decide) (by decide), wrd_stop (by decide)]
  exact nxt_word (s := xaS) (a := 6) (w := 3) (by decide) (by decide) (by decide) hw
theorem xaN3 : nextF xaS 9 = (⟨1, 10, 15, [98, 47, 99, 46, 100]⟩, 0) := by
  have hw : wrd (xaS.drop 10) 0 = (5, 0) := by show wrd (98 :: 47 :: 99 :: 46 :: 100 :: []) 0 = _; rw [wrd_one (by decide) (by decide), wrd_one (by decide) (by decide), wrd_one (by decide) (by decide), wrd_one (by decide) (by decide), wrd_one (by decide) (by decide), wrd_nil]
  exact nxt_word (s := xaS) (a := 10) (w := 5) (by decide) (by decide) (by decide) hw
theorem xaN4 : nextF xaS 15 = (⟨5, 15, 15, []⟩, 0) := nxt_end (s := xaS) (a := 15) (by decide)
def xaL : List Tok := [⟨1, 0, 2, [108, 115]⟩, ⟨1, 3, 5, [45, 108]⟩, ⟨1, 6, 9, [97, 46, 99]⟩, ⟨1, 10, 15, [98, 47, 99, 46, 100]⟩, ⟨5, 15, 15, []⟩]
theorem xaAll : allF xaS = (xaL, 0, 0) := by
  show allT xaS 17 0 = _
  simp only [allT, Int.ofNat_eq_natCast, Int.cast_ofNat_Int, xaN0, xaN1, xaN2, xaN3, xaN4]
  simp [xaL]
theorem xaW : wordsF xaS = [[108, 115], [45, 108], [97, 46, 99], [98, 47, 99, 46, 100]] := by
  unfold wordsF
  rw [xaAll]
  rfl
def xbS : List UInt8 := [101, 99, 104, 111, 32, 104, 105, 32, 116, 104, 101, 114, 101]
theorem xbN0 : nextF xbS 0 = (⟨1, 0, 4, [101, 99, 104, 111]⟩, 0) := by
  have hw : wrd (xbS.drop 0) 0 = (4, 0) := by show wrd (101 :: 99 :: 104 :: 111 :: 32 :: _) 0 = _; rw [wrd_one (by decide) (by decide), wrd_one (by decide) (by decide), wrd_one (by decide) (by decide), wrd_one (by decide) (by decide), wrd_stop (by decide)]
  exact nxt_word (s := xbS) (a := 0) (w := 4) (by decide) (by decide) (by decide) hw
theorem xbN1 : nextF xbS 4 = (⟨1, 5, 7, [104, 105]⟩, 0) := by
  have hw : wrd (xbS.drop 5) 0 = (2, 0) := by show wrd (104 :: 105 :: 32 :: _) 0 = _; rw [wrd_one (by decide) (by decide), wrd_one (by decide) (by decide), wrd_stop (by decide)]
  exact nxt_word (s := xbS) (a := 5) (w := 2) (by decide) (by decide) (by decide) hw
theorem xbN2 : nextF xbS 7 = (⟨1, 8, 13, [116, 104, 101, 114, 101]⟩, 0) := by
  have hw : wrd (xbS.drop 8) 0 = (5, 0) := by show wrd (116 :: 104 :: 101 :: 114 :: 101 :: []) 0 = _; rw [wrd_one (by decide) (by decide), wrd_one (by decide) (by decide), wrd_one (by decide) (by decide), wrd_one (by decide) (by decide), wrd_one (by decide) (by decide), wrd_nil]
  exact nxt_word (s := xbS) (a := 8) (w := 5) (by decide) (by decide) (by decide) hw
theorem xbN3 : nextF xbS 13 = (⟨5, 13, 13, []⟩, 0) := nxt_end (s := xbS) (a := 13) (by decide)
def xbL : List Tok := [⟨1, 0, 4, [101, 99, 104, 111]⟩, ⟨1, 5, 7, [104, 105]⟩, ⟨1, 8, 13, [116, 104, 101, 114, 101]⟩, ⟨5, 13, 13, []⟩]
theorem xbAll : allF xbS = (xbL, 0, 0) := by
  show allT xbS 15 0 = _
  simp only [allT, Int.ofNat_eq_natCast, Int.cast_ofNat_Int, xbN0, xbN1, xbN2, xbN3]
  simp [xbL]
theorem xbW : wordsF xbS = [[101, 99, 104, 111], [104, 105], [116, 104, 101, 114, 101]] := by
  unfold wordsF
  rw [xbAll]
  rfl
/-! ### The words of the lines alone count -/
theorem choF_congr {W W' : List UInt8 → List (List UInt8)} {line : List UInt8} (h : W line = W' line) (s : List UInt8) (i : Nat) : choF W line s i = choF W' line s i := by unfold choF; rw [h]
section
variable {W W' : List UInt8 → List (List UInt8)} {F : Int} {L : List (List UInt8)} (h : ∀ l ∈ L, W l = W' l)
include h
theorem evA_congr {s : List UInt8} {a : Nat} {sh : Bool} (ha : a ≤ s.length) : evA W F L s a sh = evA W' F L s a sh := by
  unfold evA
  by_cases h1 : (evtF F L s a).2.2 ≠ 0
  · rw [if_pos h1, if_pos h1]
  · rw [if_neg h1, if_neg h1, choF_congr (h _ (evtF_ok (Decidable.not_not.1 h1) ha).1)]
theorem scnF_congr (s : List UInt8) : ∀ (n i : Nat) (d : Bool), scnF W F L s n i d = scnF W' F L s n i d := by
  intro n
  induction n with
  | zero => intro i d; rfl
  | succ n ih =>
    intro i d
    rw [scnF, scnF]
    by_cases h0 : s.length ≤ i
    · rw [if_pos h0, if_pos h0]
    · rw [if_neg h0, if_neg h0, evA_congr h (by omega), ih, ih]
theorem expF_congr (s : List UInt8) : expF W F L s = expF W' F L s := by
  have : rawF W F L s = rawF W' F L s := by unfold rawF scnT; rw [scnF_congr h]
  unfold expF
  rw [this]
end
/-- The history of the examples. -/
def xLL : List (List UInt8) := [xaS, xbS]
def xWW (l : List UInt8) : List (List UInt8) := if l = xaS then [[108, 115], [45, 108], [97, 46, 99], [98, 47, 99, 46, 100]] else if l = xbS then [[101, 99, 104, 111], [104, 105], [116, 104, 101, 114, 101]] else []
theorem xWW_eq : ∀ l ∈ xLL, wordsF l = xWW l := by
  intro l hl
  simp only [xLL, List.mem_cons, List.not_mem_nil, or_false] at hl
  rcases hl with rfl | rfl
  · rw [xaW]; decide +kernel
  · rw [xbW]; decide +kernel
theorem xE0 : expF wordsF 1 xLL [33, 33] = ([101, 99, 104, 111, 32, 104, 105, 32, 116, 104, 101, 114, 101], false, 0) := by rw [expF_congr xWW_eq]; decide +kernel
theorem xE1 : expF wordsF 1 xLL [33, 49, 58, 50] = ([97, 46, 99], false, 0) := by rw [expF_congr xWW_eq]; decide +kernel
theorem xE2 : expF wordsF 1 xLL [120, 32, 33, 36] = ([120, 32, 116, 104, 101, 114, 101], false, 0) := by rw [expF_congr xWW_eq]; decide +kernel
theorem xE3 : expF wordsF 1 xLL [33, 108, 58, 51, 58, 116] = ([99, 46, 100], false, 0) := by rw [expF_congr xWW_eq]; decide +kernel
theorem xE4 : expF wordsF 1 xLL [33, 108, 58, 51, 58, 101] = ([46, 100], false, 0) := by rw [expF_congr xWW_eq]; decide +kernel
theorem xE5 : expF wordsF 1 xLL [33, 63, 104, 105, 63, 58, 42] = ([104, 105, 32, 116, 104, 101, 114, 101], false, 0) := by rw [expF_congr xWW_eq]; decide +kernel
theorem xE6 : expF wordsF 1 xLL [33, 101, 99, 104, 111, 58, 49, 45, 58, 112] = ([104, 105], true, 0) := by rw [expF_congr xWW_eq]; decide +kernel
theorem xE7 : expF wordsF 1 xLL [94, 104, 105, 94, 104, 111] = ([101, 99, 104, 111, 32, 104, 111, 32, 116, 104, 101, 114, 101], false, 0) := by rw [expF_congr xWW_eq]; decide +kernel
theorem xE8 : expF wordsF 1 xLL [33, 33, 58, 103, 115, 47, 104, 47, 72, 47] = ([101, 99, 72, 111, 32, 72, 105, 32, 116, 72, 101, 114, 101], false, 0) := by rw [expF_congr xWW_eq]; decide +kernel
theorem xE9 : expF wordsF 1 xLL [39, 33, 33, 39] = ([39, 33, 33, 39], false, 0) := by rw [expF_congr xWW_eq]; decide +kernel
theorem xE10 : expF wordsF 1 xLL [97, 92, 33, 98] = ([97, 92, 33, 98], false, 0) := by rw [expF_congr xWW_eq]; decide +kernel
theorem xE11 : expF wordsF 1 xLL [97, 33, 32, 98] = ([97, 33, 32, 98], false, 0) := by rw [expF_congr xWW_eq]; decide +kernel
theorem xE12 : expF wordsF 1 xLL [33, 55] = ([], false, 8) := by rw [expF_congr xWW_eq]; decide +kernel
theorem xE13 : expF wordsF 1 xLL [33, 33, 58, 120] = ([], false, 6) := by rw [expF_congr xWW_eq]; decide +kernel
theorem xE14 : expF wordsF 1 xLL [33, 33, 58, 57] = ([], false, 8) := by rw [expF_congr xWW_eq]; decide +kernel
end Go.Proofs.YtgbhjlkenfmadaaGreatDoor
