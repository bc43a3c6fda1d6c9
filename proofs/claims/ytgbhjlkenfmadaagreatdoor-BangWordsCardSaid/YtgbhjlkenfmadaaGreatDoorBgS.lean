/- bang: the examples of the law (awake), on the abstract machine. -/
import Derived.Test.YtgbhjlkenfmadaaGreatDoorBgR
import Derived.Test.YtgbhjlkenfmadaaGreatDoorBgQ
namespace Go.Proofs.YtgbhjlkenfmadaaGreatDoor
open Go.RowKit
set_option linter.unusedVariables false
set_option linter.unusedSimpArgs false
set_option maxRecDepth 100000
set_option maxHeartbeats 8000000
theorem lines_ab : Ab Tryz.prog 18 [] (hsA 1 xLL) := by
  refine Fn_of_aw (keep := []) Tryz.func18 rfl rfl (by simp [Tryz.ntmps18]) ?_
  simp only [num_cons, num_nil, Tryz.ntmps18, Tryz.results18]
  repeat' (first
 | ((with_reducible apply awO_pb2); (· rfl); (· exact sv); (· exact sv); (· (first | decide | omega | (simp only [flat2_len, flat3_len, flat4_len, flat5_len, flat6_len]; omega) | (simp only [elC_len, List.length_append, List.length_map, List.length_cons, List.length_nil]; omega) | (simp; done) | (simp; omega))); (· (first | rfl | exact svq)); (with_reducible apply awO_st); (· exact svs))
 | ((with_reducible apply awO_ev); (· rfl); (· exact sv))
 | ((with_reducible apply aw_seq); intro _ _)
 | (with_reducible apply aw_region)
 | ((with_reducible first | apply awO_nil | apply aw_exit | apply aw_skip | apply aw_ret); (try simp only [CT, ↓reduceIte, Nat.reduceEqDiff]))
 | (refine Kont.go ‹Kont _ _ _ _› _ ?_)
 | ((with_reducible apply retQ_mk); (· exact rI); (· exact sv); (· exact sv); rotate_left; (· rfl)))
  all_goals rfl
theorem xLL_ok : xLL.length ≤ 100000 ∧ ∀ l ∈ xLL, l.length ≤ 4096 := by
  refine ⟨by decide, fun l hl => ?_⟩
  simp only [xLL, List.mem_cons, List.not_mem_nil, or_false] at hl
  rcases hl with rfl | rfl <;> decide
theorem is_ab (s w : List UInt8) (p : Bool) (hs : s.length ≤ 100) (h : expF wordsF 1 xLL s = (w, p, 0)) : Ab Tryz.prog 19 [az s, az w, ab p] (ab true) := by
  have c1 := lines_ab
  have c2 := expand_ab 1 xLL s (by decide) xLL_ok.1 xLL_ok.2 (by omega)
  rw [h] at c2
  cases p
  · skip
    refine Fn_of_aw (keep := []) Tryz.func19 rfl rfl (by simp [Tryz.ntmps19]) ?_
    simp only [num_cons, num_nil, Tryz.ntmps19, Tryz.results19]
    repeat' (first
 | ((with_reducible apply awO_ev); (· rfl); (· exact sv))
 | ((with_reducible apply aw_seq); intro _ _)
 | (with_reducible apply aw_region)
 | ((with_reducible first | apply awO_nil | apply aw_exit | apply aw_skip | apply aw_ret); (try simp only [CT, ↓reduceIte, Nat.reduceEqDiff]))
 | ((with_reducible apply awO_y); (· rfl); (· rfl); (· decide); (· exact sv); (· exact sv))
 | ((with_reducible apply awO_n); (· rfl); (· rfl); (· decide); (· exact sv); (· rfl); (· rfl); (· decide))
 | (refine Kont.go ‹Kont _ _ _ _› _ ?_)
 | ((with_reducible apply awO_c); (· rfl); (· rfl); (· exact sv); (· (first | with_reducible exact c1 | exact c2)); (· rfl); (· rfl); (· rfl); (· decide))
 | ((first | ((with_reducible apply awO_guardN); (· rfl); (· rfl); (· exact sv); (· exact nB)) | ((with_reducible apply aw_condN); (· exact sv))); (· exact pN); (· exact pN); all_goals (intro hg; try (exfalso; omega)))
 | ((with_reducible apply retQ_mk); (· exact rI); (· exact sv); (· exact sv); rotate_left; (· rfl)))
    all_goals first | rfl | (exfalso; exact hg rfl) | (exfalso; simp at hg; done)
  · skip
    refine Fn_of_aw (keep := []) Tryz.func19 rfl rfl (by simp [Tryz.ntmps19]) ?_
    simp only [num_cons, num_nil, Tryz.ntmps19, Tryz.results19]
    repeat' (first
 | ((with_reducible apply awO_ev); (· rfl); (· exact sv))
 | ((with_reducible apply aw_seq); intro _ _)
 | (with_reducible apply aw_region)
 | ((with_reducible first | apply awO_nil | apply aw_exit | apply aw_skip | apply aw_ret); (try simp only [CT, ↓reduceIte, Nat.reduceEqDiff]))
 | ((with_reducible apply awO_y); (· rfl); (· rfl); (· decide); (· exact sv); (· exact sv))
 | ((with_reducible apply awO_n); (· rfl); (· rfl); (· decide); (· exact sv); (· rfl); (· rfl); (· decide))
 | (refine Kont.go ‹Kont _ _ _ _› _ ?_)
 | ((with_reducible apply awO_c); (· rfl); (· rfl); (· exact sv); (· (first | with_reducible exact c1 | exact c2)); (· rfl); (· rfl); (· rfl); (· decide))
 | ((first | ((with_reducible apply awO_guardN); (· rfl); (· rfl); (· exact sv); (· exact nB)) | ((with_reducible apply aw_condN); (· exact sv))); (· exact pN); (· exact pN); all_goals (intro hg; try (exfalso; omega)))
 | ((with_reducible apply retQ_mk); (· exact rI); (· exact sv); (· exact sv); rotate_left; (· rfl)))
    all_goals first | rfl | (exfalso; exact hg rfl) | (exfalso; simp at hg; done)
theorem xC0 : Ab Tryz.prog 19 [az [33, 33], az [101, 99, 104, 111, 32, 104, 105, 32, 116, 104, 101, 114, 101], ab false] (ab true) := is_ab [33, 33] [101, 99, 104, 111, 32, 104, 105, 32, 116, 104, 101, 114, 101] false (by decide) xE0
theorem xC1 : Ab Tryz.prog 19 [az [33, 49, 58, 50], az [97, 46, 99], ab false] (ab true) := is_ab [33, 49, 58, 50] [97, 46, 99] false (by decide) xE1
theorem xC2 : Ab Tryz.prog 19 [az [120, 32, 33, 36], az [120, 32, 116, 104, 101, 114, 101], ab false] (ab true) := is_ab [120, 32, 33, 36] [120, 32, 116, 104, 101, 114, 101] false (by decide) xE2
theorem xC3 : Ab Tryz.prog 19 [az [33, 108, 58, 51, 58, 116], az [99, 46, 100], ab false] (ab true) := is_ab [33, 108, 58, 51, 58, 116] [99, 46, 100] false (by decide) xE3
theorem xC4 : Ab Tryz.prog 19 [az [33, 108, 58, 51, 58, 101], az [46, 100], ab false] (ab true) := is_ab [33, 108, 58, 51, 58, 101] [46, 100] false (by decide) xE4
theorem xC5 : Ab Tryz.prog 19 [az [33, 63, 104, 105, 63, 58, 42], az [104, 105, 32, 116, 104, 101, 114, 101], ab false] (ab true) := is_ab [33, 63, 104, 105, 63, 58, 42] [104, 105, 32, 116, 104, 101, 114, 101] false (by decide) xE5
theorem xC6 : Ab Tryz.prog 19 [az [33, 101, 99, 104, 111, 58, 49, 45, 58, 112], az [104, 105], ab true] (ab true) := is_ab [33, 101, 99, 104, 111, 58, 49, 45, 58, 112] [104, 105] true (by decide) xE6
theorem xC7 : Ab Tryz.prog 19 [az [94, 104, 105, 94, 104, 111], az [101, 99, 104, 111, 32, 104, 111, 32, 116, 104, 101, 114, 101], ab false] (ab true) := is_ab [94, 104, 105, 94, 104, 111] [101, 99, 104, 111, 32, 104, 111, 32, 116, 104, 101, 114, 101] false (by decide) xE7
theorem xC8 : Ab Tryz.prog 19 [az [33, 33, 58, 103, 115, 47, 104, 47, 72, 47], az [101, 99, 72, 111, 32, 72, 105, 32, 116, 72, 101, 114, 101], ab false] (ab true) := is_ab [33, 33, 58, 103, 115, 47, 104, 47, 72, 47] [101, 99, 72, 111, 32, 72, 105, 32, 116, 72, 101, 114, 101] false (by decide) xE8
theorem xC9 : Ab Tryz.prog 19 [az [39, 33, 33, 39], az [39, 33, 33, 39], ab false] (ab true) := is_ab [39, 33, 33, 39] [39, 33, 33, 39] false (by decide) xE9
theorem xC10 : Ab Tryz.prog 19 [az [97, 92, 33, 98], az [97, 92, 33, 98], ab false] (ab true) := is_ab [97, 92, 33, 98] [97, 92, 33, 98] false (by decide) xE10
theorem xC11 : Ab Tryz.prog 19 [az [97, 33, 32, 98], az [97, 33, 32, 98], ab false] (ab true) := is_ab [97, 33, 32, 98] [97, 33, 32, 98] false (by decide) xE11
theorem xC12 : Ab Tryz.prog 11 [hsA 1 xLL, az [33, 55]] (.tp [az [], ab false, ai 8]) := by
  have := expand_ab 1 xLL [33, 55] (by decide) xLL_ok.1 xLL_ok.2 (by decide)
  rwa [xE12] at this
theorem xC13 : Ab Tryz.prog 11 [hsA 1 xLL, az [33, 33, 58, 120]] (.tp [az [], ab false, ai 6]) := by
  have := expand_ab 1 xLL [33, 33, 58, 120] (by decide) xLL_ok.1 xLL_ok.2 (by decide)
  rwa [xE13] at this
theorem xC14 : Ab Tryz.prog 11 [hsA 1 xLL, az [33, 33, 58, 57]] (.tp [az [], ab false, ai 8]) := by
  have := expand_ab 1 xLL [33, 33, 58, 57] (by decide) xLL_ok.1 xLL_ok.2 (by decide)
  rwa [xE14] at this
theorem awake4_ab : Ab Tryz.prog 9 [] (ab true) := by
  have c1 := lines_ab
  refine Fn_of_aw (keep := []) Tryz.func9 rfl rfl (by simp [Tryz.ntmps9]) ?_
  simp only [num_cons, num_nil, Tryz.ntmps9, Tryz.results9]
  repeat' (first
 | ((with_reducible apply awO_ev); (· rfl); (· exact sv))
 | ((with_reducible apply aw_seq); intro _ _)
 | (with_reducible apply aw_region)
 | ((with_reducible first | apply awO_nil | apply aw_exit | apply aw_skip | apply aw_ret); (try simp only [CT, ↓reduceIte, Nat.reduceEqDiff]))
 | ((with_reducible apply awO_y); (· rfl); (· rfl); (· decide); (· exact sv); (· exact sv))
 | ((with_reducible apply awO_un); (· rfl); (· decide); (· exact sv))
 | (refine Kont.go ‹Kont _ _ _ _› _ ?_)
 | ((with_reducible apply awO_c); (· rfl); (· rfl); (· exact sv); (· (first | with_reducible exact c1 | with_reducible exact xC0 | with_reducible exact xC1 | with_reducible exact xC2 | with_reducible exact xC3 | with_reducible exact xC4 | with_reducible exact xC5 | with_reducible exact xC6 | with_reducible exact xC7 | with_reducible exact xC8 | with_reducible exact xC9 | with_reducible exact xC10 | with_reducible exact xC11 | with_reducible exact xC12 | with_reducible exact xC13 | with_reducible exact xC14)); (· rfl); (· rfl); (· rfl); (· decide))
 | ((with_reducible apply retQ_mk); (· exact rI); (· exact sv); (· exact sv); rotate_left; (· rfl)))
  all_goals rfl
end Go.Proofs.YtgbhjlkenfmadaaGreatDoor
