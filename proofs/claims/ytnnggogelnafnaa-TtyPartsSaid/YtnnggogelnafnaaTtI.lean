/- The examples of the chapter (awake), on the abstract machine. -/
import Derived.Test.YtnnggogelnafnaaMachT
import Derived.Test.YtnnggogelnafnaaTtH
namespace Go.Proofs.Ytnnggogelnafnaa
open Go.RowKit
set_option linter.unusedVariables false
set_option linter.unusedSimpArgs false
set_option maxRecDepth 100000
set_option maxHeartbeats 4000000
def tz : Tty := ⟨0, 0, [], [], [], false⟩
def t1 : Tty := ⟨0, 0, [], [[97, 98, 100, 10]], [], false⟩
def t2 : Tty := ⟨0, 0, [], [[100, 10]], [], false⟩
def t3 : Tty := ⟨0, 0, [99], [], [], false⟩
def t4 : Tty := ⟨0, 0, [], [[]], [], false⟩
theorem ex1 : feedF tz [97, 98, 99, 127, 100, 10] = (t1, []) := rfl
theorem ex2 : feedF tz [97, 98, 3, 99] = (t3, [2]) := rfl
theorem ex3 : feedF tz [4] = (t4, []) := rfl
theorem ex4 : readF t1 2 = (t2, [97, 98], 1) := rfl
theorem ex5 : readF t2 9 = (tz, [100, 10], 1) := rfl
theorem ex6 : readF tz 1 = (tz, [], 2) := rfl
theorem ex7 : readF t4 1 = (tz, [], 3) := rfl
abbrev zT0 : AV := .ag [.v (.int .i64 0), .v (.int .i64 0), .v (.string (str [])), .v (.slice none 0 0), .v (.string (str [])), .v (.bool false)]
theorem ca1 : Ab Try.prog 18 [zT0, az [97, 98, 99, 127, 100, 10]] (.tp [.ag [ai 0, ai 0, az [], .rd 1 [az [97, 98, 100, 10]], az [], ab false], .rd 0 []]) :=
  Fn_nz (by have := feed_ab tz [97, 98, 99, 127, 100, 10] (by decide) (by decide) (by decide); rw [ex1] at this; exact this)
theorem ca2 : Ab Try.prog 18 [zT0, az [97, 98, 3, 99]] (.tp [.ag [ai 0, ai 0, az [99], .rd 0 [], az [], ab false], .rd 1 [ai 2]]) :=
  Fn_nz (by have := feed_ab tz [97, 98, 3, 99] (by decide) (by decide) (by decide); rw [ex2] at this; exact this)
theorem ca3 : Ab Try.prog 18 [zT0, az [4]] (.tp [.ag [ai 0, ai 0, az [], .rd 1 [az []], az [], ab false], .rd 0 []]) :=
  Fn_nz (by have := feed_ab tz [4] (by decide) (by decide) (by decide); rw [ex3] at this; exact this)
theorem ca4 : Ab Try.prog 12 [.ag [ai 0, ai 0, az [], .rd 1 [az [97, 98, 100, 10]], az [], ab false], ai 2] (.tp [.ag [ai 0, ai 0, az [], .rd 1 [az [100, 10]], az [], ab false], az [97, 98], ai 1]) := by
  have := read_ab t1 2 (by decide) (by decide); rw [ex4] at this; exact this
theorem ca5 : Ab Try.prog 12 [.ag [ai 0, ai 0, az [], .rd 1 [az [100, 10]], az [], ab false], ai 9] (.tp [.ag [ai 0, ai 0, az [], .rd 0 [], az [], ab false], az [100, 10], ai 1]) := by
  have := read_ab t2 9 (by decide) (by decide); rw [ex5] at this; exact this
theorem ca6 : Ab Try.prog 12 [.ag [ai 0, ai 0, az [], .rd 0 [], az [], ab false], ai 1] (.tp [.ag [ai 0, ai 0, az [], .rd 0 [], az [], ab false], az [], ai 2]) := by
  have := read_ab tz 1 (by decide) (by decide); rw [ex6] at this; exact this
theorem ca7 : Ab Try.prog 12 [.ag [ai 0, ai 0, az [], .rd 1 [az []], az [], ab false], ai 1] (.tp [.ag [ai 0, ai 0, az [], .rd 0 [], az [], ab false], az [], ai 3]) := by
  have := read_ab t4 1 (by decide) (by decide); rw [ex7] at this; exact this
theorem ca8 : Ab Try.prog 15 [.ag [ai 0, ai 0, az [], .rd 1 [az [97, 98, 100, 10]], az [], ab false], az [111]] (.ag [ai 0, ai 0, az [], .rd 1 [az [97, 98, 100, 10]], az [111], ab false]) :=
  write_ab t1 [111] (by decide) (by decide) (by decide)
theorem awake_ab : Ab Try.prog 11 [] (ab true) := by
  refine Fn_of_aw (keep := []) Try.func11 rfl rfl (by simp [Try.ntmps11]) ?_
  simp only [num_cons, num_nil, Try.ntmps11, Try.results11]
  repeat' (first
      | ((with_reducible apply awO_ev); (· rfl); (· exact sv))
      | ((with_reducible apply awO_eqnil); (· rfl); (· rfl); (· exact sv); (· exact sv); (· exact svp); (· rfl); (· (first | decide | (simp only []; omega) | omega)); intro nb hnb; simp only [put_some])
      | ((with_reducible apply awO_neqnil); (· rfl); (· rfl); (· exact sv); (· exact sv); (· exact svp); (· rfl); (· (first | decide | (simp only []; omega) | omega)); intro nb hnb; simp only [put_some])
      | ((with_reducible apply aw_seq); intro _ _)
      | ((with_reducible apply aw_region))
      | ((with_reducible apply aw_block))
      | ((with_reducible apply awO_nil); (try simp only [CT, ↓reduceIte, Nat.reduceEqDiff]))
      | ((with_reducible apply aw_exit); (try simp only [CT, ↓reduceIte, Nat.reduceEqDiff]))
      | ((with_reducible apply aw_skip); (try simp only [CT, ↓reduceIte, Nat.reduceEqDiff]))
      | ((with_reducible apply aw_ret); (try simp only [CT, ↓reduceIte, Nat.reduceEqDiff]))
      | ((with_reducible apply awO_y); (· rfl); (· rfl); (· decide); (· exact sv); (· exact sv))
      | ((with_reducible apply awO_n); (· rfl); (· rfl); (· decide); (· exact sv); (· rfl); (· rfl); (· decide))
      | ((with_reducible apply awO_u); (· rfl); (· rfl); (· exact svr); (· rfl); (· decide))
      | ((with_reducible apply aw_cond_true); (· exact sv))
      | ((with_reducible apply aw_cond_false); (· exact sv))
      | (refine Kont.go ‹Kont _ _ _ _› _ ?_)
      | ((with_reducible apply awO_un); (· rfl); (· decide); (· exact sv))
      | ((with_reducible apply awO_c); (· rfl); (· rfl); (· exact sv); (· (first | with_reducible exact ca1 | with_reducible exact ca2 | with_reducible exact ca3 | with_reducible exact ca4 | with_reducible exact ca5 | with_reducible exact ca6 | with_reducible exact ca7 | with_reducible exact ca8)); (· rfl); (· rfl); (· rfl); (· decide))
      | ((with_reducible apply awO_f); (· rfl); (· rfl); (· exact sv); (· exact sv); (· (first | with_reducible exact ca1 | with_reducible exact ca2 | with_reducible exact ca3 | with_reducible exact ca4 | with_reducible exact ca5 | with_reducible exact ca6 | with_reducible exact ca7 | with_reducible exact ca8)); (· rfl); (· rfl); (· decide))
      | ((with_reducible apply awO_m); (· rfl); (· rfl); (· exact sv); (· (first | with_reducible exact ca1 | with_reducible exact ca2 | with_reducible exact ca3 | with_reducible exact ca4 | with_reducible exact ca5 | with_reducible exact ca6 | with_reducible exact ca7 | with_reducible exact ca8)); (· exact svq); (· exact svq); (· exact svq); (· exact svq); (· rfl); (· (first | decide | (simp only []; omega) | omega)); (with_reducible apply awO_st); (· exact svs))
      | ((with_reducible apply awO_guard); (· rfl); (· rfl); (· exact sv); all_goals (intro hg; (try simp only [Bool.not_true, Bool.not_false]); (try simp only [decide_eq_true_eq, decide_eq_false_iff_not, Bool.not_true, Bool.not_false, Bool.not_eq_true', Bool.not_eq_false', Bool.not_not] at hg); try (exfalso; omega)))
      | ((with_reducible apply aw_cond); (· exact sv); all_goals (intro hg; (try simp only [decide_eq_true_eq, decide_eq_false_iff_not, Bool.not_true, Bool.not_false, Bool.not_eq_true', Bool.not_eq_false', Bool.not_not] at hg); try (exfalso; omega)))
      | ((with_reducible apply retQ_mk); (· (first | exact .inr rfl | exact .inl rfl)); (· exact sv); (· exact sv); rotate_left; (· rfl))
      | ((with_reducible apply wk_id); (with_reducible apply retQ_mk); (· (first | exact .inr rfl | exact .inl rfl)); (· exact sv); (· exact sv); rotate_left; (· rfl))
      | ((try with_reducible apply wk_id); (with_reducible apply retQ_mk1); (· (first | exact .inr rfl | exact .inl rfl)); (· exact sv); (· exact sv); (· exact sv); (· exact sv); rotate_left; rotate_left; (· simp); (· rfl))
      | ((try with_reducible apply wk_id); (with_reducible apply retQ_mk2); (· (first | exact .inr rfl | exact .inl rfl)); (· exact sv); (· exact sv); (· exact sv); (· exact sv); (· exact sv); (· exact sv); rotate_left; rotate_left; rotate_left; (· simp); (· simp); (· rfl)))
  rfl
end Go.Proofs.Ytnnggogelnafnaa
