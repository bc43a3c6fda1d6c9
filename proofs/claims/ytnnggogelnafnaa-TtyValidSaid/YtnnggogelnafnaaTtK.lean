/- Terminals as arguments of a law. -/
import Derived.Test.YtnnggogelnafnaaTtJ
namespace Go.Proofs.Ytnnggogelnafnaa
open Go.ChangeShapes Go.WideShapes Go.ChangeAt Go.RowKit
set_option linter.unusedVariables false
set_option linter.unusedSimpArgs false
theorem knob : ownKnob Try.prog.godebug = none := by kernel_rfl
theorem laidOut : laidOutB Try.prog = true := by kernel_rfl
def shT : Sh := .ag (.cons (.int .i64) (.cons (.int .i64) (.cons .str (.cons (.sl 1 .str) (.cons .str (.cons .bool .nil))))))
section
variable {H : Type}
def ttyOf (d : DataW H) : Tty := ⟨toInt (hd (toParts d)), toInt (hd (toParts d).tail), toBytes (hd (toParts d).tail.tail), (toList (hd (toParts d).tail.tail.tail)).map toBytes, toBytes (hd (toParts d).tail.tail.tail.tail), toBool (hd (toParts d).tail.tail.tail.tail.tail)⟩
theorem flat_one {α : Type} (l : List α) (f : α → AV) : (l.flatMap fun d => [f d]) = l.map f := by
  induction l with
  | nil => rfl
  | cons x l ih => rw [List.flatMap_cons, ih]; rfl
theorem avA_tty (d : DataW H) : avA shT d = dT (ttyOf d) := by
  simp only [avA, shT, avL, hd, dT, ttyOf, List.map_map, List.length_map, flat_one, List.cons_append, List.nil_append]
  rfl
theorem szd_tty {d : DataW H} (h : Szd shT [d]) : TBd (ttyOf d) := by
  simp only [shT, Szd] at h
  obtain ⟨_, _, h1, ⟨h2, h3⟩, h4, _⟩ := h
  refine ⟨h1, h4, fun x hx => ?_, by simp only [ttyOf, List.length_map]; exact h2⟩
  simp only [ttyOf, List.mem_map] at hx
  obtain ⟨y, hy, rfl⟩ := hx
  exact h3 y hy
end
end Go.Proofs.Ytnnggogelnafnaa
