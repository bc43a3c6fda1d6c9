/- The package variables that are known when a law begins: bytealg.MaxLen is an integer; strconv.uint64pow10 holds the powers of ten. -/
import Derived.Test.YtogmppcfopgkdaaGreatDoorBase
import Derived.Lib.ItoaMem
namespace Go.Proofs.YtogmppcfopgkdaaGreatDoor
/-- The blocks of the known variables, with what is known of their cells. -/
def gTab : List (Nat × List (Value → Prop)) := [(0, [fun v => ∃ m, v = .int .i64 m])]
/-- The cells of the variables whose values are known. -/
def gVal : Nat → List Value := fun b => if b = 1 then Lib.pow10Tab.map fun z => .int .u64 z else []
end Go.Proofs.YtogmppcfopgkdaaGreatDoor
/- Package variables that are known. No program is named here. -/
namespace Go.Proofs.YtogmppcfopgkdaaGreatDoor
open Go.RowKit
set_option linter.unusedVariables false
set_option linter.unusedSimpArgs false
def gblk (b : Nat) : Prop := (∃ p ∈ gTab, p.1 = b) ∨ gVal b ≠ []
/-- The known variables hold what is known of them. -/
def Glob (w : World) : Prop := (∀ p ∈ gTab, p.1 < w.heap.size ∧ ∀ (j : Nat) (φ : Value → Prop), p.2[j]? = some φ → ∃ v, w.cell? ⟨p.1, j, none⟩ = some v ∧ φ v) ∧
  ∀ b, gVal b ≠ [] → b < w.heap.size ∧ (∀ (j : Nat) (x : Value), (gVal b)[j]? = some x → w.cell? ⟨b, j, none⟩ = some x) ∧ ∃ t fz, w.heap[b]? = some (.cells (gVal b).toArray t fz)
theorem Glob.lt {w : World} (h : Glob w) {b : Nat} (hb : gblk b) : b < w.heap.size := by
  rcases hb with ⟨p, hp, rfl⟩ | hb
  · exact (h.1 p hp).1
  · exact (h.2 b hb).1
theorem Glob.cell {w : World} (h : Glob w) {b j : Nat} {x : Value} (hx : (gVal b)[j]? = some x) : w.cell? ⟨b, j, none⟩ = some x :=
  (h.2 b (fun e => by rw [e] at hx; simp at hx)).2.1 j x hx
theorem Glob.blocks {w w' : World} (h : Glob w) (hs : w.heap.size ≤ w'.heap.size) (hk : ∀ b, gblk b → w'.heap[b]? = w.heap[b]?) : Glob w' := by
  refine ⟨fun p hp => ⟨Nat.lt_of_lt_of_le (h.1 p hp).1 hs, fun j φ hv => ?_⟩, fun b hb => ⟨Nat.lt_of_lt_of_le (h.2 b hb).1 hs, fun j x hv => ?_, ?_⟩⟩
  · rw [World.cell?_of_block (w := w) (a := ⟨p.1, j, none⟩) (hk p.1 (.inl ⟨p, hp, rfl⟩))]
    exact (h.1 p hp).2 j φ hv
  · rw [World.cell?_of_block (w := w) (a := ⟨b, j, none⟩) (hk b (.inr hb))]
    exact (h.2 b hb).2.1 j x hv
  · obtain ⟨t, fz, h3⟩ := (h.2 b hb).2.2
    exact ⟨t, fz, (hk b (.inr hb)).trans h3⟩
theorem Glob.keeps {w w' : World} {X : Nat → Prop} (h : Glob w) (hk : Keeps w w' X) (hx : ∀ b, X b → ¬ gblk b) : Glob w' := h.blocks hk.size fun b hb => hk.block b (h.lt hb) fun e => hx b e hb
theorem Glob.below {w w' : World} (h : Glob w) (hk : Below w.heap.size w w') : Glob w' := h.blocks hk.size fun b hb => hk.block b (h.lt hb)
end Go.Proofs.YtogmppcfopgkdaaGreatDoor
