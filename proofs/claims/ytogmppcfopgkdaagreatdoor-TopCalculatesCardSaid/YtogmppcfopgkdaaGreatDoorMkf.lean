/- The abstract machine: function values are made. No program is named here. -/
import Derived.Test.YtogmppcfopgkdaaGreatDoorMap
namespace Go.Proofs.YtogmppcfopgkdaaGreatDoor
open Go.RowKit
set_option linter.unusedVariables false
set_option linter.unusedSimpArgs false
section
variable {P : Program} {f : FuncId} {fr : List (Nat × AV)} {hp : Hp} {nt : Nat} {fx : List Nat} {o : Oper} {ops : Array Oper} {rest : List Oper} {d : Nat} {caps : List Operand} {cs : List AV}
theorem ev_mkfX (ho : o.op = .makeFunc (.func f) #[] caps.toArray) (hd : o.dst = some d) (hf : f < bnd) (hc : opvs ⟨fr, hp, nt, fx⟩ caps = some cs) (hdn : d < nt) : ev P ⟨fr, hp, nt, fx⟩ o = some ⟨(d, .fn f cs) :: fr, hp, nt, fx⟩ := by
  obtain ⟨dst, op, ty, ps, af, g⟩ := o
  simp only at ho hd
  subst ho; subst hd
  show fin _ d (if f < bnd then (opvs ⟨fr, hp, nt, fx⟩ caps).map (.fn f) else none) = _
  rw [if_pos hf, hc]
  unfold fin
  rw [if_pos hdn]
  rfl
theorem awO_mkf {Q : Exit → St → Prop} (ho : o.op = .makeFunc (.func f) #[] caps.toArray) (hd : o.dst = some d) (hg : o.guard = none) (hf : f < bnd) (hc : opvs ⟨fr, hp, nt, fx⟩ caps = some cs) (hdn : d < nt) (h : awO P ops rest ⟨(d, .fn f cs) :: fr, hp, nt, fx⟩ Q) : awO P ops (o :: rest) ⟨fr, hp, nt, fx⟩ Q :=
  awO_ev hg (ev_mkfX ho hd hf hc hdn) h
theorem awMO_mkf {T : MT} {σ : Mo} {Q : Exit → St → Mo → Prop} (ho : o.op = .makeFunc (.func f) #[] caps.toArray) (hd : o.dst = some d) (hg : o.guard = none) (hf : f < bnd) (hc : opvs ⟨fr, hp, nt, fx⟩ caps = some cs) (hdn : d < nt) (h : awMO P T ops rest ⟨(d, .fn f cs) :: fr, hp, nt, fx⟩ σ Q) : awMO P T ops (o :: rest) ⟨fr, hp, nt, fx⟩ σ Q :=
  awMO_ev hg (ev_mkfX ho hd hf hc hdn) h
end
end Go.Proofs.YtogmppcfopgkdaaGreatDoor
