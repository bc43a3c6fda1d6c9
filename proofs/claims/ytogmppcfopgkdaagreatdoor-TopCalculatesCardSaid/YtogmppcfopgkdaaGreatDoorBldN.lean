/- The contracts of the library's Builder at this program: copyCheck, String. -/
import Derived.Test.YtogmppcfopgkdaaGreatDoorMgD
import Derived.Test.YtogmppcfopgkdaaGreatDoorTypes
import Derived.Shelf.Strings.Builder1
import Derived.Shelf.Strings.OnBuilder
import Derived.Test.YtogmppcfopgkdaaGreatDoorStEq
namespace Go.Proofs.YtogmppcfopgkdaaGreatDoor
open Go.Shelf Go.RowKit
set_option linter.unusedVariables false
set_option linter.unusedSimpArgs false
def shl169_ren : Go.Shelf.Ren := ⟨fun | 169 => 78 | n => n, fun | 70 => 149 | 9 => 9 | 0 => 0 | 72 => 151 | 37 => 114 | 127 => 220 | 3 => 3 | 5 => 5 | n => n, fun | n => n⟩
theorem shl169 : Go.Proofs.Lays.n169 Tryz.prog shl169_ren := {
  mixed := by kernel_rfl
  f169 := Tryz.func78.trans (congrArg some (by kernel_rfl))
  t0 := Tryz.underlying0
  a0 := Tryz.isAgg0
  z0 := Tryz.sizeOf0
  v0 := Tryz.zeroValue0
  t3 := Tryz.underlying3
  a3 := Tryz.isAgg3
  z3 := Tryz.sizeOf3
  v3 := Tryz.zeroValue3
  t9 := Tryz.underlying9
  a9 := Tryz.isAgg9
  z9 := Tryz.sizeOf9
  v9 := Tryz.zeroValue9
  t37 := Tryz.underlying114
  a37 := Tryz.isAgg114
  z37 := Tryz.sizeOf114
  v37 := Tryz.zeroValue114
  t70 := Tryz.underlying149
  a70 := Tryz.isAgg149
  z70 := Tryz.sizeOf149
  v70 := Tryz.zeroValue149
  t72 := Tryz.underlying151
  a72 := Tryz.isAgg151
  z72 := Tryz.sizeOf151
  v72 := Tryz.zeroValue151
  t127 := Tryz.underlying220
  a127 := Tryz.isAgg220
  z127 := Tryz.sizeOf220
  v127 := Tryz.zeroValue220 }
theorem bld_Extra_169 : Builder.Extra Tryz.prog shl169_ren := {
  sizeBuilder := by kernel_rfl
  liesBuilder := by kernel_rfl
  t5 := Tryz.underlying5
  a5 := Tryz.isAgg5
  z5 := Tryz.sizeOf5
  v5 := Tryz.zeroValue5
  infoByte := by kernel_rfl
  cellsByte := by kernel_rfl
  sizeByte := by kernel_rfl
  neB5 := by decide }
theorem bld_String_any (B b : Nat) (l : List UInt8) (w : World) (h : Lib.IsBuilder 151 5 B b (Lib.byteCells l) w) (hBw : B ≤ w.heap.size) :
    Calls Tryz.prog 78 #[.pointer (some ⟨b, 0, none⟩)] w fun e w' => e = .returned (.string ⟨l.toArray⟩) ∧ Below B w w' := Any.Builder_String_any shl169 bld_Extra_169 B b l w h hBw
def shl240_ren : Go.Shelf.Ren := ⟨fun | 240 => 125 | 276 => 184 | n => n, fun | 0 => 0 | 4 => 4 | 9 => 9 | 20 => 20 | 37 => 114 | 70 => 149 | 72 => 151 | 164 => 284 | n => n, fun | n => n⟩
theorem shl240 : Go.Proofs.Lays.n240 Tryz.prog shl240_ren := {
  mixed := by kernel_rfl
  f240 := Tryz.func125.trans (congrArg some (by kernel_rfl))
  f276 := Tryz.func184.trans (congrArg some (by kernel_rfl))
  t0 := Tryz.underlying0
  a0 := Tryz.isAgg0
  z0 := Tryz.sizeOf0
  v0 := Tryz.zeroValue0
  t4 := Tryz.underlying4
  a4 := Tryz.isAgg4
  z4 := Tryz.sizeOf4
  v4 := Tryz.zeroValue4
  t9 := Tryz.underlying9
  a9 := Tryz.isAgg9
  z9 := Tryz.sizeOf9
  v9 := Tryz.zeroValue9
  t20 := Tryz.underlying20
  a20 := Tryz.isAgg20
  z20 := Tryz.sizeOf20
  v20 := Tryz.zeroValue20
  t70 := Tryz.underlying149
  a70 := Tryz.isAgg149
  z70 := Tryz.sizeOf149
  v70 := Tryz.zeroValue149
  t72 := Tryz.underlying151
  a72 := Tryz.isAgg151
  z72 := Tryz.sizeOf151
  v72 := Tryz.zeroValue151
  t164 := Tryz.underlying284
  a164 := Tryz.isAgg284
  z164 := Tryz.sizeOf284
  v164 := Tryz.zeroValue284 }
theorem bld_X72_240 : Builder.X72 Tryz.prog shl240_ren := {
  sizeBuilder := by kernel_rfl
  liesBuilder := by kernel_rfl }
end Go.Proofs.YtogmppcfopgkdaaGreatDoor
/- strings.Builder's WriteString and String, strings.Contains and strings.Join at this program, for the abstract machine. -/
namespace Go.Proofs.YtogmppcfopgkdaaGreatDoor
open Go.RowKit
set_option linter.unusedVariables false
set_option linter.unusedSimpArgs false
abbrev tBld : TypeId := 151
theorem cc_calls (b : Nat) (v p : Value) (w : World) (hp : p = .pointer none ∨ p = .pointer (some ⟨b, 0, none⟩)) (hb : w.heap[b]? = some (.cells #[p, v] 151 (0, 0))) :
    Calls Tryz.prog 125 #[.pointer (some ⟨b, 0, none⟩)] w fun e w' => e = .returned (.tuple #[]) ∧ w'.heap[b]? = some (.cells #[.pointer (some ⟨b, 0, none⟩), v] 151 (0, 0)) ∧ Keeps w w' (fun x => x = b) := by
  rcases hp with rfl | rfl
  · refine (Any.Builder_copyCheck_fresh shl240 bld_X72_240 b w (by simp [World.cell?, hb]) (by simp [World.shape?, hb]; rfl) (by simp [World.frozen?, hb])).mono ?_
    rintro e w' ⟨rfl, rfl⟩
    refine ⟨rfl, by simp [World.setCell, Array.getElem?_modify, hb], rfl, rfl, rfl, by simp [World.setCell], fun k hk hn => ?_⟩
    exact Below.heap_setCell _ _ _ _ (fun e => hn e)
  · refine (Any.Builder_copyCheck_used shl240 bld_X72_240 b w (by simp [World.cell?, hb])).mono ?_
    rintro e w' ⟨rfl, rfl⟩
    exact ⟨rfl, hb, Keeps.refl _ _⟩
theorem row_kept {B : Nat} {e : TypeId} {v : Value} {n : Nat} {xs : List Value} {w w' : World} (h : w.ownsRow B e 1 v n xs) (hg : ∀ g, v.ownBlock = some g → w'.heap[g]? = w.heap[g]?) : w'.ownsRow B e 1 v n xs := by
  refine ⟨h.1, ?_⟩
  rcases h.2 with h | ⟨g', cap, cur, rfl, q1, q2, q3⟩
  · exact .inl h
  · exact .inr ⟨g', cap, cur, rfl, q1, (hg g' (by simp [Value.ownBlock])).trans q2, q3⟩
set_option maxHeartbeats 2000000 in
set_option maxRecDepth 100000 in
theorem ws_wrs : WrS Tryz.prog 151 5 77 := ⟨by kernel_rfl, fun B b v l s w h hl hBw => by
  obtain ⟨hB, ⟨p, hp, hbk⟩, hown, hne, hcap⟩ := h
  obtain ⟨i0, hi, hz0, hz1, hz2⟩ := info_parts bld_Extra_169.infoByte
  have hcc := cc_calls b v p w hp hbk
  have hblt : b < w.heap.size := by
    rcases Nat.lt_or_ge b w.heap.size with h' | h'
    · exact h'
    · simp [Array.getElem?_eq_none h'] at hbk
  go_enter Tryz.func77, Tryz.ntmps77
  go_wp2_with (go_at_call 125; refine hcc.mono ?_)
  rintro e w1 ⟨rfl, hb1, hk1⟩
  have hlt : ∀ g, v.ownBlock = some g → g < w.heap.size := fun g hg => by
    rcases hown.2 with ⟨rfl, _⟩ | ⟨g', cap, cur, rfl, q1, q2, _⟩
    · simp [Value.ownBlock] at hg
    · simp [Value.ownBlock] at hg
      subst hg
      rcases Nat.lt_or_ge g' w.heap.size with h' | h'
      · exact h'
      · simp [Array.getElem?_eq_none h'] at q2
  have hown1 : w1.ownsRow B 5 1 v l.length (Lib.byteCells l) := row_kept hown (fun g hg => hk1.block g (hlt g hg) (fun e => hne (by rw [← e]; exact hg)))
  have hcell : ∀ j, w1.cell? ⟨b, j, none⟩ = (#[Value.pointer (some ⟨b, 0, none⟩), v])[j]? := fun j => by simp [World.cell?, hb1]
  have c0 : w1.cell? ⟨b, 0, none⟩ = some (.pointer (some ⟨b, 0, none⟩)) := by rw [hcell]; rfl
  have c1 : w1.cell? ⟨b, 1, none⟩ = some v := by rw [hcell]; rfl
  have hsz : (str s).size = s.length := str_size s
  -- the two sayings of one append
  obtain ⟨v', w2, hr, hown2, hgrow, hnil⟩ := Lib.run_append_own_string (P := Tryz.prog) w1 B 114 9 114 5 i0 Tryz.underlying114 Tryz.underlying9 hi hz0 hz1 hz2 v l.length (Lib.byteCells l) hown1 (str s) (by unfold maxLen; omega) (by omega) (by have := hk1.size; omega)
  have hwhere : (∀ g, v'.ownBlock = some g → v.ownBlock = some g ∨ w1.heap.size ≤ g) ∧ (v' = .slice none 0 0 ∨ ∃ A n c, v' = .slice A n c ∧ 0 < c) := by
    have key : ∀ A n c, v = .slice A n c → Owns w1 0 1 A n c (Lib.byteCells l) → n = l.length → (∀ g, v'.ownBlock = some g → own A c = some g ∨ w1.heap.size ≤ g ∨ v' = .slice none 0 0 ∨ ∃ A' n', v' = .slice A' n' 0) ∧ ∃ A' n' c', v' = .slice A' n' c' ∧ n' = l.length + s.length ∧ n' ≤ c' ∧ (own A' c' = own A c ∨ own A' c' = some w1.heap.size) := fun A n c hv ho hn => by
      obtain ⟨A', c', w'', hr2, ho2, _, hw⟩ := run_append_owns (ty := 114) (elT_run (P := Tryz.prog) (t := 114) (e := (5, 1, 1)) (by kernel_rfl)).2.2.2 ho (Src.ofString (P := Tryz.prog) w1 Tryz.underlying9 (str s)) (by omega) (by show (n + (str s).size) * 1 ≤ _; omega) (Nat.zero_le _)
      rw [hv, hn] at hr
      rw [hn] at hr2
      rw [hr] at hr2
      injection hr2 with e1 e2
      refine ⟨fun g hg => ?_, A', _, c', e1, by rw [hsz], by have := ho2.1; omega, hw⟩
      rw [e1] at hg
      by_cases hc : c' = 0
      · exact .inr (.inr (.inr ⟨A', _, by rw [e1, hc]⟩))
      · rcases hw with h | h
        · left
          rw [← h, own, if_neg hc]
          cases A' with
          | none => exact absurd hg (by simp [Value.ownBlock])
          | some a => simp [Value.ownBlock] at hg; simp [hg]
        · right; left
          rw [own, if_neg hc] at h
          cases A' with
          | none => cases h
          | some a => simp [Value.ownBlock] at hg h; omega
    rcases hcap with rfl | ⟨A, n, c, rfl, hc⟩
    · have hl0 : l.length = 0 := by
        rcases hown.2 with ⟨_, h0⟩ | ⟨g', cap, cur, h', _⟩
        · exact h0
        · cases h'
      have hl1 : l = [] := List.eq_nil_of_length_eq_zero hl0
      subst hl1
      obtain ⟨k1, A', n', c', k2, k3, k4, k5⟩ := key none 0 0 rfl (Owns.nil w1 0 1) rfl
      by_cases hs : s.length = 0
      · have := hnil.2 ⟨rfl, by rw [hsz]; exact hs⟩
        subst this
        exact ⟨fun g hg => by simp [Value.ownBlock] at hg, .inl rfl⟩
      · have hc' : 0 < c' := by simp at k3; omega
        refine ⟨fun g hg => ?_, .inr ⟨A', n', c', k2, hc'⟩⟩
        rcases k1 g hg with h | h | h | ⟨A2, n2, h⟩
        · simp [own] at h
        · exact .inr h
        · rw [k2] at h; injection h with _ _ h; omega
        · rw [k2] at h; injection h with _ _ h; omega
    · have hn : n = l.length ∧ ∃ g cur, A = some ⟨g, 0, none⟩ ∧ w1.heap[g]? = some (.cells cur 5 (0, 0)) ∧ cur.size = c * 1 ∧ cur.toList.take (n * 1) = Lib.byteCells l ∧ n ≤ c ∧ c ≤ maxLen := by
        rcases hown1.2 with ⟨h', _⟩ | ⟨g', cap, cur, h', q1, q2, q3, q4, q5, q6⟩
        · injection h' with _ _ h'; omega
        · injection h' with e1 e2 e3
          subst e1; subst e2; subst e3
          exact ⟨rfl, g', cur, rfl, q2, q5, q6, q3, q4⟩
      obtain ⟨rfl, g, cur, rfl, q2, q5, q6, q3, q4⟩ := hn
      have hO : Owns w1 0 1 (some ⟨g, 0, none⟩) l.length c (Lib.byteCells l) := by
        refine ⟨q3, by unfold maxLen at q4; omega, by rw [Lib.byteCells_length, Nat.mul_one], fun _ => ⟨g, 0, rfl, Nat.zero_le _, ?_, fun j hj => ⟨?_, by simp [World.frozen?, q2]⟩, fun j u hu => ?_⟩⟩
        · rcases Nat.lt_or_ge g w1.heap.size with h' | h'
          · exact h'
          · simp [Array.getElem?_eq_none h'] at q2
        · simp only [World.cell?, q2, Nat.zero_add]
          rw [Array.getElem?_eq_getElem (by omega)]; rfl
        · simp only [World.cell?, q2, Nat.zero_add]
          rw [← q6, List.getElem?_take] at hu
          split at hu
          · rw [Array.getElem?_toList] at hu; exact hu
          · cases hu
      obtain ⟨k1, A', n', c', k2, k3, k4, k5⟩ := key _ _ _ rfl hO rfl
      have hc' : 0 < c' := by
        rcases Nat.eq_zero_or_pos c' with h | h
        · subst h
          rw [own_zero, own_pos hc] at k5
          rcases k5 with k5 | k5 <;> cases k5
        · exact h
      refine ⟨fun g' hg => ?_, .inr ⟨A', n', c', k2, hc'⟩⟩
      rcases k1 g' hg with h | h | h | ⟨A2, n2, h⟩
      · left; rw [own_pos hc] at h; simpa [Value.ownBlock] using h
      · exact .inr h
      · rw [k2] at h; injection h with _ _ h; omega
      · rw [k2] at h; injection h with _ _ h; omega
  obtain ⟨ao, n', cap, rfl⟩ : ∃ ao n' cap, v' = .slice ao n' cap := by
    rcases hown2.2 with ⟨hv, _⟩ | ⟨g, cap, cur, hv, _⟩
    · exact ⟨_, _, _, hv⟩
    · exact ⟨_, _, _, hv⟩
  have hb2 : w2.heap[b]? = some (.cells #[.pointer (some ⟨b, 0, none⟩), v] 151 (0, 0)) := by
    rw [hgrow.block b (by have := hk1.size; omega) (fun e => hne e.symm)]
    exact hb1
  have d0 : w2.cell? ⟨b, 0, none⟩ = some (.pointer (some ⟨b, 0, none⟩)) := by simp [World.cell?, hb2]
  have d1 : w2.cell? ⟨b, 1, none⟩ = some v := by simp [World.cell?, hb2]
  have f1 : w2.frozen? ⟨b, 1, none⟩ = false := by simp [World.frozen?, hb2]
  have hstep : ∀ {ops : Array Oper} {rest : List Oper} {o : Oper} {a : Act} {Q : Exit → Act → World → Prop} (sl x : Operand), o.guard = none → o.op = .call { callee := .builtin .append, args := #[sl, x], argTypes := #[114, 9] } → o.type = 114 → a.eval sl = v → a.eval x = .string (str s) →
      wpList Tryz.prog ops Q rest (a.put o.dst (.slice ao n' cap)) w2 → wpList Tryz.prog ops Q (o :: rest) a w1 := fun {ops rest o a Q} sl x hgd ho hty hs hx h => by
    refine wpList_plain hgd fun K hK => ?_
    unfold Oper.wp execOp
    simp only [ho, hty, resolve, invoke, builtin, Sem.run_bind, Sem.run_pure, Result.andThen_ok, List.map_toArray, List.map_cons, List.map_nil, hs, hx, hr]
    exact hK _ _ h
  go_wp2_with (at_builtin; refine hstep _ _ rfl rfl rfl rfl rfl ?_)
  go_ret2
  have hcells : Lib.byteCells l ++ Lib.strCells (str s) = Lib.byteCells (l ++ s) := by simp [Lib.byteCells, Lib.strCells, str]
  have hput := Lib.BuilderAt.put (T := 151) (e := 5) (B := B) (b := b) (bs' := Lib.byteCells (l ++ s)) hB hb2 (v' := .slice ao n' cap) (by rw [Lib.byteCells_length, List.length_append, ← hcells, ← hsz]; exact hown2) (by decide)
  obtain ⟨hB', v3, g1, g2, g3⟩ := hput
  have e3 : v3 = .slice ao n' cap := by
    have : (w2.setCell ⟨b, 1, none⟩ (.slice ao n' cap)).heap[b]? = some (.cells #[.pointer (some ⟨b, 0, none⟩), .slice ao n' cap] 151 (0, 0)) := by simp [World.setCell, Array.getElem?_modify, hb2]
    rw [this] at g1
    simp at g1
    exact g1.symm
  subst e3
  refine ⟨rfl, _, ⟨hB, ⟨_, .inr rfl, g1⟩, by rw [Lib.byteCells_length] at g2; exact g2, g3, hwhere.2⟩, ?_, fun g hg => ?_⟩
  · refine ⟨hgrow.os.trans hk1.os, hgrow.tape.trans hk1.tape, hgrow.output.trans hk1.output, by have := hgrow.size; have := hk1.size; simp [World.setCell]; omega, fun k hk hn => ?_⟩
    rw [Below.heap_setCell _ _ _ _ (fun e => hn (.inl e)), hgrow.block k (by have := hk1.size; omega) (fun e => hn (.inr e.symm)), hk1.block k hk (fun e => hn (.inl e))]
  · rcases hwhere.1 g hg with h | h
    · exact .inl h
    · exact .inr (by have := hk1.size; omega)⟩
theorem zBld : zT Tryz.prog 151 = some [.pointer none, .slice none 0 0] := by kernel_rfl
theorem str_wrt : WrT Tryz.prog 151 5 78 := ⟨by kernel_rfl, fun B b l w h hBw => bld_String_any B b l w h hBw⟩
end Go.Proofs.YtogmppcfopgkdaaGreatDoor
