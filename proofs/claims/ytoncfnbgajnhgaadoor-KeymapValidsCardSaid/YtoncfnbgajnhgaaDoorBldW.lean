/- strings.Builder's WriteByte at this program, for the abstract machine. -/
import Derived.Test.YtoncfnbgajnhgaaDoorBldN
namespace Go.Proofs.YtoncfnbgajnhgaaDoor
open Go.RowKit
set_option linter.unusedVariables false
set_option linter.unusedSimpArgs false
set_option maxHeartbeats 2000000 in
set_option maxRecDepth 100000 in
theorem wb_wrb : WrB Tryd.prog 53 5 27 := ⟨by kernel_rfl, fun B b v l z w h hl hBw => by
  obtain ⟨hB, ⟨p, hp, hbk⟩, hown, hne, hcap⟩ := h
  obtain ⟨i0, hi, hz0, hz1, hz2⟩ := info_parts bld_Extra_169.infoByte
  have hcc := cc_calls b v p w hp hbk
  have hblt : b < w.heap.size := by
    rcases Nat.lt_or_ge b w.heap.size with h' | h'
    · exact h'
    · simp [Array.getElem?_eq_none h'] at hbk
  go_enter Tryd.func27, Tryd.ntmps27
  go_wp2_with (go_at_call 46; refine hcc.mono ?_)
  rintro e w1 ⟨rfl, hb1, hk1⟩
  have hlt : ∀ g, v.ownBlock = some g → g < w.heap.size := fun g hg => by
    rcases hown.2 with ⟨rfl, _⟩ | ⟨g', cap, cur, rfl, q1, q2, _⟩
    · simp [Value.ownBlock] at hg
    · simp [Value.ownBlock] at hg
      subst hg
      rcases Nat.lt_or_ge g' w.heap.size with h' | h'
      · exact h'
      · simp [Array.getElem?_eq_none h'] at q2
  have hown1 : w1.ownsRow B 5 1 v l.length (Lib.byteCells l) := row_kept hown (fun g hg => hk1.block g (hlt g hg) (fun e => hne (by rw [← e]; exact hg)))
  have m0 : w1.cell? ⟨b, 0, none⟩ = some (.pointer (some ⟨b, 0, none⟩)) := by simp [World.cell?, hb1]
  have m1 : w1.cell? ⟨b, 1, none⟩ = some v := by simp [World.cell?, hb1]
  obtain ⟨W, hW⟩ : ∃ W, W = w1.alloc (.cells #[.int .u8 z.toNat] 5) := ⟨_, rfl⟩
  have hblt1 : b < w1.heap.size := by have := hk1.size; omega
  have hWs : W.heap.size = w1.heap.size + 1 := by rw [hW, World.size_alloc]
  have hWk : ∀ g, g < w1.heap.size → W.heap[g]? = w1.heap[g]? := fun g hg => by rw [hW]; exact heap_alloc_old w1 _ hg
  have hkW : Keeps w W (fun x => x = b) := by rw [hW]; exact hk1.alloc _
  have hbW : W.heap[b]? = some (.cells #[.pointer (some ⟨b, 0, none⟩), v] 53 (0, 0)) := (hWk b hblt1).trans hb1
  have hownW : W.ownsRow B 5 1 v l.length (Lib.byteCells l) := row_kept hown1 (fun g hg => hWk g (by have := hlt g hg; have := hk1.size; omega))
  have hnew : ∀ (j : Nat) (u : Value), [Value.int .u8 z.toNat][j]? = some u → W.cell? ((⟨w1.heap.size, 0, none⟩ : Addr).add j) = some u := fun j u hj => by
    rcases j with _ | j
    · simp only [List.getElem?_cons_zero, Option.some.injEq] at hj
      subst hj
      rw [hW, Addr.add_lit, World.cell?_alloc_new]; rfl
    · simp at hj
  have hcell : ∀ j, W.cell? ⟨b, j, none⟩ = (#[Value.pointer (some ⟨b, 0, none⟩), v])[j]? := fun j => by simp [World.cell?, hbW]
  have c0 : W.cell? ⟨b, 0, none⟩ = some (.pointer (some ⟨b, 0, none⟩)) := by rw [hcell]; rfl
  have c1 : W.cell? ⟨b, 1, none⟩ = some v := by rw [hcell]; rfl
  -- the two sayings of one append
  obtain ⟨v', w2, hr, hown2, hgrow, hnil⟩ := run_append_own (P := Tryd.prog) W B 46 46 5 i0 (.int .u8 0) 1 1 Tryd.underlying46 hi hz0 hz1 hz2 rfl (by omega) v l.length (Lib.byteCells l) hownW ⟨w1.heap.size, 0, none⟩ 1 1 [.int .u8 z.toNat] rfl hnew (fun u hu => by simp only [List.mem_singleton] at hu; subst hu; rfl) (by unfold maxLen; omega) (by omega) (by have := hkW.size; omega)
  have hwhere : (∀ g, v'.ownBlock = some g → v.ownBlock = some g ∨ W.heap.size ≤ g) ∧ (v' = .slice none 0 0 ∨ ∃ A n c, v' = .slice A n c ∧ 0 < c) := by
    have key : ∀ A n c, v = .slice A n c → Owns W 0 1 A n c (Lib.byteCells l) → n = l.length → (∀ g, v'.ownBlock = some g → own A c = some g ∨ W.heap.size ≤ g ∨ v' = .slice none 0 0 ∨ ∃ A' n', v' = .slice A' n' 0) ∧ ∃ A' n' c', v' = .slice A' n' c' ∧ n' = l.length + 1 ∧ n' ≤ c' ∧ (own A' c' = own A c ∨ own A' c' = some W.heap.size) := fun A n c hv ho hn => by
      obtain ⟨A', c', w'', hr2, ho2, _, hw⟩ := run_append_owns (ty := 46) (elT_run (P := Tryd.prog) (t := 46) (e := (5, 1, 1)) (by kernel_rfl)).2.2.2 ho (Src.ofSlice (P := Tryd.prog) W Tryd.underlying46 ⟨w1.heap.size, 0, none⟩ 1 1 [.int .u8 z.toNat] rfl hnew (fun u hu => by simp only [List.mem_singleton] at hu; subst hu; rfl)) (by omega) (by show (n + 1) * 1 ≤ _; omega) (Nat.zero_le _)
      rw [hv, hn] at hr
      rw [hn] at hr2
      rw [hr] at hr2
      injection hr2 with e1 e2
      refine ⟨fun g hg => ?_, A', _, c', e1, rfl, by have := ho2.1; omega, hw⟩
      rw [e1] at hg
      by_cases hc : c' = 0
      · exact .inr (.inr (.inr ⟨A', _, by rw [e1, hc]⟩))
      · rcases hw with h | h
        · left
          rw [← h, own, if_neg hc]
          cases A' with
          | none => exact absurd hg (by simp [Value.ownBlock])
          | some a => simp [Value.ownBlock] at hg; simp [hg]
        · right; left
          rw [own, if_neg hc] at h
          cases A' with
          | none => cases h
          | some a => simp [Value.ownBlock] at hg h; omega
    rcases hcap with rfl | ⟨A, n, c, rfl, hc⟩
    · have hl0 : l.length = 0 := by
        rcases hown.2 with ⟨_, h0⟩ | ⟨g', cap, cur, h', _⟩
        · exact h0
        · cases h'
      have hl1 : l = [] := List.eq_nil_of_length_eq_zero hl0
      subst hl1
      obtain ⟨k1, A', n', c', k2, k3, k4, k5⟩ := key none 0 0 rfl (Owns.nil W 0 1) rfl
      have hc' : 0 < c' := by simp at k3; omega
      refine ⟨fun g hg => ?_, .inr ⟨A', n', c', k2, hc'⟩⟩
      rcases k1 g hg with h | h | h | ⟨A2, n2, h⟩
      · simp [own] at h
      · exact .inr h
      · rw [k2] at h; injection h with _ _ h; omega
      · rw [k2] at h; injection h with _ _ h; omega
    · have hn : n = l.length ∧ ∃ g cur, A = some ⟨g, 0, none⟩ ∧ W.heap[g]? = some (.cells cur 5 (0, 0)) ∧ cur.size = c * 1 ∧ cur.toList.take (n * 1) = Lib.byteCells l ∧ n ≤ c ∧ c ≤ maxLen := by
        rcases hownW.2 with ⟨h', _⟩ | ⟨g', cap, cur, h', q1, q2, q3, q4, q5, q6⟩
        · injection h' with _ _ h'; omega
        · injection h' with e1 e2 e3
          subst e1; subst e2; subst e3
          exact ⟨rfl, g', cur, rfl, q2, q5, q6, q3, q4⟩
      obtain ⟨rfl, g, cur, rfl, q2, q5, q6, q3, q4⟩ := hn
      have hO : Owns W 0 1 (some ⟨g, 0, none⟩) l.length c (Lib.byteCells l) := by
        refine ⟨q3, by unfold maxLen at q4; omega, by rw [Lib.byteCells_length, Nat.mul_one], fun _ => ⟨g, 0, rfl, Nat.zero_le _, ?_, fun j hj => ⟨?_, by simp [World.frozen?, q2]⟩, fun j u hu => ?_⟩⟩
        · rcases Nat.lt_or_ge g W.heap.size with h' | h'
          · exact h'
          · simp [Array.getElem?_eq_none h'] at q2
        · simp only [World.cell?, q2, Nat.zero_add]
          rw [Array.getElem?_eq_getElem (by omega)]; rfl
        · simp only [World.cell?, q2, Nat.zero_add]
          rw [← q6, List.getElem?_take] at hu
          split at hu
          · rw [Array.getElem?_toList] at hu; exact hu
          · cases hu
      obtain ⟨k1, A', n', c', k2, k3, k4, k5⟩ := key _ _ _ rfl hO rfl
      have hc' : 0 < c' := by
        rcases Nat.eq_zero_or_pos c' with h | h
        · subst h
          rw [own_zero, own_pos hc] at k5
          rcases k5 with k5 | k5 <;> cases k5
        · exact h
      refine ⟨fun g' hg => ?_, .inr ⟨A', n', c', k2, hc'⟩⟩
      rcases k1 g' hg with h | h | h | ⟨A2, n2, h⟩
      · left; rw [own_pos hc] at h; simpa [Value.ownBlock] using h
      · exact .inr h
      · rw [k2] at h; injection h with _ _ h; omega
      · rw [k2] at h; injection h with _ _ h; omega
  obtain ⟨ao, n', cap, rfl⟩ : ∃ ao n' cap, v' = .slice ao n' cap := by
    rcases hown2.2 with ⟨hv, _⟩ | ⟨g, cap, cur, hv, _⟩
    · exact ⟨_, _, _, hv⟩
    · exact ⟨_, _, _, hv⟩
  have hb2 : w2.heap[b]? = some (.cells #[.pointer (some ⟨b, 0, none⟩), v] 53 (0, 0)) := by
    rw [hgrow.block b (by have := hkW.size; omega) (fun e => hne e.symm)]
    exact hbW
  have d0 : w2.cell? ⟨b, 0, none⟩ = some (.pointer (some ⟨b, 0, none⟩)) := by simp [World.cell?, hb2]
  have d1 : w2.cell? ⟨b, 1, none⟩ = some v := by simp [World.cell?, hb2]
  have f1 : w2.frozen? ⟨b, 1, none⟩ = false := by simp [World.frozen?, hb2]
  subst hW
  have hstep : ∀ {ops : Array Oper} {rest : List Oper} {o : Oper} {a : Act} {Q : Exit → Act → World → Prop} (sl x : Operand), o.guard = none → o.op = .call { callee := .builtin .append, args := #[sl, x], argTypes := #[46, 46] } → o.type = 46 → a.eval sl = v → a.eval x = .slice (some ⟨w1.heap.size, 0, none⟩) 1 1 →
      wpList Tryd.prog ops Q rest (a.put o.dst (.slice ao n' cap)) w2 → wpList Tryd.prog ops Q (o :: rest) a (w1.alloc (.cells #[.int .u8 z.toNat] 5)) := fun {ops rest o a Q} sl x hgd ho hty hs hx h => by
    refine wpList_plain hgd fun K hK => ?_
    unfold Oper.wp execOp
    simp only [ho, hty, resolve, invoke, builtin, Sem.run_bind, Sem.run_pure, Result.andThen_ok, List.map_toArray, List.map_cons, List.map_nil, hs, hx, hr]
    exact hK _ _ h
  go_wp2_with (at_builtin; refine hstep _ _ rfl rfl rfl rfl rfl ?_)
  go_ret
  have hcells : Lib.byteCells l ++ [Value.int .u8 z.toNat] = Lib.byteCells (l ++ [z]) := by simp [Lib.byteCells]
  have hput := Lib.BuilderAt.put (T := 53) (e := 5) (B := B) (b := b) (bs' := Lib.byteCells (l ++ [z])) hB hb2 (v' := .slice ao n' cap) (by rw [Lib.byteCells_length, List.length_append, ← hcells]; exact hown2) (by decide)
  obtain ⟨hB', v3, g1, g2, g3⟩ := hput
  have e3 : v3 = .slice ao n' cap := by
    have : (w2.setCell ⟨b, 1, none⟩ (.slice ao n' cap)).heap[b]? = some (.cells #[.pointer (some ⟨b, 0, none⟩), .slice ao n' cap] 53 (0, 0)) := by simp [World.setCell, Array.getElem?_modify, hb2]
    rw [this] at g1
    simp at g1
    exact g1.symm
  subst e3
  refine ⟨rfl, _, ⟨hB, ⟨_, .inr rfl, g1⟩, by rw [Lib.byteCells_length] at g2; exact g2, g3, hwhere.2⟩, ?_, fun g hg => ?_⟩
  · refine ⟨hgrow.os.trans hkW.os, hgrow.tape.trans hkW.tape, hgrow.output.trans hkW.output, by have := hgrow.size; have := hkW.size; simp [World.setCell]; omega, fun k hk hn => ?_⟩
    rw [Below.heap_setCell _ _ _ _ (fun e => hn (.inl e)), hgrow.block k (by have := hkW.size; omega) (fun e => hn (.inr e.symm)), hkW.block k hk (fun e => hn (.inl e))]
  · rcases hwhere.1 g hg with h | h
    · exact .inl h
    · exact .inr (by have := hkW.size; omega)⟩
end Go.Proofs.YtoncfnbgajnhgaaDoor
