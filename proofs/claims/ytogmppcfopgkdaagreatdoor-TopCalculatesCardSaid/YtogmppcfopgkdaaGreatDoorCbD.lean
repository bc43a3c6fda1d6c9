/- Arithmetic evaluation: the evaluator, on the abstract machine with a map. -/
import Derived.Test.YtogmppcfopgkdaaGreatDoorCbB
import Derived.Test.YtogmppcfopgkdaaGreatDoorCaI
import Derived.Test.YtogmppcfopgkdaaGreatDoorMkf
import Derived.Test.YtogmppcfopgkdaaGreatDoorCaK
import Derived.Test.YtogmppcfopgkdaaGreatDoorTsA
import Derived.Shelf.SlIter.Sorted
import Derived.Sort.KeysCollected
import Derived.Maps.AppendAt
namespace Go.Proofs.YtogmppcfopgkdaaGreatDoor
open Go.RowKit
set_option linter.unusedVariables false
set_option linter.unusedSimpArgs false
set_option maxRecDepth 100000
set_option maxHeartbeats 8000000
attribute [local go_sem] List.any_cons List.any_nil Bool.or_false Bool.false_or
abbrev TT : MT := ⟨98, 9, 9⟩
theorem mtok : MTok Tryz.prog TT := by
  refine ⟨by kernel_rfl, by kernel_rfl, by kernel_rfl, fun w => ?_⟩
  have h : ((Tryz.prog.info? 9).bind (·.zero)) = some (.string ByteArray.empty) := by kernel_rfl
  cases hq : Tryz.prog.info? 9 with
  | none => rw [hq] at h; cases h
  | some i =>
    rw [hq] at h
    have hz : i.zero = some (.string ByteArray.empty) := h
    simp [zeroValue, typeInfo, hq, hz]
abbrev fSet : FuncId := 36
abbrev fGet : FuncId := 37
abbrev evA : AV := .ag [.fn fGet [.pt 8 0], .fn fSet [.pt 8 0]]
abbrev fVal : FuncId := 38
/-- What is known of a map's sizes. -/
structure MOk (m : Mp) (N : Nat) : Prop where
  len : m.length ≤ N
  key : ∀ p ∈ m, p.1.length ≤ 5000
  val : ∀ p ∈ m, p.2.length ≤ 5000
theorem MOk.get {m : Mp} {N : Nat} (h : MOk m N) (k : List UInt8) : (getM m k).length ≤ 5000 := by
  unfold getM
  cases hf : m.find? fun p => p.1 == k with
  | none => simp
  | some p => exact h.val p (List.mem_of_find?_eq_some hf)
theorem MOk.put {m : Mp} {N : Nat} (h : MOk m N) {k v : List UInt8} (hk : k.length ≤ 5000) (hv : v.length ≤ 5000) : MOk (putM k v m) (N + 1) := by
  refine ⟨?_, fun p hp => ?_, fun p hp => ?_⟩
  · have := putM_len k v m; have := h.len; omega
  · rcases mem_putM.1 hp with rfl | ⟨hp, _⟩
    · exact hk
    · exact h.key p hp
  · rcases mem_putM.1 hp with rfl | ⟨hp, _⟩
    · exact hv
    · exact h.val p hp
theorem MOk.mono {m : Mp} {N M : Nat} (h : MOk m N) (hN : N ≤ M) : MOk m M := ⟨Nat.le_trans h.len hN, h.key, h.val⟩
/-- How numerals are written: short. -/
def NuOk (nu : Int → List UInt8) : Prop := ∀ n, I64 n → (nu n).length ≤ 5000
theorem nmB_len {s : List UInt8} (h : nmB s = true) : 1 ≤ s.length ∧ s.length ≤ 32 := by
  unfold nmB at h
  simp only [Bool.and_eq_true, decide_eq_true_eq] at h
  exact h.1.1
theorem evE_ok {nu : Int → List UInt8} (hnu : NuOk nu) : ∀ (k : Nat) (e : Ex) (m : Mp) (N : Nat), Wf e → MOk m N → I64 (evE nu k e m).1.1 ∧ MOk (evE nu k e m).2 (N + szE e)
  | 0, e, m, N, hw, hm => ⟨I64_0, hm.mono (by omega)⟩
  | k + 1, e, m, N, hw, hm => by
    have ih := evE_ok hnu k
    cases hw with
    | num n h0 h1 => exact ⟨I64_of h0 h1, hm.mono (by omega)⟩
    | var nm h => exact ⟨vrF_ok _ _, hm.mono (by omega)⟩
    | un op h ha =>
      rename_i a
      have h1 := ih a m N ha hm
      rw [evE, if_neg (by omega), if_neg (by omega)]
      simp only [szE, szEs]
      rcases hE : evE nu k a m with ⟨⟨x, e⟩, m1⟩
      rw [hE] at h1
      simp only at h1 ⊢
      split
      · exact ⟨I64_0, h1.2.mono (by omega)⟩
      repeat' split
      all_goals first | exact ⟨unF_ok _ h1.1, h1.2.mono (by omega)⟩ | (exfalso; omega)
    | bin op h ha hb =>
      rename_i a b
      have h1 := ih a m N ha hm
      rw [evE, if_neg (by omega), if_neg (by omega)]
      simp only [szE, szEs]
      rcases hE : evE nu k a m with ⟨⟨x, e⟩, m1⟩
      rw [hE] at h1
      simp only at h1 ⊢
      have h2 := ih b m1 (N + szE a) hb h1.2
      split
      · exact ⟨I64_0, h1.2.mono (by omega)⟩
      rw [if_neg (by omega), if_neg (by omega), if_neg (by omega)]
      split
      · exact ⟨I64_0, h1.2.mono (by omega)⟩
      split
      · exact ⟨I64_1, h1.2.mono (by omega)⟩
      rcases hE2 : evE nu k b m1 with ⟨⟨u, e2⟩, m2⟩
      rw [hE2] at h2
      simp only at h2 ⊢
      split
      · exact ⟨I64_0, h2.2.mono (by omega)⟩
      · exact ⟨binF_ok _ h1.1, h2.2.mono (by omega)⟩
    | cnd ha hb hc =>
      rename_i a b c
      have h1 := ih a m N ha hm
      rw [evE, if_neg (by omega), if_neg (by omega)]
      simp only [szE, szEs]
      rcases hE : evE nu k a m with ⟨⟨x, e⟩, m1⟩
      rw [hE] at h1
      simp only at h1 ⊢
      have h2 := ih b m1 (N + szE a) hb h1.2
      have h3 := ih c m1 (N + szE a) hc h1.2
      split
      · exact ⟨I64_0, h1.2.mono (by omega)⟩
      repeat' split
      all_goals first | exact ⟨h2.1, h2.2.mono (by omega)⟩ | exact ⟨h3.1, h3.2.mono (by omega)⟩ | (exfalso; omega) | (exfalso; simp at *; done)
    | set n h nm hn ha =>
      rename_i a
      have h1 := ih a m N ha hm
      rw [evE, if_neg (by omega), if_neg (by omega)]
      simp only [szE, szEs]
      rcases hE : evE nu k a m with ⟨⟨x, e⟩, m1⟩
      rw [hE] at h1
      simp only at h1 ⊢
      split
      · exact ⟨I64_0, h1.2.mono (by omega)⟩
      have ha := asF_ok n nm h1.1 m1
      have hl := nmB_len hn
      repeat' split
      all_goals first | exact ⟨I64_0, h1.2.mono (by omega)⟩ | exact ⟨ha, (h1.2.put (by omega) (hnu _ ha)).mono (by omega)⟩ | (exfalso; omega) | (exfalso; simp at *; done)
theorem opE_mk (op n : Int) (nm : List UInt8) (ks : List Ex) : opE (.mk op n nm ks) = op := rfl
theorem nE_mk (op n : Int) (nm : List UInt8) (ks : List Ex) : nE (.mk op n nm ks) = n := rfl
theorem nmE_mk (op n : Int) (nm : List UInt8) (ks : List Ex) : nmE (.mk op n nm ks) = nm := rfl
theorem ksE_mk (op n : Int) (nm : List UInt8) (ks : List Ex) : ksE (.mk op n nm ks) = ks := rfl
theorem len_two {α : Type} {l : List α} (h : l.length = 2) : ∃ a b, l = [a, b] := by
  match l, h with
  | [a, b], _ => exact ⟨a, b, rfl⟩
theorem len_three {α : Type} {l : List α} (h : l.length = 3) : ∃ a b c, l = [a, b, c] := by
  match l, h with
  | [a, b, c], _ => exact ⟨a, b, c, rfl⟩
section
variable {b : Nat} {m : Mp} {N : Nat} {nu : Int → List UInt8}
theorem set_fnM (nm v : List UInt8) (hn : nm.length ≤ 5000) (hv : v.length ≤ 5000) (hm : MOk m N) (hN : N ≤ 1000000) : FnM Tryz.prog TT fSet [az nm, az v, .pt 8 0] [(8, [mref b])] b m (.tp []) [(8, [mref b])] (putM nm v m) [8] := by
  have hml := hm.len
  refine FnM_of_awM (keep := [8]) Tryz.func36 rfl rfl (by simp [Tryz.ntmps36]) ?_
  simp only [num_cons, num_nil, Tryz.ntmps36, Tryz.results36]
  repeat' (first
 | ((with_reducible apply (awMO_upd mtok)); (· rfl); (· rfl); (· rfl); (· exact sv); (· exact sv); (· exact sv); (· omega); (· omega); (· omega); (· rfl))
 | ((with_reducible apply awMO_ev); (· rfl); (· exact sv))
 | ((with_reducible apply awM_region))
 | ((with_reducible apply awMO_nil); (try simp only [CTM, ↓reduceIte, Nat.reduceEqDiff]))
 | (with_reducible apply retM_mk)
 | ((try with_reducible apply wk_id); (with_reducible apply retQ_mk1); (· exact rI); (· exact sv); (· exact sv); (· exact sv); (· exact sv); rotate_left; rotate_left; (· simp); (· rfl)))
  any_goals exact none
  all_goals rfl
theorem get_fnM (nm : List UInt8) (hn : nm.length ≤ 5000) : FnM Tryz.prog TT fGet [az nm, .pt 8 0] [(8, [mref b])] b m (az (getM m nm)) [(8, [mref b])] m [8] := by
  refine FnM_of_awM (keep := [8]) Tryz.func37 rfl rfl (by simp [Tryz.ntmps37]) ?_
  simp only [num_cons, num_nil, Tryz.ntmps37, Tryz.results37]
  exact wkE
theorem variable_fnM (nm : List UInt8) (hn : nm.length ≤ 5000) (hm : MOk m N) : FnM Tryz.prog TT 63 [evA, az nm] [(8, [mref b])] b m (.tp [ai (vrF nm m).1, ai (vrF nm m).2]) [(8, [mref b])] m [8] := by
  have c1 := get_fnM (b := b) (m := m) nm hn
  have hg := hm.get nm
  have c2 := integer_ab (getM m nm) (by omega)
  unfold vrF
  cases hq : (intF (getM m nm)).2 with
  | true =>
    rw [hq] at c2
    simp only [if_true, Bool.false_eq_true, if_false]
    refine FnM_of_awM (keep := [8]) Tryz.func63 rfl rfl (by simp [Tryz.ntmps63]) ?_
    simp only [num_cons, num_nil, Tryz.ntmps63, Tryz.results63]
    exact wkE
  | false =>
    rw [hq] at c2
    simp only [if_true, Bool.false_eq_true, if_false]
    refine FnM_of_awM (keep := [8]) Tryz.func63 rfl rfl (by simp [Tryz.ntmps63]) ?_
    simp only [num_cons, num_nil, Tryz.ntmps63, Tryz.results63]
    exact wkE
theorem assign_fnM (k : Nat) (n : Int) (nm : List UInt8) (a : Ex) (hnu : NuOk nu) (hit : ∀ n, I64 n → Ab Tryz.prog 102 [ai n] (az (nu n))) (hnm : nmB nm = true) (hcn : n = 0 ∨ cmpB n = true) (hwa : Wf a) (hm : MOk m N) (hN : N + szE a ≤ 1000000)
    (ih : FnM Tryz.prog TT fVal [evA, exA a] [(8, [mref b])] b m (.tp [ai (evE nu k a m).1.1, ai (evE nu k a m).1.2]) [(8, [mref b])] (evE nu k a m).2 [8]) : FnM Tryz.prog TT 64 [evA, exA (.mk 26 n nm [a])] [(8, [mref b])] b m (.tp [ai (evE nu (k + 1) (.mk 26 n nm [a]) m).1.1, ai (evE nu (k + 1) (.mk 26 n nm [a]) m).1.2]) [(8, [mref b])] (evE nu (k + 1) (.mk 26 n nm [a]) m).2 [8] := by
  have h1 := evE_ok hnu k a m N hwa hm
  have hnl := nmB_len hnm
  rw [evE, if_neg (by decide), if_neg (by decide)]
  simp only [exA, exC_mk, exCs_cons, exCs_nil, List.append_nil, exC_eta, opE_mk, nE_mk, nmE_mk, ksE_mk, List.length_cons, List.length_nil] at ih ⊢
  rcases hE : evE nu k a m with ⟨⟨x, e⟩, m1⟩
  rw [hE] at h1 ih
  simp only at h1 ih ⊢
  obtain ⟨hx, hm1⟩ := h1
  by_cases he : e = 0
  rotate_left
  · rw [if_pos he]
    refine FnM_of_awM (keep := [8]) Tryz.func64 rfl rfl (by simp [Tryz.ntmps64]) ?_
    simp only [num_cons, num_nil, Tryz.ntmps64, Tryz.results64]
    exact wkE
  subst he
  simp only [ne_eq, not_true, if_false, if_true]
  have hva := vrF_ok nm m1
  have c1 := variable_fnM (b := b) nm (by omega) hm1
  unfold asF
  by_cases h0 : n = 0
  · subst h0
    rw [if_pos rfl]
    simp only [ne_eq, not_true, if_false]
    have c2 := hit x hx
    have c3 := set_fnM (b := b) nm (nu x) (by omega) (hnu x hx) hm1 hN
    refine FnM_of_awM (keep := [8]) Tryz.func64 rfl rfl (by simp [Tryz.ntmps64]) ?_
    simp only [num_cons, num_nil, Tryz.ntmps64, Tryz.results64]
    exact wkE
  have hc := hcn.resolve_left h0
  rw [if_neg h0]
  by_cases hv : (vrF nm m1).2 = 0
  rotate_left
  · rw [if_pos hv]
    simp only [ne_eq, hv, not_false_eq_true, if_true]
    refine FnM_of_awM (keep := [8]) Tryz.func64 rfl rfl (by simp [Tryz.ntmps64]) ?_
    simp only [num_cons, num_nil, Tryz.ntmps64, Tryz.results64]
    exact wkE
  rw [if_neg (show ¬ ((vrF nm m1).2 ≠ 0) from fun h => h hv)]
  rw [hv] at c1
  have h7 : 7 ≤ n ∧ n ≤ 24 := by unfold cmpB at hc; simp only [decide_eq_true_eq] at hc; omega
  have c4 := binary_ab n (vrF nm m1).1 x h7.1 h7.2
  have hbx := binF_ok n (b := x) hva
  generalize vrF nm m1 = V at *
  obtain ⟨v1, v2⟩ := V
  simp only at c1 c4 hbx hv ⊢
  generalize binF n v1 x = B at *
  obtain ⟨b1, b2⟩ := B
  simp only at c4 hbx ⊢
  by_cases hb : b2 = 0
  rotate_left
  · rw [if_pos hb]
    simp only [ne_eq, hb, not_false_eq_true, if_true]
    refine FnM_of_awM (keep := [8]) Tryz.func64 rfl rfl (by simp [Tryz.ntmps64]) ?_
    simp only [num_cons, num_nil, Tryz.ntmps64, Tryz.results64]
    exact wkE
  subst hb
  simp only [ne_eq, not_true, if_false]
  have c2 := hit b1 hbx
  have c3 := set_fnM (b := b) nm (nu b1) (by omega) (hnu b1 hbx) hm1 hN
  refine FnM_of_awM (keep := [8]) Tryz.func64 rfl rfl (by simp [Tryz.ntmps64]) ?_
  simp only [num_cons, num_nil, Tryz.ntmps64, Tryz.results64]
  exact wkE
theorem value_fnM (hnu : NuOk nu) (hit : ∀ n, I64 n → Ab Tryz.prog 102 [ai n] (az (nu n))) : ∀ (k : Nat) (e : Ex) (m : Mp) (N : Nat), dpE e ≤ k → Wf e → MOk m N → N + szE e ≤ 1000000 → FnM Tryz.prog TT fVal [evA, exA e] [(8, [mref b])] b m (.tp [ai (evE nu k e m).1.1, ai (evE nu k e m).1.2]) [(8, [mref b])] (evE nu k e m).2 [8]
  | 0, e, m, N, hd, _, _, _ => by cases e; rw [dpE] at hd; omega
  | k + 1, .mk op n nm ks, m, N, hd, hw, hm, hN => by
    have ih := value_fnM hnu hit k
    have hkw := hw.kids
    rw [dpE] at hd
    rw [szE] at hN
    rcases hw.facts with ⟨rfl, h0, rfl, hkl⟩ | ⟨rfl, rfl, hnm, hkl⟩ | ⟨h3, h6, rfl, rfl, hkl⟩ | ⟨h7, h24, rfl, rfl, hkl⟩ | ⟨rfl, rfl, rfl, hkl⟩ | ⟨rfl, hn, hnm, hkl⟩
    · clear hw ih
      obtain rfl := List.length_eq_zero_iff.1 hkl
      rw [evE, if_pos rfl]
      simp only [exA, exC_mk, exCs_nil, List.length_nil]
      refine FnM_of_awM (keep := [8]) Tryz.func38 rfl rfl (by simp [Tryz.ntmps38]) ?_
      simp only [num_cons, num_nil, Tryz.ntmps38, Tryz.results38]
      exact wkE
    · clear hw ih
      obtain rfl := List.length_eq_zero_iff.1 hkl
      have hnl := nmB_len hnm
      have c1 := variable_fnM (b := b) nm (by omega) hm
      rw [evE, if_neg (by decide), if_pos rfl]
      simp only [exA, exC_mk, exCs_nil, List.length_nil]
      refine FnM_of_awM (keep := [8]) Tryz.func38 rfl rfl (by simp [Tryz.ntmps38]) ?_
      simp only [num_cons, num_nil, Tryz.ntmps38, Tryz.results38]
      exact wkE
    · clear hw
      obtain ⟨a, rfl⟩ := List.length_eq_one_iff.1 hkl
      simp only [dpEs] at hd
      simp only [szEs] at hN
      have iha := ih a m N (by omega) (hkw a (by simp)) hm (by omega)
      have h1 := evE_ok hnu k a m N (hkw a (by simp)) hm
      rw [evE, if_neg (by omega), if_neg (by omega)]
      simp only [exA, exC_mk, exCs_cons, exCs_nil, List.append_nil, exC_eta, opE_mk, nE_mk, nmE_mk, ksE_mk, List.length_cons, List.length_nil, List.cons_append, List.nil_append] at iha ⊢
      rcases hE : evE nu k a m with ⟨⟨x, e⟩, m1⟩
      rw [hE] at h1 iha
      simp only at h1 iha ⊢
      obtain ⟨hx, hm1⟩ := h1
      by_cases he : e = 0
      rotate_left
      · rw [if_pos he]
        refine FnM_of_awM (keep := [8]) Tryz.func38 rfl rfl (by simp [Tryz.ntmps38]) ?_
        simp only [num_cons, num_nil, Tryz.ntmps38, Tryz.results38]
        exact wkE
      subst he
      rw [if_neg (fun h => h rfl)]
      rw [if_neg (by omega), if_pos ⟨h3, h6⟩]
      have c2 := unary_ab op x h3 h6
      clear ih hd hkw hkl hE
      obtain rfl | rfl | rfl | rfl : op = 3 ∨ op = 4 ∨ op = 5 ∨ op = 6 := by omega
      · skip
        refine FnM_of_awM (keep := [8]) Tryz.func38 rfl rfl (by simp [Tryz.ntmps38]) ?_
        simp only [num_cons, num_nil, Tryz.ntmps38, Tryz.results38]
        exact wkE
      · skip
        refine FnM_of_awM (keep := [8]) Tryz.func38 rfl rfl (by simp [Tryz.ntmps38]) ?_
        simp only [num_cons, num_nil, Tryz.ntmps38, Tryz.results38]
        exact wkE
      · skip
        refine FnM_of_awM (keep := [8]) Tryz.func38 rfl rfl (by simp [Tryz.ntmps38]) ?_
        simp only [num_cons, num_nil, Tryz.ntmps38, Tryz.results38]
        exact wkE
      · skip
        refine FnM_of_awM (keep := [8]) Tryz.func38 rfl rfl (by simp [Tryz.ntmps38]) ?_
        simp only [num_cons, num_nil, Tryz.ntmps38, Tryz.results38]
        exact wkE
    · clear hw
      obtain ⟨a, d, rfl⟩ := len_two hkl
      simp only [dpEs] at hd
      simp only [szEs] at hN
      have iha := ih a m N (by omega) (hkw a (by simp)) hm (by omega)
      have h1 := evE_ok hnu k a m N (hkw a (by simp)) hm
      rw [evE, if_neg (by omega), if_neg (by omega)]
      simp only [exA, exC_mk, exCs_cons, exCs_nil, List.append_nil, exC_eta, opE_mk, nE_mk, nmE_mk, ksE_mk, List.length_cons, List.length_nil, List.cons_append, List.nil_append] at iha ⊢
      rcases hE : evE nu k a m with ⟨⟨x, e⟩, m1⟩
      rw [hE] at h1 iha
      simp only at h1 iha ⊢
      obtain ⟨hx, hm1⟩ := h1
      by_cases he : e = 0
      rotate_left
      · rw [if_pos he]
        refine FnM_of_awM (keep := [8]) Tryz.func38 rfl rfl (by simp [Tryz.ntmps38]) ?_
        simp only [num_cons, num_nil, Tryz.ntmps38, Tryz.results38]
        exact wkE
      subst he
      rw [if_neg (fun h => h rfl)]
      rw [if_neg (by omega), if_neg (by omega), if_neg (by omega)]
      by_cases h23 : op = 23 ∧ x = 0
      · rw [if_pos h23]
        obtain ⟨rfl, rfl⟩ := h23
        refine FnM_of_awM (keep := [8]) Tryz.func38 rfl rfl (by simp [Tryz.ntmps38]) ?_
        simp only [num_cons, num_nil, Tryz.ntmps38, Tryz.results38]
        exact wkE
      rw [if_neg h23]
      by_cases h24x : op = 24 ∧ x ≠ 0
      · rw [if_pos h24x]
        obtain ⟨rfl, hx0⟩ := h24x
        refine FnM_of_awM (keep := [8]) Tryz.func38 rfl rfl (by simp [Tryz.ntmps38]) ?_
        simp only [num_cons, num_nil, Tryz.ntmps38, Tryz.results38]
        exact wkE
      rw [if_neg h24x]
      have ihd := ih d m1 (N + szE a) (by omega) (hkw d (by simp)) hm1 (by omega)
      simp only [exA, exC_eta] at ihd
      rcases hE2 : evE nu k d m1 with ⟨⟨u, e2⟩, m2⟩
      rw [hE2] at ihd
      simp only at ihd ⊢
      have c3 := binary_ab op x u h7 h24
      generalize binF op x u = B at *
      obtain ⟨b1, b2⟩ := B
      simp only at c3 ⊢
      clear ih hd hkw hkl hE hE2
      by_cases he2 : e2 = 0
      rotate_left
      · rw [if_pos he2]
        by_cases o23 : op = 23
        · subst o23
          have hx0 : ¬ x = 0 := fun h => h23 ⟨rfl, h⟩
          refine FnM_of_awM (keep := [8]) Tryz.func38 rfl rfl (by simp [Tryz.ntmps38]) ?_
          simp only [num_cons, num_nil, Tryz.ntmps38, Tryz.results38]
          exact wkE
        by_cases o24 : op = 24
        · subst o24
          obtain rfl : x = 0 := Classical.byContradiction fun h => h24x ⟨rfl, h⟩
          refine FnM_of_awM (keep := [8]) Tryz.func38 rfl rfl (by simp [Tryz.ntmps38]) ?_
          simp only [num_cons, num_nil, Tryz.ntmps38, Tryz.results38]
          exact wkE
        refine FnM_of_awM (keep := [8]) Tryz.func38 rfl rfl (by simp [Tryz.ntmps38]) ?_
        simp only [num_cons, num_nil, Tryz.ntmps38, Tryz.results38]
        exact wkE
      subst he2
      rw [if_neg (fun h => h rfl)]
      by_cases o23 : op = 23
      · subst o23
        have hx0 : ¬ x = 0 := fun h => h23 ⟨rfl, h⟩
        refine FnM_of_awM (keep := [8]) Tryz.func38 rfl rfl (by simp [Tryz.ntmps38]) ?_
        simp only [num_cons, num_nil, Tryz.ntmps38, Tryz.results38]
        exact wkE
      by_cases o24 : op = 24
      · subst o24
        obtain rfl : x = 0 := Classical.byContradiction fun h => h24x ⟨rfl, h⟩
        refine FnM_of_awM (keep := [8]) Tryz.func38 rfl rfl (by simp [Tryz.ntmps38]) ?_
        simp only [num_cons, num_nil, Tryz.ntmps38, Tryz.results38]
        exact wkE
      refine FnM_of_awM (keep := [8]) Tryz.func38 rfl rfl (by simp [Tryz.ntmps38]) ?_
      simp only [num_cons, num_nil, Tryz.ntmps38, Tryz.results38]
      exact wkE
    · clear hw
      obtain ⟨a, d, c, rfl⟩ := len_three hkl
      simp only [dpEs] at hd
      simp only [szEs] at hN
      have iha := ih a m N (by omega) (hkw a (by simp)) hm (by omega)
      have h1 := evE_ok hnu k a m N (hkw a (by simp)) hm
      rw [evE, if_neg (by omega), if_neg (by omega)]
      simp only [exA, exC_mk, exCs_cons, exCs_nil, List.append_nil, exC_eta, opE_mk, nE_mk, nmE_mk, ksE_mk, List.length_cons, List.length_nil, List.cons_append, List.nil_append] at iha ⊢
      rcases hE : evE nu k a m with ⟨⟨x, e⟩, m1⟩
      rw [hE] at h1 iha
      simp only at h1 iha ⊢
      obtain ⟨hx, hm1⟩ := h1
      by_cases he : e = 0
      rotate_left
      · rw [if_pos he]
        refine FnM_of_awM (keep := [8]) Tryz.func38 rfl rfl (by simp [Tryz.ntmps38]) ?_
        simp only [num_cons, num_nil, Tryz.ntmps38, Tryz.results38]
        exact wkE
      subst he
      rw [if_neg (fun h => h rfl)]
      rw [if_neg (by omega), if_neg (by omega), if_pos trivial]
      by_cases hx0 : x = 0
      · rw [if_neg (fun h => h hx0)]
        have ihd := ih c m1 (N + szE a) (by omega) (hkw c (by simp)) hm1 (by omega)
        simp only [exA, exC_eta] at ihd
        clear ih hd hkw hkl hE
        refine FnM_of_awM (keep := [8]) Tryz.func38 rfl rfl (by simp [Tryz.ntmps38]) ?_
        simp only [num_cons, num_nil, Tryz.ntmps38, Tryz.results38]
        exact wkE
      · rw [if_pos hx0]
        have ihd := ih d m1 (N + szE a) (by omega) (hkw d (by simp)) hm1 (by omega)
        simp only [exA, exC_eta] at ihd
        clear ih hd hkw hkl hE
        refine FnM_of_awM (keep := [8]) Tryz.func38 rfl rfl (by simp [Tryz.ntmps38]) ?_
        simp only [num_cons, num_nil, Tryz.ntmps38, Tryz.results38]
        exact wkE
    · obtain ⟨a, rfl⟩ := List.length_eq_one_iff.1 hkl
      simp only [dpEs] at hd
      simp only [szEs] at hN
      have iha := ih a m N (by omega) (hkw a (by simp)) hm (by omega)
      have c1 := assign_fnM (b := b) k n nm a hnu hit hnm hn (hkw a (by simp)) hm (by omega) iha
      clear hw ih iha
      simp only [exA, exC_mk, exCs_cons, exCs_nil, List.append_nil, exC_eta, opE_mk, nE_mk, nmE_mk, ksE_mk, List.length_cons, List.length_nil] at c1 ⊢
      refine FnM_of_awM (keep := [8]) Tryz.func38 rfl rfl (by simp [Tryz.ntmps38]) ?_
      simp only [num_cons, num_nil, Tryz.ntmps38, Tryz.results38]
      exact wkE
end
end Go.Proofs.YtogmppcfopgkdaaGreatDoor
/- Arithmetic evaluation: Eval and Text, on the abstract machine. -/
namespace Go.Proofs.YtogmppcfopgkdaaGreatDoor
open Go.RowKit Go.Sort Go.Shelf Go.Maps
set_option linter.unusedVariables false
set_option linter.unusedSimpArgs false
set_option maxRecDepth 100000
set_option maxHeartbeats 8000000
section
variable {P : Program} {T : MT} {c : Code} {st st' : St} {σ : Mo} {Q : Exit → St → Mo → Prop}
theorem awM_of_S (hs : ∀ E a w, S E st a w → S E st' a w) (hf : st'.fx = st.fx) (h : awM P T c st' σ Q) : awM P T c st σ Q := fun E a w ⟨E', D, hl, hS⟩ => h E a w ⟨E', D, by rw [hf]; exact hl, hs E' a w hS⟩
theorem awM_virt {fr : List (Nat × AV)} {hp : Hp} {nt : Nat} {fx : List Nat} (t k sz : Nat) (ht : look fr t = some (.v (.slice none 0 0))) (hz : 0 < sz) (hk : k ∉ fx) (h : awM P T c ⟨(t, .os k 0 sz 0) :: turn (killX k) fr, hset k [] (turn (List.map (killC k)) hp), nt, fx⟩ σ Q) : awM P T c ⟨fr, hp, nt, fx⟩ σ Q :=
  awM_of_S (fun E a w hS => S_virt t k sz ht hz hk hS) rfl h
theorem awM_pub {fr : List (Nat × AV)} {hp : Hp} {nt : Nat} {fx : List Nat} (t k : Nat) {off sz n : Nat} {cs : List AV} (ht : look fr t = some (.os k off sz n)) (hk : look hp k = some cs) (hl : off + n * sz ≤ cs.length) (hd : ((cs.drop off).take (n * sz)).all dataC = true) (h : awM P T c ⟨(t, .rd n ((cs.drop off).take (n * sz))) :: fr, cut k hp, nt, fx⟩ σ Q) : awM P T c ⟨fr, hp, nt, fx⟩ σ Q :=
  awM_of_S (fun E a w hS => S_pub t k ht hk hl hd hS) rfl h
end
/-! ### slices.Sorted(maps.Keys(m)) -/
attribute [local go_sem] List.any_cons List.any_nil Bool.or_false Bool.false_or
abbrev fKeys : FuncId := 40
abbrev fKey1 : FuncId := 69
abbrev fSrt : FuncId := 39
/-- The keys of a map, sorted. -/
def srtM (m : Mp) : List (List UInt8) := (m.map (·.1)).mergeSort leB
theorem srtM_len (m : Mp) : (srtM m).length = m.length := by simp [srtM]
theorem keys_calls (b : Nat) (w : World) : Calls Tryz.prog fKeys #[.map (some b)] w fun e w' => e = .returned (.func (.func fKey1) #[] #[.pointer (some ⟨w.heap.size, 0, none⟩)]) ∧ ∃ t, w' = w.alloc (.cells #[.map (some b)] t) :=
  ((callsIn_wide (n := 5)).1 (AnyZ.keys_in (ρ := shlkeysA_ren) shlkeysA Fence.wide 5 trivial rfl (some b) w)).mono fun e w' h => ⟨h.1, _, h.2⟩
theorem sortsA (m : Nat) : AnyZ.SortsIn Tryz.prog shlsortedA_ren Fence.wide m :=
  ⟨fun blk off cap ss W hH hblk hsz => callsIn_wide.2 (shf_strings_slicesSort_string blk off cap ss W hH hblk hsz),
   fun p cap W => callsIn_wide.2 (shf_strings_slicesSort_string_none p cap W)⟩
theorem sorted_calls {b Bm : Nat} {m : Mp} {w : World} (hB : Bm < w.heap.size) (hc : w.cell? ⟨Bm, 0, none⟩ = some (.map (some b))) (hown : OwnsM Tryz.prog TT.tk TT.tv w b m) (hm : m.length ≤ 1000000) :
    Calls Tryz.prog fSrt #[.func (.func fKey1) #[] #[.pointer (some ⟨Bm, 0, none⟩)]] w fun e w' => ∃ v, e = .returned v ∧ w'.ownsRow w.heap.size 9 1 v m.length ((srtM m).map encStr) ∧ Below w.heap.size w w' := by
  have hsz : Maps.size (mpD m) ≤ m.length := hown.size_le
  have hseq : SeqGives Fence.wide 2 Tryz.prog fKey1 #[.pointer (some ⟨Bm, 0, none⟩)] encStr (fun ss => ss.Perm (strKeys (mpD m))) (Maps.size (mpD m)) w :=
    AnyZ.keys_gives (ρ := shlkeysA_ren) { shlkeysA with } Fence.wide _ trivial rfl (by omega) Bm b m.length (mpD m) w hB hc hown
  have cS := AnyZ.sorted_in shlsortedA Fence.wide 5 trivial trivial trivial trivial rfl (by omega) (sortsA _) (enters_of Tryz.func68 (by kernel_rfl) rfl) fKey1 #[.pointer (some ⟨Bm, 0, none⟩)] trivial (enters_of Tryz.func69 (by kernel_rfl) rfl) _ _ (by unfold maxLen; omega) (by omega) w hseq
  refine ((callsIn_wide (n := 5)).1 cS).mono ?_
  rintro e w' ⟨v, ss, he, hp, hrow, _, hb⟩
  rw [mpD_keys] at hp
  have h1 : ss.mergeSort (fun x y => decide (x ≤ y)) = srtM m := mergeSort_of_perm hp
  have h2 : ss.length = m.length := by rw [hp.length_eq, List.length_map]
  rw [h1, h2] at hrow
  exact ⟨v, he, hrow, hb⟩
theorem rd_of_ownsRow {w : World} {av : Nat → Prop} {base e n : Nat} {v : Value} {xs : List (List UInt8)} (h : w.ownsRow base e 1 v n (xs.map encStr)) (hav : ∀ b, av b → b < base) : RepI w av (.rd n (xs.map az)) v := by
  obtain ⟨hl, h⟩ := h
  rw [List.length_map, Nat.mul_one] at hl
  rcases h with ⟨rfl, rfl⟩ | ⟨g, cap, cur, rfl, hg, hh, hn, hc, hs, ht⟩
  · have : xs = [] := List.length_eq_zero_iff.1 hl
    subst this
    exact .rd (fun _ => undef) (Nat.le_refl _) (by omega) (fun _ => rfl) (fun h => absurd h (by omega)) (fun j a hj => by simp at hj)
  · rw [Nat.mul_one] at ht
    refine .rd (fun j => .string (str (xs.getD j []))) hn hc (fun h0 => by have : xs = [] := List.length_eq_zero_iff.1 (hl.trans h0); subst this; rfl) (fun h0 => ⟨g, 0, rfl, fun h => absurd (hav g h) (by omega), (Array.getElem?_eq_some_iff.1 hh).1, fun j hj => ?_⟩) (fun j a hj => ?_)
    · rw [List.length_map] at hj
      have : cur.toList[j]? = some (encStr xs[j]) := by
        have h1 := congrArg (fun l => l[j]?) ht
        simp only [List.getElem?_map, List.getElem?_eq_getElem hj, Option.map_some] at h1
        rw [List.getElem?_take_of_lt (by omega)] at h1
        exact h1
      have h2 : w.cell? ⟨g, 0 + j, none⟩ = cur[j]? := by simp [World.cell?, hh]
      rw [h2, ← Array.getElem?_toList, this, List.getD_eq_getElem?_getD, List.getElem?_eq_getElem hj]
      rfl
    · rw [List.getElem?_map, Option.map_eq_some_iff] at hj
      obtain ⟨x, hx, rfl⟩ := hj
      rw [List.getD_eq_getElem?_getD, hx]
      exact .v _
theorem awMO_srt {Q : Exit → St → Mo → Prop} {ops : Array Oper} {rest : List Oper} {o1 o2 : Oper} {fr : List (Nat × AV)} {hp : Hp} {nt : Nat} {fx : List Nat} {d1 d2 b : Nat} {m : Mp} {x : Operand} {ts1 ts2 : Array TypeId} (hg1 : o1.guard = none) (ho1 : o1.op = .call ⟨.value (.func fKeys), [x].toArray, ts1⟩)
    (hx : opv ⟨fr, hp, nt, fx⟩ x = some (mref b)) (hd1 : o1.dst = some d1) (hn1 : d1 < nt) (hg2 : o2.guard = none) (ho2 : o2.op = .call ⟨.value (.func fSrt), [.tmp d1].toArray, ts2⟩) (hd2 : o2.dst = some d2) (hn2 : d2 < nt) (hm : m.length ≤ 1000000)
    (h : awMO Tryz.prog TT ops rest ⟨(d2, .rd m.length ((srtM m).map az)) :: (d1, .un) :: fr, hp, nt, fx⟩ (some (b, m)) Q) : awMO Tryz.prog TT ops (o1 :: o2 :: rest) ⟨fr, hp, nt, fx⟩ (some (b, m)) Q := fun E a w ⟨E', D, hl, ρ, hS⟩ => by
  refine wpList_plain hg1 fun K hK => ?_
  have e1 : a.eval x = .map (some b) := Rep.v_eq (opv_sound hS hx)
  have hmap := hl.now hS
  unfold Oper.wp
  rw [run_call ho1 (by kernel_rfl), Oper.upon_enter]
  have ea : ([x].toArray.map a.eval) = #[.map (some b)] := by simp [e1]
  rw [ea]
  refine (keys_calls b w).mono ?_
  rintro e w1 ⟨rfl, tC, rfl⟩
  rw [hd1]
  refine hK _ _ ?_
  have hbl : Below w.heap.size w (w.alloc (.cells #[.map (some b)] tC)) := (Below.refl _ w).alloc (Nat.le_refl _) _
  have hown1 : OwnsM Tryz.prog TT.tk TT.tv (w.alloc (.cells #[.map (some b)] tC)) b m := hmap.2.1.kept (hbl.block b hmap.2.1.lt)
  have hS1 := (hS.below hbl).put (some d1) (fun t e => by injection e with e; subst e; exact hn1) (x := .un) (v := .func (.func fKey1) #[] #[.pointer (some ⟨w.heap.size, 0, none⟩)]) (.im (.un _))
  have hc1 : (w.alloc (.cells #[.map (some b)] tC)).cell? ⟨w.heap.size, 0, none⟩ = some (.map (some b)) := cell_one_new w (.map (some b)) tC 0 _ rfl
  have hlt : w.heap.size < (w.alloc (.cells #[.map (some b)] tC)).heap.size := by rw [World.size_alloc]; exact Nat.lt_succ_self _
  generalize w.alloc (.cells #[.map (some b)] tC) = w1 at *
  refine wpList_plain hg2 fun K2 hK2 => ?_
  unfold Oper.wp
  rw [run_call ho2 (by kernel_rfl), Oper.upon_enter]
  have ev : ([Operand.tmp d1].toArray.map (a.put (some d1) (.func (.func fKey1) #[] #[.pointer (some ⟨w.heap.size, 0, none⟩)])).eval) = #[.func (.func fKey1) #[] #[.pointer (some ⟨w.heap.size, 0, none⟩)]] := by
    have : d1 < a.tmps.size := by rw [hS.size]; exact hn1
    simp [Act.eval, Act.put, this]
  rw [ev]
  refine (sorted_calls hlt hc1 hown1 hm).mono ?_
  rintro e w2 ⟨v, rfl, hrow, hb2⟩
  rw [hd2]
  have hav : ∀ x, avd E'.bad ρ hp x → x < w1.heap.size := fun x hx => by
    rcases hx with hx | ⟨k, cs, h1, h2, rfl⟩
    · exact Nat.lt_of_lt_of_le (hS1.bad.1 x hx) hS1.keep.size
    · exact ((hS1.hr.obj k cs h1).mem h2).1
  have hS2 := (hS1.below hb2).put (some d2) (fun t e => by injection e with e; subst e; exact hn2) (x := .rd m.length ((srtM m).map az)) (v := v) (.im (rd_of_ownsRow hrow hav))
  exact hK2 _ _ (h E _ w2 ⟨E', D, hl, ρ, hS2⟩)
/-! ### Eval -/
theorem cellsA_map (a : Option Nat) : cellsA (.v (.map a)) = some [.v (.map a)] := rfl
theorem one_map (a : Option Nat) : (Value.map a).oneCell' = true := rfl
attribute [local go_sem] cellsA_map one_map
abbrev bnC (L : Mp) : List AV := L.flatMap fun p => [az p.1, az p.2]
theorem bnC_len (L : Mp) : (bnC L).length = L.length * 2 := by
  induction L with
  | nil => rfl
  | cons p r ih =>
    unfold bnC at ih ⊢
    rw [List.flatMap_cons, List.length_append, ih, List.length_cons, List.length_cons, List.length_cons, List.length_nil]
    omega
theorem bnC_data (L : Mp) : (bnC L).all dataC = true := by
  rw [List.all_eq_true]
  intro x hx
  obtain ⟨p, _, hp⟩ := List.mem_flatMap.1 hx
  simp only [List.mem_cons, List.not_mem_nil, or_false] at hp
  rcases hp with rfl | rfl <;> rfl
theorem all_sub {α : Type} {p : α → Bool} {l : List α} (h : l.all p = true) (i n : Nat) : ((l.drop i).take n).all p = true := by
  rw [List.all_eq_true] at h ⊢
  exact fun x hx => h x (List.mem_of_mem_drop (List.mem_of_mem_take hx))
def mpJ (L : Mp) (j : Nat) : Mp := (L.take j).foldl (fun m p => putM p.1 p.2 m) []
def mp0 (L : Mp) : Mp := L.foldl (fun m p => putM p.1 p.2 m) []
theorem mpJ_len (L : Mp) : mpJ L L.length = mp0 L := by unfold mpJ mp0; rw [List.take_length]
theorem mpJ_succ {L : Mp} {j : Nat} (h : j < L.length) : mpJ L (j + 1) = putM L[j].1 L[j].2 (mpJ L j) := by
  unfold mpJ
  rw [List.take_succ_eq_append_getElem h, List.foldl_append]
  rfl
/-- What Eval answers: the value, the variables, the error. -/
def evR (e : Ex) (L : Mp) : Int × Mp × Int :=
  if (evE Lib.itoa 40 e (mp0 L)).1.2 ≠ 0 then (0, [], (evE Lib.itoa 40 e (mp0 L)).1.2) else ((evE Lib.itoa 40 e (mp0 L)).1.1, (srtM (evE Lib.itoa 40 e (mp0 L)).2).map fun k => (k, getM (evE Lib.itoa 40 e (mp0 L)).2 k), 0)
def txR (s : List UInt8) (L : Mp) : Int × Mp × Int := if (parR s).2.2 ≠ 0 then (0, [], (parR s).2.2) else evR (parR s).1 L
theorem mpJ_ok (L : Mp) (hk : ∀ p ∈ L, p.1.length ≤ 5000 ∧ p.2.length ≤ 5000) : ∀ j, j ≤ L.length → MOk (mpJ L j) j
  | 0, _ => ⟨Nat.le_refl _, fun p hp => (by cases hp), fun p hp => (by cases hp)⟩
  | j + 1, h => by
    rw [mpJ_succ (by omega)]
    have := hk L[j] (List.getElem_mem _)
    exact (mpJ_ok L hk j (by omega)).put this.1 this.2
theorem nuI : NuOk Lib.itoa := fun n h => itoa_len h
theorem srtM_key {m : Mp} {N : Nat} (h : MOk m N) {k : List UInt8} (hk : k ∈ srtM m) : k.length ≤ 5000 := by
  unfold srtM at hk
  rw [List.mem_mergeSort, List.mem_map] at hk
  obtain ⟨p, hp, rfl⟩ := hk
  exact h.key p hp
theorem eval_ab (e : Ex) (L : Mp) (hw : Wf e) (hd : dpE e ≤ 32) (hs : szE e ≤ 5000) (hL : L.length ≤ 1000) (hk : ∀ p ∈ L, p.1.length ≤ 5000 ∧ p.2.length ≤ 5000) : Ab Tryz.prog 18 [exA e, .rd L.length (bnC L)] (.tp [ai (evR e L).1, .rd (evR e L).2.1.length (bnC (evR e L).2.1), ai (evR e L).2.2]) := by
  have c1 := Valid_ab e hw hd
  have hm0 := mpJ_ok L hk L.length (Nat.le_refl _)
  rw [mpJ_len] at hm0
  have hv := fun b => value_fnM (b := b) nuI itoa_ab 40 e (mp0 L) L.length (by omega) hw hm0 (by omega)
  have hok := evE_ok nuI 40 e (mp0 L) L.length hw hm0
  unfold evR
  rcases hE : evE Lib.itoa 40 e (mp0 L) with ⟨⟨x, er⟩, m1⟩
  rw [hE] at hok
  simp only [hE] at hv
  simp only at hok ⊢
  obtain ⟨hx, hm1⟩ := hok
  have hm1l := hm1.len
  clear hE
  simp only [exA, exC_eta] at c1 hv ⊢
  by_cases her : er = 0
  rotate_left
  · rw [if_pos her]
    refine (show Fn _ _ _ _ (nz (.tp [ai 0, .v (.slice none 0 0), ai er])) _ _ from Fn_nzr ?_)
    refine Fn_of_aw (keep := []) Tryz.func18 rfl rfl (by simp [Tryz.ntmps18]) ?_
    simp only [num_cons, num_nil, Tryz.ntmps18, Tryz.results18]
    refine aw_of_awM TT ?_
    repeat' (first
 | ((with_reducible apply awMO_mk); (· rfl); (· rfl); (· rfl); (· exact nd); intro nb)
 | ((with_reducible apply awMO_mkf); (· rfl); (· rfl); (· rfl); (· exact bok); (· exact sv); (· exact nd))
 | ((with_reducible apply awMO_ev); (· rfl); (· exact sv))
 | ((with_reducible apply awM_seq); intro _ _)
 | ((with_reducible apply awM_region))
 | ((with_reducible apply awM_block))
 | ((with_reducible apply awMO_nil); (try simp only [CTM, ↓reduceIte, Nat.reduceEqDiff]))
 | ((with_reducible apply awM_skip); (try simp only [CTM, ↓reduceIte, Nat.reduceEqDiff]))
 | ((with_reducible apply awM_cond_false); (· exact sv))
 | (refine KontM.go ‹KontM _ _ _ _ _› _ _ ?_)
 | ((with_reducible apply awMO_c); (· rfl); (· rfl); (· exact sv); (· (first | exact c1)); (· rfl); (· rfl); (· rfl); (· decide)))
    refine awM_loopF (fun j : Nat => [(27, ai j)]) (fun _ => [(8, [mref nb]), (2, [ai (opE e), ai (nE e), az (nmE e), .rd (ksE e).length (exCs (ksE e))])]) (fun j => some (nb, mpJ L j)) (fun j => j ≤ L.length) (fun j => L.length - j) 0 (Nat.zero_le _) rfl ?_ ?_ ?_
    · exact ⟨rfl, trivial⟩
    · exact ⟨rfl, rfl, trivial⟩
    rintro j hj
    (simp only [LP, List.append_assoc, List.nil_append, List.cons_append, List.append_nil, List.contains_cons, List.contains_nil, Nat.reduceBEq, Bool.or_false, Bool.or_true, Bool.true_or, Bool.false_or, ↓reduceIte, Bool.false_eq_true])
    by_cases hjl : j < L.length
    · have hq := hk L[j] (List.getElem_mem _)
      have c2 := set_fnM (b := nb) L[j].1 L[j].2 hq.1 hq.2 (mpJ_ok L hk j hj) (by omega)
      rw [← mpJ_succ hjl] at c2
      clear hv c1
      exact wq15
    · obtain rfl : j = L.length := by omega
      rw [mpJ_len]
      have c3 := hv nb
      exact wkE
  subst her
  rw [if_neg (fun h => h rfl)]
  have hsl := srtM_len m1
  have hkey : ∀ k ∈ srtM m1, k.length ≤ 5000 := fun k h => srtM_key hm1 h
  refine Fn_of_aw (keep := []) Tryz.func18 rfl rfl (by simp [Tryz.ntmps18]) ?_
  simp only [num_cons, num_nil, Tryz.ntmps18, Tryz.results18]
  refine aw_of_awM TT ?_
  repeat' (first
 | ((with_reducible apply awMO_mk); (· rfl); (· rfl); (· rfl); (· exact nd); intro nb)
 | ((with_reducible apply awMO_mkf); (· rfl); (· rfl); (· rfl); (· exact bok); (· exact sv); (· exact nd))
 | ((with_reducible apply awMO_ev); (· rfl); (· exact sv))
 | ((with_reducible apply awM_seq); intro _ _)
 | ((with_reducible apply awM_region))
 | ((with_reducible apply awM_block))
 | ((with_reducible apply awMO_nil); (try simp only [CTM, ↓reduceIte, Nat.reduceEqDiff]))
 | ((with_reducible apply awM_skip); (try simp only [CTM, ↓reduceIte, Nat.reduceEqDiff]))
 | ((with_reducible apply awM_cond_false); (· exact sv))
 | (refine KontM.go ‹KontM _ _ _ _ _› _ _ ?_)
 | ((with_reducible apply awMO_c); (· rfl); (· rfl); (· exact sv); (· (first | exact c1)); (· rfl); (· rfl); (· rfl); (· decide)))
  refine awM_loopF (fun j : Nat => [(27, ai j)]) (fun _ => [(8, [mref nb]), (2, [ai (opE e), ai (nE e), az (nmE e), .rd (ksE e).length (exCs (ksE e))])]) (fun j => some (nb, mpJ L j)) (fun j => j ≤ L.length) (fun j => L.length - j) 0 (Nat.zero_le _) rfl ?_ ?_ ?_
  · exact ⟨rfl, trivial⟩
  · exact ⟨rfl, rfl, trivial⟩
  rintro j hj
  (simp only [LP, List.append_assoc, List.nil_append, List.cons_append, List.append_nil, List.contains_cons, List.contains_nil, Nat.reduceBEq, Bool.or_false, Bool.or_true, Bool.true_or, Bool.false_or, ↓reduceIte, Bool.false_eq_true])
  by_cases hjl : j < L.length
  · have hq := hk L[j] (List.getElem_mem _)
    have c2 := set_fnM (b := nb) L[j].1 L[j].2 hq.1 hq.2 (mpJ_ok L hk j hj) (by omega)
    rw [← mpJ_succ hjl] at c2
    clear hv c1
    exact wq15
  obtain rfl : j = L.length := by omega
  rw [mpJ_len]
  have c3 := hv nb
  clear hv c1
  repeat' (first
 | ((with_reducible apply awMO_srt); (· rfl); (· rfl); (· exact sv); (· rfl); (· exact nd); (· rfl); (· rfl); (· rfl); (· exact nd); (· omega))
 | ((with_reducible apply awMO_mkf); (· rfl); (· rfl); (· rfl); (· exact bok); (· exact sv); (· exact nd))
 | ((with_reducible apply awMO_ev); (· rfl); (· exact sv))
 | ((with_reducible apply awM_seq); intro _ _)
 | ((with_reducible apply awM_region))
 | ((with_reducible apply awM_block))
 | ((with_reducible apply awMO_nil); (try simp only [CTM, ↓reduceIte, Nat.reduceEqDiff]))
 | ((with_reducible apply awM_exit); (try simp only [CTM, ↓reduceIte, Nat.reduceEqDiff]))
 | ((with_reducible apply awM_skip); (try simp only [CTM, ↓reduceIte, Nat.reduceEqDiff]))
 | ((with_reducible apply awM_cond_false); (· exact sv))
 | (refine KontM.go ‹KontM _ _ _ _ _› _ _ ?_)
 | ((with_reducible apply awMO_cM); (· rfl); (· rfl); (· exact sv); (· (first | exact c3)); (· exact svq); (· exact svq); (· exact svq); (· exact svq); (· rfl); (· exact nd); (with_reducible apply awMO_st); (· exact svs))
 | ((with_reducible apply awM_cond); (· exact sv); all_goals (intro hg; (try simp only [decide_eq_true_eq, decide_eq_false_iff_not, Bool.not_true, Bool.not_false, Bool.not_eq_true', Bool.not_eq_false', Bool.not_not, beq_eq_false_iff_ne, ne_eq, beq_iff_eq, decide_eq_decide] at hg); try (exfalso; omega))))
  refine awM_virt 15 100 2 rfl (by omega) (by simp) ?_
  refine awM_st svs ?_
  refine awM_loopF (fun j : Nat => [(54, ai j), (15, .os 100 0 2 j)]) (fun j => [(100, bnC (((srtM m1).take j).map fun k => (k, getM m1 k))), (8, [mref nb])]) (fun _ => some (nb, m1)) (fun j => j ≤ (srtM m1).length) (fun j => (srtM m1).length - j) 0 (Nat.zero_le _) rfl ?_ ?_ ?_
  · exact ⟨rfl, rfl, trivial⟩
  · exact ⟨rfl, rfl, trivial⟩
  rintro i hi
  clear c3
  (simp only [LP, List.append_assoc, List.nil_append, List.cons_append, List.append_nil, List.contains_cons, List.contains_nil, Nat.reduceBEq, Bool.or_false, Bool.or_true, Bool.true_or, Bool.false_or, ↓reduceIte, Bool.false_eq_true])
  have hil : (((srtM m1).take i).map fun k => (k, getM m1 k)).length = i := by rw [List.length_map, List.length_take]; omega
  by_cases hlt : i < (srtM m1).length
  · have hkl := hkey _ (List.getElem_mem hlt)
    have e1 : (((srtM m1).take (i + 1)).map fun k => (k, getM m1 k)) = (((srtM m1).take i).map fun k => (k, getM m1 k)) ++ [((srtM m1)[i], getM m1 (srtM m1)[i])] := by
      rw [List.take_succ_eq_append_getElem hlt, List.map_append]; rfl
    generalize (((srtM m1).take i).map fun k => (k, getM m1 k)) = C at *
    repeat' (first
 | ((with_reducible apply (awMO_look mtok)); (· rfl); (· rfl); (· rfl); (· exact sv); (· exact sv); (· omega); (· rfl); (· exact nd))
 | ((with_reducible apply awMO_ev); (· rfl); (· exact sv))
 | ((with_reducible apply awM_seq); intro _ _)
 | ((with_reducible apply awM_region))
 | ((with_reducible apply awM_block))
 | ((with_reducible apply awMO_nil); (try simp only [CTM, ↓reduceIte, Nat.reduceEqDiff]))
 | ((with_reducible apply awM_skip); (try simp only [CTM, ↓reduceIte, Nat.reduceEqDiff]))
 | (refine KontM.go ‹KontM _ _ _ _ _› _ _ ?_)
 | ((with_reducible apply awM_cond); (· exact sv); all_goals (intro hg; (try simp only [decide_eq_true_eq, decide_eq_false_iff_not, Bool.not_true, Bool.not_false, Bool.not_eq_true', Bool.not_eq_false', Bool.not_not, beq_eq_false_iff_ne, ne_eq, beq_iff_eq, decide_eq_decide] at hg); try (exfalso; omega))))
    all_goals
      refine LEM_mk (i + 1) ?_ ?_ ?_ ?_ sN ?_
      · exact hlt
      · omega
      · rfl
      · exact ⟨rfl, rfl, trivial⟩
      · refine ⟨?_, rfl, trivial⟩
        show some _ = some _
        rw [e1]
        simp only [bnC, List.flatMap_append, List.flatMap_cons, List.flatMap_nil, List.append_nil]
  · obtain rfl : i = (srtM m1).length := by omega
    rw [List.take_length]
    have hC : ((srtM m1).map fun k => (k, getM m1 k)).length = (srtM m1).length := List.length_map _
    refine awM_pub 15 100 (off := 0) (sz := 2) (n := (srtM m1).length) (cs := bnC ((srtM m1).map fun k => (k, getM m1 k))) rfl rfl ?_ ?_ ?_
    · rw [bnC_len, hC]; omega
    · exact all_sub (bnC_data _) _ _
    rw [show ((bnC ((srtM m1).map fun k => (k, getM m1 k))).drop 0).take ((srtM m1).length * 2) = bnC ((srtM m1).map fun k => (k, getM m1 k)) from by rw [List.drop_zero, ← hC, ← bnC_len, List.take_length]]
    rw [hC]
    refine awM_st svs ?_
    generalize ((srtM m1).map fun k => (k, getM m1 k)) = C at *
    generalize bnC C = D at *
    repeat' (first
 | ((with_reducible apply awMO_ev); (· rfl); (· exact sv))
 | ((with_reducible apply awM_seq); intro _ _)
 | ((with_reducible apply awM_region))
 | ((with_reducible apply awMO_nil); (try simp only [CTM, ↓reduceIte, Nat.reduceEqDiff]))
 | ((with_reducible apply awM_exit); (try simp only [CTM, ↓reduceIte, Nat.reduceEqDiff]))
 | ((with_reducible apply awM_ret); (try simp only [CTM, ↓reduceIte, Nat.reduceEqDiff]))
 | (refine KontM.go ‹KontM _ _ _ _ _› _ _ ?_)
 | ((with_reducible apply awM_cond); (· exact sv); all_goals (intro hg; (try simp only [decide_eq_true_eq, decide_eq_false_iff_not, Bool.not_true, Bool.not_false, Bool.not_eq_true', Bool.not_eq_false', Bool.not_not, beq_eq_false_iff_ne, ne_eq, beq_iff_eq, decide_eq_decide] at hg); try (exfalso; omega)))
 | ((with_reducible apply retQ_mk); (· exact rI); (· exact sv); (· exact sv); rotate_left; (· rfl)))
    all_goals rw [← hC]
theorem calcText_ab (s : List UInt8) (L : Mp) (hs : s.length ≤ 4096) (h40 : 40 ∉ s) (hL : L.length ≤ 1000) (hk : ∀ p ∈ L, p.1.length ≤ 5000 ∧ p.2.length ≤ 5000) : Ab Tryz.prog 7 [az s, .rd L.length (bnC L)] (.tp [ai (txR s L).1, .rd (txR s L).2.1.length (bnC (txR s L).2.1), ai (txR s L).2.2]) := by
  have c1 := parse_ab s hs h40
  have hok := parR_ok s
  have hsz := parR_sz s
  unfold txR
  generalize parR s = R at *
  obtain ⟨e, at1, er⟩ := R
  simp only at c1 hok hsz ⊢
  by_cases her : er = 0
  rotate_left
  · rw [if_pos her]
    simp only [exA, exC_eta] at c1
    refine (show Fn _ _ _ _ (nz (.tp [ai 0, .v (.slice none 0 0), ai er])) _ _ from Fn_nzr ?_)
    refine Fn_of_aw (keep := []) Tryz.func7 rfl rfl (by simp [Tryz.ntmps7]) ?_
    simp only [num_cons, num_nil, Tryz.ntmps7, Tryz.results7]
    exact wkA
  · rw [if_neg (fun h => h her)]
    have hw := hok her
    have c2 := eval_ab e L hw.1 hw.2 (by omega) hL hk
    subst her
    simp only [exA, exC_eta] at c1 c2
    generalize evR e L = R at *
    obtain ⟨r1, r2, r3⟩ := R
    simp only at c2 ⊢
    refine Fn_of_aw (keep := []) Tryz.func7 rfl rfl (by simp [Tryz.ntmps7]) ?_
    simp only [num_cons, num_nil, Tryz.ntmps7, Tryz.results7]
    exact wkA
end Go.Proofs.YtogmppcfopgkdaaGreatDoor
