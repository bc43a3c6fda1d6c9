/- Variables: lists of them, find, place, splice, on the abstract machine. -/
import Derived.Test.YtogmppcfopgkdaaGreatDoorCaE
import Derived.Test.YtogmppcfopgkdaaGreatDoorChN
import Derived.Test.YtogmppcfopgkdaaGreatDoorMkf
namespace Go.Proofs.YtogmppcfopgkdaaGreatDoor
open Go.RowKit
set_option linter.unusedVariables false
set_option linter.unusedSimpArgs false
set_option maxRecDepth 100000
set_option maxHeartbeats 8000000
theorem awO_mk0 {P : Program} {Q : Exit → St → Prop} {ops : Array Oper} {rest : List Oper} {o : Oper} {fr : List (Nat × AV)} {hp : Hp} {nt : Nat} {fx : List Nat} {d t t0 u sz byt : Nat} {c : Int} (ho : o.op = .makeSlice t (.const (.int .i64 0)) (.tmp u)) (hd : o.dst = some d) (hg : o.guard = none) (hx : look fr u = some (.v (.int .i64 c))) (he : elT P t = some (t0, sz, byt))
    (h0 : 0 ≤ c) (hb : (byt : Int) * c ≤ 281474976710656) (hc : c ≤ 9223372036854775807) (hdn : d < nt) (hfx : d ∉ fx) (h : awO P ops rest ⟨(d, .os d 0 sz 0) :: turn (killX d) fr, hset d [] (turn (List.map (killC d)) hp), nt, fx⟩ Q) : awO P ops (o :: rest) ⟨fr, hp, nt, fx⟩ Q := fun E a w ⟨ρ, hS⟩ => by
  obtain ⟨hu, hs, hpos, ⟨⟨i, zv, _, hi, hzv, his, hib, hzs⟩, _⟩⟩ := elT_run he
  refine wpList_plain hg fun K hK => wp_stepTo (st' := ⟨(d, .os d 0 sz 0) :: turn (killX d) fr, hset d [] (turn (List.map (killC d)) hp), nt, fx⟩) ?_ fun a' w' hs => hK _ _ (h E a' w' hs)
  have hrun := run_make (P := P) (w := w) t t0 i zv hu hi hzv .i64 .i64 0 c (Int.le_refl _) h0 (by rw [hib]; exact hb) hc
  have hev : a.eval (.tmp u) = .int .i64 c := Rep.v_eq (hS.fr u _ hx)
  have hev0 : a.eval (.const (.int .i64 0)) = .int .i64 0 := rfl
  have hms : (madeCells zv.cells (c.toNat * i.size)).size = c.toNat * i.size := size_madeCells _ _
  refine ⟨w.alloc (.cells (madeCells zv.cells (c.toNat * i.size)) t0), .slice (some ⟨w.heap.size, 0, none⟩) 0 c.toNat, .inl ?_, ?_, fun _ => (Below.refl _ _).alloc (Nat.le_refl _) _⟩
  · unfold execOp
    simp only [ho, hev, hev0]
    simp [hrun]
  · rw [hd]
    generalize madeCells zv.cells (c.toNat * i.size) = us at hms
    have h4 := hS.fresh (w' := w.alloc (.cells us t0)) d hfx ⟨w.heap.size, 0, us.size⟩ [] rfl rfl rfl (by rw [World.size_alloc]; omega) (fun b hb _ => Below.heap_alloc w _ b hb) (fun _ => .inr (Nat.le_refl _)) (Nat.zero_le _)
      (fun _ => ⟨by rw [World.size_alloc]; exact Nat.lt_succ_self _, fun j hj => ⟨by
        have hj : j < us.size := hj
        simp [World.cell?, World.alloc, -World.alloc_eq, hj], by
        have hj : j < us.size := hj
        simp [World.frozen?, World.alloc, -World.alloc_eq]⟩⟩) (fun j x hx => by simp at hx) (fun x hx => by cases hx)
    refine ⟨_, h4.put (some d) (fun t e => by injection e with e; subst e; exact hdn) (.os hpos (Nat.zero_le _) (by omega) (fun _ => ⟨by rw [rset_same], by rw [rset_same]; show 0 + c.toNat * sz ≤ us.size; rw [hms, show i.size = sz from his, Nat.zero_add]; exact Nat.le_refl _⟩))⟩
/-- A variable. -/
structure Vr where
  nm : List UInt8
  val : List UInt8
  st : Bool
  ex : Bool
  ro : Bool
def vrC (L : List Vr) : List AV := L.flatMap fun v => [az v.nm, az v.val, ab v.st, ab v.ex, ab v.ro]
theorem vrC_eq (L : List Vr) : vrC L = L.flatMap fun v => [az v.nm, az v.val, ab v.st, ab v.ex, ab v.ro] := rfl
theorem vrC_len (L : List Vr) : (vrC L).length = L.length * 5 := by rw [vrC_eq]; exact flat5_len
theorem vrC_app (L M : List Vr) : vrC L ++ vrC M = vrC (L ++ M) := by unfold vrC; rw [List.flatMap_append]
theorem vrC_take : ∀ (L : List Vr) (i : Nat), (vrC L).take (i * 5) = vrC (L.take i)
  | [], i => by simp [vrC]
  | v :: r, 0 => by simp [vrC]
  | v :: r, i + 1 => by
    have := vrC_take r i
    rw [Nat.add_mul, Nat.one_mul]
    show az v.nm :: az v.val :: ab v.st :: ab v.ex :: ab v.ro :: (vrC r).take (i * 5) = az v.nm :: az v.val :: ab v.st :: ab v.ex :: ab v.ro :: vrC (r.take i)
    rw [this]
theorem vrC_drop : ∀ (L : List Vr) (i : Nat), (vrC L).drop (i * 5) = vrC (L.drop i)
  | [], i => by simp [vrC]
  | v :: r, 0 => by simp [vrC]
  | v :: r, i + 1 => by
    have := vrC_drop r i
    rw [Nat.add_mul, Nat.one_mul]
    show (vrC r).drop (i * 5) = vrC (r.drop i)
    exact this
theorem vrC_okC (L : List Vr) : (vrC L).all okC = true := by
  rw [List.all_eq_true]
  intro x hx
  obtain ⟨v, _, hv⟩ := List.mem_flatMap.1 hx
  simp only [List.mem_cons, List.not_mem_nil, or_false] at hv
  rcases hv with rfl | rfl | rfl | rfl | rfl <;> rfl
theorem vrC_data (L : List Vr) : (vrC L).all dataC = true := by
  rw [List.all_eq_true]
  intro x hx
  obtain ⟨v, _, hv⟩ := List.mem_flatMap.1 hx
  simp only [List.mem_cons, List.not_mem_nil, or_false] at hv
  rcases hv with rfl | rfl | rfl | rfl | rfl <;> rfl
theorem vrC_free (k : Nat) (L : List Vr) : freeOf k (vrC L) = true := by
  unfold freeOf
  rw [List.all_eq_true]
  intro x hx
  obtain ⟨v, _, hv⟩ := List.mem_flatMap.1 hx
  simp only [List.mem_cons, List.not_mem_nil, or_false] at hv
  rcases hv with rfl | rfl | rfl | rfl | rfl <;> rfl
attribute [go_sem] vrC_len vrC_okC vrC_data vrC_free
end Go.Proofs.YtogmppcfopgkdaaGreatDoor
/- Variables: splice, find, Get, on the abstract machine. -/
namespace Go.Proofs.YtogmppcfopgkdaaGreatDoor
open Go.RowKit
set_option linter.unusedVariables false
set_option linter.unusedSimpArgs false
set_option maxRecDepth 100000
set_option maxHeartbeats 8000000
section
attribute [local go_sem] vrC_take vrC_drop vrC_app List.take_of_length_le
theorem splice_ab (L D : List Vr) (i k : Nat) (hn : L.length ≤ 1000) (hm : D.length ≤ 10) (hi : i + k ≤ L.length) : Ab Tryz.prog 29 [.rd L.length (vrC L), ai i, ai k, .rd D.length (vrC D)] (.rd (L.take i ++ D ++ L.drop (i + k)).length (vrC (L.take i ++ D ++ L.drop (i + k)))) := by
  have e1 : (L.take i ++ D ++ L.drop (i + k)).length = i + D.length + (L.length - (i + k)) := by simp only [List.length_append, List.length_take, List.length_drop]; omega
  rw [e1]
  have l1 : (L.take i).length = i := by rw [List.length_take]; omega
  have l2 : (L.drop (i + k)).length = L.length - (i + k) := List.length_drop
  have q1 : (vrC (L.take i)).length = i * 5 := by rw [vrC_len, l1]
  have q2 : (vrC (L.drop (i + k))).length = (L.length - (i + k)) * 5 := by rw [vrC_len, l2]
  have q3 := vrC_len D
  have q4 : (vrC (L.take i ++ D)).length = (i + D.length) * 5 := by rw [vrC_len, List.length_append, l1]
  have q5 : (vrC (L.take i ++ D ++ L.drop (i + k))).length = (i + D.length + (L.length - (i + k))) * 5 := by rw [vrC_len, e1]
  refine Fn_of_aw (keep := []) Tryz.func29 rfl rfl (by simp [Tryz.ntmps29]) ?_
  simp only [num_cons, num_nil, Tryz.ntmps29, Tryz.results29]
  repeat' (first
 | ((with_reducible apply awO_mk0); (· rfl); (· rfl); (· rfl); (· exact sv); (· exact sv); (· omega); (· omega); (· omega); (· exact nd); (· decide); (with_reducible apply awO_st); (· exact svs))
 | ((with_reducible apply awO_ev); (· rfl); (· exact sv))
 | ((with_reducible apply aw_seq); intro _ _)
 | (with_reducible apply aw_region)
 | ((with_reducible first | apply awO_nil | apply aw_exit | apply aw_skip | apply aw_ret); (try simp only [CT, ↓reduceIte, Nat.reduceEqDiff]))
 | (refine Kont.go ‹Kont _ _ _ _› _ ?_)
 | ((with_reducible apply retQ_mk); (· exact rI); (· exact sv); (· exact sv); rotate_left; (· rfl)))
  all_goals rfl
end
abbrev vrCs (v : Vr) : List AV := [az v.nm, az v.val, ab v.st, ab v.ex, ab v.ro]
/-- What a predicate does. -/
def PrdA (g : FuncId) (nm : List UInt8) (p : Vr → Bool) : Prop := ∀ v : Vr, Fn Tryz.prog g [.ag (vrCs v), .pt 3 0] [(3, [az nm])] (ab (p v)) [(3, [az nm])] [3]
theorem Get1_prd (nm : List UInt8) : PrdA 26 nm fun v => decide (v.nm = nm) := fun v => by
  refine Fn_of_aw (keep := [3]) Tryz.func26 rfl rfl (by simp [Tryz.ntmps26]) (aw_wk ?_)
  simp only [num_cons, num_nil, Tryz.ntmps26, Tryz.results26]
  exact wkA
theorem place1_prd (nm : List UInt8) : PrdA 51 nm fun v => decide (v.nm = nm) := fun v => by
  refine Fn_of_aw (keep := [3]) Tryz.func51 rfl rfl (by simp [Tryz.ntmps51]) (aw_wk ?_)
  simp only [num_cons, num_nil, Tryz.ntmps51, Tryz.results51]
  exact wkA
/-- The order of strings. -/
def gtB (a b : List UInt8) : Bool := !(Op.bytesLess a b || decide (a = b))
theorem bin_sgtr {P : Program} {t : TypeId} {x y : Operand} (a b : List UInt8) : bin P .gtr t x y (.string (str a)) (.string (str b)) = some (.bool (gtB a b)) := by
  show some (Value.bool (!(Op.bytesLess (str a).toList (str b).toList || (str a).toList == (str b).toList))) = _
  rw [str_toList, str_toList, Bool.beq_eq_decide_eq]
  rfl
attribute [go_sem] bin_sgtr
theorem place2_prd (nm : List UInt8) : PrdA 52 nm fun v => gtB v.nm nm := fun v => by
  refine Fn_of_aw (keep := [3]) Tryz.func52 rfl rfl (by simp [Tryz.ntmps52]) (aw_wk ?_)
  simp only [num_cons, num_nil, Tryz.ntmps52, Tryz.results52]
  exact wkA
/-- The first that p holds of, or -1. -/
def fdV (p : Vr → Bool) (L : List Vr) : Int := if L.findIdx p < L.length then (L.findIdx p : Nat) else -1
theorem find_fn (g : FuncId) (nm : List UInt8) (p : Vr → Bool) (L : List Vr) (hg : PrdA g nm p) (hgl : g < 1000000) (hL : L.length ≤ 1000) : Fn Tryz.prog 25 [.rd L.length (vrC L), .fn g [.pt 3 0]] [(3, [az nm])] (ai (fdV p L)) [(3, [az nm])] [3] := by
  generalize hR : fdV p L = R
  rw [vrC_eq]
  refine Fn_of_aw (keep := [3]) Tryz.func25 rfl rfl (by simp [Tryz.ntmps25]) (aw_wk ?_)
  simp only [num_cons, num_nil, Tryz.ntmps25, Tryz.results25]
  repeat' (first
 | ((with_reducible apply awO_ev); (· rfl); (· exact sv))
 | ((with_reducible apply aw_seq); intro _ _)
 | (with_reducible apply aw_region)
 | (with_reducible apply aw_block)
 | ((with_reducible first | apply awO_nil | apply aw_exit | apply aw_skip | apply aw_ret); (try simp only [CT, ↓reduceIte, Nat.reduceEqDiff]))
 | (refine Kont.go ‹Kont _ _ _ _› _ ?_))
  refine aw_loopF (fun j : Nat => [(9, ai j)]) (fun _ => [(3, [az nm])]) (fun j => j ≤ L.length ∧ ∀ i (h : i < L.length), i < j → p L[i] = false) (fun j => L.length - j) 0 ⟨Nat.zero_le _, fun i h h2 => by omega⟩ ?_ ?_ ?_
  · exact ⟨rfl, trivial⟩
  · exact ⟨rfl, trivial⟩
  rintro j ⟨hj, hI⟩
  (simp only [LP, List.append_assoc, List.nil_append, List.cons_append, List.append_nil, List.contains_cons, List.contains_nil, Nat.reduceBEq, Bool.or_false, Bool.or_true, Bool.true_or, Bool.false_or, ↓reduceIte, Bool.false_eq_true])
  by_cases hjl : j < L.length
  · have c1 := hg L[j]
    cases hp : p L[j] with
    | true =>
      have e : L.findIdx p = j := by
        rw [List.findIdx_eq hjl]
        exact ⟨hp, fun i hi => hI i (by omega) hi⟩
      have hR2 : R = (j : Nat) := by rw [← hR, fdV, e, if_pos hjl]
      subst hR2
      rw [hp] at c1
      exact wkD
    | false =>
      rw [hp] at c1
      repeat' (first
 | ((with_reducible apply awO_ev); (· rfl); (· exact sv))
 | ((with_reducible apply aw_seq); intro _ _)
 | (with_reducible apply aw_region)
 | (with_reducible apply aw_block)
 | ((with_reducible first | apply awO_nil | apply aw_exit | apply aw_skip | apply aw_ret); (try simp only [CT, ↓reduceIte, Nat.reduceEqDiff]))
 | ((with_reducible apply aw_cond_false); (· exact sv))
 | (refine Kont.go ‹Kont _ _ _ _› _ ?_)
 | ((with_reducible apply awO_k); (· rfl); (· rfl); (· exact sv); (· first | exact bok | exact bok (by assumption)); (· exact sv); (· (first | exact c1)); (· exact svq); (· exact svq); (· exact svq); (· exact svq); (· rfl); (· exact nd); (with_reducible apply awO_st); (· exact svs))
 | ((first | ((with_reducible apply awO_guardN); (· rfl); (· rfl); (· exact sv); (· exact nB)) | ((with_reducible apply aw_condN); (· exact sv))); (· exact pN); (· exact pN); all_goals (intro hg; try (exfalso; omega))))
      all_goals
        refine LE_mk (j + 1) ?_ ?_ sN sN sN
        · exact ⟨hjl, fun i h h2 => by
            rcases Nat.lt_or_ge i j with h3 | h3
            · exact hI i h h3
            · obtain rfl : i = j := by omega
              exact hp⟩
        · omega
  · have e : ¬ L.findIdx p < L.length := fun h => by
      have := List.findIdx_getElem (w := h)
      rw [hI _ h (by omega)] at this
      cases this
    have hR2 : R = -1 := by rw [← hR, fdV, if_neg e]
    subst hR2
    exact wkD
/-- The variable that is found. -/
def getV (L : List Vr) (nm : List UInt8) : Option Vr := L.find? fun v => decide (v.nm = nm)
theorem fdV_some {L : List Vr} {p : Vr → Bool} {v : Vr} (h : L.find? p = some v) : ∃ (i : Nat) (h : i < L.length), fdV p L = i ∧ L[i] = v := by
  have h1 : L.findIdx p < L.length := List.findIdx_lt_length_of_exists ⟨v, List.mem_of_find?_eq_some h, List.find?_some h⟩
  refine ⟨L.findIdx p, h1, by rw [fdV, if_pos h1], ?_⟩
  have := List.find?_eq_some_iff_getElem.1 h
  obtain ⟨hp, i, hi, e, hlt⟩ := this
  have : L.findIdx p = i := by
    rw [List.findIdx_eq hi]
    exact ⟨by rw [e]; exact hp, fun j hj => by simpa using hlt j hj⟩
  simp only [this]
  exact e
theorem get_ab (L : List Vr) (nm : List UInt8) (v : Vr) (hL : L.length ≤ 1000) (h : getV L nm = some v) : Ab Tryz.prog 12 [.rd L.length (vrC L), az nm] (.tp [.ag (vrCs v), ab true]) := by
  have c1 := find_fn _ nm _ L (Get1_prd nm) (by decide) hL
  obtain ⟨i, hi, e1, e2⟩ := fdV_some h
  rw [e1] at c1
  subst e2
  refine Fn_of_aw (keep := []) Tryz.func12 rfl rfl (by simp [Tryz.ntmps12]) ?_
  simp only [num_cons, num_nil, Tryz.ntmps12, Tryz.results12]
  simp only [vrC_eq] at c1 ⊢
  exact wkD
/-- Where a variable stands or is to stand. -/
def plcV (L : List Vr) (nm : List UInt8) : Nat × Bool := if L.findIdx (fun v => decide (v.nm = nm)) < L.length then (L.findIdx fun v => decide (v.nm = nm), true) else (L.findIdx fun v => gtB v.nm nm, false)
theorem place_ab (L : List Vr) (nm : List UInt8) (hL : L.length ≤ 1000) : Ab Tryz.prog 28 [.rd L.length (vrC L), az nm] (.tp [ai (plcV L nm).1, ab (plcV L nm).2]) := by
  have c1 := find_fn _ nm _ L (place1_prd nm) (by decide) hL
  have c2 := find_fn _ nm _ L (place2_prd nm) (by decide) hL
  have h2 := List.findIdx_le_length (xs := L) (p := fun v => gtB v.nm nm)
  unfold fdV at c1 c2
  unfold plcV
  by_cases h : L.findIdx (fun v => decide (v.nm = nm)) < L.length
  · rw [if_pos h] at c1 ⊢
    generalize (L.findIdx fun v => decide (v.nm = nm)) = i at *
    refine Fn_of_aw (keep := []) Tryz.func28 rfl rfl (by simp [Tryz.ntmps28]) ?_
    simp only [num_cons, num_nil, Tryz.ntmps28, Tryz.results28]
    exact wkD
  · rw [if_neg h] at c1 ⊢
    by_cases h3 : L.findIdx (fun v => gtB v.nm nm) < L.length
    · rw [if_pos h3] at c2
      generalize (L.findIdx fun v => gtB v.nm nm) = i at *
      clear h
      refine Fn_of_aw (keep := []) Tryz.func28 rfl rfl (by simp [Tryz.ntmps28]) ?_
      simp only [num_cons, num_nil, Tryz.ntmps28, Tryz.results28]
      exact wkD
    · rw [if_neg h3] at c2
      have e : (L.findIdx fun v => gtB v.nm nm) = L.length := by omega
      rw [e]
      clear h h3 e h2
      refine Fn_of_aw (keep := []) Tryz.func28 rfl rfl (by simp [Tryz.ntmps28]) ?_
      simp only [num_cons, num_nil, Tryz.ntmps28, Tryz.results28]
      exact wkD
end Go.Proofs.YtogmppcfopgkdaaGreatDoor
/- Variables: Set, on the abstract machine. -/
namespace Go.Proofs.YtogmppcfopgkdaaGreatDoor
open Go.RowKit
set_option linter.unusedVariables false
set_option linter.unusedSimpArgs false
set_option maxRecDepth 100000
set_option maxHeartbeats 8000000
/-- The list after an assignment. -/
def setV (L : List Vr) (nm val : List UInt8) : List Vr :=
  if (plcV L nm).2 = true then match L[(plcV L nm).1]? with
    | some v => L.take (plcV L nm).1 ++ [⟨v.nm, val, true, v.ex, v.ro⟩] ++ L.drop ((plcV L nm).1 + 1)
    | none => L
  else L.take (plcV L nm).1 ++ [⟨nm, val, true, false, false⟩] ++ L.drop ((plcV L nm).1 + 0)
theorem plcV_lt {L : List Vr} {nm : List UInt8} (h : (plcV L nm).2 = true) : (plcV L nm).1 < L.length := by
  unfold plcV at h ⊢
  split
  · next h1 => exact h1
  · next h1 => rw [if_neg h1] at h; cases h
theorem plcV_le (L : List Vr) (nm : List UInt8) : (plcV L nm).1 ≤ L.length := by
  unfold plcV
  split
  · next h1 => exact Nat.le_of_lt h1
  · exact List.findIdx_le_length
theorem set_ab (L : List Vr) (nm val : List UInt8) (hn : nmB nm = true) (hv : val.length ≤ 4096) (hL : L.length < 128) (hro : ∀ v ∈ L, v.ro = false) : Ab Tryz.prog 16 [.rd L.length (vrC L), az nm, az val] (.tp [.rd (setV L nm val).length (vrC (setV L nm val)), ai 0]) := by
  have c0 := name_ab nm (by have := hn; unfold nmB at this; simp only [Bool.and_eq_true, decide_eq_true_eq] at this; omega)
  rw [hn] at c0
  have c1 := place_ab L nm (by omega)
  have hle := plcV_le L nm
  unfold setV
  cases ho : (plcV L nm).2 with
  | true =>
    have hlt := plcV_lt ho
    rw [if_pos rfl, List.getElem?_eq_getElem hlt]
    simp only
    rw [ho] at c1
    generalize (plcV L nm).1 = i at *
    have hr := hro L[i] (List.getElem_mem hlt)
    have c2 := splice_ab L [⟨L[i].nm, val, true, L[i].ex, L[i].ro⟩] i 1 (by omega) (by simp) (by omega)
    generalize L.take i ++ [⟨L[i].nm, val, true, L[i].ex, L[i].ro⟩] ++ L.drop (i + 1) = M at *
    simp only [vrC_eq L, vrC_eq [_], List.flatMap_cons, List.flatMap_nil, List.append_nil, List.length_cons, List.length_nil] at c1 c2 ⊢
    rw [hr] at c2
    refine Fn_of_aw (keep := []) Tryz.func16 rfl rfl (by simp [Tryz.ntmps16]) ?_
    simp only [num_cons, num_nil, Tryz.ntmps16, Tryz.results16]
    repeat' (first
 | ((with_reducible apply awO_ev); (· rfl); (· exact sv))
 | ((with_reducible apply aw_seq); intro _ _)
 | (with_reducible apply aw_region)
 | (with_reducible apply aw_block)
 | ((with_reducible first | apply awO_nil | apply aw_exit | apply aw_skip | apply aw_ret); (try simp only [CT, ↓reduceIte, Nat.reduceEqDiff]))
 | ((with_reducible apply awO_y); (· rfl); (· rfl); (· decide); (· exact sv); (· exact sv))
 | ((with_reducible apply awO_n); (· rfl); (· rfl); (· decide); (· exact sv); (· rfl); (· rfl); (· decide))
 | ((with_reducible apply aw_cond_false); (· exact sv))
 | (refine Kont.go ‹Kont _ _ _ _› _ ?_)
 | ((with_reducible apply awO_c); (· rfl); (· rfl); (· exact sv); (· (first | exact c0 | exact c1)); (· rfl); (· rfl); (· rfl); (· decide))
 | ((first | ((with_reducible apply awO_guardN); (· rfl); (· rfl); (· exact sv); (· exact nB)) | ((with_reducible apply aw_condN); (· exact sv))); (· exact pN); (· exact pN); all_goals (intro hg; try (exfalso; omega)))
 | ((with_reducible apply retQ_mk); (· exact rI); (· exact sv); (· exact sv); rotate_left; (· rfl)))
    all_goals first
      | (refine awO_pub 65 65 rfl rfl (by simp) rfl ?_)
      | (exfalso; rw [hr] at hg; cases hg)
    rw [hr]
    exact wkA
  | false =>
    rw [if_neg (by simp)]
    rw [ho] at c1
    generalize (plcV L nm).1 = i at *
    have c2 := splice_ab L [⟨nm, val, true, false, false⟩] i 0 (by omega) (by simp) (by omega)
    generalize L.take i ++ [⟨nm, val, true, false, false⟩] ++ L.drop (i + 0) = M at *
    simp only [vrC_eq L, vrC_eq [_], List.flatMap_cons, List.flatMap_nil, List.append_nil, List.length_cons, List.length_nil] at c1 c2 ⊢
    refine Fn_of_aw (keep := []) Tryz.func16 rfl rfl (by simp [Tryz.ntmps16]) ?_
    simp only [num_cons, num_nil, Tryz.ntmps16, Tryz.results16]
    repeat' (first
 | ((with_reducible apply awO_ev); (· rfl); (· exact sv))
 | ((with_reducible apply aw_seq); intro _ _)
 | (with_reducible apply aw_region)
 | (with_reducible apply aw_block)
 | ((with_reducible first | apply awO_nil | apply aw_exit | apply aw_skip | apply aw_ret); (try simp only [CT, ↓reduceIte, Nat.reduceEqDiff]))
 | ((with_reducible apply awO_y); (· rfl); (· rfl); (· decide); (· exact sv); (· exact sv))
 | ((with_reducible apply awO_n); (· rfl); (· rfl); (· decide); (· exact sv); (· rfl); (· rfl); (· decide))
 | ((with_reducible apply aw_cond_true); (· exact sv))
 | ((with_reducible apply aw_cond_false); (· exact sv))
 | (refine Kont.go ‹Kont _ _ _ _› _ ?_)
 | ((with_reducible apply awO_c); (· rfl); (· rfl); (· exact sv); (· (first | exact c0 | exact c1)); (· rfl); (· rfl); (· rfl); (· decide))
 | ((first | ((with_reducible apply awO_guardN); (· rfl); (· rfl); (· exact sv); (· exact nB)) | ((with_reducible apply aw_condN); (· exact sv))); (· exact pN); (· exact pN); all_goals (intro hg; try (exfalso; omega))))
    refine awO_pub 53 53 rfl rfl (by simp) rfl ?_
    exact wkA
end Go.Proofs.YtogmppcfopgkdaaGreatDoor
