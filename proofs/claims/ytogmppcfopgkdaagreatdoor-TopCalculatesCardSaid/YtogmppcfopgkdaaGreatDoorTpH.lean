/- From a contract to the row of a tied card: the world's shape and the listed variables are kept. No program is named here. -/
import Derived.Test.YtogmppcfopgkdaaGreatDoorMgC
import Derived.OpenShut
import Derived.LaidMore
import Derived.Lay
import Derived.SevenTiedAt
import Derived.Stop.Joined
import Derived.Shelf.Vars
import Derived.Test.YtogmppcfopgkdaaGreatDoorStEq
namespace Go.Proofs.YtogmppcfopgkdaaGreatDoor
open Go.ChangeShapes Go.WideShapes Go.ChangeAt Go.RowKit
set_option linter.unusedVariables false
set_option linter.unusedSimpArgs false
section
variable {H : Type} {enc : TypeId × Value → H}
theorem returnsH {a : Assume} {C : Checked} {os : Os} {f : FuncId} {fn : Func} {s : ChangeSpec} {conds : List PathCond} {apart fresh handsOn again : Bool} {X : World → Array Value → Prop}
    (hX : ∀ (w w' : World) (args : Array Value), w.heap = w'.heap → X w args → X w' args)
    (own : ownKnob C.prog.godebug = none) (started : os.Started) (noInit : C.prog.inits.idxOf? f = none) (hfn : C.prog.funcs[f]? = some fn)
    (witness : ∃ (w : World) (tape : Tape) (i : Input), w.os = os ∧ (w.forCall tape i).Shaped C.prog ∧ i.vars = [] ∧ Input.okWide C.prog (w.forCall tape i) .any w.heap.size f i ∧
      ((s.pre enc C.prog fn conds apart (w.forCall tape i).memory i.args ∧ X (w.forCall tape i).memory i.args) ∧ sizedMet enc C.prog fn (OpenSpec.ofChange s) apart (w.forCall tape i).memory i.args) ∧ a.holds C.prog (lone (Frame.enter C.prog f i.args .normal) [] (w.forCall tape i)))
    (contract : ∀ (W : World) (base : Nat) (args : Array Value) (ds gs : List (DataW H)) (before : List MemPlace),
      (∀ (j : Nat) t v, fn.params[j]? = some t → args[j]? = some v → Value.okWide C.prog W .any base t v) →
      DataW.Whole enc C.prog fn.params.toList s.vars apart W args.toList ds gs before →
      (DataW.weightsEach C.prog (fn.params.toList ++ s.plain.varTypes C.prog) (ds ++ gs)).all (· ≤ reachBytes) = true → X W args → W.ShapedOpen C.prog →
      Calls C.prog f args W fun e W' => ∃ v, e = .returned v ∧ s.post enc C.prog fn apart fresh handsOn again W args v W') :
    ReturnsInHanded a C os f .any (fun w args => (s.pre enc C.prog fn conds apart w args ∧ X w args) ∧ sizedMet enc C.prog fn (OpenSpec.ofChange s) apart w args) (s.post enc C.prog fn apart fresh handsOn again) := by
  refine returnsInHanded_of_calls own started noInit witness ?_
  intro w tape i _ hsh _ hok hpre hholds
  obtain ⟨_, _, _, fn', hfn', _, _, _, _, hval⟩ := hok
  have e : fn' = fn := Option.some.inj (hfn'.symm.trans hfn)
  subst e
  obtain ⟨⟨⟨ds, gs, before, hw, hc⟩, hx⟩, hz⟩ := hpre
  have hw' := DataW.Whole.of_heap (w' := w.forCall tape i) (by rfl) hw
  refine (contract (w.forCall tape i) w.heap.size i.args ds gs before hval hw' (hz.weights hw) (hX _ _ _ (by rfl) hx) hsh).mono fun e W' ⟨v, he, hp⟩ => ?_
  subst he
  exact ChangeSpec.post_blind hp
theorem law_lift_card {C : Checked} {os : Os} {f : FuncId} {fn : Func} {s : ChangeSpec} {tb : TypeId} {laid : List (String × DataW Unit)} (ss : List Sh) (hss : okArgs C.prog ss fn.params.toList = true)
    (own : ownKnob C.prog.godebug = none) (started : os.Started) (noInit : C.prog.inits.idxOf? f = none) (hfn : C.prog.funcs[f]? = some fn)
    (hl : laidOutB C.prog = true) (hres : fn.resultTypes = #[tb]) (hbool : C.prog.underlying tb = some .bool) (hvars : s.vars = [])
    (hts : (fn.params.toList.all fun t => C.prog.readableRec t && decide (t < C.prog.types.size)) = true)
    (hs : ∀ ds : List (DataW H), ds.length = fn.params.size → s.fn H ds = { results := [.lit (.bool true)], args := ds })
    (witness : ∃ (w : World) (tape : Tape) (i : Input), w.os = os ∧ (w.forCall tape i).Shaped C.prog ∧ i.vars = [] ∧ Input.okWide C.prog (w.forCall tape i) .any w.heap.size f i ∧
      ((s.pre enc C.prog fn [] false (w.forCall tape i).memory i.args ∧ laidMetH C.prog laid (w.forCall tape i).memory) ∧ sizedMet enc C.prog fn (OpenSpec.ofChange s) false (w.forCall tape i).memory i.args) ∧ ({} : Assume).holds C.prog (lone (Frame.enter C.prog f i.args .normal) [] (w.forCall tape i)))
    (hglob : ∀ W : World, W.ShapedOpen C.prog → laidMetH C.prog laid W → Glob W)
    (walk : ∀ (ds : List (DataW H)), Szds ss ds → Ab C.prog f (avAs ss ds) (.v (.bool true))) :
    ReturnsInHanded {} C os f .any (fun w args => (s.pre enc C.prog fn [] false w args ∧ laidMetH C.prog laid w) ∧ sizedMet enc C.prog fn (OpenSpec.ofChange s) false w args) (s.post enc C.prog fn false true false false) := by
  refine returnsH (X := fun w _ => laidMetH C.prog laid w) (fun _ _ _ hh h => h.of_heap hh) own started noInit hfn witness ?_
  intro W base args ds gs before hval hW hwt hx hsh
  have hA := hW
  obtain ⟨p, q, hA, hV, _, _, _⟩ := hA
  rw [hvars] at hV
  obtain ⟨rfl, rfl⟩ := trodVars_none hV
  have hpv : s.plain.varTypes C.prog = [] := by simp [ChangeSpec.plain, hvars]; rfl
  rw [hpv, List.append_nil, List.append_nil] at hwt
  obtain ⟨g1, g2, g3⟩ := args_rep (b0 := base) hss (fun j t v ht hv => hval j t v (by simpa using ht) (by simpa using hv)) hA (fun m hm => by simpa using List.all_eq_true.1 hwt m hm) (fun _ => ⟨0, 0, 0⟩)
  obtain ⟨_, hc⟩ := walk ds g1
  refine (hc W (fun _ => False) (fun _ => ⟨0, 0, 0⟩) args ⟨fun _ h => h.elim, hglob W hsh hx, fun b ⟨k, cs, hk, _⟩ => by simp [look] at hk⟩ (fun _ _ h => h) HR.nil ⟨by simpa using g2, fun j a x hj hx => ?_⟩).mono fun e W' ⟨v, ρ', he, hr, _, hk, _⟩ => ?_
  · refine (g3 j a x hj (by simpa using hx)).tr (Nat.le_refl _) (fun _ _ _ _ => rfl) (fun b _ hb => ?_) (fun _ hk => absurd rfl hk)
    exact (avd_nil _ _ b).1 hb
  · refine ⟨v, he, ?_⟩
    have := hr.v_eq
    subst this
    exact law_post hl hres hbool hvars hts hs hW (keeps_nil hk)
end
end Go.Proofs.YtogmppcfopgkdaaGreatDoor
/- The package variables that are known when the law begins: bytealg.MaxLen is an integer, strconv.uint64pow10 holds the powers of ten. -/
namespace Go.Proofs.YtogmppcfopgkdaaGreatDoor
open Go.ChangeShapes Go.WideShapes Go.ChangeAt Go.RowKit
set_option linter.unusedVariables false
set_option linter.unusedSimpArgs false
set_option maxRecDepth 100000
theorem szd_big9 {H : Type} {d : DataW H} (h : Szd .str [d]) : (toBytes d).length ≤ 9000000000000000 := by
  have : (toBytes d).length ≤ 140737488351232 := h
  omega
theorem pow_block {W : World} (h : laidMetH Tryz.prog Rows.topCalculatesRow.laid W) : ∃ t fz, W.heap[1]? = some (.cells (Lib.pow10Tab.map fun z => Value.int .u64 z).toArray t fz) := by
  rw [MakeChecks.laidMetH_plain _ _ _ (by kernel_rfl)] at h
  obtain ⟨ps, ⟨_, _, _, _, _, _, _, _, _, _, ⟨_, _, _, _, _, _, _, _, _, _, ⟨g, t, cs, fuel, p, q, hg, ht, hv, hd, _, _⟩, _⟩, _⟩, _, _⟩ := h
  obtain rfl := Option.some.inj ((show Tryz.prog.globalNamed "internal/strconv.uint64pow10" = some 1 by kernel_rfl).symm.trans hg)
  obtain rfl := Option.some.inj ((show (Tryz.prog.globals[1]?).map (·.type) = some 344 by kernel_rfl).symm.trans ht)
  obtain ⟨xs, m, _, ex, hcl, hl, hel⟩ := DataW.trod_array Tryz.underlying344 hd
  have c5 : Tryz.prog.cellsOf 254 = 1 := by kernel_rfl
  have c6 : Tryz.prog.cellsOf 344 = 20 := by kernel_rfl
  rw [c6, Array.length_toList] at hcl
  have e3 : (xs.map (·.1)) = Lib.pow10Tab.map fun z => .lit (.int .u64 z) := (DataW.agg.inj (Prod.mk.inj ex).1).symm
  have hcs : cs = (Lib.pow10Tab.map fun z => Value.int .u64 z).toArray := by
    apply Array.ext'
    apply List.ext_getElem?
    intro r
    rcases Nat.lt_or_ge r 20 with hr | hr
    · have hE := hel r hr
      rw [c5, Nat.mul_one, List.getElem?_eq_getElem (by omega)] at hE
      obtain ⟨z, e1, e2, _⟩ := DataW.trod_int Tryz.underlying254 hE
      have e4 : (xs.map (·.1))[r]? = (Lib.pow10Tab.map fun z => (DataW.lit (.int .u64 z) : DataW Unit))[r]? := by rw [e3]
      rw [List.getElem?_map, List.getElem?_eq_getElem (by omega : r < xs.length), e2, List.getElem?_map] at e4
      have hlen := Lib.pow10Tab_length
      rw [List.getElem?_eq_getElem (by omega : r < Lib.pow10Tab.length)] at e4
      simp only [Option.map_some, Option.some.injEq, DataW.lit.injEq, Lit.int.injEq, true_and] at e4
      have h0 : ((cs.toList.drop r).take 1)[0]? = some (.int .u64 z) := by rw [e1]; rfl
      have h1 : cs.toList[r]? = some (.int .u64 z) := by simpa using h0
      rw [h1, List.toList_toArray, List.getElem?_map, List.getElem?_eq_getElem (by omega : r < Lib.pow10Tab.length), e4]
      rfl
    · rw [List.getElem?_eq_none (by rw [Array.length_toList]; omega), List.getElem?_eq_none (by rw [List.toList_toArray, List.length_map, Lib.pow10Tab_length]; exact hr)]
  simp only [World.var?, hg, Option.bind_some] at hv
  split at hv
  · next c t' fz hh =>
    injection hv with hv
    subst hv
    rw [hcs] at hh
    exact ⟨t', fz, hh⟩
  · cases hv
theorem globC (W : World) (hsh : W.ShapedOpen Tryz.prog) (h : laidMetH Tryz.prog Rows.topCalculatesRow.laid W) : Glob W := by
  obtain ⟨s0, hs⟩ := cell_of_shapedOpen_int (P := Tryz.prog) (g := 0) (t := 3) (zero := #[.int .i64 0]) hsh (of_decide_eq_true (by kernel_rfl)) (by kernel_rfl) rfl (by kernel_rfl) (by kernel_rfl) Tryz.underlying3
  obtain ⟨t, fz, hh⟩ := pow_block h
  refine ⟨fun p hp => ?_, fun b hb => ?_⟩
  · simp only [gTab, List.mem_singleton] at hp
    subst hp
    refine ⟨World.block_lt_of_cell? W ⟨0, 0, none⟩ hs, fun j φ hφ => ?_⟩
    rcases j with _ | j
    · simp only [List.getElem?_cons_zero, Option.some.injEq] at hφ
      subst hφ
      exact ⟨_, hs, _, rfl⟩
    · simp at hφ
  · have hb0 : b = 1 := by
      by_cases e : b = 1
      · exact e
      · exact absurd (by simp only [gVal, if_neg e]) hb
    subst hb0
    have hv : gVal 1 = Lib.pow10Tab.map fun z => Value.int .u64 z := by simp only [gVal, if_true]
    rw [hv]
    refine ⟨(Array.getElem?_eq_some_iff.1 hh).1, fun j x hx => ?_, t, fz, hh⟩
    unfold World.cell?
    simp only [hh, Option.isSome_none, Bool.false_eq_true, if_false]
    rw [List.getElem?_toArray]
    exact hx
end Go.Proofs.YtogmppcfopgkdaaGreatDoor
