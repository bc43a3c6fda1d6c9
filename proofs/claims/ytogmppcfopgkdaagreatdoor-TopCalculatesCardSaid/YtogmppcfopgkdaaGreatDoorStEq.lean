/- Words for contracts on the abstract machine; plain calls of the library. -/
import Derived.Test.YtogmppcfopgkdaaGreatDoorTypes
import Derived.Lib.Strings
import Derived.Lib.Slices
import Derived.Lib.Walk
import Derived.Lib.Bytealg
import Derived.Test.YtogmppcfopgkdaaGreatDoorMgC
import Derived.Laws.StructEq
namespace Go.Proofs.YtogmppcfopgkdaaGreatDoor
open Go.RowKit
set_option linter.unusedVariables false
set_option linter.unusedSimpArgs false
abbrev ai (n : Int) : AV := .v (.int .i64 n)
abbrev ab (b : Bool) : AV := .v (.bool b)
abbrev az (l : List UInt8) : AV := .v (.string (str l))
abbrev au (b : UInt8) : AV := .v (.int .u8 b.toNat)
theorem ab_eq {b c : Bool} (h : b = true ↔ c = true) : AV.v (.bool b) = ab c := by rw [Bool.eq_iff_iff.2 h]
/-- A function that only computes. -/
theorem Ab_plain {P : Program} {f : FuncId} {xs : List Value} {x : Value} (hc : callable P f = true) (h : ∀ w, Calls P f xs.toArray w fun e w' => e = .returned x ∧ w' = w) : Ab P f (xs.map .v) (.v x) := by
  refine ⟨hc, fun w bad ρ vs _ _ _ hr => ?_⟩
  have e : vs = xs.toArray := by
    apply Array.ext'
    apply List.ext_getElem?
    intro j
    have hn : vs.size = xs.length := by simpa using hr.1
    by_cases hj : j < xs.length
    · have := (hr.2 j (.v xs[j]) vs[j] (by simp [hj]) (by simp [hn, hj])).v_eq
      simp [hn, hj, this]
    · rw [List.getElem?_eq_none (by simp [hn]; omega), List.getElem?_eq_none (by simp; omega)]
  subst e
  exact (h w).mono fun e w' ⟨he, hw⟩ => ⟨x, ρ, he, .im (.v _), HR.nil, by rw [hw]; exact Keeps.refl _ _, fun b ⟨k, cs, hk, _⟩ => by simp [look] at hk, fun k hk => by cases hk⟩
theorem knob : ownKnob Tryz.prog.godebug = none := by kernel_rfl
theorem laidOut : laidOutB Tryz.prog = true := by kernel_rfl
end Go.Proofs.YtogmppcfopgkdaaGreatDoor
/- Structs compared: fields of one cell that are numbers, bools and strings. No program is named here. -/
namespace Go.Proofs.YtogmppcfopgkdaaGreatDoor
open Go.RowKit
set_option linter.unusedVariables false
set_option linter.unusedSimpArgs false
/-- The kinds of a struct's fields: 0 a number, 1 a bool, 2 a string. -/
def kindsF (P : Program) : Nat → List Field → Option (List Nat)
  | _, [] => some []
  | i, f :: fs => if f.name ≠ "_" ∧ f.offset = i then
      match P.underlying f.type with
      | some (.int _) => (kindsF P (i + 1) fs).map (0 :: ·)
      | some .bool => (kindsF P (i + 1) fs).map (1 :: ·)
      | some .string => (kindsF P (i + 1) fs).map (2 :: ·)
      | _ => none
    else none
def eqK (P : Program) (t : TypeId) : Option (List Nat) := match P.underlying t with
  | some (.struct fs) => if P.stoodInHeld t = false ∧ P.eqGuardType P.depth t = false then kindsF P 0 fs.toList else none
  | _ => none
/-- Cells compared. -/
def eqL : List Nat → List Value → List Value → Option Bool
  | [], [], [] => some true
  | 0 :: ks, .int k a :: l, .int k' b :: m => if k = k' then (eqL ks l m).map (decide (a = b) && ·) else none
  | 1 :: ks, .bool a :: l, .bool b :: m => (eqL ks l m).map ((a == b) && ·)
  | 2 :: ks, .string a :: l, .string b :: m => (eqL ks l m).map (decide (a.toList = b.toList) && ·)
  | _, _, _ => none
theorem eqL_nil : eqL [] [] [] = some true := rfl
theorem eqL_int (ks : List Nat) (k : IntKind) (a b : Int) (l m : List Value) : eqL (0 :: ks) (.int k a :: l) (.int k b :: m) = (eqL ks l m).map (decide (a = b) && ·) := by simp [eqL]
theorem eqL_bool (ks : List Nat) (a b : Bool) (l m : List Value) : eqL (1 :: ks) (.bool a :: l) (.bool b :: m) = (eqL ks l m).map ((a == b) && ·) := rfl
theorem eqL_str (ks : List Nat) (a b : List UInt8) (l m : List Value) : eqL (2 :: ks) (.string (str a) :: l) (.string (str b) :: m) = (eqL ks l m).map (decide (a = b) && ·) := by simp [eqL, str_toList]
section
variable {P : Program}
theorem pr_program : pr P program = some P := rfl
theorem pr_isAgg {t : TypeId} {d : TypeDesc} (h : P.underlying t = some d) (hd : d.isRow = false) : pr P (isAgg t) = some false := by
  unfold isAgg
  rw [pr_bind, pr_underlying h]
  cases d <;> first | rfl | (simp [TypeDesc.isRow] at hd)
theorem pr_part {t : TypeId} {d : TypeDesc} (h : P.underlying t = some d) (hd : d.isRow = false) {cs : Array Value} {off : Nat} {v : Value} (hv : cs[off]? = some v) : pr P (part t cs off) = some v := by
  unfold part
  rw [pr_bind, pr_isAgg h hd]
  simp only [Option.bind_some, Bool.false_eq_true, if_false, hv]
  rfl
theorem pr_eqFields {d : Nat} : ∀ {fs : List Field} {i : Nat} {ks : List Nat} {l m l0 m0 : List Value} {b : Bool}, kindsF P i fs = some ks → eqL ks l m = some b → l0.drop i = l → m0.drop i = m →
    pr P (Op.eqFields (d + 1) l0.toArray m0.toArray fs) = some b
  | [], i, ks, l, m, l0, m0, b, hk, he, _, _ => by
    simp only [kindsF, Option.some.injEq] at hk
    subst hk
    unfold eqL at he
    split at he <;> simp_all [Op.eqFields, pr_pure]
  | f :: fs, i, ks, l, m, l0, m0, b, hk, he, hl, hm => by
    unfold kindsF at hk
    split at hk
    · next hc =>
      obtain ⟨h1, h2⟩ := hc
      have step : ∀ (ty : TypeDesc) (v u : Value) (l' m' : List Value) (e b' : Bool), P.underlying f.type = some ty → ty.isRow = false → l = v :: l' → m = u :: m' → pr P (Op.equalIn (d + 1) f.type v u) = some e →
          (e = true → pr P (Op.eqFields (d + 1) l0.toArray m0.toArray fs) = some b') → b = (e && b') → pr P (Op.eqFields (d + 1) l0.toArray m0.toArray (f :: fs)) = some b := fun ty v u l' m' e b' hu hr el em heq hrec hb => by
        have g : ∀ (x0 : List Value) (x : Value) (x' : List Value), x0.drop i = x :: x' → x0.toArray[f.offset]? = some x := fun x0 x x' hx => by
          rw [h2]
          have := congrArg (fun y : List Value => y[0]?) hx
          simpa using this
        simp only [Op.eqFields, h1, ne_eq, not_false_eq_true, if_true, pr_bind, pr_part hu hr (g l0 v l' (by rw [hl, el])), pr_part hu hr (g m0 u m' (by rw [hm, em])), Option.bind_some, heq]
        cases e with
        | false => simp [hb, pr_pure]
        | true => simp [hb, hrec rfl]
      have tails : ∀ (x0 : List Value) (x : Value) (x' : List Value), x0.drop i = x :: x' → x0.drop (i + 1) = x' := fun x0 x x' hx => by
        rw [← List.drop_drop, hx]; rfl
      split at hk
      · next k0 hu =>
        rw [Option.map_eq_some_iff] at hk
        obtain ⟨ks', hk', rfl⟩ := hk
        unfold eqL at he
        split at he <;> try (cases he; done)
        · next hks => cases hks
        · next k a l' k' b0 m' hks =>
          injection hks with _ hks
          subst hks
          split at he
          · next hkk =>
            subst hkk
            rw [Option.map_eq_some_iff] at he
            obtain ⟨b', he', rfl⟩ := he
            refine step _ _ _ l' m' (a == b0) b' hu rfl rfl rfl ?_ (fun _ => pr_eqFields hk' he' (tails l0 _ _ (by rw [hl])) (tails m0 _ _ (by rw [hm]))) (by rw [Bool.beq_eq_decide_eq])
            simp [Op.equalIn, pr_bind, pr_underlying hu, pr_pure]
          · cases he
        · next hks => injection hks with hks _; cases hks
        · next hks => injection hks with hks _; cases hks
      · next hu =>
        rw [Option.map_eq_some_iff] at hk
        obtain ⟨ks', hk', rfl⟩ := hk
        unfold eqL at he
        split at he <;> try (cases he; done)
        · next hks => cases hks
        · next hks => injection hks with hks _; cases hks
        · next a l' b0 m' hks =>
          injection hks with _ hks
          subst hks
          rw [Option.map_eq_some_iff] at he
          obtain ⟨b', he', rfl⟩ := he
          refine step _ _ _ l' m' (a == b0) b' hu rfl rfl rfl ?_ (fun _ => pr_eqFields hk' he' (tails l0 _ _ (by rw [hl])) (tails m0 _ _ (by rw [hm]))) rfl
          simp [Op.equalIn, pr_bind, pr_underlying hu, pr_pure]
        · next hks => injection hks with hks _; cases hks
      · next hu =>
        rw [Option.map_eq_some_iff] at hk
        obtain ⟨ks', hk', rfl⟩ := hk
        unfold eqL at he
        split at he <;> try (cases he; done)
        · next hks => cases hks
        · next hks => injection hks with hks _; cases hks
        · next hks => injection hks with hks _; cases hks
        · next a l' b0 m' hks =>
          injection hks with _ hks
          subst hks
          rw [Option.map_eq_some_iff] at he
          obtain ⟨b', he', rfl⟩ := he
          refine step _ _ _ l' m' (a.toList == b0.toList) b' hu rfl rfl rfl ?_ (fun _ => pr_eqFields hk' he' (tails l0 _ _ (by rw [hl])) (tails m0 _ _ (by rw [hm]))) (by rw [Bool.beq_eq_decide_eq])
          simp [Op.equalIn, pr_bind, pr_underlying hu, pr_pure, beq_toListBytes]
      · cases hk
    · cases hk
theorem pr_equal_struct {d : Nat} {t : TypeId} {fs : Array Field} {xs ys : Array Value} (ht : P.underlying t = some (.struct fs)) (hp : P.stoodInHeld t = false) :
    pr P (Op.equalIn (d + 1) t (.agg xs) (.agg ys)) = pr P (Op.eqFields d xs ys fs.toList) := by
  simp only [Op.equalIn, pr_bind, pr_underlying ht, Option.bind_some, pr_program, hp, Bool.false_eq_true, if_false]
  rw [← Array.forIn_toList]
  generalize fs.toList = fl
  clear ht
  induction fl with
  | nil => simp [Op.eqFields, pr_pure]
  | cons f fl ih =>
    simp only [List.forIn_cons, Op.eqFields, pr_bind]
    split
    · simp only [pr_bind]
      cases pr P (part f.type xs f.offset) with
      | none => rfl
      | some a =>
        simp only [Option.bind_some]
        cases pr P (part f.type ys f.offset) with
        | none => rfl
        | some b =>
          simp only [Option.bind_some]
          cases pr P (Op.equalIn d f.type a b) with
          | none => rfl
          | some r =>
            cases r
            · simp [pr_pure]
            · simp only [Option.bind_some, Bool.not_true, Bool.false_eq_true, if_false, pr_pure]
              exact ih
    · simp only [pr_pure, Option.bind_some]
      exact ih
theorem eqK_spec {t : TypeId} {ks : List Nat} (h : eqK P t = some ks) : ∃ fs, P.underlying t = some (.struct fs) ∧ P.stoodInHeld t = false ∧ P.eqGuardType P.depth t = false ∧ kindsF P 0 fs.toList = some ks := by
  unfold eqK at h
  split at h
  · next fs hu =>
    split at h
    · next hc => exact ⟨fs, hu, hc.1, hc.2, h⟩
    · cases h
  · cases h
theorem pr_guard {op : BinOp} {t : TypeId} {x y : Operand} {xs ys : Array Value} (h : P.eqGuardType P.depth t = false) : pr P (eqGuard op t x y (.agg xs) (.agg ys)) = some () := by
  cases op <;> simp [eqGuard, pr_bind, pr_pure, pr_program, h]
theorem bin_ageql {t : TypeId} {ks : List Nat} {x y : Operand} {l m : List Value} {b : Bool} (h : eqK P t = some ks) (he : eqL ks l m = some b) : bin P .eql t x y (.agg l.toArray) (.agg m.toArray) = some (.bool b) := by
  obtain ⟨fs, h1, h2, h3, h4⟩ := eqK_spec h
  unfold bin
  rw [pr_bind, pr_guard h3]
  show pr P (Op.equal t (.agg l.toArray) (.agg m.toArray) >>= fun b => pure (Value.bool b)) = _
  rw [pr_bind]
  unfold Op.equal Op.maxDepth
  rw [show (10000 : Nat) = 9998 + 1 + 1 from rfl, pr_equal_struct h1 h2, pr_eqFields h4 he rfl rfl]
  rfl
theorem bin_agneq {t : TypeId} {ks : List Nat} {x y : Operand} {l m : List Value} {b : Bool} (h : eqK P t = some ks) (he : eqL ks l m = some b) : bin P .neq t x y (.agg l.toArray) (.agg m.toArray) = some (.bool !b) := by
  obtain ⟨fs, h1, h2, h3, h4⟩ := eqK_spec h
  unfold bin
  rw [pr_bind, pr_guard h3]
  show pr P (Op.equal t (.agg l.toArray) (.agg m.toArray) >>= fun b => pure (Value.bool !b)) = _
  rw [pr_bind]
  unfold Op.equal Op.maxDepth
  rw [show (10000 : Nat) = 9998 + 1 + 1 from rfl, pr_equal_struct h1 h2, pr_eqFields h4 he rfl rfl]
  rfl
theorem bin_eql_0002 {t : TypeId} {x y : Operand} (k0 : IntKind) (a0 b0 : Int) (k1 : IntKind) (a1 b1 : Int) (k2 : IntKind) (a2 b2 : Int) (a3 b3 : List UInt8) (h : eqK P t = some [0, 0, 0, 2]) : bin P .eql t x y (.agg #[.int k0 a0, .int k1 a1, .int k2 a2, .string (str a3)]) (.agg #[.int k0 b0, .int k1 b1, .int k2 b2, .string (str b3)]) = some (.bool (decide (a0 = b0) && (decide (a1 = b1) && (decide (a2 = b2) && (decide (a3 = b3) && true))))) :=
  bin_ageql h (by simp only [eqL_int, eqL_int, eqL_int, eqL_str, eqL_nil, Option.map_some])
theorem bin_neq_0002 {t : TypeId} {x y : Operand} (k0 : IntKind) (a0 b0 : Int) (k1 : IntKind) (a1 b1 : Int) (k2 : IntKind) (a2 b2 : Int) (a3 b3 : List UInt8) (h : eqK P t = some [0, 0, 0, 2]) : bin P .neq t x y (.agg #[.int k0 a0, .int k1 a1, .int k2 a2, .string (str a3)]) (.agg #[.int k0 b0, .int k1 b1, .int k2 b2, .string (str b3)]) = some (.bool !(decide (a0 = b0) && (decide (a1 = b1) && (decide (a2 = b2) && (decide (a3 = b3) && true))))) :=
  bin_agneq h (by simp only [eqL_int, eqL_int, eqL_int, eqL_str, eqL_nil, Option.map_some])
theorem bin_eql_002 {t : TypeId} {x y : Operand} (k0 : IntKind) (a0 b0 : Int) (k1 : IntKind) (a1 b1 : Int) (a2 b2 : List UInt8) (h : eqK P t = some [0, 0, 2]) : bin P .eql t x y (.agg #[.int k0 a0, .int k1 a1, .string (str a2)]) (.agg #[.int k0 b0, .int k1 b1, .string (str b2)]) = some (.bool (decide (a0 = b0) && (decide (a1 = b1) && (decide (a2 = b2) && true)))) :=
  bin_ageql h (by simp only [eqL_int, eqL_int, eqL_str, eqL_nil, Option.map_some])
theorem bin_neq_002 {t : TypeId} {x y : Operand} (k0 : IntKind) (a0 b0 : Int) (k1 : IntKind) (a1 b1 : Int) (a2 b2 : List UInt8) (h : eqK P t = some [0, 0, 2]) : bin P .neq t x y (.agg #[.int k0 a0, .int k1 a1, .string (str a2)]) (.agg #[.int k0 b0, .int k1 b1, .string (str b2)]) = some (.bool !(decide (a0 = b0) && (decide (a1 = b1) && (decide (a2 = b2) && true)))) :=
  bin_agneq h (by simp only [eqL_int, eqL_int, eqL_str, eqL_nil, Option.map_some])
theorem bin_eql_20 {t : TypeId} {x y : Operand} (a0 b0 : List UInt8) (k1 : IntKind) (a1 b1 : Int) (h : eqK P t = some [2, 0]) : bin P .eql t x y (.agg #[.string (str a0), .int k1 a1]) (.agg #[.string (str b0), .int k1 b1]) = some (.bool (decide (a0 = b0) && (decide (a1 = b1) && true))) :=
  bin_ageql h (by simp only [eqL_str, eqL_int, eqL_nil, Option.map_some])
theorem bin_neq_20 {t : TypeId} {x y : Operand} (a0 b0 : List UInt8) (k1 : IntKind) (a1 b1 : Int) (h : eqK P t = some [2, 0]) : bin P .neq t x y (.agg #[.string (str a0), .int k1 a1]) (.agg #[.string (str b0), .int k1 b1]) = some (.bool !(decide (a0 = b0) && (decide (a1 = b1) && true))) :=
  bin_agneq h (by simp only [eqL_str, eqL_int, eqL_nil, Option.map_some])
theorem bin_eql_00 {t : TypeId} {x y : Operand} (k0 : IntKind) (a0 b0 : Int) (k1 : IntKind) (a1 b1 : Int) (h : eqK P t = some [0, 0]) : bin P .eql t x y (.agg #[.int k0 a0, .int k1 a1]) (.agg #[.int k0 b0, .int k1 b1]) = some (.bool (decide (a0 = b0) && (decide (a1 = b1) && true))) :=
  bin_ageql h (by simp only [eqL_int, eqL_int, eqL_nil, Option.map_some])
theorem bin_neq_00 {t : TypeId} {x y : Operand} (k0 : IntKind) (a0 b0 : Int) (k1 : IntKind) (a1 b1 : Int) (h : eqK P t = some [0, 0]) : bin P .neq t x y (.agg #[.int k0 a0, .int k1 a1]) (.agg #[.int k0 b0, .int k1 b1]) = some (.bool !(decide (a0 = b0) && (decide (a1 = b1) && true))) :=
  bin_agneq h (by simp only [eqL_int, eqL_int, eqL_nil, Option.map_some])
theorem bin_eql_01 {t : TypeId} {x y : Operand} (k0 : IntKind) (a0 b0 : Int) (a1 b1 : Bool) (h : eqK P t = some [0, 1]) : bin P .eql t x y (.agg #[.int k0 a0, .bool a1]) (.agg #[.int k0 b0, .bool b1]) = some (.bool (decide (a0 = b0) && ((a1 == b1) && true))) :=
  bin_ageql h (by simp only [eqL_int, eqL_bool, eqL_nil, Option.map_some])
theorem bin_neq_01 {t : TypeId} {x y : Operand} (k0 : IntKind) (a0 b0 : Int) (a1 b1 : Bool) (h : eqK P t = some [0, 1]) : bin P .neq t x y (.agg #[.int k0 a0, .bool a1]) (.agg #[.int k0 b0, .bool b1]) = some (.bool !(decide (a0 = b0) && ((a1 == b1) && true))) :=
  bin_agneq h (by simp only [eqL_int, eqL_bool, eqL_nil, Option.map_some])
end
attribute [go_sem] bin_eql_0002 bin_neq_0002 bin_eql_002 bin_neq_002 bin_eql_20 bin_neq_20 bin_eql_00 bin_neq_00 bin_eql_01 bin_neq_01
end Go.Proofs.YtogmppcfopgkdaaGreatDoor
