/- The order of strings, strings.Compare, and calls of plain function values, for the abstract machine. -/
import Derived.Test.YtoncfnbgajnhgaaDoorCom
import Derived.Test.YtoncfnbgajnhgaaDoorKmC
import Derived.Test.YtoncfnbgajnhgaaDoorMgD
namespace Go.Proofs.YtoncfnbgajnhgaaDoor
open Go.RowKit
set_option linter.unusedVariables false
set_option linter.unusedSimpArgs false
section
variable {P : Program} {t : TypeId} {x y : Operand}
theorem bin_slss (a b : List UInt8) : bin P .lss t x y (.string (str a)) (.string (str b)) = some (.bool (ltB a b)) := by
  show some (Value.bool (Op.bytesLess (str a).toList (str b).toList)) = _
  rw [str_toList, str_toList]
theorem bin_sleq (a b : List UInt8) : bin P .leq t x y (.string (str a)) (.string (str b)) = some (.bool (!ltB b a)) := by
  show some (Value.bool (Op.bytesLess (str a).toList (str b).toList || (str a).toList == (str b).toList)) = _
  rw [str_toList, str_toList, Bool.beq_eq_decide_eq, ← leq_not]
theorem bin_sgtr (a b : List UInt8) : bin P .gtr t x y (.string (str a)) (.string (str b)) = some (.bool (ltB b a)) := by
  show some (Value.bool (!(Op.bytesLess (str a).toList (str b).toList || (str a).toList == (str b).toList))) = _
  rw [str_toList, str_toList, Bool.beq_eq_decide_eq]
  have := leq_not a b
  rw [show (Op.bytesLess a b || decide (a = b)) = !ltB b a from this, Bool.not_not]
theorem bin_sgeq (a b : List UInt8) : bin P .geq t x y (.string (str a)) (.string (str b)) = some (.bool (!ltB a b)) := by
  show some (Value.bool (!Op.bytesLess (str a).toList (str b).toList)) = _
  rw [str_toList, str_toList]
attribute [go_sem] bin_slss bin_sleq bin_sgtr bin_sgeq
end
set_option maxHeartbeats 1000000 in
set_option maxRecDepth 100000 in
theorem compareS_calls (a b : ByteArray) (w : World) :
    Calls Tryd.prog 48 #[.string a, .string b] w fun e w' => e = .returned (.int .i64 (Lib.compareBytes a.data.toList b.data.toList)) ∧ w' = w := by
  go_enter Tryd.func48, Tryd.ntmps48
  go_wp2
  rw [run_callFunc_extern Tryd.func54 (by kernel_rfl) (by kernel_rfl) (by kernel_rfl) (e := Extern.BytealgCompare.compare) (by kernel_rfl), Lib.run_compareString]
  simp only [Result.andThen]
  rw [Oper.upon_value]
  go_wp2
  go_ret
  exact ⟨rfl, rfl⟩
theorem compareS_ab (a b : List UInt8) : Ab Tryd.prog 48 [az a, az b] (ai (Lib.compareBytes a b)) := by
  refine Ab_plain (xs := [.string (str a), .string (str b)]) (by kernel_rfl) fun w => (compareS_calls (str a) (str b) w).mono fun e w' ⟨he, hw⟩ => ⟨?_, hw⟩
  rw [he]
  simp [str]
theorem compare_ab (a b : List UInt8) : Ab Tryd.prog 37 [az a, az b] (ai (Lib.compareBytes a b)) := by
  have c1 := compareS_ab a b
  refine Fn_of_aw (keep := []) Tryd.func37 rfl rfl (by simp [Tryd.ntmps37]) ?_
  simp only [num_cons, num_nil, Tryd.ntmps37, Tryd.results37]
  repeat' (first
 | ((with_reducible apply awO_ev); (· rfl); (· exact sv))
 | ((with_reducible apply aw_seq); intro _ _)
 | (with_reducible apply aw_region)
 | (with_reducible apply aw_block)
 | ((first | (with_reducible apply awO_nil) | (with_reducible apply aw_exit) | (with_reducible apply aw_skip) | (with_reducible apply aw_ret)); (try simp only [CT, ↓reduceIte, Nat.reduceEqDiff]))
 | ((with_reducible apply awO_y); (· rfl); (· rfl); (· decide); (· exact sv); (· exact sv))
 | ((with_reducible apply awO_n); (· rfl); (· rfl); (· decide); (· exact sv); (· rfl); (· rfl); (· decide))
 | ((with_reducible apply awO_u); (· rfl); (· rfl); (· exact svr); (· rfl); (· decide))
 | ((with_reducible apply aw_cond_true); (· exact sv))
 | ((with_reducible apply aw_cond_false); (· exact sv))
 | ((with_reducible apply awO_un); (· rfl); (· decide); (· exact sv))
 | (refine Kont.go ‹Kont _ _ _ _› _ ?_)
 | ((with_reducible apply awO_c); (· rfl); (· rfl); (· exact sv); (· (first | exact c1)); (· rfl); (· rfl); (· rfl); (· decide))
 | ((with_reducible apply awO_f); (· rfl); (· rfl); (· exact sv); (· exact sv); (· (first | exact c1)); (· rfl); (· rfl); (· decide))
 | ((with_reducible apply awO_m); (· rfl); (· rfl); (· exact sv); (· (first | exact c1)); (· exact svq); (· exact svq); (· exact svq); (· exact svq); (· rfl); (· exact nd); (with_reducible apply awO_st); (· exact svs))
 | ((first | ((with_reducible apply awO_guard); (· rfl); (· rfl); (· exact sv)) | ((with_reducible apply aw_cond); (· exact sv))); all_goals (intro hg; (try simp only [Bool.not_true, Bool.not_false]); (try simp only [decide_eq_true_eq, decide_eq_false_iff_not, Bool.not_true, Bool.not_false, Bool.not_eq_true', Bool.not_eq_false', Bool.not_not, beq_eq_false_iff_ne, ne_eq, beq_iff_eq, decide_eq_decide] at hg); try (exfalso; omega)))
 | ((with_reducible apply retQ_mk); (· (first | exact .inr rfl | exact .inl rfl)); (· exact sv); (· exact sv); rotate_left; (· rfl)))
  rfl
section
variable {P : Program} {st : St} {Q : Exit → St → Prop} {ops : Array Oper} {rest : List Oper} {o : Oper}
/-- A plain function value is called: data in, data out. -/
theorem awO_fv {f : FuncId} {c : Operand} {args : List Operand} {ts : Array TypeId} {ys : List AV} {r : AV} {d : Nat} (hg : o.guard = none) (ho : o.op = .call ⟨.value c, args.toArray, ts⟩) (hv : opv st c = some (.v (.func (.func f) #[] #[]))) (ha : argsA st args = some ys) (hc : Ab P f ys r) (hi : ys.all immA = true) (hr : immA r = true) (hd : o.dst = some d) (hdn : d < st.nt)
    (h : awO P ops rest (st.put (some d) r) Q) : awO P ops (o :: rest) st Q := fun E a w ⟨ρ, hS⟩ => by
  refine wpList_plain hg fun K hK => ?_
  have hrun := run_callC (us := #[]) ho hc.1 a w (Rep.v_eq (opv_sound hS hv))
  rw [Array.append_empty] at hrun
  unfold Oper.wp
  rw [hrun, Oper.upon_enter]
  have hargs := argsA_rep hS ha
  refine (hc.2 w (avd E.bad ρ st.hp) ρ _ ⟨fun b hb => ?_, hS.glob, fun b hb => by obtain ⟨k, cs, hk, _⟩ := hb; simp [look] at hk⟩ (fun b hb => ?_) HR.nil ⟨hargs.1, fun j y v hj hv => ?_⟩).mono ?_
  · rcases hb with hb | ⟨k, cs, h1, h2, rfl⟩
    · exact Nat.lt_of_lt_of_le (hS.bad.1 b hb) hS.keep.size
    · exact ((hS.hr.obj k cs h1).mem h2).1
  · obtain ⟨k, cs, hk, _⟩ := hb; simp [look] at hk
  · exact (hargs.2 j y v hj hv).tr (Nat.le_refl _) (fun _ _ _ _ => rfl) (fun b _ hb => (avd_nil _ _ b).1 hb) (fun _ hk => absurd rfl hk)
  · rintro e w' ⟨v, ρ', rfl, hrep, _, hkeep, _⟩
    have hb := keeps_nil hkeep
    refine hK _ _ ?_
    rw [hd]
    exact h E _ w' ⟨ρ, (hS.below hb).put (some d) (fun t e => by injection e with e; subst e; exact hdn) ((hrep.imm (ρ' := ρ) hr).tr (Nat.le_refl _) (fun _ _ _ _ => rfl) (fun b _ hb => (avd_nil _ _ b).2 hb) (fun _ hk => absurd rfl hk))⟩
end
end Go.Proofs.YtoncfnbgajnhgaaDoor
