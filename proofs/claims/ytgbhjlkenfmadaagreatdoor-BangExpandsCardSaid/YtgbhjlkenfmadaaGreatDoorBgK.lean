/- bang's Words, on the abstract machine. -/
import Derived.Test.YtgbhjlkenfmadaaGreatDoorBgG
import Derived.Test.YtgbhjlkenfmadaaGreatDoorLxI
namespace Go.Proofs.YtgbhjlkenfmadaaGreatDoor
open Go.RowKit
set_option linter.unusedVariables false
set_option linter.unusedSimpArgs false
set_option maxRecDepth 100000
set_option maxHeartbeats 8000000
theorem opv_func (st : St) (f : FuncId) : opv st (.func f) = some (.v (.func (.func f) #[] #[])) := rfl
attribute [go_sem] opv_func
abbrev fnB : AV := .v (.func (.func 17) #[] #[])
theorem words1_calls (x : Nat) (w : World) : Calls Tryz.prog 17 #[encR x] w fun e w' => e = .returned (.bool (blR x)) ∧ ∃ q, w' = w.drewN q := by
  go_enter Tryz.func17, Tryz.ntmps17
  go_wp2
  · next h =>
    go_ret
    have e : x = 32 := by omega
    exact ⟨by simp [blR, e], 0, rfl⟩
  · next h =>
    go_ret
    refine ⟨?_, 0, rfl⟩
    have e1 : ((x : Int) == 32) = decide (x = 32) := by rw [Bool.eq_iff_iff]; simp; omega
    have e2 : ((x : Int) == 9) = decide (x = 9) := by rw [Bool.eq_iff_iff]; simp; omega
    rw [e1, e2]
    rfl
theorem fldB_len : ∀ (l cur : List UInt8), (fldB cur l).length ≤ l.length + 1 ∧ ∀ x ∈ fldB cur l, x.length ≤ cur.length + l.length
  | [], cur => by
    rw [fldB]
    split
    · simp
    · simp
  | c :: r, cur => by
    rw [fldB]
    have h0 := fldB_len r []
    have h1 := fldB_len r (cur ++ [c])
    split
    · split
      · exact ⟨by have := h0.1; simp only [List.length_cons]; omega, fun x hx => by have := h0.2 x hx; simp only [List.length_cons, List.length_nil] at this ⊢; omega⟩
      · refine ⟨by have := h0.1; simp only [List.length_cons]; omega, fun x hx => ?_⟩
        rcases List.mem_cons.1 hx with rfl | hx
        · omega
        · have := h0.2 x hx; simp only [List.length_cons, List.length_nil] at this ⊢; omega
    · refine ⟨by have := h1.1; simp only [List.length_cons]; omega, fun x hx => ?_⟩
      have := h1.2 x hx
      simp only [List.length_append, List.length_cons, List.length_nil] at this ⊢
      omega
theorem fieldsFunc_ab (s : List UInt8) (hs : s.length ≤ 1000000000) : Ab Tryz.prog 16 [az s, fnB] (strsA (fldB [] s)) := by
  refine ⟨by kernel_rfl, fun w bad ρ vs hb hn hr hrep => ?_⟩
  rw [argsE (xs := [.string (str s), .func (.func 17) #[] #[]]) hrep]
  refine (shf_strings_FieldsFunc 17 #[] (enters_of Tryz.func17 (by kernel_rfl) rfl) blR (str s) w (by rw [str_size]; omega) (fun W x _ => words1_calls x W)).mono fun e w' ⟨A, he, hA, hown, hw⟩ => ?_
  rw [lib_fields, List.length_map] at he hown
  have hfl := (fldB_len s []).1
  have hcell : ∀ j (hj : j < (fldB [] s).length), w'.cell? ⟨A, 0 + j, none⟩ = some (.string (str (fldB [] s)[j])) := fun j hj => by
    have := hown.cells (g := A) rfl j (.string (str (fldB [] s)[j])) (by simp [hj])
    have e : (⟨A, 0, none⟩ : Addr).add j = ⟨A, 0 + j, none⟩ := by unfold Addr.add; split <;> simp_all
    rwa [e] at this
  refine ⟨_, ρ, he, .im ?_, HR.nil, Keeps.of_below hw _, fun b ⟨k, cs, hk, _⟩ => by simp [look] at hk, fun k hk => by cases hk⟩
  refine .rd (fun j => .string (str ((fldB [] s)[j]?.getD []))) (Nat.le_refl _) (by omega) (fun h => ?_) (fun hp => ⟨A, 0, rfl, ?_, ?_, fun j hj => ?_⟩) (fun j a hj => ?_)
  · rw [List.eq_nil_of_length_eq_zero h]; rfl
  · intro h
    have := hb.1 _ ((avd_nil _ _ _).1 h)
    omega
  · rcases Nat.lt_or_ge A w'.heap.size with h | h
    · exact h
    · have := hcell 0 hp
      simp [World.cell?, Array.getElem?_eq_none h] at this
  · simp only [List.length_map] at hj
    rw [hcell j hj, List.getElem?_eq_getElem hj]
    rfl
  · simp only [List.getElem?_map, Option.map_eq_some_iff] at hj
    obtain ⟨x, hx, rfl⟩ := hj
    simp only [hx, Option.getD_some]
    exact .v _
def kindB (t : Tok) : Bool := decide (t.kind = 1 ∨ t.kind = 2 ∨ t.kind = 4)
/-- The words of a line. -/
def wordsF (s : List UInt8) : List (List UInt8) := if (allF s).2.2 ≠ 0 then fldB [] s else ((allF s).1.filter kindB).map (·.text)
theorem allT_len0 (s : List UInt8) : ∀ (n a : Nat), (allT s n a).1.length ≤ n
  | 0, a => by simp [allT]
  | n + 1, a => by
    rw [allT]
    have := allT_len0 s n (nextF s a).1.fin
    (repeat' split) <;> simp <;> omega
theorem words_ab (s : List UInt8) (hs : s.length ≤ 1000000) : Ab Tryz.prog 7 [az s] (strsA (wordsF s)) := by
  have c1 := all_ab s hs
  unfold allA at c1
  have hf := (fldB_len s []).1
  by_cases he : (allF s).2.2 = 0
  · rw [if_pos he] at c1
    have hT := allT_len0 s (s.length + 2) 0
    rw [show allT s (s.length + 2) 0 = allF s from rfl] at hT
    have e : wordsF s = ((allF s).1.filter kindB).map (·.text) := by unfold wordsF; rw [if_neg (by simpa using he)]
    rw [e]
    generalize hTk : (allF s).1 = Tk at *
    refine Fn_of_aw (keep := []) Tryz.func7 rfl rfl (by simp [Tryz.ntmps7]) ?_
    simp only [num_cons, num_nil, Tryz.ntmps7, Tryz.results7]
    repeat' (first
 | ((with_reducible apply awO_ev); (· rfl); (· exact sv))
 | ((with_reducible apply aw_seq); intro _ _)
 | (with_reducible apply aw_region)
 | (with_reducible apply aw_block)
 | ((with_reducible first | apply awO_nil | apply aw_exit | apply aw_skip | apply aw_ret); (try simp only [CT, ↓reduceIte, Nat.reduceEqDiff]))
 | (refine Kont.go ‹Kont _ _ _ _› _ ?_)
 | ((with_reducible apply awO_c); (· rfl); (· rfl); (· exact sv); (· (first | exact c1)); (· rfl); (· rfl); (· rfl); (· decide))
 | ((first | ((with_reducible apply awO_guardN); (· rfl); (· rfl); (· exact sv); (· exact nB)) | ((with_reducible apply aw_condN); (· exact sv))); (· exact pN); (· exact pN); all_goals (intro hg; try (exfalso; omega))))
    refine aw_virt 3 100 1 rfl (by decide) (by simp) ?_
    refine aw_st svs ?_
    refine aw_loopF (fun x : Nat × List (List UInt8) => [(34, ai x.1), (3, .os 100 0 1 x.2.length)]) (fun x => [(100, x.2.map az)]) (fun x => x.1 ≤ Tk.length ∧ x.2 = ((Tk.take x.1).filter kindB).map (·.text)) (fun x => Tk.length - x.1) (0, []) ⟨by simp, rfl⟩ ?_ ?_ ?_
    · exact ⟨rfl, rfl, trivial⟩
    · exact ⟨rfl, trivial⟩
    rintro ⟨k, M⟩ ⟨hk, hM⟩
    simp only at hk hM
    have hMl : M.length ≤ k := by rw [hM, List.length_map]; exact Nat.le_trans (List.length_filter_le _ _) (by rw [List.length_take]; omega)
    (simp only [LP, List.append_assoc, List.nil_append, List.cons_append, List.append_nil, List.contains_cons, List.contains_nil, Nat.reduceBEq, Bool.or_false, Bool.or_true, Bool.true_or, Bool.false_or, ↓reduceIte, Bool.false_eq_true])
    by_cases hkl : k < Tk.length
    · have hst : (Tk.take (k + 1)).filter kindB = (Tk.take k).filter kindB ++ if kindB Tk[k] = true then [Tk[k]] else [] := by
        rw [List.take_succ_eq_append_getElem hkl, List.filter_append, List.filter_cons, List.filter_nil]
      by_cases hkd : kindB Tk[k] = true
      · rw [if_pos hkd] at hst
        simp only [kindB, decide_eq_true_eq] at hkd
        repeat' (first
 | ((with_reducible apply awO_ev); (· rfl); (· exact sv))
 | ((with_reducible apply aw_seq); intro _ _)
 | (with_reducible apply aw_region)
 | (with_reducible apply aw_block)
 | ((with_reducible first | apply awO_nil | apply aw_exit | apply aw_skip | apply aw_ret); (try simp only [CT, ↓reduceIte, Nat.reduceEqDiff]))
 | ((with_reducible apply awO_y); (· rfl); (· rfl); (· decide); (· exact sv); (· exact sv))
 | ((with_reducible apply awO_n); (· rfl); (· rfl); (· decide); (· exact sv); (· rfl); (· rfl); (· decide))
 | ((with_reducible apply aw_cond_true); (· exact sv))
 | (refine Kont.go ‹Kont _ _ _ _› _ ?_)
 | ((first | ((with_reducible apply awO_guardN); (· rfl); (· rfl); (· exact sv); (· exact nB)) | ((with_reducible apply aw_condN); (· exact sv))); (· exact pN); (· exact pN); all_goals (intro hg; try (exfalso; omega))))
        all_goals
          refine LE_mk ((k + 1, M ++ [Tk[k].text])) ?_ ?_ sN sN sN
          · refine ⟨hkl, ?_⟩
            simp only [hst, List.map_append, List.map_cons, List.map_nil, ← hM]
          · simp only; omega
      · rw [if_neg hkd, List.append_nil] at hst
        simp only [kindB, decide_eq_true_eq, not_or] at hkd
        repeat' (first
 | ((with_reducible apply awO_ev); (· rfl); (· exact sv))
 | ((with_reducible apply aw_seq); intro _ _)
 | (with_reducible apply aw_region)
 | (with_reducible apply aw_block)
 | ((with_reducible first | apply awO_nil | apply aw_exit | apply aw_skip | apply aw_ret); (try simp only [CT, ↓reduceIte, Nat.reduceEqDiff]))
 | ((with_reducible apply awO_y); (· rfl); (· rfl); (· decide); (· exact sv); (· exact sv))
 | (refine Kont.go ‹Kont _ _ _ _› _ ?_)
 | ((first | ((with_reducible apply awO_guardN); (· rfl); (· rfl); (· exact sv); (· exact nB)) | ((with_reducible apply aw_condN); (· exact sv))); (· exact pN); (· exact pN); all_goals (intro hg; try (exfalso; omega))))
        all_goals
          refine LE_mk ((k + 1, M)) ?_ ?_ sN sN sN
          · refine ⟨hkl, ?_⟩
            simp only [hst, ← hM]
          · simp only; omega
    · have hMD : M = (Tk.filter kindB).map (·.text) := by rw [hM, List.take_of_length_le (by omega)]
      repeat' (first
 | ((with_reducible apply awO_ev); (· rfl); (· exact sv))
 | ((with_reducible apply aw_seq); intro _ _)
 | (with_reducible apply aw_region)
 | ((with_reducible first | apply awO_nil | apply aw_exit | apply aw_skip | apply aw_ret); (try simp only [CT, ↓reduceIte, Nat.reduceEqDiff]))
 | (refine Kont.go ‹Kont _ _ _ _› _ ?_)
 | ((first | ((with_reducible apply awO_guardN); (· rfl); (· rfl); (· exact sv); (· exact nB)) | ((with_reducible apply aw_condN); (· exact sv))); (· exact pN); (· exact pN); all_goals (intro hg; try (exfalso; omega)))
 | ((with_reducible apply retQ_mk); (· exact rI); (· exact sv); (· exact sv); rotate_left; (· rfl)))
      all_goals (rw [← hMD]; done)
  · rw [if_neg he] at c1
    have c2 := fieldsFunc_ab s (by omega)
    have e : wordsF s = fldB [] s := by unfold wordsF; rw [if_pos he]
    rw [e]
    generalize fldB [] s = D at *
    refine Fn_of_aw (keep := []) Tryz.func7 rfl rfl (by simp [Tryz.ntmps7]) ?_
    simp only [num_cons, num_nil, Tryz.ntmps7, Tryz.results7]
    repeat' (first
 | ((with_reducible apply awO_ev); (· rfl); (· exact sv))
 | ((with_reducible apply aw_seq); intro _ _)
 | (with_reducible apply aw_region)
 | (with_reducible apply aw_block)
 | ((with_reducible first | apply awO_nil | apply aw_exit | apply aw_skip | apply aw_ret); (try simp only [CT, ↓reduceIte, Nat.reduceEqDiff]))
 | (refine Kont.go ‹Kont _ _ _ _› _ ?_)
 | ((with_reducible apply awO_c); (· rfl); (· rfl); (· exact sv); (· (first | exact c1 | exact c2)); (· rfl); (· rfl); (· rfl); (· decide))
 | ((first | ((with_reducible apply awO_guardN); (· rfl); (· rfl); (· exact sv); (· exact nB)) | ((with_reducible apply aw_condN); (· exact sv))); (· exact pN); (· exact pN); all_goals (intro hg; try (exfalso; omega))))
    refine aw_virt 3 100 1 rfl (by decide) (by simp) ?_
    refine aw_st svs ?_
    refine aw_loopF (fun x : Nat × List (List UInt8) => [(22, ai x.1), (3, .os 100 0 1 x.2.length)]) (fun x => [(100, x.2.map az)]) (fun x => x.1 ≤ D.length ∧ x.2 = D.take x.1) (fun x => D.length - x.1) (0, []) ⟨by simp, rfl⟩ ?_ ?_ ?_
    · exact ⟨rfl, rfl, trivial⟩
    · exact ⟨rfl, trivial⟩
    rintro ⟨k, M⟩ ⟨hk, hM⟩
    simp only at hk hM
    have hMl : M.length = k := by rw [hM, List.length_take]; omega
    (simp only [LP, List.append_assoc, List.nil_append, List.cons_append, List.append_nil, List.contains_cons, List.contains_nil, Nat.reduceBEq, Bool.or_false, Bool.or_true, Bool.true_or, Bool.false_or, ↓reduceIte, Bool.false_eq_true])
    by_cases hkl : k < D.length
    · have hst : D.take (k + 1) = D.take k ++ [D[k]] := List.take_succ_eq_append_getElem hkl
      repeat' (first
 | ((with_reducible apply awO_ev); (· rfl); (· exact sv))
 | ((with_reducible apply aw_seq); intro _ _)
 | (with_reducible apply aw_region)
 | (with_reducible apply aw_block)
 | ((with_reducible first | apply awO_nil | apply aw_exit | apply aw_skip | apply aw_ret); (try simp only [CT, ↓reduceIte, Nat.reduceEqDiff]))
 | (refine Kont.go ‹Kont _ _ _ _› _ ?_)
 | ((first | ((with_reducible apply awO_guardN); (· rfl); (· rfl); (· exact sv); (· exact nB)) | ((with_reducible apply aw_condN); (· exact sv))); (· exact pN); (· exact pN); all_goals (intro hg; try (exfalso; omega))))
      refine LE_mk ((k + 1, M ++ [D[k]])) ?_ ?_ sN sN sN
      · refine ⟨hkl, ?_⟩
        simp only [hst, hM]
      · simp only; omega
    · have hMD : M = D := by rw [hM, List.take_of_length_le (by omega)]
      repeat' (first
 | ((with_reducible apply awO_ev); (· rfl); (· exact sv))
 | ((with_reducible apply aw_seq); intro _ _)
 | (with_reducible apply aw_region)
 | ((with_reducible first | apply awO_nil | apply aw_exit | apply aw_skip | apply aw_ret); (try simp only [CT, ↓reduceIte, Nat.reduceEqDiff]))
 | (refine Kont.go ‹Kont _ _ _ _› _ ?_)
 | ((first | ((with_reducible apply awO_guardN); (· rfl); (· rfl); (· exact sv); (· exact nB)) | ((with_reducible apply aw_condN); (· exact sv))); (· exact pN); (· exact pN); all_goals (intro hg; try (exfalso; omega)))
 | ((with_reducible apply retQ_mk); (· exact rI); (· exact sv); (· exact sv); rotate_left; (· rfl)))
      all_goals (rw [hMD]; done)
end Go.Proofs.YtgbhjlkenfmadaaGreatDoor
