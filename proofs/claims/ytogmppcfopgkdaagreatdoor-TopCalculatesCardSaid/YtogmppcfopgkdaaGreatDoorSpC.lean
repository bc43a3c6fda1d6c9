/- split: divide, on the abstract machine. -/
import Derived.Test.YtogmppcfopgkdaaGreatDoorSpA
import Derived.Test.YtogmppcfopgkdaaGreatDoorMgD
import Derived.Test.YtogmppcfopgkdaaGreatDoorMkf
namespace Go.Proofs.YtogmppcfopgkdaaGreatDoor
open Go.RowKit
set_option linter.unusedVariables false
set_option linter.unusedSimpArgs false
set_option maxRecDepth 100000
set_option maxHeartbeats 8000000
/-- Fields as data. -/
abbrev flsC (F : List (List El)) : List AV := F.map elsA
abbrev nilA : AV := .v (.slice none 0 0)
theorem flsC_data (F : List (List El)) : (flsC F).all dataC = true := by
  induction F with
  | nil => rfl
  | cons x r ih => simp only [flsC, List.map_cons, List.all_cons] at ih ⊢; rw [ih]; rfl
theorem roCs_app {hp : Hp} {keep : List Nat} {a b : List AV} (h : a.all dataC = true) : roCs hp keep (a ++ b) = (roCs hp keep b).map (a ++ ·) := by
  induction a with
  | nil => simp
  | cons x r ih =>
    rw [List.all_cons, Bool.and_eq_true] at h
    rw [List.cons_append, roCs_cons, ih h.2]
    have : roC hp keep x = some x := by cases x <;> simp_all [dataC, roC]
    rw [this]
    cases roCs hp keep b <;> rfl
theorem push_ro {hp : Hp} {keep : List Nat} {now : List El} {F : List (List El)} (h : look hp 19 = some (elC now)) (hk : 19 ∉ keep) : roCs hp keep (flsC F ++ [.os 19 0 2 now.length]) = some (flsC (F ++ [now])) := by
  rw [roCs_app (flsC_data F), roCs_cons, roC_os hk h (by rw [elC_len]; omega) (by rw [List.drop_zero, List.take_of_length_le (by rw [elC_len]; omega)]; exact elC_data now), List.drop_zero, List.take_of_length_le (by rw [elC_len]; omega)]
  simp [roCs_nil, flsC]
theorem spEndP (b : Bool) (now : List El) (F : List (List El)) (hb : now ≠ []) (hn : now.length ≤ 1000000) (hF : F.length ≤ 1000000) :
    Fn Tryz.prog 119 [ab b, .pt 6 0, .pt 5 0] [(6, [.os 19 0 2 now.length]), (5, [.os 101 0 1 F.length]), (19, elC now), (101, flsC F)] (.tp []) [(6, [nilA]), (5, [.os 101 0 1 (F.length + 1)]), (101, flsC (F ++ [now]))] [5, 6] := by
  refine Fn_of_aw (keep := [5, 6, 101]) Tryz.func119 rfl rfl (by simp [Tryz.ntmps119]) ?_
  simp only [num_cons, num_nil, Tryz.ntmps119, Tryz.results119]
  have hn0 : 0 < now.length := List.length_pos_iff.2 hb
  cases b with
  | true =>
    repeat' (first
 | ((with_reducible apply awO_ev); (· rfl); (· exact sv))
 | ((with_reducible apply aw_seq); intro _ _)
 | (with_reducible apply aw_region)
 | ((with_reducible first | apply awO_nil | apply aw_exit | apply aw_skip | apply aw_ret); (try simp only [CT, ↓reduceIte, Nat.reduceEqDiff]))
 | ((with_reducible apply awO_n); (· rfl); (· rfl); (· decide); (· exact sv); (· rfl); (· rfl); (· decide))
 | ((with_reducible apply aw_cond_true); (· exact sv))
 | (refine Kont.go ‹Kont _ _ _ _› _ ?_))
    refine retQ_mkL (.inl rfl) rfl rfl rfl ⟨⟨by simp, rfl⟩, ⟨by simp, rfl⟩, ⟨by simp, ?_⟩, trivial⟩ rfl
    exact push_ro rfl (by simp)
  | false =>
    repeat' (first
 | ((with_reducible apply awO_ev); (· rfl); (· exact sv))
 | ((with_reducible apply aw_seq); intro _ _)
 | (with_reducible apply aw_region)
 | ((with_reducible first | apply awO_nil | apply aw_exit | apply aw_skip | apply aw_ret); (try simp only [CT, ↓reduceIte, Nat.reduceEqDiff]))
 | ((with_reducible apply awO_y); (· rfl); (· rfl); (· decide); (· exact sv); (· exact sv))
 | (refine Kont.go ‹Kont _ _ _ _› _ ?_)
 | ((first | ((with_reducible apply awO_guardN); (· rfl); (· rfl); (· exact sv); (· exact nB)) | ((with_reducible apply aw_condN); (· exact sv))); (· exact pN); (· exact pN); all_goals (intro hg; try (exfalso; omega))))
    refine retQ_mkL (.inl rfl) rfl rfl rfl ⟨⟨by simp, rfl⟩, ⟨by simp, rfl⟩, ⟨by simp, ?_⟩, trivial⟩ rfl
    exact push_ro rfl (by simp)
theorem nz_fls (F : List (List El)) : (flsC F ++ [nilA]).map nzC = flsC (F ++ [[]]) := by
  simp only [flsC, List.map_append, List.map_map, List.map_cons, List.map_nil]
  rfl
theorem spEndE (F : List (List El)) (hF : F.length ≤ 1000000) :
    Fn Tryz.prog 119 [ab true, .pt 6 0, .pt 5 0] [(6, [nilA]), (5, [.os 101 0 1 F.length]), (101, flsC F)] (.tp []) [(6, [nilA]), (5, [.os 101 0 1 (F.length + 1)]), (101, flsC (F ++ [[]]))] [5, 6] := by
  refine Fn_of_aw (keep := [5, 6, 101]) Tryz.func119 rfl rfl (by simp [Tryz.ntmps119]) (aw_wk ?_)
  simp only [num_cons, num_nil, Tryz.ntmps119, Tryz.results119]
  repeat' (first
 | ((with_reducible apply awO_ev); (· rfl); (· exact sv))
 | ((with_reducible apply aw_seq); intro _ _)
 | (with_reducible apply aw_region)
 | ((with_reducible first | apply awO_nil | apply aw_exit | apply aw_skip | apply aw_ret); (try simp only [CT, ↓reduceIte, Nat.reduceEqDiff]))
 | ((with_reducible apply awO_n); (· rfl); (· rfl); (· decide); (· exact sv); (· rfl); (· rfl); (· decide))
 | ((with_reducible apply aw_cond_true); (· exact sv))
 | (refine Kont.go ‹Kont _ _ _ _› _ ?_))
  refine wk_to _ (fun E a w hS => S_nzO 101 rfl hS) (wk_id ?_)
  refine retQ_mkL (.inl rfl) rfl rfl rfl ⟨⟨by simp, rfl⟩, ⟨by simp, rfl⟩, ⟨by simp, ?_⟩, trivial⟩ rfl
  show roCs _ _ ((flsC F ++ [nilA]).map nzC) = _
  rw [nz_fls]
  exact roCs_data (flsC_data _)
theorem spEndN : Fn Tryz.prog 119 [ab false, .pt 6 0, .pt 5 0] [(6, [nilA])] (.tp []) [(6, [nilA])] [5, 6] := by
  refine Fn_of_aw (keep := [5, 6]) Tryz.func119 rfl rfl (by simp [Tryz.ntmps119]) ?_
  simp only [num_cons, num_nil, Tryz.ntmps119, Tryz.results119]
  repeat' (first
 | ((with_reducible apply awO_ev); (· rfl); (· exact sv))
 | ((with_reducible apply aw_seq); intro _ _)
 | (with_reducible apply aw_region)
 | ((with_reducible first | apply awO_nil | apply aw_exit | apply aw_skip | apply aw_ret); (try simp only [CT, ↓reduceIte, Nat.reduceEqDiff]))
 | ((with_reducible apply awO_y); (· rfl); (· rfl); (· decide); (· exact sv); (· exact sv))
 | ((with_reducible apply aw_cond_false); (· exact sv))
 | (refine Kont.go ‹Kont _ _ _ _› _ ?_))
  all_goals exact retQ_mkL (.inl rfl) rfl rfl rfl ⟨⟨by simp, rfl⟩, trivial⟩ rfl
theorem skW_le (ifs : List UInt8) (L : List El) : (skW ifs L).length ≤ L.length := by
  have := (List.dropWhile_sublist (whB ifs) (l := L)).length_le
  exact this
theorem skW_lt (ifs : List UInt8) (r : List El) (x : El) : (skW ifs r).length < (x :: r).length := by
  have := skW_le ifs r
  simp only [List.length_cons]; omega
theorem skW_mem {ifs : List UInt8} {L : List El} {x : El} (h : x ∈ skW ifs L) : x ∈ L := (List.dropWhile_sublist (whB ifs) (l := L)).mem h
/-- The field at hand, if there is one. -/
def fld (now : List El) : List (List El) := if now = [] then [] else [now]
/-- The fields of elements, now being the field at hand. -/
def divd (ifs : List UInt8) (L now : List El) : List (List El) :=
  match L with
  | [] => fld now
  | x :: r =>
    if x.k = 3 then fld now ++ divd ifs r []
    else if whB ifs x = true then
      (if delB ifs (skW ifs r) = true then divd ifs (skW ifs r) now else fld now ++ divd ifs (skW ifs r) [])
    else if sepB ifs x = true then now :: divd ifs (skW ifs r) []
    else divd ifs r (now ++ [x])
  termination_by L.length
  decreasing_by all_goals (first | exact skW_lt _ _ _ | simp)
/-- The variable 'now'. -/
def nowH (now : List El) : Hp := if now = [] then [(6, [nilA])] else [(6, [.os 19 0 2 now.length]), (19, elC now)]
theorem nowH_nil : nowH [] = [(6, [nilA])] := rfl
theorem nowH_cons {now : List El} (h : now ≠ []) : nowH now = [(6, [.os 19 0 2 now.length]), (19, elC now)] := by unfold nowH; rw [if_neg h]
theorem elC_cons (x : El) (r : List El) : elC (x :: r) = az x.t :: ai x.k :: elC r := rfl
attribute [go_sem] elC_cons
theorem divide_ab (L : List El) (ifs : List UInt8) (h : ∀ x ∈ L, okE x) (hL : L.length ≤ 100000) : Ab Tryz.prog 74 [elsA L, az ifs] (.rd (divd ifs L []).length (flsC (divd ifs L []))) := by
  refine Fn_of_aw (keep := []) Tryz.func74 rfl rfl (by simp [Tryz.ntmps74]) ?_
  simp only [num_cons, num_nil, Tryz.ntmps74, Tryz.results74]
  repeat' (first
 | ((with_reducible apply awO_ev); (· rfl); (· exact sv))
 | ((with_reducible apply aw_seq); intro _ _)
 | (with_reducible apply aw_region)
 | (with_reducible apply aw_block)
 | ((with_reducible first | apply awO_nil | apply aw_exit | apply aw_skip | apply aw_ret); (try simp only [CT, ↓reduceIte, Nat.reduceEqDiff]))
 | (refine Kont.go ‹Kont _ _ _ _› _ ?_)
 | ((with_reducible apply awO_mkf); (· rfl); (· rfl); (· rfl); (· exact bok); (· exact sv); (· exact nd)))
  refine aw_virtO 5 101 1 rfl (by omega) (by simp) (by decide) ?_
  refine aw_st svs ?_
  refine aw_loopF (fun s : List El × List El × List (List El) => [(0, elsA s.1)]) (fun s => [(5, [.os 101 0 1 s.2.2.length]), (101, flsC s.2.2)] ++ nowH s.2.1) (fun s => (∀ x ∈ s.1, okE x) ∧ s.2.2.length + s.1.length ≤ L.length ∧ s.2.1.length + s.1.length ≤ L.length ∧ divd ifs L [] = s.2.2 ++ divd ifs s.1 s.2.1) (fun s => s.1.length) (L, [], []) ⟨h, by simp, by simp, rfl⟩ ?_ ?_ ?_
  · (simp only [LP, look_cons, look_nil, and_true, true_and, ↓reduceIte, Nat.reduceEqDiff, Option.some.injEq, AV.v.injEq, Value.int.injEq, Int.natCast_add, Int.cast_ofNat_Int])
  · simp only [nowH_nil, List.cons_append, List.nil_append, flsC, List.map_nil, List.length_nil]
    (simp only [LP, look_cons, look_nil, and_true, true_and, ↓reduceIte, Nat.reduceEqDiff, Option.some.injEq, AV.v.injEq, Value.int.injEq, Int.natCast_add, Int.cast_ofNat_Int])
  intro ⟨R, now, F⟩ ⟨hok, h1, h2, hD⟩
  (simp only [LP, List.append_assoc, List.nil_append, List.cons_append, List.append_nil, List.contains_cons, List.contains_nil, Nat.reduceBEq, Bool.or_false, Bool.or_true, Bool.true_or, Bool.false_or, ↓reduceIte, Bool.false_eq_true])
  simp only at hok h1 h2 hD
  cases R with
  | nil =>
    rw [divd] at hD
    by_cases hn : now = []
    · subst hn
      have c1 := spEndN
      simp only [nowH_nil]
      rw [fld, if_pos rfl, List.append_nil] at hD
      repeat' (first
 | ((with_reducible apply awO_ev); (· rfl); (· exact sv))
 | ((with_reducible apply aw_seq); intro _ _)
 | (with_reducible apply aw_region)
 | ((with_reducible first | apply awO_nil | apply aw_exit | apply aw_skip | apply aw_ret); (try simp only [CT, ↓reduceIte, Nat.reduceEqDiff]))
 | ((with_reducible apply aw_cond_false); (· exact sv))
 | (refine Kont.go ‹Kont _ _ _ _› _ ?_)
 | ((with_reducible apply awO_k); (· rfl); (· rfl); (· exact sv); (· first | exact bok | exact bok (by assumption)); (· exact sv); (· (first | exact c1)); (· exact svq); (· exact svq); (· exact svq); (· exact svq); (· rfl); (· exact nd); (with_reducible apply awO_st); (· exact svs))
 | ((with_reducible apply retQ_mk); (· exact rI); (· exact sv); (· exact sv); rotate_left; (· rfl)))
      all_goals rw [hD]
    · have c1 := spEndP false now F hn (by simp at h2; omega) (by simp at h1; omega)
      simp only [nowH_cons hn]
      rw [fld, if_neg hn] at hD
      repeat' (first
 | ((with_reducible apply awO_ev); (· rfl); (· exact sv))
 | ((with_reducible apply aw_seq); intro _ _)
 | (with_reducible apply aw_region)
 | ((with_reducible first | apply awO_nil | apply aw_exit | apply aw_skip | apply aw_ret); (try simp only [CT, ↓reduceIte, Nat.reduceEqDiff]))
 | ((with_reducible apply aw_cond_false); (· exact sv))
 | (refine Kont.go ‹Kont _ _ _ _› _ ?_)
 | ((with_reducible apply awO_k); (· rfl); (· rfl); (· exact sv); (· first | exact bok | exact bok (by assumption)); (· exact sv); (· (first | exact c1)); (· exact svq); (· exact svq); (· exact svq); (· exact svq); (· rfl); (· exact nd); (with_reducible apply awO_st); (· exact svs))
 | ((with_reducible apply retQ_mk); (· exact rI); (· exact sv); (· exact sv); rotate_left; (· rfl)))
      all_goals (rw [hD]; simp)
  | cons x r =>
    have hx := hok x (List.mem_cons_self ..)
    have hr : ∀ y ∈ r, okE y := fun y hy => hok y (List.mem_cons_of_mem _ hy)
    have hsk : ∀ y ∈ skW ifs r, okE y := fun y hy => hr y (skW_mem hy)
    have hle := skW_le ifs r
    simp only [List.length_cons] at h1 h2
    rw [divd] at hD
    have cw := white_ab x ifs hx
    have cs := separates_ab x ifs hx
    by_cases hk : x.k = 3
    · rw [if_pos hk] at hD
      by_cases hn : now = []
      · subst hn
        have c1 := spEndN
        rw [fld, if_pos rfl, List.nil_append] at hD
        simp only [nowH_nil, List.cons_append, List.nil_append]
        repeat' (first
 | ((with_reducible apply awO_ev); (· rfl); (· exact sv))
 | ((with_reducible apply aw_seq); intro _ _)
 | (with_reducible apply aw_region)
 | (with_reducible apply aw_block)
 | ((with_reducible first | apply awO_nil | apply aw_exit | apply aw_skip | apply aw_ret); (try simp only [CT, ↓reduceIte, Nat.reduceEqDiff]))
 | (refine Kont.go ‹Kont _ _ _ _› _ ?_)
 | ((with_reducible apply awO_k); (· rfl); (· rfl); (· exact sv); (· first | exact bok | exact bok (by assumption)); (· exact sv); (· (first | exact c1)); (· exact svq); (· exact svq); (· exact svq); (· exact svq); (· rfl); (· exact nd); (with_reducible apply awO_st); (· exact svs))
 | ((first | ((with_reducible apply awO_guardN); (· rfl); (· rfl); (· exact sv); (· exact nB)) | ((with_reducible apply aw_condN); (· exact sv))); (· exact pN); (· exact pN); all_goals (intro hg; try (exfalso; omega))))
        refine LE_mk (r, [], F) ?_ ?_ sN sN ?_
        · exact ⟨hr, by simp only; omega, by simp; omega, hD⟩
        · simp
        simp only [nowH_nil, List.cons_append, List.nil_append]
        exact sN
      · have c1 := spEndP false now F hn (by omega) (by omega)
        rw [fld, if_neg hn] at hD
        simp only [nowH_cons hn, List.cons_append, List.nil_append]
        repeat' (first
 | ((with_reducible apply awO_ev); (· rfl); (· exact sv))
 | ((with_reducible apply aw_seq); intro _ _)
 | (with_reducible apply aw_region)
 | (with_reducible apply aw_block)
 | ((with_reducible first | apply awO_nil | apply aw_exit | apply aw_skip | apply aw_ret); (try simp only [CT, ↓reduceIte, Nat.reduceEqDiff]))
 | (refine Kont.go ‹Kont _ _ _ _› _ ?_)
 | ((with_reducible apply awO_k); (· rfl); (· rfl); (· exact sv); (· first | exact bok | exact bok (by assumption)); (· exact sv); (· (first | exact c1)); (· exact svq); (· exact svq); (· exact svq); (· exact svq); (· rfl); (· exact nd); (with_reducible apply awO_st); (· exact svs))
 | ((first | ((with_reducible apply awO_guardN); (· rfl); (· rfl); (· exact sv); (· exact nB)) | ((with_reducible apply aw_condN); (· exact sv))); (· exact pN); (· exact pN); all_goals (intro hg; try (exfalso; omega))))
        refine LE_mk (r, [], F ++ [now]) ?_ ?_ sN sN ?_
        · exact ⟨hr, by simp; omega, by simp; omega, by rw [hD]; simp⟩
        · simp
        simp only [nowH_nil, List.cons_append, List.nil_append, List.length_append, List.length_cons, List.length_nil]
        exact sN
    rw [if_neg hk] at hD
    cases hw : whB ifs x with
    | true =>
      rw [hw] at cw
      rw [if_pos hw] at hD
      have ck := skip_ab (x :: r) ifs hok (by simp; omega)
      rw [show skW ifs (x :: r) = skW ifs r from by rw [skW, List.dropWhile_cons, if_pos hw]; rfl] at ck
      have cd := delimits_ab (skW ifs r) ifs hsk (by omega)
      cases hd : delB ifs (skW ifs r) with
      | true =>
        rw [hd] at cd
        rw [if_pos hd] at hD
        by_cases hn : now = []
        · subst hn
          simp only [nowH_nil, List.cons_append, List.nil_append]
          repeat' (first
 | ((with_reducible apply awO_ev); (· rfl); (· exact sv))
 | ((with_reducible apply aw_seq); intro _ _)
 | (with_reducible apply aw_region)
 | (with_reducible apply aw_block)
 | ((with_reducible first | apply awO_nil | apply aw_exit | apply aw_skip | apply aw_ret); (try simp only [CT, ↓reduceIte, Nat.reduceEqDiff]))
 | ((with_reducible apply aw_cond_true); (· exact sv))
 | ((with_reducible apply aw_cond_false); (· exact sv))
 | (refine Kont.go ‹Kont _ _ _ _› _ ?_)
 | ((with_reducible apply awO_c); (· rfl); (· rfl); (· exact sv); (· (first | exact cw | exact ck | exact cd)); (· rfl); (· rfl); (· rfl); (· decide))
 | ((first | ((with_reducible apply awO_guardN); (· rfl); (· rfl); (· exact sv); (· exact nB)) | ((with_reducible apply aw_condN); (· exact sv))); (· exact pN); (· exact pN); all_goals (intro hg; try (exfalso; omega))))
          refine LE_mk (skW ifs r, [], F) ?_ ?_ sN sN ?_
          · exact ⟨hsk, by simp only; omega, by simp; omega, hD⟩
          · simp only [List.length_cons]; omega
          simp only [nowH_nil, List.cons_append, List.nil_append]
          exact sN
        · simp only [nowH_cons hn, List.cons_append, List.nil_append]
          repeat' (first
 | ((with_reducible apply awO_ev); (· rfl); (· exact sv))
 | ((with_reducible apply aw_seq); intro _ _)
 | (with_reducible apply aw_region)
 | (with_reducible apply aw_block)
 | ((with_reducible first | apply awO_nil | apply aw_exit | apply aw_skip | apply aw_ret); (try simp only [CT, ↓reduceIte, Nat.reduceEqDiff]))
 | ((with_reducible apply aw_cond_true); (· exact sv))
 | ((with_reducible apply aw_cond_false); (· exact sv))
 | (refine Kont.go ‹Kont _ _ _ _› _ ?_)
 | ((with_reducible apply awO_c); (· rfl); (· rfl); (· exact sv); (· (first | exact cw | exact ck | exact cd)); (· rfl); (· rfl); (· rfl); (· decide))
 | ((first | ((with_reducible apply awO_guardN); (· rfl); (· rfl); (· exact sv); (· exact nB)) | ((with_reducible apply aw_condN); (· exact sv))); (· exact pN); (· exact pN); all_goals (intro hg; try (exfalso; omega))))
          refine LE_mk (skW ifs r, now, F) ?_ ?_ sN sN ?_
          · exact ⟨hsk, by simp only; omega, by simp only; omega, hD⟩
          · simp only [List.length_cons]; omega
          simp only [nowH_cons hn, List.cons_append, List.nil_append]
          exact sN
      | false =>
        rw [hd] at cd
        rw [if_neg (by simp [hd])] at hD
        by_cases hn : now = []
        · subst hn
          have c1 := spEndN
          rw [fld, if_pos rfl, List.nil_append] at hD
          simp only [nowH_nil, List.cons_append, List.nil_append]
          repeat' (first
 | ((with_reducible apply awO_ev); (· rfl); (· exact sv))
 | ((with_reducible apply aw_seq); intro _ _)
 | (with_reducible apply aw_region)
 | (with_reducible apply aw_block)
 | ((with_reducible first | apply awO_nil | apply aw_exit | apply aw_skip | apply aw_ret); (try simp only [CT, ↓reduceIte, Nat.reduceEqDiff]))
 | ((with_reducible apply aw_cond_true); (· exact sv))
 | (refine Kont.go ‹Kont _ _ _ _› _ ?_)
 | ((with_reducible apply awO_c); (· rfl); (· rfl); (· exact sv); (· (first | exact cw | exact ck | exact cd | exact c1)); (· rfl); (· rfl); (· rfl); (· decide))
 | ((with_reducible apply awO_k); (· rfl); (· rfl); (· exact sv); (· first | exact bok | exact bok (by assumption)); (· exact sv); (· (first | exact cw | exact ck | exact cd | exact c1)); (· exact svq); (· exact svq); (· exact svq); (· exact svq); (· rfl); (· exact nd); (with_reducible apply awO_st); (· exact svs))
 | ((first | ((with_reducible apply awO_guardN); (· rfl); (· rfl); (· exact sv); (· exact nB)) | ((with_reducible apply aw_condN); (· exact sv))); (· exact pN); (· exact pN); all_goals (intro hg; try (exfalso; omega))))
          refine LE_mk (skW ifs r, [], F) ?_ ?_ sN sN ?_
          · exact ⟨hsk, by simp only; omega, by simp; omega, hD⟩
          · simp only [List.length_cons]; omega
          simp only [nowH_nil, List.cons_append, List.nil_append]
          exact sN
        · have c1 := spEndP false now F hn (by omega) (by omega)
          rw [fld, if_neg hn] at hD
          simp only [nowH_cons hn, List.cons_append, List.nil_append]
          repeat' (first
 | ((with_reducible apply awO_ev); (· rfl); (· exact sv))
 | ((with_reducible apply aw_seq); intro _ _)
 | (with_reducible apply aw_region)
 | (with_reducible apply aw_block)
 | ((with_reducible first | apply awO_nil | apply aw_exit | apply aw_skip | apply aw_ret); (try simp only [CT, ↓reduceIte, Nat.reduceEqDiff]))
 | ((with_reducible apply aw_cond_true); (· exact sv))
 | (refine Kont.go ‹Kont _ _ _ _› _ ?_)
 | ((with_reducible apply awO_c); (· rfl); (· rfl); (· exact sv); (· (first | exact cw | exact ck | exact cd | exact c1)); (· rfl); (· rfl); (· rfl); (· decide))
 | ((with_reducible apply awO_k); (· rfl); (· rfl); (· exact sv); (· first | exact bok | exact bok (by assumption)); (· exact sv); (· (first | exact cw | exact ck | exact cd | exact c1)); (· exact svq); (· exact svq); (· exact svq); (· exact svq); (· rfl); (· exact nd); (with_reducible apply awO_st); (· exact svs))
 | ((first | ((with_reducible apply awO_guardN); (· rfl); (· rfl); (· exact sv); (· exact nB)) | ((with_reducible apply aw_condN); (· exact sv))); (· exact pN); (· exact pN); all_goals (intro hg; try (exfalso; omega))))
          refine LE_mk (skW ifs r, [], F ++ [now]) ?_ ?_ sN sN ?_
          · exact ⟨hsk, by simp; omega, by simp; omega, by rw [hD]; simp⟩
          · simp only [List.length_cons]; omega
          simp only [nowH_nil, List.cons_append, List.nil_append, List.length_append, List.length_cons, List.length_nil]
          exact sN
    | false =>
      rw [hw] at cw
      rw [if_neg (by simp [hw])] at hD
      cases hs : sepB ifs x with
      | true =>
        rw [hs] at cs
        rw [if_pos hs] at hD
        have ck := skip_ab r ifs hr (by omega)
        by_cases hn : now = []
        · subst hn
          have c1 := spEndE F (by omega)
          simp only [nowH_nil, List.cons_append, List.nil_append]
          repeat' (first
 | ((with_reducible apply awO_ev); (· rfl); (· exact sv))
 | ((with_reducible apply aw_seq); intro _ _)
 | (with_reducible apply aw_region)
 | (with_reducible apply aw_block)
 | ((with_reducible first | apply awO_nil | apply aw_exit | apply aw_skip | apply aw_ret); (try simp only [CT, ↓reduceIte, Nat.reduceEqDiff]))
 | ((with_reducible apply aw_cond_true); (· exact sv))
 | ((with_reducible apply aw_cond_false); (· exact sv))
 | (refine Kont.go ‹Kont _ _ _ _› _ ?_)
 | ((with_reducible apply awO_c); (· rfl); (· rfl); (· exact sv); (· (first | exact cw | exact cs | exact ck | exact c1)); (· rfl); (· rfl); (· rfl); (· decide))
 | ((with_reducible apply awO_k); (· rfl); (· rfl); (· exact sv); (· first | exact bok | exact bok (by assumption)); (· exact sv); (· (first | exact cw | exact cs | exact ck | exact c1)); (· exact svq); (· exact svq); (· exact svq); (· exact svq); (· rfl); (· exact nd); (with_reducible apply awO_st); (· exact svs))
 | ((first | ((with_reducible apply awO_guardN); (· rfl); (· rfl); (· exact sv); (· exact nB)) | ((with_reducible apply aw_condN); (· exact sv))); (· exact pN); (· exact pN); all_goals (intro hg; try (exfalso; omega))))
          refine LE_mk (skW ifs r, [], F ++ [[]]) ?_ ?_ sN sN ?_
          · exact ⟨hsk, by simp; omega, by simp; omega, by rw [hD]; simp⟩
          · simp only [List.length_cons]; omega
          simp only [nowH_nil, List.cons_append, List.nil_append, List.length_append, List.length_cons, List.length_nil]
          exact sN
        · have c1 := spEndP true now F hn (by omega) (by omega)
          simp only [nowH_cons hn, List.cons_append, List.nil_append]
          repeat' (first
 | ((with_reducible apply awO_ev); (· rfl); (· exact sv))
 | ((with_reducible apply aw_seq); intro _ _)
 | (with_reducible apply aw_region)
 | (with_reducible apply aw_block)
 | ((with_reducible first | apply awO_nil | apply aw_exit | apply aw_skip | apply aw_ret); (try simp only [CT, ↓reduceIte, Nat.reduceEqDiff]))
 | ((with_reducible apply aw_cond_true); (· exact sv))
 | ((with_reducible apply aw_cond_false); (· exact sv))
 | (refine Kont.go ‹Kont _ _ _ _› _ ?_)
 | ((with_reducible apply awO_c); (· rfl); (· rfl); (· exact sv); (· (first | exact cw | exact cs | exact ck | exact c1)); (· rfl); (· rfl); (· rfl); (· decide))
 | ((with_reducible apply awO_k); (· rfl); (· rfl); (· exact sv); (· first | exact bok | exact bok (by assumption)); (· exact sv); (· (first | exact cw | exact cs | exact ck | exact c1)); (· exact svq); (· exact svq); (· exact svq); (· exact svq); (· rfl); (· exact nd); (with_reducible apply awO_st); (· exact svs))
 | ((first | ((with_reducible apply awO_guardN); (· rfl); (· rfl); (· exact sv); (· exact nB)) | ((with_reducible apply aw_condN); (· exact sv))); (· exact pN); (· exact pN); all_goals (intro hg; try (exfalso; omega))))
          refine LE_mk (skW ifs r, [], F ++ [now]) ?_ ?_ sN sN ?_
          · exact ⟨hsk, by simp; omega, by simp; omega, by rw [hD]; simp⟩
          · simp only [List.length_cons]; omega
          simp only [nowH_nil, List.cons_append, List.nil_append, List.length_append, List.length_cons, List.length_nil]
          exact sN
      | false =>
        rw [hs] at cs
        rw [if_neg (by simp [hs])] at hD
        have e1 : nowH (now ++ [x]) = [(6, [.os 19 0 2 (now.length + 1)]), (19, elC now ++ [az x.t, ai x.k])] := by
          rw [nowH_cons (by simp)]; simp [elC]
        by_cases hn : now = []
        · subst hn
          simp only [nowH_nil, List.cons_append, List.nil_append]
          repeat' (first
 | ((with_reducible apply awO_ev); (· rfl); (· exact sv))
 | ((with_reducible apply aw_seq); intro _ _)
 | (with_reducible apply aw_region)
 | (with_reducible apply aw_block)
 | ((with_reducible first | apply awO_nil | apply aw_exit | apply aw_skip | apply aw_ret); (try simp only [CT, ↓reduceIte, Nat.reduceEqDiff]))
 | ((with_reducible apply aw_cond_false); (· exact sv))
 | (refine Kont.go ‹Kont _ _ _ _› _ ?_)
 | ((with_reducible apply awO_c); (· rfl); (· rfl); (· exact sv); (· (first | exact cw | exact cs)); (· rfl); (· rfl); (· rfl); (· decide))
 | ((first | ((with_reducible apply awO_guardN); (· rfl); (· rfl); (· exact sv); (· exact nB)) | ((with_reducible apply aw_condN); (· exact sv))); (· exact pN); (· exact pN); all_goals (intro hg; try (exfalso; omega))))
          refine LE_mk (r, [] ++ [x], F) ?_ ?_ sN sN ?_
          · exact ⟨hr, by simp only; omega, by simp; omega, hD⟩
          · simp
          simp only [e1]
          exact ⟨rfl, rfl, rfl, rfl, trivial⟩
        · simp only [nowH_cons hn, List.cons_append, List.nil_append]
          repeat' (first
 | ((with_reducible apply awO_ev); (· rfl); (· exact sv))
 | ((with_reducible apply aw_seq); intro _ _)
 | (with_reducible apply aw_region)
 | (with_reducible apply aw_block)
 | ((with_reducible first | apply awO_nil | apply aw_exit | apply aw_skip | apply aw_ret); (try simp only [CT, ↓reduceIte, Nat.reduceEqDiff]))
 | ((with_reducible apply aw_cond_false); (· exact sv))
 | (refine Kont.go ‹Kont _ _ _ _› _ ?_)
 | ((with_reducible apply awO_c); (· rfl); (· rfl); (· exact sv); (· (first | exact cw | exact cs)); (· rfl); (· rfl); (· rfl); (· decide))
 | ((first | ((with_reducible apply awO_guardN); (· rfl); (· rfl); (· exact sv); (· exact nB)) | ((with_reducible apply aw_condN); (· exact sv))); (· exact pN); (· exact pN); all_goals (intro hg; try (exfalso; omega))))
          refine LE_mk (r, now ++ [x], F) ?_ ?_ sN sN ?_
          · exact ⟨hr, by simp only; omega, by simp; omega, hD⟩
          · simp
          simp only [e1]
          exact ⟨rfl, rfl, rfl, rfl, trivial⟩
end Go.Proofs.YtogmppcfopgkdaaGreatDoor
/- split: elements, runs and Fields, on the abstract machine. -/
namespace Go.Proofs.YtogmppcfopgkdaaGreatDoor
open Go.RowKit
set_option linter.unusedVariables false
set_option linter.unusedSimpArgs false
set_option maxRecDepth 100000
set_option maxHeartbeats 8000000
/-- The elements of a run. -/
def elemsOf (x : El) : List El :=
  if x.k = 3 then [⟨[], 3⟩] else if x.k = 0 ∨ x.k = 1 ∨ x.k = 2 then (if x.t = [] ∧ x.k = 1 then [⟨[], 1⟩] else x.t.map fun c => ⟨[c], x.k⟩) else []
def elems (L : List El) : List El := L.flatMap elemsOf
theorem elemsOf_len (x : El) : (elemsOf x).length ≤ 1 + x.t.length := by
  unfold elemsOf
  (repeat' split) <;> simp
theorem elems_len (L : List El) : (elems L).length ≤ L.length + (cat L).length := by
  induction L with
  | nil => simp [elems]
  | cons x r ih =>
    have := elemsOf_len x
    simp only [elems, List.flatMap_cons, List.length_append, List.length_cons, cat] at ih ⊢
    omega
theorem elems_append (a b : List El) : elems (a ++ b) = elems a ++ elems b := by simp [elems]
theorem elems_take_succ {L : List El} {i : Nat} (h : i < L.length) : elems (L.take (i + 1)) = elems (L.take i) ++ elemsOf L[i] := by
  rw [List.take_succ_eq_append_getElem h, elems_append]
  simp [elems]
theorem elemsOf_ok (x : El) : ∀ y ∈ elemsOf x, okE y := by
  intro y hy
  unfold elemsOf at hy
  split at hy
  · simp at hy; subst hy; intro h; simp at h
  · split at hy
    · split at hy
      · simp at hy; subst hy; intro h; simp at h
      · simp at hy; obtain ⟨c, _, rfl⟩ := hy; exact fun _ => ⟨c, rfl⟩
    · cases hy
theorem elems_ok (L : List El) : ∀ y ∈ elems L, okE y := by
  intro y hy
  simp only [elems, List.mem_flatMap] at hy
  obtain ⟨x, _, hy⟩ := hy
  exact elemsOf_ok x y hy
theorem byt_take_succ {l : List UInt8} {i : Nat} (h : i < l.length) (k : Int) : (l.take (i + 1)).map (fun c => El.mk [c] k) = (l.take i).map (fun c => El.mk [c] k) ++ [⟨[l[i]], k⟩] := by
  rw [List.take_succ_eq_append_getElem h, List.map_append]; rfl
theorem elements_ab (L : List El) (hL : L.length ≤ 10000) (hc : (cat L).length ≤ 10000) : Ab Tryz.prog 75 [elsA L] (elsA (elems L)) := by
  refine Fn_of_aw (keep := []) Tryz.func75 rfl rfl (by simp [Tryz.ntmps75]) ?_
  simp only [num_cons, num_nil, Tryz.ntmps75, Tryz.results75]
  repeat' (first
 | ((with_reducible apply awO_ev); (· rfl); (· exact sv))
 | ((with_reducible apply aw_seq); intro _ _)
 | (with_reducible apply aw_region)
 | (with_reducible apply aw_block)
 | ((with_reducible first | apply awO_nil | apply aw_exit | apply aw_skip | apply aw_ret); (try simp only [CT, ↓reduceIte, Nat.reduceEqDiff]))
 | (refine Kont.go ‹Kont _ _ _ _› _ ?_))
  refine aw_virt 3 100 2 rfl (by omega) (by simp) ?_
  refine aw_st svs ?_
  refine aw_loopF (fun i : Nat => [(9, ai i), (3, .os 100 0 2 (elems (L.take i)).length)]) (fun i => [(100, elC (elems (L.take i)))]) (fun i => i ≤ L.length) (fun i => L.length - i) 0 (by omega) ?_ ?_ ?_
  · (simp only [LP, look_cons, look_nil, and_true, true_and, ↓reduceIte, Nat.reduceEqDiff, Option.some.injEq, AV.v.injEq, Value.int.injEq, Int.natCast_add, Int.cast_ofNat_Int])
    rfl
  · (simp only [LP, look_cons, look_nil, and_true, true_and, ↓reduceIte, Nat.reduceEqDiff, Option.some.injEq, AV.v.injEq, Value.int.injEq, Int.natCast_add, Int.cast_ofNat_Int])
    rfl
  intro i hi
  (simp only [LP, List.append_assoc, List.nil_append, List.cons_append, List.append_nil, List.contains_cons, List.contains_nil, Nat.reduceBEq, Bool.or_false, Bool.or_true, Bool.true_or, Bool.false_or, ↓reduceIte, Bool.false_eq_true])
  have hle : (elems (L.take i)).length ≤ 20000 := by
    have := elems_len (L.take i)
    have := cat_take_len L i
    rw [List.length_take] at *
    omega
  by_cases hil : i < L.length
  · have e1 := elems_take_succ hil
    have hcl := cat_get_len hil
    by_cases h3 : L[i].k = 3
    · have e2 : elemsOf L[i] = [⟨[], 3⟩] := by rw [elemsOf, if_pos h3]
      rw [e2] at e1
      repeat' (first
 | ((with_reducible apply awO_ev); (· rfl); (· exact sv))
 | ((with_reducible apply aw_seq); intro _ _)
 | (with_reducible apply aw_region)
 | (with_reducible apply aw_block)
 | ((with_reducible first | apply awO_nil | apply aw_exit | apply aw_skip | apply aw_ret); (try simp only [CT, ↓reduceIte, Nat.reduceEqDiff]))
 | (refine Kont.go ‹Kont _ _ _ _› _ ?_)
 | ((first | ((with_reducible apply awO_guardN); (· rfl); (· rfl); (· exact sv); (· exact nB)) | ((with_reducible apply aw_condN); (· exact sv))); (· exact pN); (· exact pN); all_goals (intro hg; try (exfalso; omega))))
      refine LE_mk (i + 1) ?_ ?_ ?_ sN ?_
      · omega
      · omega
      · refine ⟨rfl, ?_, trivial⟩
        show some _ = some _
        rw [e1, List.length_append]; rfl
      · refine ⟨?_, trivial⟩
        show some _ = some _
        rw [e1, elC_append]; rfl
    by_cases h0 : L[i].k = 0 ∨ L[i].k = 1 ∨ L[i].k = 2
    · by_cases hq : L[i].t = [] ∧ L[i].k = 1
      · have e2 : elemsOf L[i] = [⟨[], 1⟩] := by rw [elemsOf, if_neg h3, if_pos h0, if_pos hq]
        rw [e2] at e1
        have hq0 : L[i].t.length = 0 := by rw [hq.1]; rfl
        have hq2 := hq.2
        repeat' (first
 | ((with_reducible apply awO_ev); (· rfl); (· exact sv))
 | ((with_reducible apply aw_seq); intro _ _)
 | (with_reducible apply aw_region)
 | (with_reducible apply aw_block)
 | ((with_reducible first | apply awO_nil | apply aw_exit | apply aw_skip | apply aw_ret); (try simp only [CT, ↓reduceIte, Nat.reduceEqDiff]))
 | ((with_reducible apply awO_y); (· rfl); (· rfl); (· decide); (· exact sv); (· exact sv))
 | (refine Kont.go ‹Kont _ _ _ _› _ ?_)
 | ((first | ((with_reducible apply awO_guardN); (· rfl); (· rfl); (· exact sv); (· exact nB)) | ((with_reducible apply aw_condN); (· exact sv))); (· exact pN); (· exact pN); all_goals (intro hg; try (exfalso; omega))))
        refine aw_loopF (fun j : Nat => [(40, ai j), (3, .os 100 0 2 ((elems (L.take i)).length + 1))]) (fun j => [(100, elC (elems (L.take i) ++ [⟨[], 1⟩])), (5, [az L[i].t, ai L[i].k])]) (fun j => j = 0) (fun j => 0) 0 rfl ?_ ?_ ?_
        · exact ⟨rfl, rfl, trivial⟩
        · refine ⟨?_, rfl, trivial⟩
          show some _ = some _
          rw [elC_append]; rfl
        intro j hj
        subst hj
        (simp only [LP, List.append_assoc, List.nil_append, List.cons_append, List.append_nil, List.contains_cons, List.contains_nil, Nat.reduceBEq, Bool.or_false, Bool.or_true, Bool.true_or, Bool.false_or, ↓reduceIte, Bool.false_eq_true])
        repeat' (first
 | ((with_reducible apply awO_ev); (· rfl); (· exact sv))
 | ((with_reducible apply aw_seq); intro _ _)
 | (with_reducible apply aw_region)
 | ((with_reducible first | apply awO_nil | apply aw_exit | apply aw_skip | apply aw_ret); (try simp only [CT, ↓reduceIte, Nat.reduceEqDiff]))
 | (refine Kont.go ‹Kont _ _ _ _› _ ?_)
 | ((first | ((with_reducible apply awO_guardN); (· rfl); (· rfl); (· exact sv); (· exact nB)) | ((with_reducible apply aw_condN); (· exact sv))); (· exact pN); (· exact pN); all_goals (intro hg; try (exfalso; omega))))
        refine LE_mk (i + 1) ?_ ?_ ?_ sN ?_
        · omega
        · omega
        · refine ⟨rfl, ?_, trivial⟩
          show some _ = some _
          rw [e1, List.length_append]; rfl
        · refine ⟨?_, trivial⟩
          show some _ = some _
          rw [e1]
      · have e2 : elemsOf L[i] = L[i].t.map fun c => ⟨[c], L[i].k⟩ := by rw [elemsOf, if_neg h3, if_pos h0, if_neg hq]
        rw [e2] at e1
        have hq' : ¬ (L[i].t.length = 0 ∧ L[i].k = 1) := fun h => hq ⟨List.eq_nil_of_length_eq_zero h.1, h.2⟩
        clear hq
        rcases h0 with h0 | h0 | h0
        · by_cases hz : L[i].t.length = 0
          · skip
            exact wq18
          · skip
            exact wq19
        · by_cases hz : L[i].t.length = 0
          · exact absurd ⟨hz, h0⟩ hq'
          · skip
            exact wq19
        · by_cases hz : L[i].t.length = 0
          · skip
            exact wq18
          · skip
            exact wq19
    · have e2 : elemsOf L[i] = [] := by rw [elemsOf, if_neg h3, if_neg h0]
      rw [e2, List.append_nil] at e1
      exact wq20
  · have e1 : L.take i = L := List.take_of_length_le (by omega)
    rw [e1]
    exact wkA
end Go.Proofs.YtogmppcfopgkdaaGreatDoor
