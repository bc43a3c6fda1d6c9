/- files.Clean at "/", on the abstract machine. -/
import Derived.Test.YtogmppcfopgkdaaGreatDoorTsB
import Derived.Test.YtogmppcfopgkdaaGreatDoorBldN
import Derived.Test.YtogmppcfopgkdaaGreatDoorSpA
import Derived.Test.YtogmppcfopgkdaaGreatDoorMkf
namespace Go.Proofs.YtogmppcfopgkdaaGreatDoor
open Go.RowKit Go.Sort Go.Shelf
set_option linter.unusedVariables false
set_option linter.unusedSimpArgs false
set_option maxRecDepth 100000
set_option maxHeartbeats 8000000
theorem split_slash : Ab Tryz.prog 127 [az [47], az [47]] (.rd 2 [az [], az []]) := by
  refine ⟨by kernel_rfl, fun w bad ρ vs hb hn hr hrep => ?_⟩
  obtain ⟨hbad, hG, hgb⟩ := hb
  obtain ⟨m, hv⟩ := glob_len hG
  have e : vs = #[.string (str [47]), .string (str [47])] := argsE (xs := [.string (str [47]), .string (str [47])]) hrep
  subst e
  refine (shf_strings_Split (str [47]) (str [47]) m w (by decide) hv (by decide)).mono fun e w' ⟨he, hw⟩ => ?_
  have h1 : Lib.countB (str [47]) (str [47]) = 1 := by decide +kernel
  have h2 : Lib.splitB (str [47]) 0 1 (str [47]) = [str [], str []] := by decide +kernel
  rw [h1] at he hw
  rw [h2] at hw
  refine ⟨_, ρ, he, .im ?_, HR.nil, by rw [hw]; exact (Keeps.refl _ _).alloc _, fun b ⟨k, cs, hk, _⟩ => by simp [look] at hk, fun k hk => by cases hk⟩
  refine .rd (fun _ => .string (str [])) (Nat.le_refl _) (by omega) (fun h => by omega) (fun _ => ⟨w.heap.size, 0, rfl, ?_, ?_, fun j hj => ?_⟩) (fun j a hj => ?_)
  · intro h
    have := hbad _ ((avd_nil _ _ _).1 h)
    omega
  · rw [hw, World.size_alloc]; omega
  · rw [hw, Nat.zero_add]
    rw [World.cell?_alloc_new]
    match j, hj with
    | 0, _ => rfl
    | 1, _ => rfl
  · match j, hj with
    | 0, hj => simp only [List.getElem?_cons_zero, Option.some.injEq] at hj; subst hj; exact .v _
    | 1, hj => simp only [List.getElem?_cons_succ, List.getElem?_cons_zero, Option.some.injEq] at hj; subst hj; exact .v _
    | j + 2, hj => simp at hj
theorem join_nil (sep : List UInt8) : Ab Tryz.prog 83 [.v (.slice none 0 0), az sep] (az []) := by
  refine Ab_belowV (xs := [.slice none 0 0, .string (str sep)]) (x := .string (str [])) (by kernel_rfl) fun w hG => ?_
  exact (Any.strings_Join_none shl156 bld_Extra_156 none 0 (str sep) w).mono fun e w' ⟨he, hw⟩ => ⟨by rw [he]; rfl, hw ▸ Below.refl _ _⟩
theorem isPath_ab : Ab Tryz.prog 126 [az [47]] (ab true) := by
  refine Fn_of_aw (keep := []) Tryz.func126 rfl rfl (by simp [Tryz.ntmps126]) ?_
  simp only [num_cons, num_nil, Tryz.ntmps126, Tryz.results126]
  exact wq25
theorem k47 (h : 0 < ([47] : List UInt8).length) : ((([47] : List UInt8)[0]'h).toNat : Int) = 47 := rfl
attribute [local go_sem] k47
theorem clean_ab : Ab Tryz.prog 79 [az [47], az [47]] (.tp [az [47], ai 0]) := by
  have c1 := isPath_ab
  have c2 := split_slash
  have c3 := join_nil [47]
  refine Fn_of_aw (keep := []) Tryz.func79 rfl rfl (by simp [Tryz.ntmps79]) ?_
  simp only [num_cons, num_nil, Tryz.ntmps79, Tryz.results79]
  repeat' (first
 | ((with_reducible apply awO_ev); (· rfl); (· exact sv))
 | ((with_reducible apply aw_seq); intro _ _)
 | (with_reducible apply aw_region)
 | (with_reducible apply aw_block)
 | ((with_reducible first | apply awO_nil | apply aw_exit | apply aw_skip | apply aw_ret); (try simp only [CT, ↓reduceIte, Nat.reduceEqDiff]))
 | ((with_reducible apply awO_n); (· rfl); (· rfl); (· decide); (· exact sv); (· rfl); (· rfl); (· decide))
 | ((with_reducible apply aw_cond_false); (· exact sv))
 | (refine Kont.go ‹Kont _ _ _ _› _ ?_)
 | ((with_reducible apply awO_c); (· rfl); (· rfl); (· exact sv); (· (first | exact c1 | exact c2)); (· rfl); (· rfl); (· rfl); (· decide)))
  all_goals first | (exfalso; revert hg; decide) | skip
  refine aw_loopF (fun j : Nat => [(30, ai j), (6, .v (.slice none 0 0))]) (fun _ => []) (fun j => j ≤ 2) (fun j => 2 - j) 0 (Nat.zero_le _) ?_ ?_ ?_
  · exact ⟨rfl, rfl, trivial⟩
  · exact trivial
  rintro j hj
  (simp only [LP, List.append_assoc, List.nil_append, List.cons_append, List.append_nil, List.contains_cons, List.contains_nil, Nat.reduceBEq, Bool.or_false, Bool.or_true, Bool.true_or, Bool.false_or, ↓reduceIte, Bool.false_eq_true])
  by_cases hj2 : j = 2
  · subst hj2
    repeat' (first
 | ((with_reducible apply awO_ev); (· rfl); (· exact sv))
 | ((with_reducible apply aw_seq); intro _ _)
 | (with_reducible apply aw_region)
 | ((with_reducible first | apply awO_nil | apply aw_exit | apply aw_skip | apply aw_ret); (try simp only [CT, ↓reduceIte, Nat.reduceEqDiff]))
 | ((with_reducible apply aw_cond_false); (· exact sv))
 | (refine Kont.go ‹Kont _ _ _ _› _ ?_)
 | ((with_reducible apply awO_c); (· rfl); (· rfl); (· exact sv); (· (first | exact c3)); (· rfl); (· rfl); (· rfl); (· decide))
 | ((with_reducible apply retQ_mk); (· exact rI); (· exact sv); (· exact sv); rotate_left; (· rfl)))
    all_goals first | rfl | (exfalso; revert hg; decide) | (exfalso; omega)
  obtain rfl | rfl : j = 0 ∨ j = 1 := by omega
  · skip
    repeat' (first
 | ((with_reducible apply awO_ev); (· rfl); (· exact sv))
 | ((with_reducible apply aw_seq); intro _ _)
 | (with_reducible apply aw_region)
 | (with_reducible apply aw_block)
 | ((with_reducible first | apply awO_nil | apply aw_exit | apply aw_skip | apply aw_ret); (try simp only [CT, ↓reduceIte, Nat.reduceEqDiff]))
 | ((with_reducible apply awO_n); (· rfl); (· rfl); (· decide); (· exact sv); (· rfl); (· rfl); (· decide))
 | ((with_reducible apply aw_cond_true); (· exact sv))
 | (refine Kont.go ‹Kont _ _ _ _› _ ?_))
    all_goals first | (exfalso; revert hg; decide) | (exfalso; omega) | skip
    all_goals
      refine LE_mk (1) ?_ ?_ sN sN sN
      · omega
      · omega
  · skip
    repeat' (first
 | ((with_reducible apply awO_ev); (· rfl); (· exact sv))
 | ((with_reducible apply aw_seq); intro _ _)
 | (with_reducible apply aw_region)
 | (with_reducible apply aw_block)
 | ((with_reducible first | apply awO_nil | apply aw_exit | apply aw_skip | apply aw_ret); (try simp only [CT, ↓reduceIte, Nat.reduceEqDiff]))
 | ((with_reducible apply awO_n); (· rfl); (· rfl); (· decide); (· exact sv); (· rfl); (· rfl); (· decide))
 | ((with_reducible apply aw_cond_true); (· exact sv))
 | (refine Kont.go ‹Kont _ _ _ _› _ ?_))
    all_goals first | (exfalso; revert hg; decide) | (exfalso; omega) | skip
    all_goals
      refine LE_mk (2) ?_ ?_ sN sN sN
      · omega
      · omega
end Go.Proofs.YtogmppcfopgkdaaGreatDoor
/- Patterns of plain bytes, on the abstract machine. -/
namespace Go.Proofs.YtogmppcfopgkdaaGreatDoor
open Go.RowKit
set_option linter.unusedVariables false
set_option linter.unusedSimpArgs false
set_option maxRecDepth 100000
set_option maxHeartbeats 8000000
/-- A span: the lowest and the highest byte. -/
structure Sn where
  l : UInt8
  h : UInt8
/-- An item of a pattern. -/
structure It where
  k : Int
  t : List UInt8
  n : Bool
  s : List Sn
abbrev snC (l : List Sn) : List AV := l.flatMap fun x => [au x.l, au x.h]
abbrev snsA (l : List Sn) : AV := .rd l.length (snC l)
abbrev itC (p : List It) : List AV := p.flatMap fun x => [ai x.k, az x.t, ab x.n, snsA x.s]
abbrev itsA (p : List It) : AV := .rd p.length (itC p)
def byI (b : UInt8) : It := ⟨1, [b], false, []⟩
theorem itC_append (a b : List It) : itC (a ++ b) = itC a ++ itC b := by simp [itC]
/-- A character: its byte, and whether it is active. -/
structure Cx where
  b : UInt8
  a : Bool
abbrev chC (l : List Cx) : List AV := l.flatMap fun x => [au x.b, ab x.a]
abbrev chsA (l : List Cx) : AV := .rd l.length (chC l)
theorem chC_append (a b : List Cx) : chC (a ++ b) = chC a ++ chC b := by simp [chC]
def chOf (x : El) : List Cx := if x.k = 0 ∨ x.k = 1 ∨ x.k = 2 then x.t.map fun c => ⟨c, !decide (x.k = 1)⟩ else []
def chs (L : List El) : List Cx := L.flatMap chOf
theorem chOf_len (x : El) : (chOf x).length ≤ x.t.length := by
  unfold chOf
  split <;> simp
theorem chs_len (L : List El) : (chs L).length ≤ (cat L).length := by
  induction L with
  | nil => simp [chs]
  | cons x r ih =>
    have := chOf_len x
    simp only [chs, List.flatMap_cons, List.length_append, cat] at ih ⊢
    omega
theorem chs_append (a b : List El) : chs (a ++ b) = chs a ++ chs b := by simp [chs]
theorem chs_take_succ {L : List El} {i : Nat} (h : i < L.length) : chs (L.take (i + 1)) = chs (L.take i) ++ chOf L[i] := by
  rw [List.take_succ_eq_append_getElem h, chs_append]
  simp [chs]
theorem cx_take_succ {l : List UInt8} {i : Nat} (h : i < l.length) (a : Bool) : (l.take (i + 1)).map (fun c => Cx.mk c a) = (l.take i).map (fun c => Cx.mk c a) ++ [⟨l[i], a⟩] := by
  rw [List.take_succ_eq_append_getElem h, List.map_append]; rfl
theorem eqCx : eqK Tryz.prog 234 = some [0, 1] := by kernel_rfl
attribute [go_sem] eqCx
theorem u8n {a b : UInt8} : ((a.toNat : Int) = b.toNat) ↔ a = b := by rw [Int.ofNat_inj, UInt8.toNat_inj]
def isC (l : List Cx) (i : Nat) (b : UInt8) : Bool := match l[i]? with
  | some x => x.a && decide (x.b = b)
  | none => false
theorem is_ab (l : List Cx) (i : Nat) (z : Int) (hz : z = i) (b : UInt8) : Ab Tryz.prog 132 [chsA l, ai z, au b] (ab (isC l i b)) := by
  subst hz
  unfold isC
  by_cases hil : i < l.length
  · rw [List.getElem?_eq_getElem hil]
    refine Fn_of_aw (keep := []) Tryz.func132 rfl rfl (by simp [Tryz.ntmps132]) ?_
    simp only [num_cons, num_nil, Tryz.ntmps132, Tryz.results132]
    repeat' (first
 | ((with_reducible apply awO_ev); (· rfl); (· exact sv))
 | ((with_reducible apply aw_seq); intro _ _)
 | (with_reducible apply aw_region)
 | ((with_reducible first | apply awO_nil | apply aw_exit | apply aw_skip | apply aw_ret); (try simp only [CT, ↓reduceIte, Nat.reduceEqDiff]))
 | ((with_reducible apply awO_y); (· rfl); (· rfl); (· decide); (· exact sv); (· exact sv))
 | (refine Kont.go ‹Kont _ _ _ _› _ ?_)
 | ((first | ((with_reducible apply awO_guardN); (· rfl); (· rfl); (· exact sv); (· exact nB)) | ((with_reducible apply aw_condN); (· exact sv))); (· exact pN); (· exact pN); all_goals (intro hg; try (exfalso; omega)))
 | ((with_reducible apply retQ_mk); (· exact rI); (· exact sv); (· exact sv); rotate_left; (· rfl)))
    all_goals
      refine ab_eq ?_
      simp [u8n, and_comm]
  · rw [List.getElem?_eq_none (by omega)]
    refine Fn_of_aw (keep := []) Tryz.func132 rfl rfl (by simp [Tryz.ntmps132]) ?_
    simp only [num_cons, num_nil, Tryz.ntmps132, Tryz.results132]
    exact wkA
theorem chars_ab (L : List El) (hL : L.length ≤ 10000) (hc : (cat L).length ≤ 10000) : Ab Tryz.prog 131 [elsA L] (chsA (chs L)) := by
  refine Fn_of_aw (keep := []) Tryz.func131 rfl rfl (by simp [Tryz.ntmps131]) ?_
  simp only [num_cons, num_nil, Tryz.ntmps131, Tryz.results131]
  repeat' (first
 | ((with_reducible apply awO_ev); (· rfl); (· exact sv))
 | ((with_reducible apply aw_seq); intro _ _)
 | (with_reducible apply aw_region)
 | (with_reducible apply aw_block)
 | ((with_reducible first | apply awO_nil | apply aw_exit | apply aw_skip | apply aw_ret); (try simp only [CT, ↓reduceIte, Nat.reduceEqDiff]))
 | (refine Kont.go ‹Kont _ _ _ _› _ ?_))
  refine aw_virt 3 100 2 rfl (by omega) (by simp) ?_
  refine aw_st svs ?_
  refine aw_loopF (fun i : Nat => [(9, ai i), (3, .os 100 0 2 (chs (L.take i)).length)]) (fun i => [(100, chC (chs (L.take i)))]) (fun i => i ≤ L.length) (fun i => L.length - i) 0 (by omega) ?_ ?_ ?_
  · exact ⟨rfl, rfl, trivial⟩
  · exact ⟨rfl, trivial⟩
  intro i hi
  (simp only [LP, List.append_assoc, List.nil_append, List.cons_append, List.append_nil, List.contains_cons, List.contains_nil, Nat.reduceBEq, Bool.or_false, Bool.or_true, Bool.true_or, Bool.false_or, ↓reduceIte, Bool.false_eq_true])
  have hle : (chs (L.take i)).length ≤ 10000 := by
    have := chs_len (L.take i)
    have := cat_take_len L i
    omega
  by_cases hil : i < L.length
  · have e1 := chs_take_succ hil
    have hcl := cat_get_len hil
    generalize chs (L.take i) = C at *
    by_cases h0 : L[i].k = 0 ∨ L[i].k = 1 ∨ L[i].k = 2
    · rw [chOf, if_pos h0] at e1
      rcases h0 with h0 | h0 | h0
      · exact wq26
      · exact wq26
      · exact wq26
    · rw [chOf, if_neg h0, List.append_nil] at e1
      have k0 : ¬ L[i].k = 0 := fun h => h0 (.inl h)
      have k1 : ¬ L[i].k = 1 := fun h => h0 (.inr (.inl h))
      have k2 : ¬ L[i].k = 2 := fun h => h0 (.inr (.inr h))
      exact wq20
  · have e1 : L.take i = L := List.take_of_length_le (by omega)
    rw [e1]
    exact wkA
theorem byI_take {l : List Cx} {i : Nat} (h : i < l.length) : (l.take (i + 1)).map (fun x => byI x.b) = (l.take i).map (fun x => byI x.b) ++ [byI l[i].b] := by
  rw [List.take_succ_eq_append_getElem h, List.map_append]; rfl
/-- What runs without special characters are compiled to. -/
theorem compileP (L : List El) (hL : L.length ≤ 10000) (hc : (cat L).length ≤ 10000) (hno : ∀ i, isC (chs L) i 91 = false ∧ isC (chs L) i 42 = false ∧ isC (chs L) i 63 = false) : Ab Tryz.prog 81 [elsA L] (itsA ((chs L).map fun x => byI x.b)) := by
  have c1 := chars_ab L hL hc
  have hlen := chs_len L
  generalize chs L = l at *
  refine Fn_of_aw (keep := []) Tryz.func81 rfl rfl (by simp [Tryz.ntmps81]) ?_
  simp only [num_cons, num_nil, Tryz.ntmps81, Tryz.results81]
  repeat' (first
 | ((with_reducible apply awO_ev); (· rfl); (· exact sv))
 | ((with_reducible apply aw_seq); intro _ _)
 | (with_reducible apply aw_region)
 | (with_reducible apply aw_block)
 | ((with_reducible first | apply awO_nil | apply aw_exit | apply aw_skip | apply aw_ret); (try simp only [CT, ↓reduceIte, Nat.reduceEqDiff]))
 | (refine Kont.go ‹Kont _ _ _ _› _ ?_)
 | ((with_reducible apply awO_c); (· rfl); (· rfl); (· exact sv); (· (first | exact c1)); (· rfl); (· rfl); (· rfl); (· decide)))
  refine aw_virt 4 100 4 rfl (by omega) (by simp) ?_
  refine aw_st svs ?_
  refine aw_loopF (fun j : Nat => [(5, ai j), (4, .os 100 0 4 j)]) (fun j => [(100, itC ((l.take j).map fun x => byI x.b))]) (fun j => j ≤ l.length) (fun j => l.length - j) 0 (Nat.zero_le _) ?_ ?_ ?_
  · exact ⟨rfl, rfl, trivial⟩
  · exact ⟨rfl, trivial⟩
  intro j hj
  (simp only [LP, List.append_assoc, List.nil_append, List.cons_append, List.append_nil, List.contains_cons, List.contains_nil, Nat.reduceBEq, Bool.or_false, Bool.or_true, Bool.true_or, Bool.false_or, ↓reduceIte, Bool.false_eq_true])
  have hml : ((l.take j).map fun x => byI x.b).length = j := by rw [List.length_map, List.length_take]; omega
  by_cases hjl : j < l.length
  · have c2 := is_ab l j j rfl 91
    have c3 := is_ab l j j rfl 42
    have c4 := is_ab l j j rfl 63
    rw [(hno j).1] at c2
    rw [(hno j).2.1] at c3
    rw [(hno j).2.2] at c4
    have e1 := byI_take hjl
    generalize ((l.take j).map fun x => byI x.b) = p at *
    repeat' (first
 | ((with_reducible apply awO_bnz); (· rfl); (· rfl); (· rfl); (· exact sv); (with_reducible apply awO_st); (· exact svs))
 | ((with_reducible apply awO_ev); (· rfl); (· exact sv))
 | ((with_reducible apply aw_seq); intro _ _)
 | (with_reducible apply aw_region)
 | (with_reducible apply aw_block)
 | ((with_reducible first | apply awO_nil | apply aw_exit | apply aw_skip | apply aw_ret); (try simp only [CT, ↓reduceIte, Nat.reduceEqDiff]))
 | ((with_reducible apply aw_cond_false); (· exact sv))
 | (refine Kont.go ‹Kont _ _ _ _› _ ?_)
 | ((with_reducible apply awO_c); (· rfl); (· rfl); (· exact sv); (· (first | exact c2 | exact c3 | exact c4)); (· rfl); (· rfl); (· rfl); (· decide))
 | ((first | ((with_reducible apply awO_guardN); (· rfl); (· rfl); (· exact sv); (· exact nB)) | ((with_reducible apply aw_condN); (· exact sv))); (· exact pN); (· exact pN); all_goals (intro hg; try (exfalso; omega))))
    refine LE_mk (j + 1) ?_ ?_ ?_ sN ?_
    · omega
    · omega
    · exact ⟨rfl, rfl, trivial⟩
    · refine ⟨?_, trivial⟩
      show some _ = some _
      rw [e1, itC_append]; rfl
  · obtain rfl : j = l.length := by omega
    rw [List.take_length] at hml ⊢
    generalize (l.map fun x => byI x.b) = p at *
    repeat' (first
 | ((with_reducible apply awO_ev); (· rfl); (· exact sv))
 | ((with_reducible apply aw_seq); intro _ _)
 | (with_reducible apply aw_region)
 | ((with_reducible first | apply awO_nil | apply aw_exit | apply aw_skip | apply aw_ret); (try simp only [CT, ↓reduceIte, Nat.reduceEqDiff]))
 | (refine Kont.go ‹Kont _ _ _ _› _ ?_)
 | ((first | ((with_reducible apply awO_guardN); (· rfl); (· rfl); (· exact sv); (· exact nB)) | ((with_reducible apply aw_condN); (· exact sv))); (· exact pN); (· exact pN); all_goals (intro hg; try (exfalso; omega)))
 | ((with_reducible apply retQ_mk); (· exact rI); (· exact sv); (· exact sv); rotate_left; (· rfl)))
    all_goals (rw [← hml])
end Go.Proofs.YtogmppcfopgkdaaGreatDoor
/- Patterns of plain bytes: valid, Literal, on the abstract machine. -/
namespace Go.Proofs.YtogmppcfopgkdaaGreatDoor
open Go.RowKit
set_option linter.unusedVariables false
set_option linter.unusedSimpArgs false
set_option maxRecDepth 100000
set_option maxHeartbeats 8000000
theorem validP (S : List UInt8) (hp : S.length ≤ 10000) : Ab Tryz.prog 134 [.rd S.length (S.flatMap fun b => [ai 1, az [b], ab false, .rd 0 []])] (ab true) := by
  refine Fn_of_aw (keep := []) Tryz.func134 rfl rfl (by simp [Tryz.ntmps134]) ?_
  simp only [num_cons, num_nil, Tryz.ntmps134, Tryz.results134]
  repeat' (first
 | ((with_reducible apply awO_ev); (· rfl); (· exact sv))
 | ((with_reducible apply aw_seq); intro _ _)
 | (with_reducible apply aw_region)
 | (with_reducible apply aw_block)
 | ((with_reducible first | apply awO_nil | apply aw_exit | apply aw_skip | apply aw_ret); (try simp only [CT, ↓reduceIte, Nat.reduceEqDiff]))
 | (refine Kont.go ‹Kont _ _ _ _› _ ?_))
  refine aw_loopF (fun j : Nat => [(10, ai j)]) (fun _ => []) (fun j => j ≤ S.length) (fun j => S.length - j) 0 (Nat.zero_le _) ?_ ?_ ?_
  · exact ⟨rfl, trivial⟩
  · exact trivial
  intro j hj
  (simp only [LP, List.append_assoc, List.nil_append, List.cons_append, List.append_nil, List.contains_cons, List.contains_nil, Nat.reduceBEq, Bool.or_false, Bool.or_true, Bool.true_or, Bool.false_or, ↓reduceIte, Bool.false_eq_true])
  by_cases hjl : j < S.length
  · skip
    repeat' (first
 | ((with_reducible apply awO_ev); (· rfl); (· exact sv))
 | ((with_reducible apply aw_seq); intro _ _)
 | (with_reducible apply aw_region)
 | (with_reducible apply aw_block)
 | ((with_reducible first | apply awO_nil | apply aw_exit | apply aw_skip | apply aw_ret); (try simp only [CT, ↓reduceIte, Nat.reduceEqDiff]))
 | ((with_reducible apply awO_y); (· rfl); (· rfl); (· decide); (· exact sv); (· exact sv))
 | ((with_reducible apply aw_cond_true); (· exact sv))
 | ((with_reducible apply aw_cond_false); (· exact sv))
 | (refine Kont.go ‹Kont _ _ _ _› _ ?_)
 | ((first | ((with_reducible apply awO_guardN); (· rfl); (· rfl); (· exact sv); (· exact nB)) | ((with_reducible apply aw_condN); (· exact sv))); (· exact pN); (· exact pN); all_goals (intro hg; try (exfalso; omega))))
    refine aw_loopF (fun i : Nat => [(48, ai i)]) (fun _ => []) (fun i => i ≤ 0) (fun i => 0 - i) 0 (Nat.zero_le _) ?_ ?_ ?_
    · exact ⟨rfl, trivial⟩
    · exact trivial
    intro i hi
    obtain rfl : i = 0 := by omega
    (simp only [LP, List.append_assoc, List.nil_append, List.cons_append, List.append_nil, List.contains_cons, List.contains_nil, Nat.reduceBEq, Bool.or_false, Bool.or_true, Bool.true_or, Bool.false_or, ↓reduceIte, Bool.false_eq_true])
    repeat' (first
 | ((with_reducible apply awO_ev); (· rfl); (· exact sv))
 | ((with_reducible apply aw_seq); intro _ _)
 | (with_reducible apply aw_region)
 | ((with_reducible first | apply awO_nil | apply aw_exit | apply aw_skip | apply aw_ret); (try simp only [CT, ↓reduceIte, Nat.reduceEqDiff]))
 | ((with_reducible apply aw_cond_false); (· exact sv))
 | (refine Kont.go ‹Kont _ _ _ _› _ ?_))
    all_goals
      refine LE_mk (j + 1) ?_ ?_ sN sN sN
      · exact hjl
      · omega
  · obtain rfl : j = S.length := by omega
    exact wkB
theorem bytesA_map2 (l : List UInt8) : bytesA l = List.map au l := rfl
theorem unB_map2 (l : List UInt8) : unB (List.map au l) = some l := unB_bytesA l
attribute [local go_sem] bytesA_map2 unB_map2
theorem literalP (S : List UInt8) (hp : S.length ≤ 10000) : Ab Tryz.prog 82 [.rd S.length (S.flatMap fun b => [ai 1, az [b], ab false, .rd 0 []])] (.tp [az S, ab true]) := by
  have c1 := validP S hp
  refine Fn_of_aw (keep := []) Tryz.func82 rfl rfl (by simp [Tryz.ntmps82]) ?_
  simp only [num_cons, num_nil, Tryz.ntmps82, Tryz.results82]
  repeat' (first
 | ((with_reducible apply awO_ev); (· rfl); (· exact sv))
 | ((with_reducible apply aw_seq); intro _ _)
 | (with_reducible apply aw_region)
 | (with_reducible apply aw_block)
 | ((with_reducible first | apply awO_nil | apply aw_exit | apply aw_skip | apply aw_ret); (try simp only [CT, ↓reduceIte, Nat.reduceEqDiff]))
 | ((with_reducible apply aw_cond_false); (· exact sv))
 | (refine Kont.go ‹Kont _ _ _ _› _ ?_)
 | ((with_reducible apply awO_c); (· rfl); (· rfl); (· exact sv); (· (first | exact c1)); (· rfl); (· rfl); (· rfl); (· decide)))
  refine aw_virt 4 100 1 rfl (by omega) (by simp) ?_
  refine aw_st svs ?_
  refine aw_loopF (fun i : Nat => [(12, ai i), (4, .os 100 0 1 i)]) (fun i => [(100, (S.take i).map au)]) (fun i => i ≤ S.length) (fun i => S.length - i) 0 (Nat.zero_le _) ?_ ?_ ?_
  · exact ⟨rfl, rfl, trivial⟩
  · exact ⟨rfl, trivial⟩
  intro i hi
  (simp only [LP, List.append_assoc, List.nil_append, List.cons_append, List.append_nil, List.contains_cons, List.contains_nil, Nat.reduceBEq, Bool.or_false, Bool.or_true, Bool.true_or, Bool.false_or, ↓reduceIte, Bool.false_eq_true])
  have hlen : (S.take i).length = i := by rw [List.length_take]; omega
  by_cases hil : i < S.length
  · have e1 : S.take (i + 1) = S.take i ++ [S[i]] := List.take_succ_eq_append_getElem hil
    generalize S.take i = T at *
    repeat' (first
 | ((with_reducible apply awO_ev); (· rfl); (· exact sv))
 | ((with_reducible apply aw_seq); intro _ _)
 | (with_reducible apply aw_region)
 | (with_reducible apply aw_block)
 | ((with_reducible first | apply awO_nil | apply aw_exit | apply aw_skip | apply aw_ret); (try simp only [CT, ↓reduceIte, Nat.reduceEqDiff]))
 | ((with_reducible apply aw_cond_false); (· exact sv))
 | (refine Kont.go ‹Kont _ _ _ _› _ ?_)
 | ((first | ((with_reducible apply awO_guardN); (· rfl); (· rfl); (· exact sv); (· exact nB)) | ((with_reducible apply aw_condN); (· exact sv))); (· exact pN); (· exact pN); all_goals (intro hg; try (exfalso; omega))))
    refine LE_mk (i + 1) ?_ ?_ ?_ sN ?_
    · exact hil
    · omega
    · exact ⟨rfl, rfl, trivial⟩
    · refine ⟨?_, trivial⟩
      show some _ = some _
      rw [e1, List.map_append]
      rfl
  · obtain rfl : i = S.length := by omega
    rw [List.take_length]
    exact wkB
end Go.Proofs.YtogmppcfopgkdaaGreatDoor
