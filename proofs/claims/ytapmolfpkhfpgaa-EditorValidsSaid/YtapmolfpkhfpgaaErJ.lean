/- The editor: transpose and convert of the program, on the abstract machine. -/
import Derived.Test.YtapmolfpkhfpgaaErG
namespace Go.Proofs.Ytapmolfpkhfpgaa
open Go.RowKit
set_option linter.unusedVariables false
set_option linter.unusedSimpArgs false
set_option maxRecDepth 100000
set_option maxHeartbeats 8000000
theorem unB_map (l : List UInt8) : unB (l.map au) = some l := unB_bytesA l
theorem set_au (l : List UInt8) (i : Nat) (c : UInt8) : (l.map au).set i (AV.v (Value.int .u8 c.toNat)) = (l.set i c).map au := by rw [← List.map_set]
theorem set_sw (t : List UInt8) (p : Nat) (x y : UInt8) (h : 1 ≤ p) : (t.set p x).set (p - 1) y = (t.set (p - 1) y).set p x := List.set_comm _ _ (by omega)
theorem stoX_set {P : Program} {fr : List (Nat × AV)} {hp : Hp} {nt : Nat} {fx : List Nat} {t : TypeId} {k off i : Nat} {l : List UInt8} {x : UInt8} {c : Int} (h1 : szT P t = some [AV.v (Value.int .u8 c)].length) (h3 : off + 1 ≤ l.length) :
    stoX P ⟨fr, hp, nt, fx⟩ t k off ((l.set i x).map au) [AV.v (Value.int .u8 c)] = some ⟨fr, hset k (setR ((l.set i x).map au) off [AV.v (Value.int .u8 c)]) hp, nt, fx⟩ := stoX_ok h1 rfl (by simpa using h3)
theorem slX_set2 (t : List UInt8) (i j : Nat) (x y : UInt8) : slX (some (((t.set i x).set j y).map au)) 0 1 t.length = some (t.length, ((t.set i x).set j y).map au) := by
  rw [slX_ok (by simp), List.drop_zero, List.take_of_length_le (by simp)]
theorem ite_set2 {α : Type} (t : List UInt8) (i j : Nat) (x y : UInt8) (a b : α) : (if ((t.set i x).set j y).length = t.length then a else b) = a := if_pos (by simp)
attribute [go_sem] unB_map set_au set_sw stoX_set slX_set2 ite_set2
def trnE (e : Er) : Er :=
  if e.now.t.length < 2 ∨ e.now.p = 0 then e else
  let k := if e.now.p.toNat = e.now.t.length then e.now.p.toNat - 1 else e.now.p.toNat
  { e with now := ⟨e.now.t.take (k - 1) ++ (e.now.t.drop k).take 1 ++ (e.now.t.drop (k - 1)).take 1 ++ e.now.t.drop (k + 1), k + 1⟩ }
theorem swap_eq {t : List UInt8} {k : Nat} (h1 : 1 ≤ k) (h2 : k < t.length) : (t.set (k - 1) t[k]).set k (t[k - 1]'(by omega)) = t.take (k - 1) ++ (t.drop k).take 1 ++ (t.drop (k - 1)).take 1 ++ t.drop (k + 1) := by
  have e1 : t.drop (k - 1) = t[k - 1]'(by omega) :: t[k] :: t.drop (k + 1) := by
    rw [List.drop_eq_getElem_cons (show k - 1 < t.length by omega), show k - 1 + 1 = k by omega, List.drop_eq_getElem_cons h2]
  have e2 : t.drop k = t[k] :: t.drop (k + 1) := List.drop_eq_getElem_cons h2
  generalize hx : t[k - 1]'(by omega) = x at *
  generalize hy : t[k] = y at *
  have e : t = t.take (k - 1) ++ x :: y :: t.drop (k + 1) := by rw [← e1, List.take_append_drop]
  have hl : (t.take (k - 1)).length = k - 1 := by rw [List.length_take]; omega
  rw [e1, e2]
  generalize t.take (k - 1) = A at *
  generalize t.drop (k + 1) = B at *
  subst e
  rw [List.set_append_right _ _ (by omega), hl, Nat.sub_self, List.set_cons_zero, List.set_append_right _ _ (by omega), hl, show k - (k - 1) = 1 by omega]
  simp
theorem transpose_fn (e : Er) (L : List (List UInt8)) (a : Int) (h0 : 0 ≤ e.now.p) (h1 : e.now.p ≤ e.now.t.length) (ht : e.now.t.length ≤ 4096) :
    Fn Try.prog 61 [.pt 9 0] (wkH e L a) (.tp []) (wkE (trnE e) L a) [9] := by
  obtain ⟨⟨t, z⟩, m, K, U, R, ks, la, li, sd⟩ := e
  simp only at h0 h1 ht
  obtain ⟨p, rfl⟩ : ∃ p : Nat, z = p := ⟨z.toNat, by omega⟩
  simp only [wkH, wkC]
  unfold trnE
  simp only [Int.toNat_natCast]
  refine Fn_of_aw (keep := [9, 3000, 4000]) Try.func61 rfl rfl (by simp [Try.ntmps61]) ?_
  simp only [num_cons, num_nil, Try.ntmps61, Try.results61]
  by_cases k1 : t.length < 2 ∨ (p : Int) = 0
  · rw [if_pos k1]
    repeat' (first
 | ((with_reducible apply awO_ev); (· rfl); (· exact sv))
 | ((with_reducible apply aw_seq); intro _ _)
 | (with_reducible apply aw_region)
 | ((first | (with_reducible apply awO_nil) | (with_reducible apply aw_exit) | (with_reducible apply aw_skip) | (with_reducible apply aw_ret)); (try simp only [CT, ↓reduceIte, Nat.reduceEqDiff]))
 | ((with_reducible apply awO_y); (· rfl); (· rfl); (· decide); (· exact sv); (· exact sv))
 | ((with_reducible apply awO_n); (· rfl); (· rfl); (· decide); (· exact sv); (· rfl); (· rfl); (· decide))
 | ((with_reducible apply aw_cond_true); (· exact sv))
 | (refine Kont.go ‹Kont _ _ _ _› _ ?_)
 | ((with_reducible apply aw_draw); (· decide +kernel); (simp only [List.size_toArray, List.length_cons, List.length_nil, Nat.reduceAdd]))
 | ((with_reducible apply awY_done); (· decide +kernel); (try simp only [CT, ↓reduceIte, Nat.reduceEqDiff]))
 | ((with_reducible apply awY_q); (· exact sQ); (· exact np); (· exact svg); (· rfl); (· exact sv))
 | ((first | ((with_reducible apply awO_guard); (· rfl); (· rfl); (· exact sv)) | ((with_reducible apply aw_cond); (· exact sv))); all_goals (intro hg; (try simp only [Bool.not_true, Bool.not_false]); (try simp only [decide_eq_true_eq, decide_eq_false_iff_not, Bool.not_true, Bool.not_false, Bool.not_eq_true', Bool.not_eq_false', Bool.not_not, beq_eq_false_iff_ne, ne_eq, beq_iff_eq, decide_eq_decide] at hg); try (exfalso; omega))))
    all_goals (refine retQ_wE (by first | exact .inr rfl | exact .inl rfl) rfl rfl rfl sv rfl (roS _) rfl (roS _) rfl rfl ?_ rfl rfl; rfl)
  rw [if_neg k1]
  obtain ⟨k, hk⟩ : ∃ k, k = (if p = t.length then p - 1 else p) := ⟨_, rfl⟩
  rw [← hk]
  have hk1 : 1 ≤ k ∧ k < t.length := by rw [hk]; split <;> omega
  have hs := swap_eq (t := t) (k := k) hk1.1 hk1.2
  rw [← hs]
  refine aw_join [(2, ai p), (3, ai t.length), (0, .pt 9 0)] [(9, [az t, ai p, ai m, .os 2000 0 1 K.length, .os 3000 0 2 U.length, .os 4000 0 2 R.length, az ks, ai la, ai li, az sd, .rd L.length (L.map az), ai a]), (2000, K.map az), (3000, snC U), (4000, snC R)] ?_ ?_
  · skip
    repeat' (first
 | ((with_reducible apply aw_draw); (· decide +kernel); (simp only [List.size_toArray, List.length_cons, List.length_nil, Nat.reduceAdd]))
 | ((with_reducible apply awY_done); (· decide +kernel); (try simp only [CT, ↓reduceIte, Nat.reduceEqDiff]))
 | ((with_reducible apply awY_q); (· exact sQ); (· exact np); (· exact svg); (· rfl); (· exact sv))
 | ((with_reducible apply endQ_sub); (· exact sE); (· exact sN)))
    all_goals exact endQ_mk ⟨rfl, rfl, rfl, trivial⟩ ⟨rfl, rfl, rfl, rfl, trivial⟩
  refine aw_join [(2, ai p), (3, ai t.length), (0, .pt 9 0)] [(9, [az t, ai p, ai m, .os 2000 0 1 K.length, .os 3000 0 2 U.length, .os 4000 0 2 R.length, az ks, ai la, ai li, az sd, .rd L.length (L.map az), ai a]), (2000, K.map az), (3000, snC U), (4000, snC R)] ?_ ?_
  · skip
    repeat' (first
 | ((with_reducible apply awO_ev); (· rfl); (· exact sv))
 | ((with_reducible apply aw_seq); intro _ _)
 | (with_reducible apply aw_region)
 | ((first | (with_reducible apply awO_nil) | (with_reducible apply aw_exit) | (with_reducible apply aw_skip) | (with_reducible apply aw_ret)); (try simp only [CT, ↓reduceIte, Nat.reduceEqDiff]))
 | ((with_reducible apply awO_y); (· rfl); (· rfl); (· decide); (· exact sv); (· exact sv))
 | (refine Kont.go ‹Kont _ _ _ _› _ ?_)
 | ((first | ((with_reducible apply awO_guard); (· rfl); (· rfl); (· exact sv)) | ((with_reducible apply aw_cond); (· exact sv))); all_goals (intro hg; (try simp only [Bool.not_true, Bool.not_false]); (try simp only [decide_eq_true_eq, decide_eq_false_iff_not, Bool.not_true, Bool.not_false, Bool.not_eq_true', Bool.not_eq_false', Bool.not_not, beq_eq_false_iff_ne, ne_eq, beq_iff_eq, decide_eq_decide] at hg); try (exfalso; omega))))
    all_goals exact endQ_mk ⟨rfl, rfl, rfl, trivial⟩ ⟨rfl, rfl, rfl, rfl, trivial⟩
  refine aw_join [(2, ai k), (0, .pt 9 0)] [(9, [az t, ai p, ai m, .os 2000 0 1 K.length, .os 3000 0 2 U.length, .os 4000 0 2 R.length, az ks, ai la, ai li, az sd, .rd L.length (L.map az), ai a]), (2000, K.map az), (3000, snC U), (4000, snC R)] ?_ ?_
  · by_cases k2 : p = t.length
    · rw [if_pos k2] at hk
      repeat' (first
 | ((with_reducible apply awO_ev); (· rfl); (· exact sv))
 | ((with_reducible apply aw_seq); intro _ _)
 | (with_reducible apply aw_region)
 | ((first | (with_reducible apply awO_nil) | (with_reducible apply aw_exit) | (with_reducible apply aw_skip) | (with_reducible apply aw_ret)); (try simp only [CT, ↓reduceIte, Nat.reduceEqDiff]))
 | (refine Kont.go ‹Kont _ _ _ _› _ ?_)
 | ((first | ((with_reducible apply awO_guard); (· rfl); (· rfl); (· exact sv)) | ((with_reducible apply aw_cond); (· exact sv))); all_goals (intro hg; (try simp only [Bool.not_true, Bool.not_false]); (try simp only [decide_eq_true_eq, decide_eq_false_iff_not, Bool.not_true, Bool.not_false, Bool.not_eq_true', Bool.not_eq_false', Bool.not_not, beq_eq_false_iff_ne, ne_eq, beq_iff_eq, decide_eq_decide] at hg); try (exfalso; omega))))
      all_goals exact endQ_mk ⟨congrArg some (ai_eq (by omega)), rfl, trivial⟩ ⟨rfl, rfl, rfl, rfl, trivial⟩
    · rw [if_neg k2] at hk
      subst hk
      repeat' (first
 | ((with_reducible apply awO_ev); (· rfl); (· exact sv))
 | ((with_reducible apply aw_seq); intro _ _)
 | (with_reducible apply aw_region)
 | ((first | (with_reducible apply awO_nil) | (with_reducible apply aw_exit) | (with_reducible apply aw_skip) | (with_reducible apply aw_ret)); (try simp only [CT, ↓reduceIte, Nat.reduceEqDiff]))
 | (refine Kont.go ‹Kont _ _ _ _› _ ?_)
 | ((first | ((with_reducible apply awO_guard); (· rfl); (· rfl); (· exact sv)) | ((with_reducible apply aw_cond); (· exact sv))); all_goals (intro hg; (try simp only [Bool.not_true, Bool.not_false]); (try simp only [decide_eq_true_eq, decide_eq_false_iff_not, Bool.not_true, Bool.not_false, Bool.not_eq_true', Bool.not_eq_false', Bool.not_not, beq_eq_false_iff_ne, ne_eq, beq_iff_eq, decide_eq_decide] at hg); try (exfalso; omega))))
      all_goals exact endQ_mk ⟨rfl, rfl, trivial⟩ ⟨rfl, rfl, rfl, rfl, trivial⟩
  clear hk k1 hs
  repeat' (first
 | ((with_reducible apply awO_b8); (· rfl); (· rfl); (· rfl); (· exact sv); (· simp only [go_sem]); (· omega); (· exact nd); (· decide); (with_reducible apply awO_st); (· exact svs))
 | ((with_reducible apply awO_ev); (· rfl); (· exact sv))
 | ((with_reducible apply aw_seq); intro _ _)
 | (with_reducible apply aw_region)
 | ((first | (with_reducible apply awO_nil) | (with_reducible apply aw_exit) | (with_reducible apply aw_skip) | (with_reducible apply aw_ret)); (try simp only [CT, ↓reduceIte, Nat.reduceEqDiff]))
 | (refine Kont.go ‹Kont _ _ _ _› _ ?_)
 | ((with_reducible apply aw_draw); (· decide +kernel); (simp only [List.size_toArray, List.length_cons, List.length_nil, Nat.reduceAdd]))
 | ((with_reducible apply awY_done); (· decide +kernel); (try simp only [CT, ↓reduceIte, Nat.reduceEqDiff]))
 | ((with_reducible apply awY_q); (· exact sQ); (· exact np); (· exact svg); (· rfl); (· exact sv))
 | ((with_reducible apply awI_ev); (· exact svg); (· rfl); (· exact sv))
 | ((with_reducible apply awY_p); (· exact sH); (first | ((with_reducible apply awP_1); (· decide +kernel)) | ((with_reducible apply awP_2); (· exact sP)))))
  all_goals (refine retQ_wE (by first | exact .inr rfl | exact .inl rfl) rfl rfl rfl sv rfl (roS _) rfl (roS _) rfl rfl ?_ rfl rfl; rfl)
/-- The letters that are converted as far as i. -/
def cvB (f : UInt8 → UInt8) (t : List UInt8) (p i : Nat) : List UInt8 := t.take p ++ ((t.drop p).take (i - p)).map f ++ t.drop i
theorem cvB_zero (f : UInt8 → UInt8) (t : List UInt8) (p : Nat) : cvB f t p p = t := by simp [cvB]
theorem cvB_len (f : UInt8 → UInt8) (t : List UInt8) {p i : Nat} (h1 : p ≤ i) (h2 : i ≤ t.length) : (cvB f t p i).length = t.length := by
  unfold cvB
  simp only [List.length_append, List.length_map, List.length_take, List.length_drop]
  omega
theorem cvB_get (f : UInt8 → UInt8) (t : List UInt8) {p i : Nat} (h1 : p ≤ i) (h2 : i < t.length) : (cvB f t p i)[i]'(by rw [cvB_len f t h1 (by omega)]; exact h2) = t[i] := by
  unfold cvB
  rw [List.getElem_append_right (by simp only [List.length_append, List.length_map, List.length_take, List.length_drop]; omega)]
  simp only [List.length_append, List.length_map, List.length_take, List.length_drop, List.getElem_drop]
  congr 1
  omega
theorem cvB_succ (f : UInt8 → UInt8) (t : List UInt8) {p i : Nat} (h1 : p ≤ i) (h2 : i < t.length) : cvB f t p (i + 1) = (cvB f t p i).set i (f t[i]) := by
  have hl : (t.take p ++ ((t.drop p).take (i - p)).map f).length = i := by simp only [List.length_append, List.length_map, List.length_take, List.length_drop]; omega
  have e1 : (t.drop p).take (i + 1 - p) = (t.drop p).take (i - p) ++ [t[i]] := by
    rw [show i + 1 - p = (i - p) + 1 by omega, List.take_succ_eq_append_getElem (by rw [List.length_drop]; omega), List.getElem_drop]
    congr 2
    congr 1
    omega
  unfold cvB
  rw [List.set_append_right _ _ (by omega), hl, Nat.sub_self, List.drop_eq_getElem_cons h2, List.set_cons_zero, e1, List.map_append]
  simp
def ltrE (e : Er) (f : UInt8 → UInt8) : Er := { e with now := ⟨cvB f e.now.t e.now.p.toNat (nxW e.now.t e.now.p.toNat), nxW e.now.t e.now.p.toNat⟩ }
theorem xor32 : ∀ n : Fin 256, IntKind.u8.wrap ((BitVec.ofInt 8 (n.1 : Int) ^^^ BitVec.ofInt 8 32).toNat : Int) = ((UInt8.ofNat n.1 ^^^ 32).toNat : Int) := by decide
theorem bin_xor32 {P : Program} {t : TypeId} {x y : Operand} (c : UInt8) : bin P .xor t x y (.int .u8 c.toNat) (.int .u8 32) = some (.int .u8 (c ^^^ 32).toNat) := by
  show some (Value.int .u8 (IntKind.u8.wrap ((BitVec.ofInt 8 (c.toNat : Int) ^^^ BitVec.ofInt 8 32).toNat : Int))) = _
  have := xor32 ⟨c.toNat, UInt8.toNat_lt c⟩
  simp only [UInt8.ofNat_toNat] at this
  rw [this]
attribute [go_sem] bin_xor32
theorem upC_xor : ∀ n : Fin 256, upC (UInt8.ofNat n.1) = if 97 ≤ n.1 ∧ n.1 ≤ 122 then UInt8.ofNat n.1 ^^^ 32 else UInt8.ofNat n.1 := by decide
theorem loC_xor : ∀ n : Fin 256, loC (UInt8.ofNat n.1) = if 65 ≤ n.1 ∧ n.1 ≤ 90 then UInt8.ofNat n.1 ^^^ 32 else UInt8.ofNat n.1 := by decide
theorem convU_fn (e : Er) (L : List (List UInt8)) (a : Int) (h0 : 0 ≤ e.now.p) (h1 : e.now.p ≤ e.now.t.length) (ht : e.now.t.length ≤ 4096) :
    Fn Try.prog 64 [.pt 9 0, .v (.int .u8 97), .v (.int .u8 122)] (wkH e L a) (.tp []) (wkE (ltrE e upC) L a) [9] := by
  have c1 := after_fn e L a h0 h1 (by omega)
  obtain ⟨⟨t, z⟩, m, K, U, R, ks, la, li, sd⟩ := e
  simp only at h0 h1 ht
  obtain ⟨p, rfl⟩ : ∃ p : Nat, z = p := ⟨z.toNat, by omega⟩
  simp only [wkH, wkC, Int.toNat_natCast] at c1
  simp only [wkH, wkC]
  unfold ltrE
  simp only [Int.toNat_natCast]
  have hq := nxW_le t p (by omega)
  generalize nxW t p = q at *
  refine Fn_of_aw (keep := [9, 3000, 4000]) Try.func64 rfl rfl (by simp [Try.ntmps64]) ?_
  simp only [num_cons, num_nil, Try.ntmps64, Try.results64]
  repeat' (first
 | ((with_reducible apply awO_b8); (· rfl); (· rfl); (· rfl); (· exact sv); (· simp only [go_sem]); (· omega); (· exact nd); (· decide); (with_reducible apply awO_st); (· exact svs))
 | ((with_reducible apply awO_ev); (· rfl); (· exact sv))
 | ((with_reducible apply aw_seq); intro _ _)
 | (with_reducible apply aw_region)
 | (with_reducible apply aw_block)
 | ((first | (with_reducible apply awO_nil) | (with_reducible apply aw_exit) | (with_reducible apply aw_skip) | (with_reducible apply aw_ret)); (try simp only [CT, ↓reduceIte, Nat.reduceEqDiff]))
 | (refine Kont.go ‹Kont _ _ _ _› _ ?_)
 | ((with_reducible apply awO_m); (· rfl); (· rfl); (· exact sv); (· (first | exact c1)); (· exact svq); (· exact svq); (· exact svq); (· exact svq); (· rfl); (· exact nd); (with_reducible apply awO_st); (· exact svs)))
  refine aw_loopF (fun i : Nat => [(8, ai i)]) (fun i => [(9, [az t, ai p, ai m, .os 2000 0 1 K.length, .os 3000 0 2 U.length, .os 4000 0 2 R.length, az ks, ai la, ai li, az sd, .rd L.length (L.map az), ai a]), (2000, K.map az), (3000, snC U), (4000, snC R), (17, (cvB upC t p i).map au)]) (fun i => p ≤ i ∧ i ≤ q) (fun i => q - i) p ⟨by omega, by omega⟩ ?_ ?_ ?_
  · exact ⟨rfl, trivial⟩
  · exact ⟨rfl, rfl, rfl, rfl, by rw [cvB_zero]; rfl, trivial⟩
  intro i ⟨hi, hiq⟩
  (simp only [LP, List.append_assoc, List.nil_append, List.cons_append, List.append_nil, List.contains_cons, List.contains_nil, Nat.reduceBEq, Bool.or_false, Bool.or_true, Bool.true_or, Bool.false_or, ↓reduceIte, Bool.false_eq_true])
  obtain ⟨Z, hZ⟩ : ∃ Z, Z = cvB upC t p i := ⟨_, rfl⟩
  rw [← hZ]
  have hZl : Z.length = t.length := by rw [hZ]; exact cvB_len upC t hi (by omega)
  by_cases hil : i < q
  · have hZi : Z[i]'(by omega) = t[i]'(by omega) := by subst hZ; exact cvB_get upC t hi (by omega)
    have hZs : cvB upC t p (i + 1) = Z.set i (upC (t[i]'(by omega))) := by subst hZ; exact cvB_succ upC t hi (by omega)
    have hx := upC_xor ⟨(t[i]'(by omega)).toNat, UInt8.toNat_lt _⟩
    simp only [UInt8.ofNat_toNat] at hx
    rw [← hZi] at hx hZs
    by_cases hr : 97 ≤ Z[i].toNat ∧ Z[i].toNat ≤ 122
    · rw [if_pos hr] at hx
      rw [hx] at hZs
      repeat' (first
 | ((with_reducible apply awO_ev); (· rfl); (· exact sv))
 | ((with_reducible apply aw_seq); intro _ _)
 | (with_reducible apply aw_region)
 | (with_reducible apply aw_block)
 | ((first | (with_reducible apply awO_nil) | (with_reducible apply aw_exit) | (with_reducible apply aw_skip) | (with_reducible apply aw_ret)); (try simp only [CT, ↓reduceIte, Nat.reduceEqDiff]))
 | ((with_reducible apply awO_y); (· rfl); (· rfl); (· decide); (· exact sv); (· exact sv))
 | (refine Kont.go ‹Kont _ _ _ _› _ ?_)
 | ((first | ((with_reducible apply awO_guard); (· rfl); (· rfl); (· exact sv)) | ((with_reducible apply aw_cond); (· exact sv))); all_goals (intro hg; (try simp only [Bool.not_true, Bool.not_false]); (try simp only [decide_eq_true_eq, decide_eq_false_iff_not, Bool.not_true, Bool.not_false, Bool.not_eq_true', Bool.not_eq_false', Bool.not_not, beq_eq_false_iff_ne, ne_eq, beq_iff_eq, decide_eq_decide] at hg); try (exfalso; omega))))
      all_goals (refine LE_mk (i + 1) ⟨by omega, by omega⟩ (by omega) sN sN ?_; exact ⟨rfl, rfl, rfl, rfl, by rw [hZs]; rfl, trivial⟩)
    · rw [if_neg hr] at hx
      rw [hx, List.set_getElem_self] at hZs
      repeat' (first
 | ((with_reducible apply awO_ev); (· rfl); (· exact sv))
 | ((with_reducible apply aw_seq); intro _ _)
 | (with_reducible apply aw_region)
 | (with_reducible apply aw_block)
 | ((first | (with_reducible apply awO_nil) | (with_reducible apply aw_exit) | (with_reducible apply aw_skip) | (with_reducible apply aw_ret)); (try simp only [CT, ↓reduceIte, Nat.reduceEqDiff]))
 | ((with_reducible apply awO_y); (· rfl); (· rfl); (· decide); (· exact sv); (· exact sv))
 | ((with_reducible apply awO_n); (· rfl); (· rfl); (· decide); (· exact sv); (· rfl); (· rfl); (· decide))
 | ((with_reducible apply aw_cond_false); (· exact sv))
 | (refine Kont.go ‹Kont _ _ _ _› _ ?_)
 | ((first | ((with_reducible apply awO_guard); (· rfl); (· rfl); (· exact sv)) | ((with_reducible apply aw_cond); (· exact sv))); all_goals (intro hg; (try simp only [Bool.not_true, Bool.not_false]); (try simp only [decide_eq_true_eq, decide_eq_false_iff_not, Bool.not_true, Bool.not_false, Bool.not_eq_true', Bool.not_eq_false', Bool.not_not, beq_eq_false_iff_ne, ne_eq, beq_iff_eq, decide_eq_decide] at hg); try (exfalso; omega))))
      all_goals (refine LE_mk (i + 1) ⟨by omega, by omega⟩ (by omega) sN sN ?_; exact ⟨rfl, rfl, rfl, rfl, by rw [hZs]; rfl, trivial⟩)
  · obtain rfl : i = q := by omega
    rw [← hZl]
    repeat' (first
 | ((with_reducible apply awO_ev); (· rfl); (· exact sv))
 | ((with_reducible apply aw_seq); intro _ _)
 | (with_reducible apply aw_region)
 | ((first | (with_reducible apply awO_nil) | (with_reducible apply aw_exit) | (with_reducible apply aw_skip) | (with_reducible apply aw_ret)); (try simp only [CT, ↓reduceIte, Nat.reduceEqDiff]))
 | (refine Kont.go ‹Kont _ _ _ _› _ ?_)
 | ((first | ((with_reducible apply awO_guard); (· rfl); (· rfl); (· exact sv)) | ((with_reducible apply aw_cond); (· exact sv))); all_goals (intro hg; (try simp only [Bool.not_true, Bool.not_false]); (try simp only [decide_eq_true_eq, decide_eq_false_iff_not, Bool.not_true, Bool.not_false, Bool.not_eq_true', Bool.not_eq_false', Bool.not_not, beq_eq_false_iff_ne, ne_eq, beq_iff_eq, decide_eq_decide] at hg); try (exfalso; omega))))
    all_goals (refine retQ_wE (by first | exact .inr rfl | exact .inl rfl) rfl rfl rfl sv rfl (roS _) rfl (roS _) rfl rfl ?_ rfl rfl; rw [hZ]; done)
theorem convL_fn (e : Er) (L : List (List UInt8)) (a : Int) (h0 : 0 ≤ e.now.p) (h1 : e.now.p ≤ e.now.t.length) (ht : e.now.t.length ≤ 4096) :
    Fn Try.prog 64 [.pt 9 0, .v (.int .u8 65), .v (.int .u8 90)] (wkH e L a) (.tp []) (wkE (ltrE e loC) L a) [9] := by
  have c1 := after_fn e L a h0 h1 (by omega)
  obtain ⟨⟨t, z⟩, m, K, U, R, ks, la, li, sd⟩ := e
  simp only at h0 h1 ht
  obtain ⟨p, rfl⟩ : ∃ p : Nat, z = p := ⟨z.toNat, by omega⟩
  simp only [wkH, wkC, Int.toNat_natCast] at c1
  simp only [wkH, wkC]
  unfold ltrE
  simp only [Int.toNat_natCast]
  have hq := nxW_le t p (by omega)
  generalize nxW t p = q at *
  refine Fn_of_aw (keep := [9, 3000, 4000]) Try.func64 rfl rfl (by simp [Try.ntmps64]) ?_
  simp only [num_cons, num_nil, Try.ntmps64, Try.results64]
  repeat' (first
 | ((with_reducible apply awO_b8); (· rfl); (· rfl); (· rfl); (· exact sv); (· simp only [go_sem]); (· omega); (· exact nd); (· decide); (with_reducible apply awO_st); (· exact svs))
 | ((with_reducible apply awO_ev); (· rfl); (· exact sv))
 | ((with_reducible apply aw_seq); intro _ _)
 | (with_reducible apply aw_region)
 | (with_reducible apply aw_block)
 | ((first | (with_reducible apply awO_nil) | (with_reducible apply aw_exit) | (with_reducible apply aw_skip) | (with_reducible apply aw_ret)); (try simp only [CT, ↓reduceIte, Nat.reduceEqDiff]))
 | (refine Kont.go ‹Kont _ _ _ _› _ ?_)
 | ((with_reducible apply awO_m); (· rfl); (· rfl); (· exact sv); (· (first | exact c1)); (· exact svq); (· exact svq); (· exact svq); (· exact svq); (· rfl); (· exact nd); (with_reducible apply awO_st); (· exact svs)))
  refine aw_loopF (fun i : Nat => [(8, ai i)]) (fun i => [(9, [az t, ai p, ai m, .os 2000 0 1 K.length, .os 3000 0 2 U.length, .os 4000 0 2 R.length, az ks, ai la, ai li, az sd, .rd L.length (L.map az), ai a]), (2000, K.map az), (3000, snC U), (4000, snC R), (17, (cvB loC t p i).map au)]) (fun i => p ≤ i ∧ i ≤ q) (fun i => q - i) p ⟨by omega, by omega⟩ ?_ ?_ ?_
  · exact ⟨rfl, trivial⟩
  · exact ⟨rfl, rfl, rfl, rfl, by rw [cvB_zero]; rfl, trivial⟩
  intro i ⟨hi, hiq⟩
  (simp only [LP, List.append_assoc, List.nil_append, List.cons_append, List.append_nil, List.contains_cons, List.contains_nil, Nat.reduceBEq, Bool.or_false, Bool.or_true, Bool.true_or, Bool.false_or, ↓reduceIte, Bool.false_eq_true])
  obtain ⟨Z, hZ⟩ : ∃ Z, Z = cvB loC t p i := ⟨_, rfl⟩
  rw [← hZ]
  have hZl : Z.length = t.length := by rw [hZ]; exact cvB_len loC t hi (by omega)
  by_cases hil : i < q
  · have hZi : Z[i]'(by omega) = t[i]'(by omega) := by subst hZ; exact cvB_get loC t hi (by omega)
    have hZs : cvB loC t p (i + 1) = Z.set i (loC (t[i]'(by omega))) := by subst hZ; exact cvB_succ loC t hi (by omega)
    have hx := loC_xor ⟨(t[i]'(by omega)).toNat, UInt8.toNat_lt _⟩
    simp only [UInt8.ofNat_toNat] at hx
    rw [← hZi] at hx hZs
    by_cases hr : 65 ≤ Z[i].toNat ∧ Z[i].toNat ≤ 90
    · rw [if_pos hr] at hx
      rw [hx] at hZs
      repeat' (first
 | ((with_reducible apply awO_ev); (· rfl); (· exact sv))
 | ((with_reducible apply aw_seq); intro _ _)
 | (with_reducible apply aw_region)
 | (with_reducible apply aw_block)
 | ((first | (with_reducible apply awO_nil) | (with_reducible apply aw_exit) | (with_reducible apply aw_skip) | (with_reducible apply aw_ret)); (try simp only [CT, ↓reduceIte, Nat.reduceEqDiff]))
 | ((with_reducible apply awO_y); (· rfl); (· rfl); (· decide); (· exact sv); (· exact sv))
 | (refine Kont.go ‹Kont _ _ _ _› _ ?_)
 | ((first | ((with_reducible apply awO_guard); (· rfl); (· rfl); (· exact sv)) | ((with_reducible apply aw_cond); (· exact sv))); all_goals (intro hg; (try simp only [Bool.not_true, Bool.not_false]); (try simp only [decide_eq_true_eq, decide_eq_false_iff_not, Bool.not_true, Bool.not_false, Bool.not_eq_true', Bool.not_eq_false', Bool.not_not, beq_eq_false_iff_ne, ne_eq, beq_iff_eq, decide_eq_decide] at hg); try (exfalso; omega))))
      all_goals (refine LE_mk (i + 1) ⟨by omega, by omega⟩ (by omega) sN sN ?_; exact ⟨rfl, rfl, rfl, rfl, by rw [hZs]; rfl, trivial⟩)
    · rw [if_neg hr] at hx
      rw [hx, List.set_getElem_self] at hZs
      repeat' (first
 | ((with_reducible apply awO_ev); (· rfl); (· exact sv))
 | ((with_reducible apply aw_seq); intro _ _)
 | (with_reducible apply aw_region)
 | (with_reducible apply aw_block)
 | ((first | (with_reducible apply awO_nil) | (with_reducible apply aw_exit) | (with_reducible apply aw_skip) | (with_reducible apply aw_ret)); (try simp only [CT, ↓reduceIte, Nat.reduceEqDiff]))
 | ((with_reducible apply awO_y); (· rfl); (· rfl); (· decide); (· exact sv); (· exact sv))
 | ((with_reducible apply awO_n); (· rfl); (· rfl); (· decide); (· exact sv); (· rfl); (· rfl); (· decide))
 | ((with_reducible apply aw_cond_false); (· exact sv))
 | (refine Kont.go ‹Kont _ _ _ _› _ ?_)
 | ((first | ((with_reducible apply awO_guard); (· rfl); (· rfl); (· exact sv)) | ((with_reducible apply aw_cond); (· exact sv))); all_goals (intro hg; (try simp only [Bool.not_true, Bool.not_false]); (try simp only [decide_eq_true_eq, decide_eq_false_iff_not, Bool.not_true, Bool.not_false, Bool.not_eq_true', Bool.not_eq_false', Bool.not_not, beq_eq_false_iff_ne, ne_eq, beq_iff_eq, decide_eq_decide] at hg); try (exfalso; omega))))
      all_goals (refine LE_mk (i + 1) ⟨by omega, by omega⟩ (by omega) sN sN ?_; exact ⟨rfl, rfl, rfl, rfl, by rw [hZs]; rfl, trivial⟩)
  · obtain rfl : i = q := by omega
    rw [← hZl]
    repeat' (first
 | ((with_reducible apply awO_ev); (· rfl); (· exact sv))
 | ((with_reducible apply aw_seq); intro _ _)
 | (with_reducible apply aw_region)
 | ((first | (with_reducible apply awO_nil) | (with_reducible apply aw_exit) | (with_reducible apply aw_skip) | (with_reducible apply aw_ret)); (try simp only [CT, ↓reduceIte, Nat.reduceEqDiff]))
 | (refine Kont.go ‹Kont _ _ _ _› _ ?_)
 | ((first | ((with_reducible apply awO_guard); (· rfl); (· rfl); (· exact sv)) | ((with_reducible apply aw_cond); (· exact sv))); all_goals (intro hg; (try simp only [Bool.not_true, Bool.not_false]); (try simp only [decide_eq_true_eq, decide_eq_false_iff_not, Bool.not_true, Bool.not_false, Bool.not_eq_true', Bool.not_eq_false', Bool.not_not, beq_eq_false_iff_ne, ne_eq, beq_iff_eq, decide_eq_decide] at hg); try (exfalso; omega))))
    all_goals (refine retQ_wE (by first | exact .inr rfl | exact .inl rfl) rfl rfl rfl sv rfl (roS _) rfl (roS _) rfl rfl ?_ rfl rfl; rw [hZ]; done)
end Go.Proofs.Ytapmolfpkhfpgaa
