/- The law BangEach, on the abstract machine. -/
import Derived.Test.YtgbhjlkenfmadaaDoorBgS
namespace Go.Proofs.YtgbhjlkenfmadaaDoor
open Go.RowKit
set_option linter.unusedVariables false
set_option linter.unusedSimpArgs false
set_option maxRecDepth 100000
set_option maxHeartbeats 8000000
/-! ### How long the words are -/
def totW (L : List (List UInt8)) : Nat := (L.map fun x => x.length + 1).sum
theorem totW_cons (x : List UInt8) (L : List (List UInt8)) : totW (x :: L) = x.length + 1 + totW L := by simp [totW]
theorem jnB_tot : ∀ L, (jnB L).length ≤ totW L
  | [] => Nat.zero_le _
  | [x] => by simp [jnB, totW]
  | x :: y :: r => by
    have := jnB_tot (y :: r)
    rw [totW_cons]
    simp only [jnB, List.length_append, List.length_cons]
    omega
theorem totW_sub {L M : List (List UInt8)} (h : L.Sublist M) : totW L ≤ totW M := by
  induction h with
  | slnil => exact Nat.le_refl _
  | cons a _ ih => rw [totW_cons]; omega
  | cons_cons a _ ih => rw [totW_cons, totW_cons]; omega
theorem fldB_tot : ∀ (l cur : List UInt8), totW (fldB cur l) ≤ cur.length + l.length + 1
  | [], cur => by
    rw [fldB]
    split
    · simp [totW]
    · simp [totW]
  | c :: r, cur => by
    rw [fldB]
    have h0 := fldB_tot r []
    have h1 := fldB_tot r (cur ++ [c])
    simp only [List.length_append, List.length_cons, List.length_nil] at h0 h1 ⊢
    split
    · split
      · omega
      · rw [totW_cons]; omega
    · omega
theorem nxt_tlen {s : List UInt8} {a : Nat} (h : (nxt s a).2 = 0) : a + (nxt s a).1.text.length ≤ (nxt s a).1.fin := by
  unfold nxt at h ⊢
  rcases hd : s.drop a with _ | ⟨c, r⟩
  · simp
  · rw [hd] at h
    simp only at h ⊢
    split
    · simp
    next h1 =>
    rw [if_neg h1] at h
    split
    · simp only [List.length_take]; omega
    next h2 =>
    rw [if_neg h2] at h
    split
    · next h3 => rw [if_pos h3] at h; exact absurd h h3
    · simp only [List.length_take]; omega
theorem nextF_tlen {s : List UInt8} {a : Nat} (ha : a ≤ s.length) (h : (nextF s a).2 = 0) : a + (nextF s a).1.text.length ≤ (nextF s a).1.fin ∧ ((nextF s a).1.kind = 5 → (nextF s a).1.text = []) := by
  have hp := nxt_pos (s := s) (z := a) h
  have hsk : a ≤ skp s (a : Int) := by unfold skp clp; omega
  unfold nextF at h ⊢
  split at h
  · cases h
  next h0 =>
  rw [if_neg h0]
  refine ⟨by have := nxt_tlen h; omega, fun hk => ?_⟩
  generalize skp s (a : Int) = b at *
  unfold nxt at hk ⊢
  rcases hd : s.drop b with _ | ⟨c, r⟩
  · rfl
  · rw [hd] at hk
    simp only at hk ⊢
    split at hk
    · cases hk
    split at hk
    · cases hk
    split at hk
    · cases hk
    · simp only at hk
      split at hk <;> cases hk
theorem allT_tot (s : List UInt8) : ∀ (n a : Nat), a ≤ s.length → (allT s n a).2.2 = 0 → totW ((allT s n a).1.map (·.text)) ≤ 2 * (s.length - a) + 1
  | 0, a, _, _ => by simp [allT, totW]
  | n + 1, a, ha, h => by
    rw [allT] at h ⊢
    split
    · next h1 => rw [if_pos h1] at h; exact absurd h h1
    next h1 =>
    rw [if_neg h1] at h
    have h0 : (nextF s a).2 = 0 := Decidable.not_not.1 h1
    have ht := nextF_tlen ha h0
    split
    · next h2 => rw [List.map_cons, List.map_nil, totW_cons, ht.2 h2]; simp [totW]
    next h2 =>
    rw [if_neg h2] at h
    split
    · next h3 => rw [if_pos h3] at h; exact absurd h h3
    next h3 =>
    have hp := nxt_pos (s := s) (z := a) h0 h2
    have hsk : a ≤ skp s (a : Int) := by unfold skp clp; omega
    have ih := allT_tot s n (nextF s a).1.fin hp.2 (Decidable.not_not.1 h3)
    rw [List.map_cons, totW_cons]
    omega
theorem words_tot (s : List UInt8) : totW (wordsF s) ≤ 2 * s.length + 1 := by
  unfold wordsF
  split
  · have := fldB_tot s []; simp only [List.length_nil] at this; omega
  · next h =>
    have := allT_tot s (s.length + 2) 0 (by omega) (Decidable.not_not.1 h)
    have h2 := totW_sub ((List.filter_sublist (p := kindB) (l := (allF s).1)).map (·.text))
    have h3 : allF s = allT s (s.length + 2) 0 := rfl
    rw [h3] at h2 ⊢
    omega
/-! ### Single words -/
section
variable {W : List UInt8 → List (List UInt8)} (hW : WOk W) {F : Int} {L : List (List UInt8)} (hL : ∀ l ∈ L, l.length ≤ 4096) {line : List UInt8} (hla : L.getLast? = some line)
include hW hL hla
theorem expF_star (hb : (jnB ((W line).drop 1)).length ≤ 4096) (hn : 0 < (W line).length) : expF W F L [33, 42] = (jnB ((W line).drop 1), false, 0) := by
  have he : evtF F L [33, 42] 1 = (line, 1, 0) := by unfold evtF; rw [if_neg (by decide), if_pos (by decide), hla]; rfl
  have hd : desF [33, 42] 1 ((W line).length - 1) = (1, ((W line).length : Int) - 1, 2, true) := by unfold desF; rw [if_neg (by decide), if_neg (by decide), if_pos (by decide)]
  have hc : choF W line [33, 42] 1 = (jnB ((W line).drop 1), 2, 0) := by
    unfold choF
    rw [hd, if_neg (by simp), if_neg (by simp only; omega)]
    simp only [subW]
    rw [show ((W line).length : Int) - 1 + 1 = ((W line).length : Nat) from by omega, Int.toNat_natCast, List.take_length]
    rfl
  rw [expF_one hW hL (by decide) (by decide) (by decide) (.inr he) (k := 0) (.inr ⟨_, by rw [he]; exact hc, hb⟩), he]
  simp only
  rw [hc, if_pos rfl]
theorem expF_all (hb : (jnB (W line)).length ≤ 4096) (hn : 0 < (W line).length) : expF W F L [33, 33, 58, 48, 42] = (jnB (W line), false, 0) := by
  have he : evtF F L [33, 33, 58, 48, 42] 1 = (line, 2, 0) := by unfold evtF; rw [if_pos (by decide), hla]; rfl
  have hd : ∀ last, desF [33, 33, 58, 48, 42] 2 last = (0, last, 5, true) := fun last => by
    have hp : posF [33, 33, 58, 48, 42] 3 last = (0, 4, true) := by unfold posF; rw [if_neg (by decide), if_neg (by decide)]; decide
    unfold desF
    rw [if_neg (by decide), if_neg (by decide), if_neg (by decide), if_pos (by decide)]
    unfold selF
    rw [if_neg (by decide), if_neg (by decide), hp, if_neg (by decide), if_pos (by decide)]
  have hc : choF W line [33, 33, 58, 48, 42] 2 = (jnB (W line), 5, 0) := by
    unfold choF
    rw [hd, if_neg (by simp), if_neg (by simp only; omega)]
    simp only [subW]
    rw [show ((W line).length : Int) - 1 + 1 = ((W line).length : Nat) from by omega, Int.toNat_natCast, List.take_length]
    rfl
  rw [expF_one hW hL (by decide) (by decide) (by decide) (.inl he) (k := 0) (.inr ⟨_, by rw [he]; exact hc, hb⟩), he]
  simp only
  rw [hc, if_pos rfl]
theorem expF_nth {k n : Nat} (hk : 0 < k ∧ k ≤ 9) (hnk : n < 10 ^ k) (hn : n ≤ (W line).length) (hb : ∀ x ∈ W line, x.length ≤ 4096) :
    expF W F L (33 :: 33 :: 58 :: dcL k n) = if h : n < (W line).length then ((W line)[n], false, 0) else ([], false, 8) := by
  obtain ⟨d1, d2, d3, d4⟩ := dcL_ok k n hnk
  have d4 := d4 hk.1
  generalize dcL k n = D at *
  have hDl : 0 < D.length := List.length_pos_iff.2 d4
  have hs3 : ∀ j, atB (33 :: 33 :: 58 :: D) (3 + j) = atB D j := fun j => by rw [show 3 + j = j + 1 + 1 + 1 from by omega]; rfl
  have hdr : (33 :: 33 :: 58 :: D).drop 3 = D := rfl
  have hlen : (33 :: 33 :: 58 :: D : List UInt8).length = 3 + D.length := by simp only [List.length_cons]; omega
  have hdg : dgN D = D.length := by have := dgN_app D [] d1; simpa [dgN] using this
  have h0 : dgB (atB D 0) = true := by rw [atB_lt hDl]; exact d1 _ (List.getElem_mem hDl)
  have hne : ∀ c : UInt8, dgB c = false → atB (33 :: 33 :: 58 :: D) 3 ≠ c := fun c hc e => by
    have := hs3 0
    rw [Nat.add_zero] at this
    rw [this] at e
    rw [e, hc] at h0
    cases h0
  have hend : atB (33 :: 33 :: 58 :: D) (3 + D.length) = 0 := atB_ge (by omega)
  have hnum : numF (33 :: 33 :: 58 :: D) 3 = ((n : Int), 3 + D.length) := by
    unfold numF
    rw [hdr, hdg, if_neg (by omega), List.take_length, d2]
  have hp : ∀ last, posF (33 :: 33 :: 58 :: D) 3 last = ((n : Int), 3 + D.length, true) := fun last => by
    unfold posF
    rw [if_neg (hne 94 (by decide)), if_neg (hne 36 (by decide)), hnum, hdr, hdg, decide_eq_true hDl]
  have hd : ∀ last, desF (33 :: 33 :: 58 :: D) 2 last = ((n : Int), (n : Int), 3 + D.length, true) := fun last => by
    unfold desF
    rw [if_neg (by show ¬ (58 : UInt8) = 94; decide), if_neg (by show ¬ (58 : UInt8) = 36; decide), if_neg (by show ¬ (58 : UInt8) = 42; decide), if_pos (by rfl)]
    unfold selF
    rw [if_neg (hne 42 (by decide)), if_neg (hne 45 (by decide)), hp, if_neg (by simp), if_neg (by rw [hend]; decide), if_neg (by rw [hend]; decide)]
  have he : evtF F L (33 :: 33 :: 58 :: D) 1 = (line, 2, 0) := by unfold evtF; rw [if_pos (by rfl), hla]; rfl
  have h33 : atB (33 :: 33 :: 58 :: D) 0 = 33 := rfl
  have hpl : plB (33 :: 33 :: 58 :: D) 0 = false := by
    unfold plB
    rw [decide_eq_false (by omega), show atB (33 :: 33 :: 58 :: D) (0 + 1) = 33 from rfl]
    decide
  by_cases h : n < (W line).length
  · have hc : choF W line (33 :: 33 :: 58 :: D) 2 = ((W line)[n], 3 + D.length, 0) := by
      unfold choF
      rw [hd, if_neg (by simp), if_neg (by simp only; omega)]
      simp only [subW]
      rw [show (n : Int) + 1 = ((n + 1 : Nat) : Int) from rfl, Int.toNat_natCast, Int.toNat_natCast, List.take_succ_eq_append_getElem h, List.drop_append, List.drop_eq_nil_of_le (by simp only [List.length_take]; omega)]
      simp [Nat.min_eq_left (show n ≤ (W line).length by omega), jnB]
    rw [expF_one hW hL (by omega) h33 hpl (.inl he) (k := 0) (.inr ⟨_, by rw [he, hlen]; exact hc, hb _ (List.getElem_mem h)⟩), he]
    simp only
    rw [hc, if_pos rfl, dif_pos h]
  · have hc : choF W line (33 :: 33 :: 58 :: D) 2 = ([], 0, 8) := by
      unfold choF
      rw [hd, if_neg (by simp), if_pos (by simp only; omega)]
    rw [expF_one hW hL (by omega) h33 hpl (.inl he) (k := 0) (.inl (by rw [he]; exact hc)), he]
    simp only
    rw [hc, if_neg (by decide), dif_neg h]
end
theorem td10 (n : Nat) : (n : Int).tdiv 10 = ((n / 10 : Nat) : Int) := by rw [Int.tdiv_eq_ediv_of_nonneg (by omega)]; omega
theorem tm10 (n : Nat) : (n : Int).tmod 10 = ((n % 10 : Nat) : Int) := by rw [Int.tmod_eq_emod_of_nonneg (by omega)]; omega
attribute [go_sem] td10 tm10
theorem dig1 : ∀ n : Nat, n < 10 → List.take 1 (List.drop n ([48, 49, 50, 51, 52, 53, 54, 55, 56, 57] : List UInt8)) = [UInt8.ofNat (48 + n)] := by decide
theorem digits_ab : ∀ (k n : Nat), 0 < k → k ≤ 9 → n < 10 ^ k → Ab Tryd.prog 11 [ai n] (az (dcL k n))
  | 0, n, h0, _, _ => absurd h0 (by decide)
  | k + 1, n, _, h9, h => by
    have hb : n < 1000000000 := Nat.lt_of_lt_of_le h (Nat.le_trans (Nat.pow_le_pow_right (by decide) h9) (by decide : 10 ^ 9 ≤ 1000000000))
    by_cases h10 : n < 10
    · have e : dcL (k + 1) n = [UInt8.ofNat (48 + n)] := by rw [dcL, if_pos h10]
      have ed := dig1 n h10
      refine Fn_of_aw (keep := []) Tryd.func11 rfl rfl (by simp [Tryd.ntmps11]) ?_
      simp only [num_cons, num_nil, Tryd.ntmps11, Tryd.results11]
      repeat' (first
 | ((with_reducible apply awO_ev); (· rfl); (· exact sv))
 | ((with_reducible apply aw_seq); intro _ _)
 | (with_reducible apply aw_region)
 | ((first | (with_reducible apply awO_nil) | (with_reducible apply aw_exit) | (with_reducible apply aw_skip) | (with_reducible apply aw_ret)); (try simp only [CT, ↓reduceIte, Nat.reduceEqDiff]))
 | (refine Kont.go ‹Kont _ _ _ _› _ ?_)
 | ((first | ((with_reducible apply awO_guard); (· rfl); (· rfl); (· exact sv)) | ((with_reducible apply aw_cond); (· exact sv))); all_goals (intro hg; (try simp only [Bool.not_true, Bool.not_false]); (try simp only [decide_eq_true_eq, decide_eq_false_iff_not, Bool.not_true, Bool.not_false, Bool.not_eq_true', Bool.not_eq_false', Bool.not_not, beq_eq_false_iff_ne, ne_eq, beq_iff_eq, decide_eq_decide] at hg); try (exfalso; omega)))
 | ((with_reducible apply retQ_mk); (· (first | exact .inr rfl | exact .inl rfl)); (· exact sv); (· exact sv); rotate_left; (· rfl)))
      all_goals (rw [e, ← ed, show n + 1 - n = 1 from by omega]; done)
    · have hk : 0 < k := by
        rcases Nat.eq_zero_or_pos k with hk | hk
        · subst hk; simp at h; omega
        · exact hk
      have c1 := digits_ab k (n / 10) hk (by omega) (by rw [Nat.pow_succ] at h; omega)
      have e : dcL (k + 1) n = dcL k (n / 10) ++ [UInt8.ofNat (48 + n % 10)] := by rw [dcL, if_neg h10]
      have hm : n % 10 < 10 := Nat.mod_lt _ (by decide)
      have ed := dig1 (n % 10) hm
      have hdl := (dcL_ok k (n / 10) (by rw [Nat.pow_succ] at h; omega)).2.2.1
      refine Fn_of_aw (keep := []) Tryd.func11 rfl rfl (by simp [Tryd.ntmps11]) ?_
      simp only [num_cons, num_nil, Tryd.ntmps11, Tryd.results11]
      repeat' (first
 | ((with_reducible apply awO_ev); (· rfl); (· exact sv))
 | ((with_reducible apply aw_seq); intro _ _)
 | (with_reducible apply aw_region)
 | ((first | (with_reducible apply awO_nil) | (with_reducible apply aw_exit) | (with_reducible apply aw_skip) | (with_reducible apply aw_ret)); (try simp only [CT, ↓reduceIte, Nat.reduceEqDiff]))
 | (refine Kont.go ‹Kont _ _ _ _› _ ?_)
 | ((with_reducible apply aw_draw); (· decide +kernel); (simp only [List.size_toArray, List.length_cons, List.length_nil, Nat.reduceAdd]))
 | ((with_reducible apply awY_done); (· decide +kernel); (try simp only [CT, ↓reduceIte, Nat.reduceEqDiff]))
 | ((with_reducible apply awY_q); (· exact sQ); (· exact np); (· exact svg); (· rfl); (· exact sv))
 | ((with_reducible apply awI_c); (· exact svg); (· rfl); (· rfl); (· exact sv); (· (first | exact c1)); (· rfl); (· rfl); (· rfl); (· exact nd); simp only [put_some])
 | ((first | ((with_reducible apply awO_guard); (· rfl); (· rfl); (· exact sv)) | ((with_reducible apply aw_cond); (· exact sv))); all_goals (intro hg; (try simp only [Bool.not_true, Bool.not_false]); (try simp only [decide_eq_true_eq, decide_eq_false_iff_not, Bool.not_true, Bool.not_false, Bool.not_eq_true', Bool.not_eq_false', Bool.not_not, beq_eq_false_iff_ne, ne_eq, beq_iff_eq, decide_eq_decide] at hg); try (exfalso; omega)))
 | ((with_reducible apply retQ_mk); (· (first | exact .inr rfl | exact .inl rfl)); (· exact sv); (· exact sv); rotate_left; (· rfl))
 | ((with_reducible apply awY_p); (· exact sH); (first | ((with_reducible apply awP_1); (· decide +kernel)) | ((with_reducible apply awP_2); (· exact sP)))))
      all_goals (rw [e, ← ed, show n % 10 + 1 - n % 10 = 1 from by omega]; done)
theorem take_ne {W : List (List UInt8)} {i : Nat} (h : i < W.length) (h0 : 0 < i) : W.take i ≠ [] := by
  intro e
  have := congrArg List.length e
  simp only [List.length_take, List.length_nil] at this
  omega
theorem jn_all {W : List (List UInt8)} {i : Nat} (h : i < W.length) : jnB (W.take (i + 1)) = if i = 0 then W[i] else jnB (W.take i) ++ [32] ++ W[i] := by
  rw [List.take_succ_eq_append_getElem h, jnB_snoc]
  by_cases h0 : i = 0
  · subst h0; simp
  · rw [if_neg (take_ne h (by omega)), if_neg h0]; simp
theorem jn_rest {W : List (List UInt8)} {i : Nat} (h : i < W.length) : jnB ((W.take (i + 1)).drop 1) = if i = 0 then [] else if i = 1 then W[i] else jnB ((W.take i).drop 1) ++ [32] ++ W[i] := by
  rw [List.take_succ_eq_append_getElem h]
  by_cases h0 : i = 0
  · subst h0; simp [jnB]
  rw [if_neg h0, List.drop_append_of_le_length (by simp only [List.length_take]; omega), jnB_snoc]
  by_cases h1 : i = 1
  · subst h1
    rw [if_pos rfl, if_pos (List.drop_eq_nil_of_le (by simp only [List.length_take]; omega))]
  · rw [if_neg h1, if_neg (by intro e; have := congrArg List.length e; simp only [List.length_drop, List.length_take, List.length_nil] at this; omega)]
    simp
theorem jn_take_le (W : List (List UInt8)) (i : Nat) : (jnB (W.take i)).length ≤ totW W ∧ (jnB ((W.take i).drop 1)).length ≤ totW W := by
  have h1 := totW_sub (List.take_sublist i W)
  have h2 := totW_sub (List.drop_sublist 1 (W.take i))
  have h3 := jnB_tot (W.take i)
  have h4 := jnB_tot ((W.take i).drop 1)
  omega
theorem bangEach_ab (F : Int) (L : List (List UInt8)) (hL : L.length ≤ 9000000000000000) (hl : ∀ l ∈ L, l.length ≤ 9000000000000000) : Ab Tryd.prog 5 [hsA F L] (ab true) := by
  have c1 := ok_ab F L hL hl
  cases ho : okH F L with
  | false =>
    rw [ho] at c1
    refine Fn_of_aw (keep := []) Tryd.func5 rfl rfl (by simp [Tryd.ntmps5]) ?_
    simp only [num_cons, num_nil, Tryd.ntmps5, Tryd.results5]
    repeat' (first
 | ((with_reducible apply awO_ev); (· rfl); (· exact sv))
 | ((with_reducible apply aw_seq); intro _ _)
 | (with_reducible apply aw_region)
 | ((first | (with_reducible apply awO_nil) | (with_reducible apply aw_exit) | (with_reducible apply aw_skip) | (with_reducible apply aw_ret)); (try simp only [CT, ↓reduceIte, Nat.reduceEqDiff]))
 | ((with_reducible apply awO_n); (· rfl); (· rfl); (· decide); (· exact sv); (· rfl); (· rfl); (· decide))
 | ((with_reducible apply aw_cond_true); (· exact sv))
 | (refine Kont.go ‹Kont _ _ _ _› _ ?_)
 | ((with_reducible apply awO_c); (· rfl); (· rfl); (· exact sv); (· (first | exact c1 | with_reducible exact awake4_ab)); (· rfl); (· rfl); (· rfl); (· decide))
 | ((with_reducible apply retQ_mk); (· (first | exact .inr rfl | exact .inl rfl)); (· exact sv); (· exact sv); rotate_left; (· rfl)))
    all_goals rfl
  | true =>
    rw [ho] at c1
    obtain ⟨o1, o2, o3⟩ := okH_ok ho
    by_cases h0 : L.length = 0
    · skip
      refine Fn_of_aw (keep := []) Tryd.func5 rfl rfl (by simp [Tryd.ntmps5]) ?_
      simp only [num_cons, num_nil, Tryd.ntmps5, Tryd.results5]
      repeat' (first
 | ((with_reducible apply awO_ev); (· rfl); (· exact sv))
 | ((with_reducible apply aw_seq); intro _ _)
 | (with_reducible apply aw_region)
 | ((first | (with_reducible apply awO_nil) | (with_reducible apply aw_exit) | (with_reducible apply aw_skip) | (with_reducible apply aw_ret)); (try simp only [CT, ↓reduceIte, Nat.reduceEqDiff]))
 | ((with_reducible apply awO_y); (· rfl); (· rfl); (· decide); (· exact sv); (· exact sv))
 | ((with_reducible apply awO_n); (· rfl); (· rfl); (· decide); (· exact sv); (· rfl); (· rfl); (· decide))
 | ((with_reducible apply aw_cond_true); (· exact sv))
 | (refine Kont.go ‹Kont _ _ _ _› _ ?_)
 | ((with_reducible apply awO_c); (· rfl); (· rfl); (· exact sv); (· (first | exact c1 | with_reducible exact awake4_ab)); (· rfl); (· rfl); (· rfl); (· decide))
 | ((first | ((with_reducible apply awO_guard); (· rfl); (· rfl); (· exact sv)) | ((with_reducible apply aw_cond); (· exact sv))); all_goals (intro hg; (try simp only [Bool.not_true, Bool.not_false]); (try simp only [decide_eq_true_eq, decide_eq_false_iff_not, Bool.not_true, Bool.not_false, Bool.not_eq_true', Bool.not_eq_false', Bool.not_not, beq_eq_false_iff_ne, ne_eq, beq_iff_eq, decide_eq_decide] at hg); try (exfalso; omega)))
 | ((with_reducible apply retQ_mk); (· (first | exact .inr rfl | exact .inl rfl)); (· exact sv); (· exact sv); rotate_left; (· rfl)))
      all_goals rfl
    have hlt : L.length - 1 < L.length := by omega
    have hla : L.getLast? = some (L[L.length - 1]) := by rw [List.getLast?_eq_getElem?, List.getElem?_eq_getElem hlt]
    by_cases h3 : 300 < L[L.length - 1].length
    · skip
      refine Fn_of_aw (keep := []) Tryd.func5 rfl rfl (by simp [Tryd.ntmps5]) ?_
      simp only [num_cons, num_nil, Tryd.ntmps5, Tryd.results5]
      repeat' (first
 | ((with_reducible apply awO_ev); (· rfl); (· exact sv))
 | ((with_reducible apply aw_seq); intro _ _)
 | (with_reducible apply aw_region)
 | ((first | (with_reducible apply awO_nil) | (with_reducible apply aw_exit) | (with_reducible apply aw_skip) | (with_reducible apply aw_ret)); (try simp only [CT, ↓reduceIte, Nat.reduceEqDiff]))
 | ((with_reducible apply awO_y); (· rfl); (· rfl); (· decide); (· exact sv); (· exact sv))
 | (refine Kont.go ‹Kont _ _ _ _› _ ?_)
 | ((with_reducible apply awO_c); (· rfl); (· rfl); (· exact sv); (· (first | exact c1 | with_reducible exact awake4_ab)); (· rfl); (· rfl); (· rfl); (· decide))
 | ((first | ((with_reducible apply awO_guard); (· rfl); (· rfl); (· exact sv)) | ((with_reducible apply aw_cond); (· exact sv))); all_goals (intro hg; (try simp only [Bool.not_true, Bool.not_false]); (try simp only [decide_eq_true_eq, decide_eq_false_iff_not, Bool.not_true, Bool.not_false, Bool.not_eq_true', Bool.not_eq_false', Bool.not_not, beq_eq_false_iff_ne, ne_eq, beq_iff_eq, decide_eq_decide] at hg); try (exfalso; omega)))
 | ((with_reducible apply retQ_mk); (· (first | exact .inr rfl | exact .inl rfl)); (· exact sv); (· exact sv); rotate_left; (· rfl)))
      all_goals rfl
    have c2 := words_ab (L[L.length - 1]) (by omega)
    have hnum := words_ok.num (L[L.length - 1])
    have hlen := words_ok.len (L[L.length - 1])
    have htot := words_tot (L[L.length - 1])
    have x1 := fun k n hk hnk hn => expF_nth (k := k) (n := n) words_ok (F := F) o3 hla hk hnk hn (fun x hx => by have := hlen x hx; omega)
    have x2 := fun hn hb => expF_all words_ok (F := F) o3 hla hb hn
    have x3 := fun hn hb => expF_star words_ok (F := F) o3 hla hb hn
    generalize hW : wordsF (L[L.length - 1]) = W at *
    have c3 : ∀ i (hi : i < W.length), Ab Tryd.prog 9 [hsA F L, az ([33, 33, 58] ++ dcL 4 i)] (.tp [az W[i], ab false, ai 0]) := fun i hi => by
      have hd := (dcL_ok 4 i (by omega)).2.2.1
      have := expand_ab F L ([33, 33, 58] ++ dcL 4 i) (by omega) (by omega) o3 (by simp; omega)
      rw [show [33, 33, 58] ++ dcL 4 i = 33 :: 33 :: 58 :: dcL 4 i from rfl, x1 4 i (by omega) (by omega) (by omega), dif_pos hi] at this
      exact this
    have c4 : Ab Tryd.prog 9 [hsA F L, az ([33, 33, 58] ++ dcL 4 W.length)] (.tp [az [], ab false, ai 8]) := by
      have hd := (dcL_ok 4 W.length (by omega)).2.2.1
      have := expand_ab F L ([33, 33, 58] ++ dcL 4 W.length) (by omega) (by omega) o3 (by simp; omega)
      rw [show [33, 33, 58] ++ dcL 4 W.length = 33 :: 33 :: 58 :: dcL 4 W.length from rfl, x1 4 W.length (by omega) (by omega) (by omega), dif_neg (by omega)] at this
      exact this
    have hdl : ∀ i : Nat, i ≤ 302 → (dcL 4 i).length ≤ 4 := fun i hi => (dcL_ok 4 i (by omega)).2.2.1
    have cd : ∀ i : Nat, i ≤ 302 → Ab Tryd.prog 11 [ai i] (az (dcL 4 i)) := fun i hi => digits_ab 4 i (by decide) (by decide) (by omega)
    refine Fn_of_aw (keep := []) Tryd.func5 rfl rfl (by simp [Tryd.ntmps5]) ?_
    simp only [num_cons, num_nil, Tryd.ntmps5, Tryd.results5]
    repeat' (first
 | ((with_reducible apply awO_ev); (· rfl); (· exact sv))
 | ((with_reducible apply aw_seq); intro _ _)
 | (with_reducible apply aw_region)
 | (with_reducible apply aw_block)
 | ((first | (with_reducible apply awO_nil) | (with_reducible apply aw_exit) | (with_reducible apply aw_skip) | (with_reducible apply aw_ret)); (try simp only [CT, ↓reduceIte, Nat.reduceEqDiff]))
 | ((with_reducible apply awO_y); (· rfl); (· rfl); (· decide); (· exact sv); (· exact sv))
 | (refine Kont.go ‹Kont _ _ _ _› _ ?_)
 | ((with_reducible apply awO_c); (· rfl); (· rfl); (· exact sv); (· (first | exact c1 | exact c2)); (· rfl); (· rfl); (· rfl); (· decide))
 | ((first | ((with_reducible apply awO_guard); (· rfl); (· rfl); (· exact sv)) | ((with_reducible apply aw_cond); (· exact sv))); all_goals (intro hg; (try simp only [Bool.not_true, Bool.not_false]); (try simp only [decide_eq_true_eq, decide_eq_false_iff_not, Bool.not_true, Bool.not_false, Bool.not_eq_true', Bool.not_eq_false', Bool.not_not, beq_eq_false_iff_ne, ne_eq, beq_iff_eq, decide_eq_decide] at hg); try (exfalso; omega))))
    refine aw_loopF (fun x : Nat × List UInt8 × List UInt8 => [(7, ai (x.1 : Nat)), (5, az x.2.1), (6, az x.2.2)]) (fun _ => [(1, [ai F, .rd L.length (L.map az)])]) (fun x => x.1 ≤ W.length ∧ x.2.1 = jnB (W.take x.1) ∧ x.2.2 = jnB ((W.take x.1).drop 1)) (fun x => W.length - x.1) (0, [], []) ⟨by omega, rfl, rfl⟩ ?_ ?_ ?_
    · exact ⟨rfl, rfl, rfl, trivial⟩
    · exact ⟨rfl, trivial⟩
    rintro ⟨i, A, R⟩ ⟨hi, hA, hR⟩
    simp only at hi hA hR
    have hjl := jn_take_le W i
    rw [← hA, ← hR] at hjl
    (simp only [LP, List.append_assoc, List.nil_append, List.cons_append, List.append_nil, List.contains_cons, List.contains_nil, Nat.reduceBEq, Bool.or_false, Bool.or_true, Bool.true_or, Bool.false_or, ↓reduceIte, Bool.false_eq_true])
    by_cases hil : i < W.length
    · have e1 := jn_all hil
      have e2 := jn_rest hil
      rw [← hA] at e1
      rw [← hR] at e2
      have c3 := c3 i hil
      have cd := cd i (by omega)
      have hdl := hdl i (by omega)
      have hwl := hlen _ (List.getElem_mem hil)
      by_cases k0 : i = 0
      · subst k0
        rw [if_pos rfl] at e1 e2
        have hA0 : A = [] := by rw [hA]; rfl
        have hR0 : R = [] := by rw [hR]; rfl
        subst hA0; subst hR0
        clear x1 x2 x3
        repeat' (first
 | ((with_reducible apply awO_ev); (· rfl); (· exact sv))
 | ((with_reducible apply aw_seq); intro _ _)
 | (with_reducible apply aw_region)
 | (with_reducible apply aw_block)
 | ((first | (with_reducible apply awO_nil) | (with_reducible apply aw_exit) | (with_reducible apply aw_skip) | (with_reducible apply aw_ret)); (try simp only [CT, ↓reduceIte, Nat.reduceEqDiff]))
 | ((with_reducible apply awO_y); (· rfl); (· rfl); (· decide); (· exact sv); (· exact sv))
 | ((with_reducible apply aw_cond_false); (· exact sv))
 | (refine Kont.go ‹Kont _ _ _ _› _ ?_)
 | ((with_reducible apply aw_draw); (· decide +kernel); (simp only [List.size_toArray, List.length_cons, List.length_nil, Nat.reduceAdd]))
 | ((with_reducible apply awY_done); (· decide +kernel); (try simp only [CT, ↓reduceIte, Nat.reduceEqDiff]))
 | ((with_reducible apply awY_q); (· exact sQ); (· exact np); (· exact svg); (· rfl); (· exact sv))
 | ((with_reducible apply awI_c); (· exact svg); (· rfl); (· rfl); (· exact sv); (· (first | exact cd | exact c3 | with_reducible exact awake4_ab)); (· rfl); (· rfl); (· rfl); (· exact nd); simp only [put_some])
 | ((first | ((with_reducible apply awO_guard); (· rfl); (· rfl); (· exact sv)) | ((with_reducible apply aw_cond); (· exact sv))); all_goals (intro hg; (try simp only [Bool.not_true, Bool.not_false]); (try simp only [decide_eq_true_eq, decide_eq_false_iff_not, Bool.not_true, Bool.not_false, Bool.not_eq_true', Bool.not_eq_false', Bool.not_not, beq_eq_false_iff_ne, ne_eq, beq_iff_eq, decide_eq_decide] at hg); try (exfalso; omega)))
 | ((with_reducible apply awY_p); (· exact sH); (first | ((with_reducible apply awP_1); (· decide +kernel)) | ((with_reducible apply awP_2); (· exact sP)))))
        all_goals first | (exfalso; exact hg rfl) | (refine LE_mk (1, W[0], []) ⟨hil, e1.symm, e2.symm⟩ (by simp only; omega) sN sN ⟨rfl, trivial⟩) | skip
      rw [if_neg k0] at e1 e2
      by_cases k1 : i = 1
      · rw [if_pos k1] at e2
        clear x1 x2 x3
        repeat' (first
 | ((with_reducible apply awO_ev); (· rfl); (· exact sv))
 | ((with_reducible apply aw_seq); intro _ _)
 | (with_reducible apply aw_region)
 | (with_reducible apply aw_block)
 | ((first | (with_reducible apply awO_nil) | (with_reducible apply aw_exit) | (with_reducible apply aw_skip) | (with_reducible apply aw_ret)); (try simp only [CT, ↓reduceIte, Nat.reduceEqDiff]))
 | ((with_reducible apply awO_y); (· rfl); (· rfl); (· decide); (· exact sv); (· exact sv))
 | ((with_reducible apply aw_cond_false); (· exact sv))
 | (refine Kont.go ‹Kont _ _ _ _› _ ?_)
 | ((with_reducible apply aw_draw); (· decide +kernel); (simp only [List.size_toArray, List.length_cons, List.length_nil, Nat.reduceAdd]))
 | ((with_reducible apply awY_done); (· decide +kernel); (try simp only [CT, ↓reduceIte, Nat.reduceEqDiff]))
 | ((with_reducible apply awY_q); (· exact sQ); (· exact np); (· exact svg); (· rfl); (· exact sv))
 | ((with_reducible apply awI_c); (· exact svg); (· rfl); (· rfl); (· exact sv); (· (first | exact cd | exact c3 | with_reducible exact awake4_ab)); (· rfl); (· rfl); (· rfl); (· exact nd); simp only [put_some])
 | ((first | ((with_reducible apply awO_guard); (· rfl); (· rfl); (· exact sv)) | ((with_reducible apply aw_cond); (· exact sv))); all_goals (intro hg; (try simp only [Bool.not_true, Bool.not_false]); (try simp only [decide_eq_true_eq, decide_eq_false_iff_not, Bool.not_true, Bool.not_false, Bool.not_eq_true', Bool.not_eq_false', Bool.not_not, beq_eq_false_iff_ne, ne_eq, beq_iff_eq, decide_eq_decide] at hg); try (exfalso; omega)))
 | ((with_reducible apply awY_p); (· exact sH); (first | ((with_reducible apply awP_1); (· decide +kernel)) | ((with_reducible apply awP_2); (· exact sP)))))
        all_goals first | (exfalso; exact hg rfl) | (refine LE_mk (i + 1, A ++ [32] ++ W[i], W[i]) ⟨hil, e1.symm, e2.symm⟩ (by simp only; omega) sN sN ⟨rfl, trivial⟩) | skip
      · rw [if_neg k1] at e2
        clear x1 x2 x3
        repeat' (first
 | ((with_reducible apply awO_ev); (· rfl); (· exact sv))
 | ((with_reducible apply aw_seq); intro _ _)
 | (with_reducible apply aw_region)
 | (with_reducible apply aw_block)
 | ((first | (with_reducible apply awO_nil) | (with_reducible apply aw_exit) | (with_reducible apply aw_skip) | (with_reducible apply aw_ret)); (try simp only [CT, ↓reduceIte, Nat.reduceEqDiff]))
 | ((with_reducible apply awO_y); (· rfl); (· rfl); (· decide); (· exact sv); (· exact sv))
 | ((with_reducible apply aw_cond_false); (· exact sv))
 | (refine Kont.go ‹Kont _ _ _ _› _ ?_)
 | ((with_reducible apply aw_draw); (· decide +kernel); (simp only [List.size_toArray, List.length_cons, List.length_nil, Nat.reduceAdd]))
 | ((with_reducible apply awY_done); (· decide +kernel); (try simp only [CT, ↓reduceIte, Nat.reduceEqDiff]))
 | ((with_reducible apply awY_q); (· exact sQ); (· exact np); (· exact svg); (· rfl); (· exact sv))
 | ((with_reducible apply awI_c); (· exact svg); (· rfl); (· rfl); (· exact sv); (· (first | exact cd | exact c3 | with_reducible exact awake4_ab)); (· rfl); (· rfl); (· rfl); (· exact nd); simp only [put_some])
 | ((first | ((with_reducible apply awO_guard); (· rfl); (· rfl); (· exact sv)) | ((with_reducible apply aw_cond); (· exact sv))); all_goals (intro hg; (try simp only [Bool.not_true, Bool.not_false]); (try simp only [decide_eq_true_eq, decide_eq_false_iff_not, Bool.not_true, Bool.not_false, Bool.not_eq_true', Bool.not_eq_false', Bool.not_not, beq_eq_false_iff_ne, ne_eq, beq_iff_eq, decide_eq_decide] at hg); try (exfalso; omega)))
 | ((with_reducible apply awY_p); (· exact sH); (first | ((with_reducible apply awP_1); (· decide +kernel)) | ((with_reducible apply awP_2); (· exact sP)))))
        all_goals first | (exfalso; exact hg rfl) | (refine LE_mk (i + 1, A ++ [32] ++ W[i], R ++ [32] ++ W[i]) ⟨hil, e1.symm, e2.symm⟩ (by simp only; omega) sN sN ⟨rfl, trivial⟩) | skip
    · have eA : A = jnB W := by rw [hA, List.take_of_length_le (by omega)]
      have eR : R = jnB (W.drop 1) := by rw [hR, List.take_of_length_le (by omega)]
      by_cases hW0 : W.length = 0
      · clear x1 x2 x3
        repeat' (first
 | ((with_reducible apply awO_ev); (· rfl); (· exact sv))
 | ((with_reducible apply aw_seq); intro _ _)
 | (with_reducible apply aw_region)
 | ((first | (with_reducible apply awO_nil) | (with_reducible apply aw_exit) | (with_reducible apply aw_skip) | (with_reducible apply aw_ret)); (try simp only [CT, ↓reduceIte, Nat.reduceEqDiff]))
 | (refine Kont.go ‹Kont _ _ _ _› _ ?_)
 | ((with_reducible apply awO_c); (· rfl); (· rfl); (· exact sv); (· (first | with_reducible exact awake4_ab)); (· rfl); (· rfl); (· rfl); (· decide))
 | ((first | ((with_reducible apply awO_guard); (· rfl); (· rfl); (· exact sv)) | ((with_reducible apply aw_cond); (· exact sv))); all_goals (intro hg; (try simp only [Bool.not_true, Bool.not_false]); (try simp only [decide_eq_true_eq, decide_eq_false_iff_not, Bool.not_true, Bool.not_false, Bool.not_eq_true', Bool.not_eq_false', Bool.not_not, beq_eq_false_iff_ne, ne_eq, beq_iff_eq, decide_eq_decide] at hg); try (exfalso; omega)))
 | ((with_reducible apply retQ_mk); (· (first | exact .inr rfl | exact .inl rfl)); (· exact sv); (· exact sv); rotate_left; (· rfl)))
        all_goals rfl
      · have cA : Ab Tryd.prog 9 [hsA F L, az [33, 33, 58, 48, 42]] (.tp [az A, ab false, ai 0]) := by
          have := expand_ab F L [33, 33, 58, 48, 42] (by omega) (by omega) o3 (by decide)
          rw [x2 (by omega) (by rw [← eA]; omega), ← eA] at this
          exact this
        have cR : Ab Tryd.prog 9 [hsA F L, az [33, 42]] (.tp [az R, ab false, ai 0]) := by
          have := expand_ab F L [33, 42] (by omega) (by omega) o3 (by decide)
          rw [x3 (by omega) (by rw [← eR]; omega), ← eR] at this
          exact this
        have cd := cd W.length (by omega)
        have hdl := hdl W.length (by omega)
        clear x1 x2 x3 c3
        repeat' (first
 | ((with_reducible apply awO_ev); (· rfl); (· exact sv))
 | ((with_reducible apply aw_seq); intro _ _)
 | (with_reducible apply aw_region)
 | ((first | (with_reducible apply awO_nil) | (with_reducible apply aw_exit) | (with_reducible apply aw_skip) | (with_reducible apply aw_ret)); (try simp only [CT, ↓reduceIte, Nat.reduceEqDiff]))
 | ((with_reducible apply awO_y); (· rfl); (· rfl); (· decide); (· exact sv); (· exact sv))
 | ((with_reducible apply awO_un); (· rfl); (· decide); (· exact sv))
 | (refine Kont.go ‹Kont _ _ _ _› _ ?_)
 | ((with_reducible apply awO_c); (· rfl); (· rfl); (· exact sv); (· (first | exact cA | exact cR | exact cd | exact c4 | with_reducible exact awake4_ab)); (· rfl); (· rfl); (· rfl); (· decide))
 | ((with_reducible apply aw_draw); (· decide +kernel); (simp only [List.size_toArray, List.length_cons, List.length_nil, Nat.reduceAdd]))
 | ((with_reducible apply awY_done); (· decide +kernel); (try simp only [CT, ↓reduceIte, Nat.reduceEqDiff]))
 | ((with_reducible apply awY_q); (· exact sQ); (· exact np); (· exact svg); (· rfl); (· exact sv))
 | ((with_reducible apply awI_c); (· exact svg); (· rfl); (· rfl); (· exact sv); (· (first | exact cA | exact cR | exact cd | exact c4 | with_reducible exact awake4_ab)); (· rfl); (· rfl); (· rfl); (· exact nd); simp only [put_some])
 | ((first | ((with_reducible apply awO_guard); (· rfl); (· rfl); (· exact sv)) | ((with_reducible apply aw_cond); (· exact sv))); all_goals (intro hg; (try simp only [Bool.not_true, Bool.not_false]); (try simp only [decide_eq_true_eq, decide_eq_false_iff_not, Bool.not_true, Bool.not_false, Bool.not_eq_true', Bool.not_eq_false', Bool.not_not, beq_eq_false_iff_ne, ne_eq, beq_iff_eq, decide_eq_decide] at hg); try (exfalso; omega)))
 | ((with_reducible apply retQ_mk); (· (first | exact .inr rfl | exact .inl rfl)); (· exact sv); (· exact sv); rotate_left; (· rfl))
 | ((with_reducible apply awY_p); (· exact sH); (first | ((with_reducible apply awP_1); (· decide +kernel)) | ((with_reducible apply awP_2); (· exact sP)))))
        all_goals first | rfl | (exfalso; exact hg rfl) | skip
end Go.Proofs.YtgbhjlkenfmadaaDoor
