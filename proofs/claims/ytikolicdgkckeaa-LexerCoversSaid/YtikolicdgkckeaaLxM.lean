/- The law LexerCovers, on the abstract machine. -/
import Derived.Test.YtikolicdgkckeaaLxX
import Derived.Test.YtikolicdgkckeaaMachV
namespace Go.Proofs.Ytikolicdgkckeaa
open Go.RowKit
set_option linter.unusedVariables false
set_option linter.unusedSimpArgs false
set_option maxRecDepth 100000
set_option maxHeartbeats 8000000
/-- What one token is. -/
theorem nxt_cov {s : List UInt8} {a : Nat} (hs : ¬ 16384 < s.length) (he : (nextF s a).2 = 0) :
    (nextF s a).1.pos = skp s a ∧ (nextF s a).1.pos ≤ (nextF s a).1.fin ∧ (nextF s a).1.fin ≤ s.length ∧
    (nextF s a).1.text = (s.drop (nextF s a).1.pos).take ((nextF s a).1.fin - (nextF s a).1.pos) ∧
    ((nextF s a).1.kind = 5 → (nextF s a).1.fin = s.length ∧ (nextF s a).1.pos = s.length) ∧
    (¬ (nextF s a).1.kind = 5 → (nextF s a).1.pos < (nextF s a).1.fin) := by
  have hpos := fun h3 => nxt_pos (s := s) (z := a) he h3
  unfold nextF at he hpos ⊢
  rw [if_neg hs] at he hpos ⊢
  have hle := skp_le s a
  generalize skp s a = b at *
  rcases Nat.lt_or_ge b s.length with hal | hal
  · by_cases h10 : s[b].toNat = 10
    · rw [nxt_nl hal h10]
      refine ⟨rfl, by simp, by simp only; omega, ?_, by simp, by simp⟩
      show [s[b]] = (s.drop b).take (b + 1 - b)
      rw [dropc hal, Nat.add_sub_cancel_left]; rfl
    rcases hopn : opN (s.drop b) with _ | k
    · rcases hw : wrd (s.drop b) 0 with ⟨w, e⟩
      by_cases h0 : e = 0
      · subst h0
        rw [nxt_word hal h10 hopn hw] at he hpos ⊢
        have hk : ¬ (if redB (List.drop (b + w) s) = true ∧ ((List.drop b s).take w).all digitB = true then (4 : Int) else 1) = 5 := by split <;> decide
        have h' := hpos hk
        simp only at h'
        refine ⟨rfl, by simp only; omega, h'.2, ?_, fun h => absurd h hk, fun _ => h'.1⟩
        show _ = (s.drop b).take (b + w - b)
        rw [Nat.add_sub_cancel_left]
      · rw [nxt_err hal h10 hopn hw h0] at he; exact absurd he h0
    · rw [nxt_op hal h10 hopn] at he hpos ⊢
      have h' := hpos (by simp)
      simp only at h'
      refine ⟨rfl, by simp only; omega, h'.2, ?_, by simp, fun _ => h'.1⟩
      show _ = (s.drop b).take (b + (k + 1) - b)
      rw [Nat.add_sub_cancel_left]
  · have hb : b = s.length := by omega
    rw [nxt_end hal]
    exact ⟨rfl, Nat.le_refl _, hle, by simp, fun _ => ⟨hb, hb⟩, by simp⟩
/-- One step of the tokens. -/
theorem allT_cons {s : List UInt8} {n a : Nat} {t : Tok} {T : List Tok} (he : (allT s n a).2.2 = 0) (hT : (allT s n a).1 = t :: T) :
    ∃ m, n = m + 1 ∧ (nextF s a).2 = 0 ∧ t = (nextF s a).1 ∧ (t.kind = 5 → T = []) ∧ (¬ t.kind = 5 → (allT s m t.fin).2.2 = 0 ∧ (allT s m t.fin).1 = T) := by
  cases n with
  | zero => cases hT
  | succ m =>
    rw [allT] at he hT
    by_cases h0 : (nextF s a).2 = 0
    · rw [if_neg (by simpa using h0)] at he hT
      by_cases h5 : (nextF s a).1.kind = 5
      · rw [if_pos h5] at hT
        injection hT with h1 h2
        exact ⟨m, rfl, h0, h1.symm, fun _ => h2.symm, fun h => absurd (h1 ▸ h5) h⟩
      · rw [if_neg h5] at he hT
        by_cases hr : (allT s m (nextF s a).1.fin).2.2 = 0
        · rw [if_neg (by simpa using hr)] at hT
          injection hT with h1 h2
          subst h1
          exact ⟨m, rfl, h0, rfl, fun h => absurd h h5, fun _ => ⟨hr, h2⟩⟩
        · rw [if_pos hr] at hT; cases hT
    · rw [if_pos h0] at hT; cases hT
theorem allT_ne {s : List UInt8} (hs : ¬ 16384 < s.length) {n a : Nat} (hn : 0 < n) (he : (allT s n a).2.2 = 0) (hf : s.length + 2 ≤ n + a ∨ 0 < n) : (allT s n a).1 ≠ [] := by
  cases n with
  | zero => omega
  | succ m =>
    rw [allT] at he ⊢
    by_cases h0 : (nextF s a).2 = 0
    · rw [if_neg (by simpa using h0)] at he ⊢
      by_cases h5 : (nextF s a).1.kind = 5
      · rw [if_pos h5]; simp
      · rw [if_neg h5] at he ⊢
        by_cases hr : (allT s m (nextF s a).1.fin).2.2 = 0
        · rw [if_neg (by simpa using hr)]; simp
        · rw [if_pos hr] at he; exact absurd he hr
    · rw [if_pos h0] at he; exact absurd he h0
theorem tkNil {s : List UInt8} {p f : Nat} (h : f ≤ s.length) : (List.take (f - p) (List.drop p s) = []) = (f ≤ p) := by
  rw [List.take_eq_nil_iff, List.drop_eq_nil_iff]
  apply propext
  constructor
  · rintro (h' | h') <;> omega
  · intro h'; exact .inl (by omega)
attribute [go_sem] tkNil
/-- The tokens, each with the bytes of the source as its text. -/
theorem toksA_src {s : List UInt8} {L : List Tok} (h : ∀ t ∈ L, t.text = (s.drop t.pos).take (t.fin - t.pos)) : toksA L = .rd L.length (L.flatMap fun t => [ai t.kind, ai (t.pos : Nat), ai (t.fin : Nat), az ((s.drop t.pos).take (t.fin - t.pos))]) := by
  unfold toksA
  congr 1
  induction L with
  | nil => rfl
  | cons t T ih =>
    simp only [List.flatMap_cons]
    rw [ih fun t' h' => h t' (List.mem_cons_of_mem _ h'), h t List.mem_cons_self]
theorem allT_src {s : List UInt8} (hs : ¬ 16384 < s.length) : ∀ n a, (allT s n a).2.2 = 0 → ∀ t ∈ (allT s n a).1, t.text = (s.drop t.pos).take (t.fin - t.pos) := by
  intro n
  induction n with
  | zero => intro a h t ht; cases ht
  | succ n ih =>
    intro a h t ht
    rcases hT : (allT s (n + 1) a).1 with _ | ⟨u, T⟩
    · rw [hT] at ht; cases ht
    · obtain ⟨m, hm, h0, htok, hk1, hk2⟩ := allT_cons h hT
      obtain rfl : n = m := by omega
      rw [hT] at ht
      rcases List.mem_cons.1 ht with rfl | ht
      · rw [htok]; exact (nxt_cov hs h0).2.2.2.1
      · by_cases h5 : u.kind = 5
        · rw [hk1 h5] at ht; cases ht
        · obtain ⟨k1, k2⟩ := hk2 h5
          exact ih u.fin k1 t (by rw [k2]; exact ht)
theorem allT_len (s : List UInt8) : ∀ n a, (allT s n a).1.length ≤ n := by
  intro n
  induction n with
  | zero => intro a; exact Nat.le_refl _
  | succ n ih =>
    intro a
    have := ih (nextF s a).1.fin
    rw [allT]
    (repeat' split) <;> simp <;> omega
theorem covers_ab (s : List UInt8) (hs : s.length ≤ 2000) : Ab Try.prog 9 [az s] (ab true) := by
  have c0 := all_ab s (by omega)
  have hf : ∃ n, allF s = allT s n 0 ∧ s.length + 2 ≤ n ∧ n ≤ 2002 := ⟨_, rfl, Nat.le_refl _, by omega⟩
  obtain ⟨n0, hn0, hn1, hn2⟩ := hf
  by_cases he : (allF s).2.2 = 0
  · have hne := allT_ne (s := s) (by omega) (n := n0) (a := 0) (by omega) (by rw [← hn0]; exact he) (.inr (by omega))
    rw [← hn0] at hne
    have hbeg : (allT s n0 0).2.2 = 0 ∧ (allT s n0 0).1 = (allF s).1 := by rw [← hn0]; exact ⟨he, rfl⟩
    generalize hA : allF s = A at c0 he hne hbeg
    obtain ⟨L, p, e⟩ := A
    simp only at he hne hbeg
    subst he
    have hLl : L.length ≤ 2002 := by
      have := allT_len s n0 0
      rw [hbeg.2] at this
      omega
    replace c0 : Ab Try.prog 23 [az s] (.tp [toksA L, ai p, ai 0]) := c0
    have hsrc : ∀ t ∈ L, t.text = (s.drop t.pos).take (t.fin - t.pos) := by rw [← hbeg.2]; exact allT_src (by omega) n0 0 hbeg.1
    rw [toksA_src hsrc] at c0
    refine Fn_of_aw (keep := []) Try.func9 rfl rfl (by simp [Try.ntmps9]) ?_
    simp only [num_cons, num_nil, Try.ntmps9, Try.results9]
    repeat' (first
        | ((with_reducible apply awO_ev); (· rfl); (· exact sv))
        | ((with_reducible apply awO_eqnil); (· rfl); (· rfl); (· exact sv); (· exact sv); (· exact svp); (· rfl); (· (first | decide | (simp only []; omega) | omega)); intro nb hnb; simp only [put_some])
        | ((with_reducible apply awO_neqnil); (· rfl); (· rfl); (· exact sv); (· exact sv); (· exact svp); (· rfl); (· (first | decide | (simp only []; omega) | omega)); intro nb hnb; simp only [put_some])
        | ((with_reducible apply aw_seq); intro _ _)
        | ((with_reducible apply aw_region))
        | ((with_reducible apply aw_block))
        | ((with_reducible apply awO_nil); (try simp only [CT, ↓reduceIte, Nat.reduceEqDiff]))
        | ((with_reducible apply aw_exit); (try simp only [CT, ↓reduceIte, Nat.reduceEqDiff]))
        | ((with_reducible apply aw_skip); (try simp only [CT, ↓reduceIte, Nat.reduceEqDiff]))
        | ((with_reducible apply aw_ret); (try simp only [CT, ↓reduceIte, Nat.reduceEqDiff]))
        | ((with_reducible apply awO_y); (· rfl); (· rfl); (· decide); (· exact sv); (· exact sv))
        | ((with_reducible apply awO_n); (· rfl); (· rfl); (· decide); (· exact sv); (· rfl); (· rfl); (· decide))
        | ((with_reducible apply awO_u); (· rfl); (· rfl); (· exact svr); (· rfl); (· decide))
        | ((with_reducible apply aw_cond_true); (· exact sv))
        | ((with_reducible apply aw_cond_false); (· exact sv))
        | (refine Kont.go ‹Kont _ _ _ _› _ ?_)
        | ((with_reducible apply awO_un); (· rfl); (· decide); (· exact sv))
        | ((with_reducible apply awO_c); (· rfl); (· rfl); (· exact sv); (· (first | with_reducible exact c0)); (· rfl); (· rfl); (· rfl); (· decide))
        | ((with_reducible apply awO_f); (· rfl); (· rfl); (· exact sv); (· exact sv); (· (first | with_reducible exact c0)); (· rfl); (· rfl); (· decide))
        | ((with_reducible apply awO_m); (· rfl); (· rfl); (· exact sv); (· (first | with_reducible exact c0)); (· exact svq); (· exact svq); (· exact svq); (· exact svq); (· rfl); (· (first | decide | (simp only []; omega) | omega)); (with_reducible apply awO_st); (· exact svs))
        | ((with_reducible apply awO_guard); (· rfl); (· rfl); (· exact sv); all_goals (intro hg; (try simp only [Bool.not_true, Bool.not_false]); (try simp only [decide_eq_true_eq, decide_eq_false_iff_not, Bool.not_true, Bool.not_false, Bool.not_eq_true', Bool.not_eq_false', Bool.not_not, beq_eq_false_iff_ne, ne_eq, beq_iff_eq, decide_eq_decide] at hg); try (exfalso; omega)))
        | ((with_reducible apply aw_cond); (· exact sv); all_goals (intro hg; (try simp only [decide_eq_true_eq, decide_eq_false_iff_not, Bool.not_true, Bool.not_false, Bool.not_eq_true', Bool.not_eq_false', Bool.not_not, beq_eq_false_iff_ne, ne_eq, beq_iff_eq, decide_eq_decide] at hg); try (exfalso; omega)))
        | ((with_reducible apply retQ_mk); (· (first | exact .inr rfl | exact .inl rfl)); (· exact sv); (· exact sv); rotate_left; (· rfl))
        | ((with_reducible apply wk_id); (with_reducible apply retQ_mk); (· (first | exact .inr rfl | exact .inl rfl)); (· exact sv); (· exact sv); rotate_left; (· rfl))
        | ((try with_reducible apply wk_id); (with_reducible apply retQ_mk1); (· (first | exact .inr rfl | exact .inl rfl)); (· exact sv); (· exact sv); (· exact sv); (· exact sv); rotate_left; rotate_left; (· simp); (· rfl))
        | ((try with_reducible apply wk_id); (with_reducible apply retQ_mk2); (· (first | exact .inr rfl | exact .inl rfl)); (· exact sv); (· exact sv); (· exact sv); (· exact sv); (· exact sv); (· exact sv); rotate_left; rotate_left; rotate_left; (· simp); (· simp); (· rfl)))
    refine aw_loopF (fun x : Nat × Nat => [(7, ai x.1), (6, ai x.2)]) (fun _ => []) (fun x => x.1 ≤ L.length ∧ x.2 ≤ s.length ∧ (x.1 < L.length → ∃ n, s.length + 2 ≤ n + x.2 ∧ (allT s n x.2).2.2 = 0 ∧ (allT s n x.2).1 = L.drop x.1) ∧ (x.1 = L.length → x.2 = s.length)) (fun x => L.length - x.1) (0, 0)
      ⟨by simp, by simp, fun _ => ⟨n0, by simp only; omega, hbeg.1, hbeg.2⟩, fun h => absurd (List.eq_nil_of_length_eq_zero h.symm) hne⟩ ?_ ?_ ?_
    · (simp only [LP, look_cons, look_nil, and_true, true_and, ↓reduceIte, Nat.reduceEqDiff, Option.some.injEq, AV.v.injEq, Value.int.injEq, Int.natCast_add, Int.cast_ofNat_Int])
    · (simp only [LP, look_cons, look_nil, and_true, true_and, ↓reduceIte, Nat.reduceEqDiff, Option.some.injEq, AV.v.injEq, Value.int.injEq, Int.natCast_add, Int.cast_ofNat_Int])
    rintro ⟨i, a⟩ ⟨hi, ha, hlt, hend⟩
    simp only at hi ha hlt hend
    have hL1 : 0 < L.length := List.length_pos_iff.2 hne
    (simp only [LP, List.append_assoc, List.nil_append, List.cons_append, List.append_nil, List.contains_cons, List.contains_nil, Nat.reduceBEq, Bool.or_false, Bool.or_true, Bool.true_or, Bool.false_or, ↓reduceIte, Bool.false_eq_true])
    by_cases hil : i < L.length
    · obtain ⟨n, hn, hz, hT⟩ := hlt hil
      rw [List.drop_eq_getElem_cons hil] at hT
      obtain ⟨m, rfl, h0, htok, hk1, hk2⟩ := allT_cons hz hT
      obtain ⟨v1, v2, v3, v4, v5, v6⟩ := nxt_cov (s := s) (a := a) (by omega) h0
      rw [← htok] at v1 v2 v3 v4 v5 v6
      have c1 := skip_ab s a (by omega)
      rw [← v1] at c1
      have hk3 : L[i].kind = 5 ↔ (i : Int) = L.length - 1 := by
        constructor
        · intro h
          have := hk1 h
          rw [List.drop_eq_nil_iff] at this
          omega
        · intro h
          by_cases h5 : L[i].kind = 5
          · exact h5
          · have h6 := (hk2 h5)
            have h7 := v6 h5
            have h8 : a ≤ skp s (a : Int) := by unfold skp clp; omega
            have := allT_ne (s := s) (by omega) (n := m) (a := L[i].fin) (by omega) h6.1 (.inr (by omega))
            rw [h6.2] at this
            exact absurd (List.drop_eq_nil_iff.2 (by omega)) this
      repeat' (first
          | ((with_reducible apply awO_ev); (· rfl); (· exact sv))
          | ((with_reducible apply awO_eqnil); (· rfl); (· rfl); (· exact sv); (· exact sv); (· exact svp); (· rfl); (· (first | decide | (simp only []; omega) | omega)); intro nb hnb; simp only [put_some])
          | ((with_reducible apply awO_neqnil); (· rfl); (· rfl); (· exact sv); (· exact sv); (· exact svp); (· rfl); (· (first | decide | (simp only []; omega) | omega)); intro nb hnb; simp only [put_some])
          | ((with_reducible apply aw_seq); intro _ _)
          | ((with_reducible apply aw_region))
          | ((with_reducible apply aw_block))
          | ((with_reducible apply awO_nil); (try simp only [CT, ↓reduceIte, Nat.reduceEqDiff]))
          | ((with_reducible apply aw_exit); (try simp only [CT, ↓reduceIte, Nat.reduceEqDiff]))
          | ((with_reducible apply aw_skip); (try simp only [CT, ↓reduceIte, Nat.reduceEqDiff]))
          | ((with_reducible apply aw_ret); (try simp only [CT, ↓reduceIte, Nat.reduceEqDiff]))
          | ((with_reducible apply awO_y); (· rfl); (· rfl); (· decide); (· exact sv); (· exact sv))
          | ((with_reducible apply awO_n); (· rfl); (· rfl); (· decide); (· exact sv); (· rfl); (· rfl); (· decide))
          | ((with_reducible apply awO_u); (· rfl); (· rfl); (· exact svr); (· rfl); (· decide))
          | ((with_reducible apply aw_cond_true); (· exact sv))
          | ((with_reducible apply aw_cond_false); (· exact sv))
          | (refine Kont.go ‹Kont _ _ _ _› _ ?_)
          | ((with_reducible apply awO_un); (· rfl); (· decide); (· exact sv))
          | ((with_reducible apply awO_c); (· rfl); (· rfl); (· exact sv); (· (first | with_reducible exact c1)); (· rfl); (· rfl); (· rfl); (· decide))
          | ((with_reducible apply awO_f); (· rfl); (· rfl); (· exact sv); (· exact sv); (· (first | with_reducible exact c1)); (· rfl); (· rfl); (· decide))
          | ((with_reducible apply awO_m); (· rfl); (· rfl); (· exact sv); (· (first | with_reducible exact c1)); (· exact svq); (· exact svq); (· exact svq); (· exact svq); (· rfl); (· (first | decide | (simp only []; omega) | omega)); (with_reducible apply awO_st); (· exact svs))
          | ((with_reducible apply (awY_toZ 5)); (· decide +kernel); (· rfl); (· decide); (· decide +kernel); simp only [List.drop_succ_cons, List.drop_zero])
          | ((with_reducible apply aw_drawZ); (· decide +kernel); (· decide +kernel))
          | ((with_reducible apply awZ_done); (try simp only [CT, ↓reduceIte, Nat.reduceEqDiff]))
          | ((with_reducible apply awZ_q); (· rfl); (· repeat (first | (with_reducible exact NP_ret) | (with_reducible apply NP_then) | (with_reducible apply NP_blk) | (with_reducible apply NP_wk) | (with_reducible apply NP_end))); (· rfl); (· exact sv))
          | ((with_reducible apply awZ_qy); (· rfl); (· repeat (first | (with_reducible exact NP_ret) | (with_reducible apply NP_then) | (with_reducible apply NP_blk) | (with_reducible apply NP_wk) | (with_reducible apply NP_end))); (· rfl); (· rfl); (· (first | decide | (simp only []; omega) | omega)); (· exact sv); (· exact sv))
          | ((with_reducible apply awZ_qn); (· rfl); (· repeat (first | (with_reducible exact NP_ret) | (with_reducible apply NP_then) | (with_reducible apply NP_blk) | (with_reducible apply NP_wk) | (with_reducible apply NP_end))); (· rfl); (· rfl); (· (first | decide | (simp only []; omega) | omega)); (· exact sv); (· rfl); (· rfl); (· (first | decide | (simp only []; omega) | omega)); simp only [put_some])
          | ((with_reducible apply awZ_qu); (· rfl); (· repeat (first | (with_reducible exact NP_ret) | (with_reducible apply NP_then) | (with_reducible apply NP_blk) | (with_reducible apply NP_wk) | (with_reducible apply NP_end))); (· rfl); (· rfl); (· exact svr); (· rfl); (· (first | decide | (simp only []; omega) | omega)); simp only [put_some])
          | ((with_reducible apply awZ_tn); (· decide +kernel); (· repeat (first | (with_reducible exact NP_ret) | (with_reducible apply NP_then) | (with_reducible apply NP_blk) | (with_reducible apply NP_wk) | (with_reducible apply NP_end))); (· rfl); (· rfl); (· (first | decide | (simp only []; omega) | omega)); (· exact sv); (· rfl); (· rfl); (· (first | decide | (simp only []; omega) | omega)); simp only [put_some])
          | ((with_reducible apply awZ_tu); (· decide +kernel); (· repeat (first | (with_reducible exact NP_ret) | (with_reducible apply NP_then) | (with_reducible apply NP_blk) | (with_reducible apply NP_wk) | (with_reducible apply NP_end))); (· rfl); (· rfl); (· exact svr); (· rfl); (· (first | decide | (simp only []; omega) | omega)); simp only [put_some])
          | ((with_reducible apply awZ_ev); (· decide +kernel); (· rfl); (· exact sv))
          | ((with_reducible apply awZ_c); (· decide +kernel); (· rfl); (· rfl); (· exact sv); (· (first | with_reducible exact c1)); (· rfl); (· rfl); (· rfl); (· (first | decide | (simp only []; omega) | omega)); simp only [put_some])
          | ((with_reducible apply awZ_f); (· decide +kernel); (· rfl); (· rfl); (· exact sv); (· exact sv); (· (first | with_reducible exact c1)); (· rfl); (· rfl); (· (first | decide | (simp only []; omega) | omega)); simp only [put_some])
          | ((with_reducible apply awZ_cy); (· decide +kernel); (· rfl); (· rfl); (· (first | decide | (simp only []; omega) | omega)); (· exact sv); (· rfl); (· exact sv); (· (first | with_reducible exact c1)); (· rfl); (· rfl); (· rfl); (· (first | decide | (simp only []; omega) | omega)); simp only [put_some])
          | ((with_reducible apply awZ_fy); (· decide +kernel); (· rfl); (· rfl); (· (first | decide | (simp only []; omega) | omega)); (· exact sv); (· rfl); (· exact sv); (· exact sv); (· (first | with_reducible exact c1)); (· rfl); (· rfl); (· (first | decide | (simp only []; omega) | omega)); simp only [put_some])
          | ((with_reducible apply awZ_guard); (· decide +kernel); (· rfl); (· rfl); (· exact svl); all_goals (intro hg; (try simp only [Bool.not_true, Bool.not_false]); (try simp only [decide_eq_true_eq, decide_eq_false_iff_not, Bool.not_true, Bool.not_false, Bool.not_eq_true', Bool.not_eq_false', Bool.not_not, beq_eq_false_iff_ne, ne_eq, beq_iff_eq, decide_eq_decide] at hg); try (exfalso; omega)))
          | ((with_reducible apply aw_draw); (· decide +kernel); (simp only [List.size_toArray, List.length_cons, List.length_nil, Nat.reduceAdd]))
          | ((with_reducible apply awY_done); (· decide +kernel); (try simp only [CT, ↓reduceIte, Nat.reduceEqDiff]))
          | ((with_reducible apply awY_q); (· exact sQ); (· repeat (first | (with_reducible exact NP_ret) | (with_reducible apply NP_then) | (with_reducible apply NP_blk) | (with_reducible apply NP_wk) | (with_reducible apply NP_end))); (· exact svg); (· rfl); (· exact sv))
          | ((with_reducible apply awY_qy); (· exact sQ); (· repeat (first | (with_reducible exact NP_ret) | (with_reducible apply NP_then) | (with_reducible apply NP_blk) | (with_reducible apply NP_wk) | (with_reducible apply NP_end))); (· exact svg); (· rfl); (· rfl); (· (first | decide | (simp only []; omega) | omega)); (· exact sv); (· exact sv))
          | ((with_reducible apply awY_qn); (· exact sQ); (· repeat (first | (with_reducible exact NP_ret) | (with_reducible apply NP_then) | (with_reducible apply NP_blk) | (with_reducible apply NP_wk) | (with_reducible apply NP_end))); (· exact svg); (· rfl); (· rfl); (· (first | decide | (simp only []; omega) | omega)); (· exact sv); (· rfl); (· rfl); (· (first | decide | (simp only []; omega) | omega)); simp only [put_some])
          | ((with_reducible apply awY_qu); (· exact sQ); (· repeat (first | (with_reducible exact NP_ret) | (with_reducible apply NP_then) | (with_reducible apply NP_blk) | (with_reducible apply NP_wk) | (with_reducible apply NP_end))); (· exact svg); (· rfl); (· rfl); (· exact svr); (· rfl); (· (first | decide | (simp only []; omega) | omega)); simp only [put_some])
          | ((with_reducible apply awY_tn); (· exact sT); (· repeat (first | (with_reducible exact NP_ret) | (with_reducible apply NP_then) | (with_reducible apply NP_blk) | (with_reducible apply NP_wk) | (with_reducible apply NP_end))); (· exact svg); (· rfl); (· rfl); (· (first | decide | (simp only []; omega) | omega)); (· exact sv); (· rfl); (· rfl); (· (first | decide | (simp only []; omega) | omega)); simp only [put_some])
          | ((with_reducible apply awY_tu); (· exact sT); (· repeat (first | (with_reducible exact NP_ret) | (with_reducible apply NP_then) | (with_reducible apply NP_blk) | (with_reducible apply NP_wk) | (with_reducible apply NP_end))); (· exact svg); (· rfl); (· rfl); (· exact svr); (· rfl); (· (first | decide | (simp only []; omega) | omega)); simp only [put_some])
          | ((with_reducible apply endQ_rfl))
          | ((with_reducible apply endQ_sub); (· exact sE); (· exact sN))
          | ((with_reducible apply awI_ev); (· exact svg); (· rfl); (· exact sv))
          | ((with_reducible apply awI_c); (· exact svg); (· rfl); (· rfl); (· exact sv); (· (first | with_reducible exact c1)); (· rfl); (· rfl); (· rfl); (· (first | decide | (simp only []; omega) | omega)); simp only [put_some])
          | ((with_reducible apply awI_f); (· exact svg); (· rfl); (· rfl); (· exact sv); (· exact sv); (· (first | with_reducible exact c1)); (· rfl); (· rfl); (· (first | decide | (simp only []; omega) | omega)); simp only [put_some])
          | ((with_reducible apply awI_cy); (· exact svg); (· rfl); (· rfl); (· (first | decide | (simp only []; omega) | omega)); (· exact sv); (· rfl); (· exact sv); (· (first | with_reducible exact c1)); (· rfl); (· rfl); (· rfl); (· (first | decide | (simp only []; omega) | omega)); simp only [put_some])
          | ((with_reducible apply awI_fy); (· exact svg); (· rfl); (· rfl); (· (first | decide | (simp only []; omega) | omega)); (· exact sv); (· rfl); (· exact sv); (· exact sv); (· (first | with_reducible exact c1)); (· rfl); (· rfl); (· (first | decide | (simp only []; omega) | omega)); simp only [put_some])
          | ((with_reducible apply awO_guard); (· rfl); (· rfl); (· exact sv); all_goals (intro hg; (try simp only [Bool.not_true, Bool.not_false]); (try simp only [decide_eq_true_eq, decide_eq_false_iff_not, Bool.not_true, Bool.not_false, Bool.not_eq_true', Bool.not_eq_false', Bool.not_not, beq_eq_false_iff_ne, ne_eq, beq_iff_eq, decide_eq_decide] at hg); try (exfalso; omega)))
          | ((with_reducible apply aw_cond); (· exact sv); all_goals (intro hg; (try simp only [decide_eq_true_eq, decide_eq_false_iff_not, Bool.not_true, Bool.not_false, Bool.not_eq_true', Bool.not_eq_false', Bool.not_not, beq_eq_false_iff_ne, ne_eq, beq_iff_eq, decide_eq_decide] at hg); try (exfalso; omega)))
          | ((with_reducible apply awY_guard); (· exact sR); (· exact svg); (· rfl); (· rfl); (· exact svl); all_goals (intro hg; (try simp only [Bool.not_true, Bool.not_false]); (try simp only [decide_eq_true_eq, decide_eq_false_iff_not, Bool.not_true, Bool.not_false, Bool.not_eq_true', Bool.not_eq_false', Bool.not_not, beq_eq_false_iff_ne, ne_eq, beq_iff_eq, decide_eq_decide] at hg); try (exfalso; omega)))
          | ((with_reducible apply retQ_mk); (· (first | exact .inr rfl | exact .inl rfl)); (· exact sv); (· exact sv); rotate_left; (· rfl))
          | ((with_reducible apply wk_id); (with_reducible apply retQ_mk); (· (first | exact .inr rfl | exact .inl rfl)); (· exact sv); (· exact sv); rotate_left; (· rfl))
          | ((try with_reducible apply wk_id); (with_reducible apply retQ_mk1); (· (first | exact .inr rfl | exact .inl rfl)); (· exact sv); (· exact sv); (· exact sv); (· exact sv); rotate_left; rotate_left; (· simp); (· rfl))
          | ((try with_reducible apply wk_id); (with_reducible apply retQ_mk2); (· (first | exact .inr rfl | exact .inl rfl)); (· exact sv); (· exact sv); (· exact sv); (· exact sv); (· exact sv); (· exact sv); rotate_left; rotate_left; rotate_left; (· simp); (· simp); (· rfl))
          | ((with_reducible apply awY_p); (· exact sH); (first | ((with_reducible apply awP_1); (· decide +kernel)) | ((with_reducible apply awP_2); (· exact sP)))))
      · exfalso
        apply hg
        rw [List.length_take, List.length_drop]
        by_cases h5 : L[i].kind = 5
        · have := v5 h5; exact ⟨fun _ => h5, fun _ => by omega⟩
        · have := v6 h5; exact ⟨fun _ => by omega, fun h => absurd h h5⟩
      · refine LE_mk ((i + 1, L[i].fin)) ?_ ?_ sN sN sN
        · refine ⟨hil, v3, fun h => ?_, fun h => ?_⟩
          · simp only at h
            have h5 : ¬ L[i].kind = 5 := fun h5 => by have := hk3.1 h5; omega
            have h7 := v6 h5
            have h8 : a ≤ skp s (a : Int) := by unfold skp clp; omega
            exact ⟨m, by simp only; omega, (hk2 h5).1, (hk2 h5).2⟩
          · simp only at h
            exact (v5 (hk3.2 (by omega))).1
        · simp only; omega
    · obtain rfl := hend (by omega)
      repeat' (first
          | ((with_reducible apply awO_ev); (· rfl); (· exact sv))
          | ((with_reducible apply awO_eqnil); (· rfl); (· rfl); (· exact sv); (· exact sv); (· exact svp); (· rfl); (· (first | decide | (simp only []; omega) | omega)); intro nb hnb; simp only [put_some])
          | ((with_reducible apply awO_neqnil); (· rfl); (· rfl); (· exact sv); (· exact sv); (· exact svp); (· rfl); (· (first | decide | (simp only []; omega) | omega)); intro nb hnb; simp only [put_some])
          | ((with_reducible apply aw_seq); intro _ _)
          | ((with_reducible apply aw_region))
          | ((with_reducible apply aw_block))
          | ((with_reducible apply awO_nil); (try simp only [CT, ↓reduceIte, Nat.reduceEqDiff]))
          | ((with_reducible apply aw_exit); (try simp only [CT, ↓reduceIte, Nat.reduceEqDiff]))
          | ((with_reducible apply aw_skip); (try simp only [CT, ↓reduceIte, Nat.reduceEqDiff]))
          | ((with_reducible apply aw_ret); (try simp only [CT, ↓reduceIte, Nat.reduceEqDiff]))
          | ((with_reducible apply awO_y); (· rfl); (· rfl); (· decide); (· exact sv); (· exact sv))
          | ((with_reducible apply awO_n); (· rfl); (· rfl); (· decide); (· exact sv); (· rfl); (· rfl); (· decide))
          | ((with_reducible apply awO_u); (· rfl); (· rfl); (· exact svr); (· rfl); (· decide))
          | ((with_reducible apply aw_cond_true); (· exact sv))
          | ((with_reducible apply aw_cond_false); (· exact sv))
          | (refine Kont.go ‹Kont _ _ _ _› _ ?_)
          | ((with_reducible apply awO_un); (· rfl); (· decide); (· exact sv))
          | ((with_reducible apply awO_c); (· rfl); (· rfl); (· exact sv); (· (first | with_reducible exact awake_ab)); (· rfl); (· rfl); (· rfl); (· decide))
          | ((with_reducible apply awO_f); (· rfl); (· rfl); (· exact sv); (· exact sv); (· (first | with_reducible exact awake_ab)); (· rfl); (· rfl); (· decide))
          | ((with_reducible apply awO_m); (· rfl); (· rfl); (· exact sv); (· (first | with_reducible exact awake_ab)); (· exact svq); (· exact svq); (· exact svq); (· exact svq); (· rfl); (· (first | decide | (simp only []; omega) | omega)); (with_reducible apply awO_st); (· exact svs))
          | ((with_reducible apply aw_draw); (· decide +kernel); (simp only [List.size_toArray, List.length_cons, List.length_nil, Nat.reduceAdd]))
          | ((with_reducible apply awY_done); (· decide +kernel); (try simp only [CT, ↓reduceIte, Nat.reduceEqDiff]))
          | ((with_reducible apply awY_q); (· exact sQ); (· repeat (first | (with_reducible exact NP_ret) | (with_reducible apply NP_then) | (with_reducible apply NP_blk) | (with_reducible apply NP_wk) | (with_reducible apply NP_end))); (· exact svg); (· rfl); (· exact sv))
          | ((with_reducible apply awY_qy); (· exact sQ); (· repeat (first | (with_reducible exact NP_ret) | (with_reducible apply NP_then) | (with_reducible apply NP_blk) | (with_reducible apply NP_wk) | (with_reducible apply NP_end))); (· exact svg); (· rfl); (· rfl); (· (first | decide | (simp only []; omega) | omega)); (· exact sv); (· exact sv))
          | ((with_reducible apply awY_qn); (· exact sQ); (· repeat (first | (with_reducible exact NP_ret) | (with_reducible apply NP_then) | (with_reducible apply NP_blk) | (with_reducible apply NP_wk) | (with_reducible apply NP_end))); (· exact svg); (· rfl); (· rfl); (· (first | decide | (simp only []; omega) | omega)); (· exact sv); (· rfl); (· rfl); (· (first | decide | (simp only []; omega) | omega)); simp only [put_some])
          | ((with_reducible apply awY_qu); (· exact sQ); (· repeat (first | (with_reducible exact NP_ret) | (with_reducible apply NP_then) | (with_reducible apply NP_blk) | (with_reducible apply NP_wk) | (with_reducible apply NP_end))); (· exact svg); (· rfl); (· rfl); (· exact svr); (· rfl); (· (first | decide | (simp only []; omega) | omega)); simp only [put_some])
          | ((with_reducible apply awY_tn); (· exact sT); (· repeat (first | (with_reducible exact NP_ret) | (with_reducible apply NP_then) | (with_reducible apply NP_blk) | (with_reducible apply NP_wk) | (with_reducible apply NP_end))); (· exact svg); (· rfl); (· rfl); (· (first | decide | (simp only []; omega) | omega)); (· exact sv); (· rfl); (· rfl); (· (first | decide | (simp only []; omega) | omega)); simp only [put_some])
          | ((with_reducible apply awY_tu); (· exact sT); (· repeat (first | (with_reducible exact NP_ret) | (with_reducible apply NP_then) | (with_reducible apply NP_blk) | (with_reducible apply NP_wk) | (with_reducible apply NP_end))); (· exact svg); (· rfl); (· rfl); (· exact svr); (· rfl); (· (first | decide | (simp only []; omega) | omega)); simp only [put_some])
          | ((with_reducible apply endQ_rfl))
          | ((with_reducible apply endQ_sub); (· exact sE); (· exact sN))
          | ((with_reducible apply awI_ev); (· exact svg); (· rfl); (· exact sv))
          | ((with_reducible apply awI_c); (· exact svg); (· rfl); (· rfl); (· exact sv); (· (first | with_reducible exact awake_ab)); (· rfl); (· rfl); (· rfl); (· (first | decide | (simp only []; omega) | omega)); simp only [put_some])
          | ((with_reducible apply awI_f); (· exact svg); (· rfl); (· rfl); (· exact sv); (· exact sv); (· (first | with_reducible exact awake_ab)); (· rfl); (· rfl); (· (first | decide | (simp only []; omega) | omega)); simp only [put_some])
          | ((with_reducible apply awI_cy); (· exact svg); (· rfl); (· rfl); (· (first | decide | (simp only []; omega) | omega)); (· exact sv); (· rfl); (· exact sv); (· (first | with_reducible exact awake_ab)); (· rfl); (· rfl); (· rfl); (· (first | decide | (simp only []; omega) | omega)); simp only [put_some])
          | ((with_reducible apply awI_fy); (· exact svg); (· rfl); (· rfl); (· (first | decide | (simp only []; omega) | omega)); (· exact sv); (· rfl); (· exact sv); (· exact sv); (· (first | with_reducible exact awake_ab)); (· rfl); (· rfl); (· (first | decide | (simp only []; omega) | omega)); simp only [put_some])
          | ((with_reducible apply awO_guard); (· rfl); (· rfl); (· exact sv); all_goals (intro hg; (try simp only [Bool.not_true, Bool.not_false]); (try simp only [decide_eq_true_eq, decide_eq_false_iff_not, Bool.not_true, Bool.not_false, Bool.not_eq_true', Bool.not_eq_false', Bool.not_not, beq_eq_false_iff_ne, ne_eq, beq_iff_eq, decide_eq_decide] at hg); try (exfalso; omega)))
          | ((with_reducible apply aw_cond); (· exact sv); all_goals (intro hg; (try simp only [decide_eq_true_eq, decide_eq_false_iff_not, Bool.not_true, Bool.not_false, Bool.not_eq_true', Bool.not_eq_false', Bool.not_not, beq_eq_false_iff_ne, ne_eq, beq_iff_eq, decide_eq_decide] at hg); try (exfalso; omega)))
          | ((with_reducible apply awY_guard); (· exact sR); (· exact svg); (· rfl); (· rfl); (· exact svl); all_goals (intro hg; (try simp only [Bool.not_true, Bool.not_false]); (try simp only [decide_eq_true_eq, decide_eq_false_iff_not, Bool.not_true, Bool.not_false, Bool.not_eq_true', Bool.not_eq_false', Bool.not_not, beq_eq_false_iff_ne, ne_eq, beq_iff_eq, decide_eq_decide] at hg); try (exfalso; omega)))
          | ((with_reducible apply retQ_mk); (· (first | exact .inr rfl | exact .inl rfl)); (· exact sv); (· exact sv); rotate_left; (· rfl))
          | ((with_reducible apply wk_id); (with_reducible apply retQ_mk); (· (first | exact .inr rfl | exact .inl rfl)); (· exact sv); (· exact sv); rotate_left; (· rfl))
          | ((try with_reducible apply wk_id); (with_reducible apply retQ_mk1); (· (first | exact .inr rfl | exact .inl rfl)); (· exact sv); (· exact sv); (· exact sv); (· exact sv); rotate_left; rotate_left; (· simp); (· rfl))
          | ((try with_reducible apply wk_id); (with_reducible apply retQ_mk2); (· (first | exact .inr rfl | exact .inl rfl)); (· exact sv); (· exact sv); (· exact sv); (· exact sv); (· exact sv); (· exact sv); rotate_left; rotate_left; rotate_left; (· simp); (· simp); (· rfl))
          | ((with_reducible apply awY_p); (· exact sH); (first | ((with_reducible apply awP_1); (· decide +kernel)) | ((with_reducible apply awP_2); (· exact sP)))))
      all_goals rfl
  · unfold allA at c0
    rw [if_neg he] at c0
    generalize allF s = A at c0 he
    obtain ⟨L, p, e⟩ := A
    simp only at he c0
    refine Fn_of_aw (keep := []) Try.func9 rfl rfl (by simp [Try.ntmps9]) ?_
    simp only [num_cons, num_nil, Try.ntmps9, Try.results9]
    repeat' (first
        | ((with_reducible apply awO_ev); (· rfl); (· exact sv))
        | ((with_reducible apply awO_eqnil); (· rfl); (· rfl); (· exact sv); (· exact sv); (· exact svp); (· rfl); (· (first | decide | (simp only []; omega) | omega)); intro nb hnb; simp only [put_some])
        | ((with_reducible apply awO_neqnil); (· rfl); (· rfl); (· exact sv); (· exact sv); (· exact svp); (· rfl); (· (first | decide | (simp only []; omega) | omega)); intro nb hnb; simp only [put_some])
        | ((with_reducible apply aw_seq); intro _ _)
        | ((with_reducible apply aw_region))
        | ((with_reducible apply aw_block))
        | ((with_reducible apply awO_nil); (try simp only [CT, ↓reduceIte, Nat.reduceEqDiff]))
        | ((with_reducible apply aw_exit); (try simp only [CT, ↓reduceIte, Nat.reduceEqDiff]))
        | ((with_reducible apply aw_skip); (try simp only [CT, ↓reduceIte, Nat.reduceEqDiff]))
        | ((with_reducible apply aw_ret); (try simp only [CT, ↓reduceIte, Nat.reduceEqDiff]))
        | ((with_reducible apply awO_y); (· rfl); (· rfl); (· decide); (· exact sv); (· exact sv))
        | ((with_reducible apply awO_n); (· rfl); (· rfl); (· decide); (· exact sv); (· rfl); (· rfl); (· decide))
        | ((with_reducible apply awO_u); (· rfl); (· rfl); (· exact svr); (· rfl); (· decide))
        | ((with_reducible apply aw_cond_true); (· exact sv))
        | ((with_reducible apply aw_cond_false); (· exact sv))
        | (refine Kont.go ‹Kont _ _ _ _› _ ?_)
        | ((with_reducible apply awO_un); (· rfl); (· decide); (· exact sv))
        | ((with_reducible apply awO_c); (· rfl); (· rfl); (· exact sv); (· (first | with_reducible exact c0 | with_reducible exact awake_ab)); (· rfl); (· rfl); (· rfl); (· decide))
        | ((with_reducible apply awO_f); (· rfl); (· rfl); (· exact sv); (· exact sv); (· (first | with_reducible exact c0 | with_reducible exact awake_ab)); (· rfl); (· rfl); (· decide))
        | ((with_reducible apply awO_m); (· rfl); (· rfl); (· exact sv); (· (first | with_reducible exact c0 | with_reducible exact awake_ab)); (· exact svq); (· exact svq); (· exact svq); (· exact svq); (· rfl); (· (first | decide | (simp only []; omega) | omega)); (with_reducible apply awO_st); (· exact svs))
        | ((with_reducible apply awO_guard); (· rfl); (· rfl); (· exact sv); all_goals (intro hg; (try simp only [Bool.not_true, Bool.not_false]); (try simp only [decide_eq_true_eq, decide_eq_false_iff_not, Bool.not_true, Bool.not_false, Bool.not_eq_true', Bool.not_eq_false', Bool.not_not, beq_eq_false_iff_ne, ne_eq, beq_iff_eq, decide_eq_decide] at hg); try (exfalso; omega)))
        | ((with_reducible apply aw_cond); (· exact sv); all_goals (intro hg; (try simp only [decide_eq_true_eq, decide_eq_false_iff_not, Bool.not_true, Bool.not_false, Bool.not_eq_true', Bool.not_eq_false', Bool.not_not, beq_eq_false_iff_ne, ne_eq, beq_iff_eq, decide_eq_decide] at hg); try (exfalso; omega)))
        | ((with_reducible apply retQ_mk); (· (first | exact .inr rfl | exact .inl rfl)); (· exact sv); (· exact sv); rotate_left; (· rfl))
        | ((with_reducible apply wk_id); (with_reducible apply retQ_mk); (· (first | exact .inr rfl | exact .inl rfl)); (· exact sv); (· exact sv); rotate_left; (· rfl))
        | ((try with_reducible apply wk_id); (with_reducible apply retQ_mk1); (· (first | exact .inr rfl | exact .inl rfl)); (· exact sv); (· exact sv); (· exact sv); (· exact sv); rotate_left; rotate_left; (· simp); (· rfl))
        | ((try with_reducible apply wk_id); (with_reducible apply retQ_mk2); (· (first | exact .inr rfl | exact .inl rfl)); (· exact sv); (· exact sv); (· exact sv); (· exact sv); (· exact sv); (· exact sv); rotate_left; rotate_left; rotate_left; (· simp); (· simp); (· rfl)))
    all_goals rfl
theorem lexerCovers_ab (s : List UInt8) (hs : s.length ≤ 140737488351232) : Ab Try.prog 9 [az s] (ab true) := by
  by_cases h : 2000 < s.length
  · skip
    refine Fn_of_aw (keep := []) Try.func9 rfl rfl (by simp [Try.ntmps9]) ?_
    simp only [num_cons, num_nil, Try.ntmps9, Try.results9]
    repeat' (first
        | ((with_reducible apply awO_ev); (· rfl); (· exact sv))
        | ((with_reducible apply awO_eqnil); (· rfl); (· rfl); (· exact sv); (· exact sv); (· exact svp); (· rfl); (· (first | decide | (simp only []; omega) | omega)); intro nb hnb; simp only [put_some])
        | ((with_reducible apply awO_neqnil); (· rfl); (· rfl); (· exact sv); (· exact sv); (· exact svp); (· rfl); (· (first | decide | (simp only []; omega) | omega)); intro nb hnb; simp only [put_some])
        | ((with_reducible apply aw_seq); intro _ _)
        | ((with_reducible apply aw_region))
        | ((with_reducible apply aw_block))
        | ((with_reducible apply awO_nil); (try simp only [CT, ↓reduceIte, Nat.reduceEqDiff]))
        | ((with_reducible apply aw_exit); (try simp only [CT, ↓reduceIte, Nat.reduceEqDiff]))
        | ((with_reducible apply aw_skip); (try simp only [CT, ↓reduceIte, Nat.reduceEqDiff]))
        | ((with_reducible apply aw_ret); (try simp only [CT, ↓reduceIte, Nat.reduceEqDiff]))
        | ((with_reducible apply awO_y); (· rfl); (· rfl); (· decide); (· exact sv); (· exact sv))
        | ((with_reducible apply awO_n); (· rfl); (· rfl); (· decide); (· exact sv); (· rfl); (· rfl); (· decide))
        | ((with_reducible apply awO_u); (· rfl); (· rfl); (· exact svr); (· rfl); (· decide))
        | ((with_reducible apply aw_cond_true); (· exact sv))
        | ((with_reducible apply aw_cond_false); (· exact sv))
        | (refine Kont.go ‹Kont _ _ _ _› _ ?_)
        | ((with_reducible apply awO_un); (· rfl); (· decide); (· exact sv))
        | ((with_reducible apply awO_c); (· rfl); (· rfl); (· exact sv); (· (first | with_reducible exact awake_ab)); (· rfl); (· rfl); (· rfl); (· decide))
        | ((with_reducible apply awO_f); (· rfl); (· rfl); (· exact sv); (· exact sv); (· (first | with_reducible exact awake_ab)); (· rfl); (· rfl); (· decide))
        | ((with_reducible apply awO_m); (· rfl); (· rfl); (· exact sv); (· (first | with_reducible exact awake_ab)); (· exact svq); (· exact svq); (· exact svq); (· exact svq); (· rfl); (· (first | decide | (simp only []; omega) | omega)); (with_reducible apply awO_st); (· exact svs))
        | ((with_reducible apply awO_guard); (· rfl); (· rfl); (· exact sv); all_goals (intro hg; (try simp only [Bool.not_true, Bool.not_false]); (try simp only [decide_eq_true_eq, decide_eq_false_iff_not, Bool.not_true, Bool.not_false, Bool.not_eq_true', Bool.not_eq_false', Bool.not_not, beq_eq_false_iff_ne, ne_eq, beq_iff_eq, decide_eq_decide] at hg); try (exfalso; omega)))
        | ((with_reducible apply aw_cond); (· exact sv); all_goals (intro hg; (try simp only [decide_eq_true_eq, decide_eq_false_iff_not, Bool.not_true, Bool.not_false, Bool.not_eq_true', Bool.not_eq_false', Bool.not_not, beq_eq_false_iff_ne, ne_eq, beq_iff_eq, decide_eq_decide] at hg); try (exfalso; omega)))
        | ((with_reducible apply retQ_mk); (· (first | exact .inr rfl | exact .inl rfl)); (· exact sv); (· exact sv); rotate_left; (· rfl))
        | ((with_reducible apply wk_id); (with_reducible apply retQ_mk); (· (first | exact .inr rfl | exact .inl rfl)); (· exact sv); (· exact sv); rotate_left; (· rfl))
        | ((try with_reducible apply wk_id); (with_reducible apply retQ_mk1); (· (first | exact .inr rfl | exact .inl rfl)); (· exact sv); (· exact sv); (· exact sv); (· exact sv); rotate_left; rotate_left; (· simp); (· rfl))
        | ((try with_reducible apply wk_id); (with_reducible apply retQ_mk2); (· (first | exact .inr rfl | exact .inl rfl)); (· exact sv); (· exact sv); (· exact sv); (· exact sv); (· exact sv); (· exact sv); rotate_left; rotate_left; rotate_left; (· simp); (· simp); (· rfl)))
    all_goals rfl
  · exact covers_ab s (by omega)
end Go.Proofs.Ytikolicdgkckeaa
