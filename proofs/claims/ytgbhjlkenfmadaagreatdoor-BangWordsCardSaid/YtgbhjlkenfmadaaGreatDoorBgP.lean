/- bang: scan, on the abstract machine. -/
import Derived.Test.YtgbhjlkenfmadaaGreatDoorBgO
namespace Go.Proofs.YtgbhjlkenfmadaaGreatDoor
open Go.RowKit
set_option linter.unusedVariables false
set_option linter.unusedSimpArgs false
set_option maxRecDepth 100000
set_option maxHeartbeats 8000000
/-- Of the one own object behind a call, less may be said. -/
theorem Fn.weak1 {P : Program} {f : FuncId} {args : List AV} {h : Hp} {r : AV} {k : Nat} {cs cs' : List AV} {fix : List Nat} (hl : cs'.length = cs.length) (hw : ∀ (j : Nat) (a : AV), cs'[j]? = some a → cs[j]? = some a ∨ a = .un)
    (hf : Fn P f args h r [(k, cs)] fix) : Fn P f args h r [(k, cs')] fix := by
  refine ⟨hf.1, fun w bad ρ vs h1 h2 h3 h4 => (hf.2 w bad ρ vs h1 h2 h3 h4).mono fun e w' ⟨v, ρ', q1, q2, q3, q4, q5, q6⟩ => ?_⟩
  have hown : ownB ρ' [(k, cs')] = ownB ρ' [(k, cs)] := by
    funext b
    refine propext ⟨fun ⟨j, c, hj, hb⟩ => ?_, fun ⟨j, c, hj, hb⟩ => ?_⟩
    · simp only [look_cons, look_nil] at hj
      split at hj
      · next e => subst e; exact ⟨_, cs, by simp [look_cons], hb⟩
      · cases hj
    · simp only [look_cons, look_nil] at hj
      split at hj
      · next e => subst e; exact ⟨_, cs', by simp [look_cons], hb⟩
      · cases hj
  have hav : avd bad ρ' [(k, cs')] = avd bad ρ' [(k, cs)] := by unfold avd; rw [hown]
  refine ⟨v, ρ', q1, by rw [hav]; exact q2, ⟨fun j c hj => ?_, fun j j' c c' hj hj' hn => ?_⟩, q4, by rw [hown]; exact q5, q6⟩
  · simp only [look_cons, look_nil] at hj
    split at hj
    · next e =>
      subst e
      injection hj with hj
      subst hj
      have ho := q3.obj k cs (by simp [look_cons])
      refine ⟨by rw [hl]; exact ho.len, ho.mem, fun m a ha => ?_⟩
      rw [hav]
      rcases hw m a ha with h | rfl
      · exact ho.cells m a h
      · have hm : m < cs.length := by rw [← hl]; exact (List.getElem?_eq_some_iff.1 ha).1
        obtain ⟨x, hx, _⟩ := ho.cells m cs[m] (List.getElem?_eq_getElem hm)
        exact ⟨x, hx, .im (.un _)⟩
    · cases hj
  · simp only [look_cons, look_nil] at hj hj'
    split at hj <;> split at hj'
    · next e e' => exact absurd (e.symm.trans e') hn
    · cases hj'
    · cases hj
    · cases hj
abbrev xU (F : Int) (L : List (List UInt8)) (s : List UInt8) : Hp := [(7, [ai F, .rd L.length (L.map az), az s, .un])]
/-- What is known of the expansion behind the scan. -/
abbrev xR (F : Int) (L : List (List UInt8)) (s : List UInt8) (r : List UInt8 × Bool × Int) : Hp := [(7, [ai F, .rd L.length (L.map az), az s, if r.2.2 = 0 then ab r.2.1 else .un])]
section
variable (F : Int) (L : List (List UInt8)) (s : List UInt8)
theorem qt_kep {i : Nat} (h : atB s i = 39) : kepF s i false = (qtN s i, false) := by
  unfold kepF qtN
  rw [if_neg (by rintro ⟨h1, _⟩; rw [h] at h1; exact absurd h1 (by decide)), if_neg (by rw [h]; decide), if_pos ⟨h, rfl⟩]
  rcases ixN [39] (s.drop (i + 1)) with _ | k <;> rfl
theorem scnF_norm (W : List UInt8 → List (List UInt8)) : ∀ n i d, (scnF W F L s n i d).2.2 ≠ 0 → scnF W F L s n i d = ([], false, (scnF W F L s n i d).2.2) := by
  intro n
  induction n with
  | zero => intro i d h; exact absurd rfl h
  | succ n ih =>
    intro i d h
    rw [scnF] at h ⊢
    (repeat' split)
    · rfl
    · unfold fnx at h ⊢; split <;> simp_all
    · rfl
    · unfold fnx at h ⊢; split <;> simp_all
/-- The state of the scan: R is what it comes to. -/
def Rel (R : List UInt8 × Bool × Int) (q dn : Nat) (sh : Bool) (out : List UInt8) (db : Bool) : Prop := R = fnx (out ++ (s.take q).drop dn) sh (scnT wordsF F L s q db)
theorem drop_cat {q q' dn : Nat} (h1 : dn ≤ q) (h2 : q ≤ q') (h3 : q ≤ s.length) : (s.take q).drop dn ++ (s.take q').drop q = (s.take q').drop dn := by
  have e1 : s.take q' = s.take q ++ (s.take q').drop q := by
    conv => lhs; rw [← List.take_append_drop q (s.take q'), List.take_take, Nat.min_eq_left h2]
  conv => rhs; rw [e1]
  rw [List.drop_append_of_le_length (by simp only [List.length_take]; omega)]
variable {F L s}
variable {R : List UInt8 × Bool × Int} {q dn : Nat} {sh : Bool} {out : List UInt8} {db : Bool}
theorem Rel.zero (h : scnT wordsF F L s 0 false = R) : Rel F L s R 0 0 false [] false := by
  unfold Rel fnx
  rw [h]
  by_cases he : R.2.2 = 0
  · rw [if_pos he]; simp [← he]
  · rw [if_neg he]
    have := scnF_norm F L s wordsF (s.length - 0 + 1) 0 false (by rw [show scnF wordsF F L s (s.length - 0 + 1) 0 false = R from h]; exact he)
    rw [show scnF wordsF F L s (s.length - 0 + 1) 0 false = R from h] at this
    exact this
theorem Rel.run {q' : Nat} (hl : ∀ l ∈ L, l.length ≤ 4096) (h : Rel F L s R q dn sh out db) (h1 : dn ≤ q) (h2 : q ≤ q') (h3 : q' ≤ s.length) (hb : ∀ j, q ≤ j → j < q' → 128 ≤ (s[j]?.getD 0).toNat) : Rel F L s R q' dn sh out db := by
  unfold Rel at h ⊢
  rw [scnT_run words_ok hl h3 _ q rfl h2 (fun j hj hj' => by
    have := hb j hj hj'
    have e : ∀ c : UInt8, c.toNat < 128 → atB s j ≠ c := fun c hc e => by unfold atB at e; rw [e] at this; omega
    exact ⟨e 33 (by decide), e 92 (by decide), e 34 (by decide), e 39 (by decide)⟩), fnx_fnx, List.append_assoc, drop_cat s h1 h2 (by omega), Bool.or_false] at h
  exact h
theorem Rel.keep (hl : ∀ l ∈ L, l.length ≤ 4096) (h : Rel F L s R q dn sh out db) (h1 : dn ≤ q) (hq : q < s.length) (hp : atB s q ≠ 33 ∨ plB s q = true) : Rel F L s R (kepF s q db).1 dn sh out (kepF s q db).2 := by
  have hk := kepF_ok (s := s) (i := q) (d := db) hq
  unfold Rel at h ⊢
  rw [scnT_keep words_ok hl hq hp, fnx_fnx, List.append_assoc, drop_cat s h1 (by omega) (by omega), Bool.or_false] at h
  exact h
theorem Rel.fin (h : Rel F L s R q dn sh out db) (hq : s.length ≤ q) : R = (out ++ s.drop dn, sh, 0) := by
  unfold Rel at h
  rw [scnT_end hq, List.take_of_length_le hq] at h
  rw [h]
  simp [fnx]
theorem Rel.past {q' : Nat} {db' : Bool} (h : Rel F L s R q dn sh out db) (hq : s.length ≤ q) (hq' : s.length ≤ q') : Rel F L s R q' dn sh out db' := by
  have := h.fin hq
  unfold Rel
  rw [scnT_end hq', List.take_of_length_le hq', this]
  simp [fnx]
theorem Rel.err (hl : ∀ l ∈ L, l.length ≤ 4096) (h : Rel F L s R q dn sh out db) (hq : q < s.length) (h33 : atB s q = 33) (hp : plB s q = false) (he : (evA wordsF F L s (q + 1) sh).2.2.2 ≠ 0) : R = ([], false, (evA wordsF F L s (q + 1) sh).2.2.2) ∧ evA wordsF F L s (q + 1) sh = ([], 0, false, (evA wordsF F L s (q + 1) sh).2.2.2) := by
  have hsh := evA_sh wordsF F L s (q + 1) sh
  by_cases h0 : (evA wordsF F L s (q + 1) false).2.2.2 = 0
  · rw [if_pos h0] at hsh; rw [hsh] at he; exact absurd rfl he
  · rw [if_neg h0] at hsh
    unfold Rel at h
    rw [scnT_err hq h33 hp h0] at h
    have e2 : (evA wordsF F L s (q + 1) sh).2.2.2 = (evA wordsF F L s (q + 1) false).2.2.2 := by rw [hsh]
    rw [e2]
    refine ⟨?_, hsh⟩
    rw [h]
    unfold fnx
    rw [if_neg h0]
theorem Rel.ev (hl : ∀ l ∈ L, l.length ≤ 4096) (h : Rel F L s R q dn sh out db) (hq : q < s.length) (h33 : atB s q = 33) (hp : plB s q = false) (he : (evA wordsF F L s (q + 1) sh).2.2.2 = 0) :
    Rel F L s R (evA wordsF F L s (q + 1) sh).2.1 (evA wordsF F L s (q + 1) sh).2.1 (evA wordsF F L s (q + 1) sh).2.2.1 (out ++ (s.take q).drop dn ++ (evA wordsF F L s (q + 1) sh).1) db := by
  have hsh := evA_sh wordsF F L s (q + 1) sh
  by_cases h0 : (evA wordsF F L s (q + 1) false).2.2.2 = 0
  · rw [if_pos h0] at hsh
    have h1 := scnT_ev words_ok hl (d := db) hq h33 hp h0
    rw [hsh]
    unfold Rel at h ⊢
    rw [h1, fnx_fnx] at h
    rw [h]
    have e : (s.take (evA wordsF F L s (q + 1) false).2.1).drop (evA wordsF F L s (q + 1) false).2.1 = [] := List.drop_eq_nil_of_le (by simp only [List.length_take]; omega)
    simp only
    rw [e, List.append_nil]
  · rw [if_neg h0] at hsh
    rw [hsh] at he
    exact absurd he h0
variable (F L s)
theorem scan_fn (sh0 : Bool) (hs : s.length ≤ 4096) (hF : 1 ≤ F ∧ F ≤ 2147483647) (hL : L.length ≤ 100000) (hl : ∀ l ∈ L, l.length ≤ 4096) (hsh : sh0 = false) :
    Fn Tryz.prog 24 [.pt 7 0] (xH F L s sh0) (.tp [az (scnT wordsF F L s 0 false).1, ai (scnT wordsF F L s 0 false).2.2]) (xR F L s (scnT wordsF F L s 0 false)) [7] := by
  subst hsh
  have hz := Rel.zero (F := F) (L := L) (s := s) rfl
  generalize scnT wordsF F L s 0 false = R at *
  refine Fn_of_aw (keep := [7]) Tryz.func24 rfl rfl (by simp [Tryz.ntmps24]) ?_
  simp only [num_cons, num_nil, Tryz.ntmps24, Tryz.results24]
  refine aw_of_awS tBld 5 ?_
  repeat' (first
 | ((with_reducible apply awSO_new); (· rfl); (· rfl); (· exact zBld); (· rfl); (· exact nd); intro nb)
 | ((with_reducible apply awSO_range); (· rfl); (· rfl); (· kernel_rfl); (· exact sv); (· rfl); (· exact nd); intro nc)
 | ((with_reducible apply awSO_ev); (· rfl); (· exact sv))
 | ((with_reducible apply awS_seq); intro _ _)
 | ((with_reducible apply awS_region))
 | ((with_reducible apply awS_block))
 | ((with_reducible apply awSO_nil); (try simp only [CTS, ↓reduceIte, Nat.reduceEqDiff]))
 | (refine KontS.go ‹KontS _ _ _ _ _ _› _ _ ?_))
  refine awS_loopF (fun x : Nat × Nat × Nat × Bool × Bool × List UInt8 => [(5, ai (x.2.2.1 : Nat)), (6, ai (x.2.1 : Nat)), (7, ab x.2.2.2.1)]) (fun x => xH F L s x.2.2.2.2.1) (fun x => ⟨some (nb, x.2.2.2.2.2), some (nc, s, x.1)⟩)
    (fun x => x.1 ≤ s.length ∧ x.2.1 ≤ s.length + 1 ∧ x.2.2.1 ≤ s.length ∧ x.2.2.1 ≤ max x.1 x.2.1 ∧ x.2.2.2.2.2.length ≤ x.2.2.1 * 17000001 ∧ Rel F L s R (max x.1 x.2.1) x.2.2.1 x.2.2.2.2.1 x.2.2.2.2.2 x.2.2.2.1)
    (fun x => s.length - x.1) (0, 0, 0, false, false, []) ⟨by simp, by simp, by simp, by simp, by simp, hz⟩ rfl ?_ ?_ ?_
  · exact ⟨rfl, rfl, rfl, trivial⟩
  · exact ⟨rfl, trivial⟩
  rintro ⟨p, nx, dn, db, sh, out⟩ ⟨h1, h2, h3, h4, h5, h6⟩
  simp only at h1 h2 h3 h4 h5 h6
  clear hz
  (simp only [LP, List.append_assoc, List.nil_append, List.cons_append, List.append_nil, List.contains_cons, List.contains_nil, Nat.reduceBEq, Bool.or_false, Bool.or_true, Bool.true_or, Bool.false_or, ↓reduceIte, Bool.false_eq_true])
  by_cases hp : p < s.length
  · rcases rune_cases s p hp with ⟨ha, hdec⟩ | ⟨r1, r2, r3, r4, r5, r6⟩
    · have d1 : (Utf8.decode (str s) p).1 = s[p].toNat := by rw [hdec]
      have d2 : (Utf8.decode (str s) p).2 = 1 := by rw [hdec]
      by_cases hnx : p < nx
      · skip
        repeat' (first
 | ((with_reducible apply awSO_next); (· rfl); (· rfl); (· exact sv); (· rfl); (· exact nd); all_goals (intro hg; try (exfalso; omega)))
 | ((with_reducible apply awSO_ev); (· rfl); (· exact sv))
 | ((with_reducible apply awS_seq); intro _ _)
 | ((with_reducible apply awS_region))
 | ((with_reducible apply awS_block))
 | ((with_reducible apply awSO_nil); (try simp only [CTS, ↓reduceIte, Nat.reduceEqDiff]))
 | ((with_reducible apply awS_exit); (try simp only [CTS, ↓reduceIte, Nat.reduceEqDiff]))
 | ((with_reducible apply awS_skip); (try simp only [CTS, ↓reduceIte, Nat.reduceEqDiff]))
 | ((with_reducible apply awS_cond_true); (· exact sv))
 | (refine KontS.go ‹KontS _ _ _ _ _ _› _ _ ?_)
 | ((with_reducible apply awS_cond); (· exact sv); all_goals (intro hg; (try simp only [decide_eq_true_eq, decide_eq_false_iff_not, Bool.not_true, Bool.not_false, Bool.not_eq_true', Bool.not_eq_false', Bool.not_not, beq_eq_false_iff_ne, ne_eq, beq_iff_eq, decide_eq_decide] at hg); try (exfalso; omega))))
        refine LES_mk (p + (Utf8.decode (str s) p).2, nx, dn, db, sh, out) ⟨by simp only; omega, h2, h3, by simp only; omega, h5, ?_⟩ (by simp only; omega) rfl sN sN ⟨rfl, trivial⟩
        simp only
        rw [Nat.max_eq_right (by omega)] at h6 ⊢
        exact h6
      rw [Nat.max_eq_left (by omega)] at h6
      have hat := atB_lt hp
      by_cases k92 : s[p].toNat = 92
      · have h92 : atB s p = 92 := by rw [hat]; exact UInt8.toNat_inj.1 k92
        have hk := h6.keep hl (by omega) hp (.inl (by rw [h92]; decide))
        repeat' (first
 | ((with_reducible apply awSO_next); (· rfl); (· rfl); (· exact sv); (· rfl); (· exact nd); all_goals (intro hg; try (exfalso; omega)))
 | ((with_reducible apply awSO_ev); (· rfl); (· exact sv))
 | ((with_reducible apply awS_seq); intro _ _)
 | ((with_reducible apply awS_region))
 | ((with_reducible apply awS_block))
 | ((with_reducible apply awSO_nil); (try simp only [CTS, ↓reduceIte, Nat.reduceEqDiff]))
 | ((with_reducible apply awS_skip); (try simp only [CTS, ↓reduceIte, Nat.reduceEqDiff]))
 | ((with_reducible apply awS_cond_true); (· exact sv))
 | (refine KontS.go ‹KontS _ _ _ _ _ _› _ _ ?_)
 | ((with_reducible apply awS_cond); (· exact sv); all_goals (intro hg; (try simp only [decide_eq_true_eq, decide_eq_false_iff_not, Bool.not_true, Bool.not_false, Bool.not_eq_true', Bool.not_eq_false', Bool.not_not, beq_eq_false_iff_ne, ne_eq, beq_iff_eq, decide_eq_decide] at hg); try (exfalso; omega))))
        refine LES_mk (p + (Utf8.decode (str s) p).2, p + 2, dn, db, sh, out) ⟨by simp only; omega, by simp only; omega, h3, by simp only; omega, h5, ?_⟩ (by simp only; omega) rfl sN sN ⟨rfl, trivial⟩
        simp only
        rw [d2, Nat.max_eq_right (by omega)]
        by_cases hlt : p + 1 < s.length
        · have hkp : kepF s p db = (p + 2, db) := by unfold kepF; rw [if_pos ⟨h92, hlt⟩]
          rwa [hkp] at hk
        · have hkp : kepF s p db = (p + 1, db) := by
            unfold kepF
            rw [if_neg (fun h => hlt h.2), if_neg (by rw [h92]; decide), if_neg (by rw [h92]; exact fun h => absurd h.1 (by decide))]
          rw [hkp] at hk
          exact hk.past (by simp only; omega) (by omega)
      have n92 : ¬ (atB s p = 92 ∧ p + 1 < s.length) := fun h => k92 (by rw [← hat, h.1]; rfl)
      by_cases k34 : s[p].toNat = 34
      · have h34 : atB s p = 34 := by rw [hat]; exact UInt8.toNat_inj.1 k34
        have hk := h6.keep hl (by omega) hp (.inl (by rw [h34]; decide))
        have hkp : kepF s p db = (p + 1, !db) := by unfold kepF; rw [if_neg n92, if_pos h34]
        rw [hkp] at hk
        repeat' (first
 | ((with_reducible apply awSO_next); (· rfl); (· rfl); (· exact sv); (· rfl); (· exact nd); all_goals (intro hg; try (exfalso; omega)))
 | ((with_reducible apply awSO_ev); (· rfl); (· exact sv))
 | ((with_reducible apply awS_seq); intro _ _)
 | ((with_reducible apply awS_region))
 | ((with_reducible apply awS_block))
 | ((with_reducible apply awSO_nil); (try simp only [CTS, ↓reduceIte, Nat.reduceEqDiff]))
 | ((with_reducible apply awS_skip); (try simp only [CTS, ↓reduceIte, Nat.reduceEqDiff]))
 | ((with_reducible apply awS_cond_true); (· exact sv))
 | (refine KontS.go ‹KontS _ _ _ _ _ _› _ _ ?_)
 | ((with_reducible apply awS_cond); (· exact sv); all_goals (intro hg; (try simp only [decide_eq_true_eq, decide_eq_false_iff_not, Bool.not_true, Bool.not_false, Bool.not_eq_true', Bool.not_eq_false', Bool.not_not, beq_eq_false_iff_ne, ne_eq, beq_iff_eq, decide_eq_decide] at hg); try (exfalso; omega))))
        refine LES_mk (p + (Utf8.decode (str s) p).2, nx, dn, !db, sh, out) ⟨by simp only; omega, h2, h3, by simp only; omega, h5, ?_⟩ (by simp only; omega) rfl sN sN ⟨rfl, trivial⟩
        simp only
        rw [d2, Nat.max_eq_left (by omega)]
        exact hk
      have n34 : ¬ atB s p = 34 := fun h => k34 (by rw [← hat, h]; rfl)
      by_cases k39 : s[p].toNat = 39
      · have h39 : atB s p = 39 := by rw [hat]; exact UInt8.toNat_inj.1 k39
        have hcp : atB s p ≠ 33 ∨ plB s p = true := .inl (by rw [h39]; decide)
        cases db with
        | true =>
          have hkp : kepF s p true = (p + 1, true) := by unfold kepF; rw [if_neg n92, if_neg n34, if_neg (by simp)]
          repeat' (first
 | ((with_reducible apply awSO_next); (· rfl); (· rfl); (· exact sv); (· rfl); (· exact nd); all_goals (intro hg; try (exfalso; omega)))
 | ((with_reducible apply awSO_ev); (· rfl); (· exact sv))
 | ((with_reducible apply awS_seq); intro _ _)
 | ((with_reducible apply awS_region))
 | ((with_reducible apply awS_block))
 | ((with_reducible apply awSO_nil); (try simp only [CTS, ↓reduceIte, Nat.reduceEqDiff]))
 | ((with_reducible apply awS_skip); (try simp only [CTS, ↓reduceIte, Nat.reduceEqDiff]))
 | ((with_reducible apply awS_cond_true); (· exact sv))
 | ((with_reducible apply awS_cond_false); (· exact sv))
 | (refine KontS.go ‹KontS _ _ _ _ _ _› _ _ ?_)
 | ((with_reducible apply awS_cond); (· exact sv); all_goals (intro hg; (try simp only [decide_eq_true_eq, decide_eq_false_iff_not, Bool.not_true, Bool.not_false, Bool.not_eq_true', Bool.not_eq_false', Bool.not_not, beq_eq_false_iff_ne, ne_eq, beq_iff_eq, decide_eq_decide] at hg); try (exfalso; omega))))
          refine LES_mk (p + (Utf8.decode (str s) p).2, nx, dn, true, sh, out) ⟨by simp only; omega, h2, h3, by simp only; omega, h5, ?_⟩ (by simp only; omega) rfl sN sN ⟨rfl, trivial⟩
          simp only
          rw [d2, Nat.max_eq_left (by omega)]
          have := h6.keep hl (by omega) hp hcp
          rwa [hkp] at this
        | false =>
          have hkp := qt_kep (s := s) h39
          have hk := h6.keep hl (by omega) hp hcp
          have hko := kepF_ok (s := s) (i := p) (d := false) hp
          rw [hkp] at hk hko
          simp only at hk hko
          have cq := fun z hz => quoted_fn F L s sh p z hz hp (by omega)
          repeat' (first
 | ((with_reducible apply awSO_next); (· rfl); (· rfl); (· exact sv); (· rfl); (· exact nd); all_goals (intro hg; try (exfalso; omega)))
 | ((with_reducible apply awSO_ev); (· rfl); (· exact sv))
 | ((with_reducible apply awS_seq); intro _ _)
 | ((with_reducible apply awS_region))
 | ((with_reducible apply awS_block))
 | ((with_reducible apply awSO_nil); (try simp only [CTS, ↓reduceIte, Nat.reduceEqDiff]))
 | ((with_reducible apply awS_skip); (try simp only [CTS, ↓reduceIte, Nat.reduceEqDiff]))
 | ((with_reducible apply awS_cond_true); (· exact sv))
 | (refine KontS.go ‹KontS _ _ _ _ _ _› _ _ ?_)
 | ((with_reducible apply awSO_m); (· rfl); (· rfl); (· exact sv); (· (first | exact cq _ (by omega))); (· exact svq); (· exact svq); (· exact svq); (· exact svq); (· rfl); (· exact nd); (with_reducible apply awSO_st); (· exact svs))
 | ((with_reducible apply awS_cond); (· exact sv); all_goals (intro hg; (try simp only [decide_eq_true_eq, decide_eq_false_iff_not, Bool.not_true, Bool.not_false, Bool.not_eq_true', Bool.not_eq_false', Bool.not_not, beq_eq_false_iff_ne, ne_eq, beq_iff_eq, decide_eq_decide] at hg); try (exfalso; omega))))
          refine LES_mk (p + (Utf8.decode (str s) p).2, qtN s p, dn, false, sh, out) ⟨by simp only; omega, by simp only; omega, h3, by simp only; omega, h5, ?_⟩ (by simp only; omega) rfl sN sN ⟨rfl, trivial⟩
          simp only
          rw [d2, Nat.max_eq_right (by omega)]
          exact hk
      have n39 : ¬ (atB s p = 39 ∧ db = false) := fun h => k39 (by rw [← hat, h.1]; rfl)
      have hkp : kepF s p db = (p + 1, db) := by unfold kepF; rw [if_neg n92, if_neg n34, if_neg n39]
      by_cases k33 : s[p].toNat = 33
      · have h33 : atB s p = 33 := by rw [hat]; exact UInt8.toNat_inj.1 k33
        have cp := fun z hz => plain_fn F L s sh p z hz hp (by omega)
        cases hpl : plB s p with
        | true =>
          rw [hpl] at cp
          have hcp : atB s p ≠ 33 ∨ plB s p = true := .inr hpl
          repeat' (first
 | ((with_reducible apply awSO_next); (· rfl); (· rfl); (· exact sv); (· rfl); (· exact nd); all_goals (intro hg; try (exfalso; omega)))
 | ((with_reducible apply awSO_ev); (· rfl); (· exact sv))
 | ((with_reducible apply awS_seq); intro _ _)
 | ((with_reducible apply awS_region))
 | ((with_reducible apply awS_block))
 | ((with_reducible apply awSO_nil); (try simp only [CTS, ↓reduceIte, Nat.reduceEqDiff]))
 | ((with_reducible apply awS_exit); (try simp only [CTS, ↓reduceIte, Nat.reduceEqDiff]))
 | ((with_reducible apply awS_skip); (try simp only [CTS, ↓reduceIte, Nat.reduceEqDiff]))
 | ((with_reducible apply awS_cond_true); (· exact sv))
 | (refine KontS.go ‹KontS _ _ _ _ _ _› _ _ ?_)
 | ((with_reducible apply awSO_m); (· rfl); (· rfl); (· exact sv); (· (first | exact cp _ (by omega))); (· exact svq); (· exact svq); (· exact svq); (· exact svq); (· rfl); (· exact nd); (with_reducible apply awSO_st); (· exact svs))
 | ((with_reducible apply awS_cond); (· exact sv); all_goals (intro hg; (try simp only [decide_eq_true_eq, decide_eq_false_iff_not, Bool.not_true, Bool.not_false, Bool.not_eq_true', Bool.not_eq_false', Bool.not_not, beq_eq_false_iff_ne, ne_eq, beq_iff_eq, decide_eq_decide] at hg); try (exfalso; omega))))
          refine LES_mk (p + (Utf8.decode (str s) p).2, nx, dn, db, sh, out) ⟨by simp only; omega, h2, h3, by simp only; omega, h5, ?_⟩ (by simp only; omega) rfl sN sN ⟨rfl, trivial⟩
          simp only
          rw [d2, Nat.max_eq_left (by omega)]
          have := h6.keep hl (by omega) hp hcp
          rwa [hkp] at this
        | false =>
          rw [hpl] at cp
          have hpl2 := hpl
          unfold plB at hpl2
          simp only [Bool.or_eq_false_iff, decide_eq_false_iff_not] at hpl2
          have ce := fun z hz => event_fn F L s (p + 1) z sh hz (by omega) hs hF hL hl hpl2.2
          by_cases he : (evA wordsF F L s (p + 1) sh).2.2.2 = 0
          · have hv := h6.ev hl hp h33 hpl he
            have hok := evA_ok words_ok hl (F := F) (s := s) (a := p + 1) (sh := sh) (by omega) he
            generalize evA wordsF F L s (p + 1) sh = v at *
            obtain ⟨vt, vk, vs, ve⟩ := v
            simp only at hv hok he
            subst he
            have ce : ∀ z : Int, z = ((p + 1 : Nat) : Int) → Fn Tryz.prog 38 [.pt 7 0, ai z] (xH F L s sh) (.tp [az vt, ai (vk : Nat), ai 0]) (xH F L s vs) [7] := fun z hz => by
              obtain ⟨b, c, hb⟩ := ce z hz
              rw [hb rfl] at c
              exact c
            have hcat : (s.take p).drop dn = (s.drop dn).take (p - dn) := List.drop_take ..
            rw [hcat] at hv
            repeat' (first
 | ((with_reducible apply awSO_ws); (· rfl); (· rfl); (· exact sv); (· exact ws_wrs); (· (first | omega | (simp only [List.length_append, List.length_take, List.length_drop, List.length_cons, List.length_nil]; omega))); (· rfl); (· exact nd))
 | ((with_reducible apply awSO_next); (· rfl); (· rfl); (· exact sv); (· rfl); (· exact nd); all_goals (intro hg; try (exfalso; omega)))
 | ((with_reducible apply awSO_ev); (· rfl); (· exact sv))
 | ((with_reducible apply awS_seq); intro _ _)
 | ((with_reducible apply awS_region))
 | ((with_reducible apply awS_block))
 | ((with_reducible apply awSO_nil); (try simp only [CTS, ↓reduceIte, Nat.reduceEqDiff]))
 | ((with_reducible apply awS_skip); (try simp only [CTS, ↓reduceIte, Nat.reduceEqDiff]))
 | ((with_reducible apply awS_cond_true); (· exact sv))
 | ((with_reducible apply awS_cond_false); (· exact sv))
 | (refine KontS.go ‹KontS _ _ _ _ _ _› _ _ ?_)
 | ((with_reducible apply awSO_m); (· rfl); (· rfl); (· exact sv); (· (first | exact cp _ (by omega) | exact ce _ (by omega))); (· exact svq); (· exact svq); (· exact svq); (· exact svq); (· rfl); (· exact nd); (with_reducible apply awSO_st); (· exact svs))
 | ((with_reducible apply awS_cond); (· exact sv); all_goals (intro hg; (try simp only [decide_eq_true_eq, decide_eq_false_iff_not, Bool.not_true, Bool.not_false, Bool.not_eq_true', Bool.not_eq_false', Bool.not_not, beq_eq_false_iff_ne, ne_eq, beq_iff_eq, decide_eq_decide] at hg); try (exfalso; omega))))
            refine LES_mk (p + (Utf8.decode (str s) p).2, vk, vk, db, vs, out ++ (s.drop dn).take (p - dn) ++ vt) ⟨by simp only; omega, by simp only; omega, hok.2.1, by simp only; omega, ?_, ?_⟩ (by simp only; omega) rfl sN sN ⟨rfl, trivial⟩
            · simp only [List.length_append, List.length_take, List.length_drop]; omega
            · simp only
              rw [d2, Nat.max_eq_right (by omega)]
              exact hv
          · obtain ⟨hv, hn⟩ := h6.err hl hp h33 hpl he
            have ce : ∀ z : Int, z = ((p + 1 : Nat) : Int) → Fn Tryz.prog 38 [.pt 7 0, ai z] (xH F L s sh) (.tp [az [], ai 0, ai (evA wordsF F L s (p + 1) sh).2.2.2]) (xU F L s) [7] := fun z hz => by
              obtain ⟨b, c, hb⟩ := ce z hz
              rw [hn] at c
              have c : Fn Tryz.prog 38 [.pt 7 0, ai z] (xH F L s sh) (.tp [az [], ai 0, ai (evA wordsF F L s (p + 1) sh).2.2.2]) (xH F L s b) [7] := by
                have h0 : ((0 : Nat) : Int) = 0 := rfl
                simpa only [h0] using c
              refine Fn.weak1 (cs := [ai F, .rd L.length (L.map az), az s, ab b]) rfl (fun j a hj => ?_) c
              match j, hj with
              | 0, hj => exact .inl hj
              | 1, hj => exact .inl hj
              | 2, hj => exact .inl hj
              | 3, hj => simp at hj; exact .inr hj.symm
            generalize (evA wordsF F L s (p + 1) sh).2.2.2 = ve at *
            subst hv
            repeat' (first
 | ((with_reducible apply awSO_next); (· rfl); (· rfl); (· exact sv); (· rfl); (· exact nd); all_goals (intro hg; try (exfalso; omega)))
 | ((with_reducible apply awSO_ev); (· rfl); (· exact sv))
 | ((with_reducible apply awS_seq); intro _ _)
 | ((with_reducible apply awS_region))
 | ((with_reducible apply awS_block))
 | ((with_reducible apply awSO_nil); (try simp only [CTS, ↓reduceIte, Nat.reduceEqDiff]))
 | ((with_reducible apply awS_skip); (try simp only [CTS, ↓reduceIte, Nat.reduceEqDiff]))
 | ((with_reducible apply awS_ret); (try simp only [CTS, ↓reduceIte, Nat.reduceEqDiff]))
 | ((with_reducible apply awS_cond_true); (· exact sv))
 | ((with_reducible apply awS_cond_false); (· exact sv))
 | (refine KontS.go ‹KontS _ _ _ _ _ _› _ _ ?_)
 | ((with_reducible apply awSO_m); (· rfl); (· rfl); (· exact sv); (· (first | exact cp _ (by omega) | exact ce _ (by omega))); (· exact svq); (· exact svq); (· exact svq); (· exact svq); (· rfl); (· exact nd); (with_reducible apply awSO_st); (· exact svs))
 | ((with_reducible apply awS_cond); (· exact sv); all_goals (intro hg; (try simp only [decide_eq_true_eq, decide_eq_false_iff_not, Bool.not_true, Bool.not_false, Bool.not_eq_true', Bool.not_eq_false', Bool.not_not, beq_eq_false_iff_ne, ne_eq, beq_iff_eq, decide_eq_decide] at hg); try (exfalso; omega)))
 | ((try with_reducible apply wk_id); (with_reducible apply retQ_mk1); (· exact rI); (· exact sv); (· exact sv); (· exact sv); (· exact sv); rotate_left; rotate_left; (· simp); (· rfl)))
            all_goals first | rfl | (simp only; rw [if_neg he]; done)
      have hcp : atB s p ≠ 33 ∨ plB s p = true := .inl (by intro h; exact k33 (by rw [← hat, h]; rfl))
      repeat' (first
 | ((with_reducible apply awSO_next); (· rfl); (· rfl); (· exact sv); (· rfl); (· exact nd); all_goals (intro hg; try (exfalso; omega)))
 | ((with_reducible apply awSO_ev); (· rfl); (· exact sv))
 | ((with_reducible apply awS_seq); intro _ _)
 | ((with_reducible apply awS_region))
 | ((with_reducible apply awS_block))
 | ((with_reducible apply awSO_nil); (try simp only [CTS, ↓reduceIte, Nat.reduceEqDiff]))
 | ((with_reducible apply awS_skip); (try simp only [CTS, ↓reduceIte, Nat.reduceEqDiff]))
 | ((with_reducible apply awS_cond_true); (· exact sv))
 | (refine KontS.go ‹KontS _ _ _ _ _ _› _ _ ?_)
 | ((with_reducible apply awS_cond); (· exact sv); all_goals (intro hg; (try simp only [decide_eq_true_eq, decide_eq_false_iff_not, Bool.not_true, Bool.not_false, Bool.not_eq_true', Bool.not_eq_false', Bool.not_not, beq_eq_false_iff_ne, ne_eq, beq_iff_eq, decide_eq_decide] at hg); try (exfalso; omega))))
      refine LES_mk (p + (Utf8.decode (str s) p).2, nx, dn, db, sh, out) ⟨by simp only; omega, h2, h3, by simp only; omega, h5, ?_⟩ (by simp only; omega) rfl sN sN ⟨rfl, trivial⟩
      simp only
      rw [d2, Nat.max_eq_left (by omega)]
      have := h6.keep hl (by omega) hp hcp
      rwa [hkp] at this
    · by_cases hnx : p < nx
      · skip
        repeat' (first
 | ((with_reducible apply awSO_next); (· rfl); (· rfl); (· exact sv); (· rfl); (· exact nd); all_goals (intro hg; try (exfalso; omega)))
 | ((with_reducible apply awSO_ev); (· rfl); (· exact sv))
 | ((with_reducible apply awS_seq); intro _ _)
 | ((with_reducible apply awS_region))
 | ((with_reducible apply awS_block))
 | ((with_reducible apply awSO_nil); (try simp only [CTS, ↓reduceIte, Nat.reduceEqDiff]))
 | ((with_reducible apply awS_exit); (try simp only [CTS, ↓reduceIte, Nat.reduceEqDiff]))
 | ((with_reducible apply awS_skip); (try simp only [CTS, ↓reduceIte, Nat.reduceEqDiff]))
 | ((with_reducible apply awS_cond_true); (· exact sv))
 | (refine KontS.go ‹KontS _ _ _ _ _ _› _ _ ?_)
 | ((with_reducible apply awS_cond); (· exact sv); all_goals (intro hg; (try simp only [decide_eq_true_eq, decide_eq_false_iff_not, Bool.not_true, Bool.not_false, Bool.not_eq_true', Bool.not_eq_false', Bool.not_not, beq_eq_false_iff_ne, ne_eq, beq_iff_eq, decide_eq_decide] at hg); try (exfalso; omega))))
        refine LES_mk (p + (Utf8.decode (str s) p).2, nx, dn, db, sh, out) ⟨r5, h2, h3, by simp only; omega, h5, ?_⟩ (by simp only; omega) rfl sN sN ⟨rfl, trivial⟩
        simp only
        rw [Nat.max_eq_right (by omega)] at h6
        rcases Nat.le_total (p + (Utf8.decode (str s) p).2) nx with hle | hle
        · rw [Nat.max_eq_right hle]; exact h6
        · rw [Nat.max_eq_left hle]
          exact h6.run hl (by omega) hle r5 (fun j hj hj' => r6 j (by omega) hj')
      · skip
        repeat' (first
 | ((with_reducible apply awSO_next); (· rfl); (· rfl); (· exact sv); (· rfl); (· exact nd); all_goals (intro hg; try (exfalso; omega)))
 | ((with_reducible apply awSO_ev); (· rfl); (· exact sv))
 | ((with_reducible apply awS_seq); intro _ _)
 | ((with_reducible apply awS_region))
 | ((with_reducible apply awS_block))
 | ((with_reducible apply awSO_nil); (try simp only [CTS, ↓reduceIte, Nat.reduceEqDiff]))
 | ((with_reducible apply awS_skip); (try simp only [CTS, ↓reduceIte, Nat.reduceEqDiff]))
 | ((with_reducible apply awS_cond_true); (· exact sv))
 | (refine KontS.go ‹KontS _ _ _ _ _ _› _ _ ?_)
 | ((with_reducible apply awS_cond); (· exact sv); all_goals (intro hg; (try simp only [decide_eq_true_eq, decide_eq_false_iff_not, Bool.not_true, Bool.not_false, Bool.not_eq_true', Bool.not_eq_false', Bool.not_not, beq_eq_false_iff_ne, ne_eq, beq_iff_eq, decide_eq_decide] at hg); try (exfalso; omega))))
        refine LES_mk (p + (Utf8.decode (str s) p).2, nx, dn, db, sh, out) ⟨r5, h2, h3, by simp only; omega, h5, ?_⟩ (by simp only; omega) rfl sN sN ⟨rfl, trivial⟩
        simp only
        rw [Nat.max_eq_left (by omega)] at h6 ⊢
        exact h6.run hl (by omega) (by omega) r5 r6
  · have hfin := h6.fin (by omega)
    subst hfin
    repeat' (first
 | ((with_reducible apply awSO_ws); (· rfl); (· rfl); (· exact sv); (· exact ws_wrs); (· (first | omega | (simp only [List.length_append, List.length_take, List.length_drop, List.length_cons, List.length_nil]; omega))); (· rfl); (· exact nd))
 | ((with_reducible apply awSO_str); (· rfl); (· rfl); (· exact sv); (· exact str_wrk); (· rfl); (· exact nd))
 | ((with_reducible apply awSO_next); (· rfl); (· rfl); (· exact sv); (· rfl); (· exact nd); all_goals (intro hg; try (exfalso; omega)))
 | ((with_reducible apply awSO_ev); (· rfl); (· exact sv))
 | ((with_reducible apply awS_seq); intro _ _)
 | ((with_reducible apply awS_region))
 | ((with_reducible apply awSO_nil); (try simp only [CTS, ↓reduceIte, Nat.reduceEqDiff]))
 | ((with_reducible apply awS_exit); (try simp only [CTS, ↓reduceIte, Nat.reduceEqDiff]))
 | ((with_reducible apply awS_ret); (try simp only [CTS, ↓reduceIte, Nat.reduceEqDiff]))
 | ((with_reducible apply awS_cond_false); (· exact sv))
 | (refine KontS.go ‹KontS _ _ _ _ _ _› _ _ ?_)
 | ((try with_reducible apply wk_id); (with_reducible apply retQ_mk1); (· exact rI); (· exact sv); (· exact sv); (· exact sv); (· exact sv); rotate_left; rotate_left; (· simp); (· rfl)))
    all_goals rfl
end
end Go.Proofs.YtgbhjlkenfmadaaGreatDoor
