/- The words of a line, joined by blanks, are the words of the joined line. No program is named here. -/
import Derived.Test.YtgbhjlkenfmadaaGreatDoorLxJ
import Derived.Test.YtgbhjlkenfmadaaGreatDoorBgX
namespace Go.Proofs.YtgbhjlkenfmadaaGreatDoor
open Go.RowKit
set_option linter.unusedVariables false
set_option linter.unusedSimpArgs false
theorem oper_bl {a b : List UInt8} : operB (a ++ 32 :: b) = false := by
  have hm : (32 : UInt8) ∈ a ++ 32 :: b := by simp
  generalize a ++ 32 :: b = w at *
  cases hw : operB w with
  | false => rfl
  | true =>
    exfalso
    simp only [operB, decide_eq_true_eq] at hw
    rcases hw with rfl | rfl | rfl | rfl | rfl | rfl | rfl | rfl | rfl | rfl | rfl | rfl | rfl | rfl | rfl | rfl | rfl | rfl <;> exact absurd hm (by decide)
theorem oper_first {c : UInt8} {r : List UInt8} (h : opB c = false) (h10 : c.toNat ≠ 10) : operB (c :: r) = false := by
  cases hw : operB (c :: r) with
  | false => rfl
  | true =>
    exfalso
    simp only [operB, decide_eq_true_eq, List.cons.injEq] at hw
    simp only [opB, decide_eq_false_iff_not] at h
    rcases hw with ⟨rfl, _⟩ | ⟨rfl, _⟩ | ⟨rfl, _⟩ | ⟨rfl, _⟩ | ⟨rfl, _⟩ | ⟨rfl, _⟩ | ⟨rfl, _⟩ | ⟨rfl, _⟩ | ⟨rfl, _⟩ | ⟨rfl, _⟩ | ⟨rfl, _⟩ | ⟨rfl, _⟩ | ⟨rfl, _⟩ | ⟨rfl, _⟩ | ⟨rfl, _⟩ | ⟨rfl, _⟩ | ⟨rfl, _⟩ | ⟨rfl, _⟩ <;> first | exact h10 rfl | exact h (by decide)
theorem opN_zero {c : UInt8} {r : List UInt8} (h : opB c = false) (h10 : c.toNat ≠ 10) : opN (c :: r) = 0 := by
  have : ∀ k, opK (c :: r) k = 0 := fun k => by
    induction k with
    | zero => rfl
    | succ k ih => rw [opK, List.take_succ_cons, oper_first h h10, if_neg (by simp), ih]
  exact this _
theorem opK_val {l : List UInt8} {m : Nat} : ∀ k, opK l k = m + 1 → operB (l.take (m + 1)) = true
  | 0, h => by cases h
  | k + 1, h => by
    rw [opK] at h
    by_cases ho : operB (l.take (k + 1)) = true
    · rw [if_pos ho] at h
      injection h with h; subst h; exact ho
    · rw [if_neg ho] at h; exact opK_val k h
theorem opK_max {l : List UInt8} {m : Nat} (hm : operB (l.take (m + 1)) = true) : ∀ k, m + 1 ≤ k → (∀ j, m + 1 < j → j ≤ k → operB (l.take j) = false) → opK l k = m + 1
  | 0, h, _ => by omega
  | k + 1, h, hj => by
    rw [opK]
    by_cases he : k = m
    · subst he; rw [if_pos hm]
    · rw [hj (k + 1) (by omega) (Nat.le_refl _), if_neg (by simp), opK_max hm k (by omega) (fun j h1 h2 => hj j h1 (by omega))]
/-- An operator with a blank, or nothing, behind it. -/
theorem opN_two {l t' : List UInt8} (ht' : Tb t') (h : 0 < opN l) : opN (l.take (opN l) ++ t') = opN l ∧ (l.take (opN l)).length = opN l := by
  obtain ⟨m, hm⟩ : ∃ m, opN l = m + 1 := ⟨opN l - 1, by omega⟩
  have hle : opN l ≤ min 3 l.length := opK_le l _
  have hv : operB (l.take (m + 1)) = true := opK_val _ hm
  rw [hm] at hle ⊢
  have hlen : (l.take (m + 1)).length = m + 1 := by rw [List.length_take]; omega
  refine ⟨?_, hlen⟩
  generalize l.take (m + 1) = w at *
  unfold opN
  have h0 : (w ++ t').take (m + 1) = w := by rw [← hlen, List.take_left']; rfl
  refine opK_max (by rw [h0]; exact hv) _ (by rw [List.length_append]; omega) (fun j h1 h2 => ?_)
  rcases ht' with rfl | ⟨y, rfl⟩
  · rw [List.append_nil] at h2; omega
  · have : (w ++ 32 :: y).take j = w ++ 32 :: y.take (j - (m + 1) - 1) := by
      rw [List.take_append, List.take_of_length_le (by omega), hlen]
      obtain ⟨q, hq⟩ : ∃ q, j - (m + 1) = q + 1 := ⟨j - (m + 1) - 1, by omega⟩
      rw [hq, List.take_succ_cons]; rfl
    rw [this, oper_bl]
/-- What a word stops at. -/
theorem wrd_end : ∀ (n : Nat) (l : List UInt8) (o : Nat), l.length ≤ n → (wrd l o).2 = 0 → Tl (l.drop ((wrd l o).1 - o)) := by
  intro n
  induction n with
  | zero =>
    intro l o hl h
    obtain rfl : l = [] := List.eq_nil_of_length_eq_zero (by omega)
    exact .inl (by simp)
  | succ n ih =>
    intro l o hl h
    cases l with
    | nil => exact .inl (by simp)
    | cons c r =>
      simp only [List.length_cons] at hl
      rw [wrd] at h ⊢
      by_cases hc : divB c = true
      · rw [if_pos hc]; exact .inr ⟨c, r, by simp, hc⟩
      rw [if_neg hc] at h ⊢
      by_cases hp : (pas (c :: r) 0).2 = 0
      · obtain ⟨a, b, _, _⟩ := pas_ok (l := c :: r) 0 (by simp)
        have hb := b hp
        simp only [List.length_cons] at a
        rw [if_neg (by simpa using hp), if_neg (by omega)] at h ⊢
        have h2 := ih _ _ (by simp only [List.length_drop]; omega) h
        have h3 := (wrd_ok _ (r.drop ((pas (c :: r) 0).1 - 1)) (o + (pas (c :: r) 0).1) (Nat.le_refl _)).1
        rw [List.drop_drop] at h2
        rw [show (wrd (r.drop ((pas (c :: r) 0).1 - 1)) (o + (pas (c :: r) 0).1)).1 - o = ((pas (c :: r) 0).1 - 1 + ((wrd (r.drop ((pas (c :: r) 0).1 - 1)) (o + (pas (c :: r) 0).1)).1 - (o + (pas (c :: r) 0).1))) + 1 from by omega, List.drop_succ_cons]
        exact h2
      · rw [if_pos hp] at h; exact absurd h hp
/-- A word that is read as one word with a blank, or nothing, behind it. -/
def Wd (w : List UInt8) : Prop := ∃ c r, w = c :: r ∧ blankB c = false ∧ c.toNat ≠ 35 ∧ c.toNat ≠ 10 ∧ (∀ d ∈ r, d.toNat ≠ 10) ∧ ∀ t', Tb t' → (opN (w ++ t') = w.length ∨ (opN (w ++ t') = 0 ∧ wrd (w ++ t') 0 = (w.length, 0)))
theorem clp_nat' {a n : Nat} (h : a ≤ n) : clp (a : Int) n = a := by unfold clp; omega
theorem skp_nat' {s : List UInt8} {a : Nat} (h : a ≤ s.length) : skp s a = a + skpN (s.drop a) := by rw [skp, clp_nat' h]
/-- The tokens of a line without # and line feeds. -/
theorem next_wd {s : List UInt8} {a : Nat} (ha : a ≤ s.length) (hs : ∀ c ∈ s, c.toNat ≠ 35 ∧ c.toNat ≠ 10) (h : (nextF s a).2 = 0) (hk : (nextF s a).1.kind ≠ 5) : Wd (nextF s a).1.text ∧ kindB (nextF s a).1 = true := by
  by_cases h16 : 16384 < s.length
  · unfold nextF at h; rw [if_pos h16] at h; cases h
  have hp := nxt_pos h hk
  unfold nextF at h hk hp ⊢
  rw [if_neg h16] at h hk hp ⊢
  have hnb := skpN_nb _ (s.drop a) (Nat.le_refl _)
  rw [List.drop_drop, ← skp_nat' ha] at hnb
  generalize skp s a = b at *
  have hmem : ∀ c ∈ s.drop b, c.toNat ≠ 35 ∧ c.toNat ≠ 10 := fun c hc => hs c (List.mem_of_mem_drop hc)
  have hdl : (s.drop b).length = s.length - b := List.length_drop
  unfold nxt at h hk hp ⊢
  generalize s.drop b = l at *
  cases l with
  | nil => exact absurd rfl hk
  | cons c r =>
    have hb : blankB c = false := by
      rcases hnb with h' | ⟨d, u, h', hb⟩
      · cases h'
      · injection h' with h1 h2; rw [h1]; exact hb
    have hc := hmem c List.mem_cons_self
    simp only at h hk hp ⊢
    rw [if_neg hc.2] at h hk hp ⊢
    by_cases ho : 0 < opN (c :: r)
    · rw [if_pos ho]
      have h2 := fun t' ht' => opN_two (l := c :: r) (t' := t') ht' ho
      refine ⟨?_, by simp [kindB]⟩
      simp only
      generalize opN (c :: r) = m at *
      obtain ⟨m, rfl⟩ : ∃ k, m = k + 1 := ⟨m - 1, by omega⟩
      refine ⟨c, r.take m, by rw [List.take_succ_cons], hb, hc.1, hc.2, fun d hd => (hmem d (List.mem_cons_of_mem _ (List.mem_of_mem_take hd))).2, fun t' ht' => .inl ?_⟩
      have := h2 t' ht'
      rw [this.1, this.2]
    · rw [if_neg ho] at h hk hp ⊢
      by_cases hw : (wrd (c :: r) 0).2 = 0
      · rw [if_neg (by simpa using hw)] at hp ⊢
        have hwl := (wrd_ok _ (c :: r) 0 (Nat.le_refl _)).2.1
        have hend := wrd_end _ (c :: r) 0 (Nat.le_refl _) hw
        have hop : opB c = false := by
          cases hop : opB c with
          | false => rfl
          | true =>
            exfalso
            have := opK_pos (l := c :: r) (by exact opB_oper hop) (min 3 (c :: r).length) (by simp only [List.length_cons]; omega)
            unfold opN at ho
            omega
        simp only at hp ⊢
        have hwe : wrd (c :: r) 0 = ((wrd (c :: r) 0).1, 0) := by rw [← hw]
        rw [Nat.sub_zero] at hend
        generalize (wrd (c :: r) 0).1 = k at *
        obtain ⟨k, rfl⟩ : ∃ j, k = j + 1 := ⟨k - 1, by omega⟩
        refine ⟨⟨c, r.take k, by rw [List.take_succ_cons], hb, hc.1, hc.2, fun d hd => (hmem d (List.mem_cons_of_mem _ (List.mem_of_mem_take hd))).2, fun t' ht' => .inr ⟨?_, ?_⟩⟩, ?_⟩
        · rw [List.take_succ_cons, List.cons_append]; exact opN_zero hop hc.2
        · have hlen : ((c :: r).take (k + 1)).length = k + 1 := by rw [List.length_take]; omega
          have := wrd_two hend ht' _ ((c :: r).take (k + 1)) 0 (Nat.le_refl _) (fun d hd => (hmem d (List.mem_of_mem_take hd)).1) (by rw [List.take_append_drop, hwe]) (by rw [List.take_append_drop, hwe, hlen]; omega)
          rw [this, List.take_append_drop, hwe, hlen]
        · unfold kindB
          simp only
          split <;> simp
      · rw [if_pos hw] at h; exact absurd h hw
theorem skpN_wd {w t' : List UInt8} (hw : Wd w) (ht' : Tb t') : skpN (w ++ t') = 0 := by
  obtain ⟨c, r, rfl, hb, h35, h10, hr, _⟩ := hw
  rw [List.cons_append, skpN_cons, hb, if_neg (by simp), if_neg, if_neg h35]
  cases r with
  | nil =>
    rcases ht' with rfl | ⟨y, rfl⟩ <;> simp [joinB]
  | cons d u =>
    have := hr d List.mem_cons_self
    simp [joinB, this]
/-- Such a word is the next token. -/
theorem next_of_wd {u w t' : List UInt8} {a b : Nat} (hu : u.length ≤ 16384) (hb : skp u a = b) (hd : u.drop b = w ++ t') (hw : Wd w) (ht' : Tb t') : (nextF u a).2 = 0 ∧ (nextF u a).1.kind ≠ 5 ∧ (nextF u a).1.text = w ∧ (nextF u a).1.fin = b + w.length ∧ kindB (nextF u a).1 = true := by
  unfold nextF
  rw [if_neg (by omega), hb]
  have ht : (w ++ t').take w.length = w := List.take_left
  obtain ⟨c, r, hwc, _, _, h10, _, ho⟩ := hw
  have ho := ho t' ht'
  unfold nxt
  rw [hd]
  have hwt : w ++ t' = c :: (r ++ t') := by rw [hwc]; rfl
  have hpos : 0 < w.length := by rw [hwc]; simp
  rw [hwt] at ho ht ⊢
  simp only
  rw [if_neg h10]
  rcases ho with ho | ⟨ho, hwr⟩
  · rw [ho, if_pos hpos]
    exact ⟨rfl, by simp, ht, rfl, by simp [kindB]⟩
  · rw [ho, if_neg (by omega), hwr, if_neg (by simp)]
    refine ⟨rfl, ?_, ht, rfl, ?_⟩
    · simp only; split <;> decide
    · unfold kindB; simp only; split <;> simp
theorem allT_join {u : List UInt8} (hu : u.length ≤ 16384) : ∀ (ws : List (List UInt8)), (∀ w ∈ ws, Wd w) → ∀ (sp : List UInt8) (a m : Nat), (sp = [] ∨ (sp = [32] ∧ ws ≠ [])) → a ≤ u.length → u.drop a = sp ++ jnB ws → u.length - a < m → (allT u m a).2.2 = 0 ∧ ((allT u m a).1.filter kindB).map (·.text) = ws := by
  intro ws
  induction ws with
  | nil =>
    intro _ sp a m hsp ha hd hm
    obtain ⟨m, rfl⟩ : ∃ k, m = k + 1 := ⟨m - 1, by omega⟩
    have hsp : sp = [] := by
      rcases hsp with h | ⟨_, h⟩
      · exact h
      · exact absurd rfl h
    rw [hsp, jnB, List.append_nil] at hd
    have hn : nextF u a = (⟨5, a, a, []⟩, 0) := by
      unfold nextF
      have hal : u.length ≤ a := by
        have := congrArg List.length hd
        rw [List.length_drop, List.length_nil] at this; omega
      rw [if_neg (by omega), skp_nat' ha, hd]
      exact nxt_end hal
    rw [allT, hn]
    exact ⟨rfl, rfl⟩
  | cons w ws ih =>
    intro hws sp a m hsp ha hd hm
    obtain ⟨m, rfl⟩ : ∃ k, m = k + 1 := ⟨m - 1, by omega⟩
    have hw := hws w List.mem_cons_self
    obtain ⟨t', sp', ht', hj, hsp', ht2⟩ : ∃ t' sp', Tb t' ∧ jnB (w :: ws) = w ++ t' ∧ (sp' = [] ∨ (sp' = [32] ∧ ws ≠ [])) ∧ t' = sp' ++ jnB ws := by
      cases ws with
      | nil => exact ⟨[], [], .inl rfl, by simp [jnB], .inl rfl, rfl⟩
      | cons v r => exact ⟨32 :: jnB (v :: r), [32], .inr ⟨_, rfl⟩, rfl, .inr ⟨rfl, by simp⟩, rfl⟩
    rw [hj] at hd
    have hsl : sp.length ≤ 1 := by rcases hsp with rfl | ⟨rfl, _⟩ <;> simp
    have hsk : skp u a = a + sp.length := by
      rw [skp_nat' ha, hd]
      rcases hsp with rfl | ⟨rfl, _⟩
      · rw [List.nil_append, skpN_wd hw ht']; rfl
      · rw [List.cons_append, List.nil_append, skpN_cons, if_pos (by decide), skpN_wd hw ht']; rfl
    have hd2 : u.drop (a + sp.length) = w ++ t' := by
      rw [← List.drop_drop, hd, List.drop_left]
    obtain ⟨e1, e2, e3, e4, e5⟩ := next_of_wd hu hsk hd2 hw ht'
    have hpos : 0 < w.length := by
      obtain ⟨c, r, rfl, _⟩ := hw
      simp
    have hlen := congrArg List.length hd
    simp only [List.length_drop, List.length_append] at hlen
    have hd3 : u.drop (a + sp.length + w.length) = sp' ++ jnB ws := by
      rw [← List.drop_drop, hd2, List.drop_left, ht2]
    have := ih (fun x hx => hws x (List.mem_cons_of_mem _ hx)) sp' (a + sp.length + w.length) m hsp' (by omega) hd3 (by omega)
    rw [← e4] at this
    rw [allT, if_neg (by simpa using e1), if_neg e2, if_neg (by simpa using this.1)]
    refine ⟨rfl, ?_⟩
    rw [List.filter_cons, if_pos e5, List.map_cons, e3, this.2]
theorem allT_wd {s : List UInt8} (hs : ∀ c ∈ s, c.toNat ≠ 35 ∧ c.toNat ≠ 10) : ∀ (n a : Nat), a ≤ s.length → (allT s n a).2.2 = 0 → ∀ t ∈ (allT s n a).1, kindB t = true → Wd t.text
  | 0, a, _, h, t, ht, _ => by simp [allT] at ht
  | n + 1, a, ha, h, t, ht, hkt => by
    rw [allT] at h ht
    by_cases h1 : (nextF s a).2 = 0
    · rw [if_neg (by simpa using h1)] at h ht
      by_cases h2 : (nextF s a).1.kind = 5
      · rw [if_pos h2] at ht
        simp only [List.mem_cons, List.not_mem_nil, or_false] at ht
        rw [ht] at hkt
        unfold kindB at hkt
        rw [h2] at hkt
        simp at hkt
      · rw [if_neg h2] at h ht
        have hp := nxt_pos (s := s) (z := a) h1 h2
        by_cases h3 : (allT s n (nextF s a).1.fin).2.2 = 0
        · rw [if_neg (by simpa using h3)] at ht
          simp only [List.mem_cons] at ht
          rcases ht with rfl | ht
          · exact (next_wd ha hs h1 h2).1
          · exact allT_wd hs n _ hp.2 h3 t ht hkt
        · rw [if_pos h3] at h; exact absurd h h3
    · rw [if_pos h1] at h; exact absurd h h1
/-- The law. -/
theorem words_join {s : List UInt8} (hl : s.length ≤ 5000) (hs : ∀ c ∈ s, c.toNat ≠ 35 ∧ c.toNat ≠ 10) (h : (allF s).2.2 = 0) : wordsF (jnB (wordsF s)) = wordsF s := by
  have hlen : (jnB (wordsF s)).length ≤ 16384 := by
    have h1 := words_tot s
    have h2 := jnB_tot (wordsF s)
    omega
  have hwd : ∀ w ∈ wordsF s, Wd w := by
    intro w hw
    unfold wordsF at hw
    rw [if_neg (by simpa using h)] at hw
    simp only [List.mem_map, List.mem_filter] at hw
    obtain ⟨t, ⟨ht, hk⟩, rfl⟩ := hw
    exact allT_wd hs (s.length + 2) 0 (by omega) h t ht hk
  generalize wordsF s = ws at *
  have := allT_join hlen ws hwd [] 0 ((jnB ws).length + 2) (.inl rfl) (by omega) (by simp) (by omega)
  unfold wordsF
  rw [show allF (jnB ws) = allT (jnB ws) ((jnB ws).length + 2) 0 from rfl, if_neg (by simpa using this.1)]
  exact this.2
end Go.Proofs.YtgbhjlkenfmadaaGreatDoor
