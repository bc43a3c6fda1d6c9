/- Patterns: what the laws ask, plain. -/
import Derived.Test.YtllhcgfdjfmmeaaPuG
import Derived.Test.YtllhcgfdjfmmeaaPuH
import Derived.Test.YtllhcgfdjfmmeaaPuI
namespace Go.Proofs.Ytllhcgfdjfmmeaa
set_option linter.unusedVariables false
set_option linter.unusedSimpArgs false
/-! ### Quoted bytes -/
def inC (c : UInt8) : Cx := ⟨c, false⟩
theorem isC_in (c : UInt8) (r : List Cx) (b : UInt8) : isC (inC c :: r) 0 b = false := rfl
theorem compl_in (c : UInt8) (r : List Cx) : compl (inC c :: r) = byI c :: compl r := by
  rw [compl_cons, isC_in, isC_in, if_neg (by simp), if_neg (by simp), bkt, isC_in, if_neg (by simp)]; rfl
theorem compl_quoted (q : List Cx) : ∀ s : List UInt8, compl (s.map inC ++ q) = s.map byI ++ compl q
  | [] => rfl
  | c :: s => by rw [List.map_cons, List.cons_append, compl_in, compl_quoted q s]; rfl
theorem chs_quoted (s : List UInt8) (L : List El) : chs (⟨s, 1⟩ :: L) = s.map inC ++ chs L := by
  simp [chs, chOf, inC]
theorem Mt_bytes : ∀ (s t : List UInt8), Mt (s.map byI) t ↔ t = s
  | [], t => by simp [Mt]
  | c :: s, t => by
    constructor
    · rintro ⟨u, v, rfl, h, hv⟩
      rcases h with h | ⟨b, rfl, h⟩
      · simp [byI] at h
      · have e : c = b := by simpa [tks, byI] using h
        rw [(Mt_bytes s v).1 hv, e]; rfl
    · rintro rfl
      exact ⟨[c], s, rfl, .inr ⟨c, rfl, by simp [tks, byI]⟩, (Mt_bytes s s).2 rfl⟩
theorem mtB_iff {p : List It} (hv : vld p = true) (s : List UInt8) : mtB p s = true ↔ Mt p s := by
  rw [mtB, hv, Bool.true_and, mR_iff p s (Nat.le_refl _), List.take_length]
theorem vld_bytes (s : List UInt8) : vld (s.map byI) = true := by simp [vld, vIt, byI, asc, ascP]
theorem byt_bytes (s : List UInt8) : byt (s.map byI) = true := by simp [byt, byI]
theorem txt_bytes (s : List UInt8) : txt (s.map byI) = s := by
  induction s with
  | nil => rfl
  | cons c s ih => simp only [txt, List.map_cons, List.flatMap_cons] at ih ⊢; rw [ih]; rfl
theorem lit_bytes (s : List UInt8) : litO (s.map byI) = some s := by rw [litO, if_pos ⟨vld_bytes s, byt_bytes s⟩, txt_bytes]
theorem mt_bytes (s t : List UInt8) : mtB (s.map byI) t = decide (s = t) := by
  rw [Bool.eq_iff_iff, mtB_iff (vld_bytes s), Mt_bytes]; simp [eq_comm]
theorem vld_append (p q : List It) : vld (p ++ q) = (vld p && vld q) := by simp [vld]
theorem mt_join (s t : List UInt8) {q : List It} (hq : vld q = true) : mtB (s.map byI ++ q) (s ++ t) = mtB q t := by
  rw [Bool.eq_iff_iff, mtB_iff (by rw [vld_append, vld_bytes, hq]; rfl), mtB_iff hq, Mt_append]
  constructor
  · rintro ⟨u, v, e, hu, hv⟩
    rw [Mt_bytes] at hu
    subst hu
    rw [List.append_cancel_left e]; exact hv
  · intro h
    exact ⟨s, t, rfl, (Mt_bytes s s).2 rfl, h⟩
/-! ### Beginnings -/
theorem scn_isSome (f : Nat → Bool) (lg : Bool) : ∀ n, (scn f lg n).isSome = true ↔ ∃ k, k < n ∧ f k = true
  | 0 => by simp [scn]
  | n + 1 => by
    have ih := scn_isSome f lg n
    rw [scn]
    split
    · next h => exact ⟨fun _ => ⟨n, by omega, h.1⟩, fun _ => rfl⟩
    · next h =>
      rw [ih]
      constructor
      · rintro ⟨k, h1, h2⟩; exact ⟨k, by omega, h2⟩
      · rintro ⟨k, h1, h2⟩
        by_cases e : k = n
        · subst e
          have hn : ¬ (lg = true ∨ scn f lg k = none) := fun h3 => h ⟨h2, h3⟩
          have : scn f lg k ≠ none := fun h3 => hn (.inr h3)
          have hs : (scn f lg k).isSome = true := by cases hq : scn f lg k <;> simp_all
          exact ih.1 hs
        · exact ⟨k, by omega, h2⟩
theorem scn_min (f : Nat → Bool) : ∀ n k, scn f false n = some k → ∀ j, j < k → f j = false
  | 0, k, h => by simp [scn] at h
  | n + 1, k, h => by
    rw [scn] at h
    split at h
    · next hc =>
      injection h with h
      subst h
      intro j hj
      have hn : scn f false n = none := by rcases hc.2 with h | h; cases h; exact h
      cases hf : f j with
      | false => rfl
      | true =>
        have := (scn_isSome f false n).2 ⟨j, hj, hf⟩
        rw [hn] at this; cases this
    · exact scn_min f n k h
theorem pfx_pair (p : List It) (s : List UInt8) : pfx p s false = none ∧ pfx p s true = none ∨ ∃ a b, pfx p s false = some a ∧ pfx p s true = some b ∧ a ≤ b ∧ b ≤ s.length ∧ mtB p (s.take a) = true ∧ mtB p (s.take b) = true := by
  unfold pfx
  cases hv : vld p with
  | false => left; simp
  | true =>
    rw [if_pos rfl, if_pos rfl]
    have e : (scn (mR p s p.length) false (s.length + 1)).isSome = (scn (mR p s p.length) true (s.length + 1)).isSome := by
      rw [Bool.eq_iff_iff, scn_isSome, scn_isSome]
    cases h1 : scn (mR p s p.length) false (s.length + 1) with
    | none =>
      left
      refine ⟨rfl, ?_⟩
      rw [h1] at e
      cases h2 : scn (mR p s p.length) true (s.length + 1) with
      | none => rfl
      | some b => rw [h2] at e; cases e
    | some a =>
      right
      rw [h1] at e
      cases h2 : scn (mR p s p.length) true (s.length + 1) with
      | none => rw [h2] at e; cases e
      | some b =>
        obtain ⟨a1, a2⟩ := scn_lt _ _ _ _ h1
        obtain ⟨b1, b2⟩ := scn_lt _ _ _ _ h2
        have hm : ∀ k, k < s.length + 1 → mR p s p.length k = true → mtB p (s.take k) = true := fun k hk h => by
          rw [mtB, hv, Bool.true_and, List.length_take, Nat.min_eq_left (by omega), ← mR_loc p s (by omega)]; exact h
        refine ⟨a, b, rfl, rfl, ?_, by omega, hm a a1 a2, hm b b1 b2⟩
        refine Nat.le_of_not_lt fun hlt => ?_
        rw [scn_min _ _ _ h1 b hlt] at b2
        cases b2
theorem mt_star (p : List It) (u : List UInt8) : mtB (p ++ [stI]) u = (pfx p u false).isSome := by
  have hvs : vld (p ++ [stI]) = vld p := by rw [vld_append]; simp [vld, vIt, stI, asc, ascP]
  unfold pfx
  cases hv : vld p with
  | false => rw [mtB, hvs, hv]; rfl
  | true =>
    rw [if_pos rfl, Bool.eq_iff_iff, mtB_iff (by rw [hvs, hv]), Mt_append, scn_isSome]
    constructor
    · rintro ⟨v, w, rfl, h1, h2⟩
      refine ⟨v.length, by simp; omega, (mR_iff p (v ++ w) (by simp)).2 ?_⟩
      rw [List.take_left']
      · exact h1
      · rfl
    · rintro ⟨k, hk, h⟩
      refine ⟨u.take k, u.drop k, (List.take_append_drop k u).symm, (mR_iff p u (by omega)).1 h, (Mt_one _ _).2 (.inl rfl)⟩
/-! ### Runs of a pattern -/
def acC (c : UInt8) : Cx := ⟨c, true⟩
def bdC (s : List Sn) : List Cx := s.flatMap fun x => [inC x.l, acC 45, inC x.h]
theorem mb_span (l h : UInt8) (r : List Cx) : mbN (inC l :: acC 45 :: inC h :: r) = 3 ∧ mbL (inC l :: acC 45 :: inC h :: r) = if l.toNat ≤ h.toNat then [⟨l, h⟩] else [] := by
  have hc : clB (inC l :: acC 45 :: inC h :: r) 0 = false := by unfold clB; rw [isC_in]; rfl
  have hr : rgB (inC l :: acC 45 :: inC h :: r) = true := by simp [rgB, isC, acC, inC]
  rw [mbN, mbL, hc, hr]
  exact ⟨rfl, rfl⟩
theorem brL_body (rest : List Cx) : ∀ (s : List Sn) (n : Nat) (f : Bool) (sp : List Sn), (bdC s ++ acC 93 :: rest).length < n → (s = [] → f = false) → (∀ x ∈ s, x.l.toNat ≤ x.h.toNat) → brL n (bdC s ++ acC 93 :: rest) f sp = some (sp ++ s, rest)
  | [], n, f, sp, hn, hf, _ => by
    rw [List.append_nil]
    exact brL_stop hn (by simp [bdC]) rfl (hf rfl)
  | x :: s, n, f, sp, hn, hf, hx => by
    have e : bdC (x :: s) ++ acC 93 :: rest = inC x.l :: acC 45 :: inC x.h :: (bdC s ++ acC 93 :: rest) := rfl
    rw [e] at hn ⊢
    obtain ⟨m1, m2⟩ := mb_span x.l x.h (bdC s ++ acC 93 :: rest)
    obtain ⟨m, h1, h2⟩ := brL_more (sp := sp) (f := f) hn (by simp) (.inl rfl)
    rw [m1] at h1 h2
    rw [m2, if_pos (hx x (List.mem_cons_self ..))] at h2
    rw [h2]
    have := brL_body rest s m false (sp ++ [x]) h1 (fun _ => rfl) (fun y hy => hx y (List.mem_cons_of_mem _ hy))
    rw [show sp ++ x :: s = sp ++ [x] ++ s by simp]
    exact this
theorem brL_none (rest : List Cx) {n : Nat} (hn : (inC 98 :: acC 45 :: inC 97 :: acC 93 :: rest).length < n) : brL n (inC 98 :: acC 45 :: inC 97 :: acC 93 :: rest) true [] = some ([], rest) := by
  obtain ⟨m1, m2⟩ := mb_span 98 97 (acC 93 :: rest)
  obtain ⟨m, h1, h2⟩ := brL_more (sp := []) (f := true) hn (by simp) (.inl rfl)
  rw [m1] at h1 h2
  rw [m2, if_neg (by decide)] at h2
  rw [h2]
  exact brL_body rest [] m false [] h1 (fun _ => rfl) (fun y hy => by cases hy)
theorem asc_le {s : List Sn} (h : asc s = true) : ∀ x ∈ s, x.l.toNat ≤ x.h.toNat := fun x hx => by
  cases hz : s.getLast? with
  | none => rw [List.getLast?_eq_none_iff.1 hz] at hx; cases hx
  | some z => exact (asc_bound s none h z hz x hx).1
def bodyC (s : List Sn) : List Cx := if s.length = 0 then [inC 98, acC 45, inC 97] else bdC s
theorem brL_set (rest : List Cx) {s : List Sn} (h : asc s = true) {n : Nat} (hn : (bodyC s ++ acC 93 :: rest).length < n) : brL n (bodyC s ++ acC 93 :: rest) true [] = some (s, rest) := by
  unfold bodyC at hn ⊢
  by_cases h0 : s.length = 0
  · rw [if_pos h0] at hn ⊢
    obtain rfl : s = [] := List.eq_nil_of_length_eq_zero h0
    exact brL_none rest hn
  · rw [if_neg h0] at hn ⊢
    have := brL_body rest s n true [] hn (fun e => by rw [e] at h0; simp at h0) (asc_le h)
    exact this
theorem body_head (s : List Sn) : ∃ c r, bodyC s = inC c :: r := by
  unfold bodyC
  split
  · exact ⟨98, _, rfl⟩
  · next h =>
    cases s with
    | nil => simp at h
    | cons x s => exact ⟨x.l, _, rfl⟩
theorem brk_set (rest : List Cx) (x : It) (h : asc x.s = true) : brk (acC 91 :: ((if x.n = true then [acC 33] else []) ++ (bodyC x.s ++ acC 93 :: rest))) = some (⟨4, [], x.n, x.s⟩, rest) := by
  cases hn : x.n with
  | true =>
    simp only [if_true, List.cons_append, List.nil_append]
    have e : ngB (acC 91 :: acC 33 :: (bodyC x.s ++ acC 93 :: rest)) = true := rfl
    unfold brk
    rw [e]
    simp only [if_true, List.drop_succ_cons, List.drop_zero]
    rw [brL_set rest h (by simp; omega)]
    simp only [stp_asc _ x.s (Nat.le_refl _) h]
  | false =>
    simp only [Bool.false_eq_true, if_false, List.nil_append]
    obtain ⟨c, r, hb⟩ := body_head x.s
    have e : ngB (acC 91 :: (bodyC x.s ++ acC 93 :: rest)) = false := by
      rw [hb]; rfl
    unfold brk
    rw [e]
    simp only [Bool.false_eq_true, if_false, List.drop_succ_cons, List.drop_zero]
    rw [brL_set rest h (by simp; omega)]
    simp only [stp_asc _ x.s (Nat.le_refl _) h]
theorem chs_sp (s : List Sn) : chs (s.flatMap spR) = bdC s := by
  induction s with
  | nil => rfl
  | cons x s ih => rw [List.flatMap_cons, chs_append, ih]; rfl
theorem chs_stR (x : It) : chs (stR x) = acC 91 :: ((if x.n = true then [acC 33] else []) ++ (bodyC x.s ++ [acC 93])) := by
  rw [stR, show ∀ (a : El) (L : List El), a :: L = [a] ++ L from fun _ _ => rfl, chs_append, chs_append, chs_append, chs_sp]
  have e1 : chs [opR x.n] = acC 91 :: (if x.n = true then [acC 33] else []) := by cases x.n <;> rfl
  rw [e1]
  unfold bodyC
  by_cases h0 : x.s.length = 0
  · rw [if_pos h0, if_pos h0, List.eq_nil_of_length_eq_zero h0]; simp [bdC]; rfl
  · rw [if_neg h0, if_neg h0]; simp [chs]; rfl
theorem compl_item (x : It) (rest : List Cx) (h : vIt x = true) : compl (chs (itR x) ++ rest) = x :: compl rest := by
  simp only [vIt, Bool.and_eq_true, decide_eq_true_eq, Bool.or_eq_true, Bool.not_eq_true'] at h
  obtain ⟨⟨⟨⟨k1, k4⟩, ht⟩, hs⟩, ha⟩ := h
  obtain ⟨k, t, n, s⟩ := x
  simp only at k1 k4 ht hs ha
  unfold itR
  by_cases e1 : k = 1
  · subst e1
    rw [if_pos rfl] at ht ⊢
    rcases hs with hs | ⟨hn, hs⟩
    · omega
    subst hn
    obtain rfl := List.eq_nil_of_length_eq_zero hs
    match t, ht with
    | [b], _ => exact compl_in b rest
  · rw [if_neg e1] at ht ⊢
    obtain rfl := List.eq_nil_of_length_eq_zero ht
    by_cases e4 : k = 4
    · subst e4
      rw [if_neg (by simp), if_neg (by simp), chs_stR]
      have hb := brk_set rest ⟨4, [], n, s⟩ ha
      simp only at hb
      have e : acC 91 :: ((if n = true then [acC 33] else []) ++ (bodyC s ++ [acC 93])) ++ rest = acC 91 :: ((if n = true then [acC 33] else []) ++ (bodyC s ++ acC 93 :: rest)) := by simp
      rw [e, compl_cons, bkt, hb]
      rfl
    · rcases hs with hs | ⟨hn, hs⟩
      · exact absurd hs e4
      subst hn
      obtain rfl := List.eq_nil_of_length_eq_zero hs
      by_cases e2 : k = 2
      · subst e2
        rw [if_pos rfl]
        show compl (acC 63 :: rest) = _
        rw [compl_cons]; rfl
      · obtain rfl : k = 3 := by omega
        rw [if_neg (by simp), if_pos rfl]
        show compl (acC 42 :: rest) = _
        rw [compl_cons]; rfl
theorem compl_runs : ∀ (p : List It), vld p = true → compl (chs (runR p)) = p
  | [], _ => rfl
  | x :: p, h => by
    have h1 : vIt x = true ∧ vld p = true := by simpa [vld] using h
    rw [show runR (x :: p) = itR x ++ runR p from rfl, chs_append, compl_item x _ h1.1, compl_runs p h1.2]
end Go.Proofs.Ytllhcgfdjfmmeaa
