/- The document's bang: scanned and Expand, on the abstract machine. -/
import Derived.Test.YtgbhjlkenfmadaaGreatDoorBhD
import Derived.Test.YtgbhjlkenfmadaaGreatDoorBhF
import Derived.Test.YtgbhjlkenfmadaaGreatDoorBhH
import Derived.Test.YtgbhjlkenfmadaaGreatDoorBhI
import Derived.Test.YtgbhjlkenfmadaaGreatDoorBhJ
namespace Go.Proofs.YtgbhjlkenfmadaaGreatDoor
open Go.RowKit
set_option linter.unusedVariables false
set_option linter.unusedSimpArgs false
set_option maxRecDepth 100000
set_option maxHeartbeats 16000000
theorem tp3b {t t' : List UInt8} {a a' : Bool} {e e' : Int} (h1 : t = t') (h2 : a = a') (h3 : e = e') : AV.tp [.v (.string (str t)), .v (.bool a), .v (.int .i64 e)] = .tp [az t', ab a', ai e'] := by rw [h1, h2, h3]
theorem take_one {s : List UInt8} {i : Nat} (h : i < s.length) (h33 : s[i] = 33) : (s.drop i).take (i + 1 - i) = [33] := by
  rw [List.drop_eq_getElem_cons h, show i + 1 - i = 1 from by omega, h33]
  rfl
section
variable (F : Int) (L : List (List UInt8)) (s : List UInt8)
theorem rscanned_ab (hs : s.length ≤ 4096) (hF : 1 ≤ F ∧ F ≤ 2147483647) (hL : L.length ≤ 100000) (hl : ∀ l ∈ L, l.length ≤ 4096) :
    Ab Tryz.prog 27 [hsA F L, az s] (.tp [az (scR wordsF F L s (s.length + 1) 0 false [] false).1, ab (scR wordsF F L s (s.length + 1) 0 false [] false).2.1, ai (scR wordsF F L s (s.length + 1) 0 false [] false).2.2]) := by
  generalize hR0 : scR wordsF F L s (s.length + 1) 0 false [] false = R
  refine Fn_of_aw (keep := []) Tryz.func27 rfl rfl (by simp [Tryz.ntmps27]) ?_
  simp only [num_cons, num_nil, Tryz.ntmps27, Tryz.results27]
  repeat' (first
 | ((with_reducible apply awO_ev); (· rfl); (· exact sv))
 | ((with_reducible apply aw_seq); intro _ _)
 | (with_reducible apply aw_region)
 | (with_reducible apply aw_block)
 | ((with_reducible first | apply awO_nil | apply aw_exit | apply aw_skip | apply aw_ret); (try simp only [CT, ↓reduceIte, Nat.reduceEqDiff]))
 | (refine Kont.go ‹Kont _ _ _ _› _ ?_))
  refine aw_loopF (fun x : Nat × Nat × Bool × List UInt8 × Bool => [(7, az x.2.2.2.1), (8, ab x.2.2.2.2), (9, ab x.2.2.1), (10, ai (x.2.1 : Nat))]) (fun _ => [(2, [ai F, .rd L.length (L.map az)])]) (fun x => x.2.1 ≤ s.length ∧ s.length - x.2.1 < x.1 ∧ x.2.2.2.1.length ≤ 4097 + x.2.1 ∧ R = scR wordsF F L s x.1 x.2.1 x.2.2.1 x.2.2.2.1 x.2.2.2.2) (fun x => x.1) (s.length + 1, 0, false, [], false) ⟨Nat.zero_le _, by simp only; omega, Nat.zero_le _, hR0.symm⟩ ?_ ?_ ?_
  · exact ⟨rfl, rfl, rfl, rfl, trivial⟩
  · exact ⟨rfl, trivial⟩
  rintro ⟨n, i, d, o, sh⟩ ⟨hi, hn, ho, hR⟩
  simp only at hi hn ho hR
  obtain ⟨n, rfl⟩ : ∃ k, n = k + 1 := ⟨n - 1, by omega⟩
  clear hR0
  (simp only [LP, List.append_assoc, List.nil_append, List.cons_append, List.append_nil, List.contains_cons, List.contains_nil, Nat.reduceBEq, Bool.or_false, Bool.or_true, Bool.true_or, Bool.false_or, ↓reduceIte, Bool.false_eq_true])
  rw [scR] at hR
  by_cases hil : i < s.length
  rotate_left
  · rw [if_pos (by omega)] at hR
    repeat' (first
 | ((with_reducible apply awO_ev); (· rfl); (· exact sv))
 | ((with_reducible apply aw_seq); intro _ _)
 | (with_reducible apply aw_region)
 | ((with_reducible first | apply awO_nil | apply aw_exit | apply aw_skip | apply aw_ret); (try simp only [CT, ↓reduceIte, Nat.reduceEqDiff]))
 | (refine Kont.go ‹Kont _ _ _ _› _ ?_)
 | ((first | ((with_reducible apply awO_guardN); (· rfl); (· rfl); (· exact sv); (· exact nB)) | ((with_reducible apply aw_condN); (· exact sv))); (· exact pN); (· exact pN); all_goals (intro hg; try (exfalso; omega)))
 | ((with_reducible apply retQ_mk); (· exact rI); (· exact sv); (· exact sv); rotate_left; (· rfl)))
    all_goals first | rfl | (rw [hR]; done) | (rw [hR]; rfl)
  rw [if_neg (by omega)] at hR
  have hat := atB_lt hil
  have hkp := kepF_ok (s := s) (i := i) (d := d) hil
  have ck := rkept_ab s i i d rfl hil (by omega)
  have cs := rstays_ab s i i d rfl hil (by omega)
  by_cases h33 : s[i] = 33
  rotate_left
  · have n33 : ¬ s[i].toNat = 33 := fun h => h33 (UInt8.toNat_inj.1 h)
    rw [if_pos (.inl (by rw [hat]; exact h33))] at hR
    generalize kepF s i d = kd at *
    obtain ⟨k, d'⟩ := kd
    simp only at hkp ck hR
    repeat' (first
 | ((with_reducible apply awO_ev); (· rfl); (· exact sv))
 | ((with_reducible apply aw_seq); intro _ _)
 | (with_reducible apply aw_region)
 | (with_reducible apply aw_block)
 | ((with_reducible first | apply awO_nil | apply aw_exit | apply aw_skip | apply aw_ret); (try simp only [CT, ↓reduceIte, Nat.reduceEqDiff]))
 | ((with_reducible apply awO_n); (· rfl); (· rfl); (· decide); (· exact sv); (· rfl); (· rfl); (· decide))
 | ((with_reducible apply aw_cond_true); (· exact sv))
 | (refine Kont.go ‹Kont _ _ _ _› _ ?_)
 | ((with_reducible apply awO_c); (· rfl); (· rfl); (· exact sv); (· (first | exact ck)); (· rfl); (· rfl); (· rfl); (· decide))
 | ((first | ((with_reducible apply awO_guardN); (· rfl); (· rfl); (· exact sv); (· exact nB)) | ((with_reducible apply aw_condN); (· exact sv))); (· exact pN); (· exact pN); all_goals (intro hg; try (exfalso; omega))))
    all_goals refine LE_mk (n, k, d', o ++ (s.drop i).take (k - i), sh) ⟨hkp.2, by simp only; omega, by simp only [List.length_append, List.length_take, List.length_drop]; omega, hR⟩ (by simp only; omega) sN sN ⟨rfl, trivial⟩
  have n33 : s[i].toNat = 33 := by rw [h33]; rfl
  have hke : kepF s i d = (i + 1, d) := by
    unfold kepF
    rw [hat, h33, if_neg (by simp), if_neg (by decide), if_neg (by simp)]
  have h1s := take_one hil h33
  cases hst : styB s i d with
  | true =>
    rw [hst] at cs
    rw [if_pos (.inr (styB_pl hst))] at hR
    rw [hke] at hR ck
    repeat' (first
 | ((with_reducible apply awO_ev); (· rfl); (· exact sv))
 | ((with_reducible apply aw_seq); intro _ _)
 | (with_reducible apply aw_region)
 | (with_reducible apply aw_block)
 | ((with_reducible first | apply awO_nil | apply aw_exit | apply aw_skip | apply aw_ret); (try simp only [CT, ↓reduceIte, Nat.reduceEqDiff]))
 | ((with_reducible apply awO_y); (· rfl); (· rfl); (· decide); (· exact sv); (· exact sv))
 | ((with_reducible apply aw_cond_true); (· exact sv))
 | ((with_reducible apply awO_un); (· rfl); (· decide); (· exact sv))
 | (refine Kont.go ‹Kont _ _ _ _› _ ?_)
 | ((with_reducible apply awO_c); (· rfl); (· rfl); (· exact sv); (· (first | exact cs | exact ck)); (· rfl); (· rfl); (· rfl); (· decide))
 | ((first | ((with_reducible apply awO_guardN); (· rfl); (· rfl); (· exact sv); (· exact nB)) | ((with_reducible apply aw_condN); (· exact sv))); (· exact pN); (· exact pN); all_goals (intro hg; try (exfalso; omega))))
    all_goals refine LE_mk (n, i + 1, d, o ++ (s.drop i).take (i + 1 - i), sh) ⟨hil, by simp only; omega, by simp only [List.length_append, List.length_take, List.length_drop]; omega, hR⟩ (by simp only; omega) sN sN ⟨rfl, trivial⟩
  | false =>
    rw [hst] at cs
    cases hpl : plB s i with
    | true =>
      have hi1 : i + 1 < s.length := by
        rcases Nat.lt_or_ge (i + 1) s.length with h | h
        · exact h
        · unfold styB at hst
          rw [decide_eq_true (by omega : s.length = i + 1)] at hst
          cases hst
      have ce := revent_pl F L s i i rfl hs hF hL hi1 hpl
      rw [if_pos (.inr hpl), hke, h1s] at hR
      repeat' (first
 | ((with_reducible apply awO_ev); (· rfl); (· exact sv))
 | ((with_reducible apply aw_seq); intro _ _)
 | (with_reducible apply aw_region)
 | (with_reducible apply aw_block)
 | ((with_reducible first | apply awO_nil | apply aw_exit | apply aw_skip | apply aw_ret); (try simp only [CT, ↓reduceIte, Nat.reduceEqDiff]))
 | ((with_reducible apply awO_y); (· rfl); (· rfl); (· decide); (· exact sv); (· exact sv))
 | ((with_reducible apply aw_cond_true); (· exact sv))
 | ((with_reducible apply aw_cond_false); (· exact sv))
 | ((with_reducible apply awO_un); (· rfl); (· decide); (· exact sv))
 | (refine Kont.go ‹Kont _ _ _ _› _ ?_)
 | ((with_reducible apply awO_c); (· rfl); (· rfl); (· exact sv); (· (first | exact cs | exact ce)); (· rfl); (· rfl); (· rfl); (· decide))
 | ((first | ((with_reducible apply awO_guardN); (· rfl); (· rfl); (· exact sv); (· exact nB)) | ((with_reducible apply aw_condN); (· exact sv))); (· exact pN); (· exact pN); all_goals (intro hg; try (exfalso; omega))))
      all_goals refine LE_mk (n, i + 1, d, o ++ [33], sh) ⟨hil, by simp only; omega, by simp only [List.length_append, List.length_cons, List.length_nil]; omega, hR⟩ (by simp only; omega) sN sN ⟨rfl, trivial⟩
    | false =>
      rw [if_neg (by rw [hat, h33, hpl]; simp)] at hR
      obtain ⟨j, ce, hj⟩ := revent_ab F L s i i rfl hs hF hL hl hpl
      by_cases he : (evtF F L s (i + 1)).2.2 = 0
      rotate_left
      · rw [evA_e1 he, if_pos he] at hR
        generalize evtF F L s (i + 1) = ev at *
        obtain ⟨eline, ek, ee⟩ := ev
        simp only at ce hj he hR
        repeat' (first
 | ((with_reducible apply awO_ev); (· rfl); (· exact sv))
 | ((with_reducible apply aw_seq); intro _ _)
 | (with_reducible apply aw_region)
 | (with_reducible apply aw_block)
 | ((with_reducible first | apply awO_nil | apply aw_exit | apply aw_skip | apply aw_ret); (try simp only [CT, ↓reduceIte, Nat.reduceEqDiff]))
 | ((with_reducible apply awO_y); (· rfl); (· rfl); (· decide); (· exact sv); (· exact sv))
 | ((with_reducible apply aw_cond_false); (· exact sv))
 | ((with_reducible apply awO_un); (· rfl); (· decide); (· exact sv))
 | (refine Kont.go ‹Kont _ _ _ _› _ ?_)
 | ((with_reducible apply awO_c); (· rfl); (· rfl); (· exact sv); (· (first | exact cs | exact ce)); (· rfl); (· rfl); (· rfl); (· decide))
 | ((first | ((with_reducible apply awO_guardN); (· rfl); (· rfl); (· exact sv); (· exact nB)) | ((with_reducible apply aw_condN); (· exact sv))); (· exact pN); (· exact pN); all_goals (intro hg; try (exfalso; omega)))
 | ((with_reducible apply retQ_mk); (· exact rI); (· exact sv); (· exact sv); rotate_left; (· rfl)))
        all_goals first | rfl | (rw [hR]; done) | (rw [hR]; rfl)
      replace hj := hj he
      have hok := evtF_ok (F := F) (L := L) (s := s) (a := i + 1) he hil
      by_cases he2 : (choF wordsF (evtF F L s (i + 1)).1 s (evtF F L s (i + 1)).2.1).2.2 = 0
      rotate_left
      · rw [evA_e2 he he2, if_pos he2] at hR
        generalize evtF F L s (i + 1) = ev at *
        obtain ⟨eline, ek, ee⟩ := ev
        simp only at ce hj he hR he2 hok
        subst he
        subst hj
        obtain ⟨j2, cc, hj2⟩ := rchosen_ab eline s ek ek rfl hok.2.2 hs (hl _ hok.1)
        generalize choF wordsF eline s ek = q at *
        obtain ⟨qt, qk, qe⟩ := q
        simp only at cc hj2 he2 hR
        repeat' (first
 | ((with_reducible apply awO_ev); (· rfl); (· exact sv))
 | ((with_reducible apply aw_seq); intro _ _)
 | (with_reducible apply aw_region)
 | (with_reducible apply aw_block)
 | ((with_reducible first | apply awO_nil | apply aw_exit | apply aw_skip | apply aw_ret); (try simp only [CT, ↓reduceIte, Nat.reduceEqDiff]))
 | ((with_reducible apply awO_y); (· rfl); (· rfl); (· decide); (· exact sv); (· exact sv))
 | ((with_reducible apply aw_cond_false); (· exact sv))
 | ((with_reducible apply awO_un); (· rfl); (· decide); (· exact sv))
 | (refine Kont.go ‹Kont _ _ _ _› _ ?_)
 | ((with_reducible apply awO_c); (· rfl); (· rfl); (· exact sv); (· (first | exact cs | exact ce | exact cc)); (· rfl); (· rfl); (· rfl); (· decide))
 | ((first | ((with_reducible apply awO_guardN); (· rfl); (· rfl); (· exact sv); (· exact nB)) | ((with_reducible apply aw_condN); (· exact sv))); (· exact pN); (· exact pN); all_goals (intro hg; try (exfalso; omega)))
 | ((with_reducible apply retQ_mk); (· exact rI); (· exact sv); (· exact sv); rotate_left; (· rfl)))
        all_goals first | rfl | (rw [hR]; done) | (rw [hR]; rfl)
      rw [evA_e3 he he2] at hR
      have hck := choF_ok words_ok hok.2.2 (hl _ hok.1) he2
      generalize evtF F L s (i + 1) = ev at *
      obtain ⟨eline, ek, ee⟩ := ev
      simp only at ce hj he hR he2 hok hck
      subst he
      subst hj
      obtain ⟨j2, cc, hj2⟩ := rchosen_ab eline s ek ek rfl hok.2.2 hs (hl _ hok.1)
      replace hj2 := hj2 he2
      generalize choF wordsF eline s ek = q at *
      obtain ⟨qt, qk, qe⟩ := q
      simp only at cc hj2 he2 hR hck
      subst he2
      subst hj2
      have cm := rmodified_ab qt s qk qk rfl hck.2.1 hs hck.2.2
      have hmk := modF_ok s (M := 17000000) (by decide) (s.length + 1) qt qk false hck.2.1 hck.2.2
      rw [show modF s (s.length + 1) qt qk false = modT s qt qk false from rfl] at hmk
      generalize modT s qt qk false = m at *
      obtain ⟨mt, mk, mb, me⟩ := m
      simp only at cm hmk hR
      by_cases hme : me = 0
      rotate_left
      · rw [if_pos hme] at hR
        repeat' (first
 | ((with_reducible apply awO_ev); (· rfl); (· exact sv))
 | ((with_reducible apply aw_seq); intro _ _)
 | (with_reducible apply aw_region)
 | (with_reducible apply aw_block)
 | ((with_reducible first | apply awO_nil | apply aw_exit | apply aw_skip | apply aw_ret); (try simp only [CT, ↓reduceIte, Nat.reduceEqDiff]))
 | ((with_reducible apply awO_y); (· rfl); (· rfl); (· decide); (· exact sv); (· exact sv))
 | ((with_reducible apply aw_cond_false); (· exact sv))
 | ((with_reducible apply awO_un); (· rfl); (· decide); (· exact sv))
 | (refine Kont.go ‹Kont _ _ _ _› _ ?_)
 | ((with_reducible apply awO_c); (· rfl); (· rfl); (· exact sv); (· (first | exact cs | exact ce | exact cc | exact cm)); (· rfl); (· rfl); (· rfl); (· decide))
 | ((first | ((with_reducible apply awO_guardN); (· rfl); (· rfl); (· exact sv); (· exact nB)) | ((with_reducible apply aw_condN); (· exact sv))); (· exact pN); (· exact pN); all_goals (intro hg; try (exfalso; omega)))
 | ((with_reducible apply retQ_mk); (· exact rI); (· exact sv); (· exact sv); rotate_left; (· rfl)))
        all_goals first | rfl | (rw [hR]; done) | (rw [hR]; rfl)
      subst hme
      replace hmk := hmk rfl
      rw [if_neg (by simp)] at hR
      by_cases hlen : 4096 < (o ++ mt).length
      · have hcu : cutM (o ++ mt) = (o ++ mt).take 4097 := by unfold cutM; rw [if_pos hlen]
        rw [hcu] at hR
        cases sh with
        | true =>
          repeat' (first
 | ((with_reducible apply awO_ev); (· rfl); (· exact sv))
 | ((with_reducible apply aw_seq); intro _ _)
 | (with_reducible apply aw_region)
 | (with_reducible apply aw_block)
 | ((with_reducible first | apply awO_nil | apply aw_exit | apply aw_skip | apply aw_ret); (try simp only [CT, ↓reduceIte, Nat.reduceEqDiff]))
 | ((with_reducible apply awO_y); (· rfl); (· rfl); (· decide); (· exact sv); (· exact sv))
 | ((with_reducible apply awO_n); (· rfl); (· rfl); (· decide); (· exact sv); (· rfl); (· rfl); (· decide))
 | ((with_reducible apply aw_cond_false); (· exact sv))
 | ((with_reducible apply awO_un); (· rfl); (· decide); (· exact sv))
 | (refine Kont.go ‹Kont _ _ _ _› _ ?_)
 | ((with_reducible apply awO_c); (· rfl); (· rfl); (· exact sv); (· (first | exact cs | exact ce | exact cc | exact cm)); (· rfl); (· rfl); (· rfl); (· decide))
 | ((first | ((with_reducible apply awO_guardN); (· rfl); (· rfl); (· exact sv); (· exact nB)) | ((with_reducible apply aw_condN); (· exact sv))); (· exact pN); (· exact pN); all_goals (intro hg; try (exfalso; omega))))
          all_goals refine LE_mk (n, mk, d, (o ++ mt).take 4097, true) ⟨hmk.2.1, by simp only; omega, by simp only [List.length_take]; omega, hR⟩ (by simp only; omega) sN sN ⟨rfl, trivial⟩
        | false =>
          repeat' (first
 | ((with_reducible apply awO_ev); (· rfl); (· exact sv))
 | ((with_reducible apply aw_seq); intro _ _)
 | (with_reducible apply aw_region)
 | (with_reducible apply aw_block)
 | ((with_reducible first | apply awO_nil | apply aw_exit | apply aw_skip | apply aw_ret); (try simp only [CT, ↓reduceIte, Nat.reduceEqDiff]))
 | ((with_reducible apply awO_y); (· rfl); (· rfl); (· decide); (· exact sv); (· exact sv))
 | ((with_reducible apply aw_cond_false); (· exact sv))
 | ((with_reducible apply awO_un); (· rfl); (· decide); (· exact sv))
 | (refine Kont.go ‹Kont _ _ _ _› _ ?_)
 | ((with_reducible apply awO_c); (· rfl); (· rfl); (· exact sv); (· (first | exact cs | exact ce | exact cc | exact cm)); (· rfl); (· rfl); (· rfl); (· decide))
 | ((first | ((with_reducible apply awO_guardN); (· rfl); (· rfl); (· exact sv); (· exact nB)) | ((with_reducible apply aw_condN); (· exact sv))); (· exact pN); (· exact pN); all_goals (intro hg; try (exfalso; omega))))
          all_goals refine LE_mk (n, mk, d, (o ++ mt).take 4097, mb) ⟨hmk.2.1, by simp only; omega, by simp only [List.length_take]; omega, hR⟩ (by simp only; omega) sN sN ⟨rfl, trivial⟩
      · have hcu : cutM (o ++ mt) = o ++ mt := by unfold cutM; rw [if_neg hlen]
        rw [hcu] at hR
        cases sh with
        | true =>
          repeat' (first
 | ((with_reducible apply awO_ev); (· rfl); (· exact sv))
 | ((with_reducible apply aw_seq); intro _ _)
 | (with_reducible apply aw_region)
 | (with_reducible apply aw_block)
 | ((with_reducible first | apply awO_nil | apply aw_exit | apply aw_skip | apply aw_ret); (try simp only [CT, ↓reduceIte, Nat.reduceEqDiff]))
 | ((with_reducible apply awO_y); (· rfl); (· rfl); (· decide); (· exact sv); (· exact sv))
 | ((with_reducible apply awO_n); (· rfl); (· rfl); (· decide); (· exact sv); (· rfl); (· rfl); (· decide))
 | ((with_reducible apply aw_cond_false); (· exact sv))
 | ((with_reducible apply awO_un); (· rfl); (· decide); (· exact sv))
 | (refine Kont.go ‹Kont _ _ _ _› _ ?_)
 | ((with_reducible apply awO_c); (· rfl); (· rfl); (· exact sv); (· (first | exact cs | exact ce | exact cc | exact cm)); (· rfl); (· rfl); (· rfl); (· decide))
 | ((first | ((with_reducible apply awO_guardN); (· rfl); (· rfl); (· exact sv); (· exact nB)) | ((with_reducible apply aw_condN); (· exact sv))); (· exact pN); (· exact pN); all_goals (intro hg; try (exfalso; omega))))
          all_goals refine LE_mk (n, mk, d, o ++ mt, true) ⟨hmk.2.1, by simp only; omega, by simp only; omega, hR⟩ (by simp only; omega) sN sN ⟨rfl, trivial⟩
        | false =>
          repeat' (first
 | ((with_reducible apply awO_ev); (· rfl); (· exact sv))
 | ((with_reducible apply aw_seq); intro _ _)
 | (with_reducible apply aw_region)
 | (with_reducible apply aw_block)
 | ((with_reducible first | apply awO_nil | apply aw_exit | apply aw_skip | apply aw_ret); (try simp only [CT, ↓reduceIte, Nat.reduceEqDiff]))
 | ((with_reducible apply awO_y); (· rfl); (· rfl); (· decide); (· exact sv); (· exact sv))
 | ((with_reducible apply aw_cond_false); (· exact sv))
 | ((with_reducible apply awO_un); (· rfl); (· decide); (· exact sv))
 | (refine Kont.go ‹Kont _ _ _ _› _ ?_)
 | ((with_reducible apply awO_c); (· rfl); (· rfl); (· exact sv); (· (first | exact cs | exact ce | exact cc | exact cm)); (· rfl); (· rfl); (· rfl); (· decide))
 | ((first | ((with_reducible apply awO_guardN); (· rfl); (· rfl); (· exact sv); (· exact nB)) | ((with_reducible apply aw_condN); (· exact sv))); (· exact pN); (· exact pN); all_goals (intro hg; try (exfalso; omega))))
          all_goals refine LE_mk (n, mk, d, o ++ mt, mb) ⟨hmk.2.1, by simp only; omega, by simp only; omega, hR⟩ (by simp only; omega) sN sN ⟨rfl, trivial⟩
theorem rExpand_ab (hF : 1 ≤ F ∧ F ≤ 2147483647) (hL : L.length ≤ 100000) (hl : ∀ l ∈ L, l.length ≤ 4096) (hs : s.length ≤ 1000000) :
    Ab Tryz.prog 12 [hsA F L, az s] (.tp [az (expF wordsF F L s).1, ab (expF wordsF F L s).2.1, ai (expF wordsF F L s).2.2]) := by
  by_cases h1 : 4096 < s.length
  · have e : expF wordsF F L s = ([], false, 3) := by unfold expF; rw [if_pos h1]
    rw [e]
    refine Fn_of_aw (keep := []) Tryz.func12 rfl rfl (by simp [Tryz.ntmps12]) ?_
    simp only [num_cons, num_nil, Tryz.ntmps12, Tryz.results12]
    repeat' (first
 | ((with_reducible apply awO_ev); (· rfl); (· exact sv))
 | ((with_reducible apply aw_seq); intro _ _)
 | (with_reducible apply aw_region)
 | ((with_reducible first | apply awO_nil | apply aw_exit | apply aw_skip | apply aw_ret); (try simp only [CT, ↓reduceIte, Nat.reduceEqDiff]))
 | (refine Kont.go ‹Kont _ _ _ _› _ ?_)
 | ((first | ((with_reducible apply awO_guardN); (· rfl); (· rfl); (· exact sv); (· exact nB)) | ((with_reducible apply aw_condN); (· exact sv))); (· exact pN); (· exact pN); all_goals (intro hg; try (exfalso; omega)))
 | ((with_reducible apply retQ_mk); (· exact rI); (· exact sv); (· exact sv); rotate_left; (· rfl)))
    all_goals rfl
  have hs' : s.length ≤ 4096 := by omega
  have e0 : expF wordsF F L s = if (rawF wordsF F L s).2.2 ≠ 0 then ([], false, (rawF wordsF F L s).2.2) else if 4096 < (rawF wordsF F L s).1.length then ([], false, 3) else rawF wordsF F L s := by unfold expF; rw [if_neg h1]
  have ca := rat_ab s 0 0 rfl (by omega)
  by_cases h2 : atB s 0 = 94
  · have hin := at_in h2 (by decide)
    have k2 : (atB s 0).toNat = 94 := by rw [h2]; rfl
    have cq := rquick_ab F L s hs' hF hL hl hin
    have er : rawF wordsF F L s = ((quiF L (s.drop 1)).1, false, (quiF L (s.drop 1)).2) := by unfold rawF; rw [if_pos h2]
    rw [er] at e0
    generalize quiF L (s.drop 1) = q at *
    obtain ⟨qt, qe⟩ := q
    simp only at cq e0
    by_cases hq : qe = 0
    · subst hq
      rw [if_neg (by simp)] at e0
      by_cases hql : 4096 < qt.length
      · rw [if_pos hql] at e0
        rw [e0]
        refine Fn_of_aw (keep := []) Tryz.func12 rfl rfl (by simp [Tryz.ntmps12]) ?_
        simp only [num_cons, num_nil, Tryz.ntmps12, Tryz.results12]
        repeat' (first
 | ((with_reducible apply awO_ev); (· rfl); (· exact sv))
 | ((with_reducible apply aw_seq); intro _ _)
 | (with_reducible apply aw_region)
 | ((with_reducible first | apply awO_nil | apply aw_exit | apply aw_skip | apply aw_ret); (try simp only [CT, ↓reduceIte, Nat.reduceEqDiff]))
 | ((with_reducible apply aw_cond_false); (· exact sv))
 | (refine Kont.go ‹Kont _ _ _ _› _ ?_)
 | ((with_reducible apply awO_c); (· rfl); (· rfl); (· exact sv); (· (first | exact ca | exact cq)); (· rfl); (· rfl); (· rfl); (· decide))
 | ((first | ((with_reducible apply awO_guardN); (· rfl); (· rfl); (· exact sv); (· exact nB)) | ((with_reducible apply aw_condN); (· exact sv))); (· exact pN); (· exact pN); all_goals (intro hg; try (exfalso; omega)))
 | ((with_reducible apply retQ_mk); (· exact rI); (· exact sv); (· exact sv); rotate_left; (· rfl)))
        all_goals first | rfl | exact tp3b rfl rfl rfl
      · rw [if_neg hql] at e0
        rw [e0]
        refine Fn_of_aw (keep := []) Tryz.func12 rfl rfl (by simp [Tryz.ntmps12]) ?_
        simp only [num_cons, num_nil, Tryz.ntmps12, Tryz.results12]
        repeat' (first
 | ((with_reducible apply awO_ev); (· rfl); (· exact sv))
 | ((with_reducible apply aw_seq); intro _ _)
 | (with_reducible apply aw_region)
 | ((with_reducible first | apply awO_nil | apply aw_exit | apply aw_skip | apply aw_ret); (try simp only [CT, ↓reduceIte, Nat.reduceEqDiff]))
 | ((with_reducible apply aw_cond_false); (· exact sv))
 | (refine Kont.go ‹Kont _ _ _ _› _ ?_)
 | ((with_reducible apply awO_c); (· rfl); (· rfl); (· exact sv); (· (first | exact ca | exact cq)); (· rfl); (· rfl); (· rfl); (· decide))
 | ((first | ((with_reducible apply awO_guardN); (· rfl); (· rfl); (· exact sv); (· exact nB)) | ((with_reducible apply aw_condN); (· exact sv))); (· exact pN); (· exact pN); all_goals (intro hg; try (exfalso; omega)))
 | ((with_reducible apply retQ_mk); (· exact rI); (· exact sv); (· exact sv); rotate_left; (· rfl)))
        all_goals first | rfl | exact tp3b rfl rfl rfl
    · rw [if_pos hq] at e0
      rw [e0]
      refine Fn_of_aw (keep := []) Tryz.func12 rfl rfl (by simp [Tryz.ntmps12]) ?_
      simp only [num_cons, num_nil, Tryz.ntmps12, Tryz.results12]
      repeat' (first
 | ((with_reducible apply awO_ev); (· rfl); (· exact sv))
 | ((with_reducible apply aw_seq); intro _ _)
 | (with_reducible apply aw_region)
 | ((with_reducible first | apply awO_nil | apply aw_exit | apply aw_skip | apply aw_ret); (try simp only [CT, ↓reduceIte, Nat.reduceEqDiff]))
 | (refine Kont.go ‹Kont _ _ _ _› _ ?_)
 | ((with_reducible apply awO_c); (· rfl); (· rfl); (· exact sv); (· (first | exact ca | exact cq)); (· rfl); (· rfl); (· rfl); (· decide))
 | ((first | ((with_reducible apply awO_guardN); (· rfl); (· rfl); (· exact sv); (· exact nB)) | ((with_reducible apply aw_condN); (· exact sv))); (· exact pN); (· exact pN); all_goals (intro hg; try (exfalso; omega)))
 | ((with_reducible apply retQ_mk); (· exact rI); (· exact sv); (· exact sv); rotate_left; (· rfl)))
      all_goals first | rfl | exact tp3b rfl rfl rfl
  · have k2 : ¬ (atB s 0).toNat = 94 := fun h => h2 (UInt8.toNat_inj.1 h)
    have cq := rscanned_ab F L s hs' hF hL hl
    have hsc := scR_ok words_ok (F := F) hl (s := s) (s.length + 1) 0 false [] false (by omega)
    have er : rawF wordsF F L s = scnT wordsF F L s 0 false := by unfold rawF; rw [if_neg h2]
    rw [er] at e0
    generalize scnT wordsF F L s 0 false = r at *
    generalize scR wordsF F L s (s.length + 1) 0 false [] false = q at *
    obtain ⟨qt, qb, qe⟩ := q
    simp only [List.nil_append, Bool.false_or] at cq e0 hsc
    by_cases hr : r.2.2 = 0
    · obtain ⟨a1, a2, a3⟩ := hsc.1 hr
      injection a1 with a4 a5
      subst a5
      rw [if_neg (by simpa using hr)] at e0
      by_cases hrl : 4096 < r.1.length
      · rw [if_pos hrl] at e0
        have hql := a3 hrl
        rw [e0]
        refine Fn_of_aw (keep := []) Tryz.func12 rfl rfl (by simp [Tryz.ntmps12]) ?_
        simp only [num_cons, num_nil, Tryz.ntmps12, Tryz.results12]
        repeat' (first
 | ((with_reducible apply awO_ev); (· rfl); (· exact sv))
 | ((with_reducible apply aw_seq); intro _ _)
 | (with_reducible apply aw_region)
 | ((with_reducible first | apply awO_nil | apply aw_exit | apply aw_skip | apply aw_ret); (try simp only [CT, ↓reduceIte, Nat.reduceEqDiff]))
 | ((with_reducible apply aw_cond_false); (· exact sv))
 | (refine Kont.go ‹Kont _ _ _ _› _ ?_)
 | ((with_reducible apply awO_c); (· rfl); (· rfl); (· exact sv); (· (first | exact ca | exact cq)); (· rfl); (· rfl); (· rfl); (· decide))
 | ((first | ((with_reducible apply awO_guardN); (· rfl); (· rfl); (· exact sv); (· exact nB)) | ((with_reducible apply aw_condN); (· exact sv))); (· exact pN); (· exact pN); all_goals (intro hg; try (exfalso; omega)))
 | ((with_reducible apply retQ_mk); (· exact rI); (· exact sv); (· exact sv); rotate_left; (· rfl)))
        all_goals first | rfl | exact tp3b rfl rfl rfl
      · rw [if_neg hrl] at e0
        have hq := a2 (by omega)
        have hql : ¬ 4096 < qt.length := by rw [hq]; exact hrl
        have e1 : r = (qt, qb, 0) := by rw [← hr, hq, a4]
        rw [e1] at e0
        rw [e0]
        refine Fn_of_aw (keep := []) Tryz.func12 rfl rfl (by simp [Tryz.ntmps12]) ?_
        simp only [num_cons, num_nil, Tryz.ntmps12, Tryz.results12]
        repeat' (first
 | ((with_reducible apply awO_ev); (· rfl); (· exact sv))
 | ((with_reducible apply aw_seq); intro _ _)
 | (with_reducible apply aw_region)
 | ((with_reducible first | apply awO_nil | apply aw_exit | apply aw_skip | apply aw_ret); (try simp only [CT, ↓reduceIte, Nat.reduceEqDiff]))
 | ((with_reducible apply aw_cond_false); (· exact sv))
 | (refine Kont.go ‹Kont _ _ _ _› _ ?_)
 | ((with_reducible apply awO_c); (· rfl); (· rfl); (· exact sv); (· (first | exact ca | exact cq)); (· rfl); (· rfl); (· rfl); (· decide))
 | ((first | ((with_reducible apply awO_guardN); (· rfl); (· rfl); (· exact sv); (· exact nB)) | ((with_reducible apply aw_condN); (· exact sv))); (· exact pN); (· exact pN); all_goals (intro hg; try (exfalso; omega)))
 | ((with_reducible apply retQ_mk); (· exact rI); (· exact sv); (· exact sv); rotate_left; (· rfl)))
        all_goals first | rfl | exact tp3b rfl rfl rfl
    · have a1 := hsc.2 hr
      injection a1 with a2 a3
      injection a3 with a3 a4
      subst a2; subst a3; subst a4
      rw [if_pos hr] at e0
      rw [e0]
      refine Fn_of_aw (keep := []) Tryz.func12 rfl rfl (by simp [Tryz.ntmps12]) ?_
      simp only [num_cons, num_nil, Tryz.ntmps12, Tryz.results12]
      repeat' (first
 | ((with_reducible apply awO_ev); (· rfl); (· exact sv))
 | ((with_reducible apply aw_seq); intro _ _)
 | (with_reducible apply aw_region)
 | ((with_reducible first | apply awO_nil | apply aw_exit | apply aw_skip | apply aw_ret); (try simp only [CT, ↓reduceIte, Nat.reduceEqDiff]))
 | (refine Kont.go ‹Kont _ _ _ _› _ ?_)
 | ((with_reducible apply awO_c); (· rfl); (· rfl); (· exact sv); (· (first | exact ca | exact cq)); (· rfl); (· rfl); (· rfl); (· decide))
 | ((first | ((with_reducible apply awO_guardN); (· rfl); (· rfl); (· exact sv); (· exact nB)) | ((with_reducible apply aw_condN); (· exact sv))); (· exact pN); (· exact pN); all_goals (intro hg; try (exfalso; omega)))
 | ((with_reducible apply retQ_mk); (· exact rI); (· exact sv); (· exact sv); rotate_left; (· rfl)))
      all_goals first | rfl | exact tp3b rfl rfl rfl
end
end Go.Proofs.YtgbhjlkenfmadaaGreatDoor
