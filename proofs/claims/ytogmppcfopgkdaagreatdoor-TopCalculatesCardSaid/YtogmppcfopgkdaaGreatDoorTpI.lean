/- jobshelltop.TopCalculates answers true, for every input. -/
import Derived.Test.YtogmppcfopgkdaaGreatDoorTpG
namespace Go.Proofs.YtogmppcfopgkdaaGreatDoor
open Go.RowKit
set_option linter.unusedVariables false
set_option linter.unusedSimpArgs false
set_option maxRecDepth 100000
theorem itoa_fit (n : Int) : ∀ c ∈ Lib.itoa n, c ∉ ifsV ∧ c ≠ 47 ∧ c ≠ 91 ∧ c ≠ 42 ∧ c ≠ 63 := fun c hc => by
  have h := itoa_mem n c hc
  have ne : ∀ d : UInt8, (d.toNat ≠ 45 ∧ (d.toNat < 48 ∨ 57 < d.toNat)) → c ≠ d := fun d hd e => by
    subst e
    omega
  refine ⟨fun hm => ?_, ne 47 (by decide), ne 91 (by decide), ne 42 (by decide), ne 63 (by decide)⟩
  simp only [List.mem_cons, List.not_mem_nil, or_false] at hm
  rcases hm with e | e | e
  · exact ne 32 (by decide) e
  · exact ne 9 (by decide) e
  · exact ne 10 (by decide) e
theorem itoa_pln {n : Int} (hn : I64 n) : Pln [⟨Lib.itoa n, 2⟩] := by
  refine ⟨(by simp : [(⟨Lib.itoa n, 2⟩ : El)].length ≤ 1000), ?_, fun x hx => ?_⟩
  · have := itoa_short hn
    simpa [cat] using this
  · simp only [List.mem_cons, List.not_mem_nil, or_false] at hx
    subst hx
    have h := itoa_fit n
    exact ⟨.inr (.inr rfl), fun hm => (h _ hm).2.1 rfl, fun hm => (h _ hm).2.2.1 rfl, fun hm => (h _ hm).2.2.2.1 rfl, fun hm => (h _ hm).2.2.2.2 rfl⟩
theorem topCalculates_ab (s v : List UInt8) (hs : s.length ≤ 9000000000000000) (hv : v.length ≤ 9000000000000000) : Ab Tryz.prog 3 [az s, az v] (ab true) := by
  by_cases h1 : s.length ≤ 60
  rotate_left
  · exact top_no1 s v (made_long s byE 60 (by omega) hs)
  have c1 := made_ab s byE 60 h1 (by decide) (by decide)
  cases hm : madB s byE with
  | false => rw [hm] at c1; exact top_no1 s v c1
  | true =>
  rw [hm] at c1
  by_cases h2 : v.length ≤ 9
  rotate_left
  · exact top_no2 s v c1 (made_long v byD 9 (by omega) hv)
  have c2 := made_ab v byD 9 h2 (by decide) (by decide)
  cases hm2 : madB v byD with
  | false => rw [hm2] at c2; exact top_no2 s v c1 c2
  | true =>
  rw [hm2] at c2
  have hmem := mad_mem hm
  have h73 : 73 ∉ s := fun h => absurd (hmem _ h) (by decide)
  have h40 : 40 ∉ s := fun h => absurd (hmem _ h) (by decide)
  have c5 := parse_a s (by omega) fun c hc => ⟨fun e => by subst e; exact absurd (hmem _ hc) (by decide), fun e => by subst e; exact absurd (hmem _ hc) (by decide), fun e => by subst e; exact absurd (hmem _ hc) (by decide), fun e => by subst e; exact absurd (hmem _ hc) (by decide), fun e => by subst e; exact absurd (hmem _ hc) (by decide)⟩
  have hL2 : ∀ p ∈ bndV (vr1 v), p.1.length ≤ 5000 ∧ p.2.length ≤ 5000 := fun p hp => by
    simp only [bndV, List.map_cons, List.map_nil, List.mem_cons, List.not_mem_nil, or_false] at hp
    rcases hp with rfl | rfl
    · decide
    · exact ⟨(by decide : ([120] : List UInt8).length ≤ 5000), by simp only; omega⟩
  have c4 := calcText_ab s (bndV (vr1 v)) (by omega) h40 (by simp [bndV]) hL2
  obtain ⟨kn, kc, _, hkc, hkn, hval⟩ := arith_text (L := vr1 v) (msg := []) (err := 0) s (by omega)
  have hst : ∀ x ∈ vr1 v, x.st = true := fun x hx => by
    simp only [List.mem_cons, List.not_mem_nil, or_false] at hx
    rcases hx with rfl | rfl <;> rfl
  have hsz : ∀ x ∈ vr1 v, x.nm.length ≤ 4096 ∧ x.val.length ≤ 4096 := fun x hx => by
    simp only [List.mem_cons, List.not_mem_nil, or_false] at hx
    rcases hx with rfl | rfl
    · decide
    · exact ⟨(by decide : ([120] : List UInt8).length ≤ 4096), by simp only; omega⟩
  have hro : ∀ x ∈ vr1 v, x.ro = false := fun x hx => by
    simp only [List.mem_cons, List.not_mem_nil, or_false] at hx
    rcases hx with rfl | rfl <;> rfl
  have hok := txR_ok s v h1 h73 h2
  rcases hR : txR s (bndV (vr1 v)) with ⟨n, A, er⟩
  rw [hR] at c4 hok
  simp only at c4 hok
  by_cases her : er = 0
  · subst her
    obtain ⟨hn, K, g, rfl, hA⟩ := hok rfl
    have hlen := hA.len
    have a1 := arith_ok (q := false) (f := true) (c := 0) hval (by omega) h40 (by simp) hst hsz hro hR (fun p hp => by
      obtain ⟨k, hk, rfl⟩ := List.mem_map.1 hp
      exact ⟨(hA.nm k hk).1, (hA.nm k hk).2.1⟩) (by simp only [List.length_cons, List.length_nil, List.length_map]; omega) hn
    have a2 := part_arith _ a1
    subst hkc hkn
    have a3 := parts_one (ptA s) [⟨Lib.itoa n, 2⟩] (by simp) a2
    obtain ⟨e1, e2⟩ := env_ok v hA
    have hL' : (asgA (mp0 (bndV (vr1 v))) (K.map fun k => (k, g k)) (vr1 v)).length ≤ 1000 := by
      have := (asgA_ok (m := mp0 (bndV (vr1 v))) (A := K.map fun k => (k, g k)) hro (K.map fun k => (k, g k)).length (Nat.le_refl _)).1
      rw [List.take_length, List.length_map] at this
      simp only [List.length_cons, List.length_nil] at this
      omega
    have hp := itoa_pln hn
    have hc : cat [(⟨Lib.itoa n, 2⟩ : El)] = Lib.itoa n := by simp [cat]
    have hfit := itoa_fit n
    have a4 := word_fn [⟨Lib.itoa n, 2⟩] [[⟨Lib.itoa n, 2⟩]] ⟨ifsN, ifsV, true, false, false⟩ hL' (by simp) (by have := hp.cl; omega) a3 e2 rfl (fields_one (itoa_ne n) fun c hc => (hfit c hc).1) (by simp) (fun i hi => by
      obtain rfl : i = 0 := by simpa using hi
      exact ⟨by simp, hp.cl⟩) (fun i hi => by
      obtain rfl : i = 0 := by simpa using hi
      exact expand_ab _ hp)
    have a5 := words_ok [Lib.itoa n] (by simp) hL' (by
      simp only [catA, List.map_cons, List.map_nil, hc] at a4
      exact a4)
    refine top_good h1 h2 c1 c2 c4 c5 a5 hn (by rw [List.length_map]; omega) hL' fun j hj => ?_
    rw [List.getElem_map]
    rw [List.length_map] at hj
    exact e1 _ (List.getElem_mem hj)
  · obtain ⟨m', a1⟩ := arith_err (q := false) (f := true) (c := 0) hval (by omega) h40 (by simp) hst hsz hR her
    have a2 := part_arithN a1
    subst hkc hkn
    have a3 := parts_bad (ptA s) a2
    have a4 := word_bad a3
    exact top_bad h1 h2 c1 c2 c4 her c5 (words_bad a4)
end Go.Proofs.YtogmppcfopgkdaaGreatDoor
