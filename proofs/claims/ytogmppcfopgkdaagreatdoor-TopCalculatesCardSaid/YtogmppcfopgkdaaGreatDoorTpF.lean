/- jobshelltop: fields, wordsLive, on the abstract machine. -/
import Derived.Test.YtogmppcfopgkdaaGreatDoorTpE
import Derived.Test.YtogmppcfopgkdaaGreatDoorPnD
import Derived.Test.YtogmppcfopgkdaaGreatDoorXpF
import Derived.Test.YtogmppcfopgkdaaGreatDoorWdI
namespace Go.Proofs.YtogmppcfopgkdaaGreatDoor
open Go.RowKit
set_option linter.unusedVariables false
set_option linter.unusedSimpArgs false
set_option maxRecDepth 100000
set_option maxHeartbeats 8000000
theorem awI_pub {P : Program} {ops : Array Oper} {fuel i : Nat} {listed : Array Bool} {Q : Exit → St → Prop} {fr : List (Nat × AV)} {hp : Hp} {nt : Nat} {fx : List Nat} (t k : Nat) {off sz n : Nat} {cs : List AV} (ht : look fr t = some (.os k off sz n)) (hk : look hp k = some cs) (hl : off + n * sz ≤ cs.length) (hd : ((cs.drop off).take (n * sz)).all dataC = true)
    (h : awI P ops fuel listed ⟨(t, .rd n ((cs.drop off).take (n * sz))) :: fr, cut k hp, nt, fx⟩ Q i) : awI P ops fuel listed ⟨fr, hp, nt, fx⟩ Q i := fun E a w hS => h E a w (S_pub t k ht hk hl hd hS)
theorem awI_st {P : Program} {ops : Array Oper} {fuel i : Nat} {listed : Array Bool} {Q : Exit → St → Prop} {st st2 : St} (hs : some st = some st2) (h : awI P ops fuel listed st2 Q i) : awI P ops fuel listed st Q i := by injection hs with hs; rw [hs]; exact h
section
variable {L L' : List Vr} {msg : List UInt8} {err : Int}
/-- A word of one part. -/
theorem parts_one {q f : Bool} {c : Int} (p : Pt) (R : List El) (hR : R.length ≤ 1000)
    (hp : Fn Tryz.prog fPart [.pt 200 0, .ag (ptCs p), moA q f c] [(200, xpC L msg err)] (.tp [elsA R, ab true]) [(200, xpC L' msg err)] [200]) :
    Fn Tryz.prog fParts [.pt 200 0, .rd 1 (ptC [p]), moA q f c] [(200, xpC L msg err)] (.tp [elsA R, ab true]) [(200, xpC L' msg err)] [200] := by
  have h := parts_fn (q := q) (f := f) (c := c) (msg := msg) (err := err) [p] (pick2 L L') (fun _ => R) (by simp) (fun i hi => by
    rcases i with _ | _ | i
    · simp [rnsI]
    · simpa [rnsI] using hR
    · simp at hi) (fun i hi => by
    obtain rfl : i = 0 := by simpa using hi
    exact hp)
  have e : rnsI (fun _ => R) [p].length = R := by simp [rnsI, List.range_succ]
  rw [e] at h
  exact h
end
theorem get_ifs (v : List UInt8) : getV (vr1 v) [73, 70, 83] = some ⟨[73, 70, 83], [32, 9, 10], true, false, false⟩ := rfl
theorem pln_x {t : List UInt8} (ht : t = [97] ∨ t = [98]) : Pln [⟨t, 2⟩] := by
  rcases ht with rfl | rfl
  · exact ⟨by decide, by decide, fun x hx => by simp at hx; subst hx; decide⟩
  · exact ⟨by decide, by decide, fun x hx => by simp at hx; subst hx; decide⟩
theorem words_x : Ab Tryz.prog 9 [.ag (enC (vr1 [97, 32, 98])), filesA, .rd 1 [ai 0, .rd 1 (ptC [ptX])], nilV] (.tp [.ag (epC [az [97], az [98]] (vr1 [97, 32, 98])), ai 0]) := by
  have h1 := part_param (q := false) (f := true) (c := 0) (msg := []) (err := 0) (L := vr1 [97, 32, 98]) [97, 32, 98] false false 0 [] (by decide) rfl
  have h2 := parts_one _ _ (by decide) h1
  have hx : ∀ f ∈ [[(⟨[97], 2⟩ : El)], [⟨[98], 2⟩]], Ab Tryz.prog fExp [filesA, az [47], elsA f] (.tp [.rd 1 [az (cat f)], ai 0]) := fun f hf => by
    rcases List.mem_cons.1 hf with rfl | hf
    · exact expand_ab _ (pln_x (.inl rfl))
    · rcases List.mem_cons.1 hf with rfl | hf
      · exact expand_ab _ (pln_x (.inr rfl))
      · cases hf
  have h3 := word_fn (L := vr1 [97, 32, 98]) (L' := vr1 [97, 32, 98]) (msg := []) (err := 0) [⟨[97, 32, 98], 2⟩] [[⟨[97], 2⟩], [⟨[98], 2⟩]] ⟨[73, 70, 83], [32, 9, 10], true, false, false⟩ (by decide) (by decide) (by decide) h2 (get_ifs _) rfl fields_xv (by decide) (fun i hi => (by decide : ∀ f ∈ [[(⟨[97], 2⟩ : El)], [⟨[98], 2⟩]], f.length ≤ 1000 ∧ (cat f).length ≤ 4096) _ (List.getElem_mem hi)) (fun i hi => hx _ (List.getElem_mem hi))
  exact words_ok [[97], [98]] (by decide) (by decide) h3
def three {α : Type} (a b c : α) : Nat → α
  | 0 => a
  | 1 => b
  | _ => c
theorem words_q : Ab Tryz.prog 9 [.ag (enC (vr1 [97, 32, 98])), filesA, .rd 1 [ai 0, .rd 3 (ptC [⟨1, [112], 0, false, 0, []⟩, ptD, ⟨1, [113], 0, false, 0, []⟩])], nilV] (.tp [.ag (epC [az [112, 97, 32, 98, 113]] (vr1 [97, 32, 98])), ai 0]) := by
  have h1 := part_param (q := true) (f := true) (c := 0) (msg := []) (err := 0) (L := vr1 [97, 32, 98]) [97, 32, 98] false false 0 [] (by decide) rfl
  have h2 := parts_one _ _ (by decide) h1
  have h3 := part_double (q := false) (c := 0) _ (by decide) (by decide) h2
  have h4 := part_text (q := false) (f := true) (c := 0) (msg := []) (err := 0) (L := vr1 [97, 32, 98]) [112] 0 []
  have h5 := part_text (q := false) (f := true) (c := 0) (msg := []) (err := 0) (L := vr1 [97, 32, 98]) [113] 0 []
  have h6 := parts_fn (q := false) (f := true) (c := 0) (msg := []) (err := 0) [⟨1, [112], 0, false, 0, []⟩, ptD, ⟨1, [113], 0, false, 0, []⟩] (fun _ => vr1 [97, 32, 98]) (three [⟨[112], 0⟩] [⟨[97, 32, 98], 1⟩] [⟨[113], 0⟩]) (by decide) (fun i hi => by
    rcases i with _ | _ | _ | _ | i
    · decide
    · decide
    · decide
    · decide
    · simp at hi) (fun i hi => by
    rcases i with _ | _ | _ | i
    · exact h4
    · exact h3
    · exact h5
    · simp at hi; omega)
  have hx : ∀ f ∈ [[(⟨[112], 0⟩ : El), ⟨[97, 32, 98], 1⟩, ⟨[113], 0⟩]], Ab Tryz.prog fExp [filesA, az [47], elsA f] (.tp [.rd 1 [az (cat f)], ai 0]) := fun f hf => by
    rcases List.mem_cons.1 hf with rfl | hf
    · refine expand_ab _ ⟨by decide, by decide, fun x hx => ?_⟩
      simp only [List.mem_cons, List.not_mem_nil, or_false] at hx
      rcases hx with rfl | rfl | rfl <;> decide
    · cases hf
  have h7 := word_fn (L := vr1 [97, 32, 98]) (L' := vr1 [97, 32, 98]) (msg := []) (err := 0) [⟨[112], 0⟩, ⟨[97, 32, 98], 1⟩, ⟨[113], 0⟩] [[⟨[112], 0⟩, ⟨[97, 32, 98], 1⟩, ⟨[113], 0⟩]] ⟨[73, 70, 83], [32, 9, 10], true, false, false⟩ (by decide) (by decide) (by decide) h6 (get_ifs _) rfl fields_q (by decide) (fun i hi => (by decide : ∀ f ∈ [[(⟨[112], 0⟩ : El), ⟨[97, 32, 98], 1⟩, ⟨[113], 0⟩]], f.length ≤ 1000 ∧ (cat f).length ≤ 4096) _ (List.getElem_mem hi)) (fun i hi => hx _ (List.getElem_mem hi))
  exact words_ok [[112, 97, 32, 98, 113]] (by decide) (by decide) h7
theorem flds_ab {s : List UInt8} {kn : Nat} {kc F : List AV} (c1 : Ab Tryz.prog 8 [az s] (.tp [.rd kn kc, ai 0, ai 0])) (c3 : Ab Tryz.prog 9 [.ag (enC (vr1 [97, 32, 98])), filesA, .rd 1 [ai 0, .rd kn kc], nilV] (.tp [.ag (epC F (vr1 [97, 32, 98])), ai 0])) :
    Ab Tryz.prog 14 [.ag (enC (vr1 [97, 32, 98])), az s] (.tp [.rd F.length F, ab true]) := by
  have c2 := rnew_ab
  refine Fn_of_aw (keep := []) Tryz.func14 rfl rfl (by simp [Tryz.ntmps14]) ?_
  simp only [num_cons, num_nil, Tryz.ntmps14, Tryz.results14]
  repeat' (first
 | ((with_reducible apply awO_ev); (· rfl); (· exact sv))
 | ((with_reducible apply aw_seq); intro _ _)
 | (with_reducible apply aw_region)
 | ((with_reducible first | apply awO_nil | apply aw_exit | apply aw_skip | apply aw_ret); (try simp only [CT, ↓reduceIte, Nat.reduceEqDiff]))
 | ((with_reducible apply aw_cond_false); (· exact sv))
 | (refine Kont.go ‹Kont _ _ _ _› _ ?_)
 | ((with_reducible apply awO_c); (· rfl); (· rfl); (· exact sv); (· (first | exact c1)); (· rfl); (· rfl); (· rfl); (· decide))
 | ((with_reducible apply aw_draw); (· decide +kernel); (simp only [List.size_toArray, List.length_cons, List.length_nil, Nat.reduceAdd]))
 | ((with_reducible apply awY_q); (· exact sQ); (· exact np); (· exact svg); (· rfl); (· exact sv))
      | fail)
  (with_reducible apply awY_p); (· exact sH)
  (with_reducible apply awP_3 4 9); (· decide +kernel)
  repeat' (first
 | ((with_reducible apply awI_pub 24 24 (off := 0) (sz := 2) (n := 1) (cs := [ai 0, AV.rd kn kc])); (· rfl); (· rfl); (· exact Nat.le_refl _); (· rfl); (with_reducible apply awI_st); (· exact svs))
 | ((with_reducible apply aw_seq); intro _ _)
 | ((with_reducible first | apply awO_nil | apply aw_exit | apply aw_skip | apply aw_ret); (try simp only [CT, ↓reduceIte, Nat.reduceEqDiff]))
 | (refine Kont.go ‹Kont _ _ _ _› _ ?_)
 | ((with_reducible apply aw_draw); (· decide +kernel); (simp only [List.size_toArray, List.length_cons, List.length_nil, Nat.reduceAdd]))
 | ((with_reducible apply awY_done); (· decide +kernel); (try simp only [CT, ↓reduceIte, Nat.reduceEqDiff]))
 | ((with_reducible apply awY_q); (· exact sQ); (· exact np); (· exact svg); (· rfl); (· exact sv))
 | ((with_reducible apply awY_qy); (· exact sQ); (· exact np); (· exact svg); (· rfl); (· rfl); (· exact nd); (· exact sv); (· exact sv))
 | ((with_reducible apply endQ_rfl))
 | ((with_reducible apply endQ_sub); (· exact sE); (· exact sN))
 | ((with_reducible apply awI_ev); (· exact svg); (· rfl); (· exact sv))
 | ((with_reducible apply awI_c); (· exact svg); (· rfl); (· rfl); (· exact sv); (· (first | exact c2 | exact c3)); (· rfl); (· rfl); (· rfl); (· exact nd); simp only [put_some])
 | ((with_reducible apply retQ_mk); (· exact rI); (· exact sv); (· exact sv); rotate_left; (· rfl))
 | ((with_reducible apply awY_p); (· exact sH); (first | ((with_reducible apply awP_1); (· decide +kernel)) | ((with_reducible apply awP_2); (· exact sP)))))
  all_goals first | rfl
theorem live_ab : Ab Tryz.prog 5 [] (ab true) := by
  have c1 := environ_ab [97, 32, 98] (by decide)
  have c2 := flds_ab parse_x words_x
  have c3 := flds_ab parse_q words_q
  have c4 := same_ab [[97], [98]] (by decide)
  have c5 := same_ab [[112, 97, 32, 98, 113]] (by decide)
  simp only [List.length_cons, List.length_nil, List.map_cons, List.map_nil, Nat.zero_add, Nat.reduceAdd] at c2 c3 c4 c5
  refine Fn_of_aw (keep := []) Tryz.func5 rfl rfl (by simp [Tryz.ntmps5]) ?_
  simp only [num_cons, num_nil, Tryz.ntmps5, Tryz.results5]
  exact wkA
end Go.Proofs.YtogmppcfopgkdaaGreatDoor
