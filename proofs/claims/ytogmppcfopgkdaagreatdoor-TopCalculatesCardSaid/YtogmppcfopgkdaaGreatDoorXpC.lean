/- Expansions: small functions, on the abstract machine. -/
import Derived.Test.YtogmppcfopgkdaaGreatDoorVrC
import Derived.Test.YtogmppcfopgkdaaGreatDoorBit
import Derived.Test.YtogmppcfopgkdaaGreatDoorRen
import Derived.Test.YtogmppcfopgkdaaGreatDoorWdC
import Derived.Test.YtogmppcfopgkdaaGreatDoorSpA
import Derived.Test.YtogmppcfopgkdaaGreatDoorMkf
import Derived.Test.YtogmppcfopgkdaaGreatDoorCbD
namespace Go.Proofs.YtogmppcfopgkdaaGreatDoor
open Go.RowKit
set_option linter.unusedVariables false
set_option linter.unusedSimpArgs false
set_option maxRecDepth 100000
set_option maxHeartbeats 8000000
theorem andW_0 (n : Int) : andW 0 n = 0 := by
  unfold andW
  have : (BitVec.ofInt 64 0 &&& BitVec.ofInt 64 n) = 0#64 := by simp
  rw [this]
  decide
attribute [go_sem] andW_0
abbrev nilV : AV := .v (.slice none 0 0)
/-- The environment. -/
abbrev enC (L : List Vr) : List AV := [az [106, 111, 98, 115, 104, 101, 108, 108], .rd L.length (vrC L), .rd 2 [az [112, 32, 113], az [42]], nilV, nilV, nilV, ai 0, ai 0, ai 0, ai 0, az [47], ai 1, ai 0, ai 0, ab false]
/-- The state of an expansion. -/
abbrev xpC (L : List Vr) (msg : List UInt8) (err : Int) : List AV := [az [106, 111, 98, 115, 104, 101, 108, 108], .rd L.length (vrC L), .rd 2 [az [112, 32, 113], az [42]], nilV, nilV, nilV, ai 0, ai 0, ai 0, ai 0, az [47], ai 1, ai 0, ai 0, ab false,
  .rd 1 [az [47], ab true, az []], nilV, ai (-1), ab false, az [], az msg, ai err]
abbrev moA (q f : Bool) (c : Int) : AV := .ag [ab q, ab f, ai c]
section
variable {L : List Vr} {msg : List UInt8} {err : Int}
theorem start_fn0 : Fn Tryz.prog 20 [.ag (enC L), .rd 1 [az [47], ab true, az []], nilV] [] (.pt 11 0) [(11, xpC L [] 0)] [] := by
  refine Fn_of_aw (keep := [11]) Tryz.func20 rfl rfl (by simp [Tryz.ntmps20]) ?_
  simp only [num_cons, num_nil, Tryz.ntmps20, Tryz.results20]
  repeat' (first
 | ((with_reducible apply awO_ev); (· rfl); (· exact sv))
 | ((with_reducible apply aw_seq); intro _ _)
 | (with_reducible apply aw_region)
 | ((with_reducible first | apply awO_nil | apply aw_exit | apply aw_skip | apply aw_ret); (try simp only [CT, ↓reduceIte, Nat.reduceEqDiff]))
 | (refine Kont.go ‹Kont _ _ _ _› _ ?_))
  all_goals exact retQ_mkL (.inr rfl) rfl rfl rfl ⟨⟨by simp, rfl⟩, trivial⟩ rfl
theorem start_fn : Fn Tryz.prog 20 [.ag (enC L), .rd 1 [az [47], ab true, az []], nilV] [] (.pt 200 0) [(200, xpC L [] 0)] [] := by
  have := (start_fn0 (L := L)).ren (swp 11 200) (swp_inv 11 200)
  simp only [renAs_cons, renAs_nil, renA_pt, renA_v, renA_rd, renA_ag, renH, List.map_cons, List.map_nil] at this
  exact this
theorem one_ab (s : List UInt8) (c : Int) : Ab Tryz.prog 113 [az s, ai c] (.rd 1 [az s, ai c]) := by
  refine Fn_of_aw (keep := []) Tryz.func113 rfl rfl (by simp [Tryz.ntmps113]) ?_
  simp only [num_cons, num_nil, Tryz.ntmps113, Tryz.results113]
  exact wkA
theorem literal_ab (q f : Bool) (c : Int) : Ab Tryz.prog 114 [moA q f c] (ai (if q = true then 1 else c)) := by
  cases q
  · skip
    refine Fn_of_aw (keep := []) Tryz.func114 rfl rfl (by simp [Tryz.ntmps114]) ?_
    simp only [num_cons, num_nil, Tryz.ntmps114, Tryz.results114]
    exact wkA
  · skip
    refine Fn_of_aw (keep := []) Tryz.func114 rfl rfl (by simp [Tryz.ntmps114]) ?_
    simp only [num_cons, num_nil, Tryz.ntmps114, Tryz.results114]
    exact wkA
theorem result_ab (q f : Bool) (c : Int) : Ab Tryz.prog 172 [moA q f c] (ai (if q = true then 1 else 2)) := by
  cases q
  · skip
    refine Fn_of_aw (keep := []) Tryz.func172 rfl rfl (by simp [Tryz.ntmps172]) ?_
    simp only [num_cons, num_nil, Tryz.ntmps172, Tryz.results172]
    exact wkA
  · skip
    refine Fn_of_aw (keep := []) Tryz.func172 rfl rfl (by simp [Tryz.ntmps172]) ?_
    simp only [num_cons, num_nil, Tryz.ntmps172, Tryz.results172]
    exact wkA
theorem fail_fn (e : Int) : Fn Tryz.prog 22 [.pt 200 0, ai e] [(200, xpC L msg err)] (ab false) [(200, xpC L msg e)] [200] := by
  refine Fn_of_aw (keep := [200]) Tryz.func22 rfl rfl (by simp [Tryz.ntmps22]) (aw_wk ?_)
  simp only [num_cons, num_nil, Tryz.ntmps22, Tryz.results22]
  exact wkA
theorem fatal_fn (m : List UInt8) : Fn Tryz.prog 174 [.pt 200 0, az m] [(200, xpC L msg err)] (ab false) [(200, xpC L m 32)] [200] := by
  have c1 := fail_fn (L := L) (msg := m) (err := err) 32
  refine Fn_of_aw (keep := [200]) Tryz.func174 rfl rfl (by simp [Tryz.ntmps174]) (aw_wk ?_)
  simp only [num_cons, num_nil, Tryz.ntmps174, Tryz.results174]
  exact wkA
theorem reason_ab (e : Int) : ∃ s, s.length ≤ 100 ∧ Ab Tryz.prog 175 [ai e] (az s) := by
  by_cases h1 : e = 6
  · subst h1
    refine ⟨[115, 121, 110, 116, 97, 120, 32, 101, 114, 114, 111, 114], by decide, ?_⟩
    refine Fn_of_aw (keep := []) Tryz.func175 rfl rfl (by simp [Tryz.ntmps175]) ?_
    simp only [num_cons, num_nil, Tryz.ntmps175, Tryz.results175]
    exact wkA
  by_cases h2 : e = 13
  · subst h2
    refine ⟨[100, 105, 118, 105, 115, 105, 111, 110, 32, 98, 121, 32, 122, 101, 114, 111], by decide, ?_⟩
    refine Fn_of_aw (keep := []) Tryz.func175 rfl rfl (by simp [Tryz.ntmps175]) ?_
    simp only [num_cons, num_nil, Tryz.ntmps175, Tryz.results175]
    exact wkA
  by_cases h3 : e = 1
  · subst h3
    refine ⟨[110, 111, 116, 32, 97, 32, 110, 117, 109, 98, 101, 114], by decide, ?_⟩
    refine Fn_of_aw (keep := []) Tryz.func175 rfl rfl (by simp [Tryz.ntmps175]) ?_
    simp only [num_cons, num_nil, Tryz.ntmps175, Tryz.results175]
    exact wkA
  by_cases h4 : e = 14
  · subst h4
    refine ⟨[110, 117, 109, 98, 101, 114, 32, 116, 111, 111, 32, 108, 97, 114, 103, 101], by decide, ?_⟩
    refine Fn_of_aw (keep := []) Tryz.func175 rfl rfl (by simp [Tryz.ntmps175]) ?_
    simp only [num_cons, num_nil, Tryz.ntmps175, Tryz.results175]
    exact wkA
  · refine ⟨[99, 97, 110, 110, 111, 116, 32, 98, 101, 32, 101, 118, 97, 108, 117, 97, 116, 101, 100], by decide, ?_⟩
    refine Fn_of_aw (keep := []) Tryz.func175 rfl rfl (by simp [Tryz.ntmps175]) ?_
    simp only [num_cons, num_nil, Tryz.ntmps175, Tryz.results175]
    exact wkA
theorem assign_fn (nm val : List UInt8) (hn : nmB nm = true) (hv : val.length ≤ 4096) (hL : L.length < 128) (hro : ∀ v ∈ L, v.ro = false) : Fn Tryz.prog 176 [.pt 200 0, az nm, az val] [(200, xpC L msg err)] (ab true) [(200, xpC (setV L nm val) msg err)] [200] := by
  have c1 := set_ab L nm val hn hv hL hro
  generalize setV L nm val = M at *
  refine Fn_of_aw (keep := [200]) Tryz.func176 rfl rfl (by simp [Tryz.ntmps176]) (aw_wk ?_)
  simp only [num_cons, num_nil, Tryz.ntmps176, Tryz.results176]
  exact wkA
theorem cloneV_ab (L : List Vr) (hL : L.length ≤ 1000) : Ab Tryz.prog 85 [.rd L.length (vrC L)] (.rd L.length (vrC L)) := by
  have h1 := vrC_len L
  refine Fn_of_aw (keep := []) Tryz.func85 rfl rfl (by simp [Tryz.ntmps85]) ?_
  simp only [num_cons, num_nil, Tryz.ntmps85, Tryz.results85]
  exact wkA
theorem cloneS_ab (C : List (List UInt8)) (hL : C.length ≤ 1000) : Ab Tryz.prog 86 [.rd C.length (C.map az)] (.rd C.length (C.map az)) := by
  refine Fn_of_aw (keep := []) Tryz.func86 rfl rfl (by simp [Tryz.ntmps86]) ?_
  simp only [num_cons, num_nil, Tryz.ntmps86, Tryz.results86]
  exact wkA
theorem cloneA_ab : Ab Tryz.prog 87 [nilV] (.rd 0 []) := by
  refine Fn_of_aw (keep := []) Tryz.func87 rfl rfl (by simp [Tryz.ntmps87]) ?_
  simp only [num_cons, num_nil, Tryz.ntmps87, Tryz.results87]
  exact wkA
theorem cloneT_ab : Ab Tryz.prog 88 [nilV] (.rd 0 []) := by
  refine Fn_of_aw (keep := []) Tryz.func88 rfl rfl (by simp [Tryz.ntmps88]) ?_
  simp only [num_cons, num_nil, Tryz.ntmps88, Tryz.results88]
  exact wkA
theorem cloneF_ab : Ab Tryz.prog 89 [nilV] (.rd 0 []) := by
  refine Fn_of_aw (keep := []) Tryz.func89 rfl rfl (by simp [Tryz.ntmps89]) ?_
  simp only [num_cons, num_nil, Tryz.ntmps89, Tryz.results89]
  exact wkA
end
end Go.Proofs.YtogmppcfopgkdaaGreatDoor
/- Expansions: parts, values, on the abstract machine. -/
namespace Go.Proofs.YtogmppcfopgkdaaGreatDoor
open Go.RowKit
set_option linter.unusedVariables false
set_option linter.unusedSimpArgs false
set_option maxRecDepth 100000
set_option maxHeartbeats 8000000
abbrev fPart : FuncId := 73
abbrev fParts : FuncId := 44
abbrev fValue : FuncId := 173
theorem elC_okC (L : List El) : (elC L).all okC = true := by
  rw [List.all_eq_true]
  intro x hx
  obtain ⟨v, _, hv⟩ := List.mem_flatMap.1 hx
  simp only [List.mem_cons, List.not_mem_nil, or_false] at hv
  rcases hv with rfl | rfl <;> rfl
theorem elC_free (k : Nat) (L : List El) : freeOf k (elC L) = true := by
  unfold freeOf
  rw [List.all_eq_true]
  intro x hx
  obtain ⟨v, _, hv⟩ := List.mem_flatMap.1 hx
  simp only [List.mem_cons, List.not_mem_nil, or_false] at hv
  rcases hv with rfl | rfl <;> rfl
section
variable {msg : List UInt8} {err : Int} {q f : Bool} {c : Int}
/-- The runs of the first i parts. -/
def rnsI (R : Nat → List El) (i : Nat) : List El := (List.range i).flatMap R
theorem rnsI_succ (R : Nat → List El) (i : Nat) : rnsI R (i + 1) = rnsI R i ++ R i := by
  unfold rnsI
  rw [List.range_succ, List.flatMap_append]
  simp
theorem parts_fn (ps : List Pt) (Ls : Nat → List Vr) (R : Nat → List El) (hn : ps.length ≤ 100) (hR : ∀ i, i ≤ ps.length → (rnsI R i).length ≤ 1000)
    (hp : ∀ (i : Nat) (h : i < ps.length), Fn Tryz.prog fPart [.pt 200 0, .ag (ptCs ps[i]), moA q f c] [(200, xpC (Ls i) msg err)] (.tp [elsA (R i), ab true]) [(200, xpC (Ls (i + 1)) msg err)] [200]) :
    Fn Tryz.prog fParts [.pt 200 0, .rd ps.length (ptC ps), moA q f c] [(200, xpC (Ls 0) msg err)] (.tp [elsA (rnsI R ps.length), ab true]) [(200, xpC (Ls ps.length) msg err)] [200] := by
  have hR0 := hR
  unfold ptC
  refine Fn_of_aw (keep := [200]) Tryz.func44 rfl rfl (by simp [Tryz.ntmps44]) (aw_wk ?_)
  simp only [num_cons, num_nil, Tryz.ntmps44, Tryz.results44]
  repeat' (first
 | ((with_reducible apply awO_ev); (· rfl); (· exact sv))
 | ((with_reducible apply aw_seq); intro _ _)
 | (with_reducible apply aw_region)
 | (with_reducible apply aw_block)
 | ((with_reducible first | apply awO_nil | apply aw_exit | apply aw_skip | apply aw_ret); (try simp only [CT, ↓reduceIte, Nat.reduceEqDiff]))
 | (refine Kont.go ‹Kont _ _ _ _› _ ?_))
  refine aw_virt 9 100 2 rfl (by omega) (by simp) ?_
  refine aw_st svs ?_
  refine aw_loopF (fun i : Nat => [(18, ai i), (9, .os 100 0 2 (rnsI R i).length)]) (fun i => [(100, elC (rnsI R i)), (5, [ab q, ab f, ai c]), (200, xpC (Ls i) msg err)]) (fun i => i ≤ ps.length) (fun i => ps.length - i) 0 (Nat.zero_le _) ?_ ?_ ?_
  · exact ⟨rfl, rfl, trivial⟩
  · exact ⟨rfl, rfl, rfl, trivial⟩
  rintro i hi
  (simp only [LP, List.append_assoc, List.nil_append, List.cons_append, List.append_nil, List.contains_cons, List.contains_nil, Nat.reduceBEq, Bool.or_false, Bool.or_true, Bool.true_or, Bool.false_or, ↓reduceIte, Bool.false_eq_true])
  by_cases hil : i < ps.length
  · have c1 := hp i hil
    have e1 := rnsI_succ R i
    have l1 := hR i hi
    have l2 := hR (i + 1) hil
    rw [e1, List.length_append] at l2
    have q1 := elC_len (R i)
    have q2 := elC_okC (R i)
    have q3 := elC_free 100 (R i)
    have q4 := elC_free 100 (rnsI R i)
    repeat' (first
 | ((with_reducible apply awO_ev); (· rfl); (· exact sv))
 | ((with_reducible apply aw_seq); intro _ _)
 | (with_reducible apply aw_region)
 | (with_reducible apply aw_block)
 | ((with_reducible first | apply awO_nil | apply aw_exit | apply aw_skip | apply aw_ret); (try simp only [CT, ↓reduceIte, Nat.reduceEqDiff]))
 | ((with_reducible apply aw_cond_false); (· exact sv))
 | (refine Kont.go ‹Kont _ _ _ _› _ ?_)
 | ((with_reducible apply awO_kb); (· rfl); (· rfl); (· exact sv); (· exact sv); (· (first | exact c1)); (· exact svq); (· exact svq); (· exact svq); (· exact svq); (· rfl); (· exact nd); (with_reducible apply awO_st); (· exact svs))
 | ((first | ((with_reducible apply awO_guardN); (· rfl); (· rfl); (· exact sv); (· exact nB)) | ((with_reducible apply aw_condN); (· exact sv))); (· exact pN); (· exact pN); all_goals (intro hg; try (exfalso; omega))))
    all_goals
      refine LE_mk (i + 1) ?_ ?_ ?_ sN ?_
      · exact hil
      · omega
      · refine ⟨rfl, ?_, trivial⟩
        show some _ = some (AV.os 100 0 2 (rnsI R (i + 1)).length)
        rw [e1, List.length_append]
      · refine ⟨?_, rfl, rfl, trivial⟩
        show some _ = some (elC (rnsI R (i + 1)))
        rw [e1, elC_append]
  · obtain rfl : i = ps.length := by omega
    exact wkD
end
end Go.Proofs.YtogmppcfopgkdaaGreatDoor
/- Expansions: values, texts, arithmetic, on the abstract machine. -/
namespace Go.Proofs.YtogmppcfopgkdaaGreatDoor
open Go.RowKit
set_option linter.unusedVariables false
set_option linter.unusedSimpArgs false
set_option maxRecDepth 100000
set_option maxHeartbeats 8000000
abbrev fArith : FuncId := 117
section
variable {msg : List UInt8} {err : Int} {q f : Bool} {c : Int} {L L' : List Vr}
theorem value_fn {kn : Nat} {kc : List AV} (Rs : List El) (hl : Rs.length ≤ 1000) (hc : (cat Rs).length ≤ 4096)
    (hp : Fn Tryz.prog fParts [.pt 200 0, .rd kn kc, moA q false c] [(200, xpC L msg err)] (.tp [elsA Rs, ab true]) [(200, xpC L' msg err)] [200]) :
    Fn Tryz.prog fValue [.pt 200 0, .rd kn kc, moA q f c] [(200, xpC L msg err)] (.tp [az (cat Rs), ab true]) [(200, xpC L' msg err)] [200] := by
  have c2 := text_ab Rs (by omega) (by omega)
  generalize hC : elC Rs = C at *
  generalize cat Rs = s at *
  refine Fn_of_aw (keep := [200]) Tryz.func173 rfl rfl (by simp [Tryz.ntmps173]) (aw_wk ?_)
  simp only [num_cons, num_nil, Tryz.ntmps173, Tryz.results173]
  exact wkA
theorem part_text (s : List UInt8) (kn : Nat) (kc : List AV) : Fn Tryz.prog fPart [.pt 200 0, .ag (ptCs ⟨1, s, 0, false, kn, kc⟩), moA q f c] [(200, xpC L msg err)] (.tp [elsA [⟨s, if q = true then 1 else c⟩], ab true]) [(200, xpC L msg err)] [200] := by
  have c1 := literal_ab q f c
  have c2 := one_ab s (if q = true then 1 else c)
  generalize (if q = true then 1 else c) = k at *
  refine Fn_of_aw (keep := [200]) Tryz.func73 rfl rfl (by simp [Tryz.ntmps73]) (aw_wk ?_)
  simp only [num_cons, num_nil, Tryz.ntmps73, Tryz.results73]
  exact wkA
/-- The text of an arithmetic expansion. -/
theorem arith_text (s : List UInt8) (hs : s.length ≤ 4000) : ∃ kn kc, (kn = 0 ∨ kn = 1) ∧ kc = ptC (if s = [] then [] else [⟨1, s, 0, false, 0, []⟩]) ∧ kn = (if s = [] then ([] : List Pt) else [⟨1, s, 0, false, 0, []⟩]).length ∧
    Fn Tryz.prog fValue [.pt 200 0, .rd kn kc, moA true false 0] [(200, xpC L msg err)] (.tp [az s, ab true]) [(200, xpC L msg err)] [200] := by
  by_cases h : s = []
  · subst h
    refine ⟨0, [], .inl rfl, by rw [if_pos rfl]; rfl, by rw [if_pos rfl]; rfl, ?_⟩
    have := parts_fn (q := true) (f := false) (c := 0) (msg := msg) (err := err) [] (fun _ => L) (fun _ => []) (by simp) (fun i hi => by simp at hi; subst hi; simp [rnsI]) (fun i h => by simp at h)
    exact value_fn [] (by simp) (by simp [cat]) this
  · refine ⟨1, ptC [⟨1, s, 0, false, 0, []⟩], .inr rfl, by rw [if_neg h], by rw [if_neg h]; rfl, ?_⟩
    have := parts_fn (q := true) (f := false) (c := 0) (msg := msg) (err := err) [⟨1, s, 0, false, 0, []⟩] (fun _ => L) (fun _ => [⟨s, 1⟩]) (by simp) (fun i hi => by
      simp only [List.length_cons, List.length_nil] at hi
      rcases (by omega : i = 0 ∨ i = 1) with rfl | rfl <;> simp [rnsI]) (fun i h => by
      simp only [List.length_cons, List.length_nil] at h
      obtain rfl : i = 0 := by omega
      exact part_text s 0 [])
    have e : rnsI (fun _ => [(⟨s, 1⟩ : El)]) 1 = [⟨s, 1⟩] := rfl
    have e2 : cat [(⟨s, 1⟩ : El)] = s := by simp [cat]
    have := value_fn (f := false) [⟨s, 1⟩] (by simp) (by rw [e2]; omega) this
    rw [e2] at this
    exact this
/-! ### Arithmetic -/
def bndV (L : List Vr) : Mp := L.map fun v => (v.nm, v.val)
theorem bndV_len (L : List Vr) : (bndV L).length = L.length := by simp [bndV]
def asgS (m : Mp) (L : List Vr) (b : List UInt8 × List UInt8) : List Vr := if hasM m b.1 = true ∧ getM m b.1 = b.2 then L else setV L b.1 b.2
/-- The variables behind the assignments. -/
def asgA (m : Mp) (A : Mp) (L : List Vr) : List Vr := A.foldl (asgS m) L
theorem asgA_succ {m A : Mp} {L : List Vr} {i : Nat} (h : i < A.length) : asgA m (A.take (i + 1)) L = asgS m (asgA m (A.take i) L) A[i] := by
  unfold asgA
  rw [List.take_succ_eq_append_getElem h, List.foldl_append]
  rfl
theorem setV_len (L : List Vr) (nm val : List UInt8) : (setV L nm val).length ≤ L.length + 1 := by
  have := plcV_le L nm
  unfold setV
  split
  · next h =>
    have := plcV_lt h
    rw [List.getElem?_eq_getElem this]
    simp only [List.length_append, List.length_take, List.length_drop, List.length_cons, List.length_nil]
    omega
  · simp only [List.length_append, List.length_take, List.length_drop, List.length_cons, List.length_nil]
    omega
theorem setV_mem {L : List Vr} {nm val : List UInt8} {v : Vr} (h : v ∈ setV L nm val) : v ∈ L ∨ (v.st = true ∧ v.val = val ∧ (v.ro = false ∨ ∃ u ∈ L, u.ro = v.ro)) := by
  unfold setV at h
  split at h
  · next h1 =>
    have h2 := plcV_lt h1
    rw [List.getElem?_eq_getElem h2] at h
    simp only [List.mem_append, List.mem_cons, List.not_mem_nil, or_false] at h
    rcases h with (h | rfl) | h
    · exact .inl (List.mem_of_mem_take h)
    · exact .inr ⟨rfl, rfl, .inr ⟨_, List.getElem_mem h2, rfl⟩⟩
    · exact .inl (List.mem_of_mem_drop h)
  · simp only [List.mem_append, List.mem_cons, List.not_mem_nil, or_false] at h
    rcases h with (h | rfl) | h
    · exact .inl (List.mem_of_mem_take h)
    · exact .inr ⟨rfl, rfl, .inl rfl⟩
    · exact .inl (List.mem_of_mem_drop h)
theorem asgA_ok {m A : Mp} {L : List Vr} (hro : ∀ v ∈ L, v.ro = false) : ∀ i, i ≤ A.length → (asgA m (A.take i) L).length ≤ L.length + i ∧ ∀ v ∈ asgA m (A.take i) L, v.ro = false
  | 0, _ => ⟨Nat.le_refl _, hro⟩
  | i + 1, h => by
    obtain ⟨h1, h2⟩ := asgA_ok (m := m) (A := A) hro i (by omega)
    rw [asgA_succ (by omega)]
    unfold asgS
    split
    · exact ⟨by omega, h2⟩
    · refine ⟨by have := setV_len (asgA m (A.take i) L) A[i].1 A[i].2; omega, fun v hv => ?_⟩
      rcases setV_mem hv with h | ⟨_, _, h | ⟨u, hu, e⟩⟩
      · exact h2 v h
      · exact h
      · rw [← e]; exact h2 u hu
end
end Go.Proofs.YtogmppcfopgkdaaGreatDoor
