/- Words: the scope of the parser, its small functions, on the abstract machine. -/
import Derived.Test.YtogmppcfopgkdaaGreatDoorCaE
import Derived.Test.YtogmppcfopgkdaaGreatDoorRen
namespace Go.Proofs.YtogmppcfopgkdaaGreatDoor
open Go.RowKit
set_option linter.unusedVariables false
set_option linter.unusedSimpArgs false
set_option maxRecDepth 100000
set_option maxHeartbeats 8000000
section
variable {P : Program} {Q : Exit → St → Prop} {fr : List (Nat × AV)} {hp : Hp} {nt : Nat} {fx : List Nat} {c : Code}
/-- A cell of the object k that is nil: a slice of an own object K of no cells. -/
theorem S_virtC {E : Env} {a : Act} {w : World} (k j K sz : Nat) {cs : List AV} (hk : look hp k = some cs) (hj : cs[j]? = some (.v (.slice none 0 0))) (hz : 0 < sz) (hK : K ∉ fx) (hne : k ≠ K) (hS : S E ⟨fr, hp, nt, fx⟩ a w) :
    S E ⟨turn (killX K) fr, hset k ((cs.map (killC K)).set j (.os K 0 sz 0)) (hset K [] (turn (List.map (killC K)) hp)), nt, fx⟩ a w := by
  obtain ⟨ρ, hS⟩ := hS
  have h1 := hS.fresh (w' := w) K hK ⟨0, 0, 0⟩ [] rfl rfl rfl (Nat.le_refl _) (fun _ _ _ => rfl) (fun h => absurd h (by simp)) (by simp) (fun h => absurd h (by simp)) (fun j x hj => by simp at hj) (fun x hx => by cases hx)
  refine ⟨_, SR.re k (cs := cs.map (killC K)) ?_ (by simp) (fun i x y v hx hy hr => ?_) h1⟩
  · rw [look_hset, if_neg hne, look_turn, hk]
    rfl
  · rw [List.getElem?_set] at hy
    split at hy
    · next e =>
      subst e
      split at hy
      · injection hy with hy
        subst hy
        rw [List.getElem?_map, hj] at hx
        simp only [Option.map_some, Option.some.injEq] at hx
        have : x = .v (.slice none 0 0) := by rw [← hx]; rfl
        subst this
        rw [hr.v_eq]
        exact .os hz (Nat.le_refl _) (by omega) (fun h => absurd h (by omega))
      · cases hy
    · rw [hx] at hy
      injection hy with hy
      subst hy
      exact hr
theorem wk_virtC {e : Exit} (k j K sz : Nat) {cs : List AV} (hk : look hp k = some cs) (hj : cs[j]? = some (.v (.slice none 0 0))) (hz : 0 < sz) (hK : K ∉ fx) (hne : k ≠ K) (h : wk Q e ⟨turn (killX K) fr, hset k ((cs.map (killC K)).set j (.os K 0 sz 0)) (hset K [] (turn (List.map (killC K)) hp)), nt, fx⟩) : wk Q e ⟨fr, hp, nt, fx⟩ := by
  obtain ⟨st', h1, h2⟩ := h
  exact ⟨st', fun E a w hS => h1 E a w (S_virtC k j K sz hk hj hz hK hne hS), h2⟩
end
/-- A part of a word; its own parts as cells. -/
structure Pt where
  k : Int
  t : List UInt8
  op : Int
  col : Bool
  kn : Nat
  kc : List AV
abbrev ptCs (p : Pt) : List AV := [ai p.k, az p.t, ai p.op, ab p.col, .rd p.kn p.kc]
def ptC (L : List Pt) : List AV := L.flatMap fun p => [ai p.k, az p.t, ai p.op, ab p.col, .rd p.kn p.kc]
abbrev scC (s : List UInt8) (at1 pl : Int) (opd : Bool) (lv op dp : Int) (tn ln : Nat) : List AV := [az s, ai at1, ai pl, ab opd, ai lv, ai op, ai dp, .os 201 0 1 tn, .os 202 0 5 ln]
abbrev scH (s : List UInt8) (at1 pl : Int) (opd : Bool) (lv op dp : Int) (T : List UInt8) (Ls : List Pt) : Hp := [(200, scC s at1 pl opd lv op dp T.length Ls.length), (201, bytesA T), (202, ptC Ls)]
section
variable {s T : List UInt8} {at1 pl lv op dp : Int} {opd : Bool} {Ls : List Pt}
theorem bytesA_kill (k : Nat) (T : List UInt8) : (bytesA T).map (killC k) = bytesA T := by
  unfold bytesA
  rw [List.map_map]
  rfl
theorem bytesA_free (k : Nat) (T : List UInt8) : freeOf k (bytesA T) = true := by
  unfold freeOf
  rw [List.all_eq_true]
  intro x hx
  obtain ⟨b, _, rfl⟩ := List.mem_map.1 hx
  rfl
theorem bytesA_okC (T : List UInt8) : (bytesA T).all okC = true := by
  rw [List.all_eq_true]
  intro x hx
  obtain ⟨b, _, rfl⟩ := List.mem_map.1 hx
  rfl
theorem freeOf_app (k : Nat) (a b : List AV) : freeOf k (a ++ b) = (freeOf k a && freeOf k b) := by unfold freeOf; rw [List.all_append]
theorem freeOf_one (k : Nat) (x : AV) : freeOf k [x] = !mentM k x := by simp [freeOf]
theorem ptC_mem {L : List Pt} {x : AV} (hx : x ∈ ptC L) : (∃ y, x = .v y ∧ y.oneCell' = true ∧ dataC x = true) ∨ ∃ n c, x = .rd n c := by
  obtain ⟨p, _, hp⟩ := List.mem_flatMap.1 hx
  simp only [List.mem_cons, List.not_mem_nil, or_false] at hp
  rcases hp with rfl | rfl | rfl | rfl | rfl
  · exact .inl ⟨_, rfl, rfl, rfl⟩
  · exact .inl ⟨_, rfl, rfl, rfl⟩
  · exact .inl ⟨_, rfl, rfl, rfl⟩
  · exact .inl ⟨_, rfl, rfl, rfl⟩
  · exact .inr ⟨_, _, rfl⟩
theorem ptC_kill (k : Nat) (L : List Pt) : (ptC L).map (killC k) = ptC L := by
  conv => rhs; rw [← List.map_id (ptC L)]
  refine List.map_congr_left fun x hx => ?_
  rcases ptC_mem hx with ⟨y, rfl, _⟩ | ⟨n, c, rfl⟩ <;> rfl
theorem ptC_free (k : Nat) (L : List Pt) : freeOf k (ptC L) = true := by
  unfold freeOf
  rw [List.all_eq_true]
  intro x hx
  rcases ptC_mem hx with ⟨y, rfl, _⟩ | ⟨n, c, rfl⟩ <;> rfl
theorem ptC_okC (L : List Pt) : (ptC L).all okC = true := by
  rw [List.all_eq_true]
  intro x hx
  rcases ptC_mem hx with ⟨y, rfl, h, _⟩ | ⟨n, c, rfl⟩
  · exact h
  · rfl
theorem ptC_data (L : List Pt) : (ptC L).all dataC = true := by
  rw [List.all_eq_true]
  intro x hx
  rcases ptC_mem hx with ⟨y, rfl, _, h⟩ | ⟨n, c, rfl⟩
  · exact h
  · rfl
theorem ptC_len (L : List Pt) : (ptC L).length = L.length * 5 := by unfold ptC; exact flat5_len
attribute [go_sem] bytesA_kill bytesA_free bytesA_okC freeOf_app freeOf_one ptC_kill ptC_free ptC_okC ptC_data
theorem bytesA_data (T : List UInt8) : (bytesA T).all dataC = true := by
  rw [List.all_eq_true]
  intro x hx
  obtain ⟨b, _, rfl⟩ := List.mem_map.1 hx
  rfl
theorem ro_pt (hp : Hp) (keep : List Nat) (L : List Pt) : (some (ptC L)).bind (roCs hp keep) = some (ptC L) := roCs_data (ptC_data L)
theorem ro_by (hp : Hp) (keep : List Nat) (T : List UInt8) : (some (bytesA T)).bind (roCs hp keep) = some (bytesA T) := roCs_data (bytesA_data T)
theorem ro_byc (hp : Hp) (keep : List Nat) (T : List UInt8) (c : UInt8) : (some (bytesA T ++ [au c])).bind (roCs hp keep) = some (bytesA T ++ [au c]) := roCs_data (by rw [List.all_append, bytesA_data]; rfl)
theorem bytesA_app (T : List UInt8) (c : UInt8) : bytesA (T ++ [c]) = bytesA T ++ [au c] := by simp [bytesA]
theorem bytesA_len (T : List UInt8) : (bytesA T).length = T.length := by simp [bytesA]
theorem literal_fn (c : UInt8) (hT : T.length ≤ 100000) (h0 : 0 ≤ at1) (h1 : at1 ≤ 100000) : Fn Tryz.prog 112 [.pt 200 0, au c, ai 1] (scH s at1 pl opd lv op dp T Ls) (.tp []) (scH s (at1 + 1) pl opd lv op dp (T ++ [c]) Ls) [200] := by
  have q1 := bytesA_len T
  simp only [scH, scC, bytesA_app, List.length_append, List.length_cons, List.length_nil]
  refine Fn_of_aw (keep := [200, 201, 202]) Tryz.func112 rfl rfl (by simp [Tryz.ntmps112]) (aw_wk ?_)
  simp only [num_cons, num_nil, Tryz.ntmps112, Tryz.results112]
  repeat' (first
 | ((with_reducible apply awO_ev); (· rfl); (· exact sv))
 | ((with_reducible apply aw_seq); intro _ _)
 | (with_reducible apply aw_region)
 | ((with_reducible first | apply awO_nil | apply aw_exit | apply aw_skip | apply aw_ret); (try simp only [CT, ↓reduceIte, Nat.reduceEqDiff]))
 | (refine Kont.go ‹Kont _ _ _ _› _ ?_))
  all_goals (refine wk_id ?_; refine retQ_mkL (by first | exact .inr rfl | exact .inl rfl) rfl rfl rfl ?_ rfl)
  all_goals exact ⟨⟨by simp, rfl⟩, ⟨by simp, ro_byc _ _ _ _⟩, ⟨by simp, ro_pt _ _ _⟩, trivial⟩
end
end Go.Proofs.YtogmppcfopgkdaaGreatDoor
/- Words: flush, add, ended, on the abstract machine. -/
namespace Go.Proofs.YtogmppcfopgkdaaGreatDoor
open Go.RowKit
set_option linter.unusedVariables false
set_option linter.unusedSimpArgs false
set_option maxRecDepth 100000
set_option maxHeartbeats 8000000
section
variable {s T : List UInt8} {at1 pl lv op dp : Int} {opd : Bool} {Ls : List Pt}
attribute [go_sem] unB_bytesA
theorem ptC_app (L M : List Pt) : ptC (L ++ M) = ptC L ++ ptC M := by unfold ptC; rw [List.flatMap_append]
theorem ptC_one (p : Pt) : ptC [p] = [ai p.k, az p.t, ai p.op, ab p.col, .rd p.kn p.kc] := rfl
theorem ro_ptc (hp : Hp) (keep : List Nat) (L : List Pt) (k : Int) (t : List UInt8) (o : Int) (b : Bool) (n : Nat) (c : List AV) : (some (ptC L ++ [ai k, az t, ai o, ab b, .rd n c])).bind (roCs hp keep) = some (ptC L ++ [ai k, az t, ai o, ab b, .rd n c]) := roCs_data (by rw [List.all_append, ptC_data]; rfl)
theorem set5_app (L : List Pt) (x1 x2 x3 x4 x5 a b c d e : AV) : (((((ptC L ++ [x1, x2, x3, x4, x5]).set (L.length * 5) a).set (L.length * 5 + 1) b).set (L.length * 5 + 1 + 1) c).set (L.length * 5 + 1 + 1 + 1) d).set (L.length * 5 + 1 + 1 + 1 + 1) e = ptC L ++ [a, b, c, d, e] := by
  have h := ptC_len L
  generalize ptC L = C at *
  rw [← h]
  have key : ∀ (xs : List AV) (i : Nat) (v : AV), (C ++ xs).set (C.length + i) v = C ++ xs.set i v := fun xs i v => by
    rw [List.set_append_right _ _ (by omega)]
    congr 2
    omega
  have k0 := key [x1, x2, x3, x4, x5] 0 a
  rw [Nat.add_zero] at k0
  rw [k0, key, Nat.add_assoc, key, Nat.add_assoc, Nat.add_assoc, key, Nat.add_assoc, Nat.add_assoc, Nat.add_assoc, key]
  rfl
attribute [go_sem] set5_app
theorem S_nzP {E : Env} {a : Act} {w : World} {fr : List (Nat × AV)} {hp : Hp} {nt : Nat} {fx : List Nat} (k : Nat) {C : List AV} (hk : look hp k = some (C ++ [.v (.slice none 0 0)])) (hS : S E ⟨fr, hp, nt, fx⟩ a w) : S E ⟨fr, hset k (C ++ [.rd 0 []]) hp, nt, fx⟩ a w := by
  obtain ⟨ρ, hS⟩ := hS
  refine ⟨ρ, SR.re k hk (by simp) (fun i x y v hx hy hr => ?_) hS⟩
  rcases Nat.lt_trichotomy i C.length with h | rfl | h
  · rw [List.getElem?_append_left h] at hx hy
    rw [hx] at hy
    injection hy with hy
    subst hy
    exact hr
  · rw [List.getElem?_append_right (Nat.le_refl _), Nat.sub_self] at hx hy
    simp only [List.getElem?_cons_zero, Option.some.injEq] at hx hy
    subst hx
    subst hy
    rw [hr.v_eq]
    exact .im nilrd
  · rw [List.getElem?_eq_none (by simp; omega)] at hx
    cases hx
theorem wk_nzP {Q : Exit → St → Prop} {fr : List (Nat × AV)} {hp : Hp} {nt : Nat} {fx : List Nat} {e : Exit} (L : List Pt) {a b c d : AV} (hk : look hp 202 = some (ptC L ++ [a, b, c, d, .v (.slice none 0 0)])) (h : wk Q e ⟨fr, hset 202 (ptC L ++ [a, b, c, d, .rd 0 []]) hp, nt, fx⟩) : wk Q e ⟨fr, hp, nt, fx⟩ := by
  obtain ⟨st', h1, h2⟩ := h
  refine ⟨st', fun E a w hS => h1 E a w ?_, h2⟩
  have := S_nzP 202 (C := ptC L ++ [_, _, _, _]) (by rw [hk, List.append_assoc]; rfl) hS
  rw [List.append_assoc] at this
  exact this
theorem flush_nil : Fn Tryz.prog 72 [.pt 200 0] (scH s at1 pl opd lv op dp [] Ls) (.tp []) (scH s at1 pl opd lv op dp [] Ls) [200] := by
  simp only [scH, scC, List.length_nil]
  refine Fn_of_aw (keep := [200, 201, 202]) Tryz.func72 rfl rfl (by simp [Tryz.ntmps72]) (aw_wk ?_)
  simp only [num_cons, num_nil, Tryz.ntmps72, Tryz.results72]
  exact wq21
theorem flush_ne (hT : T ≠ []) (hl : T.length ≤ 100000) (hL : Ls.length ≤ 1000) : Fn Tryz.prog 72 [.pt 200 0] (scH s at1 pl opd lv op dp T Ls) (.tp []) (scH s at1 pl opd lv op dp [] (Ls ++ [⟨1, T, 0, false, 0, []⟩])) [200] := by
  have q1 := bytesA_len T
  have q2 := ptC_len Ls
  have hT1 : 1 ≤ T.length := List.length_pos_iff.2 hT
  simp only [scH, scC, ptC_app, ptC_one, List.length_append, List.length_cons, List.length_nil]
  refine Fn_of_aw (keep := [200, 201, 202]) Tryz.func72 rfl rfl (by simp [Tryz.ntmps72]) (aw_wk ?_)
  simp only [num_cons, num_nil, Tryz.ntmps72, Tryz.results72]
  repeat' (first
 | ((with_reducible apply awO_ev); (· rfl); (· exact sv))
 | ((with_reducible apply aw_seq); intro _ _)
 | (with_reducible apply aw_region)
 | ((with_reducible first | apply awO_nil | apply aw_exit | apply aw_skip | apply aw_ret); (try simp only [CT, ↓reduceIte, Nat.reduceEqDiff]))
 | (refine Kont.go ‹Kont _ _ _ _› _ ?_)
 | ((with_reducible apply aw_draw); (· decide +kernel); (simp only [List.size_toArray, List.length_cons, List.length_nil, Nat.reduceAdd]))
 | ((with_reducible apply awY_done); (· decide +kernel); (try simp only [CT, ↓reduceIte, Nat.reduceEqDiff]))
 | ((with_reducible apply awY_q); (· exact sQ); (· exact np); (· exact svg); (· rfl); (· exact sv))
 | ((with_reducible apply endQ_rfl))
 | ((with_reducible apply awI_ev); (· exact svg); (· rfl); (· exact sv))
 | ((first | ((with_reducible apply awO_guardN); (· rfl); (· rfl); (· exact sv); (· exact nB)) | ((with_reducible apply aw_condN); (· exact sv))); (· exact pN); (· exact pN); all_goals (intro hg; try (exfalso; omega)))
 | ((with_reducible apply awY_p); (· exact sH); (first | ((with_reducible apply awP_1); (· decide +kernel)) | ((with_reducible apply awP_2); (· exact sP)))))
  all_goals refine wk_nzP Ls rfl ?_
  all_goals refine wk_virtC 200 7 201 1 rfl rfl (by omega) (by simp) (by omega) ?_
  all_goals simp only [hset_nil, hset_cons, turn_cons, turn_nil, List.map_append, ptC_kill, bytesA_kill, if_true, if_false, reduceIte, Nat.reduceEqDiff]
  all_goals (refine wk_id ?_; refine retQ_mkL (by first | exact .inr rfl | exact .inl rfl) rfl rfl rfl ?_ rfl)
  all_goals exact ⟨⟨by simp, rfl⟩, ⟨by simp, rfl⟩, ⟨by simp, ro_ptc _ _ _ _ _ _ _ _ _⟩, trivial⟩
end
end Go.Proofs.YtogmppcfopgkdaaGreatDoor
/- Words: add, ended, next on the abstract machine. -/
namespace Go.Proofs.YtogmppcfopgkdaaGreatDoor
open Go.RowKit
set_option linter.unusedVariables false
set_option linter.unusedSimpArgs false
set_option maxRecDepth 100000
set_option maxHeartbeats 8000000
abbrev fFlush : FuncId := 72
abbrev fAdd : FuncId := 161
abbrev fEnded : FuncId := 70
section
variable {s T : List UInt8} {at1 pl lv op dp : Int} {opd : Bool} {Ls Ms : List Pt}
theorem ro_ptd (hp : Hp) (keep : List Nat) (L : List Pt) (k : Int) (t : List UInt8) (o : Int) (b : Bool) (n : Nat) (c : List AV) : (some (ptC L ++ [ai k, az t, ai o, ab b, .rd n c])).bind (roCs hp keep) = some (ptC L ++ [ai k, az t, ai o, ab b, .rd n c]) := ro_ptc hp keep L k t o b n c
theorem ptC_okR (ks : List Nat) (L : List Pt) : (ptC L).all (okR ks) = true := by
  rw [List.all_eq_true]
  intro x hx
  rcases ptC_mem hx with ⟨y, rfl, _⟩ | ⟨n, c, rfl⟩ <;> rfl
theorem bytesA_okR (ks : List Nat) (T : List UInt8) : (bytesA T).all (okR ks) = true := by
  rw [List.all_eq_true]
  intro x hx
  obtain ⟨b, _, rfl⟩ := List.mem_map.1 hx
  rfl
attribute [go_sem] ptC_okR bytesA_okR
theorem add_fn (k : Int) (t : List UInt8) (o : Int) (b : Bool) (n : Nat) (c : List AV) (a : Int) (hL : Ms.length ≤ 1000) (hf : Fn Tryz.prog fFlush [.pt 200 0] (scH s at1 pl opd lv op dp T Ls) (.tp []) (scH s at1 pl opd lv op dp [] Ms) [200]) :
    Fn Tryz.prog fAdd [.pt 200 0, .ag [ai k, az t, ai o, ab b, .rd n c], ai a] (scH s at1 pl opd lv op dp T Ls) (.tp []) (scH s a pl opd lv op dp [] (Ms ++ [⟨k, t, o, b, n, c⟩])) [200] := by
  have q2 := ptC_len Ms
  simp only [scH, scC, ptC_app, ptC_one, List.length_append, List.length_cons, List.length_nil] at hf ⊢
  refine Fn_of_aw (keep := [200, 201, 202]) Tryz.func161 rfl rfl (by simp [Tryz.ntmps161]) (aw_wk ?_)
  simp only [num_cons, num_nil, Tryz.ntmps161, Tryz.results161]
  repeat' (first
 | ((with_reducible apply awO_ev); (· rfl); (· exact sv))
 | ((with_reducible apply aw_seq); intro _ _)
 | (with_reducible apply aw_region)
 | ((with_reducible first | apply awO_nil | apply aw_exit | apply aw_skip | apply aw_ret); (try simp only [CT, ↓reduceIte, Nat.reduceEqDiff]))
 | (refine Kont.go ‹Kont _ _ _ _› _ ?_)
 | ((with_reducible apply awO_m); (· rfl); (· rfl); (· exact sv); (· (first | exact hf)); (· exact svq); (· exact svq); (· exact svq); (· exact svq); (· rfl); (· exact nd); (with_reducible apply awO_st); (· exact svs))
 | ((with_reducible apply aw_draw); (· decide +kernel); (simp only [List.size_toArray, List.length_cons, List.length_nil, Nat.reduceAdd]))
 | ((with_reducible apply awY_done); (· decide +kernel); (try simp only [CT, ↓reduceIte, Nat.reduceEqDiff]))
 | ((with_reducible apply awY_q); (· exact sQ); (· exact np); (· exact svg); (· rfl); (· exact sv))
 | ((with_reducible apply endQ_rfl))
 | ((with_reducible apply awI_ev); (· exact svg); (· rfl); (· exact sv))
 | ((with_reducible apply awY_p); (· exact sH); (first | ((with_reducible apply awP_1); (· decide +kernel)) | ((with_reducible apply awP_2); (· exact sP)))))
  all_goals (refine wk_id ?_; refine retQ_mkL (by first | exact .inr rfl | exact .inl rfl) rfl rfl rfl ?_ rfl)
  all_goals exact ⟨⟨by simp, rfl⟩, ⟨by simp, rfl⟩, ⟨by simp, ro_ptd _ _ _ _ _ _ _ _ _⟩, trivial⟩
theorem ended_end (hs : s.length ≤ 100000) (hop : op < 0) : Fn Tryz.prog fEnded [.pt 200 0] (scH s s.length pl opd lv op dp T Ls) (ab true) (scH s s.length pl opd lv op dp T Ls) [200] := by
  simp only [scH, scC]
  refine Fn_of_aw (keep := [200, 201, 202]) Tryz.func70 rfl rfl (by simp [Tryz.ntmps70]) (aw_wk ?_)
  simp only [num_cons, num_nil, Tryz.ntmps70, Tryz.results70]
  exact wq21
theorem ended_bare {i : Nat} (hs : s.length ≤ 100000) (hi : i < s.length) : Fn Tryz.prog fEnded [.pt 200 0] (scH s i 0 false lv op dp T Ls) (ab false) (scH s i 0 false lv op dp T Ls) [200] := by
  simp only [scH, scC]
  refine Fn_of_aw (keep := [200, 201, 202]) Tryz.func70 rfl rfl (by simp [Tryz.ntmps70]) (aw_wk ?_)
  simp only [num_cons, num_nil, Tryz.ntmps70, Tryz.results70]
  exact wq21
theorem ended_dbl {i : Nat} (hs : s.length ≤ 100000) (hi : i < s.length) : Fn Tryz.prog fEnded [.pt 200 0] (scH s i 1 false lv op dp T Ls) (ab (decide ((s[i].toNat : Int) = 34))) (scH s i 1 false lv op dp T Ls) [200] := by
  simp only [scH, scC]
  refine Fn_of_aw (keep := [200, 201, 202]) Tryz.func70 rfl rfl (by simp [Tryz.ntmps70]) (aw_wk ?_)
  simp only [num_cons, num_nil, Tryz.ntmps70, Tryz.results70]
  repeat' (first
 | ((with_reducible apply awO_ev); (· rfl); (· exact sv))
 | ((with_reducible apply aw_seq); intro _ _)
 | (with_reducible apply aw_region)
 | (with_reducible apply aw_block)
 | ((with_reducible first | apply awO_nil | apply aw_exit | apply aw_skip | apply aw_ret); (try simp only [CT, ↓reduceIte, Nat.reduceEqDiff]))
 | ((with_reducible apply aw_cond_true); (· exact sv))
 | ((with_reducible apply aw_cond_false); (· exact sv))
 | (refine Kont.go ‹Kont _ _ _ _› _ ?_)
 | ((with_reducible apply aw_draw); (· decide +kernel); (simp only [List.size_toArray, List.length_cons, List.length_nil, Nat.reduceAdd]))
 | ((with_reducible apply awY_done); (· decide +kernel); (try simp only [CT, ↓reduceIte, Nat.reduceEqDiff]))
 | ((with_reducible apply awY_q); (· exact sQ); (· exact np); (· exact svg); (· rfl); (· exact sv))
 | ((first | ((with_reducible apply awO_guardN); (· rfl); (· rfl); (· exact sv); (· exact nB)) | ((with_reducible apply aw_condN); (· exact sv))); (· exact pN); (· exact pN); all_goals (intro hg; try (exfalso; omega))))
  all_goals (refine wk_id ?_; refine retQ_mkL (by first | exact .inr rfl | exact .inl rfl) rfl rfl ?_ ?_ rfl)
  all_goals first | rfl | exact ⟨⟨by simp, rfl⟩, ⟨by simp, ro_by _ _ _⟩, ⟨by simp, ro_pt _ _ _⟩, trivial⟩
theorem ended_no {i : Nat} (hs : s.length ≤ 100000) (hi : i < s.length) (h41 : s[i] ≠ 41) : Fn Tryz.prog fEnded [.pt 200 0] (scH s i 2 false lv op 0 T Ls) (ab false) (scH s i 2 false lv op 0 T Ls) [200] := by
  have h41i : ¬ ((s[i].toNat : Int) = 41) := fun h => h41 (UInt8.toNat_inj.1 (by have : (41 : UInt8).toNat = 41 := rfl; omega))
  simp only [scH, scC]
  refine Fn_of_aw (keep := [200, 201, 202]) Tryz.func70 rfl rfl (by simp [Tryz.ntmps70]) (aw_wk ?_)
  simp only [num_cons, num_nil, Tryz.ntmps70, Tryz.results70]
  repeat' (first
 | ((with_reducible apply awO_ev); (· rfl); (· exact sv))
 | ((with_reducible apply aw_seq); intro _ _)
 | (with_reducible apply aw_region)
 | (with_reducible apply aw_block)
 | ((with_reducible first | apply awO_nil | apply aw_exit | apply aw_skip | apply aw_ret); (try simp only [CT, ↓reduceIte, Nat.reduceEqDiff]))
 | ((with_reducible apply awO_y); (· rfl); (· rfl); (· decide); (· exact sv); (· exact sv))
 | ((with_reducible apply awO_n); (· rfl); (· rfl); (· decide); (· exact sv); (· rfl); (· rfl); (· decide))
 | ((with_reducible apply aw_cond_false); (· exact sv))
 | (refine Kont.go ‹Kont _ _ _ _› _ ?_)
 | ((with_reducible apply aw_draw); (· decide +kernel); (simp only [List.size_toArray, List.length_cons, List.length_nil, Nat.reduceAdd]))
 | ((with_reducible apply awY_done); (· decide +kernel); (try simp only [CT, ↓reduceIte, Nat.reduceEqDiff]))
 | ((with_reducible apply awY_q); (· exact sQ); (· exact np); (· exact svg); (· rfl); (· exact sv))
 | ((first | ((with_reducible apply awO_guardN); (· rfl); (· rfl); (· exact sv); (· exact nB)) | ((with_reducible apply aw_condN); (· exact sv))); (· exact pN); (· exact pN); all_goals (intro hg; try (exfalso; omega))))
  all_goals first | (exfalso; exact h41i (by assumption); done) | (refine wk_id ?_; refine retQ_mkL (by first | exact .inr rfl | exact .inl rfl) rfl rfl ?_ ?_ rfl)
  all_goals first | rfl | exact ⟨⟨by simp, rfl⟩, ⟨by simp, ro_by _ _ _⟩, ⟨by simp, ro_pt _ _ _⟩, trivial⟩
theorem ended_yes {i : Nat} (hs : s.length ≤ 100000) (hi : i + 1 < s.length) (h1 : s[i] = 41) (h2 : s[i + 1] = 41) : Fn Tryz.prog fEnded [.pt 200 0] (scH s i 2 false lv op 0 T Ls) (ab true) (scH s i 2 false lv op 0 T Ls) [200] := by
  have h1i : (s[i].toNat : Int) = 41 := by rw [h1]; rfl
  have h2i : (s[i + 1].toNat : Int) = 41 := by rw [h2]; rfl
  simp only [scH, scC]
  refine Fn_of_aw (keep := [200, 201, 202]) Tryz.func70 rfl rfl (by simp [Tryz.ntmps70]) (aw_wk ?_)
  simp only [num_cons, num_nil, Tryz.ntmps70, Tryz.results70]
  repeat' (first
 | ((with_reducible apply awO_ev); (· rfl); (· exact sv))
 | ((with_reducible apply aw_seq); intro _ _)
 | (with_reducible apply aw_region)
 | (with_reducible apply aw_block)
 | ((with_reducible first | apply awO_nil | apply aw_exit | apply aw_skip | apply aw_ret); (try simp only [CT, ↓reduceIte, Nat.reduceEqDiff]))
 | ((with_reducible apply awO_y); (· rfl); (· rfl); (· decide); (· exact sv); (· exact sv))
 | ((with_reducible apply aw_cond_true); (· exact sv))
 | ((with_reducible apply aw_cond_false); (· exact sv))
 | (refine Kont.go ‹Kont _ _ _ _› _ ?_)
 | ((with_reducible apply aw_draw); (· decide +kernel); (simp only [List.size_toArray, List.length_cons, List.length_nil, Nat.reduceAdd]))
 | ((with_reducible apply awY_done); (· decide +kernel); (try simp only [CT, ↓reduceIte, Nat.reduceEqDiff]))
 | ((with_reducible apply awY_q); (· exact sQ); (· exact np); (· exact svg); (· rfl); (· exact sv))
 | ((first | ((with_reducible apply awO_guardN); (· rfl); (· rfl); (· exact sv); (· exact nB)) | ((with_reducible apply aw_condN); (· exact sv))); (· exact pN); (· exact pN); all_goals (intro hg; try (exfalso; omega))))
  all_goals first | (exfalso; first | exact (show ¬ _ by assumption) h1i | exact (show ¬ _ by assumption) h2i | omega; done) | (refine wk_id ?_; refine retQ_mkL (by first | exact .inr rfl | exact .inl rfl) rfl rfl ?_ ?_ rfl)
  all_goals first | rfl | exact ⟨⟨by simp, rfl⟩, ⟨by simp, ro_by _ _ _⟩, ⟨by simp, ro_pt _ _ _⟩, trivial⟩
end
end Go.Proofs.YtogmppcfopgkdaaGreatDoor
