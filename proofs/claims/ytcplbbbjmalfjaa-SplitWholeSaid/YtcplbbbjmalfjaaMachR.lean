/- The abstract machine, part 18: data handed in; from a contract to a law's row. No program is named here. -/
import Derived.Test.YtcplbbbjmalfjaaMachQ
import Derived.SizedLaws
namespace Go.Proofs.Ytcplbbbjmalfjaa
open Go.ChangeShapes Go.WideShapes Go.ChangeAt Go.RowKit
set_option linter.unusedVariables false
set_option linter.unusedSimpArgs false

/-- The shape of a type: scalars, slices of elements of sz cells, structs and arrays ('ag' of a list of fields: 'nil', 'cons'). -/
inductive Sh where
  | int (k : IntKind)
  | bool
  | str
  | sl (sz : Nat) (e : Sh)
  | ag (f : Sh)
  | nil
  | cons (s r : Sh)
section
variable {H : Type}
def toInt : DataW H → Int
  | .lit (.int _ n) => n
  | _ => 0
def toBool : DataW H → Bool
  | .lit (.bool b) => b
  | _ => false
def toBytes : DataW H → List UInt8
  | .lit (.string l) => l
  | _ => []
def toList : DataW H → List (DataW H)
  | .slice l _ => l
  | _ => []
def toParts : DataW H → List (DataW H)
  | .agg l => l
  | _ => []
def hd : List (DataW H) → DataW H
  | [] => .nil
  | d :: _ => d
/-- The cells of data of a shape. -/
def avL : Sh → List (DataW H) → List AV
  | .int k, ds => [.v (.int k (toInt (hd ds)))]
  | .bool, ds => [.v (.bool (toBool (hd ds)))]
  | .str, ds => [.v (.string (str (toBytes (hd ds))))]
  | .sl _ e, ds => [.rd (toList (hd ds)).length ((toList (hd ds)).flatMap fun d => avL e [d])]
  | .ag f, ds => avL f (toParts (hd ds))
  | .nil, _ => []
  | .cons s r, ds => avL s [hd ds] ++ avL r ds.tail
def szS : Sh → Nat
  | .int _ => 1
  | .bool => 1
  | .str => 1
  | .sl _ _ => 1
  | .ag f => szS f
  | .nil => 0
  | .cons s r => szS s + szS r
/-- What is known of its sizes. -/
def Szd : Sh → List (DataW H) → Prop
  | .int k, ds => (Lit.int k (toInt (hd ds))).wf = true
  | .bool, _ => True
  | .str, ds => (toBytes (hd ds)).length ≤ 140737488351232
  | .sl _ e, ds => (toList (hd ds)).length ≤ 140737488351232 ∧ ∀ d ∈ toList (hd ds), Szd e [d]
  | .ag f, ds => Szd f (toParts (hd ds))
  | .nil, _ => True
  | .cons s r, ds => Szd s [hd ds] ∧ Szd r ds.tail
theorem avL_length : ∀ (s : Sh) (ds : List (DataW H)), (avL s ds).length = szS s
  | .int _, _ => rfl
  | .bool, _ => rfl
  | .str, _ => rfl
  | .sl _ _, _ => rfl
  | .ag f, ds => avL_length f _
  | .nil, _ => rfl
  | .cons s r, ds => by simp only [avL, szS, List.length_append, avL_length s, avL_length r]
/-- The types, at these places, are of the shape. -/
def okS (P : Program) : Sh → Nat → List (TypeId × Nat) → Bool
  | .int k, o, [(t, o')] => o' == o && (match P.underlying t with | some (.int k') => decide (k' = k) | _ => false) && P.cellsOf t == 1
  | .bool, o, [(t, o')] => o' == o && (match P.underlying t with | some .bool => true | _ => false) && P.cellsOf t == 1
  | .str, o, [(t, o')] => o' == o && (match P.underlying t with | some .string => true | _ => false) && P.cellsOf t == 1
  | .sl sz e, o, [(t, o')] => o' == o && (match P.underlying t with | some (.slice e') => okS P e 0 [(e', 0)] && P.cellsOf e' == szS e && sz == szS e && decide (0 < sz) && decide (0 < P.bytesOf e') | _ => false) && P.cellsOf t == 1
  | .ag f, o, [(t, o')] => o' == o && (match P.underlying t with
    | some (.struct fs) => okS P f 0 (fs.toList.map fun f => (f.type, f.offset))
    | some (.array n e) => okS P f 0 ((List.range n).map fun i => (e, i * P.cellsOf e))
    | _ => false) && P.cellsOf t == szS f
  | .nil, _, [] => true
  | .cons s r, o, p :: l => okS P s o [p] && okS P r (o + szS s) l
  | _, _, _ => false
end
theorem flatMap_get {α β : Type} {f : α → List β} {sz : Nat} (hf : ∀ x, (f x).length = sz) : ∀ (l : List α) (j : Nat) (y : β), (l.flatMap f)[j]? = some y → ∃ x, l[j / sz]? = some x ∧ (f x)[j % sz]? = some y ∧ j / sz < l.length
  | [], j, y, h => by simp at h
  | x :: l, j, y, h => by
    rw [List.flatMap_cons] at h
    by_cases hj : j < sz
    · rw [List.getElem?_append_left (by rw [hf]; exact hj)] at h
      refine ⟨x, ?_, ?_, ?_⟩
      · rw [Nat.div_eq_of_lt hj]; rfl
      · rw [Nat.mod_eq_of_lt hj]; exact h
      · rw [Nat.div_eq_of_lt hj]; simp
    · rw [List.getElem?_append_right (by rw [hf]; omega), hf] at h
      obtain ⟨x', h1, h2, h3⟩ := flatMap_get hf l (j - sz) y h
      have hsz : 0 < sz := by
        rcases Nat.eq_zero_or_pos sz with h0 | h0
        · have h4 := hf x'
          rw [h0] at h4
          rw [List.eq_nil_of_length_eq_zero h4] at h2
          simp at h2
        · exact h0
      have e1 : j / sz = (j - sz) / sz + 1 := by
        rw [Nat.div_eq_sub_div hsz (by omega)]
      have e2 : j % sz = (j - sz) % sz := by
        rw [Nat.mod_eq_sub_mod (by omega)]
      refine ⟨x', ?_, ?_, ?_⟩
      · rw [e1]; simpa using h1
      · rw [e2]; exact h2
      · rw [e1]; simp; exact h3
section
variable {H : Type} {enc : TypeId × Value → H} {P : Program} {w : World} {base : Nat} {spare : Nat → Bool} {held : Bool}
theorem weights_all {e : TypeId} : ∀ {l : List (DataW H)} {d : DataW H}, d ∈ l → ∀ m ∈ d.weights P e, m ∈ DataW.weightsAll P e l
  | d' :: l, d, h, m, hm => by
    simp only [DataW.weightsAll, List.mem_append]
    rcases List.mem_cons.1 h with rfl | h
    · exact .inl hm
    · exact .inr (weights_all h m hm)
theorem take1 {α : Type} {l : List α} {o : Nat} {x : α} (h : (l.drop o).take 1 = [x]) : l[o]? = some x := by
  have := congrArg (fun l : List α => l[0]?) h
  simp only [List.getElem?_take, List.getElem?_drop] at this
  simpa using this
theorem trod_av : ∀ (s : Sh) (o : Nat) (l : List (TypeId × Nat)) (cs : List Value) (ds : List (DataW H)), okS P s o l = true → ds.length = l.length →
    (∀ (i : Nat) (t : TypeId) (off : Nat), l[i]? = some (t, off) → ∃ n ps d, ds[i]? = some d ∧ DataW.trod enc P w base spare held n t ((cs.drop off).take (P.cellsOf t)) = some (d, ps) ∧ ∀ m ∈ d.weights P t, m ≤ reachBytes) →
    Szd s ds ∧ ∀ (j : Nat) (a : AV) (x : Value), (avL s ds)[j]? = some a → cs[o + j]? = some x → RepI w (fun _ => False) a x := by
  intro s
  induction s with
  | int k =>
    intro o l cs ds hok hl hr
    match l, ds, hl with
    | [(t, o')], [d], _ =>
      simp only [okS, Bool.and_eq_true, beq_iff_eq] at hok
      obtain ⟨⟨rfl, hT⟩, hc⟩ := hok
      split at hT
      · next k' hu =>
        simp only [decide_eq_true_eq] at hT
        subst hT
        obtain ⟨n, ps, d', hd, h, _⟩ := hr 0 t o' rfl
        simp only [List.getElem?_cons_zero, Option.some.injEq] at hd
        subst hd
        obtain ⟨z, hz, hx, hwf⟩ := DataW.trod_int hu h
        injection hx with hx _
        subst hx
        refine ⟨hwf, fun j a x hj hx => ?_⟩
        rw [hc] at hz
        have := take1 hz
        rcases j with _ | j
        · simp only [avL, List.getElem?_cons_zero, Option.some.injEq] at hj
          subst hj
          rw [Nat.add_zero, this] at hx
          injection hx with hx
          subst hx
          exact .v _
        · simp [avL] at hj
      · cases hT
    | [], _, _ => simp [okS] at hok
    | _ :: _ :: _, _, _ => simp [okS] at hok
  | bool =>
    intro o l cs ds hok hl hr
    match l, ds, hl with
    | [(t, o')], [d], _ =>
      simp only [okS, Bool.and_eq_true, beq_iff_eq] at hok
      obtain ⟨⟨rfl, hT⟩, hc⟩ := hok
      split at hT
      · next hu =>
        obtain ⟨n, ps, d', hd, h, _⟩ := hr 0 t o' rfl
        simp only [List.getElem?_cons_zero, Option.some.injEq] at hd
        subst hd
        obtain ⟨z, hz, hx⟩ := DataW.trod_bool hu h
        injection hx with hx _
        subst hx
        refine ⟨trivial, fun j a x hj hx => ?_⟩
        rw [hc] at hz
        have := take1 hz
        rcases j with _ | j
        · simp only [avL, List.getElem?_cons_zero, Option.some.injEq] at hj
          subst hj
          rw [Nat.add_zero, this] at hx
          injection hx with hx
          subst hx
          exact .v _
        · simp [avL] at hj
      · cases hT
    | [], _, _ => simp [okS] at hok
    | _ :: _ :: _, _, _ => simp [okS] at hok
  | str =>
    intro o l cs ds hok hl hr
    match l, ds, hl with
    | [(t, o')], [d], _ =>
      simp only [okS, Bool.and_eq_true, beq_iff_eq] at hok
      obtain ⟨⟨rfl, hT⟩, hc⟩ := hok
      split at hT
      · next hu =>
        obtain ⟨n, ps, d', hd, h, hwt⟩ := hr 0 t o' rfl
        simp only [List.getElem?_cons_zero, Option.some.injEq] at hd
        subst hd
        obtain ⟨z, hz, hx, _⟩ := DataW.trod_string hu h
        injection hx with hx _
        subst hx
        refine ⟨hwt _ (by simp [DataW.weights, hd, toBytes]), fun j a x hj hx => ?_⟩
        rw [hc] at hz
        have := take1 hz
        rcases j with _ | j
        · simp only [avL, List.getElem?_cons_zero, Option.some.injEq] at hj
          subst hj
          rw [Nat.add_zero, this] at hx
          injection hx with hx
          subst hx
          simp only [hd, toBytes, ← str_eta]
          exact .v _
        · simp [avL] at hj
      · cases hT
    | [], _, _ => simp [okS] at hok
    | _ :: _ :: _, _, _ => simp [okS] at hok
  | sl sz e ih =>
    intro o l cs ds hok hl hr
    match l, ds, hl with
    | [(t, o')], [d], _ =>
      simp only [okS, Bool.and_eq_true, beq_iff_eq] at hok
      obtain ⟨⟨rfl, hT⟩, hc⟩ := hok
      split at hT
      · next e' hu =>
        simp only [Bool.and_eq_true, beq_iff_eq, decide_eq_true_eq] at hT
        obtain ⟨⟨⟨⟨hoke, hce⟩, rfl⟩, hpos⟩, hbytes⟩ := hT
        obtain ⟨n, ps, d', hd, h, hwt⟩ := hr 0 t o' rfl
        simp only [List.getElem?_cons_zero, Option.some.injEq] at hd
        subst hd
        rcases DataW.trod_slice hu h with ⟨hz, hx⟩ | ⟨a, len, cap, elems, rest, n', _, hz, hx, hb, hlc, hm, hlen, hel, _, _⟩
        · injection hx with hx _
          subst hx
          refine ⟨⟨by simp [hd, toList], fun d hd => by simp [Go.Proofs.Ytcplbbbjmalfjaa.hd, toList] at hd⟩, fun j a x hj hx => ?_⟩
          rw [hc] at hz
          have := take1 hz
          rcases j with _ | j
          · simp only [avL, List.getElem?_cons_zero, Option.some.injEq, hd, toList] at hj
            subst hj
            rw [Nat.add_zero, this] at hx
            injection hx with hx
            subst hx
            exact .rd (fun _ => undef) (Nat.le_refl _) (by simp) (fun _ => rfl) (fun h => absurd h (by simp)) (fun j a hj => by simp at hj)
          · simp [avL] at hj
        · injection hx with hx _
          subst hx
          have hex : ∀ i x, elems[i]? = some x → ∃ cs', w.cells? base (a.add (i * szS e)) (szS e) = some cs' ∧ DataW.trod enc P w base spare held n' e' cs' = some x := fun i x hi => by
            have hil : i < len := by rw [← hlen]; exact (List.getElem?_eq_some_iff.1 hi).1
            have := hel i hil
            rw [hi, Option.bind_eq_some_iff, hce] at this
            exact this
          have hsub : ∀ i x, elems[i]? = some x → ∀ cs', w.cells? base (a.add (i * szS e)) (szS e) = some cs' → DataW.trod enc P w base spare held n' e' cs' = some x →
              Szd e [x.1] ∧ ∀ (j : Nat) (b : AV) (y : Value), (avL e [x.1])[j]? = some b → cs'[j]? = some y → RepI w (fun _ => False) b y := fun i x hi cs' h1 h2 => by
            have hlen' : cs'.length = szS e := (World.cells?_some h1).2.1
            have := ih 0 [(e', 0)] cs' [x.1] hoke rfl (fun i' t' off' hi' => by
              rcases i' with _ | i'
              · simp only [List.getElem?_cons_zero, Option.some.injEq, Prod.mk.injEq] at hi'
                obtain ⟨rfl, rfl⟩ := hi'
                refine ⟨n', x.2, x.1, rfl, ?_, fun m hm => ?_⟩
                · rw [List.drop_zero, List.take_of_length_le (by rw [hce]; omega)]; exact h2
                · refine hwt m ?_
                  simp only [DataW.weights, hu, List.mem_cons, List.mem_append]
                  exact .inr (.inl (weights_all (List.mem_map.2 ⟨x, List.mem_of_getElem? hi, rfl⟩) m hm))
              · simp at hi')
            simpa using this
          refine ⟨⟨?_, fun d hd => ?_⟩, fun j a' x hj hx => ?_⟩
          · have := hwt ((elems.map (·.1)).length * P.bytesOf e' + (rest.map (·.1)).length * P.bytesOf e') (by simp only [DataW.weights, hu, List.mem_cons]; exact .inl (by rw [Nat.add_mul]))
            have h2 : (elems.map (·.1)).length * 1 ≤ (elems.map (·.1)).length * P.bytesOf e' := Nat.mul_le_mul_left _ hbytes
            have h3 : reachBytes = 140737488351232 := rfl
            simp only [Go.Proofs.Ytcplbbbjmalfjaa.hd, toList]
            omega
          · simp only [Go.Proofs.Ytcplbbbjmalfjaa.hd, toList] at hd
            obtain ⟨x, hx, rfl⟩ := List.mem_map.1 hd
            obtain ⟨i, hi⟩ := List.mem_iff_getElem?.1 hx
            obtain ⟨cs', h1, h2⟩ := hex i x hi
            exact (hsub i x hi cs' h1 h2).1
          · rw [hc] at hz
            have hv := take1 hz
            rcases j with _ | j
            · simp only [avL, List.getElem?_cons_zero, Option.some.injEq, hd, toList, List.length_map] at hj
              subst hj
              rw [Nat.add_zero, hv] at hx
              injection hx with hx
              subst hx
              rw [hlen]
              let u : Nat → Value := fun j => (w.cell? (a.add j)).getD undef
              have hcell : ∀ (j : Nat) (b : AV), ((elems.map (·.1)).flatMap fun d => avL e [d])[j]? = some b → w.cell? (a.add j) = some (u j) ∧ RepI w (fun _ => False) b (u j) := fun j b hj => by
                obtain ⟨x', g1, g2, g3⟩ := flatMap_get (sz := szS e) (fun d => avL_length e [d]) _ j b hj
                rw [List.getElem?_map, Option.map_eq_some_iff] at g1
                obtain ⟨x, hi, rfl⟩ := g1
                obtain ⟨cs', h1, h2⟩ := hex _ x hi
                have hmod : j % szS e < szS e := Nat.mod_lt _ hpos
                have h3 := (World.cells?_some h1).2.2 (j % szS e) hmod
                have hlt : j % szS e < cs'.length := by rw [(World.cells?_some h1).2.1]; exact hmod
                have e1 : (a.add (j / szS e * szS e)).add (j % szS e) = a.add j := by rw [add_of_add, Nat.div_add_mod']
                rw [e1, List.getElem?_eq_getElem hlt] at h3
                have := (hsub _ x hi cs' h1 h2).2 (j % szS e) b cs'[j % szS e] g2 (List.getElem?_eq_getElem hlt)
                simp only [u, h3, Option.getD_some]
                exact ⟨trivial, this⟩
              have hcount : ((elems.map (·.1)).flatMap fun d => avL e [d]).length = len * szS e := by
                have : ∀ (l : List (DataW H)), (l.flatMap fun d => avL e [d]).length = l.length * szS e := fun l => by
                  induction l with
                  | nil => simp
                  | cons d l ih => rw [List.flatMap_cons, List.length_append, avL_length, ih, List.length_cons, Nat.add_mul]; omega
                rw [this, List.length_map, hlen]
              refine .rd u hlc (by simpa [maxLen] using hm) (fun h0 => ?_) (fun hn => ?_) (fun j b hj => (hcell j b hj).2)
              · refine List.eq_nil_of_length_eq_zero ?_
                rw [hcount, h0, Nat.zero_mul]
              · have h0 := (hcell 0 _ (List.getElem?_eq_getElem (by rw [hcount]; exact Nat.mul_pos hn hpos))).1
                have e0 : a.add 0 = a := by simp [Addr.add]
                rw [e0] at h0
                have hs := World.cell?_spot h0
                have hblk := World.block_lt_of_cell? w a h0
                obtain ⟨b, off, sp⟩ := a
                simp only at hs
                subst hs
                refine ⟨b, off, rfl, fun h => h, hblk, fun j hj => ?_⟩
                have := (hcell j _ (List.getElem?_eq_getElem hj)).1
                rw [Addr.add_mid] at this
                exact this
            · simp [avL] at hj
      · cases hT
    | [], _, _ => simp [okS] at hok
    | _ :: _ :: _, _, _ => simp [okS] at hok
  | ag f ih =>
    intro o l cs ds hok hl hr
    match l, ds, hl with
    | [(t, o')], [d], _ =>
      simp only [okS, Bool.and_eq_true, beq_iff_eq] at hok
      obtain ⟨⟨rfl, hT⟩, hc⟩ := hok
      obtain ⟨n, ps, d', hd, h, hwt⟩ := hr 0 t o' rfl
      simp only [List.getElem?_cons_zero, Option.some.injEq] at hd
      subst hd
      rw [hc] at h
      have key : ∀ (l' : List (TypeId × Nat)) (parts : List (DataW H)), d = .agg parts → ((cs.drop o').take (szS f)).length = szS f → okS P f 0 l' = true → parts.length = l'.length →
          (∀ (i : Nat) (t : TypeId) (off : Nat), l'[i]? = some (t, off) → ∃ n ps d, parts[i]? = some d ∧ DataW.trod enc P w base spare held n t ((((cs.drop o').take (szS f)).drop off).take (P.cellsOf t)) = some (d, ps) ∧ ∀ m ∈ d.weights P t, m ≤ reachBytes) →
          Szd (.ag f) [d] ∧ ∀ (j : Nat) (a : AV) (x : Value), (avL (.ag f) [d])[j]? = some a → cs[o' + j]? = some x → RepI w (fun _ => False) a x := fun l' parts e1 hlen hok' hl' hr' => by
        subst e1
        obtain ⟨g1, g2⟩ := ih 0 l' ((cs.drop o').take (szS f)) parts hok' hl' hr'
        refine ⟨g1, fun j a x hj hx => g2 j a x hj ?_⟩
        have hjl : j < szS f := by
          have := (List.getElem?_eq_some_iff.1 hj).1
          rw [avL_length] at this
          exact this
        rw [Nat.zero_add, List.getElem?_take_of_lt hjl, List.getElem?_drop]
        exact hx
      split at hT
      · next fs hu =>
        obtain ⟨xs, n', _, hx, hlen, hxl, hf⟩ := DataW.trod_struct hu h
        injection hx with hx _
        refine key _ _ hx (by rw [hlen, hc]) hT (by simp [hxl]) (fun i t' off hi => ?_)
        rw [List.getElem?_map, Option.map_eq_some_iff] at hi
        obtain ⟨fd, hfd, e2⟩ := hi
        injection e2 with e2 e3
        subst e2; subst e3
        have h2 := hf i fd (by simpa using hfd)
        have hil : i < xs.length := by rw [hxl]; simpa using (List.getElem?_eq_some_iff.1 hfd).1
        rw [List.getElem?_eq_getElem hil] at h2
        refine ⟨n', xs[i].2, xs[i].1, by simp [hil], h2, fun m hm => hwt m ?_⟩
        subst hx
        simp only [DataW.weights, hu]
        exact DataW.weights_mem_each (t := fd.type) (d := xs[i].1) (j := i) (by simpa using ⟨fd, by simpa using hfd, rfl⟩) (by simp [hil]) m hm
      · next n0 e hu =>
        obtain ⟨xs, n', _, hx, hlen, hxl, hf⟩ := DataW.trod_array hu h
        injection hx with hx _
        refine key _ _ hx (by rw [hlen, hc]) hT (by simp [hxl]) (fun i t' off hi => ?_)
        rw [List.getElem?_map, Option.map_eq_some_iff] at hi
        obtain ⟨i', hi', e2⟩ := hi
        obtain ⟨hil, rfl⟩ := List.getElem?_eq_some_iff.1 hi'
        simp only [List.getElem_range] at e2
        injection e2 with e2 e3
        subst e2; subst e3
        simp only [List.length_range] at hil
        have h2 := hf i hil
        rw [List.getElem?_eq_getElem (by omega)] at h2
        refine ⟨n', xs[i].2, xs[i].1, by simp [hxl, hil], h2, fun m hm => hwt m ?_⟩
        subst hx
        simp only [DataW.weights, hu]
        exact weights_all (List.mem_map.2 ⟨xs[i], List.getElem_mem _, rfl⟩) m hm
      · cases hT
    | [], _, _ => simp [okS] at hok
    | _ :: _ :: _, _, _ => simp [okS] at hok
  | nil =>
    intro o l cs ds hok hl hr
    exact ⟨trivial, fun j a x hj => by simp [avL] at hj⟩
  | cons s r ih1 ih2 =>
    intro o l cs ds hok hl hr
    match l, ds, hl with
    | p :: l, d :: ds, hl =>
      simp only [okS, Bool.and_eq_true] at hok
      have g1 := ih1 o [p] cs [d] hok.1 rfl (fun i t off hi => by
        rcases i with _ | i
        · exact hr 0 t off hi
        · simp at hi)
      have g2 := ih2 (o + szS s) l cs ds hok.2 (by simpa using hl) (fun i t off hi => hr (i + 1) t off hi)
      refine ⟨⟨g1.1, g2.1⟩, fun j a x hj hx => ?_⟩
      simp only [avL, hd, List.tail_cons] at hj
      by_cases hjl : j < szS s
      · rw [List.getElem?_append_left (by rw [avL_length]; exact hjl)] at hj
        exact g1.2 j a x hj hx
      · rw [List.getElem?_append_right (by rw [avL_length]; omega), avL_length] at hj
        refine g2.2 _ a x hj ?_
        rw [← hx]
        congr 1
        omega
    | [], _, _ => simp [okS] at hok
end

/-! ### A law -/
section
variable {H : Type}
/-- An argument. -/
def avA : Sh → DataW H → AV
  | .ag f, d => .ag (avL f (toParts d))
  | s, d => (avL s [d])[0]?.getD .un
def avAs : List Sh → List (DataW H) → List AV
  | s :: ss, ds => avA s (hd ds) :: avAs ss ds.tail
  | [], _ => []
def Szds : List Sh → List (DataW H) → Prop
  | s :: ss, ds => Szd s [hd ds] ∧ Szds ss ds.tail
  | [], _ => True
def okArgs (P : Program) : List Sh → List TypeId → Bool
  | s :: ss, t :: ts => (match s with | .nil => false | .cons _ _ => false | _ => true) && okS P s 0 [(t, 0)] && okArgs P ss ts
  | [], [] => true
  | _, _ => false
end
section
variable {H : Type} {enc : TypeId × Value → H} {P : Program} {w : World} {base b0 : Nat} {spare : Nat → Bool} {held : Bool}
theorem arg_rep {s : Sh} {t : TypeId} {v : Value} {d : DataW H} {ps : List MemPlace} (hs : (match s with | .nil => false | .cons _ _ => false | _ => true) = true) (hok : okS P s 0 [(t, 0)] = true) (hv : Value.okWide P w .any b0 t v)
    (h : DataW.Trod enc P w base spare held t v d ps) (hw : ∀ m ∈ d.weights P t, m ≤ reachBytes) (ρ : Nat → Loc) : Szd s [d] ∧ Rep w (fun _ => False) ρ (avA s d) v := by
  obtain ⟨fuel, h⟩ := h
  have hlen : ∀ us : Array Value, v = .agg us → us.size = P.cellsOf t → Szd s [d] ∧ ∀ (j : Nat) (a : AV) (x : Value), (avL s [d])[j]? = some a → us[j]? = some x → RepI w (fun _ => False) a x := fun us e hz => by
    subst e
    have := trod_av (enc := enc) (w := w) (base := base) (spare := spare) (held := held) s 0 [(t, 0)] us.toList [d] hok rfl (fun i t' off hi => by
      rcases i with _ | i
      · simp only [List.getElem?_cons_zero, Option.some.injEq, Prod.mk.injEq] at hi
        obtain ⟨rfl, rfl⟩ := hi
        refine ⟨fuel, ps, d, rfl, ?_, hw⟩
        rw [List.drop_zero, List.take_of_length_le (by simp; omega)]
        exact h
      · simp at hi)
    exact ⟨this.1, fun j a x hj hx => this.2 j a x hj (by simpa using hx)⟩
  have hone : v.cells.toList = [v] → P.cellsOf t = 1 → szS s = 1 → Szd s [d] ∧ RepI w (fun _ => False) ((avL s [d])[0]?.getD .un) v := fun e hz hs1 => by
    rw [e] at h
    have := trod_av (enc := enc) (w := w) (base := base) (spare := spare) (held := held) s 0 [(t, 0)] [v] [d] hok rfl (fun i t' off hi => by
      rcases i with _ | i
      · simp only [List.getElem?_cons_zero, Option.some.injEq, Prod.mk.injEq] at hi
        obtain ⟨rfl, rfl⟩ := hi
        refine ⟨fuel, ps, d, rfl, ?_, hw⟩
        rw [List.drop_zero, hz]
        exact h
      · simp at hi)
    refine ⟨this.1, ?_⟩
    have hl := avL_length s [d]
    rw [hs1] at hl
    rw [List.getElem?_eq_getElem (by omega), Option.getD_some]
    exact this.2 0 _ v (List.getElem?_eq_getElem (by omega)) rfl
  cases s with
  | int k =>
    simp only [okS, Bool.and_eq_true, beq_iff_eq] at hok
    obtain ⟨⟨_, hT⟩, hc⟩ := id hok
    split at hT
    · next k' hu => obtain ⟨z, rfl⟩ := okWide_int hu hv; exact ⟨(hone rfl hc rfl).1, .im (hone rfl hc rfl).2⟩
    · cases hT
  | bool =>
    simp only [okS, Bool.and_eq_true, beq_iff_eq] at hok
    obtain ⟨⟨_, hT⟩, hc⟩ := id hok
    split at hT
    · next hu => obtain ⟨z, rfl⟩ := okWide_bool hu hv; exact ⟨(hone rfl hc rfl).1, .im (hone rfl hc rfl).2⟩
    · cases hT
  | str =>
    simp only [okS, Bool.and_eq_true, beq_iff_eq] at hok
    obtain ⟨⟨_, hT⟩, hc⟩ := id hok
    split at hT
    · next hu => obtain ⟨z, rfl⟩ := okWide_string hu hv; exact ⟨(hone rfl hc rfl).1, .im (hone rfl hc rfl).2⟩
    · cases hT
  | sl sz e =>
    simp only [okS, Bool.and_eq_true, beq_iff_eq] at hok
    obtain ⟨⟨_, hT⟩, hc⟩ := id hok
    split at hT
    · next e' hu => obtain ⟨z1, z2, z3, rfl⟩ := okWide_slice hu hv; exact ⟨(hone rfl hc rfl).1, .im (hone rfl hc rfl).2⟩
    · cases hT
  | ag f =>
    simp only [okS, Bool.and_eq_true, beq_iff_eq] at hok
    obtain ⟨⟨_, hT⟩, hc⟩ := id hok
    have hagg : ∃ us : Array Value, v = .agg us ∧ us.size = P.cellsOf t := by
      split at hT
      · next fs hu => exact okWide_struct hu hv
      · next n e hu =>
        simp only [Value.okWide, hu] at hv
        obtain ⟨us, h1, h2, _⟩ := hv
        exact ⟨us, h1, h2⟩
      · cases hT
    obtain ⟨us, rfl, hz⟩ := hagg
    obtain ⟨g1, g2⟩ := hlen us rfl hz
    refine ⟨g1, .ag ?_ fun j a x hj hx => .im (g2 j a x hj hx)⟩
    rw [hz, hc, avL_length]
  | nil => cases hs
  | cons s r => cases hs
theorem args_rep : ∀ {ss : List Sh} {ts : List TypeId} {vs : List Value} {ds : List (DataW H)} {ps : List MemPlace} (hok : okArgs P ss ts = true) (hv : ∀ (j : Nat) t v, ts[j]? = some t → vs[j]? = some v → Value.okWide P w .any b0 t v)
    (h : DataW.TrodAll enc P w base spare held ts vs ds ps) (hw : ∀ m ∈ DataW.weightsEach P ts ds, m ≤ reachBytes) (ρ : Nat → Loc),
    Szds ss ds ∧ vs.length = (avAs ss ds).length ∧ ∀ (j : Nat) (a : AV) (x : Value), (avAs ss ds)[j]? = some a → vs[j]? = some x → Rep w (fun _ => False) ρ a x
  | [], [], vs, ds, ps, hok, hv, h, hw, ρ => by
    match vs, ds, h with
    | [], [], _ => exact ⟨trivial, rfl, fun j a x hj => by simp [avAs] at hj⟩
  | s :: ss, t :: ts, vs, ds, ps, hok, hv, h, hw, ρ => by
    match vs, ds, h with
    | v :: vs, d :: ds, ⟨p, q, h1, h2, _⟩ =>
      simp only [okArgs, Bool.and_eq_true] at hok
      simp only [DataW.weightsEach, List.mem_append] at hw
      obtain ⟨g1, g2⟩ := arg_rep (b0 := b0) hok.1.1 hok.1.2 (hv 0 t v rfl rfl) h1 (fun m hm => hw m (.inl hm)) ρ
      obtain ⟨q1, q2, q3⟩ := args_rep hok.2 (fun j t v ht hv' => hv (j + 1) t v ht hv') h2 (fun m hm => hw m (.inr hm)) ρ
      refine ⟨⟨g1, q1⟩, by simp [avAs, q2], fun j a x hj hx => ?_⟩
      rcases j with _ | j
      · simp only [avAs, hd, List.getElem?_cons_zero, Option.some.injEq] at hj hx
        subst hj; subst hx
        exact g2
      · simp only [avAs, List.tail_cons, List.getElem?_cons_succ] at hj hx
        exact q3 j a x hj hx
  | [], _ :: _, _, _, _, hok, _, _, _, _ => by simp [okArgs] at hok
  | _ :: _, [], _, _, _, hok, _, _, _, _ => by simp [okArgs] at hok
theorem law_lift_ab {C : Checked} {os : Os} {f : FuncId} {fn : Func} {s : ChangeSpec} {tb : TypeId} (ss : List Sh) (hss : okArgs C.prog ss fn.params.toList = true)
    (own : ownKnob C.prog.godebug = none) (started : os.Started) (noInit : C.prog.inits.idxOf? f = none) (hfn : C.prog.funcs[f]? = some fn)
    (hl : laidOutB C.prog = true) (hres : fn.resultTypes = #[tb]) (hbool : C.prog.underlying tb = some .bool) (hvars : s.vars = [])
    (hts : (fn.params.toList.all fun t => C.prog.readableRec t && decide (t < C.prog.types.size)) = true)
    (hs : ∀ ds : List (DataW H), ds.length = fn.params.size → s.fn H ds = { results := [.lit (.bool true)], args := ds })
    (witness : ∃ (w : World) (tape : Tape) (i : Input), w.os = os ∧ (w.forCall tape i).Shaped C.prog ∧ i.vars = [] ∧ Input.okWide C.prog (w.forCall tape i) .any w.heap.size f i ∧
      s.pre6 enc C.prog fn [] false (w.forCall tape i).memory i.args ∧ ({} : Assume).holds C.prog (lone (Frame.enter C.prog f i.args .normal) [] (w.forCall tape i)))
    (walk : ∀ (ds : List (DataW H)), Szds ss ds → Ab C.prog f (avAs ss ds) (.v (.bool true))) :
    ReturnsInHanded {} C os f .any (s.pre6 enc C.prog fn [] false) (s.post enc C.prog fn false true false false) := by
  refine returnsInHanded_of_change_sized own started noInit hfn witness ?_
  intro W base args ds gs before hval hW _ hwt _
  have hA := hW
  obtain ⟨p, q, hA, hV, _, _, _⟩ := hA
  rw [hvars] at hV
  obtain ⟨rfl, rfl⟩ := trodVars_none hV
  have hpv : s.plain.varTypes C.prog = [] := by simp [ChangeSpec.plain, hvars]; rfl
  rw [hpv, List.append_nil, List.append_nil] at hwt
  obtain ⟨g1, g2, g3⟩ := args_rep (b0 := base) hss (fun j t v ht hv => hval j t v (by simpa using ht) (by simpa using hv)) hA (fun m hm => by simpa using List.all_eq_true.1 hwt m hm) (fun _ => ⟨0, 0, 0⟩)
  obtain ⟨_, hc⟩ := walk ds g1
  refine (hc W (fun _ => False) (fun _ => ⟨0, 0, 0⟩) args (fun _ h => h.elim) (fun _ _ h => h) HR.nil ⟨by simpa using g2, fun j a x hj hx => ?_⟩).mono fun e W' ⟨v, ρ', he, hr, _, hk, _⟩ => ?_
  · refine (g3 j a x hj (by simpa using hx)).tr (Nat.le_refl _) (fun _ _ _ _ => rfl) (fun b _ hb => ?_) (fun _ hk => absurd rfl hk)
    exact (avd_nil _ _ b).1 hb
  · refine ⟨v, he, ?_⟩
    have := hr.v_eq
    subst this
    exact law_post hl hres hbool hvars hts hs hW (keeps_nil hk)
end
end Go.Proofs.Ytcplbbbjmalfjaa
