/- The editor: how a method ends, on the abstract machine. -/
import Derived.Test.YtapmolfpkhfpgaaErF
import Derived.Test.YtapmolfpkhfpgaaIsT
namespace Go.Proofs.Ytapmolfpkhfpgaa
open Go.RowKit
set_option linter.unusedVariables false
set_option linter.unusedSimpArgs false
set_option maxRecDepth 100000
set_option maxHeartbeats 8000000
/-- An editor behind an action: the killed strings are data. -/
abbrev wkE (e : Er) (L : List (List UInt8)) (a : Int) : Hp := [(9, [az e.now.t, ai e.now.p, ai e.mark, .rd e.kills.length (e.kills.map az), .os 3000 0 2 e.undo.length, .os 4000 0 2 e.redo.length, az e.keys, ai e.last, ai e.line, az e.saved, .rd L.length (L.map az), ai a]), (3000, snC e.undo), (4000, snC e.redo)]
theorem retQ_wE {P : Program} {st : St} {rs : List ResultVar} {r r' : AV} {ys c9 c9' d9 cU cU' dU cR cR' dR : List AV} {e : Exit} {fix : List Nat} (he : e = .normal ∨ e = .ret) (h1 : resL P st rs = some ys) (h2 : roA st.hp [9, 3000, 4000] (one ys) = some r')
    (l9 : look st.hp 9 = some c9) (o9 : roCs st.hp [9, 3000, 4000] c9 = some c9') (lU : look st.hp 3000 = some cU) (oU : roCs st.hp [9, 3000, 4000] cU = some cU') (lR : look st.hp 4000 = some cR) (oR : roCs st.hp [9, 3000, 4000] cR = some cR') (hf : st.fx = fix)
    (er : r' = r) (e9 : c9' = d9) (eU : cU' = dU) (eR : cR' = dR) : retQ P rs r [(9, d9), (3000, dU), (4000, dR)] [9, 3000, 4000] fix e st := by
  subst er; subst e9; subst eU; subst eR
  refine retQ_mkL he h1 h2 rfl ⟨⟨by simp, ?_⟩, ⟨by simp, ?_⟩, ⟨by simp, ?_⟩, trivial⟩ hf
  · rw [l9]; exact o9
  · rw [lU]; exact oU
  · rw [lR]; exact oR
/-- An editor behind undo, redo, up and down: all is data. -/
abbrev wkD (e : Er) (L : List (List UInt8)) (a : Int) : Hp := [(9, [az e.now.t, ai e.now.p, ai e.mark, .rd e.kills.length (e.kills.map az), .rd e.undo.length (snC e.undo), .rd e.redo.length (snC e.redo), az e.keys, ai e.last, ai e.line, az e.saved, .rd L.length (L.map az), ai a])]
theorem retQ_wD {P : Program} {st : St} {rs : List ResultVar} {r r' : AV} {ys c9 c9' d9 : List AV} {e : Exit} {fix : List Nat} (he : e = .normal ∨ e = .ret) (h1 : resL P st rs = some ys) (h2 : roA st.hp [9] (one ys) = some r')
    (l9 : look st.hp 9 = some c9) (o9 : roCs st.hp [9] c9 = some c9') (hf : st.fx = fix) (er : r' = r) (e9 : c9' = d9) : retQ P rs r [(9, d9)] [9] fix e st := by
  subst er; subst e9
  refine retQ_mkL he h1 h2 rfl ⟨⟨by simp, ?_⟩, trivial⟩ hf
  rw [l9]; exact o9
end Go.Proofs.Ytapmolfpkhfpgaa
