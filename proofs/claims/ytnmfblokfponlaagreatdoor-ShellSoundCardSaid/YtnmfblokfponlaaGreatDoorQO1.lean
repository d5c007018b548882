/- MvO1: texts in a row, joined by a program. -/
import Derived.Test.YtnmfblokfponlaaGreatDoorQN2
set_option linter.all false
namespace Go.Proofs.Kn
open Go Go.Ev
theorem cut_both {w:Wk} {ls:List (Int×Int×Int)} (h:w.cut ls=true): ∀s∈ls,w.isT s=true/\w.pcan s=true:=fun s hs=>by
 obtain ⟨i,hi,e⟩:=List.getElem_of_mem hs;obtain ⟨h1,h2,_⟩:=qAV (by rw [List.getElem?_eq_getElem hi,e]) (qC8 h hi);exact ⟨h1,h2⟩
theorem gives_ok {w:Wk} {s:Int×Int×Int} {G:Th.Grid} (h1:w.ok=true) (h2:w.isT s=true) (h3:w.pcan s=true) (hb:w.m.bnd=some G):w.gives s=((w.give (gLo G) s,w.give (gHi G) s),0):=by
 simp [Wk.gives,h1,h2,h3,hb]
end Go.Proofs.Kn
