/- MvO1: texts in a row, joined by a program. -/
import Derived.Test.YtnmfblokfponlaaGreatDoorQN2
set_option linter.all false
namespace Go.Proofs.Kn
open Go Go.Ev
theorem cut_both {w:Wk} {ls:List (Int×Int×Int)} (h:w.cut ls=true): ∀s∈ls,w.isT s=true/\w.pcan s=true:=fun s hs=>by
 obtain ⟨i,hi,e⟩:=List.getElem_of_mem hs;obtain ⟨h1,h2,_⟩:=qAV (by rw [List.getElem?_eq_getElem hi,e]) (qDf h hi);exact ⟨h1,h2⟩
end Go.Proofs.Kn
