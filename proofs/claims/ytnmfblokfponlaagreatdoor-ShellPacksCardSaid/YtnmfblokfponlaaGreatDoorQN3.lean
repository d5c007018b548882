/- MvU1, MvN9: texts in a row, joined by a program. -/
import Derived.Test.YtnmfblokfponlaaGreatDoorQY1
import Derived.Test.YtnmfblokfponlaaGreatDoorQN1
import Derived.Test.YtnmfblokfponlaaGreatDoorQN2
set_option linter.all false
noncomputable section
namespace Go.Proofs.Kn
open Go Go.Ev Go.RowKit Go.ChangeShapes Go.WideShapes Go.ChangeAt
set_option maxRecDepth 100000
section
variable {H:Type} {enc:TypeId×Value->H} {w:World} {base:Nat} {sp:Nat->Bool} {held:Bool}
end
end Go.Proofs.Kn
end
namespace Go.Proofs.Kn
open Go Go.Ev
set_option maxRecDepth 100000
set_option maxHeartbeats 4000000
theorem give_end {w:Wk} {v:AV} {b:Bool} {G:Th.Grid} {s:Int×Int×Int} (hb:w.Blk s):w.give (⟨v,xC b G w.m.cells.length w.m.W⟩:Gr).t s=w.give (fun r c=>y9 b (G r c)) s:=by
 obtain ⟨r0,c0,q,n,th,wo,rfl,ht,hrn,hcn⟩:=hb;rw [Wk.give_q ht,Wk.give_q ht];have:zF (⟨v,xC b G w.m.cells.length w.m.W⟩:Gr).t r0 c0 n n=zF (fun r c=>y9 b (G r c)) r0 c0 n n:=qAl n fun i hi j hj=>endL_t v b G (by omega) (by omega);rw [this]
end Go.Proofs.Kn
