/- MvX1, MvX2, MvX3: texts in a row, joined by a program. -/
import Derived.Test.YtnmfblokfponlaaGreatDoorQY9
import Derived.Test.YtnmfblokfponlaaGreatDoorQO1
import Derived.Test.YtnmfblokfponlaaGreatDoorQU
set_option linter.all false
namespace Go.Proofs.Kn
open Go Go.Ev
end Go.Proofs.Kn
namespace Go.Proofs.Kn
open Go Go.Ev
set_option maxRecDepth 100000
set_option maxHeartbeats 4000000
theorem bs23 (h:Hp) (a b c d:Int):jC tb h 23 1 [(0,.agg [iv a,iv b,iv c,iv d])]=some (.sl h.n 0 1 4,h.new (.cells [iv a,iv b,iv c,iv d] 48)):=by kernel_rfl
theorem bs24 (h:Hp) (a b:Int) (c:Bool):jC tb h 24 1 [(0,.agg [iv a,iv b,.val (.bool c)])]=some (.sl h.n 0 1 3,h.new (.cells [iv a,iv b,.val (.bool c)] 50)):=by kernel_rfl
end Go.Proofs.Kn
namespace Go.Proofs.Kn
open Go Go.Ev
set_option maxRecDepth 100000
set_option maxHeartbeats 4000000
theorem hH {E:Env} {r:Option Nat} {b:Code} {tm:T AV} {nt:Nat} {h:Hp} {mks:List Nat} {Q:Ex->St->Prop} (P:T AV->Prop) (hp:P tm) (hw: ∀tm,P tm->wpc E r b ⟨tm,nt,h,mks⟩ Q):wpc E r b ⟨tm,nt,h,mks⟩ Q:=hw tm hp
end Go.Proofs.Kn
