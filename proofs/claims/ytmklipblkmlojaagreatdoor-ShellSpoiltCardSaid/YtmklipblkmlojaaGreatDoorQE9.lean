/- Parts of the proof, joined by a program. -/
import Derived.Test.YtmklipblkmlojaaGreatDoorQE8
import Derived.Test.YtmklipblkmlojaaGreatDoorQE3
set_option linter.all false
namespace Go.Proofs.Kn
open Go Go.Ev
set_option maxRecDepth 100000
set_option maxHeartbeats 4000000
theorem line_2 (a b:List UInt8):zT [a,b]=a++32::b:=by simp [zT,Lib.join_cons,Lib.joinTail]
theorem line_3 (a b c:List UInt8):zT [a,b,c]=a++32::b++32::c:=by simp [zT,Lib.join_cons,Lib.joinTail]
theorem line_6 (a b c d e f:List UInt8):zT [a,b,c,d,e,f]=a++32::b++32::c++32::d++32::e++32::f:=by simp [zT,Lib.join_cons,Lib.joinTail]
end Go.Proofs.Kn
namespace Go.Proofs.Kn
open Go Go.Ev
set_option maxRecDepth 100000
set_option maxHeartbeats 4000000
end Go.Proofs.Kn
namespace Go.Proofs.Kn
open Go Go.Ev
set_option maxRecDepth 100000
set_option maxHeartbeats 4000000
end Go.Proofs.Kn
