/- Parts. -/
import Derived.Test.YthimlgffanlomaaGreatDoorQW1
import Derived.Test.YthimlgffanlomaaGreatDoorQY9
set_option linter.all false
namespace Go.Proofs.Kn
open Go Go.Ev
set_option maxRecDepth 100000
set_option maxHeartbeats 4000000
set_option maxHeartbeats 4000000
set_option maxHeartbeats 4000000
set_option maxHeartbeats 4000000
def Wk.hok (w:Wk) (hs:List (Int×Int)):Bool:= !decide (w.m.H<(hs.length:Int)) && !(hs.any fun p=> !w.m.bare p.1 p.2)
end Go.Proofs.Kn
