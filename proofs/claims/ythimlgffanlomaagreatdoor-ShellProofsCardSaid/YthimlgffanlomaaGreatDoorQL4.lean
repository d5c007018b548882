/- Parts. -/
import Derived.Test.YthimlgffanlomaaGreatDoorQL
set_option linter.all false
namespace Go.Proofs.Kn
open Go Go.Ev
set_option maxRecDepth 100000
theorem step5:SemC (E x0) none (seqL cd5) kst5 .normal kst6:=SemC.run (xG x0 100000 2000).1 [88,91,94,96,359,3185,4065] (by kernel_rfl)
end Go.Proofs.Kn
