/- KnStep2: texts in a row, joined by a program. -/
import Derived.Test.YtnmfblokfponlaaGreatDoorQL
set_option linter.all false
namespace Go.Proofs.Kn
open Go Go.Ev
set_option maxRecDepth 100000
theorem step2:SemC (E x0) none (qAN cd2) kst2 .normal kst3:=SemC.run (zW x0 100000 2000).1 [88,91,94,96,359] (by kernel_rfl)
end Go.Proofs.Kn
