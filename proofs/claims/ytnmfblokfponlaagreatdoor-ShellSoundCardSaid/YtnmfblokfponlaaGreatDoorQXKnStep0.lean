/- KnStep0: texts in a row, joined by a program. -/
import Derived.Test.YtnmfblokfponlaaGreatDoorQL
set_option linter.all false
namespace Go.Proofs.Kn
open Go Go.Ev
set_option maxRecDepth 100000
theorem step0:SemC (E x0) none (qAN cd0) kst0 .normal kst1:=SemC.run (zW x0 100000 2000).1 [] (by kernel_rfl)
end Go.Proofs.Kn
