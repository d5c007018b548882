/- KnStep9: texts in a row, joined by a program. -/
import Derived.Test.YtnmfblokfponlaaGreatDoorQL
set_option linter.all false
namespace Go.Proofs.Kn
open Go Go.Ev
set_option maxRecDepth 100000
theorem step9:SemC (E x0) none (qAN cd9) kst9 .normal kst10:=SemC.run (zW x0 100000 2000).1 [88,91,94,96,359,3185,4065,4657,4808,4899,5044,5146,5291,5298,5299,5395,5955,5957,5977] (by kernel_rfl)
end Go.Proofs.Kn
