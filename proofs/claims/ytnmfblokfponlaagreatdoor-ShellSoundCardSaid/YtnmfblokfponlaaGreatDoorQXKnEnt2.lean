/- KnEnt2: texts in a row, joined by a program. -/
import Derived.Test.YtnmfblokfponlaaGreatDoorQL
set_option linter.all false
namespace Go.Proofs.Kn
open Go Go.Ev
set_option maxRecDepth 100000
theorem ent2_ok:ent2.Holds Tryz.prog x0:=Ent.of_run (zW x0 100000 2000).2 ent2 [369,377,385,386,392,393,399,400,453,456,459,461,3137] (by kernel_rfl)
end Go.Proofs.Kn
