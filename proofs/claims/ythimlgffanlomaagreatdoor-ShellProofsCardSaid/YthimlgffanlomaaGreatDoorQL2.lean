/- Parts. -/
import Derived.Test.YthimlgffanlomaaGreatDoorQL
set_option linter.all false
namespace Go.Proofs.Kn
open Go Go.Ev
set_option maxRecDepth 100000
theorem ent1_ok:ent1.Holds Tryz.prog x0:=Ent.of_run (xG x0 100000 2000).2 ent1 [369,377,385,386,392,393,399,400,453,456,459,461,1670] (by kernel_rfl)
theorem ent2_ok:ent2.Holds Tryz.prog x0:=Ent.of_run (xG x0 100000 2000).2 ent2 [369,377,385,386,392,393,399,400,453,456,459,461,3137] (by kernel_rfl)
end Go.Proofs.Kn
