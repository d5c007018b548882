/- MvU1, MvN9: texts in a row, joined by a program. -/
import Derived.Test.YtnmfblokfponlaaGreatDoorQY1
import Derived.Test.YtnmfblokfponlaaGreatDoorQN1
import Derived.Test.YtnmfblokfponlaaGreatDoorQN2
set_option linter.all false
noncomputable section
namespace Go.Proofs.Kn
open Go Go.Ev Go.RowKit Go.ChangeShapes Go.WideShapes Go.ChangeAt
set_option maxRecDepth 100000
section
variable {H:Type} {enc:TypeId×Value->H} {w:World} {base:Nat} {sp:Nat->Bool} {held:Bool}
end
end Go.Proofs.Kn
end
namespace Go.Proofs.Kn
open Go Go.Ev
set_option maxRecDepth 100000
set_option maxHeartbeats 4000000
end Go.Proofs.Kn
