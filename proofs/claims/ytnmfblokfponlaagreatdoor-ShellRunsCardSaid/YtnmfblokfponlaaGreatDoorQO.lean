/- MvH5: texts in a row, joined by a program. -/
import Derived.Test.YtnmfblokfponlaaGreatDoorQN
set_option linter.all false
namespace Go.Proofs.Kn
open Go Go.Ev
set_option maxRecDepth 100000
end Go.Proofs.Kn
