/- MvO1: texts in a row, joined by a program. -/
import Derived.Test.YtnmfblokfponlaaGreatDoorQN3
set_option linter.all false
namespace Go.Proofs.Kn
open Go Go.Ev
end Go.Proofs.Kn
