/- Parts. -/
import Derived.Test.YthimlgffanlomaaGreatDoorQN2
set_option linter.all false
namespace Go.Proofs.Kn
open Go Go.Ev
end Go.Proofs.Kn
