/- Parts. -/
import Derived.Test.YthimlgffanlomaaGreatDoorQW3
import Derived.Test.YthimlgffanlomaaGreatDoorQW1
set_option linter.all false
namespace Go.Proofs.Kn
open Go Go.Ev
theorem yS: ∀l:List Int,kM l l.length=l.sum
 |[]=>rfl
 |x::l=>by rw [List.length_cons,qCp,yS l,List.sum_cons]
end Go.Proofs.Kn
