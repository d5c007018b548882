/- Parts of the proof, joined by a program. -/
import Derived.Test.YtmklipblkmlojaaGreatDoorQL
set_option linter.all false
namespace Go.Proofs.Kn
open Go Go.Ev
set_option maxRecDepth 100000
theorem step5:SemC (E x0) none (b8 cd5) kst5 .normal kst6:=SemC.run (zR x0 100000 2000).1 [88,91,94,96,359,3185,4065] (by kernel_rfl)
end Go.Proofs.Kn
namespace Go.Proofs.Kn
open Go Go.Ev
set_option maxRecDepth 100000
theorem step6:SemC (E x0) none (b8 cd6) kst6 .normal kst7:=SemC.run (zR x0 100000 2000).1 [88,91,94,96,359,3185,4065,4657,4808,4899,5044,5146,5291,5298,5299] (by kernel_rfl)
end Go.Proofs.Kn
namespace Go.Proofs.Kn
open Go Go.Ev
set_option maxRecDepth 100000
theorem step7:SemC (E x0) none (b8 cd7) kst7 .normal kst8:=SemC.run (zR x0 100000 2000).1 [88,91,94,96,359,3185,4065,4657,4808,4899,5044,5146,5291,5298,5299,5395] (by kernel_rfl)
end Go.Proofs.Kn
namespace Go.Proofs.Kn
open Go Go.Ev
set_option maxRecDepth 100000
theorem step8:SemC (E x0) none (b8 cd8) kst8 .normal kst9:=SemC.run (zR x0 100000 2000).1 [88,91,94,96,359,3185,4065,4657,4808,4899,5044,5146,5291,5298,5299,5395] (by kernel_rfl)
end Go.Proofs.Kn
namespace Go.Proofs.Kn
open Go Go.Ev
set_option maxRecDepth 100000
theorem step9:SemC (E x0) none (b8 cd9) kst9 .normal kst10:=SemC.run (zR x0 100000 2000).1 [88,91,94,96,359,3185,4065,4657,4808,4899,5044,5146,5291,5298,5299,5395,5955,5957,5977] (by kernel_rfl)
end Go.Proofs.Kn
