/- Parts of the proof, joined by a program. -/
import Derived.Test.YtafhmammmgbdgaaGreatDoorQKa
set_option linter.all false
noncomputable section
namespace Go.Proofs.Kn
open Go Go.Ev
set_option maxRecDepth 100000
def ea2_0:EntR:={f:=74,args:=[(.agg [(.val (.int .i64 1)),(.val (.int .i64 0)),(.sl 0 0 2 5)]),(.agg [(.val (.int .i64 5)),(.val (.int .i64 9))])],cells:=[(.cells [(.val (.int .i64 (-1))),(.val (.int .i64 0)),(.val (.int .i64 0)),(.sl 1 0 2 3),(.sl 2 0 2 5),(.val (.int .i64 0)),(.val (.int .i64 2)),(.val (.int .i64 5)),(.sl 3 0 1 3),(.sl 4 0 1 5)] 188),(.cells [(.val (.int .i64 0)),(.val (.int .i64 1)),(.val (.int .i64 1)),(.val (.int .i64 1)),(.val (.int .i64 4)),(.val (.int .i64 8))] 182),(.cells [(.val (.int .i64 0)),(.val (.int .i64 5)),(.val (.int .i64 6)),(.val (.int .i64 1)),(.val (.int .i64 2)),(.val (.int .i64 1)),(.val (.int .i64 3)),(.val (.int .i64 5)),(.val (.int .i64 5)),(.val (.int .i64 5))] 185),(.cells [(.val (.int .i64 2)),(.val (.int .i64 3)),(.val (.int .i64 4))] 182),(.cells [(.val (.int .i64 2)),(.val (.int .i64 4)),(.val (.int .i64 8)),(.val (.int .i64 3)),(.val (.int .i64 4))] 185)],res:=(.ret (.tup [(.sl 416 0 1 1),(.val (.int .i64 0))])),n1:=417,cells1:=[(0,(.cells [(.val (.int .i64 (-1))),(.val (.int .i64 0)),(.val (.int .i64 0)),(.sl 1 0 2 3),(.sl 2 0 2 5),(.val (.int .i64 0)),(.val (.int .i64 2)),(.val (.int .i64 5)),(.sl 3 0 1 3),(.sl 4 0 1 5)] 188)),(1,(.cells [(.val (.int .i64 0)),(.val (.int .i64 1)),(.val (.int .i64 1)),(.val (.int .i64 1)),(.val (.int .i64 4)),(.val (.int .i64 8))] 182)),(2,(.cells [(.val (.int .i64 0)),(.val (.int .i64 5)),(.val (.int .i64 6)),(.val (.int .i64 1)),(.val (.int .i64 2)),(.val (.int .i64 1)),(.val (.int .i64 3)),(.val (.int .i64 5)),(.val (.int .i64 5)),(.val (.int .i64 5))] 185)),(3,(.cells [(.val (.int .i64 2)),(.val (.int .i64 3)),(.val (.int .i64 4))] 182)),(4,(.cells [(.val (.int .i64 2)),(.val (.int .i64 4)),(.val (.int .i64 8)),(.val (.int .i64 3)),(.val (.int .i64 4))] 185)),(416,(.cells [(.val (.int .i64 1))] 3))]}
theorem ea2_0_ok:ea2_0.Holds Tryz.prog x0:=⟨by kernel_rfl,Ent.of_run (ev_sound_d 100000 2000).2 ea2_0.ent [0,1,2,3,4,416] (by kernel_rfl)⟩
end Go.Proofs.Kn
end
