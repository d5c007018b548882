/- MvS5, MvS6, MvS7: texts in a row, joined by a program. -/
import Derived.Test.YtnmfblokfponlaaGreatDoorQY7
import Derived.Test.YtnmfblokfponlaaGreatDoorQN2
import Derived.Test.YtnmfblokfponlaaGreatDoorQY6
set_option linter.all false
namespace Go.Proofs.Kn
open Go Go.Ev
set_option maxRecDepth 100000
set_option maxHeartbeats 4000000
structure Wk.GrOk (w:Wk) (G:Th.Grid) (g:Gr):Prop where
 len:g.ll.length=w.m.cells.length
 row: ∀r,r<w.m.cells.length->(g.ll.getD r []).length=w.m.W
 pos: ∀r c,r<w.m.cells.length->c<w.m.W->0<=g.t r c
 lv: ∀s,w.Blk s->(w.tb s.2.2.toNat).2.2*w.give g.t s=w.lv G s
end Go.Proofs.Kn
namespace Go.Proofs.Kn
open Go Go.Ev
set_option maxRecDepth 100000
set_option maxHeartbeats 4000000
end Go.Proofs.Kn
namespace Go.Proofs.Kn
open Go Go.Ev
set_option maxRecDepth 100000
set_option maxHeartbeats 4000000
end Go.Proofs.Kn
