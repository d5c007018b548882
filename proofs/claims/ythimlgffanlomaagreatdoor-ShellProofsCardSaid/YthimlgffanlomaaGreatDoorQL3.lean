/- Parts. -/
import Derived.Test.YthimlgffanlomaaGreatDoorQL
import Derived.Test.YthimlgffanlomaaGreatDoorQL2
set_option linter.all false
namespace Go.Proofs.Kn
open Go Go.Ev
set_option maxRecDepth 100000
theorem step0:SemC (E x0) none (seqL cd0) kst0 .normal kst1:=SemC.run (xG x0 100000 2000).1 [] (by kernel_rfl)
theorem step1:SemC (E x0) none (seqL cd1) kst1 .normal kst2:=SemC.run (xG x0 100000 2000).1 [88,91,94,96] (by kernel_rfl)
theorem step2:SemC (E x0) none (seqL cd2) kst2 .normal kst3:=SemC.run (xG x0 100000 2000).1 [88,91,94,96,359] (by kernel_rfl)
noncomputable def E3:Env:=(E x0).more [ent1,ent2]
theorem ev_sound3 (m n:Nat):zN E3 (ev E3 m n).code:=
 (ev_ok (E:=E3) (ftok x0) qAu (qFa (soundN x0) (by intro e he;simp only [List.mem_cons,List.mem_nil_iff,or_false] at he;rcases he with rfl|rfl;exact ent1_ok;exact ent2_ok)) (soundD x0) m n).1
theorem step3:SemC (E x0) none (seqL cd3) kst3 .normal kst4:=
 SemC.less (es:=[ent1,ent2])<|SemC.run (E:=E3) (ev_sound3 100000 2000) [88,91,94,96,359,3185] (by kernel_rfl)
theorem step4:SemC (E x0) none (seqL cd4) kst4 .normal kst5:=SemC.run (xG x0 100000 2000).1 [88,91,94,96,359,3185,4065] (by kernel_rfl)
end Go.Proofs.Kn
