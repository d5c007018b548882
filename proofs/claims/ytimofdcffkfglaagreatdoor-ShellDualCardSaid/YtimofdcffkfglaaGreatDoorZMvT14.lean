/- ShellDual returns true for every argument, and each argument reads behind the call as it read before; there is no condition beyond those of the given row. -/
import Derived.Test.YtimofdcffkfglaaGreatDoorTie
import Derived.Test.YtimofdcffkfglaaGreatDoorCards
import Derived.Lay
import Derived.LaidOnce
import Derived.SevenTiedAt
import Derived.Test.YtimofdcffkfglaaGreatDoorQXMvT14b
set_option linter.all false
noncomputable section
namespace Go.Proofs.Kn
open Go Go.Ev Go.RowKit Go.ChangeShapes Go.WideShapes Go.ChangeAt
open YtimofdcffkfglaaGreatDoor
set_option maxRecDepth 100000
theorem card14:Rows.ShellDualCardSaid:=
 Claim7.holds_tied_plain_at .later [] [.data,.data,.data,.data,.pinned] true (true, "c2c9bd7e956a487da6ef055bc54be283c8bae8fa94bff2f2b235dcf14c0bc8ef") true holds14 (fun _ h=>by cases h) (by kernel_rfl) (fun _ h=>by cases h) shellDual_row_tie rfl ⟨rfl,rfl⟩ (by kernel_rfl) rfl
  (fun f fn hf hfn=>by
   obtain rfl:f=14:=Option.some.inj ((show Tryz.prog.funcNamed Rows.shellDualRow.func=some 14 by kernel_rfl).symm.trans hf)|>.symm;obtain rfl:fn=Tryz.f14:=(Option.some.inj (Tryz.func14.symm.trans hfn)).symm;exact ⟨by kernel_rfl,fun j t ht=>by
    have hm:t∈[30,91,33]:=by rw [<-qAw];exact Array.mem_toList_iff.2 (Array.mem_of_getElem? ht)
    have hall:([30,91,33].all fun u=> !Tryz.prog.wantsStandIn u)=true:=by kernel_rfl
    exact (show Tryz.prog.wantsStandIn t=false by simpa using List.all_eq_true.1 hall t hm)⟩)
  (by kernel_rfl)
end Go.Proofs.Kn
namespace Go.Proofs.YtimofdcffkfglaaGreatDoor
theorem shellDual_card:Rows.ShellDualCardSaid:=Kn.card14
end Go.Proofs.YtimofdcffkfglaaGreatDoor
end
