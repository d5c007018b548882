/- ShellProofs returns true for every work and every proof, and each argument reads behind the call as it read before; there is no condition beyond those of the given row. -/
import Derived.Test.YthimlgffanlomaaGreatDoorQXMvT3b
set_option linter.all false
noncomputable section
namespace Go.Proofs.Kn
open Go Go.Ev Go.RowKit Go.ChangeShapes Go.WideShapes Go.ChangeAt
open YthimlgffanlomaaGreatDoor
set_option maxRecDepth 100000
theorem card3:Rows.ShellProofsCardSaid:=
 Claim7.holds_tied_plain_at .later [] [.data,.data,.data,.data,.pinned] true (true, "8e4a4db4becde4ee42dc1f3f69bb9816bab14a8498d32dca4538f3137a1cfd8e") true holds3 (fun _ h=>by cases h) (by kernel_rfl) (fun _ h=>by cases h) shellProofs_row_tie rfl ⟨rfl,rfl⟩ (by kernel_rfl) rfl
  (fun f fn hf hfn=>by
   obtain rfl:f=3:=Option.some.inj ((show Tryz.prog.funcNamed Rows.shellProofsRow.func=some 3 by kernel_rfl).symm.trans hf)|>.symm;obtain rfl:fn=Tryz.f3:=(Option.some.inj (Tryz.func3.symm.trans hfn)).symm;exact ⟨by kernel_rfl,fun j t ht=>by
    have hm:t∈[30,34]:=by rw [<-qB6];exact Array.mem_toList_iff.2 (Array.mem_of_getElem? ht)
    have hall:([30,34].all fun u=> !Tryz.prog.wantsStandIn u)=true:=by kernel_rfl
    exact (show Tryz.prog.wantsStandIn t=false by simpa using List.all_eq_true.1 hall t hm)⟩)
  (by kernel_rfl)
end Go.Proofs.Kn
namespace Go.Proofs.YthimlgffanlomaaGreatDoor
theorem shellProofs_card:Rows.ShellProofsCardSaid:=Kn.card3
end Go.Proofs.YthimlgffanlomaaGreatDoor
end
