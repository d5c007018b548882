/- ShellReads returns true for every string, and the argument reads behind the call as it read before; there is no condition beyond those of the given row. -/
import Derived.Test.YtmklipblkmlojaaGreatDoorTie
import Derived.Test.YtmklipblkmlojaaGreatDoorCards
import Derived.Lay
import Derived.LaidOnce
import Derived.SevenTiedAt
import Derived.Test.YtmklipblkmlojaaGreatDoorQXMvT4b
set_option linter.all false
noncomputable section
namespace Go.Proofs.Kn
open Go Go.Ev Go.RowKit Go.ChangeShapes Go.WideShapes Go.ChangeAt
open YtmklipblkmlojaaGreatDoor
set_option maxRecDepth 100000
theorem card4:Rows.ShellReadsCardSaid:=
 Claim7.holds_tied_plain_at .later [] [.data,.data,.data,.data,.pinned] true (true, "502877a27e6ad380bd4278982c55bb5e4a5b9727ef19191685faf1440211eae4") true holds4 (fun _ h=>by cases h) (by kernel_rfl) (fun _ h=>by cases h) shellReads_row_tie rfl ⟨rfl,rfl⟩ (by kernel_rfl) rfl
  (fun f fn hf hfn=>by
   obtain rfl:f=4:=Option.some.inj ((show Tryz.prog.funcNamed Rows.shellReadsRow.func=some 4 by kernel_rfl).symm.trans hf)|>.symm;obtain rfl:fn=Tryz.f4:=(Option.some.inj (Tryz.func4.symm.trans hfn)).symm;exact ⟨by kernel_rfl,fun j t ht=>by
    have hm:t∈[9]:=by rw [<-qAK];exact Array.mem_toList_iff.2 (Array.mem_of_getElem? ht)
    have hall:([9].all fun u=> !Tryz.prog.wantsStandIn u)=true:=by kernel_rfl
    exact (show Tryz.prog.wantsStandIn t=false by simpa using List.all_eq_true.1 hall t hm)⟩)
  (by kernel_rfl)
end Go.Proofs.Kn
namespace Go.Proofs.YtmklipblkmlojaaGreatDoor
theorem shellReads_card:Rows.ShellReadsCardSaid:=Kn.card4
end Go.Proofs.YtmklipblkmlojaaGreatDoor
end
