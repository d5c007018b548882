/- ShellSpoilt returns true for every map, place and digit, and each argument reads behind the call as it read before; there is no condition beyond those of the given row. -/
import Derived.Test.YtmklipblkmlojaaGreatDoorTie
import Derived.Test.YtmklipblkmlojaaGreatDoorCards
import Derived.Lay
import Derived.LaidOnce
import Derived.SevenTiedAt
import Derived.Test.YtmklipblkmlojaaGreatDoorQXMvT5b
set_option linter.all false
noncomputable section
namespace Go.Proofs.Kn
open Go Go.Ev Go.RowKit Go.ChangeShapes Go.WideShapes Go.ChangeAt
open YtmklipblkmlojaaGreatDoor
set_option maxRecDepth 100000
theorem card5:Rows.ShellSpoiltCardSaid:=
 Claim7.holds_tied_plain_at .later [] [.data,.data,.data,.data,.pinned] true (true, "502877a27e6ad380bd4278982c55bb5e4a5b9727ef19191685faf1440211eae4") true holds5 (fun _ h=>by cases h) (by kernel_rfl) (fun _ h=>by cases h) shellSpoilt_row_tie rfl ⟨rfl,rfl⟩ (by kernel_rfl) rfl
  (fun f fn hf hfn=>by
   obtain rfl:f=5:=Option.some.inj ((show Tryz.prog.funcNamed Rows.shellSpoiltRow.func=some 5 by kernel_rfl).symm.trans hf)|>.symm;obtain rfl:fn=Tryz.f5:=(Option.some.inj (Tryz.func5.symm.trans hfn)).symm;exact ⟨by kernel_rfl,fun j t ht=>by
    have hm:t∈[27,3,3]:=by rw [<-qAa];exact Array.mem_toList_iff.2 (Array.mem_of_getElem? ht)
    have hall:([27,3,3].all fun u=> !Tryz.prog.wantsStandIn u)=true:=by kernel_rfl
    exact (show Tryz.prog.wantsStandIn t=false by simpa using List.all_eq_true.1 hall t hm)⟩)
  (by kernel_rfl)
end Go.Proofs.Kn
namespace Go.Proofs.YtmklipblkmlojaaGreatDoor
theorem shellSpoilt_card:Rows.ShellSpoiltCardSaid:=Kn.card5
end Go.Proofs.YtmklipblkmlojaaGreatDoor
end
