/- ForemanLines: whatever entry comes in, the law returns true. -/
import Derived.Test.YtafhmammmgbdgaaGreatDoorTie
import Derived.Test.YtafhmammmgbdgaaGreatDoorCards
import Derived.Lay
import Derived.LaidOnce
import Derived.SevenTiedAt
import Derived.Test.YtafhmammmgbdgaaGreatDoorQXMvT4b
set_option linter.all false
noncomputable section
namespace Go.Proofs.Kn
open Go Go.Ev Go.RowKit Go.ChangeShapes Go.WideShapes Go.ChangeAt
open YtafhmammmgbdgaaGreatDoor
set_option maxRecDepth 100000
theorem card4:Rows.ForemanLinesCardSaid:=
 Claim7.holds_tied_plain_at .later [] [.data,.data,.data,.data,.pinned] true (true, "a34bcd0c1a131bc9932c465b34507202c7d22573697d6e7e2c5441023ee42ef7") true holds4 (fun _ h=>by cases h) (by kernel_rfl) (fun _ h=>by cases h) foremanLines_row_tie rfl ⟨rfl,rfl⟩ (by kernel_rfl) rfl
  (fun f fn hf hfn=>by
   obtain rfl:f=4:=Option.some.inj ((show Tryz.prog.funcNamed Rows.foremanLinesRow.func=some 4 by kernel_rfl).symm.trans hf)|>.symm;obtain rfl:fn=Tryz.f4:=(Option.some.inj (Tryz.func4.symm.trans hfn)).symm;exact ⟨by kernel_rfl,fun j t ht=>by
    have hm:t∈[25]:=by rw [←params4];exact Array.mem_toList_iff.2 (Array.mem_of_getElem? ht)
    have hall:([25].all fun u=> !Tryz.prog.wantsStandIn u)=true:=by kernel_rfl
    exact (show Tryz.prog.wantsStandIn t=false by simpa using List.all_eq_true.1 hall t hm)⟩)
  (by kernel_rfl)
end Go.Proofs.Kn
namespace Go.Proofs.YtafhmammmgbdgaaGreatDoor
theorem foremanLines_card:Rows.ForemanLinesCardSaid:=Kn.card4
end Go.Proofs.YtafhmammmgbdgaaGreatDoor
end
