/- MvT10: texts in a row, joined by a program. -/
import Derived.Test.YtnmfblokfponlaaGreatDoorTie
import Derived.Test.YtnmfblokfponlaaGreatDoorCards
import Derived.Lay
import Derived.LaidOnce
import Derived.SevenTiedAt
import Derived.Test.YtnmfblokfponlaaGreatDoorQXMvT10b
set_option linter.all false
noncomputable section
namespace Go.Proofs.Kn
open Go Go.Ev Go.RowKit Go.ChangeShapes Go.WideShapes Go.ChangeAt
open YtnmfblokfponlaaGreatDoor
set_option maxRecDepth 100000
theorem card10:Rows.ShellSoundCardSaid:=
 Claim7.holds_tied_plain_at .later [] [.data,.data,.data,.data,.pinned] true (true, "88bf165be1fe92ca05bd7e894b0cea2b8ac90df8f83e2d13dd1ecc49adad8867") true holds10 (fun _ h=>by cases h) (by kernel_rfl) (fun _ h=>by cases h) shellSound_row_tie rfl ⟨rfl,rfl⟩ (by kernel_rfl) rfl
  (fun f fn hf hfn=>by
   obtain rfl:f=10:=Option.some.inj ((show Tryz.prog.funcNamed Rows.shellSoundRow.func=some 10 by kernel_rfl).symm.trans hf)|>.symm;obtain rfl:fn=Tryz.f10:=(Option.some.inj (Tryz.func10.symm.trans hfn)).symm;exact ⟨by kernel_rfl,fun j t ht=>by
    have hm:t∈[30,33,25]:=by rw [<-gG];exact Array.mem_toList_iff.2 (Array.mem_of_getElem? ht)
    have hall:([30,33,25].all fun u=> !Tryz.prog.wantsStandIn u)=true:=by kernel_rfl
    exact (show Tryz.prog.wantsStandIn t=false by simpa using List.all_eq_true.1 hall t hm)⟩)
  (by kernel_rfl)
end Go.Proofs.Kn
namespace Go.Proofs.YtnmfblokfponlaaGreatDoor
theorem shellSound_card:Rows.ShellSoundCardSaid:=Kn.card10
end Go.Proofs.YtnmfblokfponlaaGreatDoor
end
