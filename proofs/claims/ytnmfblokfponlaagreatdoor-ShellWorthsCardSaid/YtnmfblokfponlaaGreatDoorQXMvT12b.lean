/- MvT12b: texts in a row, joined by a program. -/
import Derived.Test.YtnmfblokfponlaaGreatDoorTie
import Derived.Test.YtnmfblokfponlaaGreatDoorCards
import Derived.Lay
import Derived.LaidOnce
import Derived.SevenTiedAt
import Derived.Test.YtnmfblokfponlaaGreatDoorQXMvT12a
set_option linter.all false
noncomputable section
namespace Go.Proofs.Kn
open Go Go.Ev Go.RowKit Go.ChangeShapes Go.WideShapes Go.ChangeAt
open YtnmfblokfponlaaGreatDoor
set_option maxRecDepth 100000
theorem andT12 {a b:Bool} (h:a=true) (k:b=true):(a && b)=true:=by rw [h,k];rfl
theorem j12_0:(Rows.shellWorthsRow.wf (OpenSpec.ofChange Rows.shellWorthsSpec))=true:=by kernel_rfl
theorem j12_1:(laidOutB Tryz.checked.prog)=true:=by kernel_rfl
theorem j12_2:(mapsRowed Tryz.checked.prog)=true:=by kernel_rfl
theorem j12_3:(Tryz.f12.params.all (Tryz.checked.prog.readableRec ·))=true:=by kernel_rfl
theorem j12_4:(namedTie Tryz.checked.prog Rows.shellWorthsRow.named Rows.shellWorthsSpec.vars)=true:=by kernel_rfl
theorem j12_5:((Rows.shellWorthsRow.stops==[]))=true:=by kernel_rfl
theorem j12_6:((Tryz.checked.prog.stops==[]))=true:=by kernel_rfl
theorem j12_7:((Rows.shellWorthsRow.knobs==[]))=true:=by kernel_rfl
theorem j12_8:((Tryz.checked.prog.stopKnobs==[]))=true:=by kernel_rfl
theorem j12_9:((Rows.shellWorthsRow.inPlace==Tryz.checked.prog.inPlace 12))=true:=by kernel_rfl
theorem j12_10:((Rows.shellWorthsRow.unfollowed==Tryz.checked.prog.unfollowed 12))=true:=by kernel_rfl
theorem j12_11:((Rows.shellWorthsRow.recurses==Tryz.checked.prog.recurses 12))=true:=by kernel_rfl
theorem j12_12:((Rows.shellWorthsRow.named==Tryz.checked.prog.varsNamed 12))=true:=by kernel_rfl
theorem j12_13:((Rows.shellWorthsRow.maps==(Tryz.f12.params.toList++Rows.shellWorthsSpec.plain.varTypes Tryz.checked.prog).any (Tryz.checked.prog.mapsRec ·)))=true:=by kernel_rfl
theorem j12_14:((Rows.shellWorthsRow.ifaces==(Tryz.f12.params.toList++Rows.shellWorthsSpec.plain.varTypes Tryz.checked.prog).any (Tryz.checked.prog.ifacesRec ·)))=true:=by kernel_rfl
theorem j12_15:((Rows.shellWorthsRow.mapsOut==Tryz.checked.prog.mapsAmong Tryz.f12.resultTypes.toList))=true:=by kernel_rfl
theorem j12_16:((Rows.shellWorthsRow.loops==(Tryz.f12.params.toList++Rows.shellWorthsSpec.plain.varTypes Tryz.checked.prog).any (Tryz.checked.prog.loopsFrom ·)))=true:=by kernel_rfl
theorem j12_17:((Rows.shellWorthsRow.wideKeys==(Tryz.f12.params.toList++Rows.shellWorthsSpec.plain.varTypes Tryz.checked.prog++Tryz.f12.resultTypes.toList).any (Tryz.checked.prog.wideKeysFrom ·)))=true:=by kernel_rfl
theorem j12_18:(Rows.shellWorthsSpec.vars.all (Tryz.checked.prog.varReadable ·))=true:=by kernel_rfl
theorem j12_19:(Tryz.f12.resultTypes.all (fun t=>Tryz.checked.prog.readableRec t && decide (t<Tryz.checked.prog.types.size)))=true:=by kernel_rfl
theorem j12_20:((Rows.shellWorthsRow.ifacesOut==Tryz.f12.resultTypes.toList.any (Tryz.checked.prog.ifacesRec ·)))=true:=by kernel_rfl
theorem j12_21:((Rows.shellWorthsRow.loopsOut==Tryz.f12.resultTypes.toList.any (Tryz.checked.prog.loopsFrom ·)))=true:=by kernel_rfl
theorem j12_22:((Rows.shellWorthsRow.plainKeys==Tryz.checked.prog.plainKeys))=true:=by kernel_rfl
theorem j12_23:(Rows.shellWorthsRow.shortTexts.isNone)=true:=by kernel_rfl
theorem j12_24:(Tryz.checked.prog.stopsHeard)=true:=by kernel_rfl
theorem j12_25:(Tryz.checked.prog.mayEnter)=true:=by kernel_rfl
theorem j12_26:((Rows.shellWorthsRow.lifted==Tryz.checked.prog.liftsFinal))=true:=by kernel_rfl
theorem j12_27:((Tryz.checked.prog.make==some Rows.shellWorthsRow.make))=true:=by kernel_rfl
theorem j12_29:((Rows.shellWorthsRow.pinned==Rows.shellWorthsRow.pinnedBy))=true:=by kernel_rfl
theorem j12_30:((Rows.shellWorthsRow.veiled==(Tryz.f12.params.toList++Rows.shellWorthsSpec.plain.varTypes Tryz.checked.prog++Tryz.f12.resultTypes.toList).any (Tryz.checked.prog.veiledRec ·)))=true:=by kernel_rfl
theorem j12_31:(Rows.shellWorthsRow.veiledFits Tryz.checked.prog Tryz.f12.params.toList (Tryz.f12.params.toList++Rows.shellWorthsSpec.plain.varTypes Tryz.checked.prog++Tryz.f12.resultTypes.toList))=true:=by kernel_rfl
theorem joined12:joinedFacts Tryz.checked.prog 12 Tryz.f12 Rows.shellWorthsSpec Rows.shellWorthsRow=true:=(andT12 (andT12 (andT12 (andT12 (andT12 (andT12 (andT12 (andT12 (andT12 (andT12 (andT12 (andT12 (andT12 (andT12 (andT12 (andT12 (andT12 (andT12 (andT12 (andT12 (andT12 (andT12 (andT12 (andT12 (andT12 (andT12 (andT12 (andT12 (andT12 (andT12 (andT12 j12_0 j12_1) j12_2) j12_3) j12_4) j12_5) j12_6) j12_7) j12_8) j12_9) j12_10) j12_11) j12_12) j12_13) j12_14) j12_15) j12_16) j12_17) j12_18) j12_19) j12_20) j12_21) j12_22) j12_23) j12_24) j12_25) j12_26) j12_27) (by kernel_rfl)) j12_29) j12_30) j12_31)
theorem named12:Tryz.checked.prog.funcNamed Rows.shellWorthsRow.func=some 12:=by kernel_rfl
theorem holds12:Rows.ShellWorthsSaid:=
 OpenClaim.holds_of_wide 12 Tryz.f12 rfl rfl rfl rfl rfl rfl rfl ⟨rfl,rfl,rfl,rfl,rfl⟩ rfl rfl rfl rfl rfl named12 Tryz.func12 joined12
  (of_decide_eq_true (by kernel_rfl)) (by unfold Func.isWrapper;first|(rw [if_pos (by decide+kernel)];kernel_rfl)|(rw [if_neg (by decide+kernel)];exact ⟨rfl,rfl⟩))
  (fun os started H enc _=>lifted12 os started H enc)
end Go.Proofs.Kn
end
