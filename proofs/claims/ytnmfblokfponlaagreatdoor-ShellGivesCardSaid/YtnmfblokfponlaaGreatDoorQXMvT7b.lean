/- MvT7b: texts in a row, joined by a program. -/
import Derived.Test.YtnmfblokfponlaaGreatDoorTie
import Derived.Test.YtnmfblokfponlaaGreatDoorCards
import Derived.Lay
import Derived.LaidOnce
import Derived.SevenTiedAt
import Derived.Test.YtnmfblokfponlaaGreatDoorQXMvT7a
set_option linter.all false
noncomputable section
namespace Go.Proofs.Kn
open Go Go.Ev Go.RowKit Go.ChangeShapes Go.WideShapes Go.ChangeAt
open YtnmfblokfponlaaGreatDoor
set_option maxRecDepth 100000
theorem andT7 {a b:Bool} (h:a=true) (k:b=true):(a && b)=true:=by rw [h,k];rfl
theorem j7_0:(Rows.shellGivesRow.wf (OpenSpec.ofChange Rows.shellGivesSpec))=true:=by kernel_rfl
theorem j7_1:(laidOutB Tryz.checked.prog)=true:=by kernel_rfl
theorem j7_2:(mapsRowed Tryz.checked.prog)=true:=by kernel_rfl
theorem j7_3:(Tryz.f7.params.all (Tryz.checked.prog.readableRec ·))=true:=by kernel_rfl
theorem j7_4:(namedTie Tryz.checked.prog Rows.shellGivesRow.named Rows.shellGivesSpec.vars)=true:=by kernel_rfl
theorem j7_5:((Rows.shellGivesRow.stops==[]))=true:=by kernel_rfl
theorem j7_6:((Tryz.checked.prog.stops==[]))=true:=by kernel_rfl
theorem j7_7:((Rows.shellGivesRow.knobs==[]))=true:=by kernel_rfl
theorem j7_8:((Tryz.checked.prog.stopKnobs==[]))=true:=by kernel_rfl
theorem j7_9:((Rows.shellGivesRow.inPlace==Tryz.checked.prog.inPlace 7))=true:=by kernel_rfl
theorem j7_10:((Rows.shellGivesRow.unfollowed==Tryz.checked.prog.unfollowed 7))=true:=by kernel_rfl
theorem j7_11:((Rows.shellGivesRow.recurses==Tryz.checked.prog.recurses 7))=true:=by kernel_rfl
theorem j7_12:((Rows.shellGivesRow.named==Tryz.checked.prog.varsNamed 7))=true:=by kernel_rfl
theorem j7_13:((Rows.shellGivesRow.maps==(Tryz.f7.params.toList++Rows.shellGivesSpec.plain.varTypes Tryz.checked.prog).any (Tryz.checked.prog.mapsRec ·)))=true:=by kernel_rfl
theorem j7_14:((Rows.shellGivesRow.ifaces==(Tryz.f7.params.toList++Rows.shellGivesSpec.plain.varTypes Tryz.checked.prog).any (Tryz.checked.prog.ifacesRec ·)))=true:=by kernel_rfl
theorem j7_15:((Rows.shellGivesRow.mapsOut==Tryz.checked.prog.mapsAmong Tryz.f7.resultTypes.toList))=true:=by kernel_rfl
theorem j7_16:((Rows.shellGivesRow.loops==(Tryz.f7.params.toList++Rows.shellGivesSpec.plain.varTypes Tryz.checked.prog).any (Tryz.checked.prog.loopsFrom ·)))=true:=by kernel_rfl
theorem j7_17:((Rows.shellGivesRow.wideKeys==(Tryz.f7.params.toList++Rows.shellGivesSpec.plain.varTypes Tryz.checked.prog++Tryz.f7.resultTypes.toList).any (Tryz.checked.prog.wideKeysFrom ·)))=true:=by kernel_rfl
theorem j7_18:(Rows.shellGivesSpec.vars.all (Tryz.checked.prog.varReadable ·))=true:=by kernel_rfl
theorem j7_19:(Tryz.f7.resultTypes.all (fun t=>Tryz.checked.prog.readableRec t && decide (t<Tryz.checked.prog.types.size)))=true:=by kernel_rfl
theorem j7_20:((Rows.shellGivesRow.ifacesOut==Tryz.f7.resultTypes.toList.any (Tryz.checked.prog.ifacesRec ·)))=true:=by kernel_rfl
theorem j7_21:((Rows.shellGivesRow.loopsOut==Tryz.f7.resultTypes.toList.any (Tryz.checked.prog.loopsFrom ·)))=true:=by kernel_rfl
theorem j7_22:((Rows.shellGivesRow.plainKeys==Tryz.checked.prog.plainKeys))=true:=by kernel_rfl
theorem j7_23:(Rows.shellGivesRow.shortTexts.isNone)=true:=by kernel_rfl
theorem j7_24:(Tryz.checked.prog.stopsHeard)=true:=by kernel_rfl
theorem j7_25:(Tryz.checked.prog.mayEnter)=true:=by kernel_rfl
theorem j7_26:((Rows.shellGivesRow.lifted==Tryz.checked.prog.liftsFinal))=true:=by kernel_rfl
theorem j7_27:((Tryz.checked.prog.make==some Rows.shellGivesRow.make))=true:=by kernel_rfl
theorem j7_29:((Rows.shellGivesRow.pinned==Rows.shellGivesRow.pinnedBy))=true:=by kernel_rfl
theorem j7_30:((Rows.shellGivesRow.veiled==(Tryz.f7.params.toList++Rows.shellGivesSpec.plain.varTypes Tryz.checked.prog++Tryz.f7.resultTypes.toList).any (Tryz.checked.prog.veiledRec ·)))=true:=by kernel_rfl
theorem j7_31:(Rows.shellGivesRow.veiledFits Tryz.checked.prog Tryz.f7.params.toList (Tryz.f7.params.toList++Rows.shellGivesSpec.plain.varTypes Tryz.checked.prog++Tryz.f7.resultTypes.toList))=true:=by kernel_rfl
theorem joined7:joinedFacts Tryz.checked.prog 7 Tryz.f7 Rows.shellGivesSpec Rows.shellGivesRow=true:=(andT7 (andT7 (andT7 (andT7 (andT7 (andT7 (andT7 (andT7 (andT7 (andT7 (andT7 (andT7 (andT7 (andT7 (andT7 (andT7 (andT7 (andT7 (andT7 (andT7 (andT7 (andT7 (andT7 (andT7 (andT7 (andT7 (andT7 (andT7 (andT7 (andT7 (andT7 j7_0 j7_1) j7_2) j7_3) j7_4) j7_5) j7_6) j7_7) j7_8) j7_9) j7_10) j7_11) j7_12) j7_13) j7_14) j7_15) j7_16) j7_17) j7_18) j7_19) j7_20) j7_21) j7_22) j7_23) j7_24) j7_25) j7_26) j7_27) (by kernel_rfl)) j7_29) j7_30) j7_31)
theorem named7:Tryz.checked.prog.funcNamed Rows.shellGivesRow.func=some 7:=by kernel_rfl
theorem holds7:Rows.ShellGivesSaid:=
 OpenClaim.holds_of_wide 7 Tryz.f7 rfl rfl rfl rfl rfl rfl rfl ⟨rfl,rfl,rfl,rfl,rfl⟩ rfl rfl rfl rfl rfl named7 Tryz.func7 joined7
  (of_decide_eq_true (by kernel_rfl)) (by unfold Func.isWrapper;first|(rw [if_pos (by decide+kernel)];kernel_rfl)|(rw [if_neg (by decide+kernel)];exact ⟨rfl,rfl⟩))
  (fun os started H enc _=>lifted7 os started H enc)
end Go.Proofs.Kn
end
