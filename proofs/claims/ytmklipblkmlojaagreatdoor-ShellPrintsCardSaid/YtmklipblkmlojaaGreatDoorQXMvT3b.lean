/- Parts of the proof, joined by a program. -/
import Derived.Test.YtmklipblkmlojaaGreatDoorTie
import Derived.Test.YtmklipblkmlojaaGreatDoorCards
import Derived.Lay
import Derived.LaidOnce
import Derived.SevenTiedAt
import Derived.Test.YtmklipblkmlojaaGreatDoorQXMvT3a
set_option linter.all false
noncomputable section
namespace Go.Proofs.Kn
open Go Go.Ev Go.RowKit Go.ChangeShapes Go.WideShapes Go.ChangeAt
open YtmklipblkmlojaaGreatDoor
set_option maxRecDepth 100000
theorem zP {a b:Bool} (h:a=true) (k:b=true):(a && b)=true:=by rw [h,k];rfl
theorem j3_0:(Rows.shellPrintsRow.wf (OpenSpec.ofChange Rows.shellPrintsSpec))=true:=by kernel_rfl
theorem j3_1:(laidOutB Tryz.checked.prog)=true:=by kernel_rfl
theorem j3_2:(mapsRowed Tryz.checked.prog)=true:=by kernel_rfl
theorem j3_3:(Tryz.f3.params.all (Tryz.checked.prog.readableRec ·))=true:=by kernel_rfl
theorem j3_4:(namedTie Tryz.checked.prog Rows.shellPrintsRow.named Rows.shellPrintsSpec.vars)=true:=by kernel_rfl
theorem j3_5:((Rows.shellPrintsRow.stops==[]))=true:=by kernel_rfl
theorem j3_6:((Tryz.checked.prog.stops==[]))=true:=by kernel_rfl
theorem j3_7:((Rows.shellPrintsRow.knobs==[]))=true:=by kernel_rfl
theorem j3_8:((Tryz.checked.prog.stopKnobs==[]))=true:=by kernel_rfl
theorem j3_9:((Rows.shellPrintsRow.inPlace==Tryz.checked.prog.inPlace 3))=true:=by kernel_rfl
theorem j3_10:((Rows.shellPrintsRow.unfollowed==Tryz.checked.prog.unfollowed 3))=true:=by kernel_rfl
theorem j3_11:((Rows.shellPrintsRow.recurses==Tryz.checked.prog.recurses 3))=true:=by kernel_rfl
theorem j3_12:((Rows.shellPrintsRow.named==Tryz.checked.prog.varsNamed 3))=true:=by kernel_rfl
theorem j3_13:((Rows.shellPrintsRow.maps==(Tryz.f3.params.toList++Rows.shellPrintsSpec.plain.varTypes Tryz.checked.prog).any (Tryz.checked.prog.mapsRec ·)))=true:=by kernel_rfl
theorem j3_14:((Rows.shellPrintsRow.ifaces==(Tryz.f3.params.toList++Rows.shellPrintsSpec.plain.varTypes Tryz.checked.prog).any (Tryz.checked.prog.ifacesRec ·)))=true:=by kernel_rfl
theorem j3_15:((Rows.shellPrintsRow.mapsOut==Tryz.checked.prog.mapsAmong Tryz.f3.resultTypes.toList))=true:=by kernel_rfl
theorem j3_16:((Rows.shellPrintsRow.loops==(Tryz.f3.params.toList++Rows.shellPrintsSpec.plain.varTypes Tryz.checked.prog).any (Tryz.checked.prog.loopsFrom ·)))=true:=by kernel_rfl
theorem j3_17:((Rows.shellPrintsRow.wideKeys==(Tryz.f3.params.toList++Rows.shellPrintsSpec.plain.varTypes Tryz.checked.prog++Tryz.f3.resultTypes.toList).any (Tryz.checked.prog.wideKeysFrom ·)))=true:=by kernel_rfl
theorem j3_18:(Rows.shellPrintsSpec.vars.all (Tryz.checked.prog.varReadable ·))=true:=by kernel_rfl
theorem j3_19:(Tryz.f3.resultTypes.all (fun t=>Tryz.checked.prog.readableRec t && decide (t<Tryz.checked.prog.types.size)))=true:=by kernel_rfl
theorem j3_20:((Rows.shellPrintsRow.ifacesOut==Tryz.f3.resultTypes.toList.any (Tryz.checked.prog.ifacesRec ·)))=true:=by kernel_rfl
theorem j3_21:((Rows.shellPrintsRow.loopsOut==Tryz.f3.resultTypes.toList.any (Tryz.checked.prog.loopsFrom ·)))=true:=by kernel_rfl
theorem j3_22:((Rows.shellPrintsRow.plainKeys==Tryz.checked.prog.plainKeys))=true:=by kernel_rfl
theorem j3_23:(Rows.shellPrintsRow.shortTexts.isNone)=true:=by kernel_rfl
theorem j3_24:(Tryz.checked.prog.stopsHeard)=true:=by kernel_rfl
theorem j3_25:(Tryz.checked.prog.mayEnter)=true:=by kernel_rfl
theorem j3_26:((Rows.shellPrintsRow.lifted==Tryz.checked.prog.liftsFinal))=true:=by kernel_rfl
theorem j3_27:((Tryz.checked.prog.make==some Rows.shellPrintsRow.make))=true:=by kernel_rfl
theorem j3_29:((Rows.shellPrintsRow.pinned==Rows.shellPrintsRow.pinnedBy))=true:=by kernel_rfl
theorem j3_30:((Rows.shellPrintsRow.veiled==(Tryz.f3.params.toList++Rows.shellPrintsSpec.plain.varTypes Tryz.checked.prog++Tryz.f3.resultTypes.toList).any (Tryz.checked.prog.veiledRec ·)))=true:=by kernel_rfl
theorem j3_31:(Rows.shellPrintsRow.veiledFits Tryz.checked.prog Tryz.f3.params.toList (Tryz.f3.params.toList++Rows.shellPrintsSpec.plain.varTypes Tryz.checked.prog++Tryz.f3.resultTypes.toList))=true:=by kernel_rfl
theorem joined3:joinedFacts Tryz.checked.prog 3 Tryz.f3 Rows.shellPrintsSpec Rows.shellPrintsRow=true:=(zP (zP (zP (zP (zP (zP (zP (zP (zP (zP (zP (zP (zP (zP (zP (zP (zP (zP (zP (zP (zP (zP (zP (zP (zP (zP (zP (zP (zP (zP (zP j3_0 j3_1) j3_2) j3_3) j3_4) j3_5) j3_6) j3_7) j3_8) j3_9) j3_10) j3_11) j3_12) j3_13) j3_14) j3_15) j3_16) j3_17) j3_18) j3_19) j3_20) j3_21) j3_22) j3_23) j3_24) j3_25) j3_26) j3_27) (by kernel_rfl)) j3_29) j3_30) j3_31)
theorem named3:Tryz.checked.prog.funcNamed Rows.shellPrintsRow.func=some 3:=by kernel_rfl
theorem holds3:Rows.ShellPrintsSaid:=
 OpenClaim.holds_of_wide 3 Tryz.f3 rfl rfl rfl rfl rfl rfl rfl ⟨rfl,rfl,rfl,rfl,rfl⟩ rfl rfl rfl rfl rfl named3 Tryz.func3 joined3
  (of_decide_eq_true (by kernel_rfl)) (by unfold Func.isWrapper;first|(rw [if_pos (by decide+kernel)];kernel_rfl)|(rw [if_neg (by decide+kernel)];exact ⟨rfl,rfl⟩))
  (fun os started H enc _=>lifted3 os started H enc)
end Go.Proofs.Kn
end
