/- MvT13b: texts in a row, joined by a program. -/
import Derived.Test.YtnmfblokfponlaaGreatDoorTie
import Derived.Test.YtnmfblokfponlaaGreatDoorCards
import Derived.Lay
import Derived.LaidOnce
import Derived.SevenTiedAt
import Derived.Test.YtnmfblokfponlaaGreatDoorQXMvT13a
set_option linter.all false
noncomputable section
namespace Go.Proofs.Kn
open Go Go.Ev Go.RowKit Go.ChangeShapes Go.WideShapes Go.ChangeAt
open YtnmfblokfponlaaGreatDoor
set_option maxRecDepth 100000
theorem andT13 {a b:Bool} (h:a=true) (k:b=true):(a && b)=true:=by rw [h,k];rfl
theorem j13_0:(Rows.shellRunsRow.wf (OpenSpec.ofChange Rows.shellRunsSpec))=true:=by kernel_rfl
theorem j13_1:(laidOutB Tryz.checked.prog)=true:=by kernel_rfl
theorem j13_2:(mapsRowed Tryz.checked.prog)=true:=by kernel_rfl
theorem j13_3:(Tryz.f13.params.all (Tryz.checked.prog.readableRec ·))=true:=by kernel_rfl
theorem j13_4:(namedTie Tryz.checked.prog Rows.shellRunsRow.named Rows.shellRunsSpec.vars)=true:=by kernel_rfl
theorem j13_5:((Rows.shellRunsRow.stops==[]))=true:=by kernel_rfl
theorem j13_6:((Tryz.checked.prog.stops==[]))=true:=by kernel_rfl
theorem j13_7:((Rows.shellRunsRow.knobs==[]))=true:=by kernel_rfl
theorem j13_8:((Tryz.checked.prog.stopKnobs==[]))=true:=by kernel_rfl
theorem j13_9:((Rows.shellRunsRow.inPlace==Tryz.checked.prog.inPlace 13))=true:=by kernel_rfl
theorem j13_10:((Rows.shellRunsRow.unfollowed==Tryz.checked.prog.unfollowed 13))=true:=by kernel_rfl
theorem j13_11:((Rows.shellRunsRow.recurses==Tryz.checked.prog.recurses 13))=true:=by kernel_rfl
theorem j13_12:((Rows.shellRunsRow.named==Tryz.checked.prog.varsNamed 13))=true:=by kernel_rfl
theorem j13_13:((Rows.shellRunsRow.maps==(Tryz.f13.params.toList++Rows.shellRunsSpec.plain.varTypes Tryz.checked.prog).any (Tryz.checked.prog.mapsRec ·)))=true:=by kernel_rfl
theorem j13_14:((Rows.shellRunsRow.ifaces==(Tryz.f13.params.toList++Rows.shellRunsSpec.plain.varTypes Tryz.checked.prog).any (Tryz.checked.prog.ifacesRec ·)))=true:=by kernel_rfl
theorem j13_15:((Rows.shellRunsRow.mapsOut==Tryz.checked.prog.mapsAmong Tryz.f13.resultTypes.toList))=true:=by kernel_rfl
theorem j13_16:((Rows.shellRunsRow.loops==(Tryz.f13.params.toList++Rows.shellRunsSpec.plain.varTypes Tryz.checked.prog).any (Tryz.checked.prog.loopsFrom ·)))=true:=by kernel_rfl
theorem j13_17:((Rows.shellRunsRow.wideKeys==(Tryz.f13.params.toList++Rows.shellRunsSpec.plain.varTypes Tryz.checked.prog++Tryz.f13.resultTypes.toList).any (Tryz.checked.prog.wideKeysFrom ·)))=true:=by kernel_rfl
theorem j13_18:(Rows.shellRunsSpec.vars.all (Tryz.checked.prog.varReadable ·))=true:=by kernel_rfl
theorem j13_19:(Tryz.f13.resultTypes.all (fun t=>Tryz.checked.prog.readableRec t && decide (t<Tryz.checked.prog.types.size)))=true:=by kernel_rfl
theorem j13_20:((Rows.shellRunsRow.ifacesOut==Tryz.f13.resultTypes.toList.any (Tryz.checked.prog.ifacesRec ·)))=true:=by kernel_rfl
theorem j13_21:((Rows.shellRunsRow.loopsOut==Tryz.f13.resultTypes.toList.any (Tryz.checked.prog.loopsFrom ·)))=true:=by kernel_rfl
theorem j13_22:((Rows.shellRunsRow.plainKeys==Tryz.checked.prog.plainKeys))=true:=by kernel_rfl
theorem j13_23:(Rows.shellRunsRow.shortTexts.isNone)=true:=by kernel_rfl
theorem j13_24:(Tryz.checked.prog.stopsHeard)=true:=by kernel_rfl
theorem j13_25:(Tryz.checked.prog.mayEnter)=true:=by kernel_rfl
theorem j13_26:((Rows.shellRunsRow.lifted==Tryz.checked.prog.liftsFinal))=true:=by kernel_rfl
theorem j13_27:((Tryz.checked.prog.make==some Rows.shellRunsRow.make))=true:=by kernel_rfl
theorem j13_29:((Rows.shellRunsRow.pinned==Rows.shellRunsRow.pinnedBy))=true:=by kernel_rfl
theorem j13_30:((Rows.shellRunsRow.veiled==(Tryz.f13.params.toList++Rows.shellRunsSpec.plain.varTypes Tryz.checked.prog++Tryz.f13.resultTypes.toList).any (Tryz.checked.prog.veiledRec ·)))=true:=by kernel_rfl
theorem j13_31:(Rows.shellRunsRow.veiledFits Tryz.checked.prog Tryz.f13.params.toList (Tryz.f13.params.toList++Rows.shellRunsSpec.plain.varTypes Tryz.checked.prog++Tryz.f13.resultTypes.toList))=true:=by kernel_rfl
theorem joined13:joinedFacts Tryz.checked.prog 13 Tryz.f13 Rows.shellRunsSpec Rows.shellRunsRow=true:=(andT13 (andT13 (andT13 (andT13 (andT13 (andT13 (andT13 (andT13 (andT13 (andT13 (andT13 (andT13 (andT13 (andT13 (andT13 (andT13 (andT13 (andT13 (andT13 (andT13 (andT13 (andT13 (andT13 (andT13 (andT13 (andT13 (andT13 (andT13 (andT13 (andT13 (andT13 j13_0 j13_1) j13_2) j13_3) j13_4) j13_5) j13_6) j13_7) j13_8) j13_9) j13_10) j13_11) j13_12) j13_13) j13_14) j13_15) j13_16) j13_17) j13_18) j13_19) j13_20) j13_21) j13_22) j13_23) j13_24) j13_25) j13_26) j13_27) (by kernel_rfl)) j13_29) j13_30) j13_31)
theorem named13:Tryz.checked.prog.funcNamed Rows.shellRunsRow.func=some 13:=by kernel_rfl
theorem holds13:Rows.ShellRunsSaid:=
 OpenClaim.holds_of_wide 13 Tryz.f13 rfl rfl rfl rfl rfl rfl rfl ⟨rfl,rfl,rfl,rfl,rfl⟩ rfl rfl rfl rfl rfl named13 Tryz.func13 joined13
  (of_decide_eq_true (by kernel_rfl)) (by unfold Func.isWrapper;first|(rw [if_pos (by decide+kernel)];kernel_rfl)|(rw [if_neg (by decide+kernel)];exact ⟨rfl,rfl⟩))
  (fun os started H enc _=>lifted13 os started H enc)
end Go.Proofs.Kn
end
