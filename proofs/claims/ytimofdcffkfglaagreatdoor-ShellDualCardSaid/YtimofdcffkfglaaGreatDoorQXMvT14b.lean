/- Parts. -/
import Derived.Test.YtimofdcffkfglaaGreatDoorTie
import Derived.Test.YtimofdcffkfglaaGreatDoorCards
import Derived.Lay
import Derived.LaidOnce
import Derived.SevenTiedAt
import Derived.Test.YtimofdcffkfglaaGreatDoorQXMvT14a
set_option linter.all false
noncomputable section
namespace Go.Proofs.Kn
open Go Go.Ev Go.RowKit Go.ChangeShapes Go.WideShapes Go.ChangeAt
open YtimofdcffkfglaaGreatDoor
set_option maxRecDepth 100000
theorem jW {a b:Bool} (h:a=true) (k:b=true):(a && b)=true:=by rw [h,k];rfl
theorem j14_0:(Rows.shellDualRow.wf (OpenSpec.ofChange Rows.shellDualSpec))=true:=by kernel_rfl
theorem j14_1:(laidOutB Tryz.checked.prog)=true:=by kernel_rfl
theorem j14_2:(mapsRowed Tryz.checked.prog)=true:=by kernel_rfl
theorem j14_3:(Tryz.f14.params.all (Tryz.checked.prog.readableRec ·))=true:=by kernel_rfl
theorem j14_4:(namedTie Tryz.checked.prog Rows.shellDualRow.named Rows.shellDualSpec.vars)=true:=by kernel_rfl
theorem j14_5:((Rows.shellDualRow.stops==[]))=true:=by kernel_rfl
theorem j14_6:((Tryz.checked.prog.stops==[]))=true:=by kernel_rfl
theorem j14_7:((Rows.shellDualRow.knobs==[]))=true:=by kernel_rfl
theorem j14_8:((Tryz.checked.prog.stopKnobs==[]))=true:=by kernel_rfl
theorem j14_9:((Rows.shellDualRow.inPlace==Tryz.checked.prog.inPlace 14))=true:=by kernel_rfl
theorem j14_10:((Rows.shellDualRow.unfollowed==Tryz.checked.prog.unfollowed 14))=true:=by kernel_rfl
theorem j14_11:((Rows.shellDualRow.recurses==Tryz.checked.prog.recurses 14))=true:=by kernel_rfl
theorem j14_12:((Rows.shellDualRow.named==Tryz.checked.prog.varsNamed 14))=true:=by kernel_rfl
theorem j14_13:((Rows.shellDualRow.maps==(Tryz.f14.params.toList++Rows.shellDualSpec.plain.varTypes Tryz.checked.prog).any (Tryz.checked.prog.mapsRec ·)))=true:=by kernel_rfl
theorem j14_14:((Rows.shellDualRow.ifaces==(Tryz.f14.params.toList++Rows.shellDualSpec.plain.varTypes Tryz.checked.prog).any (Tryz.checked.prog.ifacesRec ·)))=true:=by kernel_rfl
theorem j14_15:((Rows.shellDualRow.mapsOut==Tryz.checked.prog.mapsAmong Tryz.f14.resultTypes.toList))=true:=by kernel_rfl
theorem j14_16:((Rows.shellDualRow.loops==(Tryz.f14.params.toList++Rows.shellDualSpec.plain.varTypes Tryz.checked.prog).any (Tryz.checked.prog.loopsFrom ·)))=true:=by kernel_rfl
theorem j14_17:((Rows.shellDualRow.wideKeys==(Tryz.f14.params.toList++Rows.shellDualSpec.plain.varTypes Tryz.checked.prog++Tryz.f14.resultTypes.toList).any (Tryz.checked.prog.wideKeysFrom ·)))=true:=by kernel_rfl
theorem j14_18:(Rows.shellDualSpec.vars.all (Tryz.checked.prog.varReadable ·))=true:=by kernel_rfl
theorem j14_19:(Tryz.f14.resultTypes.all (fun t=>Tryz.checked.prog.readableRec t && decide (t<Tryz.checked.prog.types.size)))=true:=by kernel_rfl
theorem j14_20:((Rows.shellDualRow.ifacesOut==Tryz.f14.resultTypes.toList.any (Tryz.checked.prog.ifacesRec ·)))=true:=by kernel_rfl
theorem j14_21:((Rows.shellDualRow.loopsOut==Tryz.f14.resultTypes.toList.any (Tryz.checked.prog.loopsFrom ·)))=true:=by kernel_rfl
theorem j14_22:((Rows.shellDualRow.plainKeys==Tryz.checked.prog.plainKeys))=true:=by kernel_rfl
theorem j14_23:(Rows.shellDualRow.shortTexts.isNone)=true:=by kernel_rfl
theorem j14_24:(Tryz.checked.prog.stopsHeard)=true:=by kernel_rfl
theorem j14_25:(Tryz.checked.prog.mayEnter)=true:=by kernel_rfl
theorem j14_26:((Rows.shellDualRow.lifted==Tryz.checked.prog.liftsFinal))=true:=by kernel_rfl
theorem j14_27:((Tryz.checked.prog.make==some Rows.shellDualRow.make))=true:=by kernel_rfl
theorem j14_29:((Rows.shellDualRow.pinned==Rows.shellDualRow.pinnedBy))=true:=by kernel_rfl
theorem j14_30:((Rows.shellDualRow.veiled==(Tryz.f14.params.toList++Rows.shellDualSpec.plain.varTypes Tryz.checked.prog++Tryz.f14.resultTypes.toList).any (Tryz.checked.prog.veiledRec ·)))=true:=by kernel_rfl
theorem j14_31:(Rows.shellDualRow.veiledFits Tryz.checked.prog Tryz.f14.params.toList (Tryz.f14.params.toList++Rows.shellDualSpec.plain.varTypes Tryz.checked.prog++Tryz.f14.resultTypes.toList))=true:=by kernel_rfl
theorem joined14:joinedFacts Tryz.checked.prog 14 Tryz.f14 Rows.shellDualSpec Rows.shellDualRow=true:=(jW (jW (jW (jW (jW (jW (jW (jW (jW (jW (jW (jW (jW (jW (jW (jW (jW (jW (jW (jW (jW (jW (jW (jW (jW (jW (jW (jW (jW (jW (jW j14_0 j14_1) j14_2) j14_3) j14_4) j14_5) j14_6) j14_7) j14_8) j14_9) j14_10) j14_11) j14_12) j14_13) j14_14) j14_15) j14_16) j14_17) j14_18) j14_19) j14_20) j14_21) j14_22) j14_23) j14_24) j14_25) j14_26) j14_27) (by kernel_rfl)) j14_29) j14_30) j14_31)
theorem named14:Tryz.checked.prog.funcNamed Rows.shellDualRow.func=some 14:=by kernel_rfl
theorem holds14:Rows.ShellDualSaid:=
 OpenClaim.holds_of_wide 14 Tryz.f14 rfl rfl rfl rfl rfl rfl rfl ⟨rfl,rfl,rfl,rfl,rfl⟩ rfl rfl rfl rfl rfl named14 Tryz.func14 joined14
  (of_decide_eq_true (by kernel_rfl)) (by unfold Func.isWrapper;first|(rw [if_pos (by decide+kernel)];kernel_rfl)|(rw [if_neg (by decide+kernel)];exact ⟨rfl,rfl⟩))
  (fun os started H enc _=>lifted14 os started H enc)
end Go.Proofs.Kn
end
