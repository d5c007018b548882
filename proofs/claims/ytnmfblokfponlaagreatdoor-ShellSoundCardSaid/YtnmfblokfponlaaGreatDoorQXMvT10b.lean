/- MvT10b: texts in a row, joined by a program. -/
import Derived.Test.YtnmfblokfponlaaGreatDoorTie
import Derived.Test.YtnmfblokfponlaaGreatDoorCards
import Derived.Lay
import Derived.LaidOnce
import Derived.SevenTiedAt
import Derived.Test.YtnmfblokfponlaaGreatDoorQXMvT10a
set_option linter.all false
noncomputable section
namespace Go.Proofs.Kn
open Go Go.Ev Go.RowKit Go.ChangeShapes Go.WideShapes Go.ChangeAt
open YtnmfblokfponlaaGreatDoor
set_option maxRecDepth 100000
theorem jT {a b:Bool} (h:a=true) (k:b=true):(a && b)=true:=by rw [h,k];rfl
theorem j10_0:(Rows.shellSoundRow.wf (OpenSpec.ofChange Rows.shellSoundSpec))=true:=by kernel_rfl
theorem j10_1:(laidOutB Tryz.checked.prog)=true:=by kernel_rfl
theorem j10_2:(mapsRowed Tryz.checked.prog)=true:=by kernel_rfl
theorem j10_3:(Tryz.f10.params.all (Tryz.checked.prog.readableRec ·))=true:=by kernel_rfl
theorem j10_4:(namedTie Tryz.checked.prog Rows.shellSoundRow.named Rows.shellSoundSpec.vars)=true:=by kernel_rfl
theorem j10_5:((Rows.shellSoundRow.stops==[]))=true:=by kernel_rfl
theorem j10_6:((Tryz.checked.prog.stops==[]))=true:=by kernel_rfl
theorem j10_7:((Rows.shellSoundRow.knobs==[]))=true:=by kernel_rfl
theorem j10_8:((Tryz.checked.prog.stopKnobs==[]))=true:=by kernel_rfl
theorem j10_9:((Rows.shellSoundRow.inPlace==Tryz.checked.prog.inPlace 10))=true:=by kernel_rfl
theorem j10_10:((Rows.shellSoundRow.unfollowed==Tryz.checked.prog.unfollowed 10))=true:=by kernel_rfl
theorem j10_11:((Rows.shellSoundRow.recurses==Tryz.checked.prog.recurses 10))=true:=by kernel_rfl
theorem j10_12:((Rows.shellSoundRow.named==Tryz.checked.prog.varsNamed 10))=true:=by kernel_rfl
theorem j10_13:((Rows.shellSoundRow.maps==(Tryz.f10.params.toList++Rows.shellSoundSpec.plain.varTypes Tryz.checked.prog).any (Tryz.checked.prog.mapsRec ·)))=true:=by kernel_rfl
theorem j10_14:((Rows.shellSoundRow.ifaces==(Tryz.f10.params.toList++Rows.shellSoundSpec.plain.varTypes Tryz.checked.prog).any (Tryz.checked.prog.ifacesRec ·)))=true:=by kernel_rfl
theorem j10_15:((Rows.shellSoundRow.mapsOut==Tryz.checked.prog.mapsAmong Tryz.f10.resultTypes.toList))=true:=by kernel_rfl
theorem j10_16:((Rows.shellSoundRow.loops==(Tryz.f10.params.toList++Rows.shellSoundSpec.plain.varTypes Tryz.checked.prog).any (Tryz.checked.prog.loopsFrom ·)))=true:=by kernel_rfl
theorem j10_17:((Rows.shellSoundRow.wideKeys==(Tryz.f10.params.toList++Rows.shellSoundSpec.plain.varTypes Tryz.checked.prog++Tryz.f10.resultTypes.toList).any (Tryz.checked.prog.wideKeysFrom ·)))=true:=by kernel_rfl
theorem j10_18:(Rows.shellSoundSpec.vars.all (Tryz.checked.prog.varReadable ·))=true:=by kernel_rfl
theorem j10_19:(Tryz.f10.resultTypes.all (fun t=>Tryz.checked.prog.readableRec t && decide (t<Tryz.checked.prog.types.size)))=true:=by kernel_rfl
theorem j10_20:((Rows.shellSoundRow.ifacesOut==Tryz.f10.resultTypes.toList.any (Tryz.checked.prog.ifacesRec ·)))=true:=by kernel_rfl
theorem j10_21:((Rows.shellSoundRow.loopsOut==Tryz.f10.resultTypes.toList.any (Tryz.checked.prog.loopsFrom ·)))=true:=by kernel_rfl
theorem j10_22:((Rows.shellSoundRow.plainKeys==Tryz.checked.prog.plainKeys))=true:=by kernel_rfl
theorem j10_23:(Rows.shellSoundRow.shortTexts.isNone)=true:=by kernel_rfl
theorem j10_24:(Tryz.checked.prog.stopsHeard)=true:=by kernel_rfl
theorem j10_25:(Tryz.checked.prog.mayEnter)=true:=by kernel_rfl
theorem j10_26:((Rows.shellSoundRow.lifted==Tryz.checked.prog.liftsFinal))=true:=by kernel_rfl
theorem j10_27:((Tryz.checked.prog.make==some Rows.shellSoundRow.make))=true:=by kernel_rfl
theorem j10_29:((Rows.shellSoundRow.pinned==Rows.shellSoundRow.pinnedBy))=true:=by kernel_rfl
theorem j10_30:((Rows.shellSoundRow.veiled==(Tryz.f10.params.toList++Rows.shellSoundSpec.plain.varTypes Tryz.checked.prog++Tryz.f10.resultTypes.toList).any (Tryz.checked.prog.veiledRec ·)))=true:=by kernel_rfl
theorem j10_31:(Rows.shellSoundRow.veiledFits Tryz.checked.prog Tryz.f10.params.toList (Tryz.f10.params.toList++Rows.shellSoundSpec.plain.varTypes Tryz.checked.prog++Tryz.f10.resultTypes.toList))=true:=by kernel_rfl
theorem joined10:joinedFacts Tryz.checked.prog 10 Tryz.f10 Rows.shellSoundSpec Rows.shellSoundRow=true:=(jT (jT (jT (jT (jT (jT (jT (jT (jT (jT (jT (jT (jT (jT (jT (jT (jT (jT (jT (jT (jT (jT (jT (jT (jT (jT (jT (jT (jT (jT (jT j10_0 j10_1) j10_2) j10_3) j10_4) j10_5) j10_6) j10_7) j10_8) j10_9) j10_10) j10_11) j10_12) j10_13) j10_14) j10_15) j10_16) j10_17) j10_18) j10_19) j10_20) j10_21) j10_22) j10_23) j10_24) j10_25) j10_26) j10_27) (by kernel_rfl)) j10_29) j10_30) j10_31)
theorem named10:Tryz.checked.prog.funcNamed Rows.shellSoundRow.func=some 10:=by kernel_rfl
theorem holds10:Rows.ShellSoundSaid:=
 OpenClaim.holds_of_wide 10 Tryz.f10 rfl rfl rfl rfl rfl rfl rfl ⟨rfl,rfl,rfl,rfl,rfl⟩ rfl rfl rfl rfl rfl named10 Tryz.func10 joined10
  (of_decide_eq_true (by kernel_rfl)) (by unfold Func.isWrapper;first|(rw [if_pos (by decide+kernel)];kernel_rfl)|(rw [if_neg (by decide+kernel)];exact ⟨rfl,rfl⟩))
  (fun os started H enc _=>lifted10 os started H enc)
end Go.Proofs.Kn
end
