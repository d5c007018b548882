/- MvT6b: texts in a row, joined by a program. -/
import Derived.Test.YtnmfblokfponlaaGreatDoorTie
import Derived.Test.YtnmfblokfponlaaGreatDoorCards
import Derived.Lay
import Derived.LaidOnce
import Derived.SevenTiedAt
import Derived.Test.YtnmfblokfponlaaGreatDoorQXMvT6a
set_option linter.all false
noncomputable section
namespace Go.Proofs.Kn
open Go Go.Ev Go.RowKit Go.ChangeShapes Go.WideShapes Go.ChangeAt
open YtnmfblokfponlaaGreatDoor
set_option maxRecDepth 100000
theorem zI {a b:Bool} (h:a=true) (k:b=true):(a && b)=true:=by rw [h,k];rfl
theorem j6_0:(Rows.shellTurnedRow.wf (OpenSpec.ofChange Rows.shellTurnedSpec))=true:=by kernel_rfl
theorem j6_1:(laidOutB Tryz.checked.prog)=true:=by kernel_rfl
theorem j6_2:(mapsRowed Tryz.checked.prog)=true:=by kernel_rfl
theorem j6_3:(Tryz.f6.params.all (Tryz.checked.prog.readableRec ·))=true:=by kernel_rfl
theorem j6_4:(namedTie Tryz.checked.prog Rows.shellTurnedRow.named Rows.shellTurnedSpec.vars)=true:=by kernel_rfl
theorem j6_5:((Rows.shellTurnedRow.stops==[]))=true:=by kernel_rfl
theorem j6_6:((Tryz.checked.prog.stops==[]))=true:=by kernel_rfl
theorem j6_7:((Rows.shellTurnedRow.knobs==[]))=true:=by kernel_rfl
theorem j6_8:((Tryz.checked.prog.stopKnobs==[]))=true:=by kernel_rfl
theorem j6_9:((Rows.shellTurnedRow.inPlace==Tryz.checked.prog.inPlace 6))=true:=by kernel_rfl
theorem j6_10:((Rows.shellTurnedRow.unfollowed==Tryz.checked.prog.unfollowed 6))=true:=by kernel_rfl
theorem j6_11:((Rows.shellTurnedRow.recurses==Tryz.checked.prog.recurses 6))=true:=by kernel_rfl
theorem j6_12:((Rows.shellTurnedRow.named==Tryz.checked.prog.varsNamed 6))=true:=by kernel_rfl
theorem j6_13:((Rows.shellTurnedRow.maps==(Tryz.f6.params.toList++Rows.shellTurnedSpec.plain.varTypes Tryz.checked.prog).any (Tryz.checked.prog.mapsRec ·)))=true:=by kernel_rfl
theorem j6_14:((Rows.shellTurnedRow.ifaces==(Tryz.f6.params.toList++Rows.shellTurnedSpec.plain.varTypes Tryz.checked.prog).any (Tryz.checked.prog.ifacesRec ·)))=true:=by kernel_rfl
theorem j6_15:((Rows.shellTurnedRow.mapsOut==Tryz.checked.prog.mapsAmong Tryz.f6.resultTypes.toList))=true:=by kernel_rfl
theorem j6_16:((Rows.shellTurnedRow.loops==(Tryz.f6.params.toList++Rows.shellTurnedSpec.plain.varTypes Tryz.checked.prog).any (Tryz.checked.prog.loopsFrom ·)))=true:=by kernel_rfl
theorem j6_17:((Rows.shellTurnedRow.wideKeys==(Tryz.f6.params.toList++Rows.shellTurnedSpec.plain.varTypes Tryz.checked.prog++Tryz.f6.resultTypes.toList).any (Tryz.checked.prog.wideKeysFrom ·)))=true:=by kernel_rfl
theorem j6_18:(Rows.shellTurnedSpec.vars.all (Tryz.checked.prog.varReadable ·))=true:=by kernel_rfl
theorem j6_19:(Tryz.f6.resultTypes.all (fun t=>Tryz.checked.prog.readableRec t && decide (t<Tryz.checked.prog.types.size)))=true:=by kernel_rfl
theorem j6_20:((Rows.shellTurnedRow.ifacesOut==Tryz.f6.resultTypes.toList.any (Tryz.checked.prog.ifacesRec ·)))=true:=by kernel_rfl
theorem j6_21:((Rows.shellTurnedRow.loopsOut==Tryz.f6.resultTypes.toList.any (Tryz.checked.prog.loopsFrom ·)))=true:=by kernel_rfl
theorem j6_22:((Rows.shellTurnedRow.plainKeys==Tryz.checked.prog.plainKeys))=true:=by kernel_rfl
theorem j6_23:(Rows.shellTurnedRow.shortTexts.isNone)=true:=by kernel_rfl
theorem j6_24:(Tryz.checked.prog.stopsHeard)=true:=by kernel_rfl
theorem j6_25:(Tryz.checked.prog.mayEnter)=true:=by kernel_rfl
theorem j6_26:((Rows.shellTurnedRow.lifted==Tryz.checked.prog.liftsFinal))=true:=by kernel_rfl
theorem j6_27:((Tryz.checked.prog.make==some Rows.shellTurnedRow.make))=true:=by kernel_rfl
theorem j6_29:((Rows.shellTurnedRow.pinned==Rows.shellTurnedRow.pinnedBy))=true:=by kernel_rfl
theorem j6_30:((Rows.shellTurnedRow.veiled==(Tryz.f6.params.toList++Rows.shellTurnedSpec.plain.varTypes Tryz.checked.prog++Tryz.f6.resultTypes.toList).any (Tryz.checked.prog.veiledRec ·)))=true:=by kernel_rfl
theorem j6_31:(Rows.shellTurnedRow.veiledFits Tryz.checked.prog Tryz.f6.params.toList (Tryz.f6.params.toList++Rows.shellTurnedSpec.plain.varTypes Tryz.checked.prog++Tryz.f6.resultTypes.toList))=true:=by kernel_rfl
theorem joined6:joinedFacts Tryz.checked.prog 6 Tryz.f6 Rows.shellTurnedSpec Rows.shellTurnedRow=true:=(zI (zI (zI (zI (zI (zI (zI (zI (zI (zI (zI (zI (zI (zI (zI (zI (zI (zI (zI (zI (zI (zI (zI (zI (zI (zI (zI (zI (zI (zI (zI j6_0 j6_1) j6_2) j6_3) j6_4) j6_5) j6_6) j6_7) j6_8) j6_9) j6_10) j6_11) j6_12) j6_13) j6_14) j6_15) j6_16) j6_17) j6_18) j6_19) j6_20) j6_21) j6_22) j6_23) j6_24) j6_25) j6_26) j6_27) (by kernel_rfl)) j6_29) j6_30) j6_31)
theorem named6:Tryz.checked.prog.funcNamed Rows.shellTurnedRow.func=some 6:=by kernel_rfl
theorem holds6:Rows.ShellTurnedSaid:=
 OpenClaim.holds_of_wide 6 Tryz.f6 rfl rfl rfl rfl rfl rfl rfl ⟨rfl,rfl,rfl,rfl,rfl⟩ rfl rfl rfl rfl rfl named6 Tryz.func6 joined6
  (of_decide_eq_true (by kernel_rfl)) (by unfold Func.isWrapper;first|(rw [if_pos (by decide+kernel)];kernel_rfl)|(rw [if_neg (by decide+kernel)];exact ⟨rfl,rfl⟩))
  (fun os started H enc _=>lifted6 os started H enc)
end Go.Proofs.Kn
end
