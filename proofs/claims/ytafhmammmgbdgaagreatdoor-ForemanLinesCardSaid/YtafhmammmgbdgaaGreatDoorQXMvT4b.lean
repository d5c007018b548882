/- Parts of the proof, joined by a program. -/
import Derived.Test.YtafhmammmgbdgaaGreatDoorTie
import Derived.Test.YtafhmammmgbdgaaGreatDoorCards
import Derived.Lay
import Derived.LaidOnce
import Derived.SevenTiedAt
import Derived.Test.YtafhmammmgbdgaaGreatDoorQXMvT4a
set_option linter.all false
noncomputable section
namespace Go.Proofs.Kn
open Go Go.Ev Go.RowKit Go.ChangeShapes Go.WideShapes Go.ChangeAt
open YtafhmammmgbdgaaGreatDoor
set_option maxRecDepth 100000
theorem andT4 {a b:Bool} (h:a=true) (k:b=true):(a && b)=true:=by rw [h,k];rfl
theorem j4_0:(Rows.foremanLinesRow.wf (OpenSpec.ofChange Rows.foremanLinesSpec))=true:=by kernel_rfl
theorem j4_1:(laidOutB Tryz.checked.prog)=true:=by kernel_rfl
theorem j4_2:(mapsRowed Tryz.checked.prog)=true:=by kernel_rfl
theorem j4_3:(Tryz.f4.params.all (Tryz.checked.prog.readableRec ·))=true:=by kernel_rfl
theorem j4_4:(namedTie Tryz.checked.prog Rows.foremanLinesRow.named Rows.foremanLinesSpec.vars)=true:=by kernel_rfl
theorem j4_5:((Rows.foremanLinesRow.stops==[]))=true:=by kernel_rfl
theorem j4_6:((Tryz.checked.prog.stops==[]))=true:=by kernel_rfl
theorem j4_7:((Rows.foremanLinesRow.knobs==[]))=true:=by kernel_rfl
theorem j4_8:((Tryz.checked.prog.stopKnobs==[]))=true:=by kernel_rfl
theorem j4_9:((Rows.foremanLinesRow.inPlace==Tryz.checked.prog.inPlace 4))=true:=by kernel_rfl
theorem j4_10:((Rows.foremanLinesRow.unfollowed==Tryz.checked.prog.unfollowed 4))=true:=by kernel_rfl
theorem j4_11:((Rows.foremanLinesRow.recurses==Tryz.checked.prog.recurses 4))=true:=by kernel_rfl
theorem j4_12:((Rows.foremanLinesRow.named==Tryz.checked.prog.varsNamed 4))=true:=by kernel_rfl
theorem j4_13:((Rows.foremanLinesRow.maps==(Tryz.f4.params.toList++Rows.foremanLinesSpec.plain.varTypes Tryz.checked.prog).any (Tryz.checked.prog.mapsRec ·)))=true:=by kernel_rfl
theorem j4_14:((Rows.foremanLinesRow.ifaces==(Tryz.f4.params.toList++Rows.foremanLinesSpec.plain.varTypes Tryz.checked.prog).any (Tryz.checked.prog.ifacesRec ·)))=true:=by kernel_rfl
theorem j4_15:((Rows.foremanLinesRow.mapsOut==Tryz.checked.prog.mapsAmong Tryz.f4.resultTypes.toList))=true:=by kernel_rfl
theorem j4_16:((Rows.foremanLinesRow.loops==(Tryz.f4.params.toList++Rows.foremanLinesSpec.plain.varTypes Tryz.checked.prog).any (Tryz.checked.prog.loopsFrom ·)))=true:=by kernel_rfl
theorem j4_17:((Rows.foremanLinesRow.wideKeys==(Tryz.f4.params.toList++Rows.foremanLinesSpec.plain.varTypes Tryz.checked.prog++Tryz.f4.resultTypes.toList).any (Tryz.checked.prog.wideKeysFrom ·)))=true:=by kernel_rfl
theorem j4_18:(Rows.foremanLinesSpec.vars.all (Tryz.checked.prog.varReadable ·))=true:=by kernel_rfl
theorem j4_19:(Tryz.f4.resultTypes.all (fun t=>Tryz.checked.prog.readableRec t && decide (t<Tryz.checked.prog.types.size)))=true:=by kernel_rfl
theorem j4_20:((Rows.foremanLinesRow.ifacesOut==Tryz.f4.resultTypes.toList.any (Tryz.checked.prog.ifacesRec ·)))=true:=by kernel_rfl
theorem j4_21:((Rows.foremanLinesRow.loopsOut==Tryz.f4.resultTypes.toList.any (Tryz.checked.prog.loopsFrom ·)))=true:=by kernel_rfl
theorem j4_22:((Rows.foremanLinesRow.plainKeys==Tryz.checked.prog.plainKeys))=true:=by kernel_rfl
theorem j4_23:(Rows.foremanLinesRow.shortTexts.isNone)=true:=by kernel_rfl
theorem j4_24:(Tryz.checked.prog.stopsHeard)=true:=by kernel_rfl
theorem j4_25:(Tryz.checked.prog.mayEnter)=true:=by kernel_rfl
theorem j4_26:((Rows.foremanLinesRow.lifted==Tryz.checked.prog.liftsFinal))=true:=by kernel_rfl
theorem j4_27:((Tryz.checked.prog.make==some Rows.foremanLinesRow.make))=true:=by kernel_rfl
theorem j4_29:((Rows.foremanLinesRow.pinned==Rows.foremanLinesRow.pinnedBy))=true:=by kernel_rfl
theorem j4_30:((Rows.foremanLinesRow.veiled==(Tryz.f4.params.toList++Rows.foremanLinesSpec.plain.varTypes Tryz.checked.prog++Tryz.f4.resultTypes.toList).any (Tryz.checked.prog.veiledRec ·)))=true:=by kernel_rfl
theorem j4_31:(Rows.foremanLinesRow.veiledFits Tryz.checked.prog Tryz.f4.params.toList (Tryz.f4.params.toList++Rows.foremanLinesSpec.plain.varTypes Tryz.checked.prog++Tryz.f4.resultTypes.toList))=true:=by kernel_rfl
theorem joined4:joinedFacts Tryz.checked.prog 4 Tryz.f4 Rows.foremanLinesSpec Rows.foremanLinesRow=true:=(andT4 (andT4 (andT4 (andT4 (andT4 (andT4 (andT4 (andT4 (andT4 (andT4 (andT4 (andT4 (andT4 (andT4 (andT4 (andT4 (andT4 (andT4 (andT4 (andT4 (andT4 (andT4 (andT4 (andT4 (andT4 (andT4 (andT4 (andT4 (andT4 (andT4 (andT4 j4_0 j4_1) j4_2) j4_3) j4_4) j4_5) j4_6) j4_7) j4_8) j4_9) j4_10) j4_11) j4_12) j4_13) j4_14) j4_15) j4_16) j4_17) j4_18) j4_19) j4_20) j4_21) j4_22) j4_23) j4_24) j4_25) j4_26) j4_27) (by kernel_rfl)) j4_29) j4_30) j4_31)
theorem named4:Tryz.checked.prog.funcNamed Rows.foremanLinesRow.func=some 4:=by kernel_rfl
theorem holds4:Rows.ForemanLinesSaid:=
 OpenClaim.holds_of_wide 4 Tryz.f4 rfl rfl rfl rfl rfl rfl rfl ⟨rfl,rfl,rfl,rfl,rfl⟩ rfl rfl rfl rfl rfl named4 Tryz.func4 joined4
  (of_decide_eq_true (by kernel_rfl)) (by unfold Func.isWrapper;first|(rw [if_pos (by decide+kernel)];kernel_rfl)|(rw [if_neg (by decide+kernel)];exact ⟨rfl,rfl⟩))
  (fun os started H enc _=>lifted4 os started H enc)
end Go.Proofs.Kn
end
