/- Parts of the proof, joined by a program. -/
import Derived.Test.YtafhmammmgbdgaaGreatDoorTie
import Derived.Test.YtafhmammmgbdgaaGreatDoorCards
import Derived.Lay
import Derived.LaidOnce
import Derived.SevenTiedAt
import Derived.Test.YtafhmammmgbdgaaGreatDoorQXMvT5a
set_option linter.all false
noncomputable section
namespace Go.Proofs.Kn
open Go Go.Ev Go.RowKit Go.ChangeShapes Go.WideShapes Go.ChangeAt
open YtafhmammmgbdgaaGreatDoor
set_option maxRecDepth 100000
theorem andT5 {a b:Bool} (h:a=true) (k:b=true):(a && b)=true:=by rw [h,k];rfl
theorem j5_0:(Rows.foremanParsesRow.wf (OpenSpec.ofChange Rows.foremanParsesSpec))=true:=by kernel_rfl
theorem j5_1:(laidOutB Tryz.checked.prog)=true:=by kernel_rfl
theorem j5_2:(mapsRowed Tryz.checked.prog)=true:=by kernel_rfl
theorem j5_3:(Tryz.f5.params.all (Tryz.checked.prog.readableRec ·))=true:=by kernel_rfl
theorem j5_4:(namedTie Tryz.checked.prog Rows.foremanParsesRow.named Rows.foremanParsesSpec.vars)=true:=by kernel_rfl
theorem j5_5:((Rows.foremanParsesRow.stops==[]))=true:=by kernel_rfl
theorem j5_6:((Tryz.checked.prog.stops==[]))=true:=by kernel_rfl
theorem j5_7:((Rows.foremanParsesRow.knobs==[]))=true:=by kernel_rfl
theorem j5_8:((Tryz.checked.prog.stopKnobs==[]))=true:=by kernel_rfl
theorem j5_9:((Rows.foremanParsesRow.inPlace==Tryz.checked.prog.inPlace 5))=true:=by kernel_rfl
theorem j5_10:((Rows.foremanParsesRow.unfollowed==Tryz.checked.prog.unfollowed 5))=true:=by kernel_rfl
theorem j5_11:((Rows.foremanParsesRow.recurses==Tryz.checked.prog.recurses 5))=true:=by kernel_rfl
theorem j5_12:((Rows.foremanParsesRow.named==Tryz.checked.prog.varsNamed 5))=true:=by kernel_rfl
theorem j5_13:((Rows.foremanParsesRow.maps==(Tryz.f5.params.toList++Rows.foremanParsesSpec.plain.varTypes Tryz.checked.prog).any (Tryz.checked.prog.mapsRec ·)))=true:=by kernel_rfl
theorem j5_14:((Rows.foremanParsesRow.ifaces==(Tryz.f5.params.toList++Rows.foremanParsesSpec.plain.varTypes Tryz.checked.prog).any (Tryz.checked.prog.ifacesRec ·)))=true:=by kernel_rfl
theorem j5_15:((Rows.foremanParsesRow.mapsOut==Tryz.checked.prog.mapsAmong Tryz.f5.resultTypes.toList))=true:=by kernel_rfl
theorem j5_16:((Rows.foremanParsesRow.loops==(Tryz.f5.params.toList++Rows.foremanParsesSpec.plain.varTypes Tryz.checked.prog).any (Tryz.checked.prog.loopsFrom ·)))=true:=by kernel_rfl
theorem j5_17:((Rows.foremanParsesRow.wideKeys==(Tryz.f5.params.toList++Rows.foremanParsesSpec.plain.varTypes Tryz.checked.prog++Tryz.f5.resultTypes.toList).any (Tryz.checked.prog.wideKeysFrom ·)))=true:=by kernel_rfl
theorem j5_18:(Rows.foremanParsesSpec.vars.all (Tryz.checked.prog.varReadable ·))=true:=by kernel_rfl
theorem j5_19:(Tryz.f5.resultTypes.all (fun t=>Tryz.checked.prog.readableRec t && decide (t<Tryz.checked.prog.types.size)))=true:=by kernel_rfl
theorem j5_20:((Rows.foremanParsesRow.ifacesOut==Tryz.f5.resultTypes.toList.any (Tryz.checked.prog.ifacesRec ·)))=true:=by kernel_rfl
theorem j5_21:((Rows.foremanParsesRow.loopsOut==Tryz.f5.resultTypes.toList.any (Tryz.checked.prog.loopsFrom ·)))=true:=by kernel_rfl
theorem j5_22:((Rows.foremanParsesRow.plainKeys==Tryz.checked.prog.plainKeys))=true:=by kernel_rfl
theorem j5_23:(Rows.foremanParsesRow.shortTexts.isNone)=true:=by kernel_rfl
theorem j5_24:(Tryz.checked.prog.stopsHeard)=true:=by kernel_rfl
theorem j5_25:(Tryz.checked.prog.mayEnter)=true:=by kernel_rfl
theorem j5_26:((Rows.foremanParsesRow.lifted==Tryz.checked.prog.liftsFinal))=true:=by kernel_rfl
theorem j5_27:((Tryz.checked.prog.make==some Rows.foremanParsesRow.make))=true:=by kernel_rfl
theorem j5_29:((Rows.foremanParsesRow.pinned==Rows.foremanParsesRow.pinnedBy))=true:=by kernel_rfl
theorem j5_30:((Rows.foremanParsesRow.veiled==(Tryz.f5.params.toList++Rows.foremanParsesSpec.plain.varTypes Tryz.checked.prog++Tryz.f5.resultTypes.toList).any (Tryz.checked.prog.veiledRec ·)))=true:=by kernel_rfl
theorem j5_31:(Rows.foremanParsesRow.veiledFits Tryz.checked.prog Tryz.f5.params.toList (Tryz.f5.params.toList++Rows.foremanParsesSpec.plain.varTypes Tryz.checked.prog++Tryz.f5.resultTypes.toList))=true:=by kernel_rfl
theorem joined5:joinedFacts Tryz.checked.prog 5 Tryz.f5 Rows.foremanParsesSpec Rows.foremanParsesRow=true:=(andT5 (andT5 (andT5 (andT5 (andT5 (andT5 (andT5 (andT5 (andT5 (andT5 (andT5 (andT5 (andT5 (andT5 (andT5 (andT5 (andT5 (andT5 (andT5 (andT5 (andT5 (andT5 (andT5 (andT5 (andT5 (andT5 (andT5 (andT5 (andT5 (andT5 (andT5 j5_0 j5_1) j5_2) j5_3) j5_4) j5_5) j5_6) j5_7) j5_8) j5_9) j5_10) j5_11) j5_12) j5_13) j5_14) j5_15) j5_16) j5_17) j5_18) j5_19) j5_20) j5_21) j5_22) j5_23) j5_24) j5_25) j5_26) j5_27) (by kernel_rfl)) j5_29) j5_30) j5_31)
theorem named5:Tryz.checked.prog.funcNamed Rows.foremanParsesRow.func=some 5:=by kernel_rfl
theorem holds5:Rows.ForemanParsesSaid:=
 OpenClaim.holds_of_wide 5 Tryz.f5 rfl rfl rfl rfl rfl rfl rfl ⟨rfl,rfl,rfl,rfl,rfl⟩ rfl rfl rfl rfl rfl named5 Tryz.func5 joined5
  (of_decide_eq_true (by kernel_rfl)) (by unfold Func.isWrapper;first|(rw [if_pos (by decide+kernel)];kernel_rfl)|(rw [if_neg (by decide+kernel)];exact ⟨rfl,rfl⟩))
  (fun os started H enc _=>lifted5 os started H enc)
end Go.Proofs.Kn
end
