/- MvT9b: texts in a row, joined by a program. -/
import Derived.Test.YtnmfblokfponlaaGreatDoorTie
import Derived.Test.YtnmfblokfponlaaGreatDoorCards
import Derived.Lay
import Derived.LaidOnce
import Derived.SevenTiedAt
import Derived.Test.YtnmfblokfponlaaGreatDoorQXMvT9a
set_option linter.all false
noncomputable section
namespace Go.Proofs.Kn
open Go Go.Ev Go.RowKit Go.ChangeShapes Go.WideShapes Go.ChangeAt
open YtnmfblokfponlaaGreatDoor
set_option maxRecDepth 100000
theorem zF {a b:Bool} (h:a=true) (k:b=true):(a && b)=true:=by rw [h,k];rfl
theorem j9_0:(Rows.shellHolesRow.wf (OpenSpec.ofChange Rows.shellHolesSpec))=true:=by kernel_rfl
theorem j9_1:(laidOutB Tryz.checked.prog)=true:=by kernel_rfl
theorem j9_2:(mapsRowed Tryz.checked.prog)=true:=by kernel_rfl
theorem j9_3:(Tryz.f9.params.all (Tryz.checked.prog.readableRec ·))=true:=by kernel_rfl
theorem j9_4:(namedTie Tryz.checked.prog Rows.shellHolesRow.named Rows.shellHolesSpec.vars)=true:=by kernel_rfl
theorem j9_5:((Rows.shellHolesRow.stops==[]))=true:=by kernel_rfl
theorem j9_6:((Tryz.checked.prog.stops==[]))=true:=by kernel_rfl
theorem j9_7:((Rows.shellHolesRow.knobs==[]))=true:=by kernel_rfl
theorem j9_8:((Tryz.checked.prog.stopKnobs==[]))=true:=by kernel_rfl
theorem j9_9:((Rows.shellHolesRow.inPlace==Tryz.checked.prog.inPlace 9))=true:=by kernel_rfl
theorem j9_10:((Rows.shellHolesRow.unfollowed==Tryz.checked.prog.unfollowed 9))=true:=by kernel_rfl
theorem j9_11:((Rows.shellHolesRow.recurses==Tryz.checked.prog.recurses 9))=true:=by kernel_rfl
theorem j9_12:((Rows.shellHolesRow.named==Tryz.checked.prog.varsNamed 9))=true:=by kernel_rfl
theorem j9_13:((Rows.shellHolesRow.maps==(Tryz.f9.params.toList++Rows.shellHolesSpec.plain.varTypes Tryz.checked.prog).any (Tryz.checked.prog.mapsRec ·)))=true:=by kernel_rfl
theorem j9_14:((Rows.shellHolesRow.ifaces==(Tryz.f9.params.toList++Rows.shellHolesSpec.plain.varTypes Tryz.checked.prog).any (Tryz.checked.prog.ifacesRec ·)))=true:=by kernel_rfl
theorem j9_15:((Rows.shellHolesRow.mapsOut==Tryz.checked.prog.mapsAmong Tryz.f9.resultTypes.toList))=true:=by kernel_rfl
theorem j9_16:((Rows.shellHolesRow.loops==(Tryz.f9.params.toList++Rows.shellHolesSpec.plain.varTypes Tryz.checked.prog).any (Tryz.checked.prog.loopsFrom ·)))=true:=by kernel_rfl
theorem j9_17:((Rows.shellHolesRow.wideKeys==(Tryz.f9.params.toList++Rows.shellHolesSpec.plain.varTypes Tryz.checked.prog++Tryz.f9.resultTypes.toList).any (Tryz.checked.prog.wideKeysFrom ·)))=true:=by kernel_rfl
theorem j9_18:(Rows.shellHolesSpec.vars.all (Tryz.checked.prog.varReadable ·))=true:=by kernel_rfl
theorem j9_19:(Tryz.f9.resultTypes.all (fun t=>Tryz.checked.prog.readableRec t && decide (t<Tryz.checked.prog.types.size)))=true:=by kernel_rfl
theorem j9_20:((Rows.shellHolesRow.ifacesOut==Tryz.f9.resultTypes.toList.any (Tryz.checked.prog.ifacesRec ·)))=true:=by kernel_rfl
theorem j9_21:((Rows.shellHolesRow.loopsOut==Tryz.f9.resultTypes.toList.any (Tryz.checked.prog.loopsFrom ·)))=true:=by kernel_rfl
theorem j9_22:((Rows.shellHolesRow.plainKeys==Tryz.checked.prog.plainKeys))=true:=by kernel_rfl
theorem j9_23:(Rows.shellHolesRow.shortTexts.isNone)=true:=by kernel_rfl
theorem j9_24:(Tryz.checked.prog.stopsHeard)=true:=by kernel_rfl
theorem j9_25:(Tryz.checked.prog.mayEnter)=true:=by kernel_rfl
theorem j9_26:((Rows.shellHolesRow.lifted==Tryz.checked.prog.liftsFinal))=true:=by kernel_rfl
theorem j9_27:((Tryz.checked.prog.make==some Rows.shellHolesRow.make))=true:=by kernel_rfl
theorem j9_29:((Rows.shellHolesRow.pinned==Rows.shellHolesRow.pinnedBy))=true:=by kernel_rfl
theorem j9_30:((Rows.shellHolesRow.veiled==(Tryz.f9.params.toList++Rows.shellHolesSpec.plain.varTypes Tryz.checked.prog++Tryz.f9.resultTypes.toList).any (Tryz.checked.prog.veiledRec ·)))=true:=by kernel_rfl
theorem j9_31:(Rows.shellHolesRow.veiledFits Tryz.checked.prog Tryz.f9.params.toList (Tryz.f9.params.toList++Rows.shellHolesSpec.plain.varTypes Tryz.checked.prog++Tryz.f9.resultTypes.toList))=true:=by kernel_rfl
theorem joined9:joinedFacts Tryz.checked.prog 9 Tryz.f9 Rows.shellHolesSpec Rows.shellHolesRow=true:=(zF (zF (zF (zF (zF (zF (zF (zF (zF (zF (zF (zF (zF (zF (zF (zF (zF (zF (zF (zF (zF (zF (zF (zF (zF (zF (zF (zF (zF (zF (zF j9_0 j9_1) j9_2) j9_3) j9_4) j9_5) j9_6) j9_7) j9_8) j9_9) j9_10) j9_11) j9_12) j9_13) j9_14) j9_15) j9_16) j9_17) j9_18) j9_19) j9_20) j9_21) j9_22) j9_23) j9_24) j9_25) j9_26) j9_27) (by kernel_rfl)) j9_29) j9_30) j9_31)
theorem named9:Tryz.checked.prog.funcNamed Rows.shellHolesRow.func=some 9:=by kernel_rfl
theorem holds9:Rows.ShellHolesSaid:=
 OpenClaim.holds_of_wide 9 Tryz.f9 rfl rfl rfl rfl rfl rfl rfl ⟨rfl,rfl,rfl,rfl,rfl⟩ rfl rfl rfl rfl rfl named9 Tryz.func9 joined9
  (of_decide_eq_true (by kernel_rfl)) (by unfold Func.isWrapper;first|(rw [if_pos (by decide+kernel)];kernel_rfl)|(rw [if_neg (by decide+kernel)];exact ⟨rfl,rfl⟩))
  (fun os started H enc _=>lifted9 os started H enc)
end Go.Proofs.Kn
end
