/- Parts of the proof, joined by a program. -/
import Derived.Test.YtafhmammmgbdgaaGreatDoorTie
import Derived.Test.YtafhmammmgbdgaaGreatDoorCards
import Derived.Lay
import Derived.LaidOnce
import Derived.SevenTiedAt
import Derived.Test.YtafhmammmgbdgaaGreatDoorQXMvT3a
set_option linter.all false
noncomputable section
namespace Go.Proofs.Kn
open Go Go.Ev Go.RowKit Go.ChangeShapes Go.WideShapes Go.ChangeAt
open YtafhmammmgbdgaaGreatDoor
set_option maxRecDepth 100000
theorem andT3 {a b : Bool} (h : a = true) (k : b = true) : (a && b) = true := by rw [h, k]; rfl
theorem j3_0 : (Rows.foremanNilRow.wf (OpenSpec.ofChange Rows.foremanNilSpec)) = true := by kernel_rfl
theorem j3_1 : (laidOutB Tryz.checked.prog) = true := by kernel_rfl
theorem j3_2 : (mapsRowed Tryz.checked.prog) = true := by kernel_rfl
theorem j3_3 : (Tryz.f3.params.all (Tryz.checked.prog.readableRec ·)) = true := by kernel_rfl
theorem j3_4 : (namedTie Tryz.checked.prog Rows.foremanNilRow.named Rows.foremanNilSpec.vars) = true := by kernel_rfl
theorem j3_5 : ((Rows.foremanNilRow.stops == [])) = true := by kernel_rfl
theorem j3_6 : ((Tryz.checked.prog.stops == [])) = true := by kernel_rfl
theorem j3_7 : ((Rows.foremanNilRow.knobs == [])) = true := by kernel_rfl
theorem j3_8 : ((Tryz.checked.prog.stopKnobs == [])) = true := by kernel_rfl
theorem j3_9 : ((Rows.foremanNilRow.inPlace == Tryz.checked.prog.inPlace 3)) = true := by kernel_rfl
theorem j3_10 : ((Rows.foremanNilRow.unfollowed == Tryz.checked.prog.unfollowed 3)) = true := by kernel_rfl
theorem j3_11 : ((Rows.foremanNilRow.recurses == Tryz.checked.prog.recurses 3)) = true := by kernel_rfl
theorem j3_12 : ((Rows.foremanNilRow.named == Tryz.checked.prog.varsNamed 3)) = true := by kernel_rfl
theorem j3_13 : ((Rows.foremanNilRow.maps == (Tryz.f3.params.toList ++ Rows.foremanNilSpec.plain.varTypes Tryz.checked.prog).any (Tryz.checked.prog.mapsRec ·))) = true := by kernel_rfl
theorem j3_14 : ((Rows.foremanNilRow.ifaces == (Tryz.f3.params.toList ++ Rows.foremanNilSpec.plain.varTypes Tryz.checked.prog).any (Tryz.checked.prog.ifacesRec ·))) = true := by kernel_rfl
theorem j3_15 : ((Rows.foremanNilRow.mapsOut == Tryz.checked.prog.mapsAmong Tryz.f3.resultTypes.toList)) = true := by kernel_rfl
theorem j3_16 : ((Rows.foremanNilRow.loops == (Tryz.f3.params.toList ++ Rows.foremanNilSpec.plain.varTypes Tryz.checked.prog).any (Tryz.checked.prog.loopsFrom ·))) = true := by kernel_rfl
theorem j3_17 : ((Rows.foremanNilRow.wideKeys == (Tryz.f3.params.toList ++ Rows.foremanNilSpec.plain.varTypes Tryz.checked.prog ++ Tryz.f3.resultTypes.toList).any (Tryz.checked.prog.wideKeysFrom ·))) = true := by kernel_rfl
theorem j3_18 : (Rows.foremanNilSpec.vars.all (Tryz.checked.prog.varReadable ·)) = true := by kernel_rfl
theorem j3_19 : (Tryz.f3.resultTypes.all (fun t => Tryz.checked.prog.readableRec t && decide (t < Tryz.checked.prog.types.size))) = true := by kernel_rfl
theorem j3_20 : ((Rows.foremanNilRow.ifacesOut == Tryz.f3.resultTypes.toList.any (Tryz.checked.prog.ifacesRec ·))) = true := by kernel_rfl
theorem j3_21 : ((Rows.foremanNilRow.loopsOut == Tryz.f3.resultTypes.toList.any (Tryz.checked.prog.loopsFrom ·))) = true := by kernel_rfl
theorem j3_22 : ((Rows.foremanNilRow.plainKeys == Tryz.checked.prog.plainKeys)) = true := by kernel_rfl
theorem j3_23 : (Rows.foremanNilRow.shortTexts.isNone) = true := by kernel_rfl
theorem j3_24 : (Tryz.checked.prog.stopsHeard) = true := by kernel_rfl
theorem j3_25 : (Tryz.checked.prog.mayEnter) = true := by kernel_rfl
theorem j3_26 : ((Rows.foremanNilRow.lifted == Tryz.checked.prog.liftsFinal)) = true := by kernel_rfl
theorem j3_27 : ((Tryz.checked.prog.make == some Rows.foremanNilRow.make)) = true := by kernel_rfl
theorem j3_29 : ((Rows.foremanNilRow.pinned == Rows.foremanNilRow.pinnedBy)) = true := by kernel_rfl
theorem j3_30 : ((Rows.foremanNilRow.veiled == (Tryz.f3.params.toList ++ Rows.foremanNilSpec.plain.varTypes Tryz.checked.prog ++ Tryz.f3.resultTypes.toList).any (Tryz.checked.prog.veiledRec ·))) = true := by kernel_rfl
theorem j3_31 : (Rows.foremanNilRow.veiledFits Tryz.checked.prog Tryz.f3.params.toList (Tryz.f3.params.toList ++ Rows.foremanNilSpec.plain.varTypes Tryz.checked.prog ++ Tryz.f3.resultTypes.toList)) = true := by kernel_rfl
theorem joined3 : joinedFacts Tryz.checked.prog 3 Tryz.f3 Rows.foremanNilSpec Rows.foremanNilRow = true := (andT3 (andT3 (andT3 (andT3 (andT3 (andT3 (andT3 (andT3 (andT3 (andT3 (andT3 (andT3 (andT3 (andT3 (andT3 (andT3 (andT3 (andT3 (andT3 (andT3 (andT3 (andT3 (andT3 (andT3 (andT3 (andT3 (andT3 (andT3 (andT3 (andT3 (andT3 j3_0 j3_1) j3_2) j3_3) j3_4) j3_5) j3_6) j3_7) j3_8) j3_9) j3_10) j3_11) j3_12) j3_13) j3_14) j3_15) j3_16) j3_17) j3_18) j3_19) j3_20) j3_21) j3_22) j3_23) j3_24) j3_25) j3_26) j3_27) (by kernel_rfl)) j3_29) j3_30) j3_31)
theorem named3 : Tryz.checked.prog.funcNamed Rows.foremanNilRow.func = some 3 := by kernel_rfl
theorem holds3 : Rows.ForemanNilSaid :=
  OpenClaim.holds_of_wide 3 Tryz.f3 rfl rfl rfl rfl rfl rfl rfl ⟨rfl, rfl, rfl, rfl, rfl⟩ rfl rfl rfl rfl rfl named3 Tryz.func3 joined3
    (of_decide_eq_true (by kernel_rfl)) (by unfold Func.isWrapper; first | (rw [if_pos (by decide +kernel)]; kernel_rfl) | (rw [if_neg (by decide +kernel)]; exact ⟨rfl, rfl⟩))
    (fun os started H enc _ => lifted3 os started H enc)
end Go.Proofs.Kn
end
