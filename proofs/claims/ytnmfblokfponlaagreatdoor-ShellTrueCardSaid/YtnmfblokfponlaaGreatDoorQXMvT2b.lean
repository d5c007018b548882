/- MvT2b: texts in a row, joined by a program. -/
import Derived.Test.YtnmfblokfponlaaGreatDoorTie
import Derived.Test.YtnmfblokfponlaaGreatDoorCards
import Derived.Lay
import Derived.LaidOnce
import Derived.SevenTiedAt
import Derived.Test.YtnmfblokfponlaaGreatDoorQXMvT2a
set_option linter.all false
noncomputable section
namespace Go.Proofs.Kn
open Go Go.Ev Go.RowKit Go.ChangeShapes Go.WideShapes Go.ChangeAt
open YtnmfblokfponlaaGreatDoor
set_option maxRecDepth 100000
theorem andT8 {a b : Bool} (h : a = true) (k : b = true) : (a && b) = true := by rw [h, k]; rfl
theorem j8_0 : (Rows.shellTrueRow.wf (OpenSpec.ofChange Rows.shellTrueSpec)) = true := by kernel_rfl
theorem j8_1 : (laidOutB Tryz.checked.prog) = true := by kernel_rfl
theorem j8_2 : (mapsRowed Tryz.checked.prog) = true := by kernel_rfl
theorem j8_3 : (Tryz.f8.params.all (Tryz.checked.prog.readableRec ·)) = true := by kernel_rfl
theorem j8_4 : (namedTie Tryz.checked.prog Rows.shellTrueRow.named Rows.shellTrueSpec.vars) = true := by kernel_rfl
theorem j8_5 : ((Rows.shellTrueRow.stops == [])) = true := by kernel_rfl
theorem j8_6 : ((Tryz.checked.prog.stops == [])) = true := by kernel_rfl
theorem j8_7 : ((Rows.shellTrueRow.knobs == [])) = true := by kernel_rfl
theorem j8_8 : ((Tryz.checked.prog.stopKnobs == [])) = true := by kernel_rfl
theorem j8_9 : ((Rows.shellTrueRow.inPlace == Tryz.checked.prog.inPlace 8)) = true := by kernel_rfl
theorem j8_10 : ((Rows.shellTrueRow.unfollowed == Tryz.checked.prog.unfollowed 8)) = true := by kernel_rfl
theorem j8_11 : ((Rows.shellTrueRow.recurses == Tryz.checked.prog.recurses 8)) = true := by kernel_rfl
theorem j8_12 : ((Rows.shellTrueRow.named == Tryz.checked.prog.varsNamed 8)) = true := by kernel_rfl
theorem j8_13 : ((Rows.shellTrueRow.maps == (Tryz.f8.params.toList ++ Rows.shellTrueSpec.plain.varTypes Tryz.checked.prog).any (Tryz.checked.prog.mapsRec ·))) = true := by kernel_rfl
theorem j8_14 : ((Rows.shellTrueRow.ifaces == (Tryz.f8.params.toList ++ Rows.shellTrueSpec.plain.varTypes Tryz.checked.prog).any (Tryz.checked.prog.ifacesRec ·))) = true := by kernel_rfl
theorem j8_15 : ((Rows.shellTrueRow.mapsOut == Tryz.checked.prog.mapsAmong Tryz.f8.resultTypes.toList)) = true := by kernel_rfl
theorem j8_16 : ((Rows.shellTrueRow.loops == (Tryz.f8.params.toList ++ Rows.shellTrueSpec.plain.varTypes Tryz.checked.prog).any (Tryz.checked.prog.loopsFrom ·))) = true := by kernel_rfl
theorem j8_17 : ((Rows.shellTrueRow.wideKeys == (Tryz.f8.params.toList ++ Rows.shellTrueSpec.plain.varTypes Tryz.checked.prog ++ Tryz.f8.resultTypes.toList).any (Tryz.checked.prog.wideKeysFrom ·))) = true := by kernel_rfl
theorem j8_18 : (Rows.shellTrueSpec.vars.all (Tryz.checked.prog.varReadable ·)) = true := by kernel_rfl
theorem j8_19 : (Tryz.f8.resultTypes.all (fun t => Tryz.checked.prog.readableRec t && decide (t < Tryz.checked.prog.types.size))) = true := by kernel_rfl
theorem j8_20 : ((Rows.shellTrueRow.ifacesOut == Tryz.f8.resultTypes.toList.any (Tryz.checked.prog.ifacesRec ·))) = true := by kernel_rfl
theorem j8_21 : ((Rows.shellTrueRow.loopsOut == Tryz.f8.resultTypes.toList.any (Tryz.checked.prog.loopsFrom ·))) = true := by kernel_rfl
theorem j8_22 : ((Rows.shellTrueRow.plainKeys == Tryz.checked.prog.plainKeys)) = true := by kernel_rfl
theorem j8_23 : (Rows.shellTrueRow.shortTexts.isNone) = true := by kernel_rfl
theorem j8_24 : (Tryz.checked.prog.stopsHeard) = true := by kernel_rfl
theorem j8_25 : (Tryz.checked.prog.mayEnter) = true := by kernel_rfl
theorem j8_26 : ((Rows.shellTrueRow.lifted == Tryz.checked.prog.liftsFinal)) = true := by kernel_rfl
theorem j8_27 : ((Tryz.checked.prog.make == some Rows.shellTrueRow.make)) = true := by kernel_rfl
theorem j8_29 : ((Rows.shellTrueRow.pinned == Rows.shellTrueRow.pinnedBy)) = true := by kernel_rfl
theorem j8_30 : ((Rows.shellTrueRow.veiled == (Tryz.f8.params.toList ++ Rows.shellTrueSpec.plain.varTypes Tryz.checked.prog ++ Tryz.f8.resultTypes.toList).any (Tryz.checked.prog.veiledRec ·))) = true := by kernel_rfl
theorem j8_31 : (Rows.shellTrueRow.veiledFits Tryz.checked.prog Tryz.f8.params.toList (Tryz.f8.params.toList ++ Rows.shellTrueSpec.plain.varTypes Tryz.checked.prog ++ Tryz.f8.resultTypes.toList)) = true := by kernel_rfl
theorem joined8 : joinedFacts Tryz.checked.prog 8 Tryz.f8 Rows.shellTrueSpec Rows.shellTrueRow = true := (andT8 (andT8 (andT8 (andT8 (andT8 (andT8 (andT8 (andT8 (andT8 (andT8 (andT8 (andT8 (andT8 (andT8 (andT8 (andT8 (andT8 (andT8 (andT8 (andT8 (andT8 (andT8 (andT8 (andT8 (andT8 (andT8 (andT8 (andT8 (andT8 (andT8 (andT8 j8_0 j8_1) j8_2) j8_3) j8_4) j8_5) j8_6) j8_7) j8_8) j8_9) j8_10) j8_11) j8_12) j8_13) j8_14) j8_15) j8_16) j8_17) j8_18) j8_19) j8_20) j8_21) j8_22) j8_23) j8_24) j8_25) j8_26) j8_27) (by kernel_rfl)) j8_29) j8_30) j8_31)
theorem named8 : Tryz.checked.prog.funcNamed Rows.shellTrueRow.func = some 8 := by kernel_rfl
theorem holds8 : Rows.ShellTrueSaid :=
  OpenClaim.holds_of_wide 8 Tryz.f8 rfl rfl rfl rfl rfl rfl rfl ⟨rfl, rfl, rfl, rfl, rfl⟩ rfl rfl rfl rfl rfl named8 Tryz.func8 joined8
    (of_decide_eq_true (by kernel_rfl)) (by unfold Func.isWrapper; first | (rw [if_pos (by decide +kernel)]; kernel_rfl) | (rw [if_neg (by decide +kernel)]; exact ⟨rfl, rfl⟩))
    (fun os started H enc _ => lifted8 os started H enc)
end Go.Proofs.Kn
end
