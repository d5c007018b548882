/- MvT1b: texts in a row, joined by a program. -/
import Derived.Test.YtnmfblokfponlaaGreatDoorTie
import Derived.Test.YtnmfblokfponlaaGreatDoorCards
import Derived.Lay
import Derived.LaidOnce
import Derived.SevenTiedAt
import Derived.Test.YtnmfblokfponlaaGreatDoorQXMvT1a
set_option linter.all false
noncomputable section
namespace Go.Proofs.Kn
open Go Go.Ev Go.RowKit Go.ChangeShapes Go.WideShapes Go.ChangeAt
open YtnmfblokfponlaaGreatDoor
set_option maxRecDepth 100000
theorem andT11 {a b : Bool} (h : a = true) (k : b = true) : (a && b) = true := by rw [h, k]; rfl
theorem j11_0 : (Rows.shellThicksRow.wf (OpenSpec.ofChange Rows.shellThicksSpec)) = true := by kernel_rfl
theorem j11_1 : (laidOutB Tryz.checked.prog) = true := by kernel_rfl
theorem j11_2 : (mapsRowed Tryz.checked.prog) = true := by kernel_rfl
theorem j11_3 : (Tryz.f11.params.all (Tryz.checked.prog.readableRec ·)) = true := by kernel_rfl
theorem j11_4 : (namedTie Tryz.checked.prog Rows.shellThicksRow.named Rows.shellThicksSpec.vars) = true := by kernel_rfl
theorem j11_5 : ((Rows.shellThicksRow.stops == [])) = true := by kernel_rfl
theorem j11_6 : ((Tryz.checked.prog.stops == [])) = true := by kernel_rfl
theorem j11_7 : ((Rows.shellThicksRow.knobs == [])) = true := by kernel_rfl
theorem j11_8 : ((Tryz.checked.prog.stopKnobs == [])) = true := by kernel_rfl
theorem j11_9 : ((Rows.shellThicksRow.inPlace == Tryz.checked.prog.inPlace 11)) = true := by kernel_rfl
theorem j11_10 : ((Rows.shellThicksRow.unfollowed == Tryz.checked.prog.unfollowed 11)) = true := by kernel_rfl
theorem j11_11 : ((Rows.shellThicksRow.recurses == Tryz.checked.prog.recurses 11)) = true := by kernel_rfl
theorem j11_12 : ((Rows.shellThicksRow.named == Tryz.checked.prog.varsNamed 11)) = true := by kernel_rfl
theorem j11_13 : ((Rows.shellThicksRow.maps == (Tryz.f11.params.toList ++ Rows.shellThicksSpec.plain.varTypes Tryz.checked.prog).any (Tryz.checked.prog.mapsRec ·))) = true := by kernel_rfl
theorem j11_14 : ((Rows.shellThicksRow.ifaces == (Tryz.f11.params.toList ++ Rows.shellThicksSpec.plain.varTypes Tryz.checked.prog).any (Tryz.checked.prog.ifacesRec ·))) = true := by kernel_rfl
theorem j11_15 : ((Rows.shellThicksRow.mapsOut == Tryz.checked.prog.mapsAmong Tryz.f11.resultTypes.toList)) = true := by kernel_rfl
theorem j11_16 : ((Rows.shellThicksRow.loops == (Tryz.f11.params.toList ++ Rows.shellThicksSpec.plain.varTypes Tryz.checked.prog).any (Tryz.checked.prog.loopsFrom ·))) = true := by kernel_rfl
theorem j11_17 : ((Rows.shellThicksRow.wideKeys == (Tryz.f11.params.toList ++ Rows.shellThicksSpec.plain.varTypes Tryz.checked.prog ++ Tryz.f11.resultTypes.toList).any (Tryz.checked.prog.wideKeysFrom ·))) = true := by kernel_rfl
theorem j11_18 : (Rows.shellThicksSpec.vars.all (Tryz.checked.prog.varReadable ·)) = true := by kernel_rfl
theorem j11_19 : (Tryz.f11.resultTypes.all (fun t => Tryz.checked.prog.readableRec t && decide (t < Tryz.checked.prog.types.size))) = true := by kernel_rfl
theorem j11_20 : ((Rows.shellThicksRow.ifacesOut == Tryz.f11.resultTypes.toList.any (Tryz.checked.prog.ifacesRec ·))) = true := by kernel_rfl
theorem j11_21 : ((Rows.shellThicksRow.loopsOut == Tryz.f11.resultTypes.toList.any (Tryz.checked.prog.loopsFrom ·))) = true := by kernel_rfl
theorem j11_22 : ((Rows.shellThicksRow.plainKeys == Tryz.checked.prog.plainKeys)) = true := by kernel_rfl
theorem j11_23 : (Rows.shellThicksRow.shortTexts.isNone) = true := by kernel_rfl
theorem j11_24 : (Tryz.checked.prog.stopsHeard) = true := by kernel_rfl
theorem j11_25 : (Tryz.checked.prog.mayEnter) = true := by kernel_rfl
theorem j11_26 : ((Rows.shellThicksRow.lifted == Tryz.checked.prog.liftsFinal)) = true := by kernel_rfl
theorem j11_27 : ((Tryz.checked.prog.make == some Rows.shellThicksRow.make)) = true := by kernel_rfl
theorem j11_29 : ((Rows.shellThicksRow.pinned == Rows.shellThicksRow.pinnedBy)) = true := by kernel_rfl
theorem j11_30 : ((Rows.shellThicksRow.veiled == (Tryz.f11.params.toList ++ Rows.shellThicksSpec.plain.varTypes Tryz.checked.prog ++ Tryz.f11.resultTypes.toList).any (Tryz.checked.prog.veiledRec ·))) = true := by kernel_rfl
theorem j11_31 : (Rows.shellThicksRow.veiledFits Tryz.checked.prog Tryz.f11.params.toList (Tryz.f11.params.toList ++ Rows.shellThicksSpec.plain.varTypes Tryz.checked.prog ++ Tryz.f11.resultTypes.toList)) = true := by kernel_rfl
theorem joined11 : joinedFacts Tryz.checked.prog 11 Tryz.f11 Rows.shellThicksSpec Rows.shellThicksRow = true := (andT11 (andT11 (andT11 (andT11 (andT11 (andT11 (andT11 (andT11 (andT11 (andT11 (andT11 (andT11 (andT11 (andT11 (andT11 (andT11 (andT11 (andT11 (andT11 (andT11 (andT11 (andT11 (andT11 (andT11 (andT11 (andT11 (andT11 (andT11 (andT11 (andT11 (andT11 j11_0 j11_1) j11_2) j11_3) j11_4) j11_5) j11_6) j11_7) j11_8) j11_9) j11_10) j11_11) j11_12) j11_13) j11_14) j11_15) j11_16) j11_17) j11_18) j11_19) j11_20) j11_21) j11_22) j11_23) j11_24) j11_25) j11_26) j11_27) (by kernel_rfl)) j11_29) j11_30) j11_31)
theorem named11 : Tryz.checked.prog.funcNamed Rows.shellThicksRow.func = some 11 := by kernel_rfl
theorem holds11 : Rows.ShellThicksSaid :=
  OpenClaim.holds_of_wide 11 Tryz.f11 rfl rfl rfl rfl rfl rfl rfl ⟨rfl, rfl, rfl, rfl, rfl⟩ rfl rfl rfl rfl rfl named11 Tryz.func11 joined11
    (of_decide_eq_true (by kernel_rfl)) (by unfold Func.isWrapper; first | (rw [if_pos (by decide +kernel)]; kernel_rfl) | (rw [if_neg (by decide +kernel)]; exact ⟨rfl, rfl⟩))
    (fun os started H enc _ => lifted11 os started H enc)
end Go.Proofs.Kn
end
