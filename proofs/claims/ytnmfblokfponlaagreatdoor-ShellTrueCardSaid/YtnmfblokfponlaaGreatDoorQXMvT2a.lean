/- MvT2a: texts in a row, joined by a program. -/
import Derived.Test.YtnmfblokfponlaaGreatDoorTie
import Derived.Test.YtnmfblokfponlaaGreatDoorCards
import Derived.Lay
import Derived.LaidOnce
import Derived.SevenTiedAt
import Derived.Test.YtnmfblokfponlaaGreatDoorQS
import Derived.Test.YtnmfblokfponlaaGreatDoorQXMvJ2
set_option linter.all false
noncomputable section
namespace Go.Proofs.Kn
open Go Go.Ev Go.RowKit Go.ChangeShapes Go.WideShapes Go.ChangeAt
open YtnmfblokfponlaaGreatDoor
set_option maxRecDepth 100000
theorem params8 : Tryz.f8.params.toList = [27, 69] := by kernel_rfl
theorem rt8 : Tryz.f8.resultTypes = #[4] := by kernel_rfl
theorem inT8 : ∀ t ∈ [27, 69], t < Tryz.prog.types.size := by
  have h : ([27, 69].all fun t => decide (t < Tryz.prog.types.size)) = true := by kernel_rfl
  intro t ht
  simpa using List.all_eq_true.1 h t ht
theorem lifted8 (os : Os) (started : os.Started) (H : Type) (enc : TypeId × Value → H) :
    ReturnsInHanded {} Tryz.checked os 8 .any (fun w args => (Rows.shellTrueSpec.pre enc Tryz.prog Tryz.f8 [] false w args ∧ laidMetH Tryz.prog Rows.shellTrueRow.laid w) ∧ sizedMet enc Tryz.prog Tryz.f8 (OpenSpec.ofChange Rows.shellTrueSpec) false w args)
      (Rows.shellTrueSpec.post enc Tryz.prog Tryz.f8 false true false false) := by
  refine returnsInHanded_of_change_and (C := Tryz.checked) (X := fun w _ => laidMetH Tryz.prog Rows.shellTrueRow.laid w) (fun _ _ _ hh h => h.of_heap hh) ownK started (by kernel_rfl) Tryz.func8
    (ChangeSpec.witness_shaped (enc := enc) (C := Tryz.checked) (os := os) (X := fun w _ => laidMetH Tryz.prog Rows.shellTrueRow.laid w) false (World.laidAll Tryz.prog os Rows.shellTrueRow.laid) #[.agg #[.slice none 0 0, .int .i64 0, .int .i64 0, .slice none 0 0, .slice none 0 0, .slice none 0 0], .slice none 0 0] 8 (World.laidAll_os _ _ _)
      (World.shaped_of_ZipB (by kernel_rfl) (by kernel_rfl)) (by kernel_rfl) (by kernel_rfl) (by kernel_rfl)
      (by rw [MakeChecks.laidMetH_plain _ _ _ (by kernel_rfl)]; exact laidMet_laidAll _ (by kernel_rfl) (by kernel_rfl))) ?_
  intro W base args ds gs before hval0 hW _ _ hL _
  have hval : ∀ (j : Nat) t v, Tryz.f8.params[j]? = some t → args[j]? = some v → Value.okWide Tryz.prog W .any base t v := hval0
  have hW' := hW
  obtain ⟨p, q, hA0, hV, rfl, _, _⟩ := hW
  have hA : DataW.TrodAll enc Tryz.prog W 0 (fun _ => true) true Tryz.f8.params.toList args.toList ds p := hA0
  rw [params8] at hA
  have hp : ∀ j t, [27, 69][j]? = some t → Tryz.f8.params[j]? = some t := fun j t h => by rw [← Array.getElem?_toList, params8]; exact h
  obtain ⟨v0, v1, d0, d1, p0, p1, rfl, rfl, rfl, h0, h1⟩ := trodAll_two hA
  obtain ⟨rfl, rfl⟩ := trodVars_none hV
  obtain ⟨m, hs, hr⟩ := read_map (hval 0 27 v0 (hp 0 27 rfl) rfl) h0 { t := .e, n := 0 }
  obtain ⟨g, hg, hv⟩ := read_thick (hval 1 69 v1 (hp 1 69 rfl) rfl) h1 { t := .e, n := 0 }
  refine (law_run (args' := [v0, v1]) (true_true W.cell? { t := .e, n := 0 } m hs g hg) (by simp only [RL]; exact ⟨v0, [v1], rfl, hr _, v1, [], rfl, by rw [hv]; simp only [R], rfl⟩)).mono fun e W' ⟨he, hB⟩ => ?_
  subst he
  exact ⟨_, rfl, law_post (by rfl) kids full (by rw [params8]; exact inT8) hB hW' (by simp [Rows.shellTrueSpec]) rt8 und4⟩
end Go.Proofs.Kn
end
