/-
  ShellLooks returns true for every sack and every number, and each argument reads behind the call as it read before; there is no condition beyond those of the given row.
-/
import Derived.Test.YtonpolckdeeofaaGreatDoorTie
import Derived.Test.YtonpolckdeeofaaGreatDoorCards
import Derived.Lay
import Derived.LaidOnce
import Derived.SevenTiedAt
import Derived.Test.YtonpolckdeeofaaGreatDoorQH
import Derived.Test.YtonpolckdeeofaaGreatDoorQK
set_option linter.all false
noncomputable section
namespace Go.Proofs.Kn
open Go Go.Ev Go.RowKit Go.ChangeShapes Go.WideShapes Go.ChangeAt
open YtonpolckdeeofaaGreatDoor
set_option maxRecDepth 100000
/-! ### the row of 'ShellLooks' -/
theorem params3 : Tryz.f3.params.toList = [25, 3] := by kernel_rfl
theorem rt3 : Tryz.f3.resultTypes = #[4] := by kernel_rfl
theorem inT : ∀ t ∈ [25, 3], t < Tryz.prog.types.size := by
  have h : ([25, 3].all fun t => decide (t < Tryz.prog.types.size)) = true := by kernel_rfl
  intro t ht
  simpa using List.all_eq_true.1 h t ht
theorem lifted3 (os : Os) (started : os.Started) (H : Type) (enc : TypeId × Value → H) :
    ReturnsInHanded {} Tryz.checked os 3 .any (fun w args => (Rows.shellLooksSpec.pre enc Tryz.prog Tryz.f3 [] false w args ∧ laidMetH Tryz.prog Rows.shellLooksRow.laid w) ∧ sizedMet enc Tryz.prog Tryz.f3 (OpenSpec.ofChange Rows.shellLooksSpec) false w args)
      (Rows.shellLooksSpec.post enc Tryz.prog Tryz.f3 false true false false) := by
  refine returnsInHanded_of_change_and (C := Tryz.checked) (X := fun w _ => laidMetH Tryz.prog Rows.shellLooksRow.laid w) (fun _ _ _ hh h => h.of_heap hh) ownK started (by kernel_rfl) Tryz.func3
    (ChangeSpec.witness_shaped (enc := enc) (C := Tryz.checked) (os := os) (X := fun w _ => laidMetH Tryz.prog Rows.shellLooksRow.laid w) false (World.laidAll Tryz.prog os Rows.shellLooksRow.laid) #[.agg #[.int .i64 0, .slice none 0 0, .slice none 0 0, .int .i64 0, .int .i64 0], .int .i64 0] 8 (World.laidAll_os _ _ _)
      (World.shaped_of_ZipB (by kernel_rfl) (by kernel_rfl)) (by kernel_rfl) (by kernel_rfl) (by kernel_rfl)
      (by rw [MakeChecks.laidMetH_plain _ _ _ (by kernel_rfl)]; exact laidMet_laidAll _ (by kernel_rfl) (by kernel_rfl))) ?_
  intro W base args ds gs before hval0 hW _ _ hL _
  have hval : ∀ (j : Nat) t v, Tryz.f3.params[j]? = some t → args[j]? = some v → Value.okWide Tryz.prog W .any base t v := hval0
  have hW' := hW
  obtain ⟨p, q, hA0, hV, rfl, _, _⟩ := hW
  have hA : DataW.TrodAll enc Tryz.prog W 0 (fun _ => true) true Tryz.f3.params.toList args.toList ds p := hA0
  rw [params3] at hA
  have hp : ∀ j t, [25, 3][j]? = some t → Tryz.f3.params[j]? = some t := fun j t h => by rw [← Array.getElem?_toList, params3]; exact h
  obtain ⟨v0, vs0, d0, ds0, p0, q0, hargs, rfl, rfl, h0, hA1⟩ := trodAll_cons hA
  obtain ⟨v1, vs1, d1, ds1, p1, q1, rfl, rfl, rfl, h1, hA2⟩ := trodAll_cons hA1
  obtain ⟨rfl, rfl, rfl⟩ := trodAll_nil hA2
  obtain rfl : args = #[v0, v1] := by cases args; simpa using hargs
  obtain ⟨rfl, rfl⟩ := trodVars_none hV
  obtain ⟨s, hs, hr⟩ := read_sack (hval 0 25 v0 (hp 0 25 rfl) rfl) h0 { t := .e, n := 0 }
  obtain ⟨x, rfl, _, _, _⟩ := open_int und3 (hval 1 3 v1 (hp 1 3 rfl) rfl) h1
  refine (law_run (args' := [v0, .int .i64 x]) (looks_true W.cell? { t := .e, n := 0 } s hs x) (by simp only [RL]; exact ⟨v0, _, rfl, hr _, _, _, rfl, by simp only [R], rfl⟩)).mono fun e W' ⟨he, hB⟩ => ?_
  subst he
  exact ⟨_, rfl, law_post (by rfl) kids full (by rw [params3]; exact inT) hB hW' (by simp [Rows.shellLooksSpec]) rt3 und4⟩
theorem holds3 : Rows.ShellLooksSaid :=
  OpenClaim.holds_of_wide 3 Tryz.f3 rfl rfl rfl rfl rfl rfl rfl ⟨rfl, rfl, rfl, rfl, rfl⟩ rfl rfl rfl rfl rfl (by kernel_rfl) Tryz.func3 (by kernel_rfl)
    (of_decide_eq_true (by kernel_rfl)) (by unfold Func.isWrapper; first | (rw [if_pos (by decide +kernel)]; kernel_rfl) | (rw [if_neg (by decide +kernel)]; exact ⟨rfl, rfl⟩))
    (fun os started H enc _ => lifted3 os started H enc)
/-- Whatever the sack and the number: true. -/
theorem card3 : Rows.ShellLooksCardSaid :=
  Claim7.holds_tied_plain_at .later [] [.data, .data, .data, .data, .pinned] true (true, "4585271c7ea1d206ab56dba5cb8a60d577c1174aae7db7ad3b2c692912e28148") true holds3 (fun _ h => by cases h) (by kernel_rfl) (fun _ h => by cases h) shellLooks_row_tie rfl ⟨rfl, rfl⟩ (by kernel_rfl) rfl
    (fun f fn hf hfn => by
      obtain rfl : f = 3 := Option.some.inj ((show Tryz.prog.funcNamed Rows.shellLooksRow.func = some 3 by kernel_rfl).symm.trans hf) |>.symm
      obtain rfl : fn = Tryz.f3 := (Option.some.inj (Tryz.func3.symm.trans hfn)).symm
      exact ⟨by kernel_rfl, fun j t ht => by
        have hm : t ∈ [25, 3] := by rw [← params3]; exact Array.mem_toList_iff.2 (Array.mem_of_getElem? ht)
        have hall : ([25, 3].all fun u => !Tryz.prog.wantsStandIn u) = true := by kernel_rfl
        exact (show Tryz.prog.wantsStandIn t = false by simpa using List.all_eq_true.1 hall t hm)⟩)
    (by kernel_rfl)
end Go.Proofs.Kn
namespace Go.Proofs.YtonpolckdeeofaaGreatDoor
theorem shellLooks_card : Rows.ShellLooksCardSaid := Kn.card3
#print axioms shellLooks_card
end Go.Proofs.YtonpolckdeeofaaGreatDoor
end
