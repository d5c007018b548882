/-
  ShellLooked returns true for every sack, every number and every list of numbers, and each argument reads behind the call as it read before; there is no condition beyond those of the given row.
-/
import Derived.Test.YtonpolckdeeofaaGreatDoorTie
import Derived.Test.YtonpolckdeeofaaGreatDoorCards
import Derived.Lay
import Derived.LaidOnce
import Derived.SevenTiedAt
import Derived.Test.YtonpolckdeeofaaGreatDoorQH
import Derived.Test.YtonpolckdeeofaaGreatDoorQJ
set_option linter.all false
noncomputable section
namespace Go.Proofs.Kn
open Go Go.Ev Go.RowKit Go.ChangeShapes Go.WideShapes Go.ChangeAt
open YtonpolckdeeofaaGreatDoor
set_option maxRecDepth 100000
/-! ### the row of 'ShellLooked' -/
theorem params4 : Tryz.f4.params.toList = [25, 3, 23] := by kernel_rfl
theorem rt4 : Tryz.f4.resultTypes = #[4] := by kernel_rfl
theorem inT : ∀ t ∈ [25, 3, 23], t < Tryz.prog.types.size := by
  have h : ([25, 3, 23].all fun t => decide (t < Tryz.prog.types.size)) = true := by kernel_rfl
  intro t ht
  simpa using List.all_eq_true.1 h t ht
theorem lifted4 (os : Os) (started : os.Started) (H : Type) (enc : TypeId × Value → H) :
    ReturnsInHanded {} Tryz.checked os 4 .any (fun w args => (Rows.shellLookedSpec.pre enc Tryz.prog Tryz.f4 [] false w args ∧ laidMetH Tryz.prog Rows.shellLookedRow.laid w) ∧ sizedMet enc Tryz.prog Tryz.f4 (OpenSpec.ofChange Rows.shellLookedSpec) false w args)
      (Rows.shellLookedSpec.post enc Tryz.prog Tryz.f4 false true false false) := by
  refine returnsInHanded_of_change_and (C := Tryz.checked) (X := fun w _ => laidMetH Tryz.prog Rows.shellLookedRow.laid w) (fun _ _ _ hh h => h.of_heap hh) ownK started (by kernel_rfl) Tryz.func4
    (ChangeSpec.witness_shaped (enc := enc) (C := Tryz.checked) (os := os) (X := fun w _ => laidMetH Tryz.prog Rows.shellLookedRow.laid w) false (World.laidAll Tryz.prog os Rows.shellLookedRow.laid) #[.agg #[.int .i64 0, .slice none 0 0, .slice none 0 0, .int .i64 0, .int .i64 0], .int .i64 0, .slice none 0 0] 8 (World.laidAll_os _ _ _)
      (World.shaped_of_ZipB (by kernel_rfl) (by kernel_rfl)) (by kernel_rfl) (by kernel_rfl) (by kernel_rfl)
      (by rw [MakeChecks.laidMetH_plain _ _ _ (by kernel_rfl)]; exact laidMet_laidAll _ (by kernel_rfl) (by kernel_rfl))) ?_
  intro W base args ds gs before hval0 hW _ _ hL _
  have hval : ∀ (j : Nat) t v, Tryz.f4.params[j]? = some t → args[j]? = some v → Value.okWide Tryz.prog W .any base t v := hval0
  have hW' := hW
  obtain ⟨p, q, hA0, hV, rfl, _, _⟩ := hW
  have hA : DataW.TrodAll enc Tryz.prog W 0 (fun _ => true) true Tryz.f4.params.toList args.toList ds p := hA0
  rw [params4] at hA
  have hp : ∀ j t, [25, 3, 23][j]? = some t → Tryz.f4.params[j]? = some t := fun j t h => by rw [← Array.getElem?_toList, params4]; exact h
  obtain ⟨v0, vs0, d0, ds0, p0, q0, hargs, rfl, rfl, h0, hA1⟩ := trodAll_cons hA
  obtain ⟨v1, vs1, d1, ds1, p1, q1, rfl, rfl, rfl, h1, hA2⟩ := trodAll_cons hA1
  obtain ⟨v2, vs2, d2, ds2, p2, q2, rfl, rfl, rfl, h2, hA3⟩ := trodAll_cons hA2
  obtain ⟨rfl, rfl, rfl⟩ := trodAll_nil hA3
  obtain rfl : args = #[v0, v1, v2] := by cases args; simpa using hargs
  obtain ⟨rfl, rfl⟩ := trodVars_none hV
  obtain ⟨s, hs, hr⟩ := read_sack (hval 0 25 v0 (hp 0 25 rfl) rfl) h0 { t := .e, n := 0 }
  obtain ⟨x, rfl, _, _, _⟩ := open_int und3 (hval 1 3 v1 (hp 1 3 rfl) rfl) h1
  obtain ⟨l, hl, hrow⟩ := read_ints (hval 2 23 v2 (hp 2 23 rfl) rfl) h2 { t := .e, n := 0 }
  refine (law_run (args' := [v0, .int .i64 x, v2]) (looked_true W.cell? { t := .e, n := 0 } s hs x (.val v2) l hrow hl) (by simp only [RL]; exact ⟨v0, _, rfl, hr _, _, _, rfl, by simp only [R], v2, [], rfl, by simp only [R], rfl⟩)).mono fun e W' ⟨he, hB⟩ => ?_
  subst he
  exact ⟨_, rfl, law_post (by rfl) kids full (by rw [params4]; exact inT) hB hW' (by simp [Rows.shellLookedSpec]) rt4 und4⟩
theorem holds4 : Rows.ShellLookedSaid :=
  OpenClaim.holds_of_wide 4 Tryz.f4 rfl rfl rfl rfl rfl rfl rfl ⟨rfl, rfl, rfl, rfl, rfl⟩ rfl rfl rfl rfl rfl (by kernel_rfl) Tryz.func4 (by kernel_rfl)
    (of_decide_eq_true (by kernel_rfl)) (by unfold Func.isWrapper; first | (rw [if_pos (by decide +kernel)]; kernel_rfl) | (rw [if_neg (by decide +kernel)]; exact ⟨rfl, rfl⟩))
    (fun os started H enc _ => lifted4 os started H enc)
/-- Whatever the sack and the numbers: true. -/
theorem card4 : Rows.ShellLookedCardSaid :=
  Claim7.holds_tied_plain_at .later [] [.data, .data, .data, .data, .pinned] true (true, "4585271c7ea1d206ab56dba5cb8a60d577c1174aae7db7ad3b2c692912e28148") true holds4 (fun _ h => by cases h) (by kernel_rfl) (fun _ h => by cases h) shellLooked_row_tie rfl ⟨rfl, rfl⟩ (by kernel_rfl) rfl
    (fun f fn hf hfn => by
      obtain rfl : f = 4 := Option.some.inj ((show Tryz.prog.funcNamed Rows.shellLookedRow.func = some 4 by kernel_rfl).symm.trans hf) |>.symm
      obtain rfl : fn = Tryz.f4 := (Option.some.inj (Tryz.func4.symm.trans hfn)).symm
      exact ⟨by kernel_rfl, fun j t ht => by
        have hm : t ∈ [25, 3, 23] := by rw [← params4]; exact Array.mem_toList_iff.2 (Array.mem_of_getElem? ht)
        have hall : ([25, 3, 23].all fun u => !Tryz.prog.wantsStandIn u) = true := by kernel_rfl
        exact (show Tryz.prog.wantsStandIn t = false by simpa using List.all_eq_true.1 hall t hm)⟩)
    (by kernel_rfl)
end Go.Proofs.Kn
namespace Go.Proofs.YtonpolckdeeofaaGreatDoor
theorem shellLooked_card : Rows.ShellLookedCardSaid := Kn.card4
#print axioms shellLooked_card
end Go.Proofs.YtonpolckdeeofaaGreatDoor
end
