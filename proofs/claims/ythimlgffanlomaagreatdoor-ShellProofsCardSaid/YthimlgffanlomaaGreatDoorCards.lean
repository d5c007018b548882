/-
  DERIVED. GIVEN WITH THE SEED: THE CARDS: each row of YthimlgffanlomaaGreatDoorRows.lean that lists a variable, with what it lists TIED to the program's text (the seventh form; the later family's looks); each row that meets fmt, with fmt's text TOLD by the authors' own Lean function (tested against real Go, not proved from fmt's source: count such statements apart). THE CARD IS WHAT COUNTS. Prove the row's statement (the work); the ties are given (YthimlgffanlomaaGreatDoorTie.lean); close each card by the builder's one call (the guide's Derived/Test/ToyasCard.lean, 'card_holds'). Laid BY PROGRAM, IN A SANDBOX (cutbox-door.mjs). By AI agents, Wed Nov 11 2026. No macro, syntax, notation, axiom, sorry.
-/
import Derived.Test.YthimlgffanlomaaGreatDoorRows
import GoSem.ClaimSeven
namespace Go.Proofs.YthimlgffanlomaaGreatDoor
namespace Rows

/-- THE TIED CARD OF 'nacrelaw01.ShellProofs'. -/
def shellProofsCard : Claim7 := { stood := { row := shellProofsRow, standIns := [], harness := (true, "8e4a4db4becde4ee42dc1f3f69bb9816bab14a8498d32dca4538f3137a1cfd8e"), looks := true }, kinds := [], alts := [], laidByText := true, laidKinds := [.data, .data, .data, .data, .pinned], laidTests := true, laidLooks := .later }
def ShellProofsCardSaid : Prop := Claim7.holds Tryz.pinned (.plain (OpenSpec.ofChange shellProofsSpec)) shellProofsCard

/-- THE SECOND FORM's CARD OF 'nacrelaw01.ShellProofs'. -/
def shellProofsUptoCard : Claim7 := { stood := { row := shellProofsUptoRow, standIns := [], harness := (true, "8e4a4db4becde4ee42dc1f3f69bb9816bab14a8498d32dca4538f3137a1cfd8e"), looks := true }, kinds := [], alts := [], laidByText := true, laidKinds := [.data, .data, .data, .data, .pinned], laidTests := true, laidLooks := .later }
def ShellProofsUptoCardSaid : Prop := Claim7.holds Tryz.pinned (.plain (OpenSpec.upto shellProofsSpec)) shellProofsUptoCard
end Rows
end Go.Proofs.YthimlgffanlomaaGreatDoor
