/-
  DERIVED. GIVEN WITH THE SEED: THE CARDS: each row of YtmklipblkmlojaaGreatDoorRows.lean that lists a variable, with what it lists TIED to the program's text (the seventh form; the later family's looks); each row that meets fmt, with fmt's text TOLD by the authors' own Lean function (tested against real Go, not proved from fmt's source: count such statements apart). THE CARD IS WHAT COUNTS. Prove the row's statement (the work); the ties are given (YtmklipblkmlojaaGreatDoorTie.lean); close each card by the builder's one call (the guide's Derived/Test/ToyasCard.lean, 'card_holds'). Laid BY PROGRAM, IN A SANDBOX (cutbox-door.mjs). By AI agents, Wed Nov 11 2026. No macro, syntax, notation, axiom, sorry.
-/
import Derived.Test.YtmklipblkmlojaaGreatDoorRows
import GoSem.ClaimSeven
namespace Go.Proofs.YtmklipblkmlojaaGreatDoor
namespace Rows

/-- THE TIED CARD OF 'nacrelaw01.ShellPrints'. -/
def shellPrintsCard : Claim7 := { stood := { row := shellPrintsRow, standIns := [], harness := (true, "502877a27e6ad380bd4278982c55bb5e4a5b9727ef19191685faf1440211eae4"), looks := true }, kinds := [], alts := [], laidByText := true, laidKinds := [.data, .data, .data, .data, .pinned], laidTests := true, laidLooks := .later }
def ShellPrintsCardSaid : Prop := Claim7.holds Tryz.pinned (.plain (OpenSpec.ofChange shellPrintsSpec)) shellPrintsCard

/-- THE TIED CARD OF 'nacrelaw01.ShellReads'. -/
def shellReadsCard : Claim7 := { stood := { row := shellReadsRow, standIns := [], harness := (true, "502877a27e6ad380bd4278982c55bb5e4a5b9727ef19191685faf1440211eae4"), looks := true }, kinds := [], alts := [], laidByText := true, laidKinds := [.data, .data, .data, .data, .pinned], laidTests := true, laidLooks := .later }
def ShellReadsCardSaid : Prop := Claim7.holds Tryz.pinned (.plain (OpenSpec.ofChange shellReadsSpec)) shellReadsCard

/-- THE TIED CARD OF 'nacrelaw01.ShellSpoilt'. -/
def shellSpoiltCard : Claim7 := { stood := { row := shellSpoiltRow, standIns := [], harness := (true, "502877a27e6ad380bd4278982c55bb5e4a5b9727ef19191685faf1440211eae4"), looks := true }, kinds := [], alts := [], laidByText := true, laidKinds := [.data, .data, .data, .data, .pinned], laidTests := true, laidLooks := .later }
def ShellSpoiltCardSaid : Prop := Claim7.holds Tryz.pinned (.plain (OpenSpec.ofChange shellSpoiltSpec)) shellSpoiltCard

/-- THE SECOND FORM's CARD OF 'nacrelaw01.ShellPrints'. -/
def shellPrintsUptoCard : Claim7 := { stood := { row := shellPrintsUptoRow, standIns := [], harness := (true, "502877a27e6ad380bd4278982c55bb5e4a5b9727ef19191685faf1440211eae4"), looks := true }, kinds := [], alts := [], laidByText := true, laidKinds := [.data, .data, .data, .data, .pinned], laidTests := true, laidLooks := .later }
def ShellPrintsUptoCardSaid : Prop := Claim7.holds Tryz.pinned (.plain (OpenSpec.upto shellPrintsSpec)) shellPrintsUptoCard

/-- THE SECOND FORM's CARD OF 'nacrelaw01.ShellReads'. -/
def shellReadsUptoCard : Claim7 := { stood := { row := shellReadsUptoRow, standIns := [], harness := (true, "502877a27e6ad380bd4278982c55bb5e4a5b9727ef19191685faf1440211eae4"), looks := true }, kinds := [], alts := [], laidByText := true, laidKinds := [.data, .data, .data, .data, .pinned], laidTests := true, laidLooks := .later }
def ShellReadsUptoCardSaid : Prop := Claim7.holds Tryz.pinned (.plain (OpenSpec.upto shellReadsSpec)) shellReadsUptoCard

/-- THE SECOND FORM's CARD OF 'nacrelaw01.ShellSpoilt'. -/
def shellSpoiltUptoCard : Claim7 := { stood := { row := shellSpoiltUptoRow, standIns := [], harness := (true, "502877a27e6ad380bd4278982c55bb5e4a5b9727ef19191685faf1440211eae4"), looks := true }, kinds := [], alts := [], laidByText := true, laidKinds := [.data, .data, .data, .data, .pinned], laidTests := true, laidLooks := .later }
def ShellSpoiltUptoCardSaid : Prop := Claim7.holds Tryz.pinned (.plain (OpenSpec.upto shellSpoiltSpec)) shellSpoiltUptoCard
end Rows
end Go.Proofs.YtmklipblkmlojaaGreatDoor
