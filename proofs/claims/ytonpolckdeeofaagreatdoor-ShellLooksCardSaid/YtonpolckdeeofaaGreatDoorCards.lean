/-
  DERIVED. GIVEN WITH THE SEED: THE CARDS: each row of YtonpolckdeeofaaGreatDoorRows.lean that lists a variable, with what it lists TIED to the program's text (the seventh form; the later family's looks); each row that meets fmt, with fmt's text TOLD by the authors' own Lean function (tested against real Go, not proved from fmt's source: count such statements apart). THE CARD IS WHAT COUNTS. Prove the row's statement (the work); the ties are given (YtonpolckdeeofaaGreatDoorTie.lean); close each card by the builder's one call (the guide's Derived/Test/ToyasCard.lean, 'card_holds'). Laid BY PROGRAM, IN A SANDBOX (cutbox-door.mjs). By AI agents, Wed Nov 11 2026. No macro, syntax, notation, axiom, sorry.
-/
import Derived.Test.YtonpolckdeeofaaGreatDoorRows
import GoSem.ClaimSeven
namespace Go.Proofs.YtonpolckdeeofaaGreatDoor
namespace Rows

/-- THE TIED CARD OF 'nacrelaw01.ShellLooks'. -/
def shellLooksCard : Claim7 := { stood := { row := shellLooksRow, standIns := [], harness := (true, "4585271c7ea1d206ab56dba5cb8a60d577c1174aae7db7ad3b2c692912e28148"), looks := true }, kinds := [], alts := [], laidByText := true, laidKinds := [.data, .data, .data, .data, .pinned], laidTests := true, laidLooks := .later }
def ShellLooksCardSaid : Prop := Claim7.holds Tryz.pinned (.plain (OpenSpec.ofChange shellLooksSpec)) shellLooksCard

/-- THE TIED CARD OF 'nacrelaw01.ShellLooked'. -/
def shellLookedCard : Claim7 := { stood := { row := shellLookedRow, standIns := [], harness := (true, "4585271c7ea1d206ab56dba5cb8a60d577c1174aae7db7ad3b2c692912e28148"), looks := true }, kinds := [], alts := [], laidByText := true, laidKinds := [.data, .data, .data, .data, .pinned], laidTests := true, laidLooks := .later }
def ShellLookedCardSaid : Prop := Claim7.holds Tryz.pinned (.plain (OpenSpec.ofChange shellLookedSpec)) shellLookedCard

/-- THE TIED CARD OF 'nacrelaw01.ShellHeld'. -/
def shellHeldCard : Claim7 := { stood := { row := shellHeldRow, standIns := [], harness := (true, "4585271c7ea1d206ab56dba5cb8a60d577c1174aae7db7ad3b2c692912e28148"), looks := true }, kinds := [], alts := [], laidByText := true, laidKinds := [.data, .data, .data, .data, .pinned], laidTests := true, laidLooks := .later }
def ShellHeldCardSaid : Prop := Claim7.holds Tryz.pinned (.plain (OpenSpec.ofChange shellHeldSpec)) shellHeldCard

/-- THE TIED CARD OF 'nacrelaw01.ShellSacks'. -/
def shellSacksCard : Claim7 := { stood := { row := shellSacksRow, standIns := [], harness := (true, "4585271c7ea1d206ab56dba5cb8a60d577c1174aae7db7ad3b2c692912e28148"), looks := true }, kinds := [], alts := [], laidByText := true, laidKinds := [.data, .data, .data, .data, .pinned], laidTests := true, laidLooks := .later }
def ShellSacksCardSaid : Prop := Claim7.holds Tryz.pinned (.plain (OpenSpec.ofChange shellSacksSpec)) shellSacksCard

/-- THE SECOND FORM's CARD OF 'nacrelaw01.ShellLooks'. -/
def shellLooksUptoCard : Claim7 := { stood := { row := shellLooksUptoRow, standIns := [], harness := (true, "4585271c7ea1d206ab56dba5cb8a60d577c1174aae7db7ad3b2c692912e28148"), looks := true }, kinds := [], alts := [], laidByText := true, laidKinds := [.data, .data, .data, .data, .pinned], laidTests := true, laidLooks := .later }
def ShellLooksUptoCardSaid : Prop := Claim7.holds Tryz.pinned (.plain (OpenSpec.upto shellLooksSpec)) shellLooksUptoCard

/-- THE SECOND FORM's CARD OF 'nacrelaw01.ShellLooked'. -/
def shellLookedUptoCard : Claim7 := { stood := { row := shellLookedUptoRow, standIns := [], harness := (true, "4585271c7ea1d206ab56dba5cb8a60d577c1174aae7db7ad3b2c692912e28148"), looks := true }, kinds := [], alts := [], laidByText := true, laidKinds := [.data, .data, .data, .data, .pinned], laidTests := true, laidLooks := .later }
def ShellLookedUptoCardSaid : Prop := Claim7.holds Tryz.pinned (.plain (OpenSpec.upto shellLookedSpec)) shellLookedUptoCard

/-- THE SECOND FORM's CARD OF 'nacrelaw01.ShellHeld'. -/
def shellHeldUptoCard : Claim7 := { stood := { row := shellHeldUptoRow, standIns := [], harness := (true, "4585271c7ea1d206ab56dba5cb8a60d577c1174aae7db7ad3b2c692912e28148"), looks := true }, kinds := [], alts := [], laidByText := true, laidKinds := [.data, .data, .data, .data, .pinned], laidTests := true, laidLooks := .later }
def ShellHeldUptoCardSaid : Prop := Claim7.holds Tryz.pinned (.plain (OpenSpec.upto shellHeldSpec)) shellHeldUptoCard

/-- THE SECOND FORM's CARD OF 'nacrelaw01.ShellSacks'. -/
def shellSacksUptoCard : Claim7 := { stood := { row := shellSacksUptoRow, standIns := [], harness := (true, "4585271c7ea1d206ab56dba5cb8a60d577c1174aae7db7ad3b2c692912e28148"), looks := true }, kinds := [], alts := [], laidByText := true, laidKinds := [.data, .data, .data, .data, .pinned], laidTests := true, laidLooks := .later }
def ShellSacksUptoCardSaid : Prop := Claim7.holds Tryz.pinned (.plain (OpenSpec.upto shellSacksSpec)) shellSacksUptoCard
end Rows
end Go.Proofs.YtonpolckdeeofaaGreatDoor
