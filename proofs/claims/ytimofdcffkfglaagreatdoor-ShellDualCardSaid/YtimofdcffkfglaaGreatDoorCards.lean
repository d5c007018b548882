/-
  DERIVED. GIVEN WITH THE SEED: THE CARDS: each row of YtimofdcffkfglaaGreatDoorRows.lean that lists a variable, with what it lists TIED to the program's text (the seventh form; the later family's looks); each row that meets fmt, with fmt's text TOLD by the authors' own Lean function (tested against real Go, not proved from fmt's source: count such statements apart). THE CARD IS WHAT COUNTS. Prove the row's statement (the work); the ties are given (YtimofdcffkfglaaGreatDoorTie.lean); close each card by the builder's one call (the guide's Derived/Test/ToyasCard.lean, 'card_holds'). Laid BY PROGRAM, IN A SANDBOX (cutbox-door.mjs). By AI agents, Wed Nov 11 2026. No macro, syntax, notation, axiom, sorry.
-/
import Derived.Test.YtimofdcffkfglaaGreatDoorRows
import GoSem.ClaimSeven
namespace Go.Proofs.YtimofdcffkfglaaGreatDoor
namespace Rows

/-- THE TIED CARD OF 'nacrelaw01.ShellPacks'. -/
def shellPacksCard : Claim7 := { stood := { row := shellPacksRow, standIns := [], harness := (true, "c2c9bd7e956a487da6ef055bc54be283c8bae8fa94bff2f2b235dcf14c0bc8ef"), looks := true }, kinds := [], alts := [], laidByText := true, laidKinds := [.data, .data, .data, .data, .pinned], laidTests := true, laidLooks := .later }
def ShellPacksCardSaid : Prop := Claim7.holds Tryz.pinned (.plain (OpenSpec.ofChange shellPacksSpec)) shellPacksCard

/-- THE TIED CARD OF 'nacrelaw01.ShellRivals'. -/
def shellRivalsCard : Claim7 := { stood := { row := shellRivalsRow, standIns := [], harness := (true, "c2c9bd7e956a487da6ef055bc54be283c8bae8fa94bff2f2b235dcf14c0bc8ef"), looks := true }, kinds := [], alts := [], laidByText := true, laidKinds := [.data, .data, .data, .data, .pinned], laidTests := true, laidLooks := .later }
def ShellRivalsCardSaid : Prop := Claim7.holds Tryz.pinned (.plain (OpenSpec.ofChange shellRivalsSpec)) shellRivalsCard

/-- THE TIED CARD OF 'nacrelaw01.ShellMore'. -/
def shellMoreCard : Claim7 := { stood := { row := shellMoreRow, standIns := [], harness := (true, "c2c9bd7e956a487da6ef055bc54be283c8bae8fa94bff2f2b235dcf14c0bc8ef"), looks := true }, kinds := [], alts := [], laidByText := true, laidKinds := [.data, .data, .data, .data, .pinned], laidTests := true, laidLooks := .later }
def ShellMoreCardSaid : Prop := Claim7.holds Tryz.pinned (.plain (OpenSpec.ofChange shellMoreSpec)) shellMoreCard

/-- THE TIED CARD OF 'nacrelaw01.ShellTurned'. -/
def shellTurnedCard : Claim7 := { stood := { row := shellTurnedRow, standIns := [], harness := (true, "c2c9bd7e956a487da6ef055bc54be283c8bae8fa94bff2f2b235dcf14c0bc8ef"), looks := true }, kinds := [], alts := [], laidByText := true, laidKinds := [.data, .data, .data, .data, .pinned], laidTests := true, laidLooks := .later }
def ShellTurnedCardSaid : Prop := Claim7.holds Tryz.pinned (.plain (OpenSpec.ofChange shellTurnedSpec)) shellTurnedCard

/-- THE TIED CARD OF 'nacrelaw01.ShellGives'. -/
def shellGivesCard : Claim7 := { stood := { row := shellGivesRow, standIns := [], harness := (true, "c2c9bd7e956a487da6ef055bc54be283c8bae8fa94bff2f2b235dcf14c0bc8ef"), looks := true }, kinds := [], alts := [], laidByText := true, laidKinds := [.data, .data, .data, .data, .pinned], laidTests := true, laidLooks := .later }
def ShellGivesCardSaid : Prop := Claim7.holds Tryz.pinned (.plain (OpenSpec.ofChange shellGivesSpec)) shellGivesCard

/-- THE TIED CARD OF 'nacrelaw01.ShellTrue'. -/
def shellTrueCard : Claim7 := { stood := { row := shellTrueRow, standIns := [], harness := (true, "c2c9bd7e956a487da6ef055bc54be283c8bae8fa94bff2f2b235dcf14c0bc8ef"), looks := true }, kinds := [], alts := [], laidByText := true, laidKinds := [.data, .data, .data, .data, .pinned], laidTests := true, laidLooks := .later }
def ShellTrueCardSaid : Prop := Claim7.holds Tryz.pinned (.plain (OpenSpec.ofChange shellTrueSpec)) shellTrueCard

/-- THE TIED CARD OF 'nacrelaw01.ShellHoles'. -/
def shellHolesCard : Claim7 := { stood := { row := shellHolesRow, standIns := [], harness := (true, "c2c9bd7e956a487da6ef055bc54be283c8bae8fa94bff2f2b235dcf14c0bc8ef"), looks := true }, kinds := [], alts := [], laidByText := true, laidKinds := [.data, .data, .data, .data, .pinned], laidTests := true, laidLooks := .later }
def ShellHolesCardSaid : Prop := Claim7.holds Tryz.pinned (.plain (OpenSpec.ofChange shellHolesSpec)) shellHolesCard

/-- THE TIED CARD OF 'nacrelaw01.ShellSound'. -/
def shellSoundCard : Claim7 := { stood := { row := shellSoundRow, standIns := [], harness := (true, "c2c9bd7e956a487da6ef055bc54be283c8bae8fa94bff2f2b235dcf14c0bc8ef"), looks := true }, kinds := [], alts := [], laidByText := true, laidKinds := [.data, .data, .data, .data, .pinned], laidTests := true, laidLooks := .later }
def ShellSoundCardSaid : Prop := Claim7.holds Tryz.pinned (.plain (OpenSpec.ofChange shellSoundSpec)) shellSoundCard

/-- THE TIED CARD OF 'nacrelaw01.ShellThicks'. -/
def shellThicksCard : Claim7 := { stood := { row := shellThicksRow, standIns := [], harness := (true, "c2c9bd7e956a487da6ef055bc54be283c8bae8fa94bff2f2b235dcf14c0bc8ef"), looks := true }, kinds := [], alts := [], laidByText := true, laidKinds := [.data, .data, .data, .data, .pinned], laidTests := true, laidLooks := .later }
def ShellThicksCardSaid : Prop := Claim7.holds Tryz.pinned (.plain (OpenSpec.ofChange shellThicksSpec)) shellThicksCard

/-- THE TIED CARD OF 'nacrelaw01.ShellWorths'. -/
def shellWorthsCard : Claim7 := { stood := { row := shellWorthsRow, standIns := [], harness := (true, "c2c9bd7e956a487da6ef055bc54be283c8bae8fa94bff2f2b235dcf14c0bc8ef"), looks := true }, kinds := [], alts := [], laidByText := true, laidKinds := [.data, .data, .data, .data, .pinned], laidTests := true, laidLooks := .later }
def ShellWorthsCardSaid : Prop := Claim7.holds Tryz.pinned (.plain (OpenSpec.ofChange shellWorthsSpec)) shellWorthsCard

/-- THE TIED CARD OF 'nacrelaw01.ShellProofs'. -/
def shellProofsCard : Claim7 := { stood := { row := shellProofsRow, standIns := [], harness := (true, "c2c9bd7e956a487da6ef055bc54be283c8bae8fa94bff2f2b235dcf14c0bc8ef"), looks := true }, kinds := [], alts := [], laidByText := true, laidKinds := [.data, .data, .data, .data, .pinned], laidTests := true, laidLooks := .later }
def ShellProofsCardSaid : Prop := Claim7.holds Tryz.pinned (.plain (OpenSpec.ofChange shellProofsSpec)) shellProofsCard

/-- THE TIED CARD OF 'nacrelaw01.ShellDual'. -/
def shellDualCard : Claim7 := { stood := { row := shellDualRow, standIns := [], harness := (true, "c2c9bd7e956a487da6ef055bc54be283c8bae8fa94bff2f2b235dcf14c0bc8ef"), looks := true }, kinds := [], alts := [], laidByText := true, laidKinds := [.data, .data, .data, .data, .pinned], laidTests := true, laidLooks := .later }
def ShellDualCardSaid : Prop := Claim7.holds Tryz.pinned (.plain (OpenSpec.ofChange shellDualSpec)) shellDualCard

/-- THE SECOND FORM's CARD OF 'nacrelaw01.ShellPacks'. -/
def shellPacksUptoCard : Claim7 := { stood := { row := shellPacksUptoRow, standIns := [], harness := (true, "c2c9bd7e956a487da6ef055bc54be283c8bae8fa94bff2f2b235dcf14c0bc8ef"), looks := true }, kinds := [], alts := [], laidByText := true, laidKinds := [.data, .data, .data, .data, .pinned], laidTests := true, laidLooks := .later }
def ShellPacksUptoCardSaid : Prop := Claim7.holds Tryz.pinned (.plain (OpenSpec.upto shellPacksSpec)) shellPacksUptoCard

/-- THE SECOND FORM's CARD OF 'nacrelaw01.ShellRivals'. -/
def shellRivalsUptoCard : Claim7 := { stood := { row := shellRivalsUptoRow, standIns := [], harness := (true, "c2c9bd7e956a487da6ef055bc54be283c8bae8fa94bff2f2b235dcf14c0bc8ef"), looks := true }, kinds := [], alts := [], laidByText := true, laidKinds := [.data, .data, .data, .data, .pinned], laidTests := true, laidLooks := .later }
def ShellRivalsUptoCardSaid : Prop := Claim7.holds Tryz.pinned (.plain (OpenSpec.upto shellRivalsSpec)) shellRivalsUptoCard

/-- THE SECOND FORM's CARD OF 'nacrelaw01.ShellMore'. -/
def shellMoreUptoCard : Claim7 := { stood := { row := shellMoreUptoRow, standIns := [], harness := (true, "c2c9bd7e956a487da6ef055bc54be283c8bae8fa94bff2f2b235dcf14c0bc8ef"), looks := true }, kinds := [], alts := [], laidByText := true, laidKinds := [.data, .data, .data, .data, .pinned], laidTests := true, laidLooks := .later }
def ShellMoreUptoCardSaid : Prop := Claim7.holds Tryz.pinned (.plain (OpenSpec.upto shellMoreSpec)) shellMoreUptoCard

/-- THE SECOND FORM's CARD OF 'nacrelaw01.ShellTurned'. -/
def shellTurnedUptoCard : Claim7 := { stood := { row := shellTurnedUptoRow, standIns := [], harness := (true, "c2c9bd7e956a487da6ef055bc54be283c8bae8fa94bff2f2b235dcf14c0bc8ef"), looks := true }, kinds := [], alts := [], laidByText := true, laidKinds := [.data, .data, .data, .data, .pinned], laidTests := true, laidLooks := .later }
def ShellTurnedUptoCardSaid : Prop := Claim7.holds Tryz.pinned (.plain (OpenSpec.upto shellTurnedSpec)) shellTurnedUptoCard

/-- THE SECOND FORM's CARD OF 'nacrelaw01.ShellGives'. -/
def shellGivesUptoCard : Claim7 := { stood := { row := shellGivesUptoRow, standIns := [], harness := (true, "c2c9bd7e956a487da6ef055bc54be283c8bae8fa94bff2f2b235dcf14c0bc8ef"), looks := true }, kinds := [], alts := [], laidByText := true, laidKinds := [.data, .data, .data, .data, .pinned], laidTests := true, laidLooks := .later }
def ShellGivesUptoCardSaid : Prop := Claim7.holds Tryz.pinned (.plain (OpenSpec.upto shellGivesSpec)) shellGivesUptoCard

/-- THE SECOND FORM's CARD OF 'nacrelaw01.ShellTrue'. -/
def shellTrueUptoCard : Claim7 := { stood := { row := shellTrueUptoRow, standIns := [], harness := (true, "c2c9bd7e956a487da6ef055bc54be283c8bae8fa94bff2f2b235dcf14c0bc8ef"), looks := true }, kinds := [], alts := [], laidByText := true, laidKinds := [.data, .data, .data, .data, .pinned], laidTests := true, laidLooks := .later }
def ShellTrueUptoCardSaid : Prop := Claim7.holds Tryz.pinned (.plain (OpenSpec.upto shellTrueSpec)) shellTrueUptoCard

/-- THE SECOND FORM's CARD OF 'nacrelaw01.ShellHoles'. -/
def shellHolesUptoCard : Claim7 := { stood := { row := shellHolesUptoRow, standIns := [], harness := (true, "c2c9bd7e956a487da6ef055bc54be283c8bae8fa94bff2f2b235dcf14c0bc8ef"), looks := true }, kinds := [], alts := [], laidByText := true, laidKinds := [.data, .data, .data, .data, .pinned], laidTests := true, laidLooks := .later }
def ShellHolesUptoCardSaid : Prop := Claim7.holds Tryz.pinned (.plain (OpenSpec.upto shellHolesSpec)) shellHolesUptoCard

/-- THE SECOND FORM's CARD OF 'nacrelaw01.ShellSound'. -/
def shellSoundUptoCard : Claim7 := { stood := { row := shellSoundUptoRow, standIns := [], harness := (true, "c2c9bd7e956a487da6ef055bc54be283c8bae8fa94bff2f2b235dcf14c0bc8ef"), looks := true }, kinds := [], alts := [], laidByText := true, laidKinds := [.data, .data, .data, .data, .pinned], laidTests := true, laidLooks := .later }
def ShellSoundUptoCardSaid : Prop := Claim7.holds Tryz.pinned (.plain (OpenSpec.upto shellSoundSpec)) shellSoundUptoCard

/-- THE SECOND FORM's CARD OF 'nacrelaw01.ShellThicks'. -/
def shellThicksUptoCard : Claim7 := { stood := { row := shellThicksUptoRow, standIns := [], harness := (true, "c2c9bd7e956a487da6ef055bc54be283c8bae8fa94bff2f2b235dcf14c0bc8ef"), looks := true }, kinds := [], alts := [], laidByText := true, laidKinds := [.data, .data, .data, .data, .pinned], laidTests := true, laidLooks := .later }
def ShellThicksUptoCardSaid : Prop := Claim7.holds Tryz.pinned (.plain (OpenSpec.upto shellThicksSpec)) shellThicksUptoCard

/-- THE SECOND FORM's CARD OF 'nacrelaw01.ShellWorths'. -/
def shellWorthsUptoCard : Claim7 := { stood := { row := shellWorthsUptoRow, standIns := [], harness := (true, "c2c9bd7e956a487da6ef055bc54be283c8bae8fa94bff2f2b235dcf14c0bc8ef"), looks := true }, kinds := [], alts := [], laidByText := true, laidKinds := [.data, .data, .data, .data, .pinned], laidTests := true, laidLooks := .later }
def ShellWorthsUptoCardSaid : Prop := Claim7.holds Tryz.pinned (.plain (OpenSpec.upto shellWorthsSpec)) shellWorthsUptoCard

/-- THE SECOND FORM's CARD OF 'nacrelaw01.ShellProofs'. -/
def shellProofsUptoCard : Claim7 := { stood := { row := shellProofsUptoRow, standIns := [], harness := (true, "c2c9bd7e956a487da6ef055bc54be283c8bae8fa94bff2f2b235dcf14c0bc8ef"), looks := true }, kinds := [], alts := [], laidByText := true, laidKinds := [.data, .data, .data, .data, .pinned], laidTests := true, laidLooks := .later }
def ShellProofsUptoCardSaid : Prop := Claim7.holds Tryz.pinned (.plain (OpenSpec.upto shellProofsSpec)) shellProofsUptoCard

/-- THE SECOND FORM's CARD OF 'nacrelaw01.ShellDual'. -/
def shellDualUptoCard : Claim7 := { stood := { row := shellDualUptoRow, standIns := [], harness := (true, "c2c9bd7e956a487da6ef055bc54be283c8bae8fa94bff2f2b235dcf14c0bc8ef"), looks := true }, kinds := [], alts := [], laidByText := true, laidKinds := [.data, .data, .data, .data, .pinned], laidTests := true, laidLooks := .later }
def ShellDualUptoCardSaid : Prop := Claim7.holds Tryz.pinned (.plain (OpenSpec.upto shellDualSpec)) shellDualUptoCard
end Rows
end Go.Proofs.YtimofdcffkfglaaGreatDoor
