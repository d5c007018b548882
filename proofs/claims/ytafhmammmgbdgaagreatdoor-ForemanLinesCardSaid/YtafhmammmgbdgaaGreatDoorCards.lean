/-
  DERIVED. GIVEN WITH THE SEED: THE CARDS: each row of YtafhmammmgbdgaaGreatDoorRows.lean that lists a variable, with what it lists TIED to the program's text (the seventh form; the later family's looks); each row that meets fmt, with fmt's text TOLD by the authors' own Lean function (tested against real Go, not proved from fmt's source: count such statements apart). THE CARD IS WHAT COUNTS. Prove the row's statement (the work); the ties are given (YtafhmammmgbdgaaGreatDoorTie.lean); close each card by the builder's one call (the guide's Derived/Test/ToyasCard.lean, 'card_holds'). Laid BY PROGRAM, IN A SANDBOX (cutbox-door.mjs). By AI agents, Wed Nov 11 2026. No macro, syntax, notation, axiom, sorry.
-/
import Derived.Test.YtafhmammmgbdgaaGreatDoorRows
import GoSem.ClaimSeven
namespace Go.Proofs.YtafhmammmgbdgaaGreatDoor
namespace Rows

/-- THE TIED CARD OF 'nacrelaw10.ForemanNil'. -/
def foremanNilCard : Claim7 := { stood := { row := foremanNilRow, standIns := [], harness := (true, "a34bcd0c1a131bc9932c465b34507202c7d22573697d6e7e2c5441023ee42ef7"), looks := true }, kinds := [], alts := [], laidByText := true, laidKinds := [.data, .data, .data, .data, .pinned], laidTests := true, laidLooks := .later }
def ForemanNilCardSaid : Prop := Claim7.holds Tryz.pinned (.plain (OpenSpec.ofChange foremanNilSpec)) foremanNilCard

/-- THE TIED CARD OF 'nacrelaw10.ForemanLines'. -/
def foremanLinesCard : Claim7 := { stood := { row := foremanLinesRow, standIns := [], harness := (true, "a34bcd0c1a131bc9932c465b34507202c7d22573697d6e7e2c5441023ee42ef7"), looks := true }, kinds := [], alts := [], laidByText := true, laidKinds := [.data, .data, .data, .data, .pinned], laidTests := true, laidLooks := .later }
def ForemanLinesCardSaid : Prop := Claim7.holds Tryz.pinned (.plain (OpenSpec.ofChange foremanLinesSpec)) foremanLinesCard

/-- THE TIED CARD OF 'nacrelaw10.ForemanParses'. -/
def foremanParsesCard : Claim7 := { stood := { row := foremanParsesRow, standIns := [], harness := (true, "a34bcd0c1a131bc9932c465b34507202c7d22573697d6e7e2c5441023ee42ef7"), looks := true }, kinds := [], alts := [], laidByText := true, laidKinds := [.data, .data, .data, .data, .pinned], laidTests := true, laidLooks := .later }
def ForemanParsesCardSaid : Prop := Claim7.holds Tryz.pinned (.plain (OpenSpec.ofChange foremanParsesSpec)) foremanParsesCard

/-- THE SECOND FORM's CARD OF 'nacrelaw10.ForemanNil'. -/
def foremanNilUptoCard : Claim7 := { stood := { row := foremanNilUptoRow, standIns := [], harness := (true, "a34bcd0c1a131bc9932c465b34507202c7d22573697d6e7e2c5441023ee42ef7"), looks := true }, kinds := [], alts := [], laidByText := true, laidKinds := [.data, .data, .data, .data, .pinned], laidTests := true, laidLooks := .later }
def ForemanNilUptoCardSaid : Prop := Claim7.holds Tryz.pinned (.plain (OpenSpec.upto foremanNilSpec)) foremanNilUptoCard

/-- THE SECOND FORM's CARD OF 'nacrelaw10.ForemanLines'. -/
def foremanLinesUptoCard : Claim7 := { stood := { row := foremanLinesUptoRow, standIns := [], harness := (true, "a34bcd0c1a131bc9932c465b34507202c7d22573697d6e7e2c5441023ee42ef7"), looks := true }, kinds := [], alts := [], laidByText := true, laidKinds := [.data, .data, .data, .data, .pinned], laidTests := true, laidLooks := .later }
def ForemanLinesUptoCardSaid : Prop := Claim7.holds Tryz.pinned (.plain (OpenSpec.upto foremanLinesSpec)) foremanLinesUptoCard

/-- THE SECOND FORM's CARD OF 'nacrelaw10.ForemanParses'. -/
def foremanParsesUptoCard : Claim7 := { stood := { row := foremanParsesUptoRow, standIns := [], harness := (true, "a34bcd0c1a131bc9932c465b34507202c7d22573697d6e7e2c5441023ee42ef7"), looks := true }, kinds := [], alts := [], laidByText := true, laidKinds := [.data, .data, .data, .data, .pinned], laidTests := true, laidLooks := .later }
def ForemanParsesUptoCardSaid : Prop := Claim7.holds Tryz.pinned (.plain (OpenSpec.upto foremanParsesSpec)) foremanParsesUptoCard
end Rows
end Go.Proofs.YtafhmammmgbdgaaGreatDoor
