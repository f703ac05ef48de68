/-
  DERIVED. GIVEN WITH THE SEED: THE CARDS: each row of YtdbppcildogedaaGreatDoorRows.lean that lists a variable, with what it lists TIED to the program's text (the seventh form; the later family's looks); each row that meets fmt, with fmt's text TOLD by the authors' own Lean function (tested against real Go, not proved from fmt's source: count such statements apart). THE CARD IS WHAT COUNTS. Prove the row's statement (the work); the ties are given (YtdbppcildogedaaGreatDoorTie.lean); close each card by the builder's one call (the guide's Derived/Test/ToyasCard.lean, 'card_holds'). Laid BY PROGRAM, IN A SANDBOX (cutbox-door.mjs). By AI agents, Wed Nov 11 2026. No macro, syntax, notation, axiom, sorry.
-/
import Derived.Test.YtdbppcildogedaaGreatDoorRows
import GoSem.ClaimSeven
namespace Go.Proofs.YtdbppcildogedaaGreatDoor
namespace Rows

/-- THE TIED CARD OF 'laws.FnTableValid'. -/
def fnTableValidCard : Claim7 := { stood := { row := fnTableValidRow, standIns := [], harness := (true, "daaa5c0a9fa15d3066f4a4b5981b63e993b7e2d3b6c1873938c0b7bd0ade4cff"), looks := false }, kinds := [], alts := [], laidByText := true, laidKinds := [.data, .data], laidTests := true, laidLooks := .later }
def FnTableValidCardSaid : Prop := Claim7.holds Tryz.pinned (.plain (OpenSpec.ofChange fnTableValidSpec)) fnTableValidCard

/-- THE TIED CARD OF 'laws.FnTableRows'. -/
def fnTableRowsCard : Claim7 := { stood := { row := fnTableRowsRow, standIns := [], harness := (true, "daaa5c0a9fa15d3066f4a4b5981b63e993b7e2d3b6c1873938c0b7bd0ade4cff"), looks := false }, kinds := [], alts := [], laidByText := true, laidKinds := [.data, .data], laidTests := true, laidLooks := .later }
def FnTableRowsCardSaid : Prop := Claim7.holds Tryz.pinned (.plain (OpenSpec.ofChange fnTableRowsSpec)) fnTableRowsCard

/-- THE TIED CARD OF 'laws.FnOpenRow'. -/
def fnOpenRowCard : Claim7 := { stood := { row := fnOpenRowRow, standIns := [], harness := (true, "daaa5c0a9fa15d3066f4a4b5981b63e993b7e2d3b6c1873938c0b7bd0ade4cff"), looks := false }, kinds := [], alts := [], laidByText := true, laidKinds := [.data, .data], laidTests := true, laidLooks := .later }
def FnOpenRowCardSaid : Prop := Claim7.holds Tryz.pinned (.plain (OpenSpec.ofChange fnOpenRowSpec)) fnOpenRowCard

/-- THE TIED CARD OF 'laws.FnFirstOpen'. -/
def fnFirstOpenCard : Claim7 := { stood := { row := fnFirstOpenRow, standIns := [], harness := (true, "daaa5c0a9fa15d3066f4a4b5981b63e993b7e2d3b6c1873938c0b7bd0ade4cff"), looks := false }, kinds := [], alts := [], laidByText := true, laidKinds := [.data, .data], laidTests := true, laidLooks := .later }
def FnFirstOpenCardSaid : Prop := Claim7.holds Tryz.pinned (.plain (OpenSpec.ofChange fnFirstOpenSpec)) fnFirstOpenCard

/-- THE TIED CARD OF 'laws.FnRowOf'. -/
def fnRowOfCard : Claim7 := { stood := { row := fnRowOfRow, standIns := [], harness := (true, "daaa5c0a9fa15d3066f4a4b5981b63e993b7e2d3b6c1873938c0b7bd0ade4cff"), looks := false }, kinds := [], alts := [], laidByText := true, laidKinds := [.data, .data], laidTests := true, laidLooks := .later }
def FnRowOfCardSaid : Prop := Claim7.holds Tryz.pinned (.plain (OpenSpec.ofChange fnRowOfSpec)) fnRowOfCard

/-- THE TIED CARD OF 'laws.FnNewTable'. -/
def fnNewTableCard : Claim7 := { stood := { row := fnNewTableRow, standIns := [], harness := (true, "daaa5c0a9fa15d3066f4a4b5981b63e993b7e2d3b6c1873938c0b7bd0ade4cff"), looks := false }, kinds := [], alts := [], laidByText := true, laidKinds := [.data, .data], laidTests := true, laidLooks := .later }
def FnNewTableCardSaid : Prop := Claim7.holds Tryz.pinned (.plain (OpenSpec.ofChange fnNewTableSpec)) fnNewTableCard

/-- THE TIED CARD OF 'laws.FnCloseKnown'. -/
def fnCloseKnownCard : Claim7 := { stood := { row := fnCloseKnownRow, standIns := [], harness := (true, "daaa5c0a9fa15d3066f4a4b5981b63e993b7e2d3b6c1873938c0b7bd0ade4cff"), looks := false }, kinds := [], alts := [], laidByText := true, laidKinds := [.data, .data], laidTests := true, laidLooks := .later }
def FnCloseKnownCardSaid : Prop := Claim7.holds Tryz.pinned (.plain (OpenSpec.ofChange fnCloseKnownSpec)) fnCloseKnownCard

/-- THE TIED CARD OF 'laws.FnCloseTable'. -/
def fnCloseTableCard : Claim7 := { stood := { row := fnCloseTableRow, standIns := [], harness := (true, "daaa5c0a9fa15d3066f4a4b5981b63e993b7e2d3b6c1873938c0b7bd0ade4cff"), looks := false }, kinds := [], alts := [], laidByText := true, laidKinds := [.data, .data], laidTests := true, laidLooks := .later }
def FnCloseTableCardSaid : Prop := Claim7.holds Tryz.pinned (.plain (OpenSpec.ofChange fnCloseTableSpec)) fnCloseTableCard

/-- THE TIED CARD OF 'laws.FnCloseTwice'. -/
def fnCloseTwiceCard : Claim7 := { stood := { row := fnCloseTwiceRow, standIns := [], harness := (true, "daaa5c0a9fa15d3066f4a4b5981b63e993b7e2d3b6c1873938c0b7bd0ade4cff"), looks := false }, kinds := [], alts := [], laidByText := true, laidKinds := [.data, .data], laidTests := true, laidLooks := .later }
def FnCloseTwiceCardSaid : Prop := Claim7.holds Tryz.pinned (.plain (OpenSpec.ofChange fnCloseTwiceSpec)) fnCloseTwiceCard

/-- THE TIED CARD OF 'laws.FnAddColumn'. -/
def fnAddColumnCard : Claim7 := { stood := { row := fnAddColumnRow, standIns := [], harness := (true, "daaa5c0a9fa15d3066f4a4b5981b63e993b7e2d3b6c1873938c0b7bd0ade4cff"), looks := false }, kinds := [], alts := [], laidByText := true, laidKinds := [.data, .data], laidTests := true, laidLooks := .later }
def FnAddColumnCardSaid : Prop := Claim7.holds Tryz.pinned (.plain (OpenSpec.ofChange fnAddColumnSpec)) fnAddColumnCard

/-- THE TIED CARD OF 'laws.FnRowNext'. -/
def fnRowNextCard : Claim7 := { stood := { row := fnRowNextRow, standIns := [], harness := (true, "daaa5c0a9fa15d3066f4a4b5981b63e993b7e2d3b6c1873938c0b7bd0ade4cff"), looks := false }, kinds := [], alts := [], laidByText := true, laidKinds := [.data, .data], laidTests := true, laidLooks := .later }
def FnRowNextCardSaid : Prop := Claim7.holds Tryz.pinned (.plain (OpenSpec.ofChange fnRowNextSpec)) fnRowNextCard

/-- THE TIED CARD OF 'laws.FnTableAutomaton'. -/
def fnTableAutomatonCard : Claim7 := { stood := { row := fnTableAutomatonRow, standIns := [], harness := (true, "daaa5c0a9fa15d3066f4a4b5981b63e993b7e2d3b6c1873938c0b7bd0ade4cff"), looks := false }, kinds := [], alts := [], laidByText := true, laidKinds := [.data, .data], laidTests := true, laidLooks := .later }
def FnTableAutomatonCardSaid : Prop := Claim7.holds Tryz.pinned (.plain (OpenSpec.ofChange fnTableAutomatonSpec)) fnTableAutomatonCard

/-- THE SECOND FORM's CARD OF 'laws.FnTableValid'. -/
def fnTableValidUptoCard : Claim7 := { stood := { row := fnTableValidUptoRow, standIns := [], harness := (true, "daaa5c0a9fa15d3066f4a4b5981b63e993b7e2d3b6c1873938c0b7bd0ade4cff"), looks := false }, kinds := [], alts := [], laidByText := true, laidKinds := [.data, .data], laidTests := true, laidLooks := .later }
def FnTableValidUptoCardSaid : Prop := Claim7.holds Tryz.pinned (.plain (OpenSpec.upto fnTableValidSpec)) fnTableValidUptoCard

/-- THE SECOND FORM's CARD OF 'laws.FnTableRows'. -/
def fnTableRowsUptoCard : Claim7 := { stood := { row := fnTableRowsUptoRow, standIns := [], harness := (true, "daaa5c0a9fa15d3066f4a4b5981b63e993b7e2d3b6c1873938c0b7bd0ade4cff"), looks := false }, kinds := [], alts := [], laidByText := true, laidKinds := [.data, .data], laidTests := true, laidLooks := .later }
def FnTableRowsUptoCardSaid : Prop := Claim7.holds Tryz.pinned (.plain (OpenSpec.upto fnTableRowsSpec)) fnTableRowsUptoCard

/-- THE SECOND FORM's CARD OF 'laws.FnOpenRow'. -/
def fnOpenRowUptoCard : Claim7 := { stood := { row := fnOpenRowUptoRow, standIns := [], harness := (true, "daaa5c0a9fa15d3066f4a4b5981b63e993b7e2d3b6c1873938c0b7bd0ade4cff"), looks := false }, kinds := [], alts := [], laidByText := true, laidKinds := [.data, .data], laidTests := true, laidLooks := .later }
def FnOpenRowUptoCardSaid : Prop := Claim7.holds Tryz.pinned (.plain (OpenSpec.upto fnOpenRowSpec)) fnOpenRowUptoCard

/-- THE SECOND FORM's CARD OF 'laws.FnFirstOpen'. -/
def fnFirstOpenUptoCard : Claim7 := { stood := { row := fnFirstOpenUptoRow, standIns := [], harness := (true, "daaa5c0a9fa15d3066f4a4b5981b63e993b7e2d3b6c1873938c0b7bd0ade4cff"), looks := false }, kinds := [], alts := [], laidByText := true, laidKinds := [.data, .data], laidTests := true, laidLooks := .later }
def FnFirstOpenUptoCardSaid : Prop := Claim7.holds Tryz.pinned (.plain (OpenSpec.upto fnFirstOpenSpec)) fnFirstOpenUptoCard

/-- THE SECOND FORM's CARD OF 'laws.FnRowOf'. -/
def fnRowOfUptoCard : Claim7 := { stood := { row := fnRowOfUptoRow, standIns := [], harness := (true, "daaa5c0a9fa15d3066f4a4b5981b63e993b7e2d3b6c1873938c0b7bd0ade4cff"), looks := false }, kinds := [], alts := [], laidByText := true, laidKinds := [.data, .data], laidTests := true, laidLooks := .later }
def FnRowOfUptoCardSaid : Prop := Claim7.holds Tryz.pinned (.plain (OpenSpec.upto fnRowOfSpec)) fnRowOfUptoCard

/-- THE SECOND FORM's CARD OF 'laws.FnNewTable'. -/
def fnNewTableUptoCard : Claim7 := { stood := { row := fnNewTableUptoRow, standIns := [], harness := (true, "daaa5c0a9fa15d3066f4a4b5981b63e993b7e2d3b6c1873938c0b7bd0ade4cff"), looks := false }, kinds := [], alts := [], laidByText := true, laidKinds := [.data, .data], laidTests := true, laidLooks := .later }
def FnNewTableUptoCardSaid : Prop := Claim7.holds Tryz.pinned (.plain (OpenSpec.upto fnNewTableSpec)) fnNewTableUptoCard

/-- THE SECOND FORM's CARD OF 'laws.FnCloseKnown'. -/
def fnCloseKnownUptoCard : Claim7 := { stood := { row := fnCloseKnownUptoRow, standIns := [], harness := (true, "daaa5c0a9fa15d3066f4a4b5981b63e993b7e2d3b6c1873938c0b7bd0ade4cff"), looks := false }, kinds := [], alts := [], laidByText := true, laidKinds := [.data, .data], laidTests := true, laidLooks := .later }
def FnCloseKnownUptoCardSaid : Prop := Claim7.holds Tryz.pinned (.plain (OpenSpec.upto fnCloseKnownSpec)) fnCloseKnownUptoCard

/-- THE SECOND FORM's CARD OF 'laws.FnCloseTable'. -/
def fnCloseTableUptoCard : Claim7 := { stood := { row := fnCloseTableUptoRow, standIns := [], harness := (true, "daaa5c0a9fa15d3066f4a4b5981b63e993b7e2d3b6c1873938c0b7bd0ade4cff"), looks := false }, kinds := [], alts := [], laidByText := true, laidKinds := [.data, .data], laidTests := true, laidLooks := .later }
def FnCloseTableUptoCardSaid : Prop := Claim7.holds Tryz.pinned (.plain (OpenSpec.upto fnCloseTableSpec)) fnCloseTableUptoCard

/-- THE SECOND FORM's CARD OF 'laws.FnCloseTwice'. -/
def fnCloseTwiceUptoCard : Claim7 := { stood := { row := fnCloseTwiceUptoRow, standIns := [], harness := (true, "daaa5c0a9fa15d3066f4a4b5981b63e993b7e2d3b6c1873938c0b7bd0ade4cff"), looks := false }, kinds := [], alts := [], laidByText := true, laidKinds := [.data, .data], laidTests := true, laidLooks := .later }
def FnCloseTwiceUptoCardSaid : Prop := Claim7.holds Tryz.pinned (.plain (OpenSpec.upto fnCloseTwiceSpec)) fnCloseTwiceUptoCard

/-- THE SECOND FORM's CARD OF 'laws.FnAddColumn'. -/
def fnAddColumnUptoCard : Claim7 := { stood := { row := fnAddColumnUptoRow, standIns := [], harness := (true, "daaa5c0a9fa15d3066f4a4b5981b63e993b7e2d3b6c1873938c0b7bd0ade4cff"), looks := false }, kinds := [], alts := [], laidByText := true, laidKinds := [.data, .data], laidTests := true, laidLooks := .later }
def FnAddColumnUptoCardSaid : Prop := Claim7.holds Tryz.pinned (.plain (OpenSpec.upto fnAddColumnSpec)) fnAddColumnUptoCard

/-- THE SECOND FORM's CARD OF 'laws.FnRowNext'. -/
def fnRowNextUptoCard : Claim7 := { stood := { row := fnRowNextUptoRow, standIns := [], harness := (true, "daaa5c0a9fa15d3066f4a4b5981b63e993b7e2d3b6c1873938c0b7bd0ade4cff"), looks := false }, kinds := [], alts := [], laidByText := true, laidKinds := [.data, .data], laidTests := true, laidLooks := .later }
def FnRowNextUptoCardSaid : Prop := Claim7.holds Tryz.pinned (.plain (OpenSpec.upto fnRowNextSpec)) fnRowNextUptoCard

/-- THE SECOND FORM's CARD OF 'laws.FnTableAutomaton'. -/
def fnTableAutomatonUptoCard : Claim7 := { stood := { row := fnTableAutomatonUptoRow, standIns := [], harness := (true, "daaa5c0a9fa15d3066f4a4b5981b63e993b7e2d3b6c1873938c0b7bd0ade4cff"), looks := false }, kinds := [], alts := [], laidByText := true, laidKinds := [.data, .data], laidTests := true, laidLooks := .later }
def FnTableAutomatonUptoCardSaid : Prop := Claim7.holds Tryz.pinned (.plain (OpenSpec.upto fnTableAutomatonSpec)) fnTableAutomatonUptoCard
end Rows
end Go.Proofs.YtdbppcildogedaaGreatDoor
