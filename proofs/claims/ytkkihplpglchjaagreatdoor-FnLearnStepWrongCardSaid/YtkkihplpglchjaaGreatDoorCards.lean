/-
  DERIVED. GIVEN WITH THE SEED: THE CARDS: each row of YtkkihplpglchjaaGreatDoorRows.lean that lists a variable, with what it lists TIED to the program's text (the seventh form; the later family's looks); each row that meets fmt, with fmt's text TOLD by the authors' own Lean function (tested against real Go, not proved from fmt's source: count such statements apart). THE CARD IS WHAT COUNTS. Prove the row's statement (the work); the ties are given (YtkkihplpglchjaaGreatDoorTie.lean); close each card by the builder's one call (the guide's Derived/Test/ToyasCard.lean, 'card_holds'). Laid BY PROGRAM, IN A SANDBOX (cutbox-door.mjs). By AI agents, Wed Nov 11 2026. No macro, syntax, notation, axiom, sorry.
-/
import Derived.Test.YtkkihplpglchjaaGreatDoorRows
import GoSem.ClaimSeven
namespace Go.Proofs.YtkkihplpglchjaaGreatDoor
namespace Rows

/-- THE TIED CARD OF 'laws.FnTableRows'. -/
def fnTableRowsCard : Claim7 := { stood := { row := fnTableRowsRow, standIns := [], harness := (true, "e8b64ebb1725c344af3989699219fd1863097cdf4b4c3f809fcc3772c78b5c08"), looks := false }, kinds := [], alts := [], laidByText := true, laidKinds := [.data, .data], laidTests := true, laidLooks := .later }
def FnTableRowsCardSaid : Prop := Claim7.holds Tryz.pinned (.plain (OpenSpec.ofChange fnTableRowsSpec)) fnTableRowsCard

/-- THE TIED CARD OF 'laws.FnOpenRow'. -/
def fnOpenRowCard : Claim7 := { stood := { row := fnOpenRowRow, standIns := [], harness := (true, "e8b64ebb1725c344af3989699219fd1863097cdf4b4c3f809fcc3772c78b5c08"), looks := false }, kinds := [], alts := [], laidByText := true, laidKinds := [.data, .data], laidTests := true, laidLooks := .later }
def FnOpenRowCardSaid : Prop := Claim7.holds Tryz.pinned (.plain (OpenSpec.ofChange fnOpenRowSpec)) fnOpenRowCard

/-- THE TIED CARD OF 'laws.FnNewTable'. -/
def fnNewTableCard : Claim7 := { stood := { row := fnNewTableRow, standIns := [], harness := (true, "e8b64ebb1725c344af3989699219fd1863097cdf4b4c3f809fcc3772c78b5c08"), looks := false }, kinds := [], alts := [], laidByText := true, laidKinds := [.data, .data], laidTests := true, laidLooks := .later }
def FnNewTableCardSaid : Prop := Claim7.holds Tryz.pinned (.plain (OpenSpec.ofChange fnNewTableSpec)) fnNewTableCard

/-- THE TIED CARD OF 'laws.FnAddColumn'. -/
def fnAddColumnCard : Claim7 := { stood := { row := fnAddColumnRow, standIns := [], harness := (true, "e8b64ebb1725c344af3989699219fd1863097cdf4b4c3f809fcc3772c78b5c08"), looks := false }, kinds := [], alts := [], laidByText := true, laidKinds := [.data, .data], laidTests := true, laidLooks := .later }
def FnAddColumnCardSaid : Prop := Claim7.holds Tryz.pinned (.plain (OpenSpec.ofChange fnAddColumnSpec)) fnAddColumnCard

/-- THE TIED CARD OF 'laws.FnRowNext'. -/
def fnRowNextCard : Claim7 := { stood := { row := fnRowNextRow, standIns := [], harness := (true, "e8b64ebb1725c344af3989699219fd1863097cdf4b4c3f809fcc3772c78b5c08"), looks := false }, kinds := [], alts := [], laidByText := true, laidKinds := [.data, .data], laidTests := true, laidLooks := .later }
def FnRowNextCardSaid : Prop := Claim7.holds Tryz.pinned (.plain (OpenSpec.ofChange fnRowNextSpec)) fnRowNextCard

/-- THE TIED CARD OF 'laws.FnTableAutomaton'. -/
def fnTableAutomatonCard : Claim7 := { stood := { row := fnTableAutomatonRow, standIns := [], harness := (true, "e8b64ebb1725c344af3989699219fd1863097cdf4b4c3f809fcc3772c78b5c08"), looks := false }, kinds := [], alts := [], laidByText := true, laidKinds := [.data, .data], laidTests := true, laidLooks := .later }
def FnTableAutomatonCardSaid : Prop := Claim7.holds Tryz.pinned (.plain (OpenSpec.ofChange fnTableAutomatonSpec)) fnTableAutomatonCard

/-- THE TIED CARD OF 'laws.FnTableSteps'. -/
def fnTableStepsCard : Claim7 := { stood := { row := fnTableStepsRow, standIns := [], harness := (true, "e8b64ebb1725c344af3989699219fd1863097cdf4b4c3f809fcc3772c78b5c08"), looks := false }, kinds := [], alts := [], laidByText := true, laidKinds := [.data, .data], laidTests := true, laidLooks := .later }
def FnTableStepsCardSaid : Prop := Claim7.holds Tryz.pinned (.plain (OpenSpec.ofChange fnTableStepsSpec)) fnTableStepsCard

/-- THE TIED CARD OF 'laws.FnTableSafe'. -/
def fnTableSafeCard : Claim7 := { stood := { row := fnTableSafeRow, standIns := [], harness := (true, "e8b64ebb1725c344af3989699219fd1863097cdf4b4c3f809fcc3772c78b5c08"), looks := false }, kinds := [], alts := [], laidByText := true, laidKinds := [.data, .data], laidTests := true, laidLooks := .later }
def FnTableSafeCardSaid : Prop := Claim7.holds Tryz.pinned (.plain (OpenSpec.ofChange fnTableSafeSpec)) fnTableSafeCard

/-- THE TIED CARD OF 'laws.FnSplitFirst'. -/
def fnSplitFirstCard : Claim7 := { stood := { row := fnSplitFirstRow, standIns := [], harness := (true, "e8b64ebb1725c344af3989699219fd1863097cdf4b4c3f809fcc3772c78b5c08"), looks := false }, kinds := [], alts := [], laidByText := true, laidKinds := [.data, .data], laidTests := true, laidLooks := .later }
def FnSplitFirstCardSaid : Prop := Claim7.holds Tryz.pinned (.plain (OpenSpec.ofChange fnSplitFirstSpec)) fnSplitFirstCard

/-- THE TIED CARD OF 'laws.FnSplitWord'. -/
def fnSplitWordCard : Claim7 := { stood := { row := fnSplitWordRow, standIns := [], harness := (true, "e8b64ebb1725c344af3989699219fd1863097cdf4b4c3f809fcc3772c78b5c08"), looks := false }, kinds := [], alts := [], laidByText := true, laidKinds := [.data, .data], laidTests := true, laidLooks := .later }
def FnSplitWordCardSaid : Prop := Claim7.holds Tryz.pinned (.plain (OpenSpec.ofChange fnSplitWordSpec)) fnSplitWordCard

/-- THE TIED CARD OF 'laws.FnSplitOpens'. -/
def fnSplitOpensCard : Claim7 := { stood := { row := fnSplitOpensRow, standIns := [], harness := (true, "e8b64ebb1725c344af3989699219fd1863097cdf4b4c3f809fcc3772c78b5c08"), looks := false }, kinds := [], alts := [], laidByText := true, laidKinds := [.data, .data], laidTests := true, laidLooks := .later }
def FnSplitOpensCardSaid : Prop := Claim7.holds Tryz.pinned (.plain (OpenSpec.ofChange fnSplitOpensSpec)) fnSplitOpensCard

/-- THE TIED CARD OF 'laws.FnLearnStep'. -/
def fnLearnStepCard : Claim7 := { stood := { row := fnLearnStepRow, standIns := [], harness := (true, "e8b64ebb1725c344af3989699219fd1863097cdf4b4c3f809fcc3772c78b5c08"), looks := false }, kinds := [], alts := [], laidByText := true, laidKinds := [.data, .data], laidTests := true, laidLooks := .later }
def FnLearnStepCardSaid : Prop := Claim7.holds Tryz.pinned (.plain (OpenSpec.ofChange fnLearnStepSpec)) fnLearnStepCard

/-- THE TIED CARD OF 'laws.FnLearnStepWrong'. -/
def fnLearnStepWrongCard : Claim7 := { stood := { row := fnLearnStepWrongRow, standIns := [], harness := (true, "e8b64ebb1725c344af3989699219fd1863097cdf4b4c3f809fcc3772c78b5c08"), looks := false }, kinds := [], alts := [], laidByText := true, laidKinds := [.data, .data], laidTests := true, laidLooks := .later }
def FnLearnStepWrongCardSaid : Prop := Claim7.holds Tryz.pinned (.plain (OpenSpec.ofChange fnLearnStepWrongSpec)) fnLearnStepWrongCard

/-- THE SECOND FORM's CARD OF 'laws.FnTableRows'. -/
def fnTableRowsUptoCard : Claim7 := { stood := { row := fnTableRowsUptoRow, standIns := [], harness := (true, "e8b64ebb1725c344af3989699219fd1863097cdf4b4c3f809fcc3772c78b5c08"), looks := false }, kinds := [], alts := [], laidByText := true, laidKinds := [.data, .data], laidTests := true, laidLooks := .later }
def FnTableRowsUptoCardSaid : Prop := Claim7.holds Tryz.pinned (.plain (OpenSpec.upto fnTableRowsSpec)) fnTableRowsUptoCard

/-- THE SECOND FORM's CARD OF 'laws.FnOpenRow'. -/
def fnOpenRowUptoCard : Claim7 := { stood := { row := fnOpenRowUptoRow, standIns := [], harness := (true, "e8b64ebb1725c344af3989699219fd1863097cdf4b4c3f809fcc3772c78b5c08"), looks := false }, kinds := [], alts := [], laidByText := true, laidKinds := [.data, .data], laidTests := true, laidLooks := .later }
def FnOpenRowUptoCardSaid : Prop := Claim7.holds Tryz.pinned (.plain (OpenSpec.upto fnOpenRowSpec)) fnOpenRowUptoCard

/-- THE SECOND FORM's CARD OF 'laws.FnNewTable'. -/
def fnNewTableUptoCard : Claim7 := { stood := { row := fnNewTableUptoRow, standIns := [], harness := (true, "e8b64ebb1725c344af3989699219fd1863097cdf4b4c3f809fcc3772c78b5c08"), looks := false }, kinds := [], alts := [], laidByText := true, laidKinds := [.data, .data], laidTests := true, laidLooks := .later }
def FnNewTableUptoCardSaid : Prop := Claim7.holds Tryz.pinned (.plain (OpenSpec.upto fnNewTableSpec)) fnNewTableUptoCard

/-- THE SECOND FORM's CARD OF 'laws.FnAddColumn'. -/
def fnAddColumnUptoCard : Claim7 := { stood := { row := fnAddColumnUptoRow, standIns := [], harness := (true, "e8b64ebb1725c344af3989699219fd1863097cdf4b4c3f809fcc3772c78b5c08"), looks := false }, kinds := [], alts := [], laidByText := true, laidKinds := [.data, .data], laidTests := true, laidLooks := .later }
def FnAddColumnUptoCardSaid : Prop := Claim7.holds Tryz.pinned (.plain (OpenSpec.upto fnAddColumnSpec)) fnAddColumnUptoCard

/-- THE SECOND FORM's CARD OF 'laws.FnRowNext'. -/
def fnRowNextUptoCard : Claim7 := { stood := { row := fnRowNextUptoRow, standIns := [], harness := (true, "e8b64ebb1725c344af3989699219fd1863097cdf4b4c3f809fcc3772c78b5c08"), looks := false }, kinds := [], alts := [], laidByText := true, laidKinds := [.data, .data], laidTests := true, laidLooks := .later }
def FnRowNextUptoCardSaid : Prop := Claim7.holds Tryz.pinned (.plain (OpenSpec.upto fnRowNextSpec)) fnRowNextUptoCard

/-- THE SECOND FORM's CARD OF 'laws.FnTableAutomaton'. -/
def fnTableAutomatonUptoCard : Claim7 := { stood := { row := fnTableAutomatonUptoRow, standIns := [], harness := (true, "e8b64ebb1725c344af3989699219fd1863097cdf4b4c3f809fcc3772c78b5c08"), looks := false }, kinds := [], alts := [], laidByText := true, laidKinds := [.data, .data], laidTests := true, laidLooks := .later }
def FnTableAutomatonUptoCardSaid : Prop := Claim7.holds Tryz.pinned (.plain (OpenSpec.upto fnTableAutomatonSpec)) fnTableAutomatonUptoCard

/-- THE SECOND FORM's CARD OF 'laws.FnTableSteps'. -/
def fnTableStepsUptoCard : Claim7 := { stood := { row := fnTableStepsUptoRow, standIns := [], harness := (true, "e8b64ebb1725c344af3989699219fd1863097cdf4b4c3f809fcc3772c78b5c08"), looks := false }, kinds := [], alts := [], laidByText := true, laidKinds := [.data, .data], laidTests := true, laidLooks := .later }
def FnTableStepsUptoCardSaid : Prop := Claim7.holds Tryz.pinned (.plain (OpenSpec.upto fnTableStepsSpec)) fnTableStepsUptoCard

/-- THE SECOND FORM's CARD OF 'laws.FnTableSafe'. -/
def fnTableSafeUptoCard : Claim7 := { stood := { row := fnTableSafeUptoRow, standIns := [], harness := (true, "e8b64ebb1725c344af3989699219fd1863097cdf4b4c3f809fcc3772c78b5c08"), looks := false }, kinds := [], alts := [], laidByText := true, laidKinds := [.data, .data], laidTests := true, laidLooks := .later }
def FnTableSafeUptoCardSaid : Prop := Claim7.holds Tryz.pinned (.plain (OpenSpec.upto fnTableSafeSpec)) fnTableSafeUptoCard

/-- THE SECOND FORM's CARD OF 'laws.FnSplitFirst'. -/
def fnSplitFirstUptoCard : Claim7 := { stood := { row := fnSplitFirstUptoRow, standIns := [], harness := (true, "e8b64ebb1725c344af3989699219fd1863097cdf4b4c3f809fcc3772c78b5c08"), looks := false }, kinds := [], alts := [], laidByText := true, laidKinds := [.data, .data], laidTests := true, laidLooks := .later }
def FnSplitFirstUptoCardSaid : Prop := Claim7.holds Tryz.pinned (.plain (OpenSpec.upto fnSplitFirstSpec)) fnSplitFirstUptoCard

/-- THE SECOND FORM's CARD OF 'laws.FnSplitWord'. -/
def fnSplitWordUptoCard : Claim7 := { stood := { row := fnSplitWordUptoRow, standIns := [], harness := (true, "e8b64ebb1725c344af3989699219fd1863097cdf4b4c3f809fcc3772c78b5c08"), looks := false }, kinds := [], alts := [], laidByText := true, laidKinds := [.data, .data], laidTests := true, laidLooks := .later }
def FnSplitWordUptoCardSaid : Prop := Claim7.holds Tryz.pinned (.plain (OpenSpec.upto fnSplitWordSpec)) fnSplitWordUptoCard

/-- THE SECOND FORM's CARD OF 'laws.FnSplitOpens'. -/
def fnSplitOpensUptoCard : Claim7 := { stood := { row := fnSplitOpensUptoRow, standIns := [], harness := (true, "e8b64ebb1725c344af3989699219fd1863097cdf4b4c3f809fcc3772c78b5c08"), looks := false }, kinds := [], alts := [], laidByText := true, laidKinds := [.data, .data], laidTests := true, laidLooks := .later }
def FnSplitOpensUptoCardSaid : Prop := Claim7.holds Tryz.pinned (.plain (OpenSpec.upto fnSplitOpensSpec)) fnSplitOpensUptoCard

/-- THE SECOND FORM's CARD OF 'laws.FnLearnStep'. -/
def fnLearnStepUptoCard : Claim7 := { stood := { row := fnLearnStepUptoRow, standIns := [], harness := (true, "e8b64ebb1725c344af3989699219fd1863097cdf4b4c3f809fcc3772c78b5c08"), looks := false }, kinds := [], alts := [], laidByText := true, laidKinds := [.data, .data], laidTests := true, laidLooks := .later }
def FnLearnStepUptoCardSaid : Prop := Claim7.holds Tryz.pinned (.plain (OpenSpec.upto fnLearnStepSpec)) fnLearnStepUptoCard

/-- THE SECOND FORM's CARD OF 'laws.FnLearnStepWrong'. -/
def fnLearnStepWrongUptoCard : Claim7 := { stood := { row := fnLearnStepWrongUptoRow, standIns := [], harness := (true, "e8b64ebb1725c344af3989699219fd1863097cdf4b4c3f809fcc3772c78b5c08"), looks := false }, kinds := [], alts := [], laidByText := true, laidKinds := [.data, .data], laidTests := true, laidLooks := .later }
def FnLearnStepWrongUptoCardSaid : Prop := Claim7.holds Tryz.pinned (.plain (OpenSpec.upto fnLearnStepWrongSpec)) fnLearnStepWrongUptoCard
end Rows
end Go.Proofs.YtkkihplpglchjaaGreatDoor
