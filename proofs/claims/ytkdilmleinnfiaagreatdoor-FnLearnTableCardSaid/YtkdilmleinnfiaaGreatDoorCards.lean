/-
  DERIVED. GIVEN WITH THE SEED: THE CARDS: each row of YtkdilmleinnfiaaGreatDoorRows.lean that lists a variable, with what it lists TIED to the program's text (the seventh form; the later family's looks); each row that meets fmt, with fmt's text TOLD by the authors' own Lean function (tested against real Go, not proved from fmt's source: count such statements apart). THE CARD IS WHAT COUNTS. Prove the row's statement (the work); the ties are given (YtkdilmleinnfiaaGreatDoorTie.lean); close each card by the builder's one call (the guide's Derived/Test/ToyasCard.lean, 'card_holds'). Laid BY PROGRAM, IN A SANDBOX (cutbox-door.mjs). By AI agents, Wed Nov 11 2026. No macro, syntax, notation, axiom, sorry.
-/
import Derived.Test.YtkdilmleinnfiaaGreatDoorRows
import GoSem.ClaimSeven
namespace Go.Proofs.YtkdilmleinnfiaaGreatDoor
namespace Rows

/-- THE TIED CARD OF 'laws.FnExactAddColumn'. -/
def fnExactAddColumnCard : Claim7 := { stood := { row := fnExactAddColumnRow, standIns := [], harness := (true, "d0eacb4dd7bd96210c69ed992431defc865554031af87983f7887802c4906ded"), looks := false }, kinds := [], alts := [], laidByText := true, laidKinds := [.data, .data], laidTests := true, laidLooks := .later }
def FnExactAddColumnCardSaid : Prop := Claim7.holds Tryz.pinned (.plain (OpenSpec.ofChange fnExactAddColumnSpec)) fnExactAddColumnCard

/-- THE TIED CARD OF 'laws.FnExactSplitWord'. -/
def fnExactSplitWordCard : Claim7 := { stood := { row := fnExactSplitWordRow, standIns := [], harness := (true, "d0eacb4dd7bd96210c69ed992431defc865554031af87983f7887802c4906ded"), looks := false }, kinds := [], alts := [], laidByText := true, laidKinds := [.data, .data], laidTests := true, laidLooks := .later }
def FnExactSplitWordCardSaid : Prop := Claim7.holds Tryz.pinned (.plain (OpenSpec.ofChange fnExactSplitWordSpec)) fnExactSplitWordCard

/-- THE TIED CARD OF 'laws.FnExactCloseTable'. -/
def fnExactCloseTableCard : Claim7 := { stood := { row := fnExactCloseTableRow, standIns := [], harness := (true, "d0eacb4dd7bd96210c69ed992431defc865554031af87983f7887802c4906ded"), looks := false }, kinds := [], alts := [], laidByText := true, laidKinds := [.data, .data], laidTests := true, laidLooks := .later }
def FnExactCloseTableCardSaid : Prop := Claim7.holds Tryz.pinned (.plain (OpenSpec.ofChange fnExactCloseTableSpec)) fnExactCloseTableCard

/-- THE TIED CARD OF 'laws.FnExactTableAutomaton'. -/
def fnExactTableAutomatonCard : Claim7 := { stood := { row := fnExactTableAutomatonRow, standIns := [], harness := (true, "d0eacb4dd7bd96210c69ed992431defc865554031af87983f7887802c4906ded"), looks := false }, kinds := [], alts := [], laidByText := true, laidKinds := [.data, .data], laidTests := true, laidLooks := .later }
def FnExactTableAutomatonCardSaid : Prop := Claim7.holds Tryz.pinned (.plain (OpenSpec.ofChange fnExactTableAutomatonSpec)) fnExactTableAutomatonCard

/-- THE TIED CARD OF 'laws.FnAssumptionAt'. -/
def fnAssumptionAtCard : Claim7 := { stood := { row := fnAssumptionAtRow, standIns := [], harness := (true, "d0eacb4dd7bd96210c69ed992431defc865554031af87983f7887802c4906ded"), looks := false }, kinds := [], alts := [], laidByText := true, laidKinds := [.data, .data], laidTests := true, laidLooks := .later }
def FnAssumptionAtCardSaid : Prop := Claim7.holds Tryz.pinned (.plain (OpenSpec.ofChange fnAssumptionAtSpec)) fnAssumptionAtCard

/-- THE TIED CARD OF 'laws.FnExactLearnStep'. -/
def fnExactLearnStepCard : Claim7 := { stood := { row := fnExactLearnStepRow, standIns := [], harness := (true, "d0eacb4dd7bd96210c69ed992431defc865554031af87983f7887802c4906ded"), looks := false }, kinds := [], alts := [], laidByText := true, laidKinds := [.data, .data], laidTests := true, laidLooks := .later }
def FnExactLearnStepCardSaid : Prop := Claim7.holds Tryz.pinned (.plain (OpenSpec.ofChange fnExactLearnStepSpec)) fnExactLearnStepCard

/-- THE TIED CARD OF 'laws.FnExactLearnAutomaton'. -/
def fnExactLearnAutomatonCard : Claim7 := { stood := { row := fnExactLearnAutomatonRow, standIns := [], harness := (true, "d0eacb4dd7bd96210c69ed992431defc865554031af87983f7887802c4906ded"), looks := false }, kinds := [], alts := [], laidByText := true, laidKinds := [.data, .data], laidTests := true, laidLooks := .later }
def FnExactLearnAutomatonCardSaid : Prop := Claim7.holds Tryz.pinned (.plain (OpenSpec.ofChange fnExactLearnAutomatonSpec)) fnExactLearnAutomatonCard

/-- THE TIED CARD OF 'laws.FnExactProposedAt'. -/
def fnExactProposedAtCard : Claim7 := { stood := { row := fnExactProposedAtRow, standIns := [], harness := (true, "d0eacb4dd7bd96210c69ed992431defc865554031af87983f7887802c4906ded"), looks := false }, kinds := [], alts := [], laidByText := true, laidKinds := [.data, .data], laidTests := true, laidLooks := .later }
def FnExactProposedAtCardSaid : Prop := Claim7.holds Tryz.pinned (.plain (OpenSpec.ofChange fnExactProposedAtSpec)) fnExactProposedAtCard

/-- THE TIED CARD OF 'laws.FnExactLearnTable'. -/
def fnExactLearnTableCard : Claim7 := { stood := { row := fnExactLearnTableRow, standIns := [], harness := (true, "d0eacb4dd7bd96210c69ed992431defc865554031af87983f7887802c4906ded"), looks := false }, kinds := [], alts := [], laidByText := true, laidKinds := [.data, .data], laidTests := true, laidLooks := .later }
def FnExactLearnTableCardSaid : Prop := Claim7.holds Tryz.pinned (.plain (OpenSpec.ofChange fnExactLearnTableSpec)) fnExactLearnTableCard

/-- THE TIED CARD OF 'laws.FnTableStates'. -/
def fnTableStatesCard : Claim7 := { stood := { row := fnTableStatesRow, standIns := [], harness := (true, "d0eacb4dd7bd96210c69ed992431defc865554031af87983f7887802c4906ded"), looks := false }, kinds := [], alts := [], laidByText := true, laidKinds := [.data, .data, .data], laidTests := true, laidLooks := .later }
def FnTableStatesCardSaid : Prop := Claim7.holds Tryz.pinned (.plain (OpenSpec.ofChange fnTableStatesSpec)) fnTableStatesCard

/-- THE TIED CARD OF 'laws.FnTableFull'. -/
def fnTableFullCard : Claim7 := { stood := { row := fnTableFullRow, standIns := [], harness := (true, "d0eacb4dd7bd96210c69ed992431defc865554031af87983f7887802c4906ded"), looks := false }, kinds := [], alts := [], laidByText := true, laidKinds := [.data, .data, .data], laidTests := true, laidLooks := .later }
def FnTableFullCardSaid : Prop := Claim7.holds Tryz.pinned (.plain (OpenSpec.ofChange fnTableFullSpec)) fnTableFullCard

/-- THE TIED CARD OF 'laws.FnLearnTable'. -/
def fnLearnTableCard : Claim7 := { stood := { row := fnLearnTableRow, standIns := [], harness := (true, "d0eacb4dd7bd96210c69ed992431defc865554031af87983f7887802c4906ded"), looks := false }, kinds := [], alts := [], laidByText := true, laidKinds := [.data, .data, .data], laidTests := true, laidLooks := .later }
def FnLearnTableCardSaid : Prop := Claim7.holds Tryz.pinned (.plain (OpenSpec.ofChange fnLearnTableSpec)) fnLearnTableCard

/-- THE TIED CARD OF 'laws.FnVerifyRounds'. -/
def fnVerifyRoundsCard : Claim7 := { stood := { row := fnVerifyRoundsRow, standIns := [], harness := (true, "d0eacb4dd7bd96210c69ed992431defc865554031af87983f7887802c4906ded"), looks := false }, kinds := [], alts := [], laidByText := true, laidKinds := [.data, .data], laidTests := true, laidLooks := .later }
def FnVerifyRoundsCardSaid : Prop := Claim7.holds Tryz.pinned (.plain (OpenSpec.ofChange fnVerifyRoundsSpec)) fnVerifyRoundsCard

/-- THE SECOND FORM's CARD OF 'laws.FnExactAddColumn'. -/
def fnExactAddColumnUptoCard : Claim7 := { stood := { row := fnExactAddColumnUptoRow, standIns := [], harness := (true, "d0eacb4dd7bd96210c69ed992431defc865554031af87983f7887802c4906ded"), looks := false }, kinds := [], alts := [], laidByText := true, laidKinds := [.data, .data], laidTests := true, laidLooks := .later }
def FnExactAddColumnUptoCardSaid : Prop := Claim7.holds Tryz.pinned (.plain (OpenSpec.upto fnExactAddColumnSpec)) fnExactAddColumnUptoCard

/-- THE SECOND FORM's CARD OF 'laws.FnExactSplitWord'. -/
def fnExactSplitWordUptoCard : Claim7 := { stood := { row := fnExactSplitWordUptoRow, standIns := [], harness := (true, "d0eacb4dd7bd96210c69ed992431defc865554031af87983f7887802c4906ded"), looks := false }, kinds := [], alts := [], laidByText := true, laidKinds := [.data, .data], laidTests := true, laidLooks := .later }
def FnExactSplitWordUptoCardSaid : Prop := Claim7.holds Tryz.pinned (.plain (OpenSpec.upto fnExactSplitWordSpec)) fnExactSplitWordUptoCard

/-- THE SECOND FORM's CARD OF 'laws.FnExactCloseTable'. -/
def fnExactCloseTableUptoCard : Claim7 := { stood := { row := fnExactCloseTableUptoRow, standIns := [], harness := (true, "d0eacb4dd7bd96210c69ed992431defc865554031af87983f7887802c4906ded"), looks := false }, kinds := [], alts := [], laidByText := true, laidKinds := [.data, .data], laidTests := true, laidLooks := .later }
def FnExactCloseTableUptoCardSaid : Prop := Claim7.holds Tryz.pinned (.plain (OpenSpec.upto fnExactCloseTableSpec)) fnExactCloseTableUptoCard

/-- THE SECOND FORM's CARD OF 'laws.FnExactTableAutomaton'. -/
def fnExactTableAutomatonUptoCard : Claim7 := { stood := { row := fnExactTableAutomatonUptoRow, standIns := [], harness := (true, "d0eacb4dd7bd96210c69ed992431defc865554031af87983f7887802c4906ded"), looks := false }, kinds := [], alts := [], laidByText := true, laidKinds := [.data, .data], laidTests := true, laidLooks := .later }
def FnExactTableAutomatonUptoCardSaid : Prop := Claim7.holds Tryz.pinned (.plain (OpenSpec.upto fnExactTableAutomatonSpec)) fnExactTableAutomatonUptoCard

/-- THE SECOND FORM's CARD OF 'laws.FnAssumptionAt'. -/
def fnAssumptionAtUptoCard : Claim7 := { stood := { row := fnAssumptionAtUptoRow, standIns := [], harness := (true, "d0eacb4dd7bd96210c69ed992431defc865554031af87983f7887802c4906ded"), looks := false }, kinds := [], alts := [], laidByText := true, laidKinds := [.data, .data], laidTests := true, laidLooks := .later }
def FnAssumptionAtUptoCardSaid : Prop := Claim7.holds Tryz.pinned (.plain (OpenSpec.upto fnAssumptionAtSpec)) fnAssumptionAtUptoCard

/-- THE SECOND FORM's CARD OF 'laws.FnExactLearnStep'. -/
def fnExactLearnStepUptoCard : Claim7 := { stood := { row := fnExactLearnStepUptoRow, standIns := [], harness := (true, "d0eacb4dd7bd96210c69ed992431defc865554031af87983f7887802c4906ded"), looks := false }, kinds := [], alts := [], laidByText := true, laidKinds := [.data, .data], laidTests := true, laidLooks := .later }
def FnExactLearnStepUptoCardSaid : Prop := Claim7.holds Tryz.pinned (.plain (OpenSpec.upto fnExactLearnStepSpec)) fnExactLearnStepUptoCard

/-- THE SECOND FORM's CARD OF 'laws.FnExactLearnAutomaton'. -/
def fnExactLearnAutomatonUptoCard : Claim7 := { stood := { row := fnExactLearnAutomatonUptoRow, standIns := [], harness := (true, "d0eacb4dd7bd96210c69ed992431defc865554031af87983f7887802c4906ded"), looks := false }, kinds := [], alts := [], laidByText := true, laidKinds := [.data, .data], laidTests := true, laidLooks := .later }
def FnExactLearnAutomatonUptoCardSaid : Prop := Claim7.holds Tryz.pinned (.plain (OpenSpec.upto fnExactLearnAutomatonSpec)) fnExactLearnAutomatonUptoCard

/-- THE SECOND FORM's CARD OF 'laws.FnExactProposedAt'. -/
def fnExactProposedAtUptoCard : Claim7 := { stood := { row := fnExactProposedAtUptoRow, standIns := [], harness := (true, "d0eacb4dd7bd96210c69ed992431defc865554031af87983f7887802c4906ded"), looks := false }, kinds := [], alts := [], laidByText := true, laidKinds := [.data, .data], laidTests := true, laidLooks := .later }
def FnExactProposedAtUptoCardSaid : Prop := Claim7.holds Tryz.pinned (.plain (OpenSpec.upto fnExactProposedAtSpec)) fnExactProposedAtUptoCard

/-- THE SECOND FORM's CARD OF 'laws.FnExactLearnTable'. -/
def fnExactLearnTableUptoCard : Claim7 := { stood := { row := fnExactLearnTableUptoRow, standIns := [], harness := (true, "d0eacb4dd7bd96210c69ed992431defc865554031af87983f7887802c4906ded"), looks := false }, kinds := [], alts := [], laidByText := true, laidKinds := [.data, .data], laidTests := true, laidLooks := .later }
def FnExactLearnTableUptoCardSaid : Prop := Claim7.holds Tryz.pinned (.plain (OpenSpec.upto fnExactLearnTableSpec)) fnExactLearnTableUptoCard

/-- THE SECOND FORM's CARD OF 'laws.FnTableStates'. -/
def fnTableStatesUptoCard : Claim7 := { stood := { row := fnTableStatesUptoRow, standIns := [], harness := (true, "d0eacb4dd7bd96210c69ed992431defc865554031af87983f7887802c4906ded"), looks := false }, kinds := [], alts := [], laidByText := true, laidKinds := [.data, .data, .data], laidTests := true, laidLooks := .later }
def FnTableStatesUptoCardSaid : Prop := Claim7.holds Tryz.pinned (.plain (OpenSpec.upto fnTableStatesSpec)) fnTableStatesUptoCard

/-- THE SECOND FORM's CARD OF 'laws.FnTableFull'. -/
def fnTableFullUptoCard : Claim7 := { stood := { row := fnTableFullUptoRow, standIns := [], harness := (true, "d0eacb4dd7bd96210c69ed992431defc865554031af87983f7887802c4906ded"), looks := false }, kinds := [], alts := [], laidByText := true, laidKinds := [.data, .data, .data], laidTests := true, laidLooks := .later }
def FnTableFullUptoCardSaid : Prop := Claim7.holds Tryz.pinned (.plain (OpenSpec.upto fnTableFullSpec)) fnTableFullUptoCard

/-- THE SECOND FORM's CARD OF 'laws.FnLearnTable'. -/
def fnLearnTableUptoCard : Claim7 := { stood := { row := fnLearnTableUptoRow, standIns := [], harness := (true, "d0eacb4dd7bd96210c69ed992431defc865554031af87983f7887802c4906ded"), looks := false }, kinds := [], alts := [], laidByText := true, laidKinds := [.data, .data, .data], laidTests := true, laidLooks := .later }
def FnLearnTableUptoCardSaid : Prop := Claim7.holds Tryz.pinned (.plain (OpenSpec.upto fnLearnTableSpec)) fnLearnTableUptoCard

/-- THE SECOND FORM's CARD OF 'laws.FnVerifyRounds'. -/
def fnVerifyRoundsUptoCard : Claim7 := { stood := { row := fnVerifyRoundsUptoRow, standIns := [], harness := (true, "d0eacb4dd7bd96210c69ed992431defc865554031af87983f7887802c4906ded"), looks := false }, kinds := [], alts := [], laidByText := true, laidKinds := [.data, .data], laidTests := true, laidLooks := .later }
def FnVerifyRoundsUptoCardSaid : Prop := Claim7.holds Tryz.pinned (.plain (OpenSpec.upto fnVerifyRoundsSpec)) fnVerifyRoundsUptoCard
end Rows
end Go.Proofs.YtkdilmleinnfiaaGreatDoor
