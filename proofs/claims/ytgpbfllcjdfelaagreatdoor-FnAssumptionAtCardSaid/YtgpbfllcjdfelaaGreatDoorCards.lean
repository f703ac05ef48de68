/-
  DERIVED. GIVEN WITH THE SEED: THE CARDS: each row of YtgpbfllcjdfelaaGreatDoorRows.lean that lists a variable, with what it lists TIED to the program's text (the seventh form; the later family's looks); each row that meets fmt, with fmt's text TOLD by the authors' own Lean function (tested against real Go, not proved from fmt's source: count such statements apart). THE CARD IS WHAT COUNTS. Prove the row's statement (the work); the ties are given (YtgpbfllcjdfelaaGreatDoorTie.lean); close each card by the builder's one call (the guide's Derived/Test/ToyasCard.lean, 'card_holds'). Laid BY PROGRAM, IN A SANDBOX (cutbox-door.mjs). By AI agents, Wed Nov 11 2026. No macro, syntax, notation, axiom, sorry.
-/
import Derived.Test.YtgpbfllcjdfelaaGreatDoorRows
import GoSem.ClaimSeven
namespace Go.Proofs.YtgpbfllcjdfelaaGreatDoor
namespace Rows

/-- THE TIED CARD OF 'laws.FnAssumptionAt'. -/
def fnAssumptionAtCard : Claim7 := { stood := { row := fnAssumptionAtRow, standIns := [], harness := (true, "bb2ed6f3183330f1e3f5e8d73bd0f3a293340f25acb528271b81e6acc456dbc7"), looks := false }, kinds := [], alts := [], laidByText := true, laidKinds := [.data, .data], laidTests := true, laidLooks := .later }
def FnAssumptionAtCardSaid : Prop := Claim7.holds Tryz.pinned (.plain (OpenSpec.ofChange fnAssumptionAtSpec)) fnAssumptionAtCard

/-- THE TIED CARD OF 'laws.FnTableFull'. -/
def fnTableFullCard : Claim7 := { stood := { row := fnTableFullRow, standIns := [], harness := (true, "bb2ed6f3183330f1e3f5e8d73bd0f3a293340f25acb528271b81e6acc456dbc7"), looks := false }, kinds := [], alts := [], laidByText := true, laidKinds := [.data, .data, .data], laidTests := true, laidLooks := .later }
def FnTableFullCardSaid : Prop := Claim7.holds Tryz.pinned (.plain (OpenSpec.ofChange fnTableFullSpec)) fnTableFullCard

/-- THE TIED CARD OF 'laws.FnTableStates'. -/
def fnTableStatesCard : Claim7 := { stood := { row := fnTableStatesRow, standIns := [], harness := (true, "bb2ed6f3183330f1e3f5e8d73bd0f3a293340f25acb528271b81e6acc456dbc7"), looks := false }, kinds := [], alts := [], laidByText := true, laidKinds := [.data, .data, .data], laidTests := true, laidLooks := .later }
def FnTableStatesCardSaid : Prop := Claim7.holds Tryz.pinned (.plain (OpenSpec.ofChange fnTableStatesSpec)) fnTableStatesCard

/-- THE TIED CARD OF 'laws.FnExactLearnAutomaton'. -/
def fnExactLearnAutomatonCard : Claim7 := { stood := { row := fnExactLearnAutomatonRow, standIns := [], harness := (true, "bb2ed6f3183330f1e3f5e8d73bd0f3a293340f25acb528271b81e6acc456dbc7"), looks := false }, kinds := [], alts := [], laidByText := true, laidKinds := [.data, .data], laidTests := true, laidLooks := .later }
def FnExactLearnAutomatonCardSaid : Prop := Claim7.holds Tryz.pinned (.plain (OpenSpec.ofChange fnExactLearnAutomatonSpec)) fnExactLearnAutomatonCard

/-- THE TIED CARD OF 'laws.FnExactProposedAt'. -/
def fnExactProposedAtCard : Claim7 := { stood := { row := fnExactProposedAtRow, standIns := [], harness := (true, "bb2ed6f3183330f1e3f5e8d73bd0f3a293340f25acb528271b81e6acc456dbc7"), looks := false }, kinds := [], alts := [], laidByText := true, laidKinds := [.data, .data], laidTests := true, laidLooks := .later }
def FnExactProposedAtCardSaid : Prop := Claim7.holds Tryz.pinned (.plain (OpenSpec.ofChange fnExactProposedAtSpec)) fnExactProposedAtCard

/-- THE TIED CARD OF 'laws.FnVerifyWithin'. -/
def fnVerifyWithinCard : Claim7 := { stood := { row := fnVerifyWithinRow, standIns := [], harness := (true, "bb2ed6f3183330f1e3f5e8d73bd0f3a293340f25acb528271b81e6acc456dbc7"), looks := false }, kinds := [], alts := [], laidByText := true, laidKinds := [.data, .data], laidTests := true, laidLooks := .later }
def FnVerifyWithinCardSaid : Prop := Claim7.holds Tryz.pinned (.plain (OpenSpec.ofChange fnVerifyWithinSpec)) fnVerifyWithinCard

/-- THE TIED CARD OF 'laws.FnCloseWeakest'. -/
def fnCloseWeakestCard : Claim7 := { stood := { row := fnCloseWeakestRow, standIns := [], harness := (true, "bb2ed6f3183330f1e3f5e8d73bd0f3a293340f25acb528271b81e6acc456dbc7"), looks := false }, kinds := [], alts := [], laidByText := true, laidKinds := [.data, .data, .data], laidTests := true, laidLooks := .later }
def FnCloseWeakestCardSaid : Prop := Claim7.holds Tryz.pinned (.plain (OpenSpec.ofChange fnCloseWeakestSpec)) fnCloseWeakestCard

/-- THE TIED CARD OF 'laws.FnLearnWeakest'. -/
def fnLearnWeakestCard : Claim7 := { stood := { row := fnLearnWeakestRow, standIns := [], harness := (true, "bb2ed6f3183330f1e3f5e8d73bd0f3a293340f25acb528271b81e6acc456dbc7"), looks := false }, kinds := [], alts := [], laidByText := true, laidKinds := [.data, .data, .data], laidTests := true, laidLooks := .later }
def FnLearnWeakestCardSaid : Prop := Claim7.holds Tryz.pinned (.plain (OpenSpec.ofChange fnLearnWeakestSpec)) fnLearnWeakestCard

/-- THE SECOND FORM's CARD OF 'laws.FnAssumptionAt'. -/
def fnAssumptionAtUptoCard : Claim7 := { stood := { row := fnAssumptionAtUptoRow, standIns := [], harness := (true, "bb2ed6f3183330f1e3f5e8d73bd0f3a293340f25acb528271b81e6acc456dbc7"), looks := false }, kinds := [], alts := [], laidByText := true, laidKinds := [.data, .data], laidTests := true, laidLooks := .later }
def FnAssumptionAtUptoCardSaid : Prop := Claim7.holds Tryz.pinned (.plain (OpenSpec.upto fnAssumptionAtSpec)) fnAssumptionAtUptoCard

/-- THE SECOND FORM's CARD OF 'laws.FnTableFull'. -/
def fnTableFullUptoCard : Claim7 := { stood := { row := fnTableFullUptoRow, standIns := [], harness := (true, "bb2ed6f3183330f1e3f5e8d73bd0f3a293340f25acb528271b81e6acc456dbc7"), looks := false }, kinds := [], alts := [], laidByText := true, laidKinds := [.data, .data, .data], laidTests := true, laidLooks := .later }
def FnTableFullUptoCardSaid : Prop := Claim7.holds Tryz.pinned (.plain (OpenSpec.upto fnTableFullSpec)) fnTableFullUptoCard

/-- THE SECOND FORM's CARD OF 'laws.FnTableStates'. -/
def fnTableStatesUptoCard : Claim7 := { stood := { row := fnTableStatesUptoRow, standIns := [], harness := (true, "bb2ed6f3183330f1e3f5e8d73bd0f3a293340f25acb528271b81e6acc456dbc7"), looks := false }, kinds := [], alts := [], laidByText := true, laidKinds := [.data, .data, .data], laidTests := true, laidLooks := .later }
def FnTableStatesUptoCardSaid : Prop := Claim7.holds Tryz.pinned (.plain (OpenSpec.upto fnTableStatesSpec)) fnTableStatesUptoCard

/-- THE SECOND FORM's CARD OF 'laws.FnExactLearnAutomaton'. -/
def fnExactLearnAutomatonUptoCard : Claim7 := { stood := { row := fnExactLearnAutomatonUptoRow, standIns := [], harness := (true, "bb2ed6f3183330f1e3f5e8d73bd0f3a293340f25acb528271b81e6acc456dbc7"), looks := false }, kinds := [], alts := [], laidByText := true, laidKinds := [.data, .data], laidTests := true, laidLooks := .later }
def FnExactLearnAutomatonUptoCardSaid : Prop := Claim7.holds Tryz.pinned (.plain (OpenSpec.upto fnExactLearnAutomatonSpec)) fnExactLearnAutomatonUptoCard

/-- THE SECOND FORM's CARD OF 'laws.FnExactProposedAt'. -/
def fnExactProposedAtUptoCard : Claim7 := { stood := { row := fnExactProposedAtUptoRow, standIns := [], harness := (true, "bb2ed6f3183330f1e3f5e8d73bd0f3a293340f25acb528271b81e6acc456dbc7"), looks := false }, kinds := [], alts := [], laidByText := true, laidKinds := [.data, .data], laidTests := true, laidLooks := .later }
def FnExactProposedAtUptoCardSaid : Prop := Claim7.holds Tryz.pinned (.plain (OpenSpec.upto fnExactProposedAtSpec)) fnExactProposedAtUptoCard

/-- THE SECOND FORM's CARD OF 'laws.FnVerifyWithin'. -/
def fnVerifyWithinUptoCard : Claim7 := { stood := { row := fnVerifyWithinUptoRow, standIns := [], harness := (true, "bb2ed6f3183330f1e3f5e8d73bd0f3a293340f25acb528271b81e6acc456dbc7"), looks := false }, kinds := [], alts := [], laidByText := true, laidKinds := [.data, .data], laidTests := true, laidLooks := .later }
def FnVerifyWithinUptoCardSaid : Prop := Claim7.holds Tryz.pinned (.plain (OpenSpec.upto fnVerifyWithinSpec)) fnVerifyWithinUptoCard

/-- THE SECOND FORM's CARD OF 'laws.FnCloseWeakest'. -/
def fnCloseWeakestUptoCard : Claim7 := { stood := { row := fnCloseWeakestUptoRow, standIns := [], harness := (true, "bb2ed6f3183330f1e3f5e8d73bd0f3a293340f25acb528271b81e6acc456dbc7"), looks := false }, kinds := [], alts := [], laidByText := true, laidKinds := [.data, .data, .data], laidTests := true, laidLooks := .later }
def FnCloseWeakestUptoCardSaid : Prop := Claim7.holds Tryz.pinned (.plain (OpenSpec.upto fnCloseWeakestSpec)) fnCloseWeakestUptoCard

/-- THE SECOND FORM's CARD OF 'laws.FnLearnWeakest'. -/
def fnLearnWeakestUptoCard : Claim7 := { stood := { row := fnLearnWeakestUptoRow, standIns := [], harness := (true, "bb2ed6f3183330f1e3f5e8d73bd0f3a293340f25acb528271b81e6acc456dbc7"), looks := false }, kinds := [], alts := [], laidByText := true, laidKinds := [.data, .data, .data], laidTests := true, laidLooks := .later }
def FnLearnWeakestUptoCardSaid : Prop := Claim7.holds Tryz.pinned (.plain (OpenSpec.upto fnLearnWeakestSpec)) fnLearnWeakestUptoCard
end Rows
end Go.Proofs.YtgpbfllcjdfelaaGreatDoor
