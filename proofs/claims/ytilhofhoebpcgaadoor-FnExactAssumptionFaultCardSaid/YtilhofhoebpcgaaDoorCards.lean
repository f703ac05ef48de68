/-
  DERIVED. GIVEN WITH THE SEED: THE CARDS: each row of YtilhofhoebpcgaaDoorRows.lean that lists a variable, with what it lists TIED to the program's text (the seventh form; the later family's looks); each row that meets fmt, with fmt's text TOLD by the authors' own Lean function (tested against real Go, not proved from fmt's source: count such statements apart). THE CARD IS WHAT COUNTS. Prove the row's statement (the work); the ties are given (YtilhofhoebpcgaaDoorTie.lean); close each card by the builder's one call (the guide's Derived/Test/ToyasCard.lean, 'card_holds'). Laid BY PROGRAM, IN A SANDBOX (cutbox-door.mjs). By AI agents, Wed Nov 11 2026. No macro, syntax, notation, axiom, sorry.
-/
import Derived.Test.YtilhofhoebpcgaaDoorRows
import GoSem.ClaimSeven
namespace Go.Proofs.YtilhofhoebpcgaaDoor
namespace Rows

/-- THE TIED CARD OF 'laws.FnExactAssumptionFault'. -/
def fnExactAssumptionFaultCard : Claim7 := { stood := { row := fnExactAssumptionFaultRow, standIns := [], harness := (true, "b097dedfadf92488fd131e0178fc79229df34a928a3a2bb08e8d6a5efc2699ed"), looks := false }, kinds := [], alts := [], laidByText := true, laidKinds := [.data, .data], laidTests := true, laidLooks := .later }
def FnExactAssumptionFaultCardSaid : Prop := Claim7.holds Tryd.pinned (.plain (OpenSpec.ofChange fnExactAssumptionFaultSpec)) fnExactAssumptionFaultCard

/-- THE SECOND FORM's CARD OF 'laws.FnExactAssumptionFault'. -/
def fnExactAssumptionFaultUptoCard : Claim7 := { stood := { row := fnExactAssumptionFaultUptoRow, standIns := [], harness := (true, "b097dedfadf92488fd131e0178fc79229df34a928a3a2bb08e8d6a5efc2699ed"), looks := false }, kinds := [], alts := [], laidByText := true, laidKinds := [.data, .data], laidTests := true, laidLooks := .later }
def FnExactAssumptionFaultUptoCardSaid : Prop := Claim7.holds Tryd.pinned (.plain (OpenSpec.upto fnExactAssumptionFaultSpec)) fnExactAssumptionFaultUptoCard
end Rows
end Go.Proofs.YtilhofhoebpcgaaDoor
