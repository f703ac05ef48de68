/-
  DERIVED. GIVEN WITH THE SEED: THE CARDS: each row of YtainaphkaklkmaaGreatDoorRows.lean that lists a variable, with what it lists TIED to the program's text (the seventh form; the later family's looks); each row that meets fmt, with fmt's text TOLD by the authors' own Lean function (tested against real Go, not proved from fmt's source: count such statements apart). THE CARD IS WHAT COUNTS. Prove the row's statement (the work); the ties are given (YtainaphkaklkmaaGreatDoorTie.lean); close each card by the builder's one call (the guide's Derived/Test/ToyasCard.lean, 'card_holds'). Laid BY PROGRAM, IN A SANDBOX (cutbox-door.mjs). By AI agents, Wed Nov 11 2026. No macro, syntax, notation, axiom, sorry.
-/
import Derived.Test.YtainaphkaklkmaaGreatDoorRows
import GoSem.ClaimSeven
namespace Go.Proofs.YtainaphkaklkmaaGreatDoor
namespace Rows

/-- THE TIED CARD OF 'laws.FnLearnTwice'. -/
def fnLearnTwiceCard : Claim7 := { stood := { row := fnLearnTwiceRow, standIns := [], harness := (true, "7dff220191ad5e2fd5e99d415d83a86e625a751157614db337b893bd21cc9e46"), looks := false }, kinds := [], alts := [], laidByText := true, laidKinds := [.data, .data], laidTests := true, laidLooks := .later }
def FnLearnTwiceCardSaid : Prop := Claim7.holds Tryz.pinned (.plain (OpenSpec.ofChange fnLearnTwiceSpec)) fnLearnTwiceCard

/-- THE TIED CARD OF 'laws.FnLearnRows'. -/
def fnLearnRowsCard : Claim7 := { stood := { row := fnLearnRowsRow, standIns := [], harness := (true, "7dff220191ad5e2fd5e99d415d83a86e625a751157614db337b893bd21cc9e46"), looks := false }, kinds := [], alts := [], laidByText := true, laidKinds := [.data, .data], laidTests := true, laidLooks := .later }
def FnLearnRowsCardSaid : Prop := Claim7.holds Tryz.pinned (.plain (OpenSpec.ofChange fnLearnRowsSpec)) fnLearnRowsCard

/-- THE TIED CARD OF 'laws.FnProposedGrow'. -/
def fnProposedGrowCard : Claim7 := { stood := { row := fnProposedGrowRow, standIns := [], harness := (true, "7dff220191ad5e2fd5e99d415d83a86e625a751157614db337b893bd21cc9e46"), looks := false }, kinds := [], alts := [], laidByText := true, laidKinds := [.data, .data], laidTests := true, laidLooks := .later }
def FnProposedGrowCardSaid : Prop := Claim7.holds Tryz.pinned (.plain (OpenSpec.ofChange fnProposedGrowSpec)) fnProposedGrowCard

/-- THE TIED CARD OF 'laws.FnProposedAt'. -/
def fnProposedAtCard : Claim7 := { stood := { row := fnProposedAtRow, standIns := [], harness := (true, "7dff220191ad5e2fd5e99d415d83a86e625a751157614db337b893bd21cc9e46"), looks := false }, kinds := [], alts := [], laidByText := true, laidKinds := [.data, .data], laidTests := true, laidLooks := .later }
def FnProposedAtCardSaid : Prop := Claim7.holds Tryz.pinned (.plain (OpenSpec.ofChange fnProposedAtSpec)) fnProposedAtCard

/-- THE TIED CARD OF 'laws.FnProposedEmpty'. -/
def fnProposedEmptyCard : Claim7 := { stood := { row := fnProposedEmptyRow, standIns := [], harness := (true, "7dff220191ad5e2fd5e99d415d83a86e625a751157614db337b893bd21cc9e46"), looks := false }, kinds := [], alts := [], laidByText := true, laidKinds := [.data, .data], laidTests := true, laidLooks := .later }
def FnProposedEmptyCardSaid : Prop := Claim7.holds Tryz.pinned (.plain (OpenSpec.ofChange fnProposedEmptySpec)) fnProposedEmptyCard

/-- THE TIED CARD OF 'laws.FnLearnOther'. -/
def fnLearnOtherCard : Claim7 := { stood := { row := fnLearnOtherRow, standIns := [], harness := (true, "7dff220191ad5e2fd5e99d415d83a86e625a751157614db337b893bd21cc9e46"), looks := false }, kinds := [], alts := [], laidByText := true, laidKinds := [.data, .data], laidTests := true, laidLooks := .later }
def FnLearnOtherCardSaid : Prop := Claim7.holds Tryz.pinned (.plain (OpenSpec.ofChange fnLearnOtherSpec)) fnLearnOtherCard

/-- THE TIED CARD OF 'laws.FnProposedLast'. -/
def fnProposedLastCard : Claim7 := { stood := { row := fnProposedLastRow, standIns := [], harness := (true, "7dff220191ad5e2fd5e99d415d83a86e625a751157614db337b893bd21cc9e46"), looks := false }, kinds := [], alts := [], laidByText := true, laidKinds := [.data, .data], laidTests := true, laidLooks := .later }
def FnProposedLastCardSaid : Prop := Claim7.holds Tryz.pinned (.plain (OpenSpec.ofChange fnProposedLastSpec)) fnProposedLastCard

/-- THE SECOND FORM's CARD OF 'laws.FnLearnTwice'. -/
def fnLearnTwiceUptoCard : Claim7 := { stood := { row := fnLearnTwiceUptoRow, standIns := [], harness := (true, "7dff220191ad5e2fd5e99d415d83a86e625a751157614db337b893bd21cc9e46"), looks := false }, kinds := [], alts := [], laidByText := true, laidKinds := [.data, .data], laidTests := true, laidLooks := .later }
def FnLearnTwiceUptoCardSaid : Prop := Claim7.holds Tryz.pinned (.plain (OpenSpec.upto fnLearnTwiceSpec)) fnLearnTwiceUptoCard

/-- THE SECOND FORM's CARD OF 'laws.FnLearnRows'. -/
def fnLearnRowsUptoCard : Claim7 := { stood := { row := fnLearnRowsUptoRow, standIns := [], harness := (true, "7dff220191ad5e2fd5e99d415d83a86e625a751157614db337b893bd21cc9e46"), looks := false }, kinds := [], alts := [], laidByText := true, laidKinds := [.data, .data], laidTests := true, laidLooks := .later }
def FnLearnRowsUptoCardSaid : Prop := Claim7.holds Tryz.pinned (.plain (OpenSpec.upto fnLearnRowsSpec)) fnLearnRowsUptoCard

/-- THE SECOND FORM's CARD OF 'laws.FnProposedGrow'. -/
def fnProposedGrowUptoCard : Claim7 := { stood := { row := fnProposedGrowUptoRow, standIns := [], harness := (true, "7dff220191ad5e2fd5e99d415d83a86e625a751157614db337b893bd21cc9e46"), looks := false }, kinds := [], alts := [], laidByText := true, laidKinds := [.data, .data], laidTests := true, laidLooks := .later }
def FnProposedGrowUptoCardSaid : Prop := Claim7.holds Tryz.pinned (.plain (OpenSpec.upto fnProposedGrowSpec)) fnProposedGrowUptoCard

/-- THE SECOND FORM's CARD OF 'laws.FnProposedAt'. -/
def fnProposedAtUptoCard : Claim7 := { stood := { row := fnProposedAtUptoRow, standIns := [], harness := (true, "7dff220191ad5e2fd5e99d415d83a86e625a751157614db337b893bd21cc9e46"), looks := false }, kinds := [], alts := [], laidByText := true, laidKinds := [.data, .data], laidTests := true, laidLooks := .later }
def FnProposedAtUptoCardSaid : Prop := Claim7.holds Tryz.pinned (.plain (OpenSpec.upto fnProposedAtSpec)) fnProposedAtUptoCard

/-- THE SECOND FORM's CARD OF 'laws.FnProposedEmpty'. -/
def fnProposedEmptyUptoCard : Claim7 := { stood := { row := fnProposedEmptyUptoRow, standIns := [], harness := (true, "7dff220191ad5e2fd5e99d415d83a86e625a751157614db337b893bd21cc9e46"), looks := false }, kinds := [], alts := [], laidByText := true, laidKinds := [.data, .data], laidTests := true, laidLooks := .later }
def FnProposedEmptyUptoCardSaid : Prop := Claim7.holds Tryz.pinned (.plain (OpenSpec.upto fnProposedEmptySpec)) fnProposedEmptyUptoCard

/-- THE SECOND FORM's CARD OF 'laws.FnLearnOther'. -/
def fnLearnOtherUptoCard : Claim7 := { stood := { row := fnLearnOtherUptoRow, standIns := [], harness := (true, "7dff220191ad5e2fd5e99d415d83a86e625a751157614db337b893bd21cc9e46"), looks := false }, kinds := [], alts := [], laidByText := true, laidKinds := [.data, .data], laidTests := true, laidLooks := .later }
def FnLearnOtherUptoCardSaid : Prop := Claim7.holds Tryz.pinned (.plain (OpenSpec.upto fnLearnOtherSpec)) fnLearnOtherUptoCard

/-- THE SECOND FORM's CARD OF 'laws.FnProposedLast'. -/
def fnProposedLastUptoCard : Claim7 := { stood := { row := fnProposedLastUptoRow, standIns := [], harness := (true, "7dff220191ad5e2fd5e99d415d83a86e625a751157614db337b893bd21cc9e46"), looks := false }, kinds := [], alts := [], laidByText := true, laidKinds := [.data, .data], laidTests := true, laidLooks := .later }
def FnProposedLastUptoCardSaid : Prop := Claim7.holds Tryz.pinned (.plain (OpenSpec.upto fnProposedLastSpec)) fnProposedLastUptoCard
end Rows
end Go.Proofs.YtainaphkaklkmaaGreatDoor
