/-
  DERIVED. GIVEN WITH THE SEED: THE CARDS: each row of YtedfpcdmhbbkmaaGreatDoorRows.lean that lists a variable, with what it lists TIED to the program's text (the seventh form; the later family's looks); each row that meets fmt, with fmt's text TOLD by the authors' own Lean function (tested against real Go, not proved from fmt's source: count such statements apart). THE CARD IS WHAT COUNTS. Prove the row's statement (the work); the ties are given (YtedfpcdmhbbkmaaGreatDoorTie.lean); close each card by the builder's one call (the guide's Derived/Test/ToyasCard.lean, 'card_holds'). Laid BY PROGRAM, IN A SANDBOX (cutbox-door.mjs). By AI agents, Wed Nov 11 2026. No macro, syntax, notation, axiom, sorry.
-/
import Derived.Test.YtedfpcdmhbbkmaaGreatDoorRows
import GoSem.ClaimSeven
namespace Go.Proofs.YtedfpcdmhbbkmaaGreatDoor
namespace Rows

/-- THE TIED CARD OF 'laws.FnLearnSame'. -/
def fnLearnSameCard : Claim7 := { stood := { row := fnLearnSameRow, standIns := [], harness := (true, "4371bed3ce980a659fda51ab096b904d67339648e45b5cbe56c4aeacf27df47a"), looks := false }, kinds := [], alts := [], laidByText := true, laidKinds := [.data, .data], laidTests := true, laidLooks := .later }
def FnLearnSameCardSaid : Prop := Claim7.holds Tryz.pinned (.plain (OpenSpec.ofChange fnLearnSameSpec)) fnLearnSameCard

/-- THE TIED CARD OF 'laws.FnLearnTwice'. -/
def fnLearnTwiceCard : Claim7 := { stood := { row := fnLearnTwiceRow, standIns := [], harness := (true, "4371bed3ce980a659fda51ab096b904d67339648e45b5cbe56c4aeacf27df47a"), looks := false }, kinds := [], alts := [], laidByText := true, laidKinds := [.data, .data], laidTests := true, laidLooks := .later }
def FnLearnTwiceCardSaid : Prop := Claim7.holds Tryz.pinned (.plain (OpenSpec.ofChange fnLearnTwiceSpec)) fnLearnTwiceCard

/-- THE TIED CARD OF 'laws.FnLearnRows'. -/
def fnLearnRowsCard : Claim7 := { stood := { row := fnLearnRowsRow, standIns := [], harness := (true, "4371bed3ce980a659fda51ab096b904d67339648e45b5cbe56c4aeacf27df47a"), looks := false }, kinds := [], alts := [], laidByText := true, laidKinds := [.data, .data], laidTests := true, laidLooks := .later }
def FnLearnRowsCardSaid : Prop := Claim7.holds Tryz.pinned (.plain (OpenSpec.ofChange fnLearnRowsSpec)) fnLearnRowsCard

/-- THE TIED CARD OF 'laws.FnProposedGrow'. -/
def fnProposedGrowCard : Claim7 := { stood := { row := fnProposedGrowRow, standIns := [], harness := (true, "4371bed3ce980a659fda51ab096b904d67339648e45b5cbe56c4aeacf27df47a"), looks := false }, kinds := [], alts := [], laidByText := true, laidKinds := [.data, .data], laidTests := true, laidLooks := .later }
def FnProposedGrowCardSaid : Prop := Claim7.holds Tryz.pinned (.plain (OpenSpec.ofChange fnProposedGrowSpec)) fnProposedGrowCard

/-- THE SECOND FORM's CARD OF 'laws.FnLearnSame'. -/
def fnLearnSameUptoCard : Claim7 := { stood := { row := fnLearnSameUptoRow, standIns := [], harness := (true, "4371bed3ce980a659fda51ab096b904d67339648e45b5cbe56c4aeacf27df47a"), looks := false }, kinds := [], alts := [], laidByText := true, laidKinds := [.data, .data], laidTests := true, laidLooks := .later }
def FnLearnSameUptoCardSaid : Prop := Claim7.holds Tryz.pinned (.plain (OpenSpec.upto fnLearnSameSpec)) fnLearnSameUptoCard

/-- THE SECOND FORM's CARD OF 'laws.FnLearnTwice'. -/
def fnLearnTwiceUptoCard : Claim7 := { stood := { row := fnLearnTwiceUptoRow, standIns := [], harness := (true, "4371bed3ce980a659fda51ab096b904d67339648e45b5cbe56c4aeacf27df47a"), looks := false }, kinds := [], alts := [], laidByText := true, laidKinds := [.data, .data], laidTests := true, laidLooks := .later }
def FnLearnTwiceUptoCardSaid : Prop := Claim7.holds Tryz.pinned (.plain (OpenSpec.upto fnLearnTwiceSpec)) fnLearnTwiceUptoCard

/-- THE SECOND FORM's CARD OF 'laws.FnLearnRows'. -/
def fnLearnRowsUptoCard : Claim7 := { stood := { row := fnLearnRowsUptoRow, standIns := [], harness := (true, "4371bed3ce980a659fda51ab096b904d67339648e45b5cbe56c4aeacf27df47a"), looks := false }, kinds := [], alts := [], laidByText := true, laidKinds := [.data, .data], laidTests := true, laidLooks := .later }
def FnLearnRowsUptoCardSaid : Prop := Claim7.holds Tryz.pinned (.plain (OpenSpec.upto fnLearnRowsSpec)) fnLearnRowsUptoCard

/-- THE SECOND FORM's CARD OF 'laws.FnProposedGrow'. -/
def fnProposedGrowUptoCard : Claim7 := { stood := { row := fnProposedGrowUptoRow, standIns := [], harness := (true, "4371bed3ce980a659fda51ab096b904d67339648e45b5cbe56c4aeacf27df47a"), looks := false }, kinds := [], alts := [], laidByText := true, laidKinds := [.data, .data], laidTests := true, laidLooks := .later }
def FnProposedGrowUptoCardSaid : Prop := Claim7.holds Tryz.pinned (.plain (OpenSpec.upto fnProposedGrowSpec)) fnProposedGrowUptoCard
end Rows
end Go.Proofs.YtedfpcdmhbbkmaaGreatDoor
