/-
  DERIVED. GIVEN WITH THE SEED: THE CARDS: each row of YtnnalheaipnnaaaGreatDoorRows.lean that lists a variable, with what it lists TIED to the program's text (the seventh form; the later family's looks); each row that meets fmt, with fmt's text TOLD by the authors' own Lean function (tested against real Go, not proved from fmt's source: count such statements apart). THE CARD IS WHAT COUNTS. Prove the row's statement (the work); the ties are given (YtnnalheaipnnaaaGreatDoorTie.lean); close each card by the builder's one call (the guide's Derived/Test/ToyasCard.lean, 'card_holds'). Laid BY PROGRAM, IN A SANDBOX (cutbox-door.mjs). By AI agents, Wed Nov 11 2026. No macro, syntax, notation, axiom, sorry.
-/
import Derived.Test.YtnnalheaipnnaaaGreatDoorRows
import GoSem.ClaimSeven
namespace Go.Proofs.YtnnalheaipnnaaaGreatDoor
namespace Rows

/-- THE TIED CARD OF 'laws.FnExactLearnRounds'. -/
def fnExactLearnRoundsCard : Claim7 := { stood := { row := fnExactLearnRoundsRow, standIns := [], harness := (true, "60c0ee60ee38d0e5fde83785a7a21bc7baface56fe7aa12716ade74de829cd8d"), looks := false }, kinds := [], alts := [], laidByText := true, laidKinds := [.data, .data], laidTests := true, laidLooks := .later }
def FnExactLearnRoundsCardSaid : Prop := Claim7.holds Tryz.pinned (.plain (OpenSpec.ofChange fnExactLearnRoundsSpec)) fnExactLearnRoundsCard

/-- THE SECOND FORM's CARD OF 'laws.FnExactLearnRounds'. -/
def fnExactLearnRoundsUptoCard : Claim7 := { stood := { row := fnExactLearnRoundsUptoRow, standIns := [], harness := (true, "60c0ee60ee38d0e5fde83785a7a21bc7baface56fe7aa12716ade74de829cd8d"), looks := false }, kinds := [], alts := [], laidByText := true, laidKinds := [.data, .data], laidTests := true, laidLooks := .later }
def FnExactLearnRoundsUptoCardSaid : Prop := Claim7.holds Tryz.pinned (.plain (OpenSpec.upto fnExactLearnRoundsSpec)) fnExactLearnRoundsUptoCard
end Rows
end Go.Proofs.YtnnalheaipnnaaaGreatDoor
