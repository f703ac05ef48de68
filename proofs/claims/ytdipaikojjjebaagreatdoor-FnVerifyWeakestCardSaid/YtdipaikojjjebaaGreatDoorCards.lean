/-
  DERIVED. GIVEN WITH THE SEED: THE CARDS: each row of YtdipaikojjjebaaGreatDoorRows.lean that lists a variable, with what it lists TIED to the program's text (the seventh form; the later family's looks); each row that meets fmt, with fmt's text TOLD by the authors' own Lean function (tested against real Go, not proved from fmt's source: count such statements apart). THE CARD IS WHAT COUNTS. Prove the row's statement (the work); the ties are given (YtdipaikojjjebaaGreatDoorTie.lean); close each card by the builder's one call (the guide's Derived/Test/ToyasCard.lean, 'card_holds'). Laid BY PROGRAM, IN A SANDBOX (cutbox-door.mjs). By AI agents, Wed Nov 11 2026. No macro, syntax, notation, axiom, sorry.
-/
import Derived.Test.YtdipaikojjjebaaGreatDoorRows
import GoSem.ClaimSeven
namespace Go.Proofs.YtdipaikojjjebaaGreatDoor
namespace Rows

/-- THE TIED CARD OF 'laws.FnVerifySafety'. -/
def fnVerifySafetyCard : Claim7 := { stood := { row := fnVerifySafetyRow, standIns := [], harness := (true, "059ae6f5a8a14fbc47fe0c8a0f50601f2e25926b506f3c3196a6b7ef137cca42"), looks := false }, kinds := [], alts := [], laidByText := true, laidKinds := [.data, .data], laidTests := true, laidLooks := .later }
def FnVerifySafetyCardSaid : Prop := Claim7.holds Tryz.pinned (.plain (OpenSpec.ofChange fnVerifySafetySpec)) fnVerifySafetyCard

/-- THE TIED CARD OF 'laws.FnVerifyReplace'. -/
def fnVerifyReplaceCard : Claim7 := { stood := { row := fnVerifyReplaceRow, standIns := [], harness := (true, "059ae6f5a8a14fbc47fe0c8a0f50601f2e25926b506f3c3196a6b7ef137cca42"), looks := false }, kinds := [], alts := [], laidByText := true, laidKinds := [.data, .data], laidTests := true, laidLooks := .later }
def FnVerifyReplaceCardSaid : Prop := Claim7.holds Tryz.pinned (.plain (OpenSpec.ofChange fnVerifyReplaceSpec)) fnVerifyReplaceCard

/-- THE TIED CARD OF 'laws.FnVerifyReuse'. -/
def fnVerifyReuseCard : Claim7 := { stood := { row := fnVerifyReuseRow, standIns := [], harness := (true, "059ae6f5a8a14fbc47fe0c8a0f50601f2e25926b506f3c3196a6b7ef137cca42"), looks := false }, kinds := [], alts := [], laidByText := true, laidKinds := [.data, .data], laidTests := true, laidLooks := .later }
def FnVerifyReuseCardSaid : Prop := Claim7.holds Tryz.pinned (.plain (OpenSpec.ofChange fnVerifyReuseSpec)) fnVerifyReuseCard

/-- THE TIED CARD OF 'laws.FnVerifyTraces'. -/
def fnVerifyTracesCard : Claim7 := { stood := { row := fnVerifyTracesRow, standIns := [], harness := (true, "059ae6f5a8a14fbc47fe0c8a0f50601f2e25926b506f3c3196a6b7ef137cca42"), looks := false }, kinds := [], alts := [], laidByText := true, laidKinds := [.data, .data], laidTests := true, laidLooks := .later }
def FnVerifyTracesCardSaid : Prop := Claim7.holds Tryz.pinned (.plain (OpenSpec.ofChange fnVerifyTracesSpec)) fnVerifyTracesCard

/-- THE TIED CARD OF 'laws.FnFaultBetween'. -/
def fnFaultBetweenCard : Claim7 := { stood := { row := fnFaultBetweenRow, standIns := [], harness := (true, "059ae6f5a8a14fbc47fe0c8a0f50601f2e25926b506f3c3196a6b7ef137cca42"), looks := false }, kinds := [], alts := [], laidByText := true, laidKinds := [.data, .data, .data], laidTests := true, laidLooks := .later }
def FnFaultBetweenCardSaid : Prop := Claim7.holds Tryz.pinned (.plain (OpenSpec.ofChange fnFaultBetweenSpec)) fnFaultBetweenCard

/-- THE TIED CARD OF 'laws.FnVerifyWeakest'. -/
def fnVerifyWeakestCard : Claim7 := { stood := { row := fnVerifyWeakestRow, standIns := [], harness := (true, "059ae6f5a8a14fbc47fe0c8a0f50601f2e25926b506f3c3196a6b7ef137cca42"), looks := false }, kinds := [], alts := [], laidByText := true, laidKinds := [.data, .data, .data], laidTests := true, laidLooks := .later }
def FnVerifyWeakestCardSaid : Prop := Claim7.holds Tryz.pinned (.plain (OpenSpec.ofChange fnVerifyWeakestSpec)) fnVerifyWeakestCard

/-- THE SECOND FORM's CARD OF 'laws.FnVerifySafety'. -/
def fnVerifySafetyUptoCard : Claim7 := { stood := { row := fnVerifySafetyUptoRow, standIns := [], harness := (true, "059ae6f5a8a14fbc47fe0c8a0f50601f2e25926b506f3c3196a6b7ef137cca42"), looks := false }, kinds := [], alts := [], laidByText := true, laidKinds := [.data, .data], laidTests := true, laidLooks := .later }
def FnVerifySafetyUptoCardSaid : Prop := Claim7.holds Tryz.pinned (.plain (OpenSpec.upto fnVerifySafetySpec)) fnVerifySafetyUptoCard

/-- THE SECOND FORM's CARD OF 'laws.FnVerifyReplace'. -/
def fnVerifyReplaceUptoCard : Claim7 := { stood := { row := fnVerifyReplaceUptoRow, standIns := [], harness := (true, "059ae6f5a8a14fbc47fe0c8a0f50601f2e25926b506f3c3196a6b7ef137cca42"), looks := false }, kinds := [], alts := [], laidByText := true, laidKinds := [.data, .data], laidTests := true, laidLooks := .later }
def FnVerifyReplaceUptoCardSaid : Prop := Claim7.holds Tryz.pinned (.plain (OpenSpec.upto fnVerifyReplaceSpec)) fnVerifyReplaceUptoCard

/-- THE SECOND FORM's CARD OF 'laws.FnVerifyReuse'. -/
def fnVerifyReuseUptoCard : Claim7 := { stood := { row := fnVerifyReuseUptoRow, standIns := [], harness := (true, "059ae6f5a8a14fbc47fe0c8a0f50601f2e25926b506f3c3196a6b7ef137cca42"), looks := false }, kinds := [], alts := [], laidByText := true, laidKinds := [.data, .data], laidTests := true, laidLooks := .later }
def FnVerifyReuseUptoCardSaid : Prop := Claim7.holds Tryz.pinned (.plain (OpenSpec.upto fnVerifyReuseSpec)) fnVerifyReuseUptoCard

/-- THE SECOND FORM's CARD OF 'laws.FnVerifyTraces'. -/
def fnVerifyTracesUptoCard : Claim7 := { stood := { row := fnVerifyTracesUptoRow, standIns := [], harness := (true, "059ae6f5a8a14fbc47fe0c8a0f50601f2e25926b506f3c3196a6b7ef137cca42"), looks := false }, kinds := [], alts := [], laidByText := true, laidKinds := [.data, .data], laidTests := true, laidLooks := .later }
def FnVerifyTracesUptoCardSaid : Prop := Claim7.holds Tryz.pinned (.plain (OpenSpec.upto fnVerifyTracesSpec)) fnVerifyTracesUptoCard

/-- THE SECOND FORM's CARD OF 'laws.FnFaultBetween'. -/
def fnFaultBetweenUptoCard : Claim7 := { stood := { row := fnFaultBetweenUptoRow, standIns := [], harness := (true, "059ae6f5a8a14fbc47fe0c8a0f50601f2e25926b506f3c3196a6b7ef137cca42"), looks := false }, kinds := [], alts := [], laidByText := true, laidKinds := [.data, .data, .data], laidTests := true, laidLooks := .later }
def FnFaultBetweenUptoCardSaid : Prop := Claim7.holds Tryz.pinned (.plain (OpenSpec.upto fnFaultBetweenSpec)) fnFaultBetweenUptoCard

/-- THE SECOND FORM's CARD OF 'laws.FnVerifyWeakest'. -/
def fnVerifyWeakestUptoCard : Claim7 := { stood := { row := fnVerifyWeakestUptoRow, standIns := [], harness := (true, "059ae6f5a8a14fbc47fe0c8a0f50601f2e25926b506f3c3196a6b7ef137cca42"), looks := false }, kinds := [], alts := [], laidByText := true, laidKinds := [.data, .data, .data], laidTests := true, laidLooks := .later }
def FnVerifyWeakestUptoCardSaid : Prop := Claim7.holds Tryz.pinned (.plain (OpenSpec.upto fnVerifyWeakestSpec)) fnVerifyWeakestUptoCard
end Rows
end Go.Proofs.YtdipaikojjjebaaGreatDoor
