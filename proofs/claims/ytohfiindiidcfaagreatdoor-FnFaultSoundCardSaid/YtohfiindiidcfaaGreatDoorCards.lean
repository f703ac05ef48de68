/-
  DERIVED. GIVEN WITH THE SEED: THE CARDS: each row of YtohfiindiidcfaaGreatDoorRows.lean that lists a variable, with what it lists TIED to the program's text (the seventh form; the later family's looks); each row that meets fmt, with fmt's text TOLD by the authors' own Lean function (tested against real Go, not proved from fmt's source: count such statements apart). THE CARD IS WHAT COUNTS. Prove the row's statement (the work); the ties are given (YtohfiindiidcfaaGreatDoorTie.lean); close each card by the builder's one call (the guide's Derived/Test/ToyasCard.lean, 'card_holds'). Laid BY PROGRAM, IN A SANDBOX (cutbox-door.mjs). By AI agents, Wed Nov 11 2026. No macro, syntax, notation, axiom, sorry.
-/
import Derived.Test.YtohfiindiidcfaaGreatDoorRows
import GoSem.ClaimSeven
namespace Go.Proofs.YtohfiindiidcfaaGreatDoor
namespace Rows

/-- THE TIED CARD OF 'laws.FnVerifyVerdict'. -/
def fnVerifyVerdictCard : Claim7 := { stood := { row := fnVerifyVerdictRow, standIns := [], harness := (true, "daf346914bbb58186c5ec422c774b971cffd17b503d1ba451f41004451eb467b"), looks := false }, kinds := [], alts := [], laidByText := true, laidKinds := [.data, .data], laidTests := true, laidLooks := .later }
def FnVerifyVerdictCardSaid : Prop := Claim7.holds Tryz.pinned (.plain (OpenSpec.ofChange fnVerifyVerdictSpec)) fnVerifyVerdictCard

/-- THE TIED CARD OF 'laws.FnVerifyHolds'. -/
def fnVerifyHoldsCard : Claim7 := { stood := { row := fnVerifyHoldsRow, standIns := [], harness := (true, "daf346914bbb58186c5ec422c774b971cffd17b503d1ba451f41004451eb467b"), looks := false }, kinds := [], alts := [], laidByText := true, laidKinds := [.data, .data], laidTests := true, laidLooks := .later }
def FnVerifyHoldsCardSaid : Prop := Claim7.holds Tryz.pinned (.plain (OpenSpec.ofChange fnVerifyHoldsSpec)) fnVerifyHoldsCard

/-- THE TIED CARD OF 'laws.FnVerifyTurned'. -/
def fnVerifyTurnedCard : Claim7 := { stood := { row := fnVerifyTurnedRow, standIns := [], harness := (true, "daf346914bbb58186c5ec422c774b971cffd17b503d1ba451f41004451eb467b"), looks := false }, kinds := [], alts := [], laidByText := true, laidKinds := [.data, .data], laidTests := true, laidLooks := .later }
def FnVerifyTurnedCardSaid : Prop := Claim7.holds Tryz.pinned (.plain (OpenSpec.ofChange fnVerifyTurnedSpec)) fnVerifyTurnedCard

/-- THE TIED CARD OF 'laws.FnVerifyAlone'. -/
def fnVerifyAloneCard : Claim7 := { stood := { row := fnVerifyAloneRow, standIns := [], harness := (true, "daf346914bbb58186c5ec422c774b971cffd17b503d1ba451f41004451eb467b"), looks := false }, kinds := [], alts := [], laidByText := true, laidKinds := [.data, .data], laidTests := true, laidLooks := .later }
def FnVerifyAloneCardSaid : Prop := Claim7.holds Tryz.pinned (.plain (OpenSpec.ofChange fnVerifyAloneSpec)) fnVerifyAloneCard

/-- THE TIED CARD OF 'laws.FnVerifySilent'. -/
def fnVerifySilentCard : Claim7 := { stood := { row := fnVerifySilentRow, standIns := [], harness := (true, "daf346914bbb58186c5ec422c774b971cffd17b503d1ba451f41004451eb467b"), looks := false }, kinds := [], alts := [], laidByText := true, laidKinds := [.data, .data], laidTests := true, laidLooks := .later }
def FnVerifySilentCardSaid : Prop := Claim7.holds Tryz.pinned (.plain (OpenSpec.ofChange fnVerifySilentSpec)) fnVerifySilentCard

/-- THE TIED CARD OF 'laws.FnAssumptionRefuted'. -/
def fnAssumptionRefutedCard : Claim7 := { stood := { row := fnAssumptionRefutedRow, standIns := [], harness := (true, "daf346914bbb58186c5ec422c774b971cffd17b503d1ba451f41004451eb467b"), looks := false }, kinds := [], alts := [], laidByText := true, laidKinds := [.data, .data], laidTests := true, laidLooks := .later }
def FnAssumptionRefutedCardSaid : Prop := Claim7.holds Tryz.pinned (.plain (OpenSpec.ofChange fnAssumptionRefutedSpec)) fnAssumptionRefutedCard

/-- THE TIED CARD OF 'laws.FnFaultOrder'. -/
def fnFaultOrderCard : Claim7 := { stood := { row := fnFaultOrderRow, standIns := [], harness := (true, "daf346914bbb58186c5ec422c774b971cffd17b503d1ba451f41004451eb467b"), looks := false }, kinds := [], alts := [], laidByText := true, laidKinds := [.data, .data], laidTests := true, laidLooks := .later }
def FnFaultOrderCardSaid : Prop := Claim7.holds Tryz.pinned (.plain (OpenSpec.ofChange fnFaultOrderSpec)) fnFaultOrderCard

/-- THE TIED CARD OF 'laws.FnFaultSound'. -/
def fnFaultSoundCard : Claim7 := { stood := { row := fnFaultSoundRow, standIns := [], harness := (true, "daf346914bbb58186c5ec422c774b971cffd17b503d1ba451f41004451eb467b"), looks := false }, kinds := [], alts := [], laidByText := true, laidKinds := [.data, .data], laidTests := true, laidLooks := .later }
def FnFaultSoundCardSaid : Prop := Claim7.holds Tryz.pinned (.plain (OpenSpec.ofChange fnFaultSoundSpec)) fnFaultSoundCard

/-- THE TIED CARD OF 'laws.FnVerifyFails'. -/
def fnVerifyFailsCard : Claim7 := { stood := { row := fnVerifyFailsRow, standIns := [], harness := (true, "daf346914bbb58186c5ec422c774b971cffd17b503d1ba451f41004451eb467b"), looks := false }, kinds := [], alts := [], laidByText := true, laidKinds := [.data, .data], laidTests := true, laidLooks := .later }
def FnVerifyFailsCardSaid : Prop := Claim7.holds Tryz.pinned (.plain (OpenSpec.ofChange fnVerifyFailsSpec)) fnVerifyFailsCard

/-- THE SECOND FORM's CARD OF 'laws.FnVerifyVerdict'. -/
def fnVerifyVerdictUptoCard : Claim7 := { stood := { row := fnVerifyVerdictUptoRow, standIns := [], harness := (true, "daf346914bbb58186c5ec422c774b971cffd17b503d1ba451f41004451eb467b"), looks := false }, kinds := [], alts := [], laidByText := true, laidKinds := [.data, .data], laidTests := true, laidLooks := .later }
def FnVerifyVerdictUptoCardSaid : Prop := Claim7.holds Tryz.pinned (.plain (OpenSpec.upto fnVerifyVerdictSpec)) fnVerifyVerdictUptoCard

/-- THE SECOND FORM's CARD OF 'laws.FnVerifyHolds'. -/
def fnVerifyHoldsUptoCard : Claim7 := { stood := { row := fnVerifyHoldsUptoRow, standIns := [], harness := (true, "daf346914bbb58186c5ec422c774b971cffd17b503d1ba451f41004451eb467b"), looks := false }, kinds := [], alts := [], laidByText := true, laidKinds := [.data, .data], laidTests := true, laidLooks := .later }
def FnVerifyHoldsUptoCardSaid : Prop := Claim7.holds Tryz.pinned (.plain (OpenSpec.upto fnVerifyHoldsSpec)) fnVerifyHoldsUptoCard

/-- THE SECOND FORM's CARD OF 'laws.FnVerifyTurned'. -/
def fnVerifyTurnedUptoCard : Claim7 := { stood := { row := fnVerifyTurnedUptoRow, standIns := [], harness := (true, "daf346914bbb58186c5ec422c774b971cffd17b503d1ba451f41004451eb467b"), looks := false }, kinds := [], alts := [], laidByText := true, laidKinds := [.data, .data], laidTests := true, laidLooks := .later }
def FnVerifyTurnedUptoCardSaid : Prop := Claim7.holds Tryz.pinned (.plain (OpenSpec.upto fnVerifyTurnedSpec)) fnVerifyTurnedUptoCard

/-- THE SECOND FORM's CARD OF 'laws.FnVerifyAlone'. -/
def fnVerifyAloneUptoCard : Claim7 := { stood := { row := fnVerifyAloneUptoRow, standIns := [], harness := (true, "daf346914bbb58186c5ec422c774b971cffd17b503d1ba451f41004451eb467b"), looks := false }, kinds := [], alts := [], laidByText := true, laidKinds := [.data, .data], laidTests := true, laidLooks := .later }
def FnVerifyAloneUptoCardSaid : Prop := Claim7.holds Tryz.pinned (.plain (OpenSpec.upto fnVerifyAloneSpec)) fnVerifyAloneUptoCard

/-- THE SECOND FORM's CARD OF 'laws.FnVerifySilent'. -/
def fnVerifySilentUptoCard : Claim7 := { stood := { row := fnVerifySilentUptoRow, standIns := [], harness := (true, "daf346914bbb58186c5ec422c774b971cffd17b503d1ba451f41004451eb467b"), looks := false }, kinds := [], alts := [], laidByText := true, laidKinds := [.data, .data], laidTests := true, laidLooks := .later }
def FnVerifySilentUptoCardSaid : Prop := Claim7.holds Tryz.pinned (.plain (OpenSpec.upto fnVerifySilentSpec)) fnVerifySilentUptoCard

/-- THE SECOND FORM's CARD OF 'laws.FnAssumptionRefuted'. -/
def fnAssumptionRefutedUptoCard : Claim7 := { stood := { row := fnAssumptionRefutedUptoRow, standIns := [], harness := (true, "daf346914bbb58186c5ec422c774b971cffd17b503d1ba451f41004451eb467b"), looks := false }, kinds := [], alts := [], laidByText := true, laidKinds := [.data, .data], laidTests := true, laidLooks := .later }
def FnAssumptionRefutedUptoCardSaid : Prop := Claim7.holds Tryz.pinned (.plain (OpenSpec.upto fnAssumptionRefutedSpec)) fnAssumptionRefutedUptoCard

/-- THE SECOND FORM's CARD OF 'laws.FnFaultOrder'. -/
def fnFaultOrderUptoCard : Claim7 := { stood := { row := fnFaultOrderUptoRow, standIns := [], harness := (true, "daf346914bbb58186c5ec422c774b971cffd17b503d1ba451f41004451eb467b"), looks := false }, kinds := [], alts := [], laidByText := true, laidKinds := [.data, .data], laidTests := true, laidLooks := .later }
def FnFaultOrderUptoCardSaid : Prop := Claim7.holds Tryz.pinned (.plain (OpenSpec.upto fnFaultOrderSpec)) fnFaultOrderUptoCard

/-- THE SECOND FORM's CARD OF 'laws.FnFaultSound'. -/
def fnFaultSoundUptoCard : Claim7 := { stood := { row := fnFaultSoundUptoRow, standIns := [], harness := (true, "daf346914bbb58186c5ec422c774b971cffd17b503d1ba451f41004451eb467b"), looks := false }, kinds := [], alts := [], laidByText := true, laidKinds := [.data, .data], laidTests := true, laidLooks := .later }
def FnFaultSoundUptoCardSaid : Prop := Claim7.holds Tryz.pinned (.plain (OpenSpec.upto fnFaultSoundSpec)) fnFaultSoundUptoCard

/-- THE SECOND FORM's CARD OF 'laws.FnVerifyFails'. -/
def fnVerifyFailsUptoCard : Claim7 := { stood := { row := fnVerifyFailsUptoRow, standIns := [], harness := (true, "daf346914bbb58186c5ec422c774b971cffd17b503d1ba451f41004451eb467b"), looks := false }, kinds := [], alts := [], laidByText := true, laidKinds := [.data, .data], laidTests := true, laidLooks := .later }
def FnVerifyFailsUptoCardSaid : Prop := Claim7.holds Tryz.pinned (.plain (OpenSpec.upto fnVerifyFailsSpec)) fnVerifyFailsUptoCard
end Rows
end Go.Proofs.YtohfiindiidcfaaGreatDoor
