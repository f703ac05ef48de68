/-
  DERIVED. GIVEN WITH THE SEED: THE CARDS: each row of YtbfgijpfhgmepaaGreatDoorRows.lean that lists a variable, with what it lists TIED to the program's text (the seventh form; the later family's looks); each row that meets fmt, with fmt's text TOLD by the authors' own Lean function (tested against real Go, not proved from fmt's source: count such statements apart). THE CARD IS WHAT COUNTS. Prove the row's statement (the work); the ties are given (YtbfgijpfhgmepaaGreatDoorTie.lean); close each card by the builder's one call (the guide's Derived/Test/ToyasCard.lean, 'card_holds'). Laid BY PROGRAM, IN A SANDBOX (cutbox-door.mjs). By AI agents, Wed Nov 11 2026. No macro, syntax, notation, axiom, sorry.
-/
import Derived.Test.YtbfgijpfhgmepaaGreatDoorRows
import GoSem.ClaimSeven
namespace Go.Proofs.YtbfgijpfhgmepaaGreatDoor
namespace Rows

/-- THE TIED CARD OF 'laws.FnAssumptionAt'. -/
def fnAssumptionAtCard : Claim7 := { stood := { row := fnAssumptionAtRow, standIns := [], harness := (true, "c577e3e6f41decddcca3ef00f2342839337c698a1534cd43da9b668f42897fe7"), looks := false }, kinds := [], alts := [], laidByText := true, laidKinds := [.data, .data], laidTests := true, laidLooks := .later }
def FnAssumptionAtCardSaid : Prop := Claim7.holds Tryz.pinned (.plain (OpenSpec.ofChange fnAssumptionAtSpec)) fnAssumptionAtCard

/-- THE TIED CARD OF 'laws.FnExactAssumptionAt'. -/
def fnExactAssumptionAtCard : Claim7 := { stood := { row := fnExactAssumptionAtRow, standIns := [], harness := (true, "c577e3e6f41decddcca3ef00f2342839337c698a1534cd43da9b668f42897fe7"), looks := false }, kinds := [], alts := [], laidByText := true, laidKinds := [.data, .data], laidTests := true, laidLooks := .later }
def FnExactAssumptionAtCardSaid : Prop := Claim7.holds Tryz.pinned (.plain (OpenSpec.ofChange fnExactAssumptionAtSpec)) fnExactAssumptionAtCard

/-- THE TIED CARD OF 'laws.FnExactVerifyPair'. -/
def fnExactVerifyPairCard : Claim7 := { stood := { row := fnExactVerifyPairRow, standIns := [], harness := (true, "c577e3e6f41decddcca3ef00f2342839337c698a1534cd43da9b668f42897fe7"), looks := false }, kinds := [], alts := [], laidByText := true, laidKinds := [.data, .data], laidTests := true, laidLooks := .later }
def FnExactVerifyPairCardSaid : Prop := Claim7.holds Tryz.pinned (.plain (OpenSpec.ofChange fnExactVerifyPairSpec)) fnExactVerifyPairCard

/-- THE TIED CARD OF 'laws.FnVerifyRounds'. -/
def fnVerifyRoundsCard : Claim7 := { stood := { row := fnVerifyRoundsRow, standIns := [], harness := (true, "c577e3e6f41decddcca3ef00f2342839337c698a1534cd43da9b668f42897fe7"), looks := false }, kinds := [], alts := [], laidByText := true, laidKinds := [.data, .data], laidTests := true, laidLooks := .later }
def FnVerifyRoundsCardSaid : Prop := Claim7.holds Tryz.pinned (.plain (OpenSpec.ofChange fnVerifyRoundsSpec)) fnVerifyRoundsCard

/-- THE SECOND FORM's CARD OF 'laws.FnAssumptionAt'. -/
def fnAssumptionAtUptoCard : Claim7 := { stood := { row := fnAssumptionAtUptoRow, standIns := [], harness := (true, "c577e3e6f41decddcca3ef00f2342839337c698a1534cd43da9b668f42897fe7"), looks := false }, kinds := [], alts := [], laidByText := true, laidKinds := [.data, .data], laidTests := true, laidLooks := .later }
def FnAssumptionAtUptoCardSaid : Prop := Claim7.holds Tryz.pinned (.plain (OpenSpec.upto fnAssumptionAtSpec)) fnAssumptionAtUptoCard

/-- THE SECOND FORM's CARD OF 'laws.FnExactAssumptionAt'. -/
def fnExactAssumptionAtUptoCard : Claim7 := { stood := { row := fnExactAssumptionAtUptoRow, standIns := [], harness := (true, "c577e3e6f41decddcca3ef00f2342839337c698a1534cd43da9b668f42897fe7"), looks := false }, kinds := [], alts := [], laidByText := true, laidKinds := [.data, .data], laidTests := true, laidLooks := .later }
def FnExactAssumptionAtUptoCardSaid : Prop := Claim7.holds Tryz.pinned (.plain (OpenSpec.upto fnExactAssumptionAtSpec)) fnExactAssumptionAtUptoCard

/-- THE SECOND FORM's CARD OF 'laws.FnExactVerifyPair'. -/
def fnExactVerifyPairUptoCard : Claim7 := { stood := { row := fnExactVerifyPairUptoRow, standIns := [], harness := (true, "c577e3e6f41decddcca3ef00f2342839337c698a1534cd43da9b668f42897fe7"), looks := false }, kinds := [], alts := [], laidByText := true, laidKinds := [.data, .data], laidTests := true, laidLooks := .later }
def FnExactVerifyPairUptoCardSaid : Prop := Claim7.holds Tryz.pinned (.plain (OpenSpec.upto fnExactVerifyPairSpec)) fnExactVerifyPairUptoCard

/-- THE SECOND FORM's CARD OF 'laws.FnVerifyRounds'. -/
def fnVerifyRoundsUptoCard : Claim7 := { stood := { row := fnVerifyRoundsUptoRow, standIns := [], harness := (true, "c577e3e6f41decddcca3ef00f2342839337c698a1534cd43da9b668f42897fe7"), looks := false }, kinds := [], alts := [], laidByText := true, laidKinds := [.data, .data], laidTests := true, laidLooks := .later }
def FnVerifyRoundsUptoCardSaid : Prop := Claim7.holds Tryz.pinned (.plain (OpenSpec.upto fnVerifyRoundsSpec)) fnVerifyRoundsUptoCard
end Rows
end Go.Proofs.YtbfgijpfhgmepaaGreatDoor
