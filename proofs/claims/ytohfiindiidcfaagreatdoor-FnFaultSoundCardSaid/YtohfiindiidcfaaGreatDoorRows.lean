/-
  NARROWER THAN 'FOR EVERY INPUT', by the rows' own cells (each row's printed sentence says how): FnVerifyVerdict: laid · FnVerifyHolds: laid · FnVerifyTurned: laid · FnVerifyAlone: laid · FnVerifySilent: laid · FnAssumptionRefuted: laid · FnFaultOrder: laid · FnFaultSound: laid · FnVerifyFails: laid.
  DERIVED. THE GIVEN ROWS OF THIS SEAT. 9 by the template 'for every input the law returns true; each argument reads behind the call as it read before'; 0 by the template 'total and deterministic' (their statements: YtohfiindiidcfaaGreatDoorTotals.lean).
  GIVEN WITH THE SEED: the statements are not yours to turn. If you find one false, say at which input.
  Laid BY PROGRAM, IN A SANDBOX (cutbox-rows.mjs): the forced cells as the released guide's own fill.sh prints them over the translation adac5b94a3a69267… (all of the seat's roots in one cut). By AI agents, Wed Nov 11 2026. No macro, syntax, notation, axiom, sorry.
-/
import Derived.Test.YtohfiindiidcfaaGreatDoorChecked
import GoSem.Claim
import GoSem.ClaimJoined
import GoSem.ClaimMapViews
import Derived.JoinedTies
import Derived.KernelRfl
namespace Go.Proofs.YtohfiindiidcfaaGreatDoor
/- THE CELL 'sum', in the pinned program and in every row, IS THE sha256 OF THE DUMP (.gsa) THAT YtohfiindiidcfaaGreatDoorProg.lean LOADS. Nothing in Lean hashes anything: it is a label: what it is worth is what the hold of that sum in a sandbox is worth. -/
noncomputable def Tryz.pinned : Pinned := { name := "ytohfiindiidcfaagreatdoor", sum := "adac5b94a3a692674a92ec74121f032d4dbfc70826b16f478031cc1c3da18213", checked := Tryz.checked }
namespace Rows
def none {H : Type} : Left H := { results := [], args := [] }

/- WHAT THE LISTED PACKAGE-LEVEL VARIABLES READ AS WHEN THE CALL BEGINS. Each datum BY PROGRAM (the guide's laid-datum.mjs) off the statement by which the dump's own 'gosem.cut.vars' lays the variable. In a bare row this is a premise. The card (YtohfiindiidcfaaGreatDoorCards.lean) ties it to the program's text. -/
def laid_math_bits_deBruijn32tab {H : Type} : DataW H := .agg [.lit (.int .u8 0), .lit (.int .u8 1), .lit (.int .u8 28), .lit (.int .u8 2), .lit (.int .u8 29), .lit (.int .u8 14), .lit (.int .u8 24), .lit (.int .u8 3), .lit (.int .u8 30), .lit (.int .u8 22), .lit (.int .u8 20), .lit (.int .u8 15), .lit (.int .u8 25), .lit (.int .u8 17), .lit (.int .u8 4), .lit (.int .u8 8), .lit (.int .u8 31), .lit (.int .u8 27), .lit (.int .u8 13), .lit (.int .u8 23), .lit (.int .u8 21), .lit (.int .u8 19), .lit (.int .u8 16), .lit (.int .u8 7), .lit (.int .u8 26), .lit (.int .u8 12), .lit (.int .u8 18), .lit (.int .u8 6), .lit (.int .u8 11), .lit (.int .u8 5), .lit (.int .u8 10), .lit (.int .u8 9)]
def laid_math_bits_deBruijn64tab {H : Type} : DataW H := .agg [.lit (.int .u8 0), .lit (.int .u8 1), .lit (.int .u8 56), .lit (.int .u8 2), .lit (.int .u8 57), .lit (.int .u8 49), .lit (.int .u8 28), .lit (.int .u8 3), .lit (.int .u8 61), .lit (.int .u8 58), .lit (.int .u8 42), .lit (.int .u8 50), .lit (.int .u8 38), .lit (.int .u8 29), .lit (.int .u8 17), .lit (.int .u8 4), .lit (.int .u8 62), .lit (.int .u8 47), .lit (.int .u8 59), .lit (.int .u8 36), .lit (.int .u8 45), .lit (.int .u8 43), .lit (.int .u8 51), .lit (.int .u8 22), .lit (.int .u8 53), .lit (.int .u8 39), .lit (.int .u8 33), .lit (.int .u8 30), .lit (.int .u8 24), .lit (.int .u8 18), .lit (.int .u8 12), .lit (.int .u8 5), .lit (.int .u8 63), .lit (.int .u8 55), .lit (.int .u8 48), .lit (.int .u8 27), .lit (.int .u8 60), .lit (.int .u8 41), .lit (.int .u8 37), .lit (.int .u8 16), .lit (.int .u8 46), .lit (.int .u8 35), .lit (.int .u8 44), .lit (.int .u8 21), .lit (.int .u8 52), .lit (.int .u8 32), .lit (.int .u8 23), .lit (.int .u8 11), .lit (.int .u8 54), .lit (.int .u8 26), .lit (.int .u8 40), .lit (.int .u8 15), .lit (.int .u8 34), .lit (.int .u8 20), .lit (.int .u8 31), .lit (.int .u8 10), .lit (.int .u8 25), .lit (.int .u8 14), .lit (.int .u8 19), .lit (.int .u8 9), .lit (.int .u8 13), .lit (.int .u8 8), .lit (.int .u8 7), .lit (.int .u8 6)]

/-- 'laws.FnVerifyVerdict': WHATEVER THE INPUT: true; the input reads as it did. -/
def fnVerifyVerdictSpec : ChangeSpec := { name := "fnVerifyVerdict", fn := fun _ => fun
  | [d] => { results := [.lit (.bool true)], args := [d] }
  | _ => none }
def fnVerifyVerdictRow : OpenClaim := { program := "ytohfiindiidcfaagreatdoor", sum := "adac5b94a3a692674a92ec74121f032d4dbfc70826b16f478031cc1c3da18213", func := "loop.example/assumeguarantee/laws.FnVerifyVerdict", spec := "fnVerifyVerdict", unfollowed := true, recurses := true, named := ["math/bits.deBruijn32tab", "math/bits.deBruijn64tab"], plainKeys := false, apart := false, laid := [("math/bits.deBruijn32tab", laid_math_bits_deBruijn32tab), ("math/bits.deBruijn64tab", laid_math_bits_deBruijn64tab)] }
def FnVerifyVerdictSaid : Prop := fnVerifyVerdictRow.holds Tryz.pinned (OpenSpec.ofChange fnVerifyVerdictSpec)

/-- ITS FALSE NEIGHBOUR: 'it returns false'. Refute it at one input. -/
def fnVerifyVerdictWrong : ChangeSpec := { name := "fnVerifyVerdict", fn := fun _ => fun
  | [d] => { results := [.lit (.bool false)], args := [d] }
  | _ => none }
def FnVerifyVerdictWrongFalsely : Prop := fnVerifyVerdictRow.holds Tryz.pinned (OpenSpec.ofChange fnVerifyVerdictWrong)

/-- 'laws.FnVerifyHolds': WHATEVER THE INPUT: true; the input reads as it did. -/
def fnVerifyHoldsSpec : ChangeSpec := { name := "fnVerifyHolds", fn := fun _ => fun
  | [d] => { results := [.lit (.bool true)], args := [d] }
  | _ => none }
def fnVerifyHoldsRow : OpenClaim := { program := "ytohfiindiidcfaagreatdoor", sum := "adac5b94a3a692674a92ec74121f032d4dbfc70826b16f478031cc1c3da18213", func := "loop.example/assumeguarantee/laws.FnVerifyHolds", spec := "fnVerifyHolds", unfollowed := true, recurses := true, named := ["math/bits.deBruijn32tab", "math/bits.deBruijn64tab"], plainKeys := false, apart := false, laid := [("math/bits.deBruijn32tab", laid_math_bits_deBruijn32tab), ("math/bits.deBruijn64tab", laid_math_bits_deBruijn64tab)] }
def FnVerifyHoldsSaid : Prop := fnVerifyHoldsRow.holds Tryz.pinned (OpenSpec.ofChange fnVerifyHoldsSpec)

/-- ITS FALSE NEIGHBOUR: 'it returns false'. Refute it at one input. -/
def fnVerifyHoldsWrong : ChangeSpec := { name := "fnVerifyHolds", fn := fun _ => fun
  | [d] => { results := [.lit (.bool false)], args := [d] }
  | _ => none }
def FnVerifyHoldsWrongFalsely : Prop := fnVerifyHoldsRow.holds Tryz.pinned (OpenSpec.ofChange fnVerifyHoldsWrong)

/-- 'laws.FnVerifyTurned': WHATEVER THE INPUT: true; the input reads as it did. -/
def fnVerifyTurnedSpec : ChangeSpec := { name := "fnVerifyTurned", fn := fun _ => fun
  | [d] => { results := [.lit (.bool true)], args := [d] }
  | _ => none }
def fnVerifyTurnedRow : OpenClaim := { program := "ytohfiindiidcfaagreatdoor", sum := "adac5b94a3a692674a92ec74121f032d4dbfc70826b16f478031cc1c3da18213", func := "loop.example/assumeguarantee/laws.FnVerifyTurned", spec := "fnVerifyTurned", unfollowed := true, recurses := true, named := ["math/bits.deBruijn32tab", "math/bits.deBruijn64tab"], plainKeys := false, apart := false, laid := [("math/bits.deBruijn32tab", laid_math_bits_deBruijn32tab), ("math/bits.deBruijn64tab", laid_math_bits_deBruijn64tab)] }
def FnVerifyTurnedSaid : Prop := fnVerifyTurnedRow.holds Tryz.pinned (OpenSpec.ofChange fnVerifyTurnedSpec)

/-- ITS FALSE NEIGHBOUR: 'it returns false'. Refute it at one input. -/
def fnVerifyTurnedWrong : ChangeSpec := { name := "fnVerifyTurned", fn := fun _ => fun
  | [d] => { results := [.lit (.bool false)], args := [d] }
  | _ => none }
def FnVerifyTurnedWrongFalsely : Prop := fnVerifyTurnedRow.holds Tryz.pinned (OpenSpec.ofChange fnVerifyTurnedWrong)

/-- 'laws.FnVerifyAlone': WHATEVER THE INPUT: true; the input reads as it did. -/
def fnVerifyAloneSpec : ChangeSpec := { name := "fnVerifyAlone", fn := fun _ => fun
  | [d] => { results := [.lit (.bool true)], args := [d] }
  | _ => none }
def fnVerifyAloneRow : OpenClaim := { program := "ytohfiindiidcfaagreatdoor", sum := "adac5b94a3a692674a92ec74121f032d4dbfc70826b16f478031cc1c3da18213", func := "loop.example/assumeguarantee/laws.FnVerifyAlone", spec := "fnVerifyAlone", unfollowed := true, recurses := true, named := ["math/bits.deBruijn32tab", "math/bits.deBruijn64tab"], plainKeys := false, apart := false, laid := [("math/bits.deBruijn32tab", laid_math_bits_deBruijn32tab), ("math/bits.deBruijn64tab", laid_math_bits_deBruijn64tab)] }
def FnVerifyAloneSaid : Prop := fnVerifyAloneRow.holds Tryz.pinned (OpenSpec.ofChange fnVerifyAloneSpec)

/-- ITS FALSE NEIGHBOUR: 'it returns false'. Refute it at one input. -/
def fnVerifyAloneWrong : ChangeSpec := { name := "fnVerifyAlone", fn := fun _ => fun
  | [d] => { results := [.lit (.bool false)], args := [d] }
  | _ => none }
def FnVerifyAloneWrongFalsely : Prop := fnVerifyAloneRow.holds Tryz.pinned (OpenSpec.ofChange fnVerifyAloneWrong)

/-- 'laws.FnVerifySilent': WHATEVER THE INPUT: true; the input reads as it did. -/
def fnVerifySilentSpec : ChangeSpec := { name := "fnVerifySilent", fn := fun _ => fun
  | [d] => { results := [.lit (.bool true)], args := [d] }
  | _ => none }
def fnVerifySilentRow : OpenClaim := { program := "ytohfiindiidcfaagreatdoor", sum := "adac5b94a3a692674a92ec74121f032d4dbfc70826b16f478031cc1c3da18213", func := "loop.example/assumeguarantee/laws.FnVerifySilent", spec := "fnVerifySilent", unfollowed := true, recurses := true, named := ["math/bits.deBruijn32tab", "math/bits.deBruijn64tab"], plainKeys := false, apart := false, laid := [("math/bits.deBruijn32tab", laid_math_bits_deBruijn32tab), ("math/bits.deBruijn64tab", laid_math_bits_deBruijn64tab)] }
def FnVerifySilentSaid : Prop := fnVerifySilentRow.holds Tryz.pinned (OpenSpec.ofChange fnVerifySilentSpec)

/-- ITS FALSE NEIGHBOUR: 'it returns false'. Refute it at one input. -/
def fnVerifySilentWrong : ChangeSpec := { name := "fnVerifySilent", fn := fun _ => fun
  | [d] => { results := [.lit (.bool false)], args := [d] }
  | _ => none }
def FnVerifySilentWrongFalsely : Prop := fnVerifySilentRow.holds Tryz.pinned (OpenSpec.ofChange fnVerifySilentWrong)

/-- 'laws.FnAssumptionRefuted': WHATEVER THE INPUT: true; the input reads as it did. -/
def fnAssumptionRefutedSpec : ChangeSpec := { name := "fnAssumptionRefuted", fn := fun _ => fun
  | [d] => { results := [.lit (.bool true)], args := [d] }
  | _ => none }
def fnAssumptionRefutedRow : OpenClaim := { program := "ytohfiindiidcfaagreatdoor", sum := "adac5b94a3a692674a92ec74121f032d4dbfc70826b16f478031cc1c3da18213", func := "loop.example/assumeguarantee/laws.FnAssumptionRefuted", spec := "fnAssumptionRefuted", unfollowed := true, recurses := true, named := ["math/bits.deBruijn32tab", "math/bits.deBruijn64tab"], plainKeys := false, apart := false, laid := [("math/bits.deBruijn32tab", laid_math_bits_deBruijn32tab), ("math/bits.deBruijn64tab", laid_math_bits_deBruijn64tab)] }
def FnAssumptionRefutedSaid : Prop := fnAssumptionRefutedRow.holds Tryz.pinned (OpenSpec.ofChange fnAssumptionRefutedSpec)

/-- ITS FALSE NEIGHBOUR: 'it returns false'. Refute it at one input. -/
def fnAssumptionRefutedWrong : ChangeSpec := { name := "fnAssumptionRefuted", fn := fun _ => fun
  | [d] => { results := [.lit (.bool false)], args := [d] }
  | _ => none }
def FnAssumptionRefutedWrongFalsely : Prop := fnAssumptionRefutedRow.holds Tryz.pinned (OpenSpec.ofChange fnAssumptionRefutedWrong)

/-- 'laws.FnFaultOrder': WHATEVER THE INPUT: true; the input reads as it did. -/
def fnFaultOrderSpec : ChangeSpec := { name := "fnFaultOrder", fn := fun _ => fun
  | [d] => { results := [.lit (.bool true)], args := [d] }
  | _ => none }
def fnFaultOrderRow : OpenClaim := { program := "ytohfiindiidcfaagreatdoor", sum := "adac5b94a3a692674a92ec74121f032d4dbfc70826b16f478031cc1c3da18213", func := "loop.example/assumeguarantee/laws.FnFaultOrder", spec := "fnFaultOrder", unfollowed := true, recurses := true, named := ["math/bits.deBruijn32tab", "math/bits.deBruijn64tab"], plainKeys := false, apart := false, laid := [("math/bits.deBruijn32tab", laid_math_bits_deBruijn32tab), ("math/bits.deBruijn64tab", laid_math_bits_deBruijn64tab)] }
def FnFaultOrderSaid : Prop := fnFaultOrderRow.holds Tryz.pinned (OpenSpec.ofChange fnFaultOrderSpec)

/-- ITS FALSE NEIGHBOUR: 'it returns false'. Refute it at one input. -/
def fnFaultOrderWrong : ChangeSpec := { name := "fnFaultOrder", fn := fun _ => fun
  | [d] => { results := [.lit (.bool false)], args := [d] }
  | _ => none }
def FnFaultOrderWrongFalsely : Prop := fnFaultOrderRow.holds Tryz.pinned (OpenSpec.ofChange fnFaultOrderWrong)

/-- 'laws.FnFaultSound': WHATEVER THE INPUT: true; the input reads as it did. -/
def fnFaultSoundSpec : ChangeSpec := { name := "fnFaultSound", fn := fun _ => fun
  | [d] => { results := [.lit (.bool true)], args := [d] }
  | _ => none }
def fnFaultSoundRow : OpenClaim := { program := "ytohfiindiidcfaagreatdoor", sum := "adac5b94a3a692674a92ec74121f032d4dbfc70826b16f478031cc1c3da18213", func := "loop.example/assumeguarantee/laws.FnFaultSound", spec := "fnFaultSound", unfollowed := true, recurses := true, named := ["math/bits.deBruijn32tab", "math/bits.deBruijn64tab"], plainKeys := false, apart := false, laid := [("math/bits.deBruijn32tab", laid_math_bits_deBruijn32tab), ("math/bits.deBruijn64tab", laid_math_bits_deBruijn64tab)] }
def FnFaultSoundSaid : Prop := fnFaultSoundRow.holds Tryz.pinned (OpenSpec.ofChange fnFaultSoundSpec)

/-- ITS FALSE NEIGHBOUR: 'it returns false'. Refute it at one input. -/
def fnFaultSoundWrong : ChangeSpec := { name := "fnFaultSound", fn := fun _ => fun
  | [d] => { results := [.lit (.bool false)], args := [d] }
  | _ => none }
def FnFaultSoundWrongFalsely : Prop := fnFaultSoundRow.holds Tryz.pinned (OpenSpec.ofChange fnFaultSoundWrong)

/-- 'laws.FnVerifyFails': WHATEVER THE INPUT: true; the input reads as it did. -/
def fnVerifyFailsSpec : ChangeSpec := { name := "fnVerifyFails", fn := fun _ => fun
  | [d] => { results := [.lit (.bool true)], args := [d] }
  | _ => none }
def fnVerifyFailsRow : OpenClaim := { program := "ytohfiindiidcfaagreatdoor", sum := "adac5b94a3a692674a92ec74121f032d4dbfc70826b16f478031cc1c3da18213", func := "loop.example/assumeguarantee/laws.FnVerifyFails", spec := "fnVerifyFails", unfollowed := true, recurses := true, named := ["math/bits.deBruijn32tab", "math/bits.deBruijn64tab"], plainKeys := false, apart := false, laid := [("math/bits.deBruijn32tab", laid_math_bits_deBruijn32tab), ("math/bits.deBruijn64tab", laid_math_bits_deBruijn64tab)] }
def FnVerifyFailsSaid : Prop := fnVerifyFailsRow.holds Tryz.pinned (OpenSpec.ofChange fnVerifyFailsSpec)

/-- ITS FALSE NEIGHBOUR: 'it returns false'. Refute it at one input. -/
def fnVerifyFailsWrong : ChangeSpec := { name := "fnVerifyFails", fn := fun _ => fun
  | [d] => { results := [.lit (.bool false)], args := [d] }
  | _ => none }
def FnVerifyFailsWrongFalsely : Prop := fnVerifyFailsRow.holds Tryz.pinned (OpenSpec.ofChange fnVerifyFailsWrong)

/- THE SECOND FORM. 'bulk': how many values and letters a reading holds, each counted each time it is reached (what is shared counts as often as it is met; a slice's spare places count too). A statement '..UptoSaid' is the law's where the arguments, and the package variables that the reading takes, are together of bulk at most 1048576: NARROWER than '..Said'. Prove '..Said' where nothing that the law and all that it calls make is longer than what came in: it says more and counts as full. Else prove '..UptoSaid'. A law counts once. -/
mutual
def uptoBulk {H : Type} : DataW H → Nat
  | .lit (.string bytes) => bytes.length + 1
  | .lit _ => 1
  | .nil => 1
  | .ptr d => uptoBulk d + 1
  | .slice elems spare => uptoBulkAll elems + uptoBulkAll spare + 1
  | .agg parts => uptoBulkAll parts + 1
  | .iface _ d => uptoBulk d + 1
  | .map entries => uptoBulkEntries entries + 1
  | .held _ => 1
def uptoBulkAll {H : Type} : List (DataW H) → Nat
  | [] => 0
  | d :: r => uptoBulk d + uptoBulkAll r
def uptoBulkEntries {H : Type} : List (Lit × DataW H) → Nat
  | [] => 0
  | x :: r => uptoBulkEntry x + uptoBulkEntries r
def uptoBulkEntry {H : Type} : Lit × DataW H → Nat
  | (.string bytes, d) => bytes.length + uptoBulk d + 1
  | (_, d) => uptoBulk d + 1
 end
def uptoSmall : (H : Type) → List (DataW H) → Bool := fun _ ds => decide (uptoBulkAll ds ≤ 1048576)
def OpenSpec.upto (s : _root_.Go.ChangeSpec) : _root_.Go.OpenSpec := { _root_.Go.OpenSpec.ofChange s with cond := some uptoSmall }

/-- 'laws.FnVerifyVerdict', WHERE WHAT IT READS IS OF BULK AT MOST 1048576: true; the input reads as it did. -/
def fnVerifyVerdictUptoRow : OpenClaim := { program := "ytohfiindiidcfaagreatdoor", sum := "adac5b94a3a692674a92ec74121f032d4dbfc70826b16f478031cc1c3da18213", func := "loop.example/assumeguarantee/laws.FnVerifyVerdict", spec := "fnVerifyVerdict", unfollowed := true, recurses := true, named := ["math/bits.deBruijn32tab", "math/bits.deBruijn64tab"], plainKeys := false, apart := false, laid := [("math/bits.deBruijn32tab", laid_math_bits_deBruijn32tab), ("math/bits.deBruijn64tab", laid_math_bits_deBruijn64tab)], narrowed := true }
def FnVerifyVerdictUptoSaid : Prop := fnVerifyVerdictUptoRow.holds Tryz.pinned (OpenSpec.upto fnVerifyVerdictSpec)

/-- 'laws.FnVerifyHolds', WHERE WHAT IT READS IS OF BULK AT MOST 1048576: true; the input reads as it did. -/
def fnVerifyHoldsUptoRow : OpenClaim := { program := "ytohfiindiidcfaagreatdoor", sum := "adac5b94a3a692674a92ec74121f032d4dbfc70826b16f478031cc1c3da18213", func := "loop.example/assumeguarantee/laws.FnVerifyHolds", spec := "fnVerifyHolds", unfollowed := true, recurses := true, named := ["math/bits.deBruijn32tab", "math/bits.deBruijn64tab"], plainKeys := false, apart := false, laid := [("math/bits.deBruijn32tab", laid_math_bits_deBruijn32tab), ("math/bits.deBruijn64tab", laid_math_bits_deBruijn64tab)], narrowed := true }
def FnVerifyHoldsUptoSaid : Prop := fnVerifyHoldsUptoRow.holds Tryz.pinned (OpenSpec.upto fnVerifyHoldsSpec)

/-- 'laws.FnVerifyTurned', WHERE WHAT IT READS IS OF BULK AT MOST 1048576: true; the input reads as it did. -/
def fnVerifyTurnedUptoRow : OpenClaim := { program := "ytohfiindiidcfaagreatdoor", sum := "adac5b94a3a692674a92ec74121f032d4dbfc70826b16f478031cc1c3da18213", func := "loop.example/assumeguarantee/laws.FnVerifyTurned", spec := "fnVerifyTurned", unfollowed := true, recurses := true, named := ["math/bits.deBruijn32tab", "math/bits.deBruijn64tab"], plainKeys := false, apart := false, laid := [("math/bits.deBruijn32tab", laid_math_bits_deBruijn32tab), ("math/bits.deBruijn64tab", laid_math_bits_deBruijn64tab)], narrowed := true }
def FnVerifyTurnedUptoSaid : Prop := fnVerifyTurnedUptoRow.holds Tryz.pinned (OpenSpec.upto fnVerifyTurnedSpec)

/-- 'laws.FnVerifyAlone', WHERE WHAT IT READS IS OF BULK AT MOST 1048576: true; the input reads as it did. -/
def fnVerifyAloneUptoRow : OpenClaim := { program := "ytohfiindiidcfaagreatdoor", sum := "adac5b94a3a692674a92ec74121f032d4dbfc70826b16f478031cc1c3da18213", func := "loop.example/assumeguarantee/laws.FnVerifyAlone", spec := "fnVerifyAlone", unfollowed := true, recurses := true, named := ["math/bits.deBruijn32tab", "math/bits.deBruijn64tab"], plainKeys := false, apart := false, laid := [("math/bits.deBruijn32tab", laid_math_bits_deBruijn32tab), ("math/bits.deBruijn64tab", laid_math_bits_deBruijn64tab)], narrowed := true }
def FnVerifyAloneUptoSaid : Prop := fnVerifyAloneUptoRow.holds Tryz.pinned (OpenSpec.upto fnVerifyAloneSpec)

/-- 'laws.FnVerifySilent', WHERE WHAT IT READS IS OF BULK AT MOST 1048576: true; the input reads as it did. -/
def fnVerifySilentUptoRow : OpenClaim := { program := "ytohfiindiidcfaagreatdoor", sum := "adac5b94a3a692674a92ec74121f032d4dbfc70826b16f478031cc1c3da18213", func := "loop.example/assumeguarantee/laws.FnVerifySilent", spec := "fnVerifySilent", unfollowed := true, recurses := true, named := ["math/bits.deBruijn32tab", "math/bits.deBruijn64tab"], plainKeys := false, apart := false, laid := [("math/bits.deBruijn32tab", laid_math_bits_deBruijn32tab), ("math/bits.deBruijn64tab", laid_math_bits_deBruijn64tab)], narrowed := true }
def FnVerifySilentUptoSaid : Prop := fnVerifySilentUptoRow.holds Tryz.pinned (OpenSpec.upto fnVerifySilentSpec)

/-- 'laws.FnAssumptionRefuted', WHERE WHAT IT READS IS OF BULK AT MOST 1048576: true; the input reads as it did. -/
def fnAssumptionRefutedUptoRow : OpenClaim := { program := "ytohfiindiidcfaagreatdoor", sum := "adac5b94a3a692674a92ec74121f032d4dbfc70826b16f478031cc1c3da18213", func := "loop.example/assumeguarantee/laws.FnAssumptionRefuted", spec := "fnAssumptionRefuted", unfollowed := true, recurses := true, named := ["math/bits.deBruijn32tab", "math/bits.deBruijn64tab"], plainKeys := false, apart := false, laid := [("math/bits.deBruijn32tab", laid_math_bits_deBruijn32tab), ("math/bits.deBruijn64tab", laid_math_bits_deBruijn64tab)], narrowed := true }
def FnAssumptionRefutedUptoSaid : Prop := fnAssumptionRefutedUptoRow.holds Tryz.pinned (OpenSpec.upto fnAssumptionRefutedSpec)

/-- 'laws.FnFaultOrder', WHERE WHAT IT READS IS OF BULK AT MOST 1048576: true; the input reads as it did. -/
def fnFaultOrderUptoRow : OpenClaim := { program := "ytohfiindiidcfaagreatdoor", sum := "adac5b94a3a692674a92ec74121f032d4dbfc70826b16f478031cc1c3da18213", func := "loop.example/assumeguarantee/laws.FnFaultOrder", spec := "fnFaultOrder", unfollowed := true, recurses := true, named := ["math/bits.deBruijn32tab", "math/bits.deBruijn64tab"], plainKeys := false, apart := false, laid := [("math/bits.deBruijn32tab", laid_math_bits_deBruijn32tab), ("math/bits.deBruijn64tab", laid_math_bits_deBruijn64tab)], narrowed := true }
def FnFaultOrderUptoSaid : Prop := fnFaultOrderUptoRow.holds Tryz.pinned (OpenSpec.upto fnFaultOrderSpec)

/-- 'laws.FnFaultSound', WHERE WHAT IT READS IS OF BULK AT MOST 1048576: true; the input reads as it did. -/
def fnFaultSoundUptoRow : OpenClaim := { program := "ytohfiindiidcfaagreatdoor", sum := "adac5b94a3a692674a92ec74121f032d4dbfc70826b16f478031cc1c3da18213", func := "loop.example/assumeguarantee/laws.FnFaultSound", spec := "fnFaultSound", unfollowed := true, recurses := true, named := ["math/bits.deBruijn32tab", "math/bits.deBruijn64tab"], plainKeys := false, apart := false, laid := [("math/bits.deBruijn32tab", laid_math_bits_deBruijn32tab), ("math/bits.deBruijn64tab", laid_math_bits_deBruijn64tab)], narrowed := true }
def FnFaultSoundUptoSaid : Prop := fnFaultSoundUptoRow.holds Tryz.pinned (OpenSpec.upto fnFaultSoundSpec)

/-- 'laws.FnVerifyFails', WHERE WHAT IT READS IS OF BULK AT MOST 1048576: true; the input reads as it did. -/
def fnVerifyFailsUptoRow : OpenClaim := { program := "ytohfiindiidcfaagreatdoor", sum := "adac5b94a3a692674a92ec74121f032d4dbfc70826b16f478031cc1c3da18213", func := "loop.example/assumeguarantee/laws.FnVerifyFails", spec := "fnVerifyFails", unfollowed := true, recurses := true, named := ["math/bits.deBruijn32tab", "math/bits.deBruijn64tab"], plainKeys := false, apart := false, laid := [("math/bits.deBruijn32tab", laid_math_bits_deBruijn32tab), ("math/bits.deBruijn64tab", laid_math_bits_deBruijn64tab)], narrowed := true }
def FnVerifyFailsUptoSaid : Prop := fnVerifyFailsUptoRow.holds Tryz.pinned (OpenSpec.upto fnVerifyFailsSpec)

end Rows
end Go.Proofs.YtohfiindiidcfaaGreatDoor
