/-
  NARROWER THAN 'FOR EVERY INPUT', by the rows' own cells (each row's printed sentence says how): FnAssumptionAt: laid · FnTableFull: laid · FnTableStates: laid · FnExactLearnAutomaton: laid · FnExactProposedAt: laid · FnVerifyWithin: laid · FnCloseWeakest: laid · FnLearnWeakest: laid.
  DERIVED. THE GIVEN ROWS OF THIS SEAT. 8 by the template 'for every input the law returns true; each argument reads behind the call as it read before'; 0 by the template 'total and deterministic' (their statements: YtgpbfllcjdfelaaGreatDoorTotals.lean).
  GIVEN WITH THE SEED: the statements are not yours to turn. If you find one false, say at which input.
  Laid BY PROGRAM, IN A SANDBOX (cutbox-rows.mjs): the forced cells as the released guide's own fill.sh prints them over the translation e75cb2320c246756… (all of the seat's roots in one cut). By AI agents, Wed Nov 11 2026. No macro, syntax, notation, axiom, sorry.
-/
import Derived.Test.YtgpbfllcjdfelaaGreatDoorChecked
import GoSem.Claim
import GoSem.ClaimJoined
import GoSem.ClaimMapViews
import Derived.JoinedTies
import Derived.KernelRfl
namespace Go.Proofs.YtgpbfllcjdfelaaGreatDoor
/- THE CELL 'sum', in the pinned program and in every row, IS THE sha256 OF THE DUMP (.gsa) THAT YtgpbfllcjdfelaaGreatDoorProg.lean LOADS. Nothing in Lean hashes anything: it is a label: what it is worth is what the hold of that sum in a sandbox is worth. -/
noncomputable def Tryz.pinned : Pinned := { name := "ytgpbfllcjdfelaagreatdoor", sum := "e75cb2320c246756f3590a997aa1066d44d2b64133c24e42c15bd39f6d312328", checked := Tryz.checked }
namespace Rows
def none {H : Type} : Left H := { results := [], args := [] }

/- WHAT THE LISTED PACKAGE-LEVEL VARIABLES READ AS WHEN THE CALL BEGINS. Each datum BY PROGRAM (the guide's laid-datum.mjs) off the statement by which the dump's own 'gosem.cut.vars' lays the variable. In a bare row this is a premise. The card (YtgpbfllcjdfelaaGreatDoorCards.lean) ties it to the program's text. -/
def laid_math_bits_deBruijn32tab {H : Type} : DataW H := .agg [.lit (.int .u8 0), .lit (.int .u8 1), .lit (.int .u8 28), .lit (.int .u8 2), .lit (.int .u8 29), .lit (.int .u8 14), .lit (.int .u8 24), .lit (.int .u8 3), .lit (.int .u8 30), .lit (.int .u8 22), .lit (.int .u8 20), .lit (.int .u8 15), .lit (.int .u8 25), .lit (.int .u8 17), .lit (.int .u8 4), .lit (.int .u8 8), .lit (.int .u8 31), .lit (.int .u8 27), .lit (.int .u8 13), .lit (.int .u8 23), .lit (.int .u8 21), .lit (.int .u8 19), .lit (.int .u8 16), .lit (.int .u8 7), .lit (.int .u8 26), .lit (.int .u8 12), .lit (.int .u8 18), .lit (.int .u8 6), .lit (.int .u8 11), .lit (.int .u8 5), .lit (.int .u8 10), .lit (.int .u8 9)]
def laid_math_bits_deBruijn64tab {H : Type} : DataW H := .agg [.lit (.int .u8 0), .lit (.int .u8 1), .lit (.int .u8 56), .lit (.int .u8 2), .lit (.int .u8 57), .lit (.int .u8 49), .lit (.int .u8 28), .lit (.int .u8 3), .lit (.int .u8 61), .lit (.int .u8 58), .lit (.int .u8 42), .lit (.int .u8 50), .lit (.int .u8 38), .lit (.int .u8 29), .lit (.int .u8 17), .lit (.int .u8 4), .lit (.int .u8 62), .lit (.int .u8 47), .lit (.int .u8 59), .lit (.int .u8 36), .lit (.int .u8 45), .lit (.int .u8 43), .lit (.int .u8 51), .lit (.int .u8 22), .lit (.int .u8 53), .lit (.int .u8 39), .lit (.int .u8 33), .lit (.int .u8 30), .lit (.int .u8 24), .lit (.int .u8 18), .lit (.int .u8 12), .lit (.int .u8 5), .lit (.int .u8 63), .lit (.int .u8 55), .lit (.int .u8 48), .lit (.int .u8 27), .lit (.int .u8 60), .lit (.int .u8 41), .lit (.int .u8 37), .lit (.int .u8 16), .lit (.int .u8 46), .lit (.int .u8 35), .lit (.int .u8 44), .lit (.int .u8 21), .lit (.int .u8 52), .lit (.int .u8 32), .lit (.int .u8 23), .lit (.int .u8 11), .lit (.int .u8 54), .lit (.int .u8 26), .lit (.int .u8 40), .lit (.int .u8 15), .lit (.int .u8 34), .lit (.int .u8 20), .lit (.int .u8 31), .lit (.int .u8 10), .lit (.int .u8 25), .lit (.int .u8 14), .lit (.int .u8 19), .lit (.int .u8 9), .lit (.int .u8 13), .lit (.int .u8 8), .lit (.int .u8 7), .lit (.int .u8 6)]
def laid_internal_strconv_uint64pow10 {H : Type} : DataW H := .agg [.lit (.int .u64 1), .lit (.int .u64 10), .lit (.int .u64 100), .lit (.int .u64 1000), .lit (.int .u64 10000), .lit (.int .u64 100000), .lit (.int .u64 1000000), .lit (.int .u64 10000000), .lit (.int .u64 100000000), .lit (.int .u64 1000000000), .lit (.int .u64 10000000000), .lit (.int .u64 100000000000), .lit (.int .u64 1000000000000), .lit (.int .u64 10000000000000), .lit (.int .u64 100000000000000), .lit (.int .u64 1000000000000000), .lit (.int .u64 10000000000000000), .lit (.int .u64 100000000000000000), .lit (.int .u64 1000000000000000000), .lit (.int .u64 10000000000000000000)]

/-- 'laws.FnAssumptionAt': WHATEVER THE INPUT: true; the input reads as it did. -/
def fnAssumptionAtSpec : ChangeSpec := { name := "fnAssumptionAt", fn := fun _ => fun
  | [d] => { results := [.lit (.bool true)], args := [d] }
  | _ => none }
def fnAssumptionAtRow : OpenClaim := { program := "ytgpbfllcjdfelaagreatdoor", sum := "e75cb2320c246756f3590a997aa1066d44d2b64133c24e42c15bd39f6d312328", func := "loop.example/assumeguarantee/laws.FnAssumptionAt", spec := "fnAssumptionAt", unfollowed := true, recurses := true, named := ["math/bits.deBruijn32tab", "math/bits.deBruijn64tab"], plainKeys := false, apart := false, laid := [("math/bits.deBruijn32tab", laid_math_bits_deBruijn32tab), ("math/bits.deBruijn64tab", laid_math_bits_deBruijn64tab)] }
def FnAssumptionAtSaid : Prop := fnAssumptionAtRow.holds Tryz.pinned (OpenSpec.ofChange fnAssumptionAtSpec)

/-- ITS FALSE NEIGHBOUR: 'it returns false'. Refute it at one input. -/
def fnAssumptionAtWrong : ChangeSpec := { name := "fnAssumptionAt", fn := fun _ => fun
  | [d] => { results := [.lit (.bool false)], args := [d] }
  | _ => none }
def FnAssumptionAtWrongFalsely : Prop := fnAssumptionAtRow.holds Tryz.pinned (OpenSpec.ofChange fnAssumptionAtWrong)

/-- 'laws.FnTableFull': WHATEVER THE INPUT: true; the input reads as it did. -/
def fnTableFullSpec : ChangeSpec := { name := "fnTableFull", fn := fun _ => fun
  | [d] => { results := [.lit (.bool true)], args := [d] }
  | _ => none }
def fnTableFullRow : OpenClaim := { program := "ytgpbfllcjdfelaagreatdoor", sum := "e75cb2320c246756f3590a997aa1066d44d2b64133c24e42c15bd39f6d312328", func := "loop.example/assumeguarantee/laws.FnTableFull", spec := "fnTableFull", unfollowed := true, recurses := true, named := ["math/bits.deBruijn32tab", "math/bits.deBruijn64tab", "internal/strconv.uint64pow10"], plainKeys := false, apart := false, laid := [("math/bits.deBruijn32tab", laid_math_bits_deBruijn32tab), ("math/bits.deBruijn64tab", laid_math_bits_deBruijn64tab), ("internal/strconv.uint64pow10", laid_internal_strconv_uint64pow10)] }
def FnTableFullSaid : Prop := fnTableFullRow.holds Tryz.pinned (OpenSpec.ofChange fnTableFullSpec)

/-- ITS FALSE NEIGHBOUR: 'it returns false'. Refute it at one input. -/
def fnTableFullWrong : ChangeSpec := { name := "fnTableFull", fn := fun _ => fun
  | [d] => { results := [.lit (.bool false)], args := [d] }
  | _ => none }
def FnTableFullWrongFalsely : Prop := fnTableFullRow.holds Tryz.pinned (OpenSpec.ofChange fnTableFullWrong)

/-- 'laws.FnTableStates': WHATEVER THE INPUT: true; the input reads as it did. -/
def fnTableStatesSpec : ChangeSpec := { name := "fnTableStates", fn := fun _ => fun
  | [d] => { results := [.lit (.bool true)], args := [d] }
  | _ => none }
def fnTableStatesRow : OpenClaim := { program := "ytgpbfllcjdfelaagreatdoor", sum := "e75cb2320c246756f3590a997aa1066d44d2b64133c24e42c15bd39f6d312328", func := "loop.example/assumeguarantee/laws.FnTableStates", spec := "fnTableStates", unfollowed := true, recurses := true, named := ["math/bits.deBruijn32tab", "math/bits.deBruijn64tab", "internal/strconv.uint64pow10"], plainKeys := false, apart := false, laid := [("math/bits.deBruijn32tab", laid_math_bits_deBruijn32tab), ("math/bits.deBruijn64tab", laid_math_bits_deBruijn64tab), ("internal/strconv.uint64pow10", laid_internal_strconv_uint64pow10)] }
def FnTableStatesSaid : Prop := fnTableStatesRow.holds Tryz.pinned (OpenSpec.ofChange fnTableStatesSpec)

/-- ITS FALSE NEIGHBOUR: 'it returns false'. Refute it at one input. -/
def fnTableStatesWrong : ChangeSpec := { name := "fnTableStates", fn := fun _ => fun
  | [d] => { results := [.lit (.bool false)], args := [d] }
  | _ => none }
def FnTableStatesWrongFalsely : Prop := fnTableStatesRow.holds Tryz.pinned (OpenSpec.ofChange fnTableStatesWrong)

/-- 'laws.FnExactLearnAutomaton': WHATEVER THE INPUT: true; the input reads as it did. -/
def fnExactLearnAutomatonSpec : ChangeSpec := { name := "fnExactLearnAutomaton", fn := fun _ => fun
  | [d] => { results := [.lit (.bool true)], args := [d] }
  | _ => none }
def fnExactLearnAutomatonRow : OpenClaim := { program := "ytgpbfllcjdfelaagreatdoor", sum := "e75cb2320c246756f3590a997aa1066d44d2b64133c24e42c15bd39f6d312328", func := "loop.example/assumeguarantee/laws.FnExactLearnAutomaton", spec := "fnExactLearnAutomaton", unfollowed := true, recurses := true, named := ["math/bits.deBruijn32tab", "math/bits.deBruijn64tab"], plainKeys := false, apart := false, laid := [("math/bits.deBruijn32tab", laid_math_bits_deBruijn32tab), ("math/bits.deBruijn64tab", laid_math_bits_deBruijn64tab)] }
def FnExactLearnAutomatonSaid : Prop := fnExactLearnAutomatonRow.holds Tryz.pinned (OpenSpec.ofChange fnExactLearnAutomatonSpec)

/-- ITS FALSE NEIGHBOUR: 'it returns false'. Refute it at one input. -/
def fnExactLearnAutomatonWrong : ChangeSpec := { name := "fnExactLearnAutomaton", fn := fun _ => fun
  | [d] => { results := [.lit (.bool false)], args := [d] }
  | _ => none }
def FnExactLearnAutomatonWrongFalsely : Prop := fnExactLearnAutomatonRow.holds Tryz.pinned (OpenSpec.ofChange fnExactLearnAutomatonWrong)

/-- 'laws.FnExactProposedAt': WHATEVER THE INPUT: true; the input reads as it did. -/
def fnExactProposedAtSpec : ChangeSpec := { name := "fnExactProposedAt", fn := fun _ => fun
  | [d1, d2] => { results := [.lit (.bool true)], args := [d1, d2] }
  | _ => none }
def fnExactProposedAtRow : OpenClaim := { program := "ytgpbfllcjdfelaagreatdoor", sum := "e75cb2320c246756f3590a997aa1066d44d2b64133c24e42c15bd39f6d312328", func := "loop.example/assumeguarantee/laws.FnExactProposedAt", spec := "fnExactProposedAt", unfollowed := true, recurses := true, named := ["math/bits.deBruijn32tab", "math/bits.deBruijn64tab"], plainKeys := false, apart := false, laid := [("math/bits.deBruijn32tab", laid_math_bits_deBruijn32tab), ("math/bits.deBruijn64tab", laid_math_bits_deBruijn64tab)] }
def FnExactProposedAtSaid : Prop := fnExactProposedAtRow.holds Tryz.pinned (OpenSpec.ofChange fnExactProposedAtSpec)

/-- ITS FALSE NEIGHBOUR: 'it returns false'. Refute it at one input. -/
def fnExactProposedAtWrong : ChangeSpec := { name := "fnExactProposedAt", fn := fun _ => fun
  | [d1, d2] => { results := [.lit (.bool false)], args := [d1, d2] }
  | _ => none }
def FnExactProposedAtWrongFalsely : Prop := fnExactProposedAtRow.holds Tryz.pinned (OpenSpec.ofChange fnExactProposedAtWrong)

/-- 'laws.FnVerifyWithin': WHATEVER THE INPUT: true; the input reads as it did. -/
def fnVerifyWithinSpec : ChangeSpec := { name := "fnVerifyWithin", fn := fun _ => fun
  | [d1, d2] => { results := [.lit (.bool true)], args := [d1, d2] }
  | _ => none }
def fnVerifyWithinRow : OpenClaim := { program := "ytgpbfllcjdfelaagreatdoor", sum := "e75cb2320c246756f3590a997aa1066d44d2b64133c24e42c15bd39f6d312328", func := "loop.example/assumeguarantee/laws.FnVerifyWithin", spec := "fnVerifyWithin", unfollowed := true, recurses := true, named := ["math/bits.deBruijn32tab", "math/bits.deBruijn64tab"], plainKeys := false, apart := false, laid := [("math/bits.deBruijn32tab", laid_math_bits_deBruijn32tab), ("math/bits.deBruijn64tab", laid_math_bits_deBruijn64tab)] }
def FnVerifyWithinSaid : Prop := fnVerifyWithinRow.holds Tryz.pinned (OpenSpec.ofChange fnVerifyWithinSpec)

/-- ITS FALSE NEIGHBOUR: 'it returns false'. Refute it at one input. -/
def fnVerifyWithinWrong : ChangeSpec := { name := "fnVerifyWithin", fn := fun _ => fun
  | [d1, d2] => { results := [.lit (.bool false)], args := [d1, d2] }
  | _ => none }
def FnVerifyWithinWrongFalsely : Prop := fnVerifyWithinRow.holds Tryz.pinned (OpenSpec.ofChange fnVerifyWithinWrong)

/-- 'laws.FnCloseWeakest': WHATEVER THE INPUT: true; the input reads as it did. -/
def fnCloseWeakestSpec : ChangeSpec := { name := "fnCloseWeakest", fn := fun _ => fun
  | [d] => { results := [.lit (.bool true)], args := [d] }
  | _ => none }
def fnCloseWeakestRow : OpenClaim := { program := "ytgpbfllcjdfelaagreatdoor", sum := "e75cb2320c246756f3590a997aa1066d44d2b64133c24e42c15bd39f6d312328", func := "loop.example/assumeguarantee/laws.FnCloseWeakest", spec := "fnCloseWeakest", unfollowed := true, recurses := true, named := ["math/bits.deBruijn32tab", "math/bits.deBruijn64tab", "internal/strconv.uint64pow10"], plainKeys := false, apart := false, laid := [("math/bits.deBruijn32tab", laid_math_bits_deBruijn32tab), ("math/bits.deBruijn64tab", laid_math_bits_deBruijn64tab), ("internal/strconv.uint64pow10", laid_internal_strconv_uint64pow10)] }
def FnCloseWeakestSaid : Prop := fnCloseWeakestRow.holds Tryz.pinned (OpenSpec.ofChange fnCloseWeakestSpec)

/-- ITS FALSE NEIGHBOUR: 'it returns false'. Refute it at one input. -/
def fnCloseWeakestWrong : ChangeSpec := { name := "fnCloseWeakest", fn := fun _ => fun
  | [d] => { results := [.lit (.bool false)], args := [d] }
  | _ => none }
def FnCloseWeakestWrongFalsely : Prop := fnCloseWeakestRow.holds Tryz.pinned (OpenSpec.ofChange fnCloseWeakestWrong)

/-- 'laws.FnLearnWeakest': WHATEVER THE INPUT: true; the input reads as it did. -/
def fnLearnWeakestSpec : ChangeSpec := { name := "fnLearnWeakest", fn := fun _ => fun
  | [d] => { results := [.lit (.bool true)], args := [d] }
  | _ => none }
def fnLearnWeakestRow : OpenClaim := { program := "ytgpbfllcjdfelaagreatdoor", sum := "e75cb2320c246756f3590a997aa1066d44d2b64133c24e42c15bd39f6d312328", func := "loop.example/assumeguarantee/laws.FnLearnWeakest", spec := "fnLearnWeakest", unfollowed := true, recurses := true, named := ["math/bits.deBruijn32tab", "math/bits.deBruijn64tab", "internal/strconv.uint64pow10"], plainKeys := false, apart := false, laid := [("math/bits.deBruijn32tab", laid_math_bits_deBruijn32tab), ("math/bits.deBruijn64tab", laid_math_bits_deBruijn64tab), ("internal/strconv.uint64pow10", laid_internal_strconv_uint64pow10)] }
def FnLearnWeakestSaid : Prop := fnLearnWeakestRow.holds Tryz.pinned (OpenSpec.ofChange fnLearnWeakestSpec)

/-- ITS FALSE NEIGHBOUR: 'it returns false'. Refute it at one input. -/
def fnLearnWeakestWrong : ChangeSpec := { name := "fnLearnWeakest", fn := fun _ => fun
  | [d] => { results := [.lit (.bool false)], args := [d] }
  | _ => none }
def FnLearnWeakestWrongFalsely : Prop := fnLearnWeakestRow.holds Tryz.pinned (OpenSpec.ofChange fnLearnWeakestWrong)

/- THE SECOND FORM. 'bulk': how many values and letters a reading holds, each counted each time it is reached (what is shared counts as often as it is met; a slice's spare places count too). A statement '..UptoSaid' is the law's where the arguments, and the package variables that the reading takes, are together of bulk at most 1048576: NARROWER than '..Said'. Prove '..Said' where nothing that the law and all that it calls make is longer than what came in: it says more and counts as full. Else prove '..UptoSaid'. A law counts once. -/
mutual
def uptoBulk {H : Type} : DataW H → Nat
  | .lit (.string bytes) => bytes.length + 1
  | .lit _ => 1
  | .nil => 1
  | .ptr d => uptoBulk d + 1
  | .slice elems spare => uptoBulkAll elems + uptoBulkAll spare + 1
  | .agg parts => uptoBulkAll parts + 1
  | .iface _ d => uptoBulk d + 1
  | .map entries => uptoBulkEntries entries + 1
  | .held _ => 1
def uptoBulkAll {H : Type} : List (DataW H) → Nat
  | [] => 0
  | d :: r => uptoBulk d + uptoBulkAll r
def uptoBulkEntries {H : Type} : List (Lit × DataW H) → Nat
  | [] => 0
  | x :: r => uptoBulkEntry x + uptoBulkEntries r
def uptoBulkEntry {H : Type} : Lit × DataW H → Nat
  | (.string bytes, d) => bytes.length + uptoBulk d + 1
  | (_, d) => uptoBulk d + 1
 end
def uptoSmall : (H : Type) → List (DataW H) → Bool := fun _ ds => decide (uptoBulkAll ds ≤ 1048576)
def OpenSpec.upto (s : _root_.Go.ChangeSpec) : _root_.Go.OpenSpec := { _root_.Go.OpenSpec.ofChange s with cond := some uptoSmall }

/-- 'laws.FnAssumptionAt', WHERE WHAT IT READS IS OF BULK AT MOST 1048576: true; the input reads as it did. -/
def fnAssumptionAtUptoRow : OpenClaim := { program := "ytgpbfllcjdfelaagreatdoor", sum := "e75cb2320c246756f3590a997aa1066d44d2b64133c24e42c15bd39f6d312328", func := "loop.example/assumeguarantee/laws.FnAssumptionAt", spec := "fnAssumptionAt", unfollowed := true, recurses := true, named := ["math/bits.deBruijn32tab", "math/bits.deBruijn64tab"], plainKeys := false, apart := false, laid := [("math/bits.deBruijn32tab", laid_math_bits_deBruijn32tab), ("math/bits.deBruijn64tab", laid_math_bits_deBruijn64tab)], narrowed := true }
def FnAssumptionAtUptoSaid : Prop := fnAssumptionAtUptoRow.holds Tryz.pinned (OpenSpec.upto fnAssumptionAtSpec)

/-- 'laws.FnTableFull', WHERE WHAT IT READS IS OF BULK AT MOST 1048576: true; the input reads as it did. -/
def fnTableFullUptoRow : OpenClaim := { program := "ytgpbfllcjdfelaagreatdoor", sum := "e75cb2320c246756f3590a997aa1066d44d2b64133c24e42c15bd39f6d312328", func := "loop.example/assumeguarantee/laws.FnTableFull", spec := "fnTableFull", unfollowed := true, recurses := true, named := ["math/bits.deBruijn32tab", "math/bits.deBruijn64tab", "internal/strconv.uint64pow10"], plainKeys := false, apart := false, laid := [("math/bits.deBruijn32tab", laid_math_bits_deBruijn32tab), ("math/bits.deBruijn64tab", laid_math_bits_deBruijn64tab), ("internal/strconv.uint64pow10", laid_internal_strconv_uint64pow10)], narrowed := true }
def FnTableFullUptoSaid : Prop := fnTableFullUptoRow.holds Tryz.pinned (OpenSpec.upto fnTableFullSpec)

/-- 'laws.FnTableStates', WHERE WHAT IT READS IS OF BULK AT MOST 1048576: true; the input reads as it did. -/
def fnTableStatesUptoRow : OpenClaim := { program := "ytgpbfllcjdfelaagreatdoor", sum := "e75cb2320c246756f3590a997aa1066d44d2b64133c24e42c15bd39f6d312328", func := "loop.example/assumeguarantee/laws.FnTableStates", spec := "fnTableStates", unfollowed := true, recurses := true, named := ["math/bits.deBruijn32tab", "math/bits.deBruijn64tab", "internal/strconv.uint64pow10"], plainKeys := false, apart := false, laid := [("math/bits.deBruijn32tab", laid_math_bits_deBruijn32tab), ("math/bits.deBruijn64tab", laid_math_bits_deBruijn64tab), ("internal/strconv.uint64pow10", laid_internal_strconv_uint64pow10)], narrowed := true }
def FnTableStatesUptoSaid : Prop := fnTableStatesUptoRow.holds Tryz.pinned (OpenSpec.upto fnTableStatesSpec)

/-- 'laws.FnExactLearnAutomaton', WHERE WHAT IT READS IS OF BULK AT MOST 1048576: true; the input reads as it did. -/
def fnExactLearnAutomatonUptoRow : OpenClaim := { program := "ytgpbfllcjdfelaagreatdoor", sum := "e75cb2320c246756f3590a997aa1066d44d2b64133c24e42c15bd39f6d312328", func := "loop.example/assumeguarantee/laws.FnExactLearnAutomaton", spec := "fnExactLearnAutomaton", unfollowed := true, recurses := true, named := ["math/bits.deBruijn32tab", "math/bits.deBruijn64tab"], plainKeys := false, apart := false, laid := [("math/bits.deBruijn32tab", laid_math_bits_deBruijn32tab), ("math/bits.deBruijn64tab", laid_math_bits_deBruijn64tab)], narrowed := true }
def FnExactLearnAutomatonUptoSaid : Prop := fnExactLearnAutomatonUptoRow.holds Tryz.pinned (OpenSpec.upto fnExactLearnAutomatonSpec)

/-- 'laws.FnExactProposedAt', WHERE WHAT IT READS IS OF BULK AT MOST 1048576: true; the input reads as it did. -/
def fnExactProposedAtUptoRow : OpenClaim := { program := "ytgpbfllcjdfelaagreatdoor", sum := "e75cb2320c246756f3590a997aa1066d44d2b64133c24e42c15bd39f6d312328", func := "loop.example/assumeguarantee/laws.FnExactProposedAt", spec := "fnExactProposedAt", unfollowed := true, recurses := true, named := ["math/bits.deBruijn32tab", "math/bits.deBruijn64tab"], plainKeys := false, apart := false, laid := [("math/bits.deBruijn32tab", laid_math_bits_deBruijn32tab), ("math/bits.deBruijn64tab", laid_math_bits_deBruijn64tab)], narrowed := true }
def FnExactProposedAtUptoSaid : Prop := fnExactProposedAtUptoRow.holds Tryz.pinned (OpenSpec.upto fnExactProposedAtSpec)

/-- 'laws.FnVerifyWithin', WHERE WHAT IT READS IS OF BULK AT MOST 1048576: true; the input reads as it did. -/
def fnVerifyWithinUptoRow : OpenClaim := { program := "ytgpbfllcjdfelaagreatdoor", sum := "e75cb2320c246756f3590a997aa1066d44d2b64133c24e42c15bd39f6d312328", func := "loop.example/assumeguarantee/laws.FnVerifyWithin", spec := "fnVerifyWithin", unfollowed := true, recurses := true, named := ["math/bits.deBruijn32tab", "math/bits.deBruijn64tab"], plainKeys := false, apart := false, laid := [("math/bits.deBruijn32tab", laid_math_bits_deBruijn32tab), ("math/bits.deBruijn64tab", laid_math_bits_deBruijn64tab)], narrowed := true }
def FnVerifyWithinUptoSaid : Prop := fnVerifyWithinUptoRow.holds Tryz.pinned (OpenSpec.upto fnVerifyWithinSpec)

/-- 'laws.FnCloseWeakest', WHERE WHAT IT READS IS OF BULK AT MOST 1048576: true; the input reads as it did. -/
def fnCloseWeakestUptoRow : OpenClaim := { program := "ytgpbfllcjdfelaagreatdoor", sum := "e75cb2320c246756f3590a997aa1066d44d2b64133c24e42c15bd39f6d312328", func := "loop.example/assumeguarantee/laws.FnCloseWeakest", spec := "fnCloseWeakest", unfollowed := true, recurses := true, named := ["math/bits.deBruijn32tab", "math/bits.deBruijn64tab", "internal/strconv.uint64pow10"], plainKeys := false, apart := false, laid := [("math/bits.deBruijn32tab", laid_math_bits_deBruijn32tab), ("math/bits.deBruijn64tab", laid_math_bits_deBruijn64tab), ("internal/strconv.uint64pow10", laid_internal_strconv_uint64pow10)], narrowed := true }
def FnCloseWeakestUptoSaid : Prop := fnCloseWeakestUptoRow.holds Tryz.pinned (OpenSpec.upto fnCloseWeakestSpec)

/-- 'laws.FnLearnWeakest', WHERE WHAT IT READS IS OF BULK AT MOST 1048576: true; the input reads as it did. -/
def fnLearnWeakestUptoRow : OpenClaim := { program := "ytgpbfllcjdfelaagreatdoor", sum := "e75cb2320c246756f3590a997aa1066d44d2b64133c24e42c15bd39f6d312328", func := "loop.example/assumeguarantee/laws.FnLearnWeakest", spec := "fnLearnWeakest", unfollowed := true, recurses := true, named := ["math/bits.deBruijn32tab", "math/bits.deBruijn64tab", "internal/strconv.uint64pow10"], plainKeys := false, apart := false, laid := [("math/bits.deBruijn32tab", laid_math_bits_deBruijn32tab), ("math/bits.deBruijn64tab", laid_math_bits_deBruijn64tab), ("internal/strconv.uint64pow10", laid_internal_strconv_uint64pow10)], narrowed := true }
def FnLearnWeakestUptoSaid : Prop := fnLearnWeakestUptoRow.holds Tryz.pinned (OpenSpec.upto fnLearnWeakestSpec)

end Rows
end Go.Proofs.YtgpbfllcjdfelaaGreatDoor
