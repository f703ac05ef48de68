/-
  NARROWER THAN 'FOR EVERY INPUT', by the rows' own cells (each row's printed sentence says how): FnTableRows: laid · FnOpenRow: laid · FnNewTable: laid · FnAddColumn: laid · FnRowNext: laid · FnTableAutomaton: laid · FnTableSteps: laid · FnTableSafe: laid · FnSplitFirst: laid · FnSplitWord: laid · FnSplitOpens: laid · FnLearnStep: laid · FnLearnStepWrong: laid.
  DERIVED. THE GIVEN ROWS OF THIS SEAT. 13 by the template 'for every input the law returns true; each argument reads behind the call as it read before'; 0 by the template 'total and deterministic' (their statements: YtkkihplpglchjaaGreatDoorTotals.lean).
  GIVEN WITH THE SEED: the statements are not yours to turn. If you find one false, say at which input.
  Laid BY PROGRAM, IN A SANDBOX (cutbox-rows.mjs): the forced cells as the released guide's own fill.sh prints them over the translation d0be181b19bab17a… (all of the seat's roots in one cut). By AI agents, Wed Nov 11 2026. No macro, syntax, notation, axiom, sorry.
-/
import Derived.Test.YtkkihplpglchjaaGreatDoorChecked
import GoSem.Claim
import GoSem.ClaimJoined
import GoSem.ClaimMapViews
import Derived.JoinedTies
import Derived.KernelRfl
namespace Go.Proofs.YtkkihplpglchjaaGreatDoor
/- THE CELL 'sum', in the pinned program and in every row, IS THE sha256 OF THE DUMP (.gsa) THAT YtkkihplpglchjaaGreatDoorProg.lean LOADS. Nothing in Lean hashes anything: it is a label: what it is worth is what the hold of that sum in a sandbox is worth. -/
noncomputable def Tryz.pinned : Pinned := { name := "ytkkihplpglchjaagreatdoor", sum := "d0be181b19bab17abb21d24335442196dbf50577ea2f064cb29719eab3afb3e4", checked := Tryz.checked }
namespace Rows
def none {H : Type} : Left H := { results := [], args := [] }

/- WHAT THE LISTED PACKAGE-LEVEL VARIABLES READ AS WHEN THE CALL BEGINS. Each datum BY PROGRAM (the guide's laid-datum.mjs) off the statement by which the dump's own 'gosem.cut.vars' lays the variable. In a bare row this is a premise. The card (YtkkihplpglchjaaGreatDoorCards.lean) ties it to the program's text. -/
def laid_math_bits_deBruijn32tab {H : Type} : DataW H := .agg [.lit (.int .u8 0), .lit (.int .u8 1), .lit (.int .u8 28), .lit (.int .u8 2), .lit (.int .u8 29), .lit (.int .u8 14), .lit (.int .u8 24), .lit (.int .u8 3), .lit (.int .u8 30), .lit (.int .u8 22), .lit (.int .u8 20), .lit (.int .u8 15), .lit (.int .u8 25), .lit (.int .u8 17), .lit (.int .u8 4), .lit (.int .u8 8), .lit (.int .u8 31), .lit (.int .u8 27), .lit (.int .u8 13), .lit (.int .u8 23), .lit (.int .u8 21), .lit (.int .u8 19), .lit (.int .u8 16), .lit (.int .u8 7), .lit (.int .u8 26), .lit (.int .u8 12), .lit (.int .u8 18), .lit (.int .u8 6), .lit (.int .u8 11), .lit (.int .u8 5), .lit (.int .u8 10), .lit (.int .u8 9)]
def laid_math_bits_deBruijn64tab {H : Type} : DataW H := .agg [.lit (.int .u8 0), .lit (.int .u8 1), .lit (.int .u8 56), .lit (.int .u8 2), .lit (.int .u8 57), .lit (.int .u8 49), .lit (.int .u8 28), .lit (.int .u8 3), .lit (.int .u8 61), .lit (.int .u8 58), .lit (.int .u8 42), .lit (.int .u8 50), .lit (.int .u8 38), .lit (.int .u8 29), .lit (.int .u8 17), .lit (.int .u8 4), .lit (.int .u8 62), .lit (.int .u8 47), .lit (.int .u8 59), .lit (.int .u8 36), .lit (.int .u8 45), .lit (.int .u8 43), .lit (.int .u8 51), .lit (.int .u8 22), .lit (.int .u8 53), .lit (.int .u8 39), .lit (.int .u8 33), .lit (.int .u8 30), .lit (.int .u8 24), .lit (.int .u8 18), .lit (.int .u8 12), .lit (.int .u8 5), .lit (.int .u8 63), .lit (.int .u8 55), .lit (.int .u8 48), .lit (.int .u8 27), .lit (.int .u8 60), .lit (.int .u8 41), .lit (.int .u8 37), .lit (.int .u8 16), .lit (.int .u8 46), .lit (.int .u8 35), .lit (.int .u8 44), .lit (.int .u8 21), .lit (.int .u8 52), .lit (.int .u8 32), .lit (.int .u8 23), .lit (.int .u8 11), .lit (.int .u8 54), .lit (.int .u8 26), .lit (.int .u8 40), .lit (.int .u8 15), .lit (.int .u8 34), .lit (.int .u8 20), .lit (.int .u8 31), .lit (.int .u8 10), .lit (.int .u8 25), .lit (.int .u8 14), .lit (.int .u8 19), .lit (.int .u8 9), .lit (.int .u8 13), .lit (.int .u8 8), .lit (.int .u8 7), .lit (.int .u8 6)]

/-- 'laws.FnTableRows': WHATEVER THE INPUT: true; the input reads as it did. -/
def fnTableRowsSpec : ChangeSpec := { name := "fnTableRows", fn := fun _ => fun
  | [d] => { results := [.lit (.bool true)], args := [d] }
  | _ => none }
def fnTableRowsRow : OpenClaim := { program := "ytkkihplpglchjaagreatdoor", sum := "d0be181b19bab17abb21d24335442196dbf50577ea2f064cb29719eab3afb3e4", func := "loop.example/assumeguarantee/laws.FnTableRows", spec := "fnTableRows", unfollowed := true, recurses := true, named := ["math/bits.deBruijn32tab", "math/bits.deBruijn64tab"], plainKeys := false, apart := false, laid := [("math/bits.deBruijn32tab", laid_math_bits_deBruijn32tab), ("math/bits.deBruijn64tab", laid_math_bits_deBruijn64tab)] }
def FnTableRowsSaid : Prop := fnTableRowsRow.holds Tryz.pinned (OpenSpec.ofChange fnTableRowsSpec)

/-- ITS FALSE NEIGHBOUR: 'it returns false'. Refute it at one input. -/
def fnTableRowsWrong : ChangeSpec := { name := "fnTableRows", fn := fun _ => fun
  | [d] => { results := [.lit (.bool false)], args := [d] }
  | _ => none }
def FnTableRowsWrongFalsely : Prop := fnTableRowsRow.holds Tryz.pinned (OpenSpec.ofChange fnTableRowsWrong)

/-- 'laws.FnOpenRow': WHATEVER THE INPUT: true; the input reads as it did. -/
def fnOpenRowSpec : ChangeSpec := { name := "fnOpenRow", fn := fun _ => fun
  | [d] => { results := [.lit (.bool true)], args := [d] }
  | _ => none }
def fnOpenRowRow : OpenClaim := { program := "ytkkihplpglchjaagreatdoor", sum := "d0be181b19bab17abb21d24335442196dbf50577ea2f064cb29719eab3afb3e4", func := "loop.example/assumeguarantee/laws.FnOpenRow", spec := "fnOpenRow", unfollowed := true, recurses := true, named := ["math/bits.deBruijn32tab", "math/bits.deBruijn64tab"], plainKeys := false, apart := false, laid := [("math/bits.deBruijn32tab", laid_math_bits_deBruijn32tab), ("math/bits.deBruijn64tab", laid_math_bits_deBruijn64tab)] }
def FnOpenRowSaid : Prop := fnOpenRowRow.holds Tryz.pinned (OpenSpec.ofChange fnOpenRowSpec)

/-- ITS FALSE NEIGHBOUR: 'it returns false'. Refute it at one input. -/
def fnOpenRowWrong : ChangeSpec := { name := "fnOpenRow", fn := fun _ => fun
  | [d] => { results := [.lit (.bool false)], args := [d] }
  | _ => none }
def FnOpenRowWrongFalsely : Prop := fnOpenRowRow.holds Tryz.pinned (OpenSpec.ofChange fnOpenRowWrong)

/-- 'laws.FnNewTable': WHATEVER THE INPUT: true; the input reads as it did. -/
def fnNewTableSpec : ChangeSpec := { name := "fnNewTable", fn := fun _ => fun
  | [d] => { results := [.lit (.bool true)], args := [d] }
  | _ => none }
def fnNewTableRow : OpenClaim := { program := "ytkkihplpglchjaagreatdoor", sum := "d0be181b19bab17abb21d24335442196dbf50577ea2f064cb29719eab3afb3e4", func := "loop.example/assumeguarantee/laws.FnNewTable", spec := "fnNewTable", unfollowed := true, recurses := true, named := ["math/bits.deBruijn32tab", "math/bits.deBruijn64tab"], plainKeys := false, apart := false, laid := [("math/bits.deBruijn32tab", laid_math_bits_deBruijn32tab), ("math/bits.deBruijn64tab", laid_math_bits_deBruijn64tab)] }
def FnNewTableSaid : Prop := fnNewTableRow.holds Tryz.pinned (OpenSpec.ofChange fnNewTableSpec)

/-- ITS FALSE NEIGHBOUR: 'it returns false'. Refute it at one input. -/
def fnNewTableWrong : ChangeSpec := { name := "fnNewTable", fn := fun _ => fun
  | [d] => { results := [.lit (.bool false)], args := [d] }
  | _ => none }
def FnNewTableWrongFalsely : Prop := fnNewTableRow.holds Tryz.pinned (OpenSpec.ofChange fnNewTableWrong)

/-- 'laws.FnAddColumn': WHATEVER THE INPUT: true; the input reads as it did. -/
def fnAddColumnSpec : ChangeSpec := { name := "fnAddColumn", fn := fun _ => fun
  | [d] => { results := [.lit (.bool true)], args := [d] }
  | _ => none }
def fnAddColumnRow : OpenClaim := { program := "ytkkihplpglchjaagreatdoor", sum := "d0be181b19bab17abb21d24335442196dbf50577ea2f064cb29719eab3afb3e4", func := "loop.example/assumeguarantee/laws.FnAddColumn", spec := "fnAddColumn", unfollowed := true, recurses := true, named := ["math/bits.deBruijn32tab", "math/bits.deBruijn64tab"], plainKeys := false, apart := false, laid := [("math/bits.deBruijn32tab", laid_math_bits_deBruijn32tab), ("math/bits.deBruijn64tab", laid_math_bits_deBruijn64tab)] }
def FnAddColumnSaid : Prop := fnAddColumnRow.holds Tryz.pinned (OpenSpec.ofChange fnAddColumnSpec)

/-- ITS FALSE NEIGHBOUR: 'it returns false'. Refute it at one input. -/
def fnAddColumnWrong : ChangeSpec := { name := "fnAddColumn", fn := fun _ => fun
  | [d] => { results := [.lit (.bool false)], args := [d] }
  | _ => none }
def FnAddColumnWrongFalsely : Prop := fnAddColumnRow.holds Tryz.pinned (OpenSpec.ofChange fnAddColumnWrong)

/-- 'laws.FnRowNext': WHATEVER THE INPUT: true; the input reads as it did. -/
def fnRowNextSpec : ChangeSpec := { name := "fnRowNext", fn := fun _ => fun
  | [d] => { results := [.lit (.bool true)], args := [d] }
  | _ => none }
def fnRowNextRow : OpenClaim := { program := "ytkkihplpglchjaagreatdoor", sum := "d0be181b19bab17abb21d24335442196dbf50577ea2f064cb29719eab3afb3e4", func := "loop.example/assumeguarantee/laws.FnRowNext", spec := "fnRowNext", unfollowed := true, recurses := true, named := ["math/bits.deBruijn32tab", "math/bits.deBruijn64tab"], plainKeys := false, apart := false, laid := [("math/bits.deBruijn32tab", laid_math_bits_deBruijn32tab), ("math/bits.deBruijn64tab", laid_math_bits_deBruijn64tab)] }
def FnRowNextSaid : Prop := fnRowNextRow.holds Tryz.pinned (OpenSpec.ofChange fnRowNextSpec)

/-- ITS FALSE NEIGHBOUR: 'it returns false'. Refute it at one input. -/
def fnRowNextWrong : ChangeSpec := { name := "fnRowNext", fn := fun _ => fun
  | [d] => { results := [.lit (.bool false)], args := [d] }
  | _ => none }
def FnRowNextWrongFalsely : Prop := fnRowNextRow.holds Tryz.pinned (OpenSpec.ofChange fnRowNextWrong)

/-- 'laws.FnTableAutomaton': WHATEVER THE INPUT: true; the input reads as it did. -/
def fnTableAutomatonSpec : ChangeSpec := { name := "fnTableAutomaton", fn := fun _ => fun
  | [d] => { results := [.lit (.bool true)], args := [d] }
  | _ => none }
def fnTableAutomatonRow : OpenClaim := { program := "ytkkihplpglchjaagreatdoor", sum := "d0be181b19bab17abb21d24335442196dbf50577ea2f064cb29719eab3afb3e4", func := "loop.example/assumeguarantee/laws.FnTableAutomaton", spec := "fnTableAutomaton", unfollowed := true, recurses := true, named := ["math/bits.deBruijn32tab", "math/bits.deBruijn64tab"], plainKeys := false, apart := false, laid := [("math/bits.deBruijn32tab", laid_math_bits_deBruijn32tab), ("math/bits.deBruijn64tab", laid_math_bits_deBruijn64tab)] }
def FnTableAutomatonSaid : Prop := fnTableAutomatonRow.holds Tryz.pinned (OpenSpec.ofChange fnTableAutomatonSpec)

/-- ITS FALSE NEIGHBOUR: 'it returns false'. Refute it at one input. -/
def fnTableAutomatonWrong : ChangeSpec := { name := "fnTableAutomaton", fn := fun _ => fun
  | [d] => { results := [.lit (.bool false)], args := [d] }
  | _ => none }
def FnTableAutomatonWrongFalsely : Prop := fnTableAutomatonRow.holds Tryz.pinned (OpenSpec.ofChange fnTableAutomatonWrong)

/-- 'laws.FnTableSteps': WHATEVER THE INPUT: true; the input reads as it did. -/
def fnTableStepsSpec : ChangeSpec := { name := "fnTableSteps", fn := fun _ => fun
  | [d] => { results := [.lit (.bool true)], args := [d] }
  | _ => none }
def fnTableStepsRow : OpenClaim := { program := "ytkkihplpglchjaagreatdoor", sum := "d0be181b19bab17abb21d24335442196dbf50577ea2f064cb29719eab3afb3e4", func := "loop.example/assumeguarantee/laws.FnTableSteps", spec := "fnTableSteps", unfollowed := true, recurses := true, named := ["math/bits.deBruijn32tab", "math/bits.deBruijn64tab"], plainKeys := false, apart := false, laid := [("math/bits.deBruijn32tab", laid_math_bits_deBruijn32tab), ("math/bits.deBruijn64tab", laid_math_bits_deBruijn64tab)] }
def FnTableStepsSaid : Prop := fnTableStepsRow.holds Tryz.pinned (OpenSpec.ofChange fnTableStepsSpec)

/-- ITS FALSE NEIGHBOUR: 'it returns false'. Refute it at one input. -/
def fnTableStepsWrong : ChangeSpec := { name := "fnTableSteps", fn := fun _ => fun
  | [d] => { results := [.lit (.bool false)], args := [d] }
  | _ => none }
def FnTableStepsWrongFalsely : Prop := fnTableStepsRow.holds Tryz.pinned (OpenSpec.ofChange fnTableStepsWrong)

/-- 'laws.FnTableSafe': WHATEVER THE INPUT: true; the input reads as it did. -/
def fnTableSafeSpec : ChangeSpec := { name := "fnTableSafe", fn := fun _ => fun
  | [d] => { results := [.lit (.bool true)], args := [d] }
  | _ => none }
def fnTableSafeRow : OpenClaim := { program := "ytkkihplpglchjaagreatdoor", sum := "d0be181b19bab17abb21d24335442196dbf50577ea2f064cb29719eab3afb3e4", func := "loop.example/assumeguarantee/laws.FnTableSafe", spec := "fnTableSafe", unfollowed := true, recurses := true, named := ["math/bits.deBruijn32tab", "math/bits.deBruijn64tab"], plainKeys := false, apart := false, laid := [("math/bits.deBruijn32tab", laid_math_bits_deBruijn32tab), ("math/bits.deBruijn64tab", laid_math_bits_deBruijn64tab)] }
def FnTableSafeSaid : Prop := fnTableSafeRow.holds Tryz.pinned (OpenSpec.ofChange fnTableSafeSpec)

/-- ITS FALSE NEIGHBOUR: 'it returns false'. Refute it at one input. -/
def fnTableSafeWrong : ChangeSpec := { name := "fnTableSafe", fn := fun _ => fun
  | [d] => { results := [.lit (.bool false)], args := [d] }
  | _ => none }
def FnTableSafeWrongFalsely : Prop := fnTableSafeRow.holds Tryz.pinned (OpenSpec.ofChange fnTableSafeWrong)

/-- 'laws.FnSplitFirst': WHATEVER THE INPUT: true; the input reads as it did. -/
def fnSplitFirstSpec : ChangeSpec := { name := "fnSplitFirst", fn := fun _ => fun
  | [d] => { results := [.lit (.bool true)], args := [d] }
  | _ => none }
def fnSplitFirstRow : OpenClaim := { program := "ytkkihplpglchjaagreatdoor", sum := "d0be181b19bab17abb21d24335442196dbf50577ea2f064cb29719eab3afb3e4", func := "loop.example/assumeguarantee/laws.FnSplitFirst", spec := "fnSplitFirst", unfollowed := true, recurses := true, named := ["math/bits.deBruijn32tab", "math/bits.deBruijn64tab"], plainKeys := false, apart := false, laid := [("math/bits.deBruijn32tab", laid_math_bits_deBruijn32tab), ("math/bits.deBruijn64tab", laid_math_bits_deBruijn64tab)] }
def FnSplitFirstSaid : Prop := fnSplitFirstRow.holds Tryz.pinned (OpenSpec.ofChange fnSplitFirstSpec)

/-- ITS FALSE NEIGHBOUR: 'it returns false'. Refute it at one input. -/
def fnSplitFirstWrong : ChangeSpec := { name := "fnSplitFirst", fn := fun _ => fun
  | [d] => { results := [.lit (.bool false)], args := [d] }
  | _ => none }
def FnSplitFirstWrongFalsely : Prop := fnSplitFirstRow.holds Tryz.pinned (OpenSpec.ofChange fnSplitFirstWrong)

/-- 'laws.FnSplitWord': WHATEVER THE INPUT: true; the input reads as it did. -/
def fnSplitWordSpec : ChangeSpec := { name := "fnSplitWord", fn := fun _ => fun
  | [d] => { results := [.lit (.bool true)], args := [d] }
  | _ => none }
def fnSplitWordRow : OpenClaim := { program := "ytkkihplpglchjaagreatdoor", sum := "d0be181b19bab17abb21d24335442196dbf50577ea2f064cb29719eab3afb3e4", func := "loop.example/assumeguarantee/laws.FnSplitWord", spec := "fnSplitWord", unfollowed := true, recurses := true, named := ["math/bits.deBruijn32tab", "math/bits.deBruijn64tab"], plainKeys := false, apart := false, laid := [("math/bits.deBruijn32tab", laid_math_bits_deBruijn32tab), ("math/bits.deBruijn64tab", laid_math_bits_deBruijn64tab)] }
def FnSplitWordSaid : Prop := fnSplitWordRow.holds Tryz.pinned (OpenSpec.ofChange fnSplitWordSpec)

/-- ITS FALSE NEIGHBOUR: 'it returns false'. Refute it at one input. -/
def fnSplitWordWrong : ChangeSpec := { name := "fnSplitWord", fn := fun _ => fun
  | [d] => { results := [.lit (.bool false)], args := [d] }
  | _ => none }
def FnSplitWordWrongFalsely : Prop := fnSplitWordRow.holds Tryz.pinned (OpenSpec.ofChange fnSplitWordWrong)

/-- 'laws.FnSplitOpens': WHATEVER THE INPUT: true; the input reads as it did. -/
def fnSplitOpensSpec : ChangeSpec := { name := "fnSplitOpens", fn := fun _ => fun
  | [d] => { results := [.lit (.bool true)], args := [d] }
  | _ => none }
def fnSplitOpensRow : OpenClaim := { program := "ytkkihplpglchjaagreatdoor", sum := "d0be181b19bab17abb21d24335442196dbf50577ea2f064cb29719eab3afb3e4", func := "loop.example/assumeguarantee/laws.FnSplitOpens", spec := "fnSplitOpens", unfollowed := true, recurses := true, named := ["math/bits.deBruijn32tab", "math/bits.deBruijn64tab"], plainKeys := false, apart := false, laid := [("math/bits.deBruijn32tab", laid_math_bits_deBruijn32tab), ("math/bits.deBruijn64tab", laid_math_bits_deBruijn64tab)] }
def FnSplitOpensSaid : Prop := fnSplitOpensRow.holds Tryz.pinned (OpenSpec.ofChange fnSplitOpensSpec)

/-- ITS FALSE NEIGHBOUR: 'it returns false'. Refute it at one input. -/
def fnSplitOpensWrong : ChangeSpec := { name := "fnSplitOpens", fn := fun _ => fun
  | [d] => { results := [.lit (.bool false)], args := [d] }
  | _ => none }
def FnSplitOpensWrongFalsely : Prop := fnSplitOpensRow.holds Tryz.pinned (OpenSpec.ofChange fnSplitOpensWrong)

/-- 'laws.FnLearnStep': WHATEVER THE INPUT: true; the input reads as it did. -/
def fnLearnStepSpec : ChangeSpec := { name := "fnLearnStep", fn := fun _ => fun
  | [d] => { results := [.lit (.bool true)], args := [d] }
  | _ => none }
def fnLearnStepRow : OpenClaim := { program := "ytkkihplpglchjaagreatdoor", sum := "d0be181b19bab17abb21d24335442196dbf50577ea2f064cb29719eab3afb3e4", func := "loop.example/assumeguarantee/laws.FnLearnStep", spec := "fnLearnStep", unfollowed := true, recurses := true, named := ["math/bits.deBruijn32tab", "math/bits.deBruijn64tab"], plainKeys := false, apart := false, laid := [("math/bits.deBruijn32tab", laid_math_bits_deBruijn32tab), ("math/bits.deBruijn64tab", laid_math_bits_deBruijn64tab)] }
def FnLearnStepSaid : Prop := fnLearnStepRow.holds Tryz.pinned (OpenSpec.ofChange fnLearnStepSpec)

/-- ITS FALSE NEIGHBOUR: 'it returns false'. Refute it at one input. -/
def fnLearnStepWrong : ChangeSpec := { name := "fnLearnStep", fn := fun _ => fun
  | [d] => { results := [.lit (.bool false)], args := [d] }
  | _ => none }
def FnLearnStepWrongFalsely : Prop := fnLearnStepRow.holds Tryz.pinned (OpenSpec.ofChange fnLearnStepWrong)

/-- 'laws.FnLearnStepWrong': WHATEVER THE INPUT: true; the input reads as it did. -/
def fnLearnStepWrongSpec : ChangeSpec := { name := "fnLearnStepWrong", fn := fun _ => fun
  | [d] => { results := [.lit (.bool true)], args := [d] }
  | _ => none }
def fnLearnStepWrongRow : OpenClaim := { program := "ytkkihplpglchjaagreatdoor", sum := "d0be181b19bab17abb21d24335442196dbf50577ea2f064cb29719eab3afb3e4", func := "loop.example/assumeguarantee/laws.FnLearnStepWrong", spec := "fnLearnStepWrong", unfollowed := true, recurses := true, named := ["math/bits.deBruijn32tab", "math/bits.deBruijn64tab"], plainKeys := false, apart := false, laid := [("math/bits.deBruijn32tab", laid_math_bits_deBruijn32tab), ("math/bits.deBruijn64tab", laid_math_bits_deBruijn64tab)] }
def FnLearnStepWrongSaid : Prop := fnLearnStepWrongRow.holds Tryz.pinned (OpenSpec.ofChange fnLearnStepWrongSpec)

/-- ITS FALSE NEIGHBOUR: 'it returns false'. Refute it at one input. -/
def fnLearnStepWrongWrong : ChangeSpec := { name := "fnLearnStepWrong", fn := fun _ => fun
  | [d] => { results := [.lit (.bool false)], args := [d] }
  | _ => none }
def FnLearnStepWrongWrongFalsely : Prop := fnLearnStepWrongRow.holds Tryz.pinned (OpenSpec.ofChange fnLearnStepWrongWrong)

/- THE SECOND FORM. 'bulk': how many values and letters a reading holds, each counted each time it is reached (what is shared counts as often as it is met; a slice's spare places count too). A statement '..UptoSaid' is the law's where the arguments, and the package variables that the reading takes, are together of bulk at most 1048576: NARROWER than '..Said'. Prove '..Said' where nothing that the law and all that it calls make is longer than what came in: it says more and counts as full. Else prove '..UptoSaid'. A law counts once. -/
mutual
def uptoBulk {H : Type} : DataW H → Nat
  | .lit (.string bytes) => bytes.length + 1
  | .lit _ => 1
  | .nil => 1
  | .ptr d => uptoBulk d + 1
  | .slice elems spare => uptoBulkAll elems + uptoBulkAll spare + 1
  | .agg parts => uptoBulkAll parts + 1
  | .iface _ d => uptoBulk d + 1
  | .map entries => uptoBulkEntries entries + 1
  | .held _ => 1
def uptoBulkAll {H : Type} : List (DataW H) → Nat
  | [] => 0
  | d :: r => uptoBulk d + uptoBulkAll r
def uptoBulkEntries {H : Type} : List (Lit × DataW H) → Nat
  | [] => 0
  | x :: r => uptoBulkEntry x + uptoBulkEntries r
def uptoBulkEntry {H : Type} : Lit × DataW H → Nat
  | (.string bytes, d) => bytes.length + uptoBulk d + 1
  | (_, d) => uptoBulk d + 1
 end
def uptoSmall : (H : Type) → List (DataW H) → Bool := fun _ ds => decide (uptoBulkAll ds ≤ 1048576)
def OpenSpec.upto (s : _root_.Go.ChangeSpec) : _root_.Go.OpenSpec := { _root_.Go.OpenSpec.ofChange s with cond := some uptoSmall }

/-- 'laws.FnTableRows', WHERE WHAT IT READS IS OF BULK AT MOST 1048576: true; the input reads as it did. -/
def fnTableRowsUptoRow : OpenClaim := { program := "ytkkihplpglchjaagreatdoor", sum := "d0be181b19bab17abb21d24335442196dbf50577ea2f064cb29719eab3afb3e4", func := "loop.example/assumeguarantee/laws.FnTableRows", spec := "fnTableRows", unfollowed := true, recurses := true, named := ["math/bits.deBruijn32tab", "math/bits.deBruijn64tab"], plainKeys := false, apart := false, laid := [("math/bits.deBruijn32tab", laid_math_bits_deBruijn32tab), ("math/bits.deBruijn64tab", laid_math_bits_deBruijn64tab)], narrowed := true }
def FnTableRowsUptoSaid : Prop := fnTableRowsUptoRow.holds Tryz.pinned (OpenSpec.upto fnTableRowsSpec)

/-- 'laws.FnOpenRow', WHERE WHAT IT READS IS OF BULK AT MOST 1048576: true; the input reads as it did. -/
def fnOpenRowUptoRow : OpenClaim := { program := "ytkkihplpglchjaagreatdoor", sum := "d0be181b19bab17abb21d24335442196dbf50577ea2f064cb29719eab3afb3e4", func := "loop.example/assumeguarantee/laws.FnOpenRow", spec := "fnOpenRow", unfollowed := true, recurses := true, named := ["math/bits.deBruijn32tab", "math/bits.deBruijn64tab"], plainKeys := false, apart := false, laid := [("math/bits.deBruijn32tab", laid_math_bits_deBruijn32tab), ("math/bits.deBruijn64tab", laid_math_bits_deBruijn64tab)], narrowed := true }
def FnOpenRowUptoSaid : Prop := fnOpenRowUptoRow.holds Tryz.pinned (OpenSpec.upto fnOpenRowSpec)

/-- 'laws.FnNewTable', WHERE WHAT IT READS IS OF BULK AT MOST 1048576: true; the input reads as it did. -/
def fnNewTableUptoRow : OpenClaim := { program := "ytkkihplpglchjaagreatdoor", sum := "d0be181b19bab17abb21d24335442196dbf50577ea2f064cb29719eab3afb3e4", func := "loop.example/assumeguarantee/laws.FnNewTable", spec := "fnNewTable", unfollowed := true, recurses := true, named := ["math/bits.deBruijn32tab", "math/bits.deBruijn64tab"], plainKeys := false, apart := false, laid := [("math/bits.deBruijn32tab", laid_math_bits_deBruijn32tab), ("math/bits.deBruijn64tab", laid_math_bits_deBruijn64tab)], narrowed := true }
def FnNewTableUptoSaid : Prop := fnNewTableUptoRow.holds Tryz.pinned (OpenSpec.upto fnNewTableSpec)

/-- 'laws.FnAddColumn', WHERE WHAT IT READS IS OF BULK AT MOST 1048576: true; the input reads as it did. -/
def fnAddColumnUptoRow : OpenClaim := { program := "ytkkihplpglchjaagreatdoor", sum := "d0be181b19bab17abb21d24335442196dbf50577ea2f064cb29719eab3afb3e4", func := "loop.example/assumeguarantee/laws.FnAddColumn", spec := "fnAddColumn", unfollowed := true, recurses := true, named := ["math/bits.deBruijn32tab", "math/bits.deBruijn64tab"], plainKeys := false, apart := false, laid := [("math/bits.deBruijn32tab", laid_math_bits_deBruijn32tab), ("math/bits.deBruijn64tab", laid_math_bits_deBruijn64tab)], narrowed := true }
def FnAddColumnUptoSaid : Prop := fnAddColumnUptoRow.holds Tryz.pinned (OpenSpec.upto fnAddColumnSpec)

/-- 'laws.FnRowNext', WHERE WHAT IT READS IS OF BULK AT MOST 1048576: true; the input reads as it did. -/
def fnRowNextUptoRow : OpenClaim := { program := "ytkkihplpglchjaagreatdoor", sum := "d0be181b19bab17abb21d24335442196dbf50577ea2f064cb29719eab3afb3e4", func := "loop.example/assumeguarantee/laws.FnRowNext", spec := "fnRowNext", unfollowed := true, recurses := true, named := ["math/bits.deBruijn32tab", "math/bits.deBruijn64tab"], plainKeys := false, apart := false, laid := [("math/bits.deBruijn32tab", laid_math_bits_deBruijn32tab), ("math/bits.deBruijn64tab", laid_math_bits_deBruijn64tab)], narrowed := true }
def FnRowNextUptoSaid : Prop := fnRowNextUptoRow.holds Tryz.pinned (OpenSpec.upto fnRowNextSpec)

/-- 'laws.FnTableAutomaton', WHERE WHAT IT READS IS OF BULK AT MOST 1048576: true; the input reads as it did. -/
def fnTableAutomatonUptoRow : OpenClaim := { program := "ytkkihplpglchjaagreatdoor", sum := "d0be181b19bab17abb21d24335442196dbf50577ea2f064cb29719eab3afb3e4", func := "loop.example/assumeguarantee/laws.FnTableAutomaton", spec := "fnTableAutomaton", unfollowed := true, recurses := true, named := ["math/bits.deBruijn32tab", "math/bits.deBruijn64tab"], plainKeys := false, apart := false, laid := [("math/bits.deBruijn32tab", laid_math_bits_deBruijn32tab), ("math/bits.deBruijn64tab", laid_math_bits_deBruijn64tab)], narrowed := true }
def FnTableAutomatonUptoSaid : Prop := fnTableAutomatonUptoRow.holds Tryz.pinned (OpenSpec.upto fnTableAutomatonSpec)

/-- 'laws.FnTableSteps', WHERE WHAT IT READS IS OF BULK AT MOST 1048576: true; the input reads as it did. -/
def fnTableStepsUptoRow : OpenClaim := { program := "ytkkihplpglchjaagreatdoor", sum := "d0be181b19bab17abb21d24335442196dbf50577ea2f064cb29719eab3afb3e4", func := "loop.example/assumeguarantee/laws.FnTableSteps", spec := "fnTableSteps", unfollowed := true, recurses := true, named := ["math/bits.deBruijn32tab", "math/bits.deBruijn64tab"], plainKeys := false, apart := false, laid := [("math/bits.deBruijn32tab", laid_math_bits_deBruijn32tab), ("math/bits.deBruijn64tab", laid_math_bits_deBruijn64tab)], narrowed := true }
def FnTableStepsUptoSaid : Prop := fnTableStepsUptoRow.holds Tryz.pinned (OpenSpec.upto fnTableStepsSpec)

/-- 'laws.FnTableSafe', WHERE WHAT IT READS IS OF BULK AT MOST 1048576: true; the input reads as it did. -/
def fnTableSafeUptoRow : OpenClaim := { program := "ytkkihplpglchjaagreatdoor", sum := "d0be181b19bab17abb21d24335442196dbf50577ea2f064cb29719eab3afb3e4", func := "loop.example/assumeguarantee/laws.FnTableSafe", spec := "fnTableSafe", unfollowed := true, recurses := true, named := ["math/bits.deBruijn32tab", "math/bits.deBruijn64tab"], plainKeys := false, apart := false, laid := [("math/bits.deBruijn32tab", laid_math_bits_deBruijn32tab), ("math/bits.deBruijn64tab", laid_math_bits_deBruijn64tab)], narrowed := true }
def FnTableSafeUptoSaid : Prop := fnTableSafeUptoRow.holds Tryz.pinned (OpenSpec.upto fnTableSafeSpec)

/-- 'laws.FnSplitFirst', WHERE WHAT IT READS IS OF BULK AT MOST 1048576: true; the input reads as it did. -/
def fnSplitFirstUptoRow : OpenClaim := { program := "ytkkihplpglchjaagreatdoor", sum := "d0be181b19bab17abb21d24335442196dbf50577ea2f064cb29719eab3afb3e4", func := "loop.example/assumeguarantee/laws.FnSplitFirst", spec := "fnSplitFirst", unfollowed := true, recurses := true, named := ["math/bits.deBruijn32tab", "math/bits.deBruijn64tab"], plainKeys := false, apart := false, laid := [("math/bits.deBruijn32tab", laid_math_bits_deBruijn32tab), ("math/bits.deBruijn64tab", laid_math_bits_deBruijn64tab)], narrowed := true }
def FnSplitFirstUptoSaid : Prop := fnSplitFirstUptoRow.holds Tryz.pinned (OpenSpec.upto fnSplitFirstSpec)

/-- 'laws.FnSplitWord', WHERE WHAT IT READS IS OF BULK AT MOST 1048576: true; the input reads as it did. -/
def fnSplitWordUptoRow : OpenClaim := { program := "ytkkihplpglchjaagreatdoor", sum := "d0be181b19bab17abb21d24335442196dbf50577ea2f064cb29719eab3afb3e4", func := "loop.example/assumeguarantee/laws.FnSplitWord", spec := "fnSplitWord", unfollowed := true, recurses := true, named := ["math/bits.deBruijn32tab", "math/bits.deBruijn64tab"], plainKeys := false, apart := false, laid := [("math/bits.deBruijn32tab", laid_math_bits_deBruijn32tab), ("math/bits.deBruijn64tab", laid_math_bits_deBruijn64tab)], narrowed := true }
def FnSplitWordUptoSaid : Prop := fnSplitWordUptoRow.holds Tryz.pinned (OpenSpec.upto fnSplitWordSpec)

/-- 'laws.FnSplitOpens', WHERE WHAT IT READS IS OF BULK AT MOST 1048576: true; the input reads as it did. -/
def fnSplitOpensUptoRow : OpenClaim := { program := "ytkkihplpglchjaagreatdoor", sum := "d0be181b19bab17abb21d24335442196dbf50577ea2f064cb29719eab3afb3e4", func := "loop.example/assumeguarantee/laws.FnSplitOpens", spec := "fnSplitOpens", unfollowed := true, recurses := true, named := ["math/bits.deBruijn32tab", "math/bits.deBruijn64tab"], plainKeys := false, apart := false, laid := [("math/bits.deBruijn32tab", laid_math_bits_deBruijn32tab), ("math/bits.deBruijn64tab", laid_math_bits_deBruijn64tab)], narrowed := true }
def FnSplitOpensUptoSaid : Prop := fnSplitOpensUptoRow.holds Tryz.pinned (OpenSpec.upto fnSplitOpensSpec)

/-- 'laws.FnLearnStep', WHERE WHAT IT READS IS OF BULK AT MOST 1048576: true; the input reads as it did. -/
def fnLearnStepUptoRow : OpenClaim := { program := "ytkkihplpglchjaagreatdoor", sum := "d0be181b19bab17abb21d24335442196dbf50577ea2f064cb29719eab3afb3e4", func := "loop.example/assumeguarantee/laws.FnLearnStep", spec := "fnLearnStep", unfollowed := true, recurses := true, named := ["math/bits.deBruijn32tab", "math/bits.deBruijn64tab"], plainKeys := false, apart := false, laid := [("math/bits.deBruijn32tab", laid_math_bits_deBruijn32tab), ("math/bits.deBruijn64tab", laid_math_bits_deBruijn64tab)], narrowed := true }
def FnLearnStepUptoSaid : Prop := fnLearnStepUptoRow.holds Tryz.pinned (OpenSpec.upto fnLearnStepSpec)

/-- 'laws.FnLearnStepWrong', WHERE WHAT IT READS IS OF BULK AT MOST 1048576: true; the input reads as it did. -/
def fnLearnStepWrongUptoRow : OpenClaim := { program := "ytkkihplpglchjaagreatdoor", sum := "d0be181b19bab17abb21d24335442196dbf50577ea2f064cb29719eab3afb3e4", func := "loop.example/assumeguarantee/laws.FnLearnStepWrong", spec := "fnLearnStepWrong", unfollowed := true, recurses := true, named := ["math/bits.deBruijn32tab", "math/bits.deBruijn64tab"], plainKeys := false, apart := false, laid := [("math/bits.deBruijn32tab", laid_math_bits_deBruijn32tab), ("math/bits.deBruijn64tab", laid_math_bits_deBruijn64tab)], narrowed := true }
def FnLearnStepWrongUptoSaid : Prop := fnLearnStepWrongUptoRow.holds Tryz.pinned (OpenSpec.upto fnLearnStepWrongSpec)

end Rows
end Go.Proofs.YtkkihplpglchjaaGreatDoor
