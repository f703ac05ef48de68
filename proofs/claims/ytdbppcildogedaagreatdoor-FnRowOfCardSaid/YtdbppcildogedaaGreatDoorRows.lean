/-
  NARROWER THAN 'FOR EVERY INPUT', by the rows' own cells (each row's printed sentence says how): FnTableValid: laid · FnTableRows: laid · FnOpenRow: laid · FnFirstOpen: laid · FnRowOf: laid · FnNewTable: laid · FnCloseKnown: laid · FnCloseTable: laid · FnCloseTwice: laid · FnAddColumn: laid · FnRowNext: laid · FnTableAutomaton: laid.
  DERIVED. THE GIVEN ROWS OF THIS SEAT. 12 by the template 'for every input the law returns true; each argument reads behind the call as it read before'; 0 by the template 'total and deterministic' (their statements: YtdbppcildogedaaGreatDoorTotals.lean).
  GIVEN WITH THE SEED: the statements are not yours to turn. If you find one false, say at which input.
  Laid BY PROGRAM, IN A SANDBOX (cutbox-rows.mjs): the forced cells as the released guide's own fill.sh prints them over the translation 540a009d3c443c02… (all of the seat's roots in one cut). By AI agents, Wed Nov 11 2026. No macro, syntax, notation, axiom, sorry.
-/
import Derived.Test.YtdbppcildogedaaGreatDoorChecked
import GoSem.Claim
import GoSem.ClaimJoined
import GoSem.ClaimMapViews
import Derived.JoinedTies
import Derived.KernelRfl
namespace Go.Proofs.YtdbppcildogedaaGreatDoor
/- THE CELL 'sum', in the pinned program and in every row, IS THE sha256 OF THE DUMP (.gsa) THAT YtdbppcildogedaaGreatDoorProg.lean LOADS. Nothing in Lean hashes anything: it is a label: what it is worth is what the hold of that sum in a sandbox is worth. -/
noncomputable def Tryz.pinned : Pinned := { name := "ytdbppcildogedaagreatdoor", sum := "540a009d3c443c0287467e501afcf7404f9baa2496a8d3a76fbf29bd828cb1f8", checked := Tryz.checked }
namespace Rows
def none {H : Type} : Left H := { results := [], args := [] }

/- WHAT THE LISTED PACKAGE-LEVEL VARIABLES READ AS WHEN THE CALL BEGINS. Each datum BY PROGRAM (the guide's laid-datum.mjs) off the statement by which the dump's own 'gosem.cut.vars' lays the variable. In a bare row this is a premise. The card (YtdbppcildogedaaGreatDoorCards.lean) ties it to the program's text. -/
def laid_math_bits_deBruijn32tab {H : Type} : DataW H := .agg [.lit (.int .u8 0), .lit (.int .u8 1), .lit (.int .u8 28), .lit (.int .u8 2), .lit (.int .u8 29), .lit (.int .u8 14), .lit (.int .u8 24), .lit (.int .u8 3), .lit (.int .u8 30), .lit (.int .u8 22), .lit (.int .u8 20), .lit (.int .u8 15), .lit (.int .u8 25), .lit (.int .u8 17), .lit (.int .u8 4), .lit (.int .u8 8), .lit (.int .u8 31), .lit (.int .u8 27), .lit (.int .u8 13), .lit (.int .u8 23), .lit (.int .u8 21), .lit (.int .u8 19), .lit (.int .u8 16), .lit (.int .u8 7), .lit (.int .u8 26), .lit (.int .u8 12), .lit (.int .u8 18), .lit (.int .u8 6), .lit (.int .u8 11), .lit (.int .u8 5), .lit (.int .u8 10), .lit (.int .u8 9)]
def laid_math_bits_deBruijn64tab {H : Type} : DataW H := .agg [.lit (.int .u8 0), .lit (.int .u8 1), .lit (.int .u8 56), .lit (.int .u8 2), .lit (.int .u8 57), .lit (.int .u8 49), .lit (.int .u8 28), .lit (.int .u8 3), .lit (.int .u8 61), .lit (.int .u8 58), .lit (.int .u8 42), .lit (.int .u8 50), .lit (.int .u8 38), .lit (.int .u8 29), .lit (.int .u8 17), .lit (.int .u8 4), .lit (.int .u8 62), .lit (.int .u8 47), .lit (.int .u8 59), .lit (.int .u8 36), .lit (.int .u8 45), .lit (.int .u8 43), .lit (.int .u8 51), .lit (.int .u8 22), .lit (.int .u8 53), .lit (.int .u8 39), .lit (.int .u8 33), .lit (.int .u8 30), .lit (.int .u8 24), .lit (.int .u8 18), .lit (.int .u8 12), .lit (.int .u8 5), .lit (.int .u8 63), .lit (.int .u8 55), .lit (.int .u8 48), .lit (.int .u8 27), .lit (.int .u8 60), .lit (.int .u8 41), .lit (.int .u8 37), .lit (.int .u8 16), .lit (.int .u8 46), .lit (.int .u8 35), .lit (.int .u8 44), .lit (.int .u8 21), .lit (.int .u8 52), .lit (.int .u8 32), .lit (.int .u8 23), .lit (.int .u8 11), .lit (.int .u8 54), .lit (.int .u8 26), .lit (.int .u8 40), .lit (.int .u8 15), .lit (.int .u8 34), .lit (.int .u8 20), .lit (.int .u8 31), .lit (.int .u8 10), .lit (.int .u8 25), .lit (.int .u8 14), .lit (.int .u8 19), .lit (.int .u8 9), .lit (.int .u8 13), .lit (.int .u8 8), .lit (.int .u8 7), .lit (.int .u8 6)]

/-- 'laws.FnTableValid': WHATEVER THE INPUT: true; the input reads as it did. -/
def fnTableValidSpec : ChangeSpec := { name := "fnTableValid", fn := fun _ => fun
  | [d] => { results := [.lit (.bool true)], args := [d] }
  | _ => none }
def fnTableValidRow : OpenClaim := { program := "ytdbppcildogedaagreatdoor", sum := "540a009d3c443c0287467e501afcf7404f9baa2496a8d3a76fbf29bd828cb1f8", func := "loop.example/assumeguarantee/laws.FnTableValid", spec := "fnTableValid", unfollowed := true, recurses := true, named := ["math/bits.deBruijn32tab", "math/bits.deBruijn64tab"], plainKeys := false, apart := false, laid := [("math/bits.deBruijn32tab", laid_math_bits_deBruijn32tab), ("math/bits.deBruijn64tab", laid_math_bits_deBruijn64tab)] }
def FnTableValidSaid : Prop := fnTableValidRow.holds Tryz.pinned (OpenSpec.ofChange fnTableValidSpec)

/-- ITS FALSE NEIGHBOUR: 'it returns false'. Refute it at one input. -/
def fnTableValidWrong : ChangeSpec := { name := "fnTableValid", fn := fun _ => fun
  | [d] => { results := [.lit (.bool false)], args := [d] }
  | _ => none }
def FnTableValidWrongFalsely : Prop := fnTableValidRow.holds Tryz.pinned (OpenSpec.ofChange fnTableValidWrong)

/-- 'laws.FnTableRows': WHATEVER THE INPUT: true; the input reads as it did. -/
def fnTableRowsSpec : ChangeSpec := { name := "fnTableRows", fn := fun _ => fun
  | [d] => { results := [.lit (.bool true)], args := [d] }
  | _ => none }
def fnTableRowsRow : OpenClaim := { program := "ytdbppcildogedaagreatdoor", sum := "540a009d3c443c0287467e501afcf7404f9baa2496a8d3a76fbf29bd828cb1f8", func := "loop.example/assumeguarantee/laws.FnTableRows", spec := "fnTableRows", unfollowed := true, recurses := true, named := ["math/bits.deBruijn32tab", "math/bits.deBruijn64tab"], plainKeys := false, apart := false, laid := [("math/bits.deBruijn32tab", laid_math_bits_deBruijn32tab), ("math/bits.deBruijn64tab", laid_math_bits_deBruijn64tab)] }
def FnTableRowsSaid : Prop := fnTableRowsRow.holds Tryz.pinned (OpenSpec.ofChange fnTableRowsSpec)

/-- ITS FALSE NEIGHBOUR: 'it returns false'. Refute it at one input. -/
def fnTableRowsWrong : ChangeSpec := { name := "fnTableRows", fn := fun _ => fun
  | [d] => { results := [.lit (.bool false)], args := [d] }
  | _ => none }
def FnTableRowsWrongFalsely : Prop := fnTableRowsRow.holds Tryz.pinned (OpenSpec.ofChange fnTableRowsWrong)

/-- 'laws.FnOpenRow': WHATEVER THE INPUT: true; the input reads as it did. -/
def fnOpenRowSpec : ChangeSpec := { name := "fnOpenRow", fn := fun _ => fun
  | [d] => { results := [.lit (.bool true)], args := [d] }
  | _ => none }
def fnOpenRowRow : OpenClaim := { program := "ytdbppcildogedaagreatdoor", sum := "540a009d3c443c0287467e501afcf7404f9baa2496a8d3a76fbf29bd828cb1f8", func := "loop.example/assumeguarantee/laws.FnOpenRow", spec := "fnOpenRow", unfollowed := true, recurses := true, named := ["math/bits.deBruijn32tab", "math/bits.deBruijn64tab"], plainKeys := false, apart := false, laid := [("math/bits.deBruijn32tab", laid_math_bits_deBruijn32tab), ("math/bits.deBruijn64tab", laid_math_bits_deBruijn64tab)] }
def FnOpenRowSaid : Prop := fnOpenRowRow.holds Tryz.pinned (OpenSpec.ofChange fnOpenRowSpec)

/-- ITS FALSE NEIGHBOUR: 'it returns false'. Refute it at one input. -/
def fnOpenRowWrong : ChangeSpec := { name := "fnOpenRow", fn := fun _ => fun
  | [d] => { results := [.lit (.bool false)], args := [d] }
  | _ => none }
def FnOpenRowWrongFalsely : Prop := fnOpenRowRow.holds Tryz.pinned (OpenSpec.ofChange fnOpenRowWrong)

/-- 'laws.FnFirstOpen': WHATEVER THE INPUT: true; the input reads as it did. -/
def fnFirstOpenSpec : ChangeSpec := { name := "fnFirstOpen", fn := fun _ => fun
  | [d] => { results := [.lit (.bool true)], args := [d] }
  | _ => none }
def fnFirstOpenRow : OpenClaim := { program := "ytdbppcildogedaagreatdoor", sum := "540a009d3c443c0287467e501afcf7404f9baa2496a8d3a76fbf29bd828cb1f8", func := "loop.example/assumeguarantee/laws.FnFirstOpen", spec := "fnFirstOpen", unfollowed := true, recurses := true, named := ["math/bits.deBruijn32tab", "math/bits.deBruijn64tab"], plainKeys := false, apart := false, laid := [("math/bits.deBruijn32tab", laid_math_bits_deBruijn32tab), ("math/bits.deBruijn64tab", laid_math_bits_deBruijn64tab)] }
def FnFirstOpenSaid : Prop := fnFirstOpenRow.holds Tryz.pinned (OpenSpec.ofChange fnFirstOpenSpec)

/-- ITS FALSE NEIGHBOUR: 'it returns false'. Refute it at one input. -/
def fnFirstOpenWrong : ChangeSpec := { name := "fnFirstOpen", fn := fun _ => fun
  | [d] => { results := [.lit (.bool false)], args := [d] }
  | _ => none }
def FnFirstOpenWrongFalsely : Prop := fnFirstOpenRow.holds Tryz.pinned (OpenSpec.ofChange fnFirstOpenWrong)

/-- 'laws.FnRowOf': WHATEVER THE INPUT: true; the input reads as it did. -/
def fnRowOfSpec : ChangeSpec := { name := "fnRowOf", fn := fun _ => fun
  | [d] => { results := [.lit (.bool true)], args := [d] }
  | _ => none }
def fnRowOfRow : OpenClaim := { program := "ytdbppcildogedaagreatdoor", sum := "540a009d3c443c0287467e501afcf7404f9baa2496a8d3a76fbf29bd828cb1f8", func := "loop.example/assumeguarantee/laws.FnRowOf", spec := "fnRowOf", unfollowed := true, recurses := true, named := ["math/bits.deBruijn32tab", "math/bits.deBruijn64tab"], plainKeys := false, apart := false, laid := [("math/bits.deBruijn32tab", laid_math_bits_deBruijn32tab), ("math/bits.deBruijn64tab", laid_math_bits_deBruijn64tab)] }
def FnRowOfSaid : Prop := fnRowOfRow.holds Tryz.pinned (OpenSpec.ofChange fnRowOfSpec)

/-- ITS FALSE NEIGHBOUR: 'it returns false'. Refute it at one input. -/
def fnRowOfWrong : ChangeSpec := { name := "fnRowOf", fn := fun _ => fun
  | [d] => { results := [.lit (.bool false)], args := [d] }
  | _ => none }
def FnRowOfWrongFalsely : Prop := fnRowOfRow.holds Tryz.pinned (OpenSpec.ofChange fnRowOfWrong)

/-- 'laws.FnNewTable': WHATEVER THE INPUT: true; the input reads as it did. -/
def fnNewTableSpec : ChangeSpec := { name := "fnNewTable", fn := fun _ => fun
  | [d] => { results := [.lit (.bool true)], args := [d] }
  | _ => none }
def fnNewTableRow : OpenClaim := { program := "ytdbppcildogedaagreatdoor", sum := "540a009d3c443c0287467e501afcf7404f9baa2496a8d3a76fbf29bd828cb1f8", func := "loop.example/assumeguarantee/laws.FnNewTable", spec := "fnNewTable", unfollowed := true, recurses := true, named := ["math/bits.deBruijn32tab", "math/bits.deBruijn64tab"], plainKeys := false, apart := false, laid := [("math/bits.deBruijn32tab", laid_math_bits_deBruijn32tab), ("math/bits.deBruijn64tab", laid_math_bits_deBruijn64tab)] }
def FnNewTableSaid : Prop := fnNewTableRow.holds Tryz.pinned (OpenSpec.ofChange fnNewTableSpec)

/-- ITS FALSE NEIGHBOUR: 'it returns false'. Refute it at one input. -/
def fnNewTableWrong : ChangeSpec := { name := "fnNewTable", fn := fun _ => fun
  | [d] => { results := [.lit (.bool false)], args := [d] }
  | _ => none }
def FnNewTableWrongFalsely : Prop := fnNewTableRow.holds Tryz.pinned (OpenSpec.ofChange fnNewTableWrong)

/-- 'laws.FnCloseKnown': WHATEVER THE INPUT: true; the input reads as it did. -/
def fnCloseKnownSpec : ChangeSpec := { name := "fnCloseKnown", fn := fun _ => fun
  | [d] => { results := [.lit (.bool true)], args := [d] }
  | _ => none }
def fnCloseKnownRow : OpenClaim := { program := "ytdbppcildogedaagreatdoor", sum := "540a009d3c443c0287467e501afcf7404f9baa2496a8d3a76fbf29bd828cb1f8", func := "loop.example/assumeguarantee/laws.FnCloseKnown", spec := "fnCloseKnown", unfollowed := true, recurses := true, named := ["math/bits.deBruijn32tab", "math/bits.deBruijn64tab"], plainKeys := false, apart := false, laid := [("math/bits.deBruijn32tab", laid_math_bits_deBruijn32tab), ("math/bits.deBruijn64tab", laid_math_bits_deBruijn64tab)] }
def FnCloseKnownSaid : Prop := fnCloseKnownRow.holds Tryz.pinned (OpenSpec.ofChange fnCloseKnownSpec)

/-- ITS FALSE NEIGHBOUR: 'it returns false'. Refute it at one input. -/
def fnCloseKnownWrong : ChangeSpec := { name := "fnCloseKnown", fn := fun _ => fun
  | [d] => { results := [.lit (.bool false)], args := [d] }
  | _ => none }
def FnCloseKnownWrongFalsely : Prop := fnCloseKnownRow.holds Tryz.pinned (OpenSpec.ofChange fnCloseKnownWrong)

/-- 'laws.FnCloseTable': WHATEVER THE INPUT: true; the input reads as it did. -/
def fnCloseTableSpec : ChangeSpec := { name := "fnCloseTable", fn := fun _ => fun
  | [d] => { results := [.lit (.bool true)], args := [d] }
  | _ => none }
def fnCloseTableRow : OpenClaim := { program := "ytdbppcildogedaagreatdoor", sum := "540a009d3c443c0287467e501afcf7404f9baa2496a8d3a76fbf29bd828cb1f8", func := "loop.example/assumeguarantee/laws.FnCloseTable", spec := "fnCloseTable", unfollowed := true, recurses := true, named := ["math/bits.deBruijn32tab", "math/bits.deBruijn64tab"], plainKeys := false, apart := false, laid := [("math/bits.deBruijn32tab", laid_math_bits_deBruijn32tab), ("math/bits.deBruijn64tab", laid_math_bits_deBruijn64tab)] }
def FnCloseTableSaid : Prop := fnCloseTableRow.holds Tryz.pinned (OpenSpec.ofChange fnCloseTableSpec)

/-- ITS FALSE NEIGHBOUR: 'it returns false'. Refute it at one input. -/
def fnCloseTableWrong : ChangeSpec := { name := "fnCloseTable", fn := fun _ => fun
  | [d] => { results := [.lit (.bool false)], args := [d] }
  | _ => none }
def FnCloseTableWrongFalsely : Prop := fnCloseTableRow.holds Tryz.pinned (OpenSpec.ofChange fnCloseTableWrong)

/-- 'laws.FnCloseTwice': WHATEVER THE INPUT: true; the input reads as it did. -/
def fnCloseTwiceSpec : ChangeSpec := { name := "fnCloseTwice", fn := fun _ => fun
  | [d] => { results := [.lit (.bool true)], args := [d] }
  | _ => none }
def fnCloseTwiceRow : OpenClaim := { program := "ytdbppcildogedaagreatdoor", sum := "540a009d3c443c0287467e501afcf7404f9baa2496a8d3a76fbf29bd828cb1f8", func := "loop.example/assumeguarantee/laws.FnCloseTwice", spec := "fnCloseTwice", unfollowed := true, recurses := true, named := ["math/bits.deBruijn32tab", "math/bits.deBruijn64tab"], plainKeys := false, apart := false, laid := [("math/bits.deBruijn32tab", laid_math_bits_deBruijn32tab), ("math/bits.deBruijn64tab", laid_math_bits_deBruijn64tab)] }
def FnCloseTwiceSaid : Prop := fnCloseTwiceRow.holds Tryz.pinned (OpenSpec.ofChange fnCloseTwiceSpec)

/-- ITS FALSE NEIGHBOUR: 'it returns false'. Refute it at one input. -/
def fnCloseTwiceWrong : ChangeSpec := { name := "fnCloseTwice", fn := fun _ => fun
  | [d] => { results := [.lit (.bool false)], args := [d] }
  | _ => none }
def FnCloseTwiceWrongFalsely : Prop := fnCloseTwiceRow.holds Tryz.pinned (OpenSpec.ofChange fnCloseTwiceWrong)

/-- 'laws.FnAddColumn': WHATEVER THE INPUT: true; the input reads as it did. -/
def fnAddColumnSpec : ChangeSpec := { name := "fnAddColumn", fn := fun _ => fun
  | [d] => { results := [.lit (.bool true)], args := [d] }
  | _ => none }
def fnAddColumnRow : OpenClaim := { program := "ytdbppcildogedaagreatdoor", sum := "540a009d3c443c0287467e501afcf7404f9baa2496a8d3a76fbf29bd828cb1f8", func := "loop.example/assumeguarantee/laws.FnAddColumn", spec := "fnAddColumn", unfollowed := true, recurses := true, named := ["math/bits.deBruijn32tab", "math/bits.deBruijn64tab"], plainKeys := false, apart := false, laid := [("math/bits.deBruijn32tab", laid_math_bits_deBruijn32tab), ("math/bits.deBruijn64tab", laid_math_bits_deBruijn64tab)] }
def FnAddColumnSaid : Prop := fnAddColumnRow.holds Tryz.pinned (OpenSpec.ofChange fnAddColumnSpec)

/-- ITS FALSE NEIGHBOUR: 'it returns false'. Refute it at one input. -/
def fnAddColumnWrong : ChangeSpec := { name := "fnAddColumn", fn := fun _ => fun
  | [d] => { results := [.lit (.bool false)], args := [d] }
  | _ => none }
def FnAddColumnWrongFalsely : Prop := fnAddColumnRow.holds Tryz.pinned (OpenSpec.ofChange fnAddColumnWrong)

/-- 'laws.FnRowNext': WHATEVER THE INPUT: true; the input reads as it did. -/
def fnRowNextSpec : ChangeSpec := { name := "fnRowNext", fn := fun _ => fun
  | [d] => { results := [.lit (.bool true)], args := [d] }
  | _ => none }
def fnRowNextRow : OpenClaim := { program := "ytdbppcildogedaagreatdoor", sum := "540a009d3c443c0287467e501afcf7404f9baa2496a8d3a76fbf29bd828cb1f8", func := "loop.example/assumeguarantee/laws.FnRowNext", spec := "fnRowNext", unfollowed := true, recurses := true, named := ["math/bits.deBruijn32tab", "math/bits.deBruijn64tab"], plainKeys := false, apart := false, laid := [("math/bits.deBruijn32tab", laid_math_bits_deBruijn32tab), ("math/bits.deBruijn64tab", laid_math_bits_deBruijn64tab)] }
def FnRowNextSaid : Prop := fnRowNextRow.holds Tryz.pinned (OpenSpec.ofChange fnRowNextSpec)

/-- ITS FALSE NEIGHBOUR: 'it returns false'. Refute it at one input. -/
def fnRowNextWrong : ChangeSpec := { name := "fnRowNext", fn := fun _ => fun
  | [d] => { results := [.lit (.bool false)], args := [d] }
  | _ => none }
def FnRowNextWrongFalsely : Prop := fnRowNextRow.holds Tryz.pinned (OpenSpec.ofChange fnRowNextWrong)

/-- 'laws.FnTableAutomaton': WHATEVER THE INPUT: true; the input reads as it did. -/
def fnTableAutomatonSpec : ChangeSpec := { name := "fnTableAutomaton", fn := fun _ => fun
  | [d] => { results := [.lit (.bool true)], args := [d] }
  | _ => none }
def fnTableAutomatonRow : OpenClaim := { program := "ytdbppcildogedaagreatdoor", sum := "540a009d3c443c0287467e501afcf7404f9baa2496a8d3a76fbf29bd828cb1f8", func := "loop.example/assumeguarantee/laws.FnTableAutomaton", spec := "fnTableAutomaton", unfollowed := true, recurses := true, named := ["math/bits.deBruijn32tab", "math/bits.deBruijn64tab"], plainKeys := false, apart := false, laid := [("math/bits.deBruijn32tab", laid_math_bits_deBruijn32tab), ("math/bits.deBruijn64tab", laid_math_bits_deBruijn64tab)] }
def FnTableAutomatonSaid : Prop := fnTableAutomatonRow.holds Tryz.pinned (OpenSpec.ofChange fnTableAutomatonSpec)

/-- ITS FALSE NEIGHBOUR: 'it returns false'. Refute it at one input. -/
def fnTableAutomatonWrong : ChangeSpec := { name := "fnTableAutomaton", fn := fun _ => fun
  | [d] => { results := [.lit (.bool false)], args := [d] }
  | _ => none }
def FnTableAutomatonWrongFalsely : Prop := fnTableAutomatonRow.holds Tryz.pinned (OpenSpec.ofChange fnTableAutomatonWrong)

/- THE SECOND FORM. 'bulk': how many values and letters a reading holds, each counted each time it is reached (what is shared counts as often as it is met; a slice's spare places count too). A statement '..UptoSaid' is the law's where the arguments, and the package variables that the reading takes, are together of bulk at most 1048576: NARROWER than '..Said'. Prove '..Said' where nothing that the law and all that it calls make is longer than what came in: it says more and counts as full. Else prove '..UptoSaid'. A law counts once. -/
mutual
def uptoBulk {H : Type} : DataW H → Nat
  | .lit (.string bytes) => bytes.length + 1
  | .lit _ => 1
  | .nil => 1
  | .ptr d => uptoBulk d + 1
  | .slice elems spare => uptoBulkAll elems + uptoBulkAll spare + 1
  | .agg parts => uptoBulkAll parts + 1
  | .iface _ d => uptoBulk d + 1
  | .map entries => uptoBulkEntries entries + 1
  | .held _ => 1
def uptoBulkAll {H : Type} : List (DataW H) → Nat
  | [] => 0
  | d :: r => uptoBulk d + uptoBulkAll r
def uptoBulkEntries {H : Type} : List (Lit × DataW H) → Nat
  | [] => 0
  | x :: r => uptoBulkEntry x + uptoBulkEntries r
def uptoBulkEntry {H : Type} : Lit × DataW H → Nat
  | (.string bytes, d) => bytes.length + uptoBulk d + 1
  | (_, d) => uptoBulk d + 1
 end
def uptoSmall : (H : Type) → List (DataW H) → Bool := fun _ ds => decide (uptoBulkAll ds ≤ 1048576)
def OpenSpec.upto (s : _root_.Go.ChangeSpec) : _root_.Go.OpenSpec := { _root_.Go.OpenSpec.ofChange s with cond := some uptoSmall }

/-- 'laws.FnTableValid', WHERE WHAT IT READS IS OF BULK AT MOST 1048576: true; the input reads as it did. -/
def fnTableValidUptoRow : OpenClaim := { program := "ytdbppcildogedaagreatdoor", sum := "540a009d3c443c0287467e501afcf7404f9baa2496a8d3a76fbf29bd828cb1f8", func := "loop.example/assumeguarantee/laws.FnTableValid", spec := "fnTableValid", unfollowed := true, recurses := true, named := ["math/bits.deBruijn32tab", "math/bits.deBruijn64tab"], plainKeys := false, apart := false, laid := [("math/bits.deBruijn32tab", laid_math_bits_deBruijn32tab), ("math/bits.deBruijn64tab", laid_math_bits_deBruijn64tab)], narrowed := true }
def FnTableValidUptoSaid : Prop := fnTableValidUptoRow.holds Tryz.pinned (OpenSpec.upto fnTableValidSpec)

/-- 'laws.FnTableRows', WHERE WHAT IT READS IS OF BULK AT MOST 1048576: true; the input reads as it did. -/
def fnTableRowsUptoRow : OpenClaim := { program := "ytdbppcildogedaagreatdoor", sum := "540a009d3c443c0287467e501afcf7404f9baa2496a8d3a76fbf29bd828cb1f8", func := "loop.example/assumeguarantee/laws.FnTableRows", spec := "fnTableRows", unfollowed := true, recurses := true, named := ["math/bits.deBruijn32tab", "math/bits.deBruijn64tab"], plainKeys := false, apart := false, laid := [("math/bits.deBruijn32tab", laid_math_bits_deBruijn32tab), ("math/bits.deBruijn64tab", laid_math_bits_deBruijn64tab)], narrowed := true }
def FnTableRowsUptoSaid : Prop := fnTableRowsUptoRow.holds Tryz.pinned (OpenSpec.upto fnTableRowsSpec)

/-- 'laws.FnOpenRow', WHERE WHAT IT READS IS OF BULK AT MOST 1048576: true; the input reads as it did. -/
def fnOpenRowUptoRow : OpenClaim := { program := "ytdbppcildogedaagreatdoor", sum := "540a009d3c443c0287467e501afcf7404f9baa2496a8d3a76fbf29bd828cb1f8", func := "loop.example/assumeguarantee/laws.FnOpenRow", spec := "fnOpenRow", unfollowed := true, recurses := true, named := ["math/bits.deBruijn32tab", "math/bits.deBruijn64tab"], plainKeys := false, apart := false, laid := [("math/bits.deBruijn32tab", laid_math_bits_deBruijn32tab), ("math/bits.deBruijn64tab", laid_math_bits_deBruijn64tab)], narrowed := true }
def FnOpenRowUptoSaid : Prop := fnOpenRowUptoRow.holds Tryz.pinned (OpenSpec.upto fnOpenRowSpec)

/-- 'laws.FnFirstOpen', WHERE WHAT IT READS IS OF BULK AT MOST 1048576: true; the input reads as it did. -/
def fnFirstOpenUptoRow : OpenClaim := { program := "ytdbppcildogedaagreatdoor", sum := "540a009d3c443c0287467e501afcf7404f9baa2496a8d3a76fbf29bd828cb1f8", func := "loop.example/assumeguarantee/laws.FnFirstOpen", spec := "fnFirstOpen", unfollowed := true, recurses := true, named := ["math/bits.deBruijn32tab", "math/bits.deBruijn64tab"], plainKeys := false, apart := false, laid := [("math/bits.deBruijn32tab", laid_math_bits_deBruijn32tab), ("math/bits.deBruijn64tab", laid_math_bits_deBruijn64tab)], narrowed := true }
def FnFirstOpenUptoSaid : Prop := fnFirstOpenUptoRow.holds Tryz.pinned (OpenSpec.upto fnFirstOpenSpec)

/-- 'laws.FnRowOf', WHERE WHAT IT READS IS OF BULK AT MOST 1048576: true; the input reads as it did. -/
def fnRowOfUptoRow : OpenClaim := { program := "ytdbppcildogedaagreatdoor", sum := "540a009d3c443c0287467e501afcf7404f9baa2496a8d3a76fbf29bd828cb1f8", func := "loop.example/assumeguarantee/laws.FnRowOf", spec := "fnRowOf", unfollowed := true, recurses := true, named := ["math/bits.deBruijn32tab", "math/bits.deBruijn64tab"], plainKeys := false, apart := false, laid := [("math/bits.deBruijn32tab", laid_math_bits_deBruijn32tab), ("math/bits.deBruijn64tab", laid_math_bits_deBruijn64tab)], narrowed := true }
def FnRowOfUptoSaid : Prop := fnRowOfUptoRow.holds Tryz.pinned (OpenSpec.upto fnRowOfSpec)

/-- 'laws.FnNewTable', WHERE WHAT IT READS IS OF BULK AT MOST 1048576: true; the input reads as it did. -/
def fnNewTableUptoRow : OpenClaim := { program := "ytdbppcildogedaagreatdoor", sum := "540a009d3c443c0287467e501afcf7404f9baa2496a8d3a76fbf29bd828cb1f8", func := "loop.example/assumeguarantee/laws.FnNewTable", spec := "fnNewTable", unfollowed := true, recurses := true, named := ["math/bits.deBruijn32tab", "math/bits.deBruijn64tab"], plainKeys := false, apart := false, laid := [("math/bits.deBruijn32tab", laid_math_bits_deBruijn32tab), ("math/bits.deBruijn64tab", laid_math_bits_deBruijn64tab)], narrowed := true }
def FnNewTableUptoSaid : Prop := fnNewTableUptoRow.holds Tryz.pinned (OpenSpec.upto fnNewTableSpec)

/-- 'laws.FnCloseKnown', WHERE WHAT IT READS IS OF BULK AT MOST 1048576: true; the input reads as it did. -/
def fnCloseKnownUptoRow : OpenClaim := { program := "ytdbppcildogedaagreatdoor", sum := "540a009d3c443c0287467e501afcf7404f9baa2496a8d3a76fbf29bd828cb1f8", func := "loop.example/assumeguarantee/laws.FnCloseKnown", spec := "fnCloseKnown", unfollowed := true, recurses := true, named := ["math/bits.deBruijn32tab", "math/bits.deBruijn64tab"], plainKeys := false, apart := false, laid := [("math/bits.deBruijn32tab", laid_math_bits_deBruijn32tab), ("math/bits.deBruijn64tab", laid_math_bits_deBruijn64tab)], narrowed := true }
def FnCloseKnownUptoSaid : Prop := fnCloseKnownUptoRow.holds Tryz.pinned (OpenSpec.upto fnCloseKnownSpec)

/-- 'laws.FnCloseTable', WHERE WHAT IT READS IS OF BULK AT MOST 1048576: true; the input reads as it did. -/
def fnCloseTableUptoRow : OpenClaim := { program := "ytdbppcildogedaagreatdoor", sum := "540a009d3c443c0287467e501afcf7404f9baa2496a8d3a76fbf29bd828cb1f8", func := "loop.example/assumeguarantee/laws.FnCloseTable", spec := "fnCloseTable", unfollowed := true, recurses := true, named := ["math/bits.deBruijn32tab", "math/bits.deBruijn64tab"], plainKeys := false, apart := false, laid := [("math/bits.deBruijn32tab", laid_math_bits_deBruijn32tab), ("math/bits.deBruijn64tab", laid_math_bits_deBruijn64tab)], narrowed := true }
def FnCloseTableUptoSaid : Prop := fnCloseTableUptoRow.holds Tryz.pinned (OpenSpec.upto fnCloseTableSpec)

/-- 'laws.FnCloseTwice', WHERE WHAT IT READS IS OF BULK AT MOST 1048576: true; the input reads as it did. -/
def fnCloseTwiceUptoRow : OpenClaim := { program := "ytdbppcildogedaagreatdoor", sum := "540a009d3c443c0287467e501afcf7404f9baa2496a8d3a76fbf29bd828cb1f8", func := "loop.example/assumeguarantee/laws.FnCloseTwice", spec := "fnCloseTwice", unfollowed := true, recurses := true, named := ["math/bits.deBruijn32tab", "math/bits.deBruijn64tab"], plainKeys := false, apart := false, laid := [("math/bits.deBruijn32tab", laid_math_bits_deBruijn32tab), ("math/bits.deBruijn64tab", laid_math_bits_deBruijn64tab)], narrowed := true }
def FnCloseTwiceUptoSaid : Prop := fnCloseTwiceUptoRow.holds Tryz.pinned (OpenSpec.upto fnCloseTwiceSpec)

/-- 'laws.FnAddColumn', WHERE WHAT IT READS IS OF BULK AT MOST 1048576: true; the input reads as it did. -/
def fnAddColumnUptoRow : OpenClaim := { program := "ytdbppcildogedaagreatdoor", sum := "540a009d3c443c0287467e501afcf7404f9baa2496a8d3a76fbf29bd828cb1f8", func := "loop.example/assumeguarantee/laws.FnAddColumn", spec := "fnAddColumn", unfollowed := true, recurses := true, named := ["math/bits.deBruijn32tab", "math/bits.deBruijn64tab"], plainKeys := false, apart := false, laid := [("math/bits.deBruijn32tab", laid_math_bits_deBruijn32tab), ("math/bits.deBruijn64tab", laid_math_bits_deBruijn64tab)], narrowed := true }
def FnAddColumnUptoSaid : Prop := fnAddColumnUptoRow.holds Tryz.pinned (OpenSpec.upto fnAddColumnSpec)

/-- 'laws.FnRowNext', WHERE WHAT IT READS IS OF BULK AT MOST 1048576: true; the input reads as it did. -/
def fnRowNextUptoRow : OpenClaim := { program := "ytdbppcildogedaagreatdoor", sum := "540a009d3c443c0287467e501afcf7404f9baa2496a8d3a76fbf29bd828cb1f8", func := "loop.example/assumeguarantee/laws.FnRowNext", spec := "fnRowNext", unfollowed := true, recurses := true, named := ["math/bits.deBruijn32tab", "math/bits.deBruijn64tab"], plainKeys := false, apart := false, laid := [("math/bits.deBruijn32tab", laid_math_bits_deBruijn32tab), ("math/bits.deBruijn64tab", laid_math_bits_deBruijn64tab)], narrowed := true }
def FnRowNextUptoSaid : Prop := fnRowNextUptoRow.holds Tryz.pinned (OpenSpec.upto fnRowNextSpec)

/-- 'laws.FnTableAutomaton', WHERE WHAT IT READS IS OF BULK AT MOST 1048576: true; the input reads as it did. -/
def fnTableAutomatonUptoRow : OpenClaim := { program := "ytdbppcildogedaagreatdoor", sum := "540a009d3c443c0287467e501afcf7404f9baa2496a8d3a76fbf29bd828cb1f8", func := "loop.example/assumeguarantee/laws.FnTableAutomaton", spec := "fnTableAutomaton", unfollowed := true, recurses := true, named := ["math/bits.deBruijn32tab", "math/bits.deBruijn64tab"], plainKeys := false, apart := false, laid := [("math/bits.deBruijn32tab", laid_math_bits_deBruijn32tab), ("math/bits.deBruijn64tab", laid_math_bits_deBruijn64tab)], narrowed := true }
def FnTableAutomatonUptoSaid : Prop := fnTableAutomatonUptoRow.holds Tryz.pinned (OpenSpec.upto fnTableAutomatonSpec)

end Rows
end Go.Proofs.YtdbppcildogedaaGreatDoor
