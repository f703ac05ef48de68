/-
  NARROWER THAN 'FOR EVERY INPUT', by the rows' own cells (each row's printed sentence says how): FnLearnTwice: laid · FnLearnRows: laid · FnProposedGrow: laid · FnProposedAt: laid · FnProposedEmpty: laid · FnLearnOther: laid · FnProposedLast: laid.
  DERIVED. THE GIVEN ROWS OF THIS SEAT. 7 by the template 'for every input the law returns true; each argument reads behind the call as it read before'; 0 by the template 'total and deterministic' (their statements: YtainaphkaklkmaaGreatDoorTotals.lean).
  GIVEN WITH THE SEED: the statements are not yours to turn. If you find one false, say at which input.
  Laid BY PROGRAM, IN A SANDBOX (cutbox-rows.mjs): the forced cells as the released guide's own fill.sh prints them over the translation 42035ade54f16116… (all of the seat's roots in one cut). By AI agents, Wed Nov 11 2026. No macro, syntax, notation, axiom, sorry.
-/
import Derived.Test.YtainaphkaklkmaaGreatDoorChecked
import GoSem.Claim
import GoSem.ClaimJoined
import GoSem.ClaimMapViews
import Derived.JoinedTies
import Derived.KernelRfl
namespace Go.Proofs.YtainaphkaklkmaaGreatDoor
/- THE CELL 'sum', in the pinned program and in every row, IS THE sha256 OF THE DUMP (.gsa) THAT YtainaphkaklkmaaGreatDoorProg.lean LOADS. Nothing in Lean hashes anything: it is a label: what it is worth is what the hold of that sum in a sandbox is worth. -/
noncomputable def Tryz.pinned : Pinned := { name := "ytainaphkaklkmaagreatdoor", sum := "42035ade54f16116b44698498c919606115d3ee669d06a52d0d6356a30a4bb8e", checked := Tryz.checked }
namespace Rows
def none {H : Type} : Left H := { results := [], args := [] }

/- WHAT THE LISTED PACKAGE-LEVEL VARIABLES READ AS WHEN THE CALL BEGINS. Each datum BY PROGRAM (the guide's laid-datum.mjs) off the statement by which the dump's own 'gosem.cut.vars' lays the variable. In a bare row this is a premise. The card (YtainaphkaklkmaaGreatDoorCards.lean) ties it to the program's text. -/
def laid_math_bits_deBruijn32tab {H : Type} : DataW H := .agg [.lit (.int .u8 0), .lit (.int .u8 1), .lit (.int .u8 28), .lit (.int .u8 2), .lit (.int .u8 29), .lit (.int .u8 14), .lit (.int .u8 24), .lit (.int .u8 3), .lit (.int .u8 30), .lit (.int .u8 22), .lit (.int .u8 20), .lit (.int .u8 15), .lit (.int .u8 25), .lit (.int .u8 17), .lit (.int .u8 4), .lit (.int .u8 8), .lit (.int .u8 31), .lit (.int .u8 27), .lit (.int .u8 13), .lit (.int .u8 23), .lit (.int .u8 21), .lit (.int .u8 19), .lit (.int .u8 16), .lit (.int .u8 7), .lit (.int .u8 26), .lit (.int .u8 12), .lit (.int .u8 18), .lit (.int .u8 6), .lit (.int .u8 11), .lit (.int .u8 5), .lit (.int .u8 10), .lit (.int .u8 9)]
def laid_math_bits_deBruijn64tab {H : Type} : DataW H := .agg [.lit (.int .u8 0), .lit (.int .u8 1), .lit (.int .u8 56), .lit (.int .u8 2), .lit (.int .u8 57), .lit (.int .u8 49), .lit (.int .u8 28), .lit (.int .u8 3), .lit (.int .u8 61), .lit (.int .u8 58), .lit (.int .u8 42), .lit (.int .u8 50), .lit (.int .u8 38), .lit (.int .u8 29), .lit (.int .u8 17), .lit (.int .u8 4), .lit (.int .u8 62), .lit (.int .u8 47), .lit (.int .u8 59), .lit (.int .u8 36), .lit (.int .u8 45), .lit (.int .u8 43), .lit (.int .u8 51), .lit (.int .u8 22), .lit (.int .u8 53), .lit (.int .u8 39), .lit (.int .u8 33), .lit (.int .u8 30), .lit (.int .u8 24), .lit (.int .u8 18), .lit (.int .u8 12), .lit (.int .u8 5), .lit (.int .u8 63), .lit (.int .u8 55), .lit (.int .u8 48), .lit (.int .u8 27), .lit (.int .u8 60), .lit (.int .u8 41), .lit (.int .u8 37), .lit (.int .u8 16), .lit (.int .u8 46), .lit (.int .u8 35), .lit (.int .u8 44), .lit (.int .u8 21), .lit (.int .u8 52), .lit (.int .u8 32), .lit (.int .u8 23), .lit (.int .u8 11), .lit (.int .u8 54), .lit (.int .u8 26), .lit (.int .u8 40), .lit (.int .u8 15), .lit (.int .u8 34), .lit (.int .u8 20), .lit (.int .u8 31), .lit (.int .u8 10), .lit (.int .u8 25), .lit (.int .u8 14), .lit (.int .u8 19), .lit (.int .u8 9), .lit (.int .u8 13), .lit (.int .u8 8), .lit (.int .u8 7), .lit (.int .u8 6)]

/-- 'laws.FnLearnTwice': WHATEVER THE INPUT: true; the input reads as it did. -/
def fnLearnTwiceSpec : ChangeSpec := { name := "fnLearnTwice", fn := fun _ => fun
  | [d] => { results := [.lit (.bool true)], args := [d] }
  | _ => none }
def fnLearnTwiceRow : OpenClaim := { program := "ytainaphkaklkmaagreatdoor", sum := "42035ade54f16116b44698498c919606115d3ee669d06a52d0d6356a30a4bb8e", func := "loop.example/assumeguarantee/laws.FnLearnTwice", spec := "fnLearnTwice", unfollowed := true, recurses := true, named := ["math/bits.deBruijn32tab", "math/bits.deBruijn64tab"], plainKeys := false, apart := false, laid := [("math/bits.deBruijn32tab", laid_math_bits_deBruijn32tab), ("math/bits.deBruijn64tab", laid_math_bits_deBruijn64tab)] }
def FnLearnTwiceSaid : Prop := fnLearnTwiceRow.holds Tryz.pinned (OpenSpec.ofChange fnLearnTwiceSpec)

/-- ITS FALSE NEIGHBOUR: 'it returns false'. Refute it at one input. -/
def fnLearnTwiceWrong : ChangeSpec := { name := "fnLearnTwice", fn := fun _ => fun
  | [d] => { results := [.lit (.bool false)], args := [d] }
  | _ => none }
def FnLearnTwiceWrongFalsely : Prop := fnLearnTwiceRow.holds Tryz.pinned (OpenSpec.ofChange fnLearnTwiceWrong)

/-- 'laws.FnLearnRows': WHATEVER THE INPUT: true; the input reads as it did. -/
def fnLearnRowsSpec : ChangeSpec := { name := "fnLearnRows", fn := fun _ => fun
  | [d] => { results := [.lit (.bool true)], args := [d] }
  | _ => none }
def fnLearnRowsRow : OpenClaim := { program := "ytainaphkaklkmaagreatdoor", sum := "42035ade54f16116b44698498c919606115d3ee669d06a52d0d6356a30a4bb8e", func := "loop.example/assumeguarantee/laws.FnLearnRows", spec := "fnLearnRows", unfollowed := true, recurses := true, named := ["math/bits.deBruijn32tab", "math/bits.deBruijn64tab"], plainKeys := false, apart := false, laid := [("math/bits.deBruijn32tab", laid_math_bits_deBruijn32tab), ("math/bits.deBruijn64tab", laid_math_bits_deBruijn64tab)] }
def FnLearnRowsSaid : Prop := fnLearnRowsRow.holds Tryz.pinned (OpenSpec.ofChange fnLearnRowsSpec)

/-- ITS FALSE NEIGHBOUR: 'it returns false'. Refute it at one input. -/
def fnLearnRowsWrong : ChangeSpec := { name := "fnLearnRows", fn := fun _ => fun
  | [d] => { results := [.lit (.bool false)], args := [d] }
  | _ => none }
def FnLearnRowsWrongFalsely : Prop := fnLearnRowsRow.holds Tryz.pinned (OpenSpec.ofChange fnLearnRowsWrong)

/-- 'laws.FnProposedGrow': WHATEVER THE INPUT: true; the input reads as it did. -/
def fnProposedGrowSpec : ChangeSpec := { name := "fnProposedGrow", fn := fun _ => fun
  | [d] => { results := [.lit (.bool true)], args := [d] }
  | _ => none }
def fnProposedGrowRow : OpenClaim := { program := "ytainaphkaklkmaagreatdoor", sum := "42035ade54f16116b44698498c919606115d3ee669d06a52d0d6356a30a4bb8e", func := "loop.example/assumeguarantee/laws.FnProposedGrow", spec := "fnProposedGrow", unfollowed := true, recurses := true, named := ["math/bits.deBruijn32tab", "math/bits.deBruijn64tab"], plainKeys := false, apart := false, laid := [("math/bits.deBruijn32tab", laid_math_bits_deBruijn32tab), ("math/bits.deBruijn64tab", laid_math_bits_deBruijn64tab)] }
def FnProposedGrowSaid : Prop := fnProposedGrowRow.holds Tryz.pinned (OpenSpec.ofChange fnProposedGrowSpec)

/-- ITS FALSE NEIGHBOUR: 'it returns false'. Refute it at one input. -/
def fnProposedGrowWrong : ChangeSpec := { name := "fnProposedGrow", fn := fun _ => fun
  | [d] => { results := [.lit (.bool false)], args := [d] }
  | _ => none }
def FnProposedGrowWrongFalsely : Prop := fnProposedGrowRow.holds Tryz.pinned (OpenSpec.ofChange fnProposedGrowWrong)

/-- 'laws.FnProposedAt': WHATEVER THE INPUT: true; the input reads as it did. -/
def fnProposedAtSpec : ChangeSpec := { name := "fnProposedAt", fn := fun _ => fun
  | [d] => { results := [.lit (.bool true)], args := [d] }
  | _ => none }
def fnProposedAtRow : OpenClaim := { program := "ytainaphkaklkmaagreatdoor", sum := "42035ade54f16116b44698498c919606115d3ee669d06a52d0d6356a30a4bb8e", func := "loop.example/assumeguarantee/laws.FnProposedAt", spec := "fnProposedAt", unfollowed := true, recurses := true, named := ["math/bits.deBruijn32tab", "math/bits.deBruijn64tab"], plainKeys := false, apart := false, laid := [("math/bits.deBruijn32tab", laid_math_bits_deBruijn32tab), ("math/bits.deBruijn64tab", laid_math_bits_deBruijn64tab)] }
def FnProposedAtSaid : Prop := fnProposedAtRow.holds Tryz.pinned (OpenSpec.ofChange fnProposedAtSpec)

/-- ITS FALSE NEIGHBOUR: 'it returns false'. Refute it at one input. -/
def fnProposedAtWrong : ChangeSpec := { name := "fnProposedAt", fn := fun _ => fun
  | [d] => { results := [.lit (.bool false)], args := [d] }
  | _ => none }
def FnProposedAtWrongFalsely : Prop := fnProposedAtRow.holds Tryz.pinned (OpenSpec.ofChange fnProposedAtWrong)

/-- 'laws.FnProposedEmpty': WHATEVER THE INPUT: true; the input reads as it did. -/
def fnProposedEmptySpec : ChangeSpec := { name := "fnProposedEmpty", fn := fun _ => fun
  | [d] => { results := [.lit (.bool true)], args := [d] }
  | _ => none }
def fnProposedEmptyRow : OpenClaim := { program := "ytainaphkaklkmaagreatdoor", sum := "42035ade54f16116b44698498c919606115d3ee669d06a52d0d6356a30a4bb8e", func := "loop.example/assumeguarantee/laws.FnProposedEmpty", spec := "fnProposedEmpty", unfollowed := true, recurses := true, named := ["math/bits.deBruijn32tab", "math/bits.deBruijn64tab"], plainKeys := false, apart := false, laid := [("math/bits.deBruijn32tab", laid_math_bits_deBruijn32tab), ("math/bits.deBruijn64tab", laid_math_bits_deBruijn64tab)] }
def FnProposedEmptySaid : Prop := fnProposedEmptyRow.holds Tryz.pinned (OpenSpec.ofChange fnProposedEmptySpec)

/-- ITS FALSE NEIGHBOUR: 'it returns false'. Refute it at one input. -/
def fnProposedEmptyWrong : ChangeSpec := { name := "fnProposedEmpty", fn := fun _ => fun
  | [d] => { results := [.lit (.bool false)], args := [d] }
  | _ => none }
def FnProposedEmptyWrongFalsely : Prop := fnProposedEmptyRow.holds Tryz.pinned (OpenSpec.ofChange fnProposedEmptyWrong)

/-- 'laws.FnLearnOther': WHATEVER THE INPUT: true; the input reads as it did. -/
def fnLearnOtherSpec : ChangeSpec := { name := "fnLearnOther", fn := fun _ => fun
  | [d] => { results := [.lit (.bool true)], args := [d] }
  | _ => none }
def fnLearnOtherRow : OpenClaim := { program := "ytainaphkaklkmaagreatdoor", sum := "42035ade54f16116b44698498c919606115d3ee669d06a52d0d6356a30a4bb8e", func := "loop.example/assumeguarantee/laws.FnLearnOther", spec := "fnLearnOther", unfollowed := true, recurses := true, named := ["math/bits.deBruijn32tab", "math/bits.deBruijn64tab"], plainKeys := false, apart := false, laid := [("math/bits.deBruijn32tab", laid_math_bits_deBruijn32tab), ("math/bits.deBruijn64tab", laid_math_bits_deBruijn64tab)] }
def FnLearnOtherSaid : Prop := fnLearnOtherRow.holds Tryz.pinned (OpenSpec.ofChange fnLearnOtherSpec)

/-- ITS FALSE NEIGHBOUR: 'it returns false'. Refute it at one input. -/
def fnLearnOtherWrong : ChangeSpec := { name := "fnLearnOther", fn := fun _ => fun
  | [d] => { results := [.lit (.bool false)], args := [d] }
  | _ => none }
def FnLearnOtherWrongFalsely : Prop := fnLearnOtherRow.holds Tryz.pinned (OpenSpec.ofChange fnLearnOtherWrong)

/-- 'laws.FnProposedLast': WHATEVER THE INPUT: true; the input reads as it did. -/
def fnProposedLastSpec : ChangeSpec := { name := "fnProposedLast", fn := fun _ => fun
  | [d] => { results := [.lit (.bool true)], args := [d] }
  | _ => none }
def fnProposedLastRow : OpenClaim := { program := "ytainaphkaklkmaagreatdoor", sum := "42035ade54f16116b44698498c919606115d3ee669d06a52d0d6356a30a4bb8e", func := "loop.example/assumeguarantee/laws.FnProposedLast", spec := "fnProposedLast", unfollowed := true, recurses := true, named := ["math/bits.deBruijn32tab", "math/bits.deBruijn64tab"], plainKeys := false, apart := false, laid := [("math/bits.deBruijn32tab", laid_math_bits_deBruijn32tab), ("math/bits.deBruijn64tab", laid_math_bits_deBruijn64tab)] }
def FnProposedLastSaid : Prop := fnProposedLastRow.holds Tryz.pinned (OpenSpec.ofChange fnProposedLastSpec)

/-- ITS FALSE NEIGHBOUR: 'it returns false'. Refute it at one input. -/
def fnProposedLastWrong : ChangeSpec := { name := "fnProposedLast", fn := fun _ => fun
  | [d] => { results := [.lit (.bool false)], args := [d] }
  | _ => none }
def FnProposedLastWrongFalsely : Prop := fnProposedLastRow.holds Tryz.pinned (OpenSpec.ofChange fnProposedLastWrong)

/- THE SECOND FORM. 'bulk': how many values and letters a reading holds, each counted each time it is reached (what is shared counts as often as it is met; a slice's spare places count too). A statement '..UptoSaid' is the law's where the arguments, and the package variables that the reading takes, are together of bulk at most 1048576: NARROWER than '..Said'. Prove '..Said' where nothing that the law and all that it calls make is longer than what came in: it says more and counts as full. Else prove '..UptoSaid'. A law counts once. -/
mutual
def uptoBulk {H : Type} : DataW H → Nat
  | .lit (.string bytes) => bytes.length + 1
  | .lit _ => 1
  | .nil => 1
  | .ptr d => uptoBulk d + 1
  | .slice elems spare => uptoBulkAll elems + uptoBulkAll spare + 1
  | .agg parts => uptoBulkAll parts + 1
  | .iface _ d => uptoBulk d + 1
  | .map entries => uptoBulkEntries entries + 1
  | .held _ => 1
def uptoBulkAll {H : Type} : List (DataW H) → Nat
  | [] => 0
  | d :: r => uptoBulk d + uptoBulkAll r
def uptoBulkEntries {H : Type} : List (Lit × DataW H) → Nat
  | [] => 0
  | x :: r => uptoBulkEntry x + uptoBulkEntries r
def uptoBulkEntry {H : Type} : Lit × DataW H → Nat
  | (.string bytes, d) => bytes.length + uptoBulk d + 1
  | (_, d) => uptoBulk d + 1
 end
def uptoSmall : (H : Type) → List (DataW H) → Bool := fun _ ds => decide (uptoBulkAll ds ≤ 1048576)
def OpenSpec.upto (s : _root_.Go.ChangeSpec) : _root_.Go.OpenSpec := { _root_.Go.OpenSpec.ofChange s with cond := some uptoSmall }

/-- 'laws.FnLearnTwice', WHERE WHAT IT READS IS OF BULK AT MOST 1048576: true; the input reads as it did. -/
def fnLearnTwiceUptoRow : OpenClaim := { program := "ytainaphkaklkmaagreatdoor", sum := "42035ade54f16116b44698498c919606115d3ee669d06a52d0d6356a30a4bb8e", func := "loop.example/assumeguarantee/laws.FnLearnTwice", spec := "fnLearnTwice", unfollowed := true, recurses := true, named := ["math/bits.deBruijn32tab", "math/bits.deBruijn64tab"], plainKeys := false, apart := false, laid := [("math/bits.deBruijn32tab", laid_math_bits_deBruijn32tab), ("math/bits.deBruijn64tab", laid_math_bits_deBruijn64tab)], narrowed := true }
def FnLearnTwiceUptoSaid : Prop := fnLearnTwiceUptoRow.holds Tryz.pinned (OpenSpec.upto fnLearnTwiceSpec)

/-- 'laws.FnLearnRows', WHERE WHAT IT READS IS OF BULK AT MOST 1048576: true; the input reads as it did. -/
def fnLearnRowsUptoRow : OpenClaim := { program := "ytainaphkaklkmaagreatdoor", sum := "42035ade54f16116b44698498c919606115d3ee669d06a52d0d6356a30a4bb8e", func := "loop.example/assumeguarantee/laws.FnLearnRows", spec := "fnLearnRows", unfollowed := true, recurses := true, named := ["math/bits.deBruijn32tab", "math/bits.deBruijn64tab"], plainKeys := false, apart := false, laid := [("math/bits.deBruijn32tab", laid_math_bits_deBruijn32tab), ("math/bits.deBruijn64tab", laid_math_bits_deBruijn64tab)], narrowed := true }
def FnLearnRowsUptoSaid : Prop := fnLearnRowsUptoRow.holds Tryz.pinned (OpenSpec.upto fnLearnRowsSpec)

/-- 'laws.FnProposedGrow', WHERE WHAT IT READS IS OF BULK AT MOST 1048576: true; the input reads as it did. -/
def fnProposedGrowUptoRow : OpenClaim := { program := "ytainaphkaklkmaagreatdoor", sum := "42035ade54f16116b44698498c919606115d3ee669d06a52d0d6356a30a4bb8e", func := "loop.example/assumeguarantee/laws.FnProposedGrow", spec := "fnProposedGrow", unfollowed := true, recurses := true, named := ["math/bits.deBruijn32tab", "math/bits.deBruijn64tab"], plainKeys := false, apart := false, laid := [("math/bits.deBruijn32tab", laid_math_bits_deBruijn32tab), ("math/bits.deBruijn64tab", laid_math_bits_deBruijn64tab)], narrowed := true }
def FnProposedGrowUptoSaid : Prop := fnProposedGrowUptoRow.holds Tryz.pinned (OpenSpec.upto fnProposedGrowSpec)

/-- 'laws.FnProposedAt', WHERE WHAT IT READS IS OF BULK AT MOST 1048576: true; the input reads as it did. -/
def fnProposedAtUptoRow : OpenClaim := { program := "ytainaphkaklkmaagreatdoor", sum := "42035ade54f16116b44698498c919606115d3ee669d06a52d0d6356a30a4bb8e", func := "loop.example/assumeguarantee/laws.FnProposedAt", spec := "fnProposedAt", unfollowed := true, recurses := true, named := ["math/bits.deBruijn32tab", "math/bits.deBruijn64tab"], plainKeys := false, apart := false, laid := [("math/bits.deBruijn32tab", laid_math_bits_deBruijn32tab), ("math/bits.deBruijn64tab", laid_math_bits_deBruijn64tab)], narrowed := true }
def FnProposedAtUptoSaid : Prop := fnProposedAtUptoRow.holds Tryz.pinned (OpenSpec.upto fnProposedAtSpec)

/-- 'laws.FnProposedEmpty', WHERE WHAT IT READS IS OF BULK AT MOST 1048576: true; the input reads as it did. -/
def fnProposedEmptyUptoRow : OpenClaim := { program := "ytainaphkaklkmaagreatdoor", sum := "42035ade54f16116b44698498c919606115d3ee669d06a52d0d6356a30a4bb8e", func := "loop.example/assumeguarantee/laws.FnProposedEmpty", spec := "fnProposedEmpty", unfollowed := true, recurses := true, named := ["math/bits.deBruijn32tab", "math/bits.deBruijn64tab"], plainKeys := false, apart := false, laid := [("math/bits.deBruijn32tab", laid_math_bits_deBruijn32tab), ("math/bits.deBruijn64tab", laid_math_bits_deBruijn64tab)], narrowed := true }
def FnProposedEmptyUptoSaid : Prop := fnProposedEmptyUptoRow.holds Tryz.pinned (OpenSpec.upto fnProposedEmptySpec)

/-- 'laws.FnLearnOther', WHERE WHAT IT READS IS OF BULK AT MOST 1048576: true; the input reads as it did. -/
def fnLearnOtherUptoRow : OpenClaim := { program := "ytainaphkaklkmaagreatdoor", sum := "42035ade54f16116b44698498c919606115d3ee669d06a52d0d6356a30a4bb8e", func := "loop.example/assumeguarantee/laws.FnLearnOther", spec := "fnLearnOther", unfollowed := true, recurses := true, named := ["math/bits.deBruijn32tab", "math/bits.deBruijn64tab"], plainKeys := false, apart := false, laid := [("math/bits.deBruijn32tab", laid_math_bits_deBruijn32tab), ("math/bits.deBruijn64tab", laid_math_bits_deBruijn64tab)], narrowed := true }
def FnLearnOtherUptoSaid : Prop := fnLearnOtherUptoRow.holds Tryz.pinned (OpenSpec.upto fnLearnOtherSpec)

/-- 'laws.FnProposedLast', WHERE WHAT IT READS IS OF BULK AT MOST 1048576: true; the input reads as it did. -/
def fnProposedLastUptoRow : OpenClaim := { program := "ytainaphkaklkmaagreatdoor", sum := "42035ade54f16116b44698498c919606115d3ee669d06a52d0d6356a30a4bb8e", func := "loop.example/assumeguarantee/laws.FnProposedLast", spec := "fnProposedLast", unfollowed := true, recurses := true, named := ["math/bits.deBruijn32tab", "math/bits.deBruijn64tab"], plainKeys := false, apart := false, laid := [("math/bits.deBruijn32tab", laid_math_bits_deBruijn32tab), ("math/bits.deBruijn64tab", laid_math_bits_deBruijn64tab)], narrowed := true }
def FnProposedLastUptoSaid : Prop := fnProposedLastUptoRow.holds Tryz.pinned (OpenSpec.upto fnProposedLastSpec)

end Rows
end Go.Proofs.YtainaphkaklkmaaGreatDoor
