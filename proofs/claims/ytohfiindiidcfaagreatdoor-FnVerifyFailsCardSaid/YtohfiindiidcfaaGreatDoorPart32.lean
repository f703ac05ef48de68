/-
  Sizes, copies and comparisons of tables, tasks and teachers (plain part).
-/
import Derived.Test.YtohfiindiidcfaaGreatDoorPart28
set_option linter.all false
namespace Go.Am
open Go Go.Proofs
set_option maxHeartbeats 1000000
set_option maxRecDepth 4000
attribute [local irreducible] A6 Cz Lex Bv Aj Spec
variable {TB:BF}
structure nc (te:EE):Prop where
 pn:te.p.nx.length<=1048576
 pa:te.p.ac.length<=1048576
 pr:∀r∈te.p.nx,r.length<=1048576
 es:te.s.es.length<=1048576
 qn:te.q.nx.length<=1048576
 qa:te.q.ac.length<=1048576
 qr:∀r∈te.q.nx,r.length<=1048576
end Go.Am
namespace Go.Am
open Go
section
variable {α:Type}{f:Nat->α}{l:List α}{i:Nat}
end
end Go.Am
