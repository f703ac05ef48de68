/-
  The state to which a word leads, and whether it is accepted, as the program says: walked.
-/
import Derived.Test.YtohfiindiidcfaaGreatDoorPart25
import Derived.Test.YtohfiindiidcfaaGreatDoorPart18
set_option linter.all false
namespace Go.Am
open Go Go.Proofs
set_option maxHeartbeats 1000000
set_option maxRecDepth 4000
attribute [local irreducible] A3 Cp Lex Bl Aj Spec
variable {TB:BC}
end Go.Am
namespace Go.Am
set_option linter.unusedVariables false
def nC(a:AY)(q r:Int):Prop:=∀w,AS (A4 a.al) w->SD a (EA a q w)=SD a (EA a r w)
structure oy (a:AY) (ks:List (List Int)):Prop where
 len:ks.length=a.nx.length
 ac:∀q r:Nat,q < a.nx.length->r < a.nx.length->ks[q]? = ks[r]?->SD a q=SD a r
 go:∀q r:Nat,q < a.nx.length->r < a.nx.length->ks[q]? = ks[r]?->∀l∈Ac a.al,ks[(CB a q l).toNat]? = ks[(CB a r l).toNat]?
 res:∀q r:Nat,q < a.nx.length->r < a.nx.length->nC a q r->ks[q]? = ks[r]?
structure kG (a:AY):Prop where
 b:iO a
 n1:1<=a.nx.length
 ac:a.ac.length=a.nx.length
section
variable {a:AY}(h:kG a)
include h
end
structure nB (a m:AY):Prop where
 al:m.al=a.al
 g:kG m
 n2:m.nx.length<=a.nx.length
 lang:∀w,AS (A4 a.al) w->LA m w=LA a w
 rc:∀i:Nat,i < m.nx.length->∃w,AS (A4 a.al) w/\EA m 0 w=i
 ds:∀i j:Nat,i < m.nx.length->j < m.nx.length->nC m i j->i=j
end Go.Am
namespace Go.Am
open Go Go.Proofs
set_option maxHeartbeats 1000000
set_option maxRecDepth 4000
attribute [local irreducible] A3 Cp Lex Bl Aj Spec
variable {TB:BC}
end Go.Am
