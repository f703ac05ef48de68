/-
  Words and runs of the program itself: walked.
-/
import Derived.Test.YtdipaikojjjebaaGreatDoorPart25
set_option linter.all false
namespace Go.Am
open Go Go.Proofs
set_option maxHeartbeats 1000000
set_option maxRecDepth 4000
attribute [local irreducible] A6 CC Lex Bz Ak Spec
variable {TB:BJ}
theorem Ts(w:W)(i:Nat)(c:UInt8)(b:w[((i:Nat):Int).toNat]?=some c):Pure Tryz.prog TB 128 [eT w,eI .i64 i] (eI .i64 (if Gz c then (c.toNat:Int)-97 else -1)):=by
 by_cases h:Gz c=true
 ·rw[if_pos h]
  rw[FU,decide_eq_true_eq]at h;exact Hu w i c b h
 ·rw [if_neg h]
  rw[FU,decide_eq_true_eq]at h;have hb:=c.toNat_lt;refine eN Tryz.func128 rfl (by kernel_rfl) rfl ?_;intro Γ a;(repeat' first|(refine sA rfl ?_ ?_;first|exact tI|omega)|(refine s4 rfl ‹_› rfl ?_ ?_;omega)|refine s2 rfl λ_ d=>?_|refine s3 rfl ?_ ?_<;>rintro rfl|refine aU rfl ?_|apply Aa|(refine aC rfl ?_ ?_<;>rintro⟨⟩)|apply aK|apply aE|apply aB|refine aR ⟨_,rfl,?_⟩)
  all_goals first
   | rfl
   | (exfalso;grind)
theorem UR(al:Int)(c:UInt8):hasB al (if Gz c then (c.toNat:Int)-97 else -1)=IB al c:=by
 unfold IB hasB;by_cases h:Gz c=true
 ·rw[if_pos h,h]
  rw[FU,decide_eq_true_eq]at h
  have e:((c.toNat:Int)-97).toNat=c.toNat-97:=by omega
  rw[e];simp;omega
 ·rw[if_neg h]
  simp[h]
end Go.Am
namespace Go.Am
section
variable {α:Type}[DecidableEq α]
def lk(nd:List α):Option α->Int
 | none=>1
 | some x=>if nd.idxOf x=0 then 0 else ((nd.idxOf x+1:Nat):Int)
structure nQ (f:α->Int->Option α) (ls:List Int) (s:α) (nd:List α) (rows:List (List Int)):Prop where
 st:nd[0]?=some s
 nodup:nd.Nodup
 len:rows.length<=nd.length
 row:∀(i:Nat) (r:List Int),rows[i]?=some r->∃q,nd[i]?=some q/\r=ls.map (λl=>lk nd (f q l))/\∀l∈ls,∀x,f q l=some x->x∈nd
 rc:∀Z:List α,s∈Z->(∀q∈Z,∀l∈ls,∀x,f q l=some x->x∈Z)->∀q∈nd,q∈Z
structure nP (f:α->Int->Option α) (ls:List Int) (s:α) (nd:List α) (rows:List (List Int)):Prop where
 st:nd[0]?=some s
 nodup:nd.Nodup
 len:rows.length=nd.length
 row:∀(i:Nat) (q:α),nd[i]?=some q->rows[i]?=some (ls.map λl=>lk nd (f q l))
 cl:∀q∈nd,∀l∈ls,∀x,f q l=some x->x∈nd
end
end Go.Am
