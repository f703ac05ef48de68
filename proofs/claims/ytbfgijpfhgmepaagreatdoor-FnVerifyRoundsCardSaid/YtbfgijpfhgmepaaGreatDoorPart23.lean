/-
  Systems drawn; two systems and a property drawn: walked.
-/
import Derived.Test.YtbfgijpfhgmepaaGreatDoorPart22
import Derived.Test.YtbfgijpfhgmepaaGreatDoorPart17
import Derived.Test.YtbfgijpfhgmepaaGreatDoorPart18
import Derived.Test.YtbfgijpfhgmepaaGreatDoorPart20
import Derived.Test.YtbfgijpfhgmepaaGreatDoorPart12
import Derived.Test.YtbfgijpfhgmepaaGreatDoorPart19
set_option linter.constructorNameAsVariable false
set_option linter.unusedSectionVars false
set_option linter.unusedSimpArgs false
set_option linter.unusedVariables false
namespace Go.Am
open Go Go.Proofs
set_option maxHeartbeats 1000000
attribute [local irreducible] AX Cb Lex Bh Aj Spec
variable {TB:Bz}
def WV:List W:=[[97,98,32,50,32,48,97,49,32,49,98,48],[97,98,99,32,51,32,48,97,49,32,49,98,50,32,50,99,48],[97,98,32,51,32,48,97,48,32,48,97,49,32,48,98,48,32,49,98,50,32,50,97,50],[98,99,32,50,32,48,98,49,32,49,99,48],[98,99,32,51,32,48,98,49,32,48,99,48,32,49,99,50,32,50,98,50,32,50,99,50],[45,32,49],[97,32,49,32,48,97,48],[97,99,32,52,32,48,97,49,32,48,97,50,32,49,99,51,32,50,97,50,32,51,97,48,32,51,99,51],[97,98,99,32,52,32,48,97,48,32,48,98,49,32,49,98,50,32,49,99,48,32,50,99,51,32,51,97,49],[97,98,32,53,32,48,97,48,32,48,97,49,32,48,98,48,32,49,97,50,32,49,98,50,32,50,97,51,32,50,98,51,32,51,97,52,32,51,98,52],[97,98,100,32,51,32,48,97,49,32,48,100,48,32,49,98,48,32,49,100,50]]
theorem ZV:∀w∈WV,w.length<=60:=by decide
theorem VV:Pure Tryz.prog TB 200 [] (BO WV):=by
 refine eN Tryz.func200 rfl (by kernel_rfl) rfl ?_;intro Z a;(repeat first|refine tA rfl ?_ |refine aU rfl ?_ |refine Aa ?_);refine aR ⟨_,rfl,rfl⟩
theorem QJ(b:List UInt8)(hb:b.length<=2000)(p:Int)(N:0<=p/\p < 700000000):Spec Tryz.prog TB 140 [(0,Bn b p)] 1 [.o (.ptr 0 2 0 0)] (KK b p 410 (λs=>s.es.length<=400)):=by
 obtain⟨c,Q,P,I⟩:=Bm (TB:=TB) b hb p 3 (by omega);obtain⟨w,H,J⟩:=kh (TB:=TB) b hb (p+1) (by omega) WV (by decide) (by decide);have G:=ZV w H;have z:=Gx (TB:=TB) w (by omega);have g:∀q:Int,p<=q/\q<=p+2->∃(l j k:Int),(0<=j/\j<=8)/\Spec Tryz.prog TB 31 [(0,Bn b q)] 1 [.o (.ptr 0 2 0 0),Ak [3,6,7,5,1,0,12]] (λx σ nx=>x=eI .i64 l/\σ=[(0,Bn b (q+1))]/\nx=1)/\
  Spec Tryz.prog TB 31 [(0,Bn b (q+1))] 1 [.o (.ptr 0 2 0 0),Ak [3,2,4,1,5]] (λx σ nx=>x=eI .i64 j/\σ=[(0,Bn b (q+1+1))]/\nx=1)/\
  Spec Tryz.prog TB 31 [(0,Bn b (q+1+1))] 1 [.o (.ptr 0 2 0 0),Ak [3,2,4,6]] (λx σ nx=>x=eI .i64 k/\σ=[(0,Bn b (q+1+1+1))]/\nx=1):=λq A=>by
  obtain⟨l,M,u⟩:=Db (TB:=TB) b hb q (by omega) [3,6,7,5,1,0,12] (by decide) (by decide);obtain⟨j,v,t⟩:=Db (TB:=TB) b hb (q+1) (by omega) [3,2,4,1,5] (by decide) (by decide);obtain⟨k,L,r⟩:=Db (TB:=TB) b hb (q+1+1) (by omega) [3,2,4,6] (by decide) (by decide);exact⟨l,j,k,by simp at v;omega,u,t,r⟩
 refine eR Tryz.func140 rfl (by kernel_rfl) rfl ?_;intro Z a;(repeat first|refine tA rfl ?_ |refine aU rfl ?_ |refine Aa ?_);(refine pW rfl ?_ rfl (by rfl);refine Ai [0] rfl rfl (I) ⟨rfl,by decide,by decide⟩ rfl (by simp[cX,zC,a,cN]) ?_;rintro h d e ⟨rfl,rfl,rfl⟩ _);(repeat first|refine s2 rfl λ_ K=>?_ |refine Aa ?_);(refine aC rfl ?_ ?_<;>rintro⟨⟩)
 ·(repeat first|refine tA rfl ?_ |refine sP rfl (VV) rfl ?_ |refine aU rfl ?_)
  (refine pW rfl ?_ rfl (by rfl);refine Ai [0] rfl rfl (J) ⟨rfl,by decide,by decide⟩ rfl (by simp[cX,zC,a,cN]) ?_;rintro h d e ⟨rfl,rfl,rfl⟩ _);(refine pW rfl ?_ rfl (by rfl);refine Ai [] rfl rfl (z) ⟨rfl,by decide,by decide⟩ rfl trivial ?_;rintro h d e ⟨⟨y,ok⟩,F,rfl,rfl,rfl⟩ _);have B:y.es.length<=w.length+1:=F;(repeat first|refine tA rfl ?_ |refine aU rfl ?_ |refine Aa ?_);(refine aC rfl ?_ ?_<;>rintro⟨⟩)
  ·(repeat first|refine tA rfl ?_ |refine aU rfl ?_ |refine Aa ?_)
   exact aR ⟨_,rfl,[0],Bv y,[(0,Bn b (p+1+1))],⟨by intro i hi;match i with|0=>rfl,by decide⟩,rfl,by (simp[cX,zC,a,cN]),p+1+1,y,by omega,by show y.es.length<=400;omega,rfl,rfl,rfl⟩
  refine aK ?_;obtain⟨l,j,k,v,u,t,r⟩:=g (p+1+1) (by omega);have f:=I0 (TB:=TB) b hb (p+1+1+1+1+1) (by omega) l j k (by omega);(repeat first|refine tA rfl ?_ |refine aU rfl ?_);(refine pW rfl ?_ rfl (by rfl);refine Ai [0] rfl rfl (u) ⟨rfl,by decide,by decide⟩ rfl (by simp[cX,zC,a,cN]) ?_;rintro h d e ⟨rfl,rfl,rfl⟩ _);(repeat first|refine tA rfl ?_);(refine pW rfl ?_ rfl (by rfl);refine Ai [0] rfl rfl (t) ⟨rfl,by decide,by decide⟩ rfl (by simp[cX,zC,a,cN]) ?_;rintro h d e ⟨rfl,rfl,rfl⟩ _);(repeat first|refine tA rfl ?_);(refine pW rfl ?_ rfl (by rfl);refine Ai [0] rfl rfl (r) ⟨rfl,by decide,by decide⟩ rfl (by simp[cX,zC,a,cN]) ?_;rintro h d e ⟨rfl,rfl,rfl⟩ _);(refine pW rfl ?_ rfl (by rfl);refine Ci [0] rfl rfl 1 (f) (by decide) ⟨rfl,by decide,by decide⟩ rfl (by simp[cX,zC,a,cN]) ?_;rintro h d e ⟨q,n,A,m,rfl,rfl,rfl⟩ _);(repeat first|refine tA rfl ?_ |refine Aa ?_);exact aR ⟨_,rfl,[0],Bv n,[(0,Bn b q)],⟨by intro i hi;match i with|0=>rfl,by decide⟩,rfl,by (simp[cX,zC,a,cN]),q,n,by omega,m.2.2,rfl,rfl,rfl⟩
 refine aK ?_;obtain⟨l,j,k,v,u,t,r⟩:=g (p+1) (by omega);have f:=I0 (TB:=TB) b hb (p+1+1+1+1) (by omega) l j k (by omega);(repeat first|refine tA rfl ?_ |refine aU rfl ?_);(refine pW rfl ?_ rfl (by rfl);refine Ai [0] rfl rfl (u) ⟨rfl,by decide,by decide⟩ rfl (by simp[cX,zC,a,cN]) ?_;rintro h d e ⟨rfl,rfl,rfl⟩ _);(repeat first|refine tA rfl ?_);(refine pW rfl ?_ rfl (by rfl);refine Ai [0] rfl rfl (t) ⟨rfl,by decide,by decide⟩ rfl (by simp[cX,zC,a,cN]) ?_;rintro h d e ⟨rfl,rfl,rfl⟩ _);(repeat first|refine tA rfl ?_);(refine pW rfl ?_ rfl (by rfl);refine Ai [0] rfl rfl (r) ⟨rfl,by decide,by decide⟩ rfl (by simp[cX,zC,a,cN]) ?_;rintro h d e ⟨rfl,rfl,rfl⟩ _);(refine pW rfl ?_ rfl (by rfl);refine Ci [0] rfl rfl 1 (f) (by decide) ⟨rfl,by decide,by decide⟩ rfl (by simp[cX,zC,a,cN]) ?_;rintro h d e ⟨q,n,A,m,rfl,rfl,rfl⟩ _);(repeat first|refine tA rfl ?_ |refine Aa ?_);exact aR ⟨_,rfl,[0],Bv n,[(0,Bn b q)],⟨by intro i hi;match i with|0=>rfl,by decide⟩,rfl,by (simp[cX,zC,a,cN]),q,n,by omega,m.2.2,rfl,rfl,rfl⟩
abbrev Kf(r:Sys×AZ×Sys):E:=.t [(true,(AI r.1).map .d),(true,(AL r.2.1).map .d),(true,(AI r.2.2).map .d)]
structure jC (r:Sys×AZ×Sys):Prop where
 a:r.1.es.length<=400
 b:LY 41 r.2.1
 c:r.2.2.es.length<=400
def dT(b:List UInt8)(p m:Int)(x:E)(σ:Ab)(nx:Nat):Prop:=∃(p':Int) (r:Sys×AZ×Sys),(p<=p'/\p'<=p+m)/\jC r/\x=Kf r/\σ=[(0,Bn b p')]/\nx=1
theorem LY.upto{m n:Nat}{a:AZ}(h:LY m a)(c:m<=n):LY n a:=⟨by have:=h.nx;omega,by have:=h.ac;omega,λr b=>by have:=h.row r b;omega⟩
theorem gm{C X:Int->Sys->Prop}{Y:Prop}(h:∀q s,C q s->X q s)(hk:(∀q s,C q s->X q s)->Y):Y:=hk h
theorem Wn(b:List UInt8)(hb:b.length<=2000)(p:Int)(T:0<=p/\p < 600000000):Spec Tryz.prog TB 92 [(0,Bn b p)] 1 [.o (.ptr 0 2 0 0)] (dT b p 2000):=by
 have S:=OT (TB:=TB) b hb p (by omega);refine eR Tryz.func92 rfl (by kernel_rfl) rfl ?_;intro Z a;(repeat first|refine tA rfl ?_ |refine aU rfl ?_ |refine Aa ?_);(refine pW rfl ?_ rfl (by rfl);refine Ai [0] rfl rfl (S) ⟨rfl,by decide,by decide⟩ rfl (by simp[cX,zC,a,cN]) ?_;rintro t e f ⟨K,H,N,z,rfl,rfl,rfl⟩ _);(repeat first|refine tA rfl ?_ |refine aU rfl ?_ |refine Aa ?_);have R:=OT (TB:=TB) b hb K (by omega);(refine pW rfl ?_ rfl (by rfl);refine Ai [0] rfl rfl (R) ⟨rfl,by decide,by decide⟩ rfl (by simp[cX,zC,a,cN]) ?_;rintro t e f ⟨x,w,M,y,rfl,rfl,rfl⟩ _);(repeat first|refine tA rfl ?_ |refine aU rfl ?_ |refine Aa ?_);obtain⟨c,c1,Y,P⟩:=Bm (TB:=TB) b hb x 4 (by omega);(refine pW rfl ?_ rfl (by rfl);refine Ai [0] rfl rfl (P) ⟨rfl,by decide,by decide⟩ rfl (by simp[cX,zC,a,cN]) ?_;rintro t e f ⟨rfl,rfl,rfl⟩ _);apply gm (C:=λq s=>(p<=q/\q<=p+1300)/\s.es.length<=400)
 case hk=>
  intro hk;(repeat first|refine s2 rfl λ_ G=>?_ |refine Aa ?_);(refine aC rfl ?_ ?_<;>rintro⟨⟩)
  ·(repeat first|refine tA rfl ?_ |refine aU rfl ?_)
   have F:=QJ (TB:=TB) b hb (x+1) (by omega);(refine pW rfl ?_ rfl (by rfl);refine Ai [0] rfl rfl (F) ⟨rfl,by decide,by decide⟩ rfl (by simp[cX,zC,a,cN]) ?_;rintro t e f ⟨g,j,v,n,rfl,rfl,rfl⟩ _);(repeat first|refine tA rfl ?_);refine Aa ?_;refine Aj.Ay [0] [] rfl rfl [(2,.o (.ptr 1 3 0 0)),(3,.o (.ptr 2 3 0 0)),(4,.o (.ptr 3 3 0 0)),(5,.o (.ptr 4 3 0 0)),(6,.o (.ptr 5 3 0 0))] [(0,Bn b g),(1,.cells 25 3 [[.d (iD 0),.d (iD 0),.d (.l [])]]),(2,.cells 29 3 [[.d (iD 0),.d (.l []),.d (.l [])]]),(3,.cells 25 3 [[.d (iD 0),.d (iD 0),.d (.l [])]]),(4,.cells 25 3 [(AI j).map .d]),(5,.cells 25 3 [(AI w).map .d])] [0,1,2,3,4,5] (rl a rfl) (by (simp[cX,zC,a,cN,Ae,eC])) ?_;(try dsimp only[cA,cB]);exact hk g j ⟨by omega,n⟩
  ·refine aK ?_
   generalize v:x+1=g at *;refine Aj.Ay [0] [] rfl rfl [(2,.o (.ptr 1 3 0 0)),(3,.o (.ptr 2 3 0 0)),(4,.o (.ptr 3 3 0 0)),(5,.o (.ptr 4 3 0 0)),(6,.o (.ptr 5 3 0 0))] [(0,Bn b g),(1,.cells 25 3 [[.d (iD 0),.d (iD 0),.d (.l [])]]),(2,.cells 29 3 [[.d (iD 0),.d (.l []),.d (.l [])]]),(3,.cells 25 3 [[.d (iD 0),.d (iD 0),.d (.l [])]]),(4,.cells 25 3 [(AI H).map .d]),(5,.cells 25 3 [(AI w).map .d])] [0,1,2,3,4,5] (rl a rfl) (by (simp[cX,zC,a,cN,Ae,eC])) ?_;(try dsimp only[cA,cB]);exact hk g H ⟨by omega,z.2⟩
 case h =>
  intro g j ⟨v,n⟩;(repeat first|refine tA rfl ?_ |refine aU rfl ?_);obtain⟨X,V,U,A⟩:=Bm (TB:=TB) b hb g 4 (by omega);(refine pW rfl ?_ rfl (by rfl);refine Ai [0] rfl rfl (A) ⟨rfl,by decide,by decide⟩ rfl (by simp[cX,zC,a,cN]) ?_;rintro t e f ⟨rfl,rfl,rfl⟩ _);apply gm (C:=λq s=>(p<=q/\q<=p+1800)/\s.es.length<=400)
  case hk=>
   intro hk;(repeat first|refine s2 rfl λ_ G=>?_ |refine Aa ?_);(refine aC rfl ?_ ?_<;>rintro⟨⟩)
   ·(repeat first|refine tA rfl ?_ |refine aU rfl ?_)
    have F:=QJ (TB:=TB) b hb (g+1) (by omega);(refine pW rfl ?_ rfl (by rfl);refine Ai [0] rfl rfl (F) ⟨rfl,by decide,by decide⟩ rfl (by simp[cX,zC,a,cN]) ?_;rintro t e f ⟨k,r,u,m,rfl,rfl,rfl⟩ _);(repeat first|refine tA rfl ?_);refine Aa ?_;refine Aj.Ay [0] [] rfl rfl [(2,.o (.ptr 1 3 0 0)),(3,.o (.ptr 2 3 0 0)),(4,.o (.ptr 3 3 0 0)),(5,.o (.ptr 4 3 0 0)),(6,.o (.ptr 5 3 0 0))] [(0,Bn b k),(1,.cells 25 3 [[.d (iD 0),.d (iD 0),.d (.l [])]]),(2,.cells 29 3 [[.d (iD 0),.d (.l []),.d (.l [])]]),(3,.cells 25 3 [[.d (iD 0),.d (iD 0),.d (.l [])]]),(4,.cells 25 3 [(AI j).map .d]),(5,.cells 25 3 [(AI r).map .d])] [0,1,2,3,4,5] (rl a rfl) (by (simp[cX,zC,a,cN,Ae,eC])) ?_;(try dsimp only[cA,cB]);exact hk k r ⟨by omega,m⟩
   ·refine aK ?_
    generalize u:g+1=k at *;refine Aj.Ay [0] [] rfl rfl [(2,.o (.ptr 1 3 0 0)),(3,.o (.ptr 2 3 0 0)),(4,.o (.ptr 3 3 0 0)),(5,.o (.ptr 4 3 0 0)),(6,.o (.ptr 5 3 0 0))] [(0,Bn b k),(1,.cells 25 3 [[.d (iD 0),.d (iD 0),.d (.l [])]]),(2,.cells 29 3 [[.d (iD 0),.d (.l []),.d (.l [])]]),(3,.cells 25 3 [[.d (iD 0),.d (iD 0),.d (.l [])]]),(4,.cells 25 3 [(AI j).map .d]),(5,.cells 25 3 [(AI w).map .d])] [0,1,2,3,4,5] (rl a rfl) (by (simp[cX,zC,a,cN,Ae,eC])) ?_;(try dsimp only[cA,cB]);exact hk k w ⟨by omega,y.2⟩
  case h=>
   intro k r ⟨u,m⟩;have Q:=P9 (TB:=TB) b hb k (by omega) (Gk .i64 j.al r.al);(repeat first|refine aU rfl ?_);refine rG ⟨FV [(0,14),(3,14),(5,15),(7,1048),(8,15),(9,1032),(10,1032),(11,1)],ak [0,1,2,3,4,5,6,8,7,9,10,11]⟩ (by kernel_rfl) ?_;(repeat first|refine tA rfl ?_);(refine Ag rfl ?_;refine C3 ?_ rfl ⟨rfl,rfl⟩;refine Ai [0] rfl rfl (Q) ⟨rfl,by decide,by decide⟩ rfl (by simp[cX,zC,a,cN]) ?_;rintro t e f ⟨I,J,L,B,rfl,rfl,rfl⟩ _;refine⟨JX 4 5 rfl rfl rfl,?_⟩);(refine Ag rfl ?_;refine cy ?_ rfl ⟨rfl,rfl⟩;refine Ei rfl rfl rfl rfl (by rfl) rfl (am rfl) ?_;refine⟨E9 5 rfl rfl,?_⟩);(refine Ag rfl ?_;refine cy ?_ rfl ⟨rfl,rfl⟩;refine Ei rfl rfl rfl rfl (by rfl) rfl (am rfl) ?_;refine⟨E9 5 rfl rfl,?_⟩);(repeat first|refine tA rfl ?_ |refine Aa ?_);exact aR ⟨_,rfl,[0],Kf (j,J,r),[(0,Bn b I)],⟨by intro i hi;match i with|0=>rfl,by decide⟩,rfl,by (simp[cX,zC,a,cN]),I,(j,J,r),by omega,⟨n,B.upto (by omega),m⟩,rfl,rfl,rfl⟩
abbrev RT(r:Sys×Sys×AZ):E:=.t [(true,(AI r.1).map .d),(true,(AI r.2.1).map .d),(true,(AL r.2.2).map .d)]
structure gd (r:Sys×Sys×AZ) (n m:Nat):Prop where
 a:r.1.es.length<=n
 b:r.2.1.es.length<=n
 c:LY m r.2.2
def Xk(b:List UInt8)(p d:Int)(n m:Nat)(x:E)(σ:Ab)(nx:Nat):Prop:=∃(p':Int) (r:Sys×Sys×AZ),(p<=p'/\p'<=p+d)/\gd r n m/\x=RT r/\σ=[(0,Bn b p')]/\nx=1
def dS(b:List UInt8)(p d:Int)(n m:Nat)(x:E)(σ:Ab)(nx:Nat):Prop:=∃(p':Int) (r:Sys×AZ×Sys),(p<=p'/\p'<=p+d)/\gd (r.1,r.2.2,r.2.1) n m/\x=Kf r/\σ=[(0,Bn b p')]/\nx=1
theorem Wi(b:List UInt8)(hb:b.length<=2000)(p:Int)(G:0<=p/\p < 700000000)(s:Sys)(q:AZ)(t:Sys)(F:s.es.length<=2000)(ht:t.es.length<=2000)(A:LY 1000 q):Spec Tryz.prog TB 56 [(0,Bn b p)] 1 [.o (.ptr 0 2 0 0),Bv s,Bi q,Bv t] (dS b p 20 2003 1042):=by
 obtain⟨c,I,H,B⟩:=Bm (TB:=TB) b hb p 30 (by omega);refine eR Tryz.func56 rfl (by kernel_rfl) rfl ?_;intro Z a;(repeat first|refine aU rfl ?_);(refine pW rfl ?_ rfl (by rfl);refine C5 rfl rfl ?_);(refine pW rfl ?_ rfl (by rfl);refine C5 rfl rfl ?_);(refine pW rfl ?_ rfl (by rfl);refine C5 rfl rfl ?_);(repeat first|refine tA rfl ?_ |refine aU rfl ?_ |refine Aa ?_);(refine pW rfl ?_ rfl (by rfl);refine Ai [0] rfl rfl (B) ⟨rfl,by decide,by decide⟩ rfl (by simp[cX,zC,a,cN]) ?_;rintro g d e ⟨rfl,rfl,rfl⟩ _);refine Aa ?_;refine aB ?_;(repeat first|refine tA rfl ?_ |refine s2 rfl λ_ z=>?_ |refine aU rfl ?_ |refine Aa ?_);(refine aC rfl ?_ ?_<;>rintro⟨⟩)
 ·have y:=Fh (TB:=TB) b hb (p+1) (by omega) s (by omega)
  (repeat first|refine tA rfl ?_ |refine aU rfl ?_);(refine pW rfl ?_ rfl (by rfl);refine Ai [0] rfl rfl (y) ⟨rfl,by decide,by decide⟩ rfl (by simp[cX,zC,a,cN]) ?_;rintro g d e ⟨n,s1,v,l,rfl,rfl,rfl⟩ _);have x:=Fh (TB:=TB) b hb n (by omega) s1 (by omega);(refine pW rfl ?_ rfl (by rfl);refine Ai [0] rfl rfl (x) ⟨rfl,by decide,by decide⟩ rfl (by simp[cX,zC,a,cN]) ?_;rintro g d e ⟨m,s2,u,k,rfl,rfl,rfl⟩ _);have w:=Fh (TB:=TB) b hb m (by omega) s2 (by omega);(refine pW rfl ?_ rfl (by rfl);refine Ai [0] rfl rfl (w) ⟨rfl,by decide,by decide⟩ rfl (by simp[cX,zC,a,cN]) ?_;rintro g d e ⟨h,f,r,j,rfl,rfl,rfl⟩ _);(repeat first|refine tA rfl ?_ |refine aU rfl ?_ |refine Aa ?_);refine Aj.AE [1,2,3] [(5,.o (.ip (AI f))),(6,.o (.ip (AL q))),(7,.o (.ip (AI t))),(8,.o (.ptr 4 3 0 0)),(9,.o (.ptr 5 3 0 0)),(10,.o (.ptr 6 3 0 0))] ⟨⟨_,rfl,.inr (.o (.box rfl (Fe.refl (AI f))))⟩,⟨_,rfl,.inr (.o (.box rfl (Fe.refl (AL q))))⟩,⟨_,rfl,.inr (.o (.box rfl (Fe.refl (AI t))))⟩,⟨_,rfl,.inl rfl⟩,⟨_,rfl,.inl rfl⟩,⟨_,rfl,.inl rfl⟩,trivial⟩ ?_;refine rG (JU [(3,1),(4,1),(5,1)]) (by kernel_rfl) ?_;(repeat first|refine tA rfl ?_ |refine Aa ?_);exact aR ⟨_,rfl,[0],Kf (f,q,t),[(0,Bn b (h))],⟨by intro i hi;match i with|0=>rfl,by decide⟩,rfl,by (simp[cX,zC,a,cN]),h,(f,q,t),by omega,⟨by show f.es.length<=_;omega,by show t.es.length<=_;omega,A.upto (by omega)⟩,rfl,rfl,rfl⟩
 ·(repeat first|refine tA rfl ?_ |refine s2 rfl λ_ z=>?_ |refine aU rfl ?_ |refine Aa ?_)
  (refine aC rfl ?_ ?_<;>rintro⟨⟩)
  ·have y:=Kn (TB:=TB) b hb (p+1) (by omega) q 1000 A (by omega)
   (repeat first|refine tA rfl ?_ |refine aU rfl ?_);(refine pW rfl ?_ rfl (by rfl);refine Ai [0] rfl rfl (y) ⟨rfl,by decide,by decide⟩ rfl (by simp[cX,zC,a,cN]) ?_;rintro g d e ⟨n,s1,v,l,rfl,rfl,rfl⟩ _);have x:=Kn (TB:=TB) b hb n (by omega) s1 _ l (by omega);(refine pW rfl ?_ rfl (by rfl);refine Ai [0] rfl rfl (x) ⟨rfl,by decide,by decide⟩ rfl (by simp[cX,zC,a,cN]) ?_;rintro g d e ⟨m,s2,u,k,rfl,rfl,rfl⟩ _);have w:=Kn (TB:=TB) b hb m (by omega) s2 _ k (by omega);(refine pW rfl ?_ rfl (by rfl);refine Ai [0] rfl rfl (w) ⟨rfl,by decide,by decide⟩ rfl (by simp[cX,zC,a,cN]) ?_;rintro g d e ⟨h,f,r,j,rfl,rfl,rfl⟩ _);(repeat first|refine tA rfl ?_ |refine aU rfl ?_ |refine Aa ?_);refine Aj.AE [1,2,3] [(5,.o (.ip (AI s))),(6,.o (.ip (AL f))),(7,.o (.ip (AI t))),(8,.o (.ptr 4 3 0 0)),(9,.o (.ptr 5 3 0 0)),(10,.o (.ptr 6 3 0 0))] ⟨⟨_,rfl,.inr (.o (.box rfl (Fe.refl (AI s))))⟩,⟨_,rfl,.inr (.o (.box rfl (Fe.refl (AL f))))⟩,⟨_,rfl,.inr (.o (.box rfl (Fe.refl (AI t))))⟩,⟨_,rfl,.inl rfl⟩,⟨_,rfl,.inl rfl⟩,⟨_,rfl,.inl rfl⟩,trivial⟩ ?_;refine rG (JU [(3,1),(4,1),(5,1)]) (by kernel_rfl) ?_;(repeat first|refine tA rfl ?_ |refine Aa ?_);exact aR ⟨_,rfl,[0],Kf (s,f,t),[(0,Bn b (h))],⟨by intro i hi;match i with|0=>rfl,by decide⟩,rfl,by (simp[cX,zC,a,cN]),h,(s,f,t),by omega,⟨by show s.es.length<=_;omega,by show t.es.length<=_;omega,LY.upto j (by omega)⟩,rfl,rfl,rfl⟩
  ·(repeat first|refine tA rfl ?_ |refine s2 rfl λ_ z=>?_ |refine aU rfl ?_ |refine Aa ?_)
   (refine aC rfl ?_ ?_<;>rintro⟨⟩)
   ·have y:=Fh (TB:=TB) b hb (p+1) (by omega) t (by omega)
    (repeat first|refine tA rfl ?_ |refine aU rfl ?_);(refine pW rfl ?_ rfl (by rfl);refine Ai [0] rfl rfl (y) ⟨rfl,by decide,by decide⟩ rfl (by simp[cX,zC,a,cN]) ?_;rintro g d e ⟨n,s1,v,l,rfl,rfl,rfl⟩ _);have x:=Fh (TB:=TB) b hb n (by omega) s1 (by omega);(refine pW rfl ?_ rfl (by rfl);refine Ai [0] rfl rfl (x) ⟨rfl,by decide,by decide⟩ rfl (by simp[cX,zC,a,cN]) ?_;rintro g d e ⟨m,s2,u,k,rfl,rfl,rfl⟩ _);have w:=Fh (TB:=TB) b hb m (by omega) s2 (by omega);(refine pW rfl ?_ rfl (by rfl);refine Ai [0] rfl rfl (w) ⟨rfl,by decide,by decide⟩ rfl (by simp[cX,zC,a,cN]) ?_;rintro g d e ⟨h,f,r,j,rfl,rfl,rfl⟩ _);(repeat first|refine tA rfl ?_ |refine aU rfl ?_ |refine Aa ?_);refine Aj.AE [1,2,3] [(5,.o (.ip (AI s))),(6,.o (.ip (AL q))),(7,.o (.ip (AI f))),(8,.o (.ptr 4 3 0 0)),(9,.o (.ptr 5 3 0 0)),(10,.o (.ptr 6 3 0 0))] ⟨⟨_,rfl,.inr (.o (.box rfl (Fe.refl (AI s))))⟩,⟨_,rfl,.inr (.o (.box rfl (Fe.refl (AL q))))⟩,⟨_,rfl,.inr (.o (.box rfl (Fe.refl (AI f))))⟩,⟨_,rfl,.inl rfl⟩,⟨_,rfl,.inl rfl⟩,⟨_,rfl,.inl rfl⟩,trivial⟩ ?_;refine rG (JU [(3,1),(4,1),(5,1)]) (by kernel_rfl) ?_;(repeat first|refine tA rfl ?_ |refine Aa ?_);exact aR ⟨_,rfl,[0],Kf (s,q,f),[(0,Bn b (h))],⟨by intro i hi;match i with|0=>rfl,by decide⟩,rfl,by (simp[cX,zC,a,cN]),h,(s,q,f),by omega,⟨by show s.es.length<=_;omega,by show f.es.length<=_;omega,A.upto (by omega)⟩,rfl,rfl,rfl⟩
   ·refine aK ?_
    (repeat first|refine aU rfl ?_);refine Aj.AE [1,2,3] [(5,.o (.ip (AI s))),(6,.o (.ip (AL q))),(7,.o (.ip (AI t))),(8,.o (.ptr 4 3 0 0)),(9,.o (.ptr 5 3 0 0)),(10,.o (.ptr 6 3 0 0))] ⟨⟨_,rfl,.inr (.o (.box rfl (Fe.refl (AI s))))⟩,⟨_,rfl,.inr (.o (.box rfl (Fe.refl (AL q))))⟩,⟨_,rfl,.inr (.o (.box rfl (Fe.refl (AI t))))⟩,⟨_,rfl,.inl rfl⟩,⟨_,rfl,.inl rfl⟩,⟨_,rfl,.inl rfl⟩,trivial⟩ ?_;refine rG (JU [(3,1),(4,1),(5,1)]) (by kernel_rfl) ?_;(repeat first|refine tA rfl ?_ |refine Aa ?_);exact aR ⟨_,rfl,[0],Kf (s,q,t),[(0,Bn b (p+1))],⟨by intro i hi;match i with|0=>rfl,by decide⟩,rfl,by (simp[cX,zC,a,cN]),p+1,(s,q,t),by omega,⟨by show s.es.length<=_;omega,by show t.es.length<=_;omega,A.upto (by omega)⟩,rfl,rfl,rfl⟩
def WW:List (List W):=[[[97,98,32,50,32,48,97,49,32,49,98,48],[98,99,32,50,32,48,98,49,32,49,99,48],[97,99,32,43,49,44,50,32,43,50,44,48,32,45,50,44,50]],[[97,98,32,51,32,48,97,49,32,49,97,50,32,49,98,48],[97,98,32,50,32,48,97,49,32,49,98,48],[97,98,32,43,49,44,48,32,43,50,44,48,32,45,50,44,50]],[[97,98,99,32,56,32,48,97,48,32,48,97,49,32,48,98,48,32,49,97,50,32,49,98,50,32,50,97,51,32,50,98,51,32,51,97,52,32,51,98,52,32,52,97,53,32,52,98,53,32,53,97,54,32,53,98,54,32,54,99,55],[97,98,99,32,49,32,48,97,48,32,48,98,48],[99,32,43,49,32,45,49]],[[97,98,99,32,51,32,48,97,49,32,49,98,50,32,50,99,48],[98,99,32,50,32,48,98,49,32,49,99,48],[97,99,32,43,49,44,50,32,43,50,44,48,32,45,50,44,50]],[[97,98,32,51,32,48,97,49,32,48,98,48,32,49,98,50,32,50,97,50,32,50,98,50],[97,98,99,32,50,32,48,97,49,32,49,98,48,32,49,99,49],[98,32,43,49,32,43,50,32,45,50]],[[97,98,100,32,51,32,48,97,49,32,48,100,48,32,49,98,48,32,49,100,50,32,50,97,50],[97,98,32,50,32,48,97,49,32,49,98,48],[100,32,43,49,32,43,50,32,45,50]],[[97,98,99,32,56,32,48,97,48,32,48,97,49,32,48,98,48,32,49,97,50,32,49,98,50,32,50,97,51,32,50,98,51,32,51,97,52,32,51,98,52,32,52,97,53,32,52,98,53,32,53,97,54,32,53,98,54,32,54,99,55],[97,98,99,32,50,32,48,97,48,32,48,98,48,32,48,99,49],[99,32,43,49,32,45,49]],[[97,98,32,52,32,48,97,49,32,49,97,50,32,49,98,48,32,50,97,51,32,50,98,49,32,51,98,50],[97,98,32,53,32,48,97,49,32,49,97,50,32,49,98,48,32,50,97,51,32,50,98,49,32,51,97,52,32,51,98,50,32,52,98,51],[97,98,32,43,49,44,48,32,43,50,44,48,32,43,51,44,49,32,45,51,44,51]],[[97,99,32,51,32,48,97,49,32,49,97,50,32,50,99,48],[97,99,32,52,32,48,97,49,32,49,97,50,32,50,99,51,32,51,97,48],[99,32,43,49,32,43,50,32,45,50]]]
abbrev mI(l:List (List W)):D:=.l (l.map λx=>[BW x])
theorem TZ:Pure Tryz.prog TB 93 [] (.o (.d (mI WW))):=by
 refine eG Tryz.func93 rfl (by kernel_rfl) rfl ?_;intro Z a;(repeat first|refine tA rfl ?_|(refine Ag rfl ?_;refine gA rfl ?_;first| refine gS (λ_ _=>AF rfl rfl (by rfl) (by rfl)) ?_) |refine aU rfl ?_ |refine Aa ?_);(subst_vars;exact aR ⟨_,rfl,rfl⟩)
theorem ZX:∀x∈WW,x.length=3/\∀w∈x,w.length<=80:=by decide
theorem VP(b:List UInt8)(hb:b.length<=2000)(p:Int)(h0:0<=p/\p < 500000000):Spec Tryz.prog TB 55 [(0,Bn b p)] 1 [.o (.ptr 0 2 0 0)] (Xk b p 3000 2000 1000):=by
 obtain⟨L,P,Q,hL0⟩:∃L,Pure Tryz.prog TB 93 [] (.o (.d (mI L)))/\(∀x∈L,x.length=3/\∀w∈x,w.length<=80)/\0 < L.length:=⟨WW,TZ,ZX,by decide⟩
 have f0:=Wn (TB:=TB) b hb p (by omega);refine eR Tryz.func55 rfl (by kernel_rfl) rfl ?_;intro Z e;(repeat first|refine tA rfl ?_ |refine aU rfl ?_ |refine Aa ?_);(refine pW rfl ?_ rfl (by rfl);refine Ai [0] rfl rfl (f0) ⟨rfl,by decide,by decide⟩ rfl (by simp[cX,zC,e,cN]) ?_;rintro v f h ⟨u,⟨s,q,t⟩,X,⟨ba,bb,bc⟩,rfl,rfl,rfl⟩ _);have ba:s.es.length<=400:=ba;have bb:LY 41 q:=bb;have bc:t.es.length<=400:=bc;obtain⟨c,c0,c1,hc⟩:=Bm (TB:=TB) b hb u 3 (by omega);(repeat first|refine tA rfl ?_ |refine aU rfl ?_ |refine Aa ?_);(refine pW rfl ?_ rfl (by rfl);refine Ai [0] rfl rfl (hc) ⟨rfl,by decide,by decide⟩ rfl (by simp[cX,zC,e,cN]) ?_;rintro v f h ⟨rfl,rfl,rfl⟩ _);(repeat first|refine s2 rfl λ_ H=>?_ |refine Aa ?_);(refine aC rfl ?_ ?_<;>rintro⟨⟩)
 ·obtain⟨k,k0,k1,hk⟩:=Bm (TB:=TB) b hb (u+1) L.length (by omega)
  obtain⟨tx,R⟩:=get_some (l:=L) (k:=k.toNat) (by omega);have V:=get_map (g:=λx=>[BW x]) R;obtain⟨N,F⟩:=Q tx (co R)
  obtain⟨A,z,y,rfl⟩:∃A z y,tx=[A,z,y]:=by
   match tx,N with
   | [a,b,c],_=>exact⟨a,b,c,rfl⟩
  have l0:=F A (by simp);have l1:=F z (by simp);have l2:=F y (by simp);have i0:([A,z,y].map CN)[(0:Int).toNat]? = some (CN A):=rfl;have i1:([A,z,y].map CN)[(1:Int).toNat]? = some (CN z):=rfl;have i2:([A,z,y].map CN)[(2:Int).toNat]? = some (CN y):=rfl;have g0:=Gx (TB:=TB) A (by omega);have g1:=Gx (TB:=TB) z (by omega);have g2:=KI (TB:=TB) y (by omega);(repeat first|refine sN rfl ?_ |refine tA rfl ?_ |refine sP rfl (P) rfl ?_ |refine aU rfl ?_ |refine Aa ?_);(refine pW rfl ?_ rfl (by rfl);refine Ai [0] rfl rfl (hk) ⟨rfl,by decide,by decide⟩ rfl (by simp[cX,zC,e,cN]) ?_;rintro v f h ⟨rfl,rfl,rfl⟩ _);(repeat first|refine tA rfl ?_ |(refine s4 rfl ‹_› rfl ?_ ?_;omega) |refine aU rfl ?_ |refine Aa ?_);(refine pW rfl ?_ rfl (by rfl);refine Ai [] rfl rfl (g0) ⟨rfl,by decide,by decide⟩ rfl trivial ?_;rintro v f h ⟨⟨s1,U⟩,J,rfl,rfl,rfl⟩ _);(repeat first|refine tA rfl ?_ |(refine s4 rfl ‹_› rfl ?_ ?_;omega) |refine aU rfl ?_ |refine Aa ?_);(refine pW rfl ?_ rfl (by rfl);refine Ai [] rfl rfl (g1) ⟨rfl,by decide,by decide⟩ rfl trivial ?_;rintro v f h ⟨⟨j,T⟩,I,rfl,rfl,rfl⟩ _);(repeat first|refine tA rfl ?_ |(refine s4 rfl ‹_› rfl ?_ ?_;omega) |refine aU rfl ?_ |refine Aa ?_);(refine pW rfl ?_ rfl (by rfl);refine Ai [] rfl rfl (g2) ⟨rfl,by decide,by decide⟩ rfl trivial ?_;rintro v f h ⟨⟨n,S⟩,r,rfl,rfl,rfl⟩ _);have J:s1.es.length<=A.length+1:=J;have I:j.es.length<=z.length+1:=I;have r:LY (y.length+1) n:=r;obtain⟨d,d0,d1,Y⟩:=Bm (TB:=TB) b hb (u+1+1) 4 (by omega);(repeat first|refine tA rfl ?_ |refine aU rfl ?_ |refine Aa ?_);(refine pW rfl ?_ rfl (by rfl);refine Ai [0] rfl rfl (Y) ⟨rfl,by decide,by decide⟩ rfl (by simp[cX,zC,e,cN]) ?_;rintro v f h ⟨rfl,rfl,rfl⟩ _);refine Aa ?_;refine aB ?_;(repeat first|refine tA rfl ?_ |refine s2 rfl λ_ H=>?_ |refine aU rfl ?_ |refine Aa ?_);(refine aC rfl ?_ ?_<;>rintro⟨⟩)
  ·have M:=Nk (TB:=TB) b hb (u+1+1+1) (by omega) s1 (by omega)
   (repeat first|refine tA rfl ?_ |refine aU rfl ?_);(refine pW rfl ?_ rfl (by rfl);refine Ai [0] rfl rfl (M) ⟨rfl,by decide,by decide⟩ rfl (by simp[cX,zC,e,cN]) ?_;rintro v f h ⟨B,m,K,G,rfl,rfl,rfl⟩ _);(repeat first|refine tA rfl ?_ |refine aU rfl ?_ |refine Aa ?_);refine Aj.AE [4,5,6] [(5,.o (.ip (AI m))),(6,.o (.ip (AL n))),(7,.o (.ip (AI j))),(2,.o (.ptr 1 3 0 0)),(3,.o (.ptr 2 3 0 0)),(4,.o (.ptr 3 3 0 0))] ⟨⟨_,rfl,.inr (.o (.box rfl (Fe.refl (AI m))))⟩,⟨_,rfl,.inr (.o (.box rfl (Fe.refl (AL n))))⟩,⟨_,rfl,.inr (.o (.box rfl (Fe.refl (AI j))))⟩,⟨_,rfl,.inl rfl⟩,⟨_,rfl,.inl rfl⟩,⟨_,rfl,.inl rfl⟩,trivial⟩ ?_;refine rG (JU [(3,1),(4,1),(5,1)]) (by kernel_rfl) ?_;(repeat first|refine tA rfl ?_ |refine Aa ?_);exact aR ⟨_,rfl,[0],RT (m,j,n),[(0,Bn b (B))],⟨by intro i hi;match i with|0=>rfl,by decide⟩,rfl,by (simp[cX,zC,e,cN]),B,(m,j,n),by omega,⟨by show m.es.length<=_;omega,by show j.es.length<=_;omega,r.upto (by omega)⟩,rfl,rfl,rfl⟩
  ·(repeat first|refine tA rfl ?_ |refine s2 rfl λ_ H=>?_ |refine aU rfl ?_ |refine Aa ?_)
   (refine aC rfl ?_ ?_<;>rintro⟨⟩)
   ·have M:=Nk (TB:=TB) b hb (u+1+1+1) (by omega) j (by omega)
    (repeat first|refine tA rfl ?_ |refine aU rfl ?_);(refine pW rfl ?_ rfl (by rfl);refine Ai [0] rfl rfl (M) ⟨rfl,by decide,by decide⟩ rfl (by simp[cX,zC,e,cN]) ?_;rintro v f h ⟨B,m,K,G,rfl,rfl,rfl⟩ _);(repeat first|refine tA rfl ?_ |refine aU rfl ?_ |refine Aa ?_);refine Aj.AE [4,5,6] [(5,.o (.ip (AI s1))),(6,.o (.ip (AL n))),(7,.o (.ip (AI m))),(2,.o (.ptr 1 3 0 0)),(3,.o (.ptr 2 3 0 0)),(4,.o (.ptr 3 3 0 0))] ⟨⟨_,rfl,.inr (.o (.box rfl (Fe.refl (AI s1))))⟩,⟨_,rfl,.inr (.o (.box rfl (Fe.refl (AL n))))⟩,⟨_,rfl,.inr (.o (.box rfl (Fe.refl (AI m))))⟩,⟨_,rfl,.inl rfl⟩,⟨_,rfl,.inl rfl⟩,⟨_,rfl,.inl rfl⟩,trivial⟩ ?_;refine rG (JU [(3,1),(4,1),(5,1)]) (by kernel_rfl) ?_;(repeat first|refine tA rfl ?_ |refine Aa ?_);exact aR ⟨_,rfl,[0],RT (s1,m,n),[(0,Bn b (B))],⟨by intro i hi;match i with|0=>rfl,by decide⟩,rfl,by (simp[cX,zC,e,cN]),B,(s1,m,n),by omega,⟨by show s1.es.length<=_;omega,by show m.es.length<=_;omega,r.upto (by omega)⟩,rfl,rfl,rfl⟩
   ·(repeat first|refine tA rfl ?_ |refine s2 rfl λ_ H=>?_ |refine aU rfl ?_ |refine Aa ?_)
    (refine aC rfl ?_ ?_<;>rintro⟨⟩)
    ·have M:=T8 (TB:=TB) b hb (u+1+1+1) (by omega) n _ r (by omega)
     (repeat first|refine tA rfl ?_ |refine aU rfl ?_);(refine pW rfl ?_ rfl (by rfl);refine Ai [0] rfl rfl (M) ⟨rfl,by decide,by decide⟩ rfl (by simp[cX,zC,e,cN]) ?_;rintro v f h ⟨B,m,K,G,rfl,rfl,rfl⟩ _);(repeat first|refine tA rfl ?_ |refine aU rfl ?_ |refine Aa ?_);refine Aj.AE [4,5,6] [(5,.o (.ip (AI s1))),(6,.o (.ip (AL m))),(7,.o (.ip (AI j))),(2,.o (.ptr 1 3 0 0)),(3,.o (.ptr 2 3 0 0)),(4,.o (.ptr 3 3 0 0))] ⟨⟨_,rfl,.inr (.o (.box rfl (Fe.refl (AI s1))))⟩,⟨_,rfl,.inr (.o (.box rfl (Fe.refl (AL m))))⟩,⟨_,rfl,.inr (.o (.box rfl (Fe.refl (AI j))))⟩,⟨_,rfl,.inl rfl⟩,⟨_,rfl,.inl rfl⟩,⟨_,rfl,.inl rfl⟩,trivial⟩ ?_;refine rG (JU [(3,1),(4,1),(5,1)]) (by kernel_rfl) ?_;(repeat first|refine tA rfl ?_ |refine Aa ?_);exact aR ⟨_,rfl,[0],RT (s1,j,m),[(0,Bn b (B))],⟨by intro i hi;match i with|0=>rfl,by decide⟩,rfl,by (simp[cX,zC,e,cN]),B,(s1,j,m),by omega,⟨by show s1.es.length<=_;omega,by show j.es.length<=_;omega,LY.upto G.2 (by omega)⟩,rfl,rfl,rfl⟩
    ·refine aK ?_
     (repeat first|refine aU rfl ?_);refine Aj.AE [4,5,6] [(5,.o (.ip (AI s1))),(6,.o (.ip (AL n))),(7,.o (.ip (AI j))),(2,.o (.ptr 1 3 0 0)),(3,.o (.ptr 2 3 0 0)),(4,.o (.ptr 3 3 0 0))] ⟨⟨_,rfl,.inr (.o (.box rfl (Fe.refl (AI s1))))⟩,⟨_,rfl,.inr (.o (.box rfl (Fe.refl (AL n))))⟩,⟨_,rfl,.inr (.o (.box rfl (Fe.refl (AI j))))⟩,⟨_,rfl,.inl rfl⟩,⟨_,rfl,.inl rfl⟩,⟨_,rfl,.inl rfl⟩,trivial⟩ ?_;refine rG (JU [(3,1),(4,1),(5,1)]) (by kernel_rfl) ?_;(repeat first|refine tA rfl ?_ |refine Aa ?_);exact aR ⟨_,rfl,[0],RT (s1,j,n),[(0,Bn b (u+1+1+1))],⟨by intro i hi;match i with|0=>rfl,by decide⟩,rfl,by (simp[cX,zC,e,cN]),u+1+1+1,(s1,j,n),by omega,⟨by show s1.es.length<=_;omega,by show j.es.length<=_;omega,r.upto (by omega)⟩,rfl,rfl,rfl⟩
 ·refine aK ?_
  (repeat first|refine aU rfl ?_);refine Aj.AE [4,5,6] [(5,.o (.ip (AI s))),(6,.o (.ip (AL q))),(7,.o (.ip (AI t))),(2,.o (.ptr 1 3 0 0)),(3,.o (.ptr 2 3 0 0)),(4,.o (.ptr 3 3 0 0))] ⟨⟨_,rfl,.inr (.o (.box rfl (Fe.refl (AI s))))⟩,⟨_,rfl,.inr (.o (.box rfl (Fe.refl (AL q))))⟩,⟨_,rfl,.inr (.o (.box rfl (Fe.refl (AI t))))⟩,⟨_,rfl,.inl rfl⟩,⟨_,rfl,.inl rfl⟩,⟨_,rfl,.inl rfl⟩,trivial⟩ ?_;refine rG (JU [(3,1),(4,1),(5,1)]) (by kernel_rfl) ?_;(repeat first|refine tA rfl ?_ |refine Aa ?_);exact aR ⟨_,rfl,[0],RT (s,t,q),[(0,Bn b (u+1))],⟨by intro i hi;match i with|0=>rfl,by decide⟩,rfl,by (simp[cX,zC,e,cN]),u+1,(s,t,q),by omega,⟨by show s.es.length<=_;omega,by show t.es.length<=_;omega,bb.upto (by omega)⟩,rfl,rfl,rfl⟩
theorem Zk(b:List UInt8)(hb:b.length<=2000)(p:Int)(u:0<=p/\p < 500000000):Spec Tryz.prog TB 30 [(0,Bn b p)] 1 [.o (.ptr 0 2 0 0)] (Xk b p 3100 2003 1042):=by
 have r:=VP (TB:=TB) b hb p (by omega);refine eR Tryz.func30 rfl (by kernel_rfl) rfl ?_;intro Z a;(repeat first|refine tA rfl ?_ |refine aU rfl ?_ |refine Aa ?_);(refine pW rfl ?_ rfl (by rfl);refine Ai [0] rfl rfl (r) ⟨rfl,by decide,by decide⟩ rfl (by simp[cX,zC,a,cN]) ?_;rintro j e f ⟨k,⟨s,t,q⟩,m,⟨ba,bb,bc⟩,rfl,rfl,rfl⟩ _);have ba:s.es.length<=2000:=ba;have bb:t.es.length<=2000:=bb;have bc:LY 1000 q:=bc;have n:=Wi (TB:=TB) b hb k (by omega) s q t ba bb bc;(repeat first|refine tA rfl ?_ |refine aU rfl ?_ |refine Aa ?_);(refine pW rfl ?_ rfl (by rfl);refine Ai [0] rfl rfl (n) ⟨rfl,by decide,by decide⟩ rfl (by simp[cX,zC,a,cN]) ?_;rintro j e f ⟨h,⟨s2,d,c⟩,l,g,rfl,rfl,rfl⟩ _);(repeat first|refine tA rfl ?_ |refine aU rfl ?_ |refine Aa ?_);refine Aj.AE [4,5,6] [(5,.o (.ip (AI s2))),(6,.o (.ip (AI c))),(7,.o (.ip (AL d))),(2,.o (.ptr 1 3 0 0)),(3,.o (.ptr 2 3 0 0)),(4,.o (.ptr 3 3 0 0))] ⟨⟨_,rfl,.inr (.o (.box rfl (Fe.refl (AI s2))))⟩,⟨_,rfl,.inr (.o (.box rfl (Fe.refl (AI c))))⟩,⟨_,rfl,.inr (.o (.box rfl (Fe.refl (AL d))))⟩,⟨_,rfl,.inl rfl⟩,⟨_,rfl,.inl rfl⟩,⟨_,rfl,.inl rfl⟩,trivial⟩ ?_;refine rG (JU [(3,1),(4,1),(5,1)]) (by kernel_rfl) ?_;(repeat first|refine tA rfl ?_ |refine Aa ?_);exact aR ⟨_,rfl,[0],RT (s2,c,d),[(0,Bn b (h))],⟨by intro i hi;match i with|0=>rfl,by decide⟩,rfl,by (simp[cX,zC,a,cN]),h,(s2,c,d),by omega,g,rfl,rfl,rfl⟩
theorem KG(b:List UInt8)(hb:b.length<=9223372036854775807):Spec Tryz.prog TB 27 [] 0 [.o (.d (YQ b))] (Eg (λr:Sys×Sys×AZ=>r.1.es.length<=1048576/\r.2.1.es.length<=1048576) RT):=by
 obtain⟨b',g,l⟩:=VQ (TB:=TB) b hb;have k:=Zk (TB:=TB) b' g 0 (by omega);refine eR Tryz.func27 rfl (by kernel_rfl) rfl ?_;intro Z c;(repeat first|refine tA rfl ?_ |refine aU rfl ?_ |refine Aa ?_);(refine pW rfl ?_ rfl (by rfl);refine Ci [] rfl rfl 0 (l) (by decide) ⟨rfl,by decide,by decide⟩ rfl (by simp[cX,zC,c,cN]) ?_;rintro j e f ⟨rfl,rfl,rfl⟩ _);(refine pW rfl ?_ rfl (by rfl);refine Ai [3] rfl rfl (k) ⟨rfl,by decide,by decide⟩ rfl (by simp[cX,zC,c,cN]) ?_;rintro j e f ⟨q,r,_,h,rfl,rfl,rfl⟩ _);(repeat first|refine tA rfl ?_ |refine Aa ?_);exact aR ⟨_,rfl,[],RT r,[],⟨λi hi=>absurd hi (lc i),lm⟩,rfl,trivial,r,⟨by have:=h.a;omega,by have:=h.b;omega⟩,rfl,rfl,rfl⟩
structure mc (t:CK):Prop where
 s:t.s.es.length<=401
 q:LY 60 t.q
theorem Sv{n x v:Nat}{G:PS}:((MG n G).map AD).set x (AD (v:Int))=(MG n (WX G x v)).map AD:=by
 apply oy;intro i;rw [qH];by_cases hi:i < n
 ·have a:∀H:PS,((MG n H).map AD)[i]? = some (AD (H i:Int)):=λH=>by simp [hi]
  rw [a,a];unfold WX;by_cases e:x=i
  ·subst e;rw [if_pos rfl,if_pos (by simpa using hi),if_pos rfl]
  ·rw [if_neg e,if_neg (λh=>e h.symm)]
 ·have a:∀H:PS,((MG n H).map AD)[i]? = none:=λH=>nj (by simp;omega)
  rw [a,a];by_cases e:x=i
  ·subst e;rw [if_pos rfl,if_neg (by simpa using hi)]
  ·rw [if_neg e]
theorem Su{n x:Nat}{G:PS}(h:x < n):((MG n G).map AD)[0+((x:Nat):Int).toNat]? = some (AD (G x:Int)):=by rw [nf,i7];simp [h]
theorem Th.start{t:CK}{F0 F:PS}(a:CZ t F)(c:∀p j,(F0 p).testBit j=true->(F p).testBit j=true)(b:∀p j,(F p).testBit j=true->PN t F0 p j):Th t F0 F 0 0 F false:=
 ⟨a,c,b,λ_=>jp _,λh=>(by cases h),λ_=>⟨rfl,λp _ l _ h=>by simp at h⟩⟩
theorem OW{t:CK}(ht:Bc t=true){F0:PS}(K:CZ t F0):Spec Tryz.prog TB 213 [(0,.cells 3 1 ((MG t.q.nx.length F0).map AD))] 1 [PZ t,.o (.arr 0 1 0 t.q.nx.length)] (λx σ nx=>x=.o (.arr 0 1 0 t.q.nx.length)/\σ=[(0,.cells 3 1 ((MG t.q.nx.length (RP t F0)).map AD))]/\nx=1):=by
 have P:AU t.s=true:=by unfold Bc at ht;simp only [d4] at ht;exact ht.1
 have A:A7 t.al=true:=by unfold Bc at ht;simp only [d4] at ht;exact ht.2.2
 have y:=AN P;have g:=Cw ht;have hah:=AH g;have H:=fO y.1 A;have I:=y.1;unfold A7 at I;simp only [decide_eq_true_eq] at I
 have R:Pure Tryz.prog TB 121 [eI .i64 (t.s.al - FW .i64 t.s.al t.al)] (Ak (Cs t)):=by
  have:=Ch (TB:=TB) (t.s.al - FW .i64 t.s.al t.al);rw [H.1,I6 y.1 A] at this;rw [H.1];exact this
 have hll:(Cs t).length<=6:=by
  unfold Cs;have V:(Ac t.s.al).length<=6:=AK _ _;exact li (oP _ _) V
 refine eR Tryz.func213 rfl (by kernel_rfl) rfl ?_;intro Z c;(repeat first|(refine sA rfl ?_ ?_;first|exact tI|omega) |refine sP rfl (R) rfl ?_ |refine aU rfl ?_ |refine Aa ?_);refine aB ?_;refine aL (α:={s:PS×Bool // CZ t s.1/\(∀p j,(F0 p).testBit j=true->(s.1 p).testBit j=true)/\(∀p j,(s.1 p).testBit j=true->PN t F0 p j)/\(s.2=false->s.1=RP t F0)}) [1,2,5] [] rfl rfl (λs=>[(6,eB s.1.2)]) (λs=>[(0,.cells 3 1 ((MG t.q.nx.length s.1.1).map AD))]) 1 (λs=>(if s.1.2 then NO s.1.1+1 else 0)) (⟨⟨F0,true⟩,K,λ_ _ h=>h,λ_ _ h=>.base h,λh=>by cases h⟩) c rfl (by (simp[cX,zC,c])) ?_;rintro⟨⟨F,b⟩,U,V,h2,h3⟩;(try dsimp only[cA,cB]);have U:CZ t F:=U
 cases b with
 | false=>
  obtain rfl:F=RP t F0:=h3 rfl;(repeat first|refine tA rfl ?_ |refine aU rfl ?_ |refine Aa ?_);(refine aC rfl ?_ ?_<;>rintro⟨⟩);refine aE ?_;(repeat first|refine tA rfl ?_ |refine aU rfl ?_ |refine Aa ?_);refine aR ⟨_,rfl,[0],.o (.arr 0 1 0 t.q.nx.length),_,⟨by intro i hi;match i with|0=>rfl,by decide⟩,rfl,?_,rfl,rfl,rfl⟩;(simp[cX,zC,c])
 | true =>
  (repeat first|refine tA rfl ?_ |refine aU rfl ?_ |refine Aa ?_);(refine aC rfl ?_ ?_<;>rintro⟨⟩);refine aK ?_;refine aB ?_;(repeat first|refine tA rfl ?_ |refine aU rfl ?_ |refine Aa ?_);refine aB ?_;refine aL (α:={s:Nat×PS×Bool // s.1<=t.q.nx.length/\Th t F0 F s.1 0 s.2.1 s.2.2}) [1,2,5] [] rfl rfl (λs=>[(6,eB s.1.2.2),(7,eI .i64 s.1.1)]) (λs=>[(0,.cells 3 1 ((MG t.q.nx.length s.1.2.1).map AD))]) 1 (λs=>t.q.nx.length - s.1.1) (⟨⟨0,F,false⟩,by simp,.start U V h2⟩) c rfl (by (simp[cX,zC,c])) ?_;rintro⟨⟨i,G,b⟩,hi,w⟩;(try dsimp only[cA,cB]);have hi:i<=t.q.nx.length:=hi;have w:Th t F0 F i 0 G b:=w;by_cases u:i < t.q.nx.length
  ·(repeat first|refine tA rfl ?_ |refine s2 rfl λ_ d=>?_ |refine aU rfl ?_ |refine Aa ?_)
   ((refine aC rfl ?_ ?_<;>rintro⟨⟩);all_goals try(exfalso;(simp only[oZ] at *;omega)))
   refine aK ?_;refine aS (aB ?_);(repeat first|refine tA rfl ?_ |refine aU rfl ?_ |refine Aa ?_);refine aB ?_;refine aL (α:={s:Nat×PS×Bool // s.1<=(Cs t).length/\Th t F0 F i s.1 s.2.1 s.2.2}) [1,2,5,7] [] rfl rfl (λs=>[(6,eB s.1.2.2),(8,eI .i64 s.1.1)]) (λs=>[(0,.cells 3 1 ((MG t.q.nx.length s.1.2.1).map AD))]) 1 (λs=>(Cs t).length - s.1.1) (⟨⟨0,G,b⟩,by simp,w⟩) c rfl (by (simp[cX,zC,c])) ?_;rintro⟨⟨k,G',b'⟩,hk,e⟩;(try dsimp only[cA,cB]);have hk:k<=(Cs t).length:=hk;have e:Th t F0 F i k G' b':=e;clear w;by_cases S:k < (Cs t).length
   ·obtain⟨l,r⟩:=get_some S
    have f:=DH ht (co r)
    have hl':((Cs t).map Bq)[((k:Nat):Int).toNat]? = some (Bq l):=by rw [i7];simp [r]
    have J:=Jt (TB:=TB) t.q g i u l f.1 f.2.1;have T:=Dl g u f.1 f.2.1
    obtain⟨x,L⟩:∃x:Nat,CA t.q i l=x:=⟨(CA t.q i l).toNat,by omega⟩
    rw [L] at J T;have M:=QL (TB:=TB) P l (e.ok.lt i)
    have Y:Cn t.s.es l (G' i) < 65536:=by
     have:=Ue P (l:=l) (m:=G' i) (k:=t.s.es.length);rwa [io] at this
    have r1:=Su (n:=t.q.nx.length) (G:=G') (x:=x) (by omega);have r2:=Su (n:=t.q.nx.length) (G:=G') (x:=i) u;have X:=e.ok.lt x;have z:=N5 (a:=G' x) (b:=Cn t.s.es l (G' i)) (by omega) (by omega);have B:=Sv (n:=t.q.nx.length) (x:=x) (v:=G' x ||| Cn t.s.es l (G' i)) (G:=G');(repeat first|refine sN rfl ?_ |refine tA rfl ?_ |refine s2 rfl λ_ d=>?_ |refine aU rfl ?_ |refine Aa ?_)
    ((refine aC rfl ?_ ?_<;>rintro⟨⟩);all_goals try(exfalso;(simp only[oZ] at *;omega)))
    refine aK ?_;refine aS (aB ?_);(repeat first|refine aU rfl ?_);refine rG (Gj []) (by kernel_rfl) ?_;(repeat first|refine tA rfl ?_ |(refine s4 rfl ‹_› rfl ?_ ?_;omega) |refine sP rfl (J) rfl ?_ |refine aU rfl ?_ |refine Aa ?_);refine rG (Gj []) (by kernel_rfl) ?_;(repeat first|((first|refine sA rfl ?_ ?_|refine s4 rfl ‹_› rfl ?_ ?_);first|exact tI|omega) |refine s2 rfl λ_ d=>?_ |refine sP rfl (M) rfl ?_ |refine aU rfl ?_ |refine Aa ?_);(refine aC rfl ?_ ?_<;>rintro⟨⟩)
    ·have Q:G' x ||| Cn t.s.es l (G' i)≠G' x:=by
      rw [z] at d;simp only [decide_eq_true_eq] at d;omega
     (repeat first|(refine sA rfl ?_ ?_;first|exact tI|omega) |refine t4 rfl ‹_› rfl ?_ |refine aU rfl ?_ |refine Aa ?_);have N:=e.Pw ht u r L Q;generalize WX G' x (G' x ||| Cn t.s.es l (G' i))=G2 at *;refine⟨⟨⟨k+1,G2,true⟩,by omega,N⟩,by dsimp only;(omega),[0],?_⟩
     simp[cX,zC,c,z];simpa [d5] using B
    ·have he:G' x ||| Cn t.s.es l (G' i)=G' x:=by
      rw [z] at d;simp only [decide_eq_false_iff_not] at d;omega
     refine aK ?_;(repeat first|(refine sA rfl ?_ ?_;first|exact tI|omega) |refine aU rfl ?_ |refine Aa ?_);refine⟨⟨⟨k+1,G',b'⟩,by omega,e.kP ht r L he⟩,by dsimp only;(omega),[0],?_⟩;simp[cX,zC,c]
   ·obtain rfl:k=(Cs t).length:=by omega
    (repeat first|refine sN rfl ?_ |refine tA rfl ?_ |refine s2 rfl λ_ d=>?_ |refine aU rfl ?_ |refine Aa ?_)
    ((refine aC rfl ?_ ?_<;>rintro⟨⟩);all_goals try(exfalso;(simp only[oZ] at *;omega)))
    refine aE ?_;(repeat first|(refine sA rfl ?_ ?_;first|exact tI|omega) |refine aU rfl ?_ |refine Aa ?_);refine⟨⟨⟨i+1,G',b'⟩,by omega,e.row⟩,by dsimp only;(omega),[0],?_⟩;simp[cX,zC,c]
  ·obtain rfl:i=t.q.nx.length:=by omega
   (repeat first|refine tA rfl ?_ |refine s2 rfl λ_ d=>?_ |refine aU rfl ?_ |refine Aa ?_)
   ((refine aC rfl ?_ ?_<;>rintro⟨⟩);all_goals try(exfalso;(simp only[oZ] at *;omega)))
   refine aE ?_;refine⟨⟨⟨G,b⟩,w.ok,w.lo,w.hi,λhb=>by have hb:b=false:=hb;subst hb;exact w.done ht K⟩,by cases b<;>simp_all [w.yes],[0],?_⟩;simp[cX,zC,c]
structure J6 (P:Program) (TB:Bz) (gA gQ:FuncId) (t:EF) (al:Int) (A:W->Bool):Prop where
 alph:Pure P TB gA [EE t] (eI .i64 al)
 ask:∀w:W,w.length<=1099511627776->Pure P TB gQ [EE t,eT w] (eB (A w))
structure Vm (t:A0):Prop where
 rl:t.rows.length<=4194304
 cl:t.cols.length<=4194304
 rb:∀w∈t.rows,w.length<=4194304
 cb:∀w∈t.cols,w.length<=4194304
theorem IY(l:List W)(s:W)(n:l.length<=1099511627776):Pure Tryz.prog TB 195 [BO l,eT s] (eB (decide (s∈l))):=by
 refine eN Tryz.func195 rfl (by kernel_rfl) rfl ?_;intro Z b;(repeat first|refine tA rfl ?_ |refine aU rfl ?_ |refine Aa ?_);refine aB ?_;refine aL (α:={k:Nat // k<=l.length/\s∉l.take k}) [0,1] [] rfl rfl (λ⟨k,hk,c⟩=>[(5,eI .i64 k)]) (λ⟨k,hk,c⟩=>[]) 0 (λ⟨k,hk,c⟩=>l.length - k) (⟨0,by omega,by simp⟩) b rfl (by (simp[cX,zC,b])) ?_;rintro⟨k,hk,c⟩;(try dsimp only[cA,cB]);by_cases i:k < l.length
 ·obtain⟨x,e⟩:=get_some i
  have j:=get_map (g:=CN) e;by_cases d:x=s
  ·have m:s∈l:=d ▸ co e
   (repeat first|refine sN rfl ?_ |refine tA rfl ?_ |refine s2 rfl λ_ a=>?_ |refine aU rfl ?_ |refine Aa ?_);(refine aC rfl ?_ ?_<;>rintro⟨⟩)
   ·(repeat' first|(refine sA rfl ?_ ?_;first|exact tI|omega) |(refine s4 rfl ‹_› rfl ?_ ?_;omega) |refine s2 rfl λ_ a=>?_ |refine aU rfl ?_ |refine Aa ?_|(refine aC rfl ?_ ?_<;>rintro⟨⟩)|refine aK ?_|refine aE ?_|refine aB ?_|refine aR ⟨_,rfl,?_⟩)
    ·simp [m]
    ·exfalso;simp [d] at a
   ·exfalso;(simp only[oZ] at *;omega)
  ·have f:s∉l.take (k+1):=by
    rw [d8,e];intro h
    rcases em.1 h with h|h
    ·exact c h
    ·simp at h;exact d h.symm
   (repeat first|refine sN rfl ?_ |refine tA rfl ?_ |refine s2 rfl λ_ a=>?_ |refine aU rfl ?_ |refine Aa ?_);(refine aC rfl ?_ ?_<;>rintro⟨⟩)
   ·(repeat' first|(refine sA rfl ?_ ?_;first|exact tI|omega) |(refine s4 rfl ‹_› rfl ?_ ?_;omega) |refine s2 rfl λ_ a=>?_ |refine aU rfl ?_ |refine Aa ?_|(refine aC rfl ?_ ?_<;>rintro⟨⟩)|refine aK ?_|refine aE ?_|refine aB ?_|refine aR ⟨_,rfl,?_⟩)
    ·exfalso;simp [d] at a
    ·refine⟨⟨k+1,by omega,f⟩,by dsimp only;(omega),[],?_⟩
     simp[cX,zC,b]
   ·exfalso;(simp only[oZ] at *;omega)
 ·rw [ge (by omega)] at c
  (repeat first|refine sN rfl ?_ |refine tA rfl ?_ |refine s2 rfl λ_ a=>?_ |refine aU rfl ?_ |refine Aa ?_);(refine aC rfl ?_ ?_<;>rintro⟨⟩)
  ·exfalso;(simp only[oZ] at *;omega)
  ·(repeat' first|refine tA rfl ?_ |refine aU rfl ?_ |refine Aa ?_|(refine aC rfl ?_ ?_<;>rintro⟨⟩)|refine aK ?_|refine aE ?_|refine aB ?_|refine aR ⟨_,rfl,?_⟩)
   simp [c]
theorem Wv{A:W->Bool}{cols:List W}{w c:W}{k:Nat}(a:cols[k]? = some c):marks A (cols.take (k+1)) w=marks A (cols.take k) w++[QR (A (w++c))]:=by
 unfold marks;rw [d8,a];simp
theorem Zx{A:W->Bool}{cols:List W}{w:W}:(marks A cols w).length=cols.length:=by simp [marks]
theorem Mw{t:EF}{al:Int}{A:W->Bool}(l:J6 Tryz.prog TB 120 175 t al A)(cols:List W)(w:W)(n:cols.length<=4194304)(m:w.length<=4194305)(hb:∀x∈cols,x.length<=4194304) :
 Pure Tryz.prog TB 124 [EE t,BO cols,eT w] (eT (marks A cols w)):=by
 refine eN Tryz.func124 rfl (by kernel_rfl) rfl ?_;intro Z a;(repeat first|refine tA rfl ?_ |refine aU rfl ?_ |refine Aa ?_);refine aB ?_;refine aL (α:={k:Nat // k<=cols.length}) [1,2,3] [] rfl rfl (λ⟨k,hk⟩=>[(7,eT (marks A (cols.take k) w)),(8,eI .i64 k)]) (λ⟨k,hk⟩=>[]) 0 (λ⟨k,hk⟩=>cols.length - k) (⟨0,by omega⟩) a rfl (by (simp[cX,zC,a]<;>rfl)) ?_;rintro⟨k,hk⟩;(try dsimp only[cA,cB])
 have j:(marks A (cols.take k) w).length<=4194304:=by rw [Zx,oO];omega
 by_cases e:k < cols.length
 ·obtain⟨x,d⟩:=get_some e
  have h:=get_map (g:=CN) d;have f:=hb x (co d);have i:=l.ask (w++x) (by simp;omega);have b:=Wv (A:=A) (w:=w) d;(repeat first|refine sN rfl ?_ |refine tA rfl ?_ |refine s2 rfl λ_ c=>?_ |refine aU rfl ?_ |refine Aa ?_);(refine aC rfl ?_ ?_<;>rintro⟨⟩)
  ·refine aK ?_
   refine aS (aB ?_);(repeat first|(refine sA rfl ?_ ?_;first|exact tI|omega) |(refine s4 rfl ‹_› rfl ?_ ?_;omega) |(refine sC rfl (i) ?_;intro _ c) |refine aU rfl ?_ |refine Aa ?_ |refine rE (by kernel_rfl) ?_);(refine aC rfl ?_ ?_<;>rintro⟨⟩)
   ·rw [c] at b
    (repeat first|(refine sA rfl ?_ ?_;first|exact tI|omega|simp only[oZ] at *;omega) |refine aU rfl ?_ |refine Aa ?_);refine⟨⟨k+1,by omega⟩,by dsimp only;(omega),[],?_⟩;simp[cX,zC,a,b,QR]
   ·rw [c] at b
    (repeat first|(refine sA rfl ?_ ?_;first|exact tI|omega|simp only[oZ] at *;omega) |refine aU rfl ?_ |refine Aa ?_);refine⟨⟨k+1,by omega⟩,by dsimp only;(omega),[],?_⟩;simp[cX,zC,a,b,QR]
  ·exfalso;(simp only[oZ] at *;omega)
 ·obtain rfl:k=cols.length:=by omega
  rw [io];(repeat first|refine sN rfl ?_ |refine tA rfl ?_ |refine s2 rfl λ_ c=>?_ |refine aU rfl ?_ |refine Aa ?_);(refine aC rfl ?_ ?_<;>rintro⟨⟩)
  ·exfalso;(simp only[oZ] at *;omega)
  ·(repeat' first|refine tA rfl ?_ |refine aU rfl ?_ |refine Aa ?_|(refine aC rfl ?_ ?_<;>rintro⟨⟩)|refine aK ?_|refine aE ?_|refine aB ?_|refine aR ⟨_,rfl,?_⟩)
   rfl
theorem Ry{n:Nat}:List.replicate n (AD 0)=(MG n λ_=>0).map AD:=by
 apply oy;intro i;by_cases h:i < n
 ·simp [h]
 ·rw [nj (by simp;omega),nj (by simp;omega)]
theorem WU{n:Nat}:(List.replicate n (AD 0)).set 0 (AD 1)=(MG n IC).map AD:=by
 rw [Ry];have:=Sv (n:=n) (x:=0) (v:=1) (G:=λ_=>0)
 have e:WX (λ_=>0) 0 1=IC:=by funext p;rfl
 rw [e] at this;exact this
theorem Wk{t:CK}(ht:Bc t=true):Pure Tryz.prog TB 181 [PZ t] (Ak (MG t.q.nx.length (Cu t))):=by
 have g:=AH (Cw ht);have c:=OW (TB:=TB) ht (LX ht);rw [show RP t IC=Cu t from rfl] at c;have b:=WU (n:=t.q.nx.length)
 have f:(List.replicate t.q.nx.length (AD 0))[0+(0:Int).toNat]? = some (AD 0):=by rw [List.getElem?_replicate,if_pos];simp;omega
 refine eG Tryz.func181 rfl (by kernel_rfl) rfl ?_;intro Z a;(repeat first|refine sN rfl ?_ |refine tA rfl ?_ |refine aU rfl ?_ |refine Aa ?_);(refine pW rfl ?_ rfl (by rfl);refine Kt rfl rfl (by rfl) (by rfl) (am rfl) (by omega) (by omega) (by omega) ?_);(repeat first|(refine sA rfl ?_ ?_;first|exact tI|omega) |refine t4 rfl ‹_› rfl ?_ |refine aU rfl ?_ |refine Aa ?_);(refine pW rfl ?_ rfl (by rfl);refine Ai [0] rfl rfl (c) ⟨rfl,by decide,by decide⟩ rfl (by simp[cX,zC,a,b]) ?_;rintro h d e ⟨rfl,rfl,rfl⟩ _);(repeat first|refine tA rfl ?_);refine Aa ?_;refine Aj.Ay [] [] rfl rfl [(2,.o (.arr 0 1 0 t.q.nx.length))] [(0,.cells 3 1 ((MG t.q.nx.length (Cu t)).map AD))] [0] (rl a rfl) (by (simp[cX,zC,a,b])) ?_;(try dsimp only[cA,cB]);refine Aj.settle [(2,Ak (MG t.q.nx.length (Cu t)))] ⟨⟨_,rfl,.o (.full rfl (by simp [d5]) (by simp))⟩,trivial⟩ ?_;refine aR ⟨_,rfl,rfl⟩
theorem bM{t:CK}(ht:Bc t=true){F:PS}:Pure Tryz.prog TB 182 [PZ t,Ak (MG t.q.nx.length F)] (eB (GV t F)):=by
 have p:=AH (Cw ht)
 have n:(MG t.q.nx.length F).length=t.q.nx.length:=by simp
 have d:GV t F=Hx t F t.q.nx.length:=rfl;refine eG Tryz.func182 rfl (by kernel_rfl) rfl ?_;intro Z a;(repeat first|refine tA rfl ?_ |refine aU rfl ?_ |refine Aa ?_);refine aB ?_;refine aL (α:={k:Nat // k<=t.q.nx.length/\Hx t F k=false}) [1,2] [] rfl rfl (λ⟨k,hk,hb⟩=>[(5,eI .i64 k)]) (λ⟨k,hk,hb⟩=>[]) 0 (λ⟨k,hk,hb⟩=>t.q.nx.length - k) (⟨0,by omega,rfl⟩) a rfl (by (simp[cX,zC,a])) ?_;rintro⟨k,hk,hb⟩;(try dsimp only[cA,cB]);by_cases h:k < t.q.nx.length
 ·have s:((MG t.q.nx.length F).map Bq)[((k:Nat):Int).toNat]? = some (Bq (F k:Int)):=by rw [i7];simp [h]
  obtain⟨b,f⟩:=get_some (l:=t.q.ac) (k:=((k:Nat):Int).toNat) (by omega);have o:=get_map (g:=IQ) f
  have i:t.q.ac.getD k false=b:=by rw [i7] at f;simp [List.getD,f]
  have j:=Ka (t:=t) (F:=F) (k:=k);rw [i,hb] at j;(repeat first|refine sN rfl ?_ |refine tA rfl ?_ |refine s2 rfl λ_ c=>?_ |refine aU rfl ?_ |refine Aa ?_)
  ((refine aC rfl ?_ ?_<;>rintro⟨⟩);all_goals try(exfalso;(simp only[oZ] at *;omega)))
  refine aK ?_;refine aS (aB ?_)
  (repeat' first|refine tA rfl ?_ |(refine s4 rfl ‹_› rfl ?_ ?_;omega) |refine s2 rfl λ_ c=>?_ |refine s3 rfl ?_ ?_<;>rintro rfl |refine aU rfl ?_ |refine Aa ?_|(refine aC rfl ?_ ?_<;>rintro⟨⟩));all_goals try contradiction
  ·have m:GV t F=true:=by
    have u:=of_decide_eq_true ‹decide ((F k:Int)≠0)=true›
    have r:F k≠0:=by omega
    rw [d];unfold Hx;exact o9.2 ⟨k,nk.2 h,by rw [i,c];simp [r]⟩
   rw [m];(subst_vars;exact aR ⟨_,rfl,rfl⟩)
  ·have e:Hx t F (k+1)=false:=by rw [j];simp_all
   refine aK ?_;(repeat first|(refine sA rfl ?_ ?_;first|exact tI|omega) |refine aU rfl ?_ |refine Aa ?_);refine⟨⟨k+1,by omega,e⟩,by dsimp only;(omega),[],?_⟩;simp[cX,zC,a]
  ·have e:Hx t F (k+1)=false:=by rw [j];simp at c;simp;omega
   refine aK ?_;(repeat first|(refine sA rfl ?_ ?_;first|exact tI|omega) |refine aU rfl ?_ |refine Aa ?_);refine⟨⟨k+1,by omega,e⟩,by dsimp only;(omega),[],?_⟩;simp[cX,zC,a]
 ·obtain rfl:k=t.q.nx.length:=by omega
  rw [d,hb];(repeat first|refine sN rfl ?_ |refine tA rfl ?_ |refine s2 rfl λ_ c=>?_ |refine aU rfl ?_ |refine Aa ?_)
  ((refine aC rfl ?_ ?_<;>rintro⟨⟩);all_goals try(exfalso;(simp only[oZ] at *;omega)))
  refine aE ?_;(repeat first|refine tA rfl ?_ |refine aU rfl ?_ |refine Aa ?_);(subst_vars;exact aR ⟨_,rfl,rfl⟩)
theorem eZ{t:CK}{l:Int}{F:PS}{k x:Nat}(h:CA t.q k l=(x:Int)):Ea t l F (k+1)=WX (Ea t l F k) x (Ea t l F k x ||| Dh t.s l (F k)):=by
 rw [Jv];funext p;unfold WX;rw [h];by_cases e:p=x
 ·subst e;simp
 ·rw [if_neg e,if_neg (by omega)]
theorem Zq{t:CK}(ht:Bc t=true){F:PS}(w:CZ t F){l:Int}(m:0<=l/\l < 6):Pure Tryz.prog TB 183 [PZ t,Ak (MG t.q.nx.length F),eI .i64 l] (Ak (MG t.q.nx.length (Eb t l F))):=by
 have K:AU t.s=true:=by unfold Bc at ht;simp only [d4] at ht;exact ht.1
 have e:=Cw ht;have N:=AH e;have u:=OW (TB:=TB) ht (Ks ht m w);rw [show RP t (Vo t l F)=Eb t l F from rfl] at u
 have L:(MG t.q.nx.length F).length=t.q.nx.length:=by simp
 have P:List.replicate t.q.nx.length (AD 0)=(MG t.q.nx.length (Ea t l F 0)).map AD:=Ry;have y:[zC (Value.int IntKind.i64 0)]=AD 0:=rfl;have r:=C0 (TB:=TB) t.s.al l m.1 (by omega);refine eG Tryz.func183 rfl (by kernel_rfl) rfl ?_;intro Z c;(repeat first|refine sN rfl ?_ |refine tA rfl ?_ |refine aU rfl ?_ |refine Aa ?_);(refine pW rfl ?_ rfl (by rfl);refine Kt rfl rfl (by rfl) (by rfl) (am rfl) (by omega) (by omega) (by omega) ?_);(repeat first|refine tA rfl ?_ |refine aU rfl ?_ |refine Aa ?_);refine aB ?_;refine aL (α:={k:Nat // k<=t.q.nx.length}) [1,2,3] [] rfl rfl (λs=>[(7,.o (.arr 0 1 0 t.q.nx.length)),(8,eI .i64 s.1)]) (λs=>[(0,.cells 3 1 ((MG t.q.nx.length (Ea t l F s.1)).map AD))]) 1 (λs=>t.q.nx.length - s.1) (⟨0,by omega⟩) c rfl (by (simp[cX,zC,c,P,y])) ?_;rintro⟨k,hk⟩;(try dsimp only[cA,cB]);by_cases i:k < t.q.nx.length
 ·have S:((MG t.q.nx.length F).map Bq)[((k:Nat):Int).toNat]? = some (Bq (F k:Int)):=by rw [i7];simp [i]
  have j:=Jt (TB:=TB) t.q e k i l m.1 m.2;have A:=Dl e i m.1 m.2
  obtain⟨x,B⟩:∃x:Nat,CA t.q k l=x:=⟨(CA t.q k l).toNat,by omega⟩
  have z:=eZ (F:=F) B;rw [B] at j A;have p:=QL (TB:=TB) K l (w.lt k);have R:=Su (n:=t.q.nx.length) (G:=Ea t l F k) (x:=x) (by omega);have M:=XP ht (l:=l) w k x;have J:=Jf ht (l:=l) (w.lt k);have h:=N5 (a:=Ea t l F k x) (b:=Dh t.s l (F k)) (by omega) (by omega);have d:=Sv (n:=t.q.nx.length) (x:=x) (v:=Ea t l F k x ||| Dh t.s l (F k)) (G:=Ea t l F k);rw [<-z] at d;(repeat first|refine sN rfl ?_ |refine tA rfl ?_ |refine s2 rfl λ_ f=>?_ |refine aU rfl ?_ |refine Aa ?_)
  ((refine aC rfl ?_ ?_<;>rintro⟨⟩);all_goals try(exfalso;(simp only[oZ] at *;omega)))
  refine aK ?_;refine aS (aB ?_);(repeat first|refine tA rfl ?_ |(refine s4 rfl ‹_› rfl ?_ ?_;omega) |(refine sC rfl (r) ?_;intro _ f) |refine aU rfl ?_ |refine Aa ?_);(refine aC rfl ?_ ?_<;>rintro⟨⟩)
  ·have g:Dh t.s l (F k)=Cn t.s.es l (F k):=by unfold Dh;rw [if_pos f]
   rw [<-g] at p;(repeat first|(refine sA rfl ?_ ?_;first|exact tI|omega) |refine t4 rfl ‹_› rfl ?_ |refine sP rfl (p) rfl ?_|refine sP rfl (j) rfl ?_ |refine aU rfl ?_ |refine Aa ?_);refine⟨⟨k+1,by omega⟩,by dsimp only;(omega),[0],?_⟩
   simp[cX,zC,c,h];simpa [d5] using d
  ·have g:Dh t.s l (F k)=F k:=by unfold Dh;rw [if_neg (by simp [f])]
   rw [g] at h d;refine aK ?_;(repeat first|(refine sA rfl ?_ ?_;first|exact tI|omega) |refine t4 rfl ‹_› rfl ?_ |refine sP rfl (j) rfl ?_ |refine aU rfl ?_ |refine Aa ?_);refine⟨⟨k+1,by omega⟩,by dsimp only;(omega),[0],?_⟩
   simp[cX,zC,c,h];simpa [d5] using d
 ·obtain rfl:k=t.q.nx.length:=by omega
  rw [show Ea t l F t.q.nx.length=Vo t l F from rfl];(repeat first|refine sN rfl ?_ |refine tA rfl ?_ |refine s2 rfl λ_ f=>?_ |refine aU rfl ?_ |refine Aa ?_)
  ((refine aC rfl ?_ ?_<;>rintro⟨⟩);all_goals try(exfalso;(simp only[oZ] at *;omega)))
  refine aE ?_;(repeat first|refine tA rfl ?_ |refine aU rfl ?_);(refine pW rfl ?_ rfl (by rfl);refine Ai [0] rfl rfl (u) ⟨rfl,by decide,by decide⟩ rfl (by simp[cX,zC,c]) ?_;rintro Q H I ⟨rfl,rfl,rfl⟩ _);(repeat first|refine tA rfl ?_);refine Aa ?_;refine Aj.Ay [] [] rfl rfl [(6,.o (.arr 0 1 0 t.q.nx.length))] [(0,.cells 3 1 ((MG t.q.nx.length (Eb t l F)).map AD))] [0] (rl c rfl) (by (simp[cX,zC,c])) ?_;(try dsimp only[cA,cB]);refine Aj.settle [(6,Ak (MG t.q.nx.length (Eb t l F)))] ⟨⟨_,rfl,.o (.full rfl (by simp [d5]) (by simp))⟩,trivial⟩ ?_;refine aR ⟨_,rfl,rfl⟩
theorem HQ(t:CK):Pure Tryz.prog TB 174 [PZ t] (eB (Bc t)):=by
 unfold Bc;refine eN Tryz.func174 rfl (by kernel_rfl) rfl ?_;intro Z b;(repeat' first|refine tA rfl ?_ |(refine sC rfl (BZ t.s) ?_;intro _ a)|(refine sC rfl (Bk t.q) ?_;intro _ a)|(refine sC rfl (Dj t.al) ?_;intro _ a) |refine s3 rfl ?_ ?_<;>rintro rfl |refine aU rfl ?_ |refine Aa ?_|(refine aC rfl ?_ ?_<;>rintro⟨⟩)|refine aK ?_|refine aE ?_|refine aB ?_|refine aR ⟨_,rfl,?_⟩)
 all_goals (show E.o _=E.o _;simp_all)
noncomputable def J5(t:CK)(w:W):Bool:=Bc t && (within w t.al && LS t w)
theorem Xg{w:W}{al:Int}(h:within w al=true):∀c∈w,0<=(c.toNat:Int) - 97/\(c.toNat:Int) - 97 < 6:=λc a=>Ij (Ex h c a)
theorem Nu(t:CK)(w:W)(A:w.length<=1099511627776):Pure Tryz.prog TB 129 [PZ t,eT w] (eB (J5 t w)):=by
 have n:=HQ (TB:=TB) t;have m:=Ef (TB:=TB) w t.al A;by_cases h:(Bc t && within w t.al)=true
 ·have ht:Bc t=true:=by revert h;cases Bc t<;>simp
  have g:within w t.al=true:=by revert h;cases within w t.al<;>simp
  have z:=Xg g
  have y:J5 t w=LS t w:=by unfold J5;rw [ht,g];rfl
  rw [y];rw [ht] at n;rw [g] at m;have j:=Wk (TB:=TB) ht;refine eG Tryz.func129 rfl (by kernel_rfl) rfl ?_;intro Z d
  (repeat' first|refine tA rfl ?_ |refine s2 rfl λ_ a=>?_ |refine sP rfl (n) rfl ?_|refine sP rfl (m) rfl ?_|refine sP rfl (j) rfl ?_ |refine s3 rfl ?_ ?_<;>rintro rfl |refine aU rfl ?_ |refine Aa ?_|(refine aC rfl ?_ ?_<;>rintro⟨⟩));all_goals try contradiction
  refine aK ?_;(repeat first|refine tA rfl ?_ |refine sP rfl (j) rfl ?_ |refine aU rfl ?_ |refine Aa ?_);refine aB ?_;refine aL (α:={x:Nat×PS // x.1<=w.length/\CZ t x.2/\HO t x.2 (w.drop x.1)=LS t w}) [1,2] [] rfl rfl (λs=>[(5,Ak (MG t.q.nx.length s.1.2)),(6,eI .i64 s.1.1)]) (λs=>[]) 0 (λs=>w.length - s.1.1) (⟨⟨0,Cu t⟩,by simp,Gq ht,rfl⟩) d rfl (by (simp[cX,zC,d])) ?_;rintro⟨⟨i,F⟩,hi,l,e⟩;(try dsimp only[cA,cB]);have hi:i<=w.length:=hi;have l:CZ t F:=l;have e:HO t F (w.drop i)=LS t w:=e;have f:=bM (TB:=TB) ht (F:=F);by_cases p:i < w.length
  ·obtain⟨c,v⟩:=get_some p
   have u:w[((i:Nat):Int).toNat]? = some c:=by simpa using v
   have k:=z c (co v);have r:=Ih (TB:=TB) w i c u;have o:=Zq (TB:=TB) ht l k;have hno:=Ll ht k l;rw [BA v,HO] at e;generalize GV t F=b at *
   (repeat' first|refine tA rfl ?_ |refine s2 rfl λ_ a=>?_ |refine sP rfl (f) rfl ?_ |refine s3 rfl ?_ ?_<;>rintro rfl |refine aU rfl ?_ |refine Aa ?_|(refine aC rfl ?_ ?_<;>rintro⟨⟩));all_goals try contradiction
   all_goals first| (exfalso;(simp only[oZ] at *;omega);done)|skip
   ·have hb:b=false:=by simpa using a
    subst hb;refine aK ?_;refine aS (aB ?_);refine rG (Gj []) (by kernel_rfl) ?_;(repeat first|(refine sA rfl ?_ ?_;first|exact tI|omega) |refine sP rfl (r) rfl ?_|refine sP rfl (o) rfl ?_ |refine aU rfl ?_ |refine Aa ?_);refine⟨⟨⟨i+1,Eb t ((c.toNat:Int) - 97) F⟩,by omega,hno,by simpa using e⟩,by dsimp only;(omega),[],?_⟩;simp[cX,zC,d]
   ·have hb:b=true:=by simpa using a
    subst hb
    have e:LS t w=false:=by simpa using e.symm
    rw [e];refine aE ?_;(repeat first|refine tA rfl ?_ |refine s2 rfl λ_ a=>?_ |refine sP rfl (f) rfl ?_ |refine aU rfl ?_ |refine Aa ?_);(subst_vars;exact aR ⟨_,rfl,rfl⟩)
  ·obtain rfl:i=w.length:=by omega
   rw [pB,HO] at e;rw [<-e]
   (repeat' first|refine tA rfl ?_ |refine s2 rfl λ_ a=>?_ |refine sP rfl (f) rfl ?_ |refine s3 rfl ?_ ?_<;>rintro rfl |refine aU rfl ?_ |refine Aa ?_|(refine aC rfl ?_ ?_<;>rintro⟨⟩));all_goals try contradiction
   all_goals first| (exfalso;(simp only[oZ] at *;omega);done)|skip
   refine aE ?_;(repeat first|refine tA rfl ?_ |refine s2 rfl λ_ a=>?_ |refine sP rfl (f) rfl ?_ |refine aU rfl ?_ |refine Aa ?_);(subst_vars;exact aR ⟨_,rfl,rfl⟩)
 ·have y:J5 t w=false:=by unfold J5;revert h;cases Bc t<;>cases within w t.al<;>simp
  rw [y];refine eG Tryz.func129 rfl (by kernel_rfl) rfl ?_;intro Z d
  (repeat' first|refine tA rfl ?_ |refine s2 rfl λ_ a=>?_ |(refine sC rfl (n) ?_;intro _ a)|(refine sC rfl (m) ?_;intro _ a) |refine s3 rfl ?_ ?_<;>rintro rfl |refine aU rfl ?_ |refine Aa ?_|(refine aC rfl ?_ ?_<;>rintro⟨⟩));all_goals try contradiction
  all_goals first
   | (subst_vars;exact aR ⟨_,rfl,rfl⟩)
   | (exfalso;simp_all;done)
theorem NR(t:EF)(hk:t.kn=false):Pure Tryz.prog TB 120 [EE t] (eI .i64 (if Bc ⟨t.s,t.q,t.al⟩ then t.al else -1)):=by
 obtain⟨kn,p,s,q,al⟩:=t;dsimp only at hk;subst hk;have c:=HQ (TB:=TB) ⟨s,q,al⟩;refine eN Tryz.func120 rfl (by kernel_rfl) rfl ?_;intro Z b;(repeat' first|refine tA rfl ?_ |refine s2 rfl λ_ a=>?_ |(refine sC rfl (c) ?_;intro _ a) |refine s3 rfl ?_ ?_<;>rintro rfl |refine aU rfl ?_ |refine Aa ?_|(refine aC rfl ?_ ?_<;>rintro⟨⟩)|refine aK ?_|refine aE ?_|refine aB ?_|refine aR ⟨_,rfl,?_⟩)
 all_goals first
  | (show E.o _=E.o _;congr;grind)
  | (exfalso;simp at *;done)
theorem Oq(t:EF)(hk:t.kn=false)(w:W)(b:w.length<=1099511627776):Pure Tryz.prog TB 175 [EE t,eT w] (eB (J5 ⟨t.s,t.q,t.al⟩ w)):=by
 obtain⟨kn,p,s,q,al⟩:=t;dsimp only at hk;subst hk;have c:=Nu (TB:=TB) ⟨s,q,al⟩ w b;refine eN Tryz.func175 rfl (by kernel_rfl) rfl ?_;intro Z a;(repeat' first|refine tA rfl ?_ |refine sP rfl (c) rfl ?_ |refine aU rfl ?_ |refine Aa ?_|(refine aC rfl ?_ ?_<;>rintro⟨⟩)|refine aK ?_|refine aE ?_|refine aB ?_|refine aR ⟨_,rfl,?_⟩)
 all_goals rfl
theorem gU{t:EF}(hk:t.kn=false):J6 Tryz.prog TB 120 175 t (if Bc ⟨t.s,t.q,t.al⟩ then t.al else -1) (J5 ⟨t.s,t.q,t.al⟩):=⟨NR t hk,Oq t hk⟩
theorem Sd(w:W)(i:Nat)(c:UInt8)(b:w[((i:Nat):Int).toNat]? = some c):Pure Tryz.prog TB 104 [eT w,eI .i64 i] (eI .i64 (if Gc c then (c.toNat:Int) - 97 else -1)):=by
 by_cases h:Gc c=true
 ·rw [if_pos h]
  rw [FA,decide_eq_true_eq] at h;exact Hb w i c b h
 ·rw [if_neg h]
  rw [FA,decide_eq_true_eq] at h;have hb:=c.toNat_lt;refine eN Tryz.func104 rfl (by kernel_rfl) rfl ?_;intro Z a;(repeat' first|(refine sA rfl ?_ ?_;first|exact tI|omega) |(refine s4 rfl ‹_› rfl ?_ ?_;omega) |refine s2 rfl λ_ d=>?_ |refine s3 rfl ?_ ?_<;>rintro rfl |refine aU rfl ?_ |refine Aa ?_|(refine aC rfl ?_ ?_<;>rintro⟨⟩)|refine aK ?_|refine aE ?_|refine aB ?_|refine aR ⟨_,rfl,?_⟩)
  all_goals first
   | rfl
   | (exfalso;grind)
theorem TU(al:Int)(c:UInt8):hasB al (if Gc c then (c.toNat:Int) - 97 else -1)=Ig al c:=by
 unfold Ig hasB;by_cases h:Gc c=true
 ·rw [if_pos h,h]
  rw [FA,decide_eq_true_eq] at h
  have e:((c.toNat:Int) - 97).toNat=c.toNat - 97:=by omega
  rw [e];simp;omega
 ·rw [if_neg h]
  simp [h]
theorem Mt(t:CK):Pure Tryz.prog TB 152 [PZ t] (eB (Bc t)):=by
 unfold Bc;refine eN Tryz.func152 rfl (by kernel_rfl) rfl ?_;intro Z b;(repeat' first|refine tA rfl ?_ |(refine sC rfl (BY t.s) ?_;intro _ a)|(refine sC rfl (Bj t.q) ?_;intro _ a)|(refine sC rfl (Hk t.al) ?_;intro _ a) |refine s3 rfl ?_ ?_<;>rintro rfl |refine aU rfl ?_ |refine Aa ?_|(refine aC rfl ?_ ?_<;>rintro⟨⟩)|refine aK ?_|refine aE ?_|refine aB ?_|refine aR ⟨_,rfl,?_⟩)
 all_goals (show E.o _=E.o _;simp_all)
abbrev mA(p:AZ)(t:CK):E:=mz false p t.s t.q t.al
theorem PD(p:AZ)(t:CK):Pure Tryz.prog TB 102 [mA p t] (eI .i64 (if Bc t then t.al else -1)):=by
 have c:=Mt (TB:=TB) t;refine eN Tryz.func102 rfl (by kernel_rfl) rfl ?_;intro Z b;(repeat' first|refine tA rfl ?_ |refine s2 rfl λ_ a=>?_ |(refine sC rfl (c) ?_;intro _ a) |refine s3 rfl ?_ ?_<;>rintro rfl |refine aU rfl ?_ |refine Aa ?_|(refine aC rfl ?_ ?_<;>rintro⟨⟩)|refine aK ?_|refine aE ?_|refine aB ?_|refine aR ⟨_,rfl,?_⟩)
 all_goals first
  | (show E.o _=E.o _;congr;grind)
  | (exfalso;simp at *;done)
abbrev Nt(c:C):C:=.mv 106 [c]
theorem Qh[Dt TB](p:AZ){t:CK}(ht:Bc t=true)(ok:W->Prop):∃m,MX t ok m/\AR Tryz.prog TB 59 0 [] 0 [mA p t] (λx σ nx=>x=.t [(true,[.d (iD t.al),Nt (.ptr 0 14 0 0)]),(false,[.d (bD true)])]/\σ=NQ t m/\nx=5):=by
 obtain⟨m,j,e⟩:=Sn (TB:=TB) ht ok;refine⟨m,j,?_⟩;have f:=PD (TB:=TB) p t;rw [if_pos ht] at f
 have b:A7 t.al=true:=by unfold Bc at ht;simp only [d4] at ht;exact ht.2.2
 unfold A7 at b;simp only [decide_eq_true_eq] at b;refine AR.Be (AR.QY (m:=0) (am rfl) Tryz.func59 rfl (by kernel_rfl) (am rfl) ?_);intro Z a;(repeat first|refine tA rfl ?_ |refine sP rfl (f) rfl ?_ |refine aU rfl ?_ |refine Aa ?_);refine aB ?_;(repeat first|refine tA rfl ?_ |refine s2 rfl λ_ c=>?_ |refine aU rfl ?_ |refine Aa ?_)
 ((refine aC rfl ?_ ?_<;>rintro⟨⟩);all_goals try (simp at c;done))
 ·exfalso;(simp only[oZ] at *;omega)
 ·(repeat first|refine tA rfl ?_ |refine aU rfl ?_ |refine Aa ?_)
  ((refine aC rfl ?_ ?_<;>rintro⟨⟩);all_goals try (simp at c;done))
  refine aK ?_;(repeat first|refine tA rfl ?_ |refine aU rfl ?_);(refine pW rfl ?_ rfl (by rfl);refine Ci [] rfl rfl 0 (e) (by decide) ⟨rfl,by decide,by decide⟩ rfl (by simp[cX,zC,a,A3]) ?_;rintro k g h ⟨rfl,rfl,rfl⟩ _);(repeat first| (refine Ag rfl ?_;refine gA rfl ?_;first| refine gS (λ_ _=>lV rfl) ?_));(repeat first|refine tA rfl ?_|(refine Ag rfl ?_;refine gA rfl ?_;first| refine gS (λ_ _=>AF rfl rfl (by rfl) (by rfl)) ?_));refine Aa ?_;refine aR ⟨_,rfl,[1,2,3,4,5],.t [(true,[.d (iD t.al),Nt (.ptr 0 14 0 0)]),(false,[.d (bD true)])],NQ t m,⟨by intro i hi;omega,by decide⟩,rfl,by (simp[cX,zC,a,A3]),rfl,rfl,rfl⟩
def CT(te:EF):Bool:=if te.kn then AP te.p else Bc ⟨te.s,te.q,te.al⟩
def Bb(te:EF):Int:=if te.kn then te.p.al else te.al
noncomputable def CD(te:EF)(w:W):Bool:=if te.kn then LA te.p w else LS ⟨te.s,te.q,te.al⟩ w
def SU(te:EF)(ok:W->Prop):Prop:=te.kn=false->jn ⟨te.s,te.q,te.al⟩ ok
abbrev jt(al:Int):W->Prop:=λw=>AT (A6 al) w/\w.length<=1048576
theorem lE{tabs:List (Nat×Obj)}[Dt ⟨tabs,none⟩]{t:CK}{ok:W->Prop}(ht:Bc t=true)(a:∀w,ok w->jt t.al w)(b:jn t ok){r:Nat}:JK Tryz.prog ⟨tabs,some (PC t ok,r)⟩ (Nt (Pe r)) (LS t) ok:=
 ⟨rfl,λe ha d=>cG (es:=[eT _]) e (by simp [JP,ha]) rfl (dp ht b d (λc f=>Ij ((a _ d).1 c f)) (a _ d).2) rfl⟩
theorem kQ{tabs:List (Nat×Obj)}{h:Option (Hid×Nat)}{b:Nat}{vals:List Value}(a:Mb ⟨tabs,none⟩ b vals):Mb ⟨tabs,h⟩ b vals:=⟨a.out⟩
theorem jd{tabs:List (Nat×Obj)}{h:Option (Hid×Nat)}(a:Dt ⟨tabs,none⟩):Dt ⟨tabs,h⟩:=by
 cases a
 constructor<;>(apply kQ;assumption)
end Go.Am
