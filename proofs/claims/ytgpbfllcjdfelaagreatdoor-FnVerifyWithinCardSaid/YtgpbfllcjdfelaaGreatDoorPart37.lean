/-
  Systems drawn; two systems and a property drawn: walked.
-/
import Derived.Test.YtgpbfllcjdfelaaGreatDoorPart35
set_option linter.all false
namespace Go.Am
open Go Go.Proofs
set_option maxHeartbeats 1000000
set_option maxRecDepth 4000
attribute [local irreducible] AW BQ Lex A9 Aj Spec
variable {TB:Bp}
def UU:List W:=[[97,98,32,50,32,48,97,49,32,49,98,48],[97,98,99,32,51,32,48,97,49,32,49,98,50,32,50,99,48],[97,98,32,51,32,48,97,48,32,48,97,49,32,48,98,48,32,49,98,50,32,50,97,50],[98,99,32,50,32,48,98,49,32,49,99,48],[98,99,32,51,32,48,98,49,32,48,99,48,32,49,99,50,32,50,98,50,32,50,99,50],[45,32,49],[97,32,49,32,48,97,48],[97,99,32,52,32,48,97,49,32,48,97,50,32,49,99,51,32,50,97,50,32,51,97,48,32,51,99,51],[97,98,99,32,52,32,48,97,48,32,48,98,49,32,49,98,50,32,49,99,48,32,50,99,51,32,51,97,49],[97,98,32,53,32,48,97,48,32,48,97,49,32,48,98,48,32,49,97,50,32,49,98,50,32,50,97,51,32,50,98,51,32,51,97,52,32,51,98,52],[97,98,100,32,51,32,48,97,49,32,48,100,48,32,49,98,48,32,49,100,50]]
theorem Yx:∀w∈UU,w.length<=60:=by decide
theorem Ul:Pure Tryz.prog TB 285 [] (EI UU):=by
 refine eN Tryz.func285 rfl (by kernel_rfl) rfl ?_;intro Z a;(repeat first|refine tA rfl ?_ |refine aU rfl ?_ |refine Aa ?_);refine aR ⟨_,rfl,rfl⟩
theorem PE(b:List UInt8)(hb:b.length<=2000)(p:Int)(N:0<=p/\p < 700000000):Spec Tryz.prog TB 254 [(0,A0 b p)] 1 [.o (.ptr 0 2 0 0)] (JX b p 410 (λs=>s.es.length<=400)):=by
 obtain⟨c,Q,P,I⟩:=A3 (TB:=TB) b hb p 3 (by omega);obtain⟨w,H,J⟩:=eb (TB:=TB) b hb (p+1) (by omega) UU (by decide) (by decide);have G:=Yx w H;have z:=FM (TB:=TB) w (by omega);have g:∀q:Int,p<=q/\q<=p+2->∃(l j k:Int),(0<=j/\j<=8)/\Spec Tryz.prog TB 51 [(0,A0 b q)] 1 [.o (.ptr 0 2 0 0),Av [3,6,7,5,1,0,12]] (λx σ nx=>x=eI .i64 l/\σ=[(0,A0 b (q+1))]/\nx=1)/\
  Spec Tryz.prog TB 51 [(0,A0 b (q+1))] 1 [.o (.ptr 0 2 0 0),Av [3,2,4,1,5]] (λx σ nx=>x=eI .i64 j/\σ=[(0,A0 b (q+1+1))]/\nx=1)/\
  Spec Tryz.prog TB 51 [(0,A0 b (q+1+1))] 1 [.o (.ptr 0 2 0 0),Av [3,2,4,6]] (λx σ nx=>x=eI .i64 k/\σ=[(0,A0 b (q+1+1+1))]/\nx=1):=λq A=>by
  obtain⟨l,M,u⟩:=CB (TB:=TB) b hb q (by omega) [3,6,7,5,1,0,12] (by decide) (by decide);obtain⟨j,v,t⟩:=CB (TB:=TB) b hb (q+1) (by omega) [3,2,4,1,5] (by decide) (by decide);obtain⟨k,L,r⟩:=CB (TB:=TB) b hb (q+1+1) (by omega) [3,2,4,6] (by decide) (by decide);exact⟨l,j,k,by simp at v;omega,u,t,r⟩
 refine eR Tryz.func254 rfl (by kernel_rfl) rfl ?_;intro Z a;(repeat first|refine tA rfl ?_ |refine aU rfl ?_ |refine Aa ?_);(refine pW rfl ?_ rfl (by rfl);refine Ae [0] rfl rfl (I) ⟨rfl,by decide,by decide⟩ rfl (by simp[cX,zC,a,cN]) ?_;rintro h d e ⟨rfl,rfl,rfl⟩ _);(repeat first|refine s2 rfl λ_ K=>?_ |refine Aa ?_);(refine aC rfl ?_ ?_<;>rintro⟨⟩)
 ·(repeat first|refine tA rfl ?_ |refine sP rfl (Ul) rfl ?_ |refine aU rfl ?_)
  (refine pW rfl ?_ rfl (by rfl);refine Ae [0] rfl rfl (J) ⟨rfl,by decide,by decide⟩ rfl (by simp[cX,zC,a,cN]) ?_;rintro h d e ⟨rfl,rfl,rfl⟩ _);(refine pW rfl ?_ rfl (by rfl);refine Ae [] rfl rfl (z) ⟨rfl,by decide,by decide⟩ rfl trivial ?_;rintro h d e ⟨⟨y,ok⟩,F,rfl,rfl,rfl⟩ _);have B:y.es.length<=w.length+1:=F;(repeat first|refine tA rfl ?_ |refine aU rfl ?_ |refine Aa ?_);(refine aC rfl ?_ ?_<;>rintro⟨⟩)
  ·(repeat first|refine tA rfl ?_ |refine aU rfl ?_ |refine Aa ?_)
   exact aR ⟨_,rfl,[0],BN y,[(0,A0 b (p+1+1))],⟨by intro i hi;match i with|0=>rfl,by decide⟩,rfl,by (simp[cX,zC,a,cN]),p+1+1,y,by omega,by show y.es.length<=400;omega,rfl,rfl,rfl⟩
  refine aK ?_;obtain⟨l,j,k,v,u,t,r⟩:=g (p+1+1) (by omega);have f:=Iz (TB:=TB) b hb (p+1+1+1+1+1) (by omega) l j k (by omega);(repeat first|refine tA rfl ?_ |refine aU rfl ?_);(refine pW rfl ?_ rfl (by rfl);refine Ae [0] rfl rfl (u) ⟨rfl,by decide,by decide⟩ rfl (by simp[cX,zC,a,cN]) ?_;rintro h d e ⟨rfl,rfl,rfl⟩ _);(repeat first|refine tA rfl ?_);(refine pW rfl ?_ rfl (by rfl);refine Ae [0] rfl rfl (t) ⟨rfl,by decide,by decide⟩ rfl (by simp[cX,zC,a,cN]) ?_;rintro h d e ⟨rfl,rfl,rfl⟩ _);(repeat first|refine tA rfl ?_);(refine pW rfl ?_ rfl (by rfl);refine Ae [0] rfl rfl (r) ⟨rfl,by decide,by decide⟩ rfl (by simp[cX,zC,a,cN]) ?_;rintro h d e ⟨rfl,rfl,rfl⟩ _);(refine pW rfl ?_ rfl (by rfl);refine Cf [0] rfl rfl 1 (f) (by decide) ⟨rfl,by decide,by decide⟩ rfl (by simp[cX,zC,a,cN]) ?_;rintro h d e ⟨q,n,A,m,rfl,rfl,rfl⟩ _);(repeat first|refine tA rfl ?_ |refine Aa ?_);exact aR ⟨_,rfl,[0],BN n,[(0,A0 b q)],⟨by intro i hi;match i with|0=>rfl,by decide⟩,rfl,by (simp[cX,zC,a,cN]),q,n,by omega,m.2.2,rfl,rfl,rfl⟩
 refine aK ?_;obtain⟨l,j,k,v,u,t,r⟩:=g (p+1) (by omega);have f:=Iz (TB:=TB) b hb (p+1+1+1+1) (by omega) l j k (by omega);(repeat first|refine tA rfl ?_ |refine aU rfl ?_);(refine pW rfl ?_ rfl (by rfl);refine Ae [0] rfl rfl (u) ⟨rfl,by decide,by decide⟩ rfl (by simp[cX,zC,a,cN]) ?_;rintro h d e ⟨rfl,rfl,rfl⟩ _);(repeat first|refine tA rfl ?_);(refine pW rfl ?_ rfl (by rfl);refine Ae [0] rfl rfl (t) ⟨rfl,by decide,by decide⟩ rfl (by simp[cX,zC,a,cN]) ?_;rintro h d e ⟨rfl,rfl,rfl⟩ _);(repeat first|refine tA rfl ?_);(refine pW rfl ?_ rfl (by rfl);refine Ae [0] rfl rfl (r) ⟨rfl,by decide,by decide⟩ rfl (by simp[cX,zC,a,cN]) ?_;rintro h d e ⟨rfl,rfl,rfl⟩ _);(refine pW rfl ?_ rfl (by rfl);refine Cf [0] rfl rfl 1 (f) (by decide) ⟨rfl,by decide,by decide⟩ rfl (by simp[cX,zC,a,cN]) ?_;rintro h d e ⟨q,n,A,m,rfl,rfl,rfl⟩ _);(repeat first|refine tA rfl ?_ |refine Aa ?_);exact aR ⟨_,rfl,[0],BN n,[(0,A0 b q)],⟨by intro i hi;match i with|0=>rfl,by decide⟩,rfl,by (simp[cX,zC,a,cN]),q,n,by omega,m.2.2,rfl,rfl,rfl⟩
abbrev Jz(r:Sys×AX×Sys):E:=.t [(true,(AJ r.1).map .d),(true,(AM r.2.1).map .d),(true,(AJ r.2.2).map .d)]
structure gR (r:Sys×AX×Sys):Prop where
 a:r.1.es.length<=400
 b:GJ 41 r.2.1
 c:r.2.2.es.length<=400
def bR(b:List UInt8)(p m:Int)(x:E)(σ:Ab)(nx:Nat):Prop:=∃(p':Int) (r:Sys×AX×Sys),(p<=p'/\p'<=p+m)/\gR r/\x=Jz r/\σ=[(0,A0 b p')]/\nx=1
theorem GJ.upto{m n:Nat}{a:AX}(h:GJ m a)(c:m<=n):GJ n a:=⟨by have:=h.nx;omega,by have:=h.ac;omega,λr b=>by have:=h.row r b;omega⟩
theorem dY{C X:Int->Sys->Prop}{Y:Prop}(h:∀q s,C q s->X q s)(hk:(∀q s,C q s->X q s)->Y):Y:=hk h
theorem Uu(b:List UInt8)(hb:b.length<=2000)(p:Int)(T:0<=p/\p < 600000000):Spec Tryz.prog TB 194 [(0,A0 b p)] 1 [.o (.ptr 0 2 0 0)] (bR b p 2000):=by
 have S:=NV (TB:=TB) b hb p (by omega);refine eR Tryz.func194 rfl (by kernel_rfl) rfl ?_;intro Z a;(repeat first|refine tA rfl ?_ |refine aU rfl ?_ |refine Aa ?_);(refine pW rfl ?_ rfl (by rfl);refine Ae [0] rfl rfl (S) ⟨rfl,by decide,by decide⟩ rfl (by simp[cX,zC,a,cN]) ?_;rintro t e f ⟨K,H,N,z,rfl,rfl,rfl⟩ _);(repeat first|refine tA rfl ?_ |refine aU rfl ?_ |refine Aa ?_);have R:=NV (TB:=TB) b hb K (by omega);(refine pW rfl ?_ rfl (by rfl);refine Ae [0] rfl rfl (R) ⟨rfl,by decide,by decide⟩ rfl (by simp[cX,zC,a,cN]) ?_;rintro t e f ⟨x,w,M,y,rfl,rfl,rfl⟩ _);(repeat first|refine tA rfl ?_ |refine aU rfl ?_ |refine Aa ?_);obtain⟨c,c1,Y,P⟩:=A3 (TB:=TB) b hb x 4 (by omega);(refine pW rfl ?_ rfl (by rfl);refine Ae [0] rfl rfl (P) ⟨rfl,by decide,by decide⟩ rfl (by simp[cX,zC,a,cN]) ?_;rintro t e f ⟨rfl,rfl,rfl⟩ _);apply dY (C:=λq s=>(p<=q/\q<=p+1300)/\s.es.length<=400)
 case hk=>
  intro hk;(repeat first|refine s2 rfl λ_ G=>?_ |refine Aa ?_);(refine aC rfl ?_ ?_<;>rintro⟨⟩)
  ·(repeat first|refine tA rfl ?_ |refine aU rfl ?_)
   have F:=PE (TB:=TB) b hb (x+1) (by omega);(refine pW rfl ?_ rfl (by rfl);refine Ae [0] rfl rfl (F) ⟨rfl,by decide,by decide⟩ rfl (by simp[cX,zC,a,cN]) ?_;rintro t e f ⟨g,j,v,n,rfl,rfl,rfl⟩ _);(repeat first|refine tA rfl ?_);refine Aa ?_;refine Aj.AA [0] [] rfl rfl [(2,.o (.ptr 1 3 0 0)),(3,.o (.ptr 2 3 0 0)),(4,.o (.ptr 3 3 0 0)),(5,.o (.ptr 4 3 0 0)),(6,.o (.ptr 5 3 0 0))] [(0,A0 b g),(1,.cells 25 3 [[.d (iD 0),.d (iD 0),.d (.l [])]]),(2,.cells 29 3 [[.d (iD 0),.d (.l []),.d (.l [])]]),(3,.cells 25 3 [[.d (iD 0),.d (iD 0),.d (.l [])]]),(4,.cells 25 3 [(AJ j).map .d]),(5,.cells 25 3 [(AJ w).map .d])] [0,1,2,3,4,5] (rl a rfl) (by (simp[cX,zC,a,cN,Af,eC])) ?_;(try dsimp only[cA,cB]);exact hk g j ⟨by omega,n⟩
  ·refine aK ?_
   generalize v:x+1=g at *;refine Aj.AA [0] [] rfl rfl [(2,.o (.ptr 1 3 0 0)),(3,.o (.ptr 2 3 0 0)),(4,.o (.ptr 3 3 0 0)),(5,.o (.ptr 4 3 0 0)),(6,.o (.ptr 5 3 0 0))] [(0,A0 b g),(1,.cells 25 3 [[.d (iD 0),.d (iD 0),.d (.l [])]]),(2,.cells 29 3 [[.d (iD 0),.d (.l []),.d (.l [])]]),(3,.cells 25 3 [[.d (iD 0),.d (iD 0),.d (.l [])]]),(4,.cells 25 3 [(AJ H).map .d]),(5,.cells 25 3 [(AJ w).map .d])] [0,1,2,3,4,5] (rl a rfl) (by (simp[cX,zC,a,cN,Af,eC])) ?_;(try dsimp only[cA,cB]);exact hk g H ⟨by omega,z.2⟩
 case h =>
  intro g j ⟨v,n⟩;(repeat first|refine tA rfl ?_ |refine aU rfl ?_);obtain⟨X,V,U,A⟩:=A3 (TB:=TB) b hb g 4 (by omega);(refine pW rfl ?_ rfl (by rfl);refine Ae [0] rfl rfl (A) ⟨rfl,by decide,by decide⟩ rfl (by simp[cX,zC,a,cN]) ?_;rintro t e f ⟨rfl,rfl,rfl⟩ _);apply dY (C:=λq s=>(p<=q/\q<=p+1800)/\s.es.length<=400)
  case hk=>
   intro hk;(repeat first|refine s2 rfl λ_ G=>?_ |refine Aa ?_);(refine aC rfl ?_ ?_<;>rintro⟨⟩)
   ·(repeat first|refine tA rfl ?_ |refine aU rfl ?_)
    have F:=PE (TB:=TB) b hb (g+1) (by omega);(refine pW rfl ?_ rfl (by rfl);refine Ae [0] rfl rfl (F) ⟨rfl,by decide,by decide⟩ rfl (by simp[cX,zC,a,cN]) ?_;rintro t e f ⟨k,r,u,m,rfl,rfl,rfl⟩ _);(repeat first|refine tA rfl ?_);refine Aa ?_;refine Aj.AA [0] [] rfl rfl [(2,.o (.ptr 1 3 0 0)),(3,.o (.ptr 2 3 0 0)),(4,.o (.ptr 3 3 0 0)),(5,.o (.ptr 4 3 0 0)),(6,.o (.ptr 5 3 0 0))] [(0,A0 b k),(1,.cells 25 3 [[.d (iD 0),.d (iD 0),.d (.l [])]]),(2,.cells 29 3 [[.d (iD 0),.d (.l []),.d (.l [])]]),(3,.cells 25 3 [[.d (iD 0),.d (iD 0),.d (.l [])]]),(4,.cells 25 3 [(AJ j).map .d]),(5,.cells 25 3 [(AJ r).map .d])] [0,1,2,3,4,5] (rl a rfl) (by (simp[cX,zC,a,cN,Af,eC])) ?_;(try dsimp only[cA,cB]);exact hk k r ⟨by omega,m⟩
   ·refine aK ?_
    generalize u:g+1=k at *;refine Aj.AA [0] [] rfl rfl [(2,.o (.ptr 1 3 0 0)),(3,.o (.ptr 2 3 0 0)),(4,.o (.ptr 3 3 0 0)),(5,.o (.ptr 4 3 0 0)),(6,.o (.ptr 5 3 0 0))] [(0,A0 b k),(1,.cells 25 3 [[.d (iD 0),.d (iD 0),.d (.l [])]]),(2,.cells 29 3 [[.d (iD 0),.d (.l []),.d (.l [])]]),(3,.cells 25 3 [[.d (iD 0),.d (iD 0),.d (.l [])]]),(4,.cells 25 3 [(AJ j).map .d]),(5,.cells 25 3 [(AJ w).map .d])] [0,1,2,3,4,5] (rl a rfl) (by (simp[cX,zC,a,cN,Af,eC])) ?_;(try dsimp only[cA,cB]);exact hk k w ⟨by omega,y.2⟩
  case h=>
   intro k r ⟨u,m⟩;have Q:=Pa (TB:=TB) b hb k (by omega) (FV .i64 j.al r.al);(repeat first|refine aU rfl ?_);refine rG ⟨FU [(0,14),(3,14),(5,15),(7,1048),(8,15),(9,1032),(10,1032),(11,1)],Y7 [0,1,2,3,4,5,6,8,7,9,10,11]⟩ (by kernel_rfl) ?_;(repeat first|refine tA rfl ?_);(refine Ai rfl ?_;refine Cw ?_ rfl ⟨rfl,rfl⟩;refine Ae [0] rfl rfl (Q) ⟨rfl,by decide,by decide⟩ rfl (by simp[cX,zC,a,cN]) ?_;rintro t e f ⟨I,J,L,B,rfl,rfl,rfl⟩ _;refine⟨Jn 4 5 rfl rfl rfl,?_⟩);(refine Ai rfl ?_;refine Ds ?_ rfl ⟨rfl,rfl⟩;refine Bs rfl rfl rfl rfl (by rfl) rfl (am rfl) ?_;refine⟨BO 5 rfl rfl,?_⟩);(refine Ai rfl ?_;refine Ds ?_ rfl ⟨rfl,rfl⟩;refine Bs rfl rfl rfl rfl (by rfl) rfl (am rfl) ?_;refine⟨BO 5 rfl rfl,?_⟩);(repeat first|refine tA rfl ?_ |refine Aa ?_);exact aR ⟨_,rfl,[0],Jz (j,J,r),[(0,A0 b I)],⟨by intro i hi;match i with|0=>rfl,by decide⟩,rfl,by (simp[cX,zC,a,cN]),I,(j,J,r),by omega,⟨n,B.upto (by omega),m⟩,rfl,rfl,rfl⟩
end Go.Am
namespace Go.Am
open Go
set_option linter.unusedVariables false
theorem Ip{s:Sys}:∀ {u:List Int} {q r:Int},Jb (LY s) u q r↔Jb (LY s) (Bu s.al u) q r
 | [],q,r=>Iff.rfl
 | l :: u,q,r=>by
  have c:=λq=>Ip (s:=s) (u:=u) (q:=q) (r:=r);by_cases hb:AR s.al l.toNat=true
  ·have e:Bu s.al (l::u)=l::Bu s.al u:=mC hb
   rw [e];exact⟨λ⟨y,a,b⟩=>⟨y,a,(c y).1 b⟩,λ⟨y,a,b⟩=>⟨y,a,(c y).2 b⟩⟩
  ·have e:Bu s.al (l::u)=Bu s.al u:=nC hb
   have d:LY s q l=[q]:=by show BF s q l=_;unfold BF;rw [if_neg hb]
   rw [e,<-c q];constructor
   ·rintro⟨y,a,b⟩
    rw [d] at a
    obtain rfl:y=q:=by simpa using a
    exact b
   ·intro h
    exact⟨q,by rw [d];simp,h⟩
theorem KP{s:Sys}{u v:List Int}(h:Bu s.al u=Bu s.al v):EF s u↔EF s v:=by
 unfold EF;constructor
 ·rintro⟨q,a⟩;exact⟨q,Ip.2 (h ▸ Ip.1 a)⟩
 ·rintro⟨q,a⟩;exact⟨q,Ip.2 (h.symm ▸ Ip.1 a)⟩
theorem Ov{a:AX}(ha:AE a=true):∀ {u:List Int} {q:Int},(∀l∈u,0<=l/\l < 6)->0<=q/\q < a.nx.length->Dd (fA a) q u=Dd (fA a) q (Bu a.al u)
 | [],q,_,_=>rfl
 | l :: u,q,c,f=>by
  have d:=c l (by simp);have h:=CK ha (q:=q.toNat) (by omega) d.1 d.2;have b:=λq=>Ov ha (u:=u) (q:=q) λm g=>c m (by simp [g]);by_cases hb:AR a.al l.toNat=true
  ·have e:Bu a.al (l::u)=l::Bu a.al u:=mC hb
   rw [e];exact b _ h
  ·have e:Bu a.al (l::u)=Bu a.al u:=nC hb
   have i:Cg a q.toNat l=q:=by unfold Cg;rw [if_neg hb];omega
   rw [e]
   show Dd (fA a) (Cg a q.toNat l) u=_
   rw [i];exact b _ f
def EO(u:List Int):Prop:=∀l∈u,0<=l/\l < 6
theorem Hq{a:AX}(ha:AE a=true){u v:List Int}(c:EO u)(b:EO v)(h:Bu a.al u=Bu a.al v):CQ a u=CQ a v:=by
 have d:=Ay ha;unfold CQ;rw [Ov ha c ⟨by omega,by omega⟩,Ov ha b ⟨by omega,by omega⟩,h]
theorem RH{al:Int}{u:List Int}(a:EO u):EO (Bu al u):=λl b=>a l (lJ.1 b).1
theorem RI{al:Int}{u:List Int}(a:EO u):∀l∈Bu al u,l∈Ac al:=λl b=>by
 obtain⟨d,c⟩:=lJ.1 b;have:=a l d
 obtain⟨n,rfl⟩:∃n:Nat,l=n:=⟨l.toNat,by omega⟩
 exact C8.2 ⟨by omega,c⟩
theorem EP{al:Int}{u:List Int}(a:∀l∈u,l∈Ac al):EO u:=λl b=>by have:=Ak (a l b);omega
theorem KZ{al bl:Int}{u:List Int}(h:∀l∈u,AR al l.toNat=true->AR bl l.toNat=true):Bu al (Bu bl u)=Bu al u:=by
 unfold Bu;rw [pc];refine nM λl a=>?_;cases ha:AR al l.toNat
 ·rfl
 ·rw [h l a ha];rfl
theorem dg{al:Int}:∀ {v w:List Int},w <+: Bu al v->∃v',v' <+: v/\Bu al v'=w:=λ{v w} ⟨z,h⟩=>by
 obtain⟨a,c,rfl,b,_⟩:=List.filter_eq_append_iff.1 h.symm;exact⟨a,pb _ _,b⟩
theorem bC{s:Sys}{u v:List Int}(h:u <+: v)(a:EF s v):EF s u:=by
 obtain⟨z,rfl⟩:=h;obtain⟨q,b⟩:=a;obtain⟨y,c,_⟩:=EY.1 b;exact⟨y,c⟩
theorem merge{A B:Int->Bool}:∀(u:List Int) {v:List Int},(∀l∈u,A l=true)->(∀l∈v,B l=true)->u.filter B=v.filter A->∃x:List Int,x.filter A=u/\x.filter B=v/\∀l∈x,l∈u\/l∈v
 | [],v,_,b,h=>⟨v,h.symm,o8.2 b,λl n=>.inr n⟩
 | l :: u, v,g,b,h=>by
  have i:=g l (by simp);by_cases c:B l=true
  ·rw [mC c] at h
   obtain⟨k,j,rfl,p,q,o⟩:=List.filter_eq_cons_iff.1 h.symm;obtain⟨x,f,e,d⟩:=merge u (v:=j) (λm a=>g m (by simp [a])) (λm a=>b m (by simp [a])) o.symm;refine⟨k++l::x,?_,?_,λm a=>?_⟩
   ·rw [mB,oJ.2 p,mC i,f];rfl
   ·rw [mB,o8.2 λm a=>b m (by simp [a]),mC c,e]
   ·rcases f6.1 a with a|a
    ·exact .inr (by simp [a])
    ·rcases lF.1 a with rfl|a
     ·exact .inl (by simp)
     ·rcases d m a with h|h
      ·exact .inl (by simp [h])
      ·exact .inr (by simp [h])
  ·rw [nC c] at h
   obtain⟨x,f,e,d⟩:=merge u (v:=v) (λm a=>g m (by simp [a])) b h;refine⟨l::x,?_,?_,λm a=>?_⟩
   ·rw [mC i,f]
   ·rw [nC c,e]
   ·rcases lF.1 a with rfl|a
    ·exact .inl (by simp)
    ·rcases d m a with h|h
     ·exact .inl (by simp [h])
     ·exact .inr h
theorem Ll{a b:Int}(ha:Bm a=true)(hb:Bm b=true){n:Nat}(c:n < 64):AR (FV .i64 a b) n=(AR a n || AR b n):=by
 unfold Bm at ha hb;simp only [decide_eq_true_eq] at ha hb
 obtain⟨x,rfl⟩:∃x:Nat,a=x:=⟨a.toNat,by omega⟩
 obtain⟨y,rfl⟩:∃y:Nat,b=y:=⟨b.toNat,by omega⟩
 have h:=Nh (a:=x) (b:=y) (by omega) (by omega);rw [h.1,FO (by omega) c,FO (by omega) c,FO (by omega) c,nT]
theorem ca{a b:Int}(ha:Bm a=true)(hb:Bm b=true){n:Nat}(c:n < 64):AR (Jg .i64 a b) n=(AR a n && AR b n):=by
 unfold Bm at ha hb;simp only [decide_eq_true_eq] at ha hb
 obtain⟨x,rfl⟩:∃x:Nat,a=x:=⟨a.toNat,by omega⟩
 obtain⟨y,rfl⟩:∃y:Nat,b=y:=⟨b.toNat,by omega⟩
 have h:=NP (a:=x) (b:=y) (by omega) (by omega);have d:x &&& y < 64:=Nat.lt_of_le_of_lt oY (by omega);rw [h,FO (by omega) c,FO (by omega) c,FO (by omega) c,oX]
structure FG (s:Sys) (p:AX) (t:Sys) (al:Int):Prop where
 hs:AZ s=true
 hp:AE p=true
 ht:AZ t=true
 hal:al=BL s p t
section
variable {s t:Sys}{p:AX}{al:Int}(hI:FG s p t al)
include hI
theorem Zw{n:Nat}(a:n < 64):AR al n=((AR s.al n || AR p.al n) && AR t.al n):=by
 have c:=(AQ hI.hs).1;have b:=(Ay hI.hp).1;have d:=(AQ hI.ht).1;rw [hI.hal];unfold BL;rw [hI.hs,hI.hp,hI.ht];simp only [pf,if_true];rw [ca (Km c b) d a,Ll c b a]
theorem Sp:Bm al=true:=by
 have g:=(AQ hI.hs).1;have f:=(Ay hI.hp).1;have i:=(AQ hI.ht).1;have h:=Km g f;rw [hI.hal];unfold BL;rw [hI.hs,hI.hp,hI.ht];simp only [pf,if_true];unfold Bm at *;simp only [decide_eq_true_eq] at *
 obtain⟨x,d⟩:∃x:Nat,FV .i64 s.al p.al=x:=⟨(FV .i64 s.al p.al).toNat,by omega⟩
 obtain⟨y,c⟩:∃y:Nat,t.al=y:=⟨t.al.toNat,by omega⟩
 have:=NP (a:=x) (b:=y) (by omega) (by omega);have e:x &&& y < 64:=Nat.lt_of_le_of_lt oY (by omega);rw [d,c,this];omega
theorem Gt:Bv ⟨s,p,al⟩=true:=by
 unfold Bv;rw [hI.hs,hI.hp,Sp hI];rfl
theorem YY{a:AX}(ha:AE a=true)(hal:a.al=al)(o:∀u,EO u->(∀l∈u,AR s.al l.toNat=true\/AR al l.toNat=true)->EF s u->CQ a u=true->CQ p u=true)
 (m:∀v,(∀l∈v,l∈Ac t.al)->EF t v->CQ a v=true) {x:List Int} (e:EO x) (f:∀l∈x,AR s.al l.toNat=true\/AR t.al l.toNat=true) (k:EF s x) (ht:EF t x):CQ p x=true:=by
 have c:=λl (b:l∈x)=>Zw hI (n:=l.toNat) (by have:=e l b;omega);have j:=RH (al:=t.al) e;have w:CQ a (Bu t.al x)=true:=m _ (RI e) ((KP (by rw [KZ λ_ _ h=>h])).1 ht)
 let u:=x.filter λl=>AR s.al l.toNat || AR al l.toNat
 have g:EO u:=λl f=>e l (lJ.1 f).1
 have d:∀ {bl:Int},(∀l∈x,AR bl l.toNat=true->(AR s.al l.toNat || AR al l.toNat)=true)->Bu bl u=Bu bl x:=λ{bl} h=>by
  show List.filter _ (List.filter _ x)=List.filter _ x
  rw [pc];refine nM λl f=>?_;cases hb:AR bl l.toNat
  ·rfl
  ·rw [h l f hb];rfl
 have r:CQ a u=true:=by
  rw [Hq ha g j,w]
  rw [hal,d λl _ h=>by rw [h,ol],KZ λl b h=>by
   have:=c l b;rw [h] at this
   revert this;cases AR t.al l.toNat<;>simp]
 have q:=o u g (λl b=>by have:=(lJ.1 b).2;simpa using this) ((KP (d λl _ h=>by rw [h];rfl)).2 k) r;rw [<-q];refine Hq hI.hp e g (d λl b h=>?_).symm;have:=c l b;rw [h,ol,mF] at this
 rcases f l b with i|i
 ·rw [i];rfl
 ·rw [this,i,ol]
theorem TA{v:List Int}(y:∀l∈v,l∈Ac t.al)(ht:EF t v)(G:LS ⟨s,p,al⟩ (CA (Bu al v))=false):∃x,EO x/\(∀l∈x,AR s.al l.toNat=true\/AR t.al l.toNat=true)/\EF s x/\EF t x/\CQ p x=false:=by
 have m:=EP y;obtain⟨u,A,J,I,H⟩:=(OQ (Gt hI) (RI m)).1 G
 have d:EO u:=λl a=>by
  rcases A l a with h|h
  ·have:=Em (Gt hI) h;omega
  ·have:=Ak h;omega
 obtain⟨v',w,F⟩:=dg J;have g:∀l∈v',l∈Ac t.al:=λl a=>y l (w.subset a);have b:=λ(l:Int) (h:0<=l/\l < 6)=>Zw hI (n:=l.toNat) (by omega)
 have q:∀l∈u,(AR s.al l.toNat || AR al l.toNat)=true:=λl a=>by
  rcases A l a with h|h
  ·rw [(Em (Gt hI) h).2.2];rfl
  ·rw [(Ak h).2.2,ol]
 have o:∀l∈v',AR t.al l.toNat=true:=λl a=>(Ak (g l a)).2.2
 have e:u.filter (λl=>AR t.al l.toNat)=v'.filter λl=>AR s.al l.toNat || AR al l.toNat:=by
  have L:u.filter (λl=>AR t.al l.toNat)=Bu al u:=nM λl a=>by
   have c:=q l a;rw [b l (d l a)] at c |-;revert c;cases AR s.al l.toNat<;>cases AR p.al l.toNat<;>cases AR t.al l.toNat<;>simp
  have K:v'.filter (λl=>AR s.al l.toNat || AR al l.toNat)=Bu al v':=nM λl a=>by
   have c:=o l a;rw [b l (EP g l a),c];cases AR s.al l.toNat<;>cases AR p.al l.toNat<;>simp
  rw [L,K,F]
 obtain⟨x,B,k,r⟩:=merge u q o e
 have f:EO x:=λl a=>by
  rcases r l a with h|h
  ·exact d l h
  ·exact EP g l h
 have i:∀l∈x,AR s.al l.toNat=true\/AR t.al l.toNat=true:=λl a=>by
  rcases r l a with h|h
  ·have c:=q l h
   rw [b l (d l h)] at c;revert c;cases AR s.al l.toNat<;>cases AR p.al l.toNat<;>cases AR t.al l.toNat<;>simp
  ·exact .inr (o l h)
 have j:∀ {bl:Int},(∀l∈x,AR bl l.toNat=true->(AR s.al l.toNat || AR al l.toNat)=true)->Bu bl u=Bu bl x:=λ{bl} h=>by
  rw [<-B]
  show List.filter _ (List.filter _ x)=List.filter _ x
  rw [pc];refine nM λl a=>?_;cases hb:AR bl l.toNat
  ·rfl
  ·rw [h l a hb];rfl
 refine⟨x,f,i,(KP (j λl _ h=>by rw [h];rfl)).1 I,?_,?_⟩
 ·have:=bC w ht
  refine(KP ?_).1 this;have k:Bu t.al x=v':=k;rw [<-k,KZ λ_ _ h=>h]
 ·rw [<-H]
  refine Hq hI.hp f d (j λl z h=>?_).symm;have:=b l (f l z);rw [h,ol,mF] at this
  rcases i l z with c|c
  ·rw [c];rfl
  ·rw [this,c,ol]
end
end Go.Am
namespace Go.Am
open Go Go.Proofs
set_option maxHeartbeats 1000000
set_option maxRecDepth 4000
attribute [local irreducible] AW BQ Lex A9 Aj Spec
variable {TB:Bp}
theorem YC{A:W->Bool}{t:Bl}:BH A (-1) t=false:=by
 cases h:BH A (-1) t
 ·rfl
 ·have:=(KY h).1.pos;omega
theorem U0{A L:W->Bool}{al:Int}(h:eu A L al)(t:Bl):BH A al t=BH L al t:=by
 unfold BH;cases a:LX al t
 ·rfl
 ·rw [X7 h (Tl a).bd (by omega)]
theorem Gj(te:Ii)(x:Bl):(C7 te && BH (CI te) (Bi te) x)=BH (Mb te) (JP te) x:=by
 unfold JP;cases a:C7 te
 ·simp [YC]
 ·rw [if_pos rfl,mF,U0 (bJ a)]
theorem GB{te:Ii}{x:Bl}(h:BH (Mb te) (JP te) x=true):C7 te=true/\JP te=Bi te/\BH (CI te) (Bi te) x=true/\ez (Bi te) x/\(AT (CI te) x).Nodup:=by
 rw [<-Gj,d4] at h;exact⟨h.1,by unfold JP;rw [if_pos h.1],h.2,(KY h.2).1,(KY h.2).2⟩
theorem VR{al:Int}(ha:Bm al=true){w:W}(h:AU (Bo al) w)(a:w.length<=4000):Kp al w=true:=by
 unfold Kp;rw [Ga h (by omega) ha,decide_eq_true a];rfl
theorem ZF{L:W->Bool}{x:Bl}(h:(AT L x).Nodup){i k:Nat}{u w:W}(hi:x.rows[i]? = some u)(hk:x.rows[k]? = some w)(a:k < i):marks L x.cols u≠marks L x.cols w:=by
 intro b
 have d:(AT L x)[i]? = some (marks L x.cols u):=by unfold AT;simp [hi]
 have c:(AT L x)[k]? = some (marks L x.cols u):=by unfold AT;simp [hk,b]
 obtain⟨j,g⟩:=ce.1 d;obtain⟨f,e⟩:=ce.1 c;exact lI.1 h k i f j a (by rw [g,e])
end Go.Am
namespace Go.Am
open Go
set_option linter.unusedVariables false
theorem IY{al:Int}{u:List Int}(c:EO u)(h:∀l∈u,AR al l.toNat=true):∀l∈u,l∈Ac al:=λl a=>by
 have:=c l a
 obtain⟨n,rfl⟩:∃n:Nat,l=n:=⟨l.toNat,by omega⟩
 have b:=h _ a;rw [i9] at b;exact C8.2 ⟨by omega,b⟩
theorem Ny{g:Gr}{w:List Int}(h:Cu g=some w):over g w/\PB g w/\∀u,over g u->PB g u->¬slt u w:=by
 have:=CM g;rw [h] at this;exact this
theorem Vv{g:Gr}(h:Cu g=none):∀u,over g u->¬PB g u:=by
 have:=CM g;rw [h] at this;exact this
theorem JQ{s:Sys}{a p:AX}{w:List Int}(h:EE s a p=some w):Df s a p=true/\(∀l∈w,l∈Ac (FV .i64 s.al a.al))/\EF s w/\CQ a w=true/\CQ p w=false:=by
 unfold EE at h;by_cases b:Df s a p=true
 ·rw [if_pos b] at h
  obtain⟨c,d,_⟩:=Ny h;exact⟨b,c,(fq b c).1 d⟩
 ·rw [if_neg b] at h;cases h
theorem Uh{s:Sys}{a p:AX}(d:Df s a p=true):LB s a p=true↔∀w,(∀l∈w,l∈Ac (FV .i64 s.al a.al))->EF s w->CQ a w=true->CQ p w=true:=by
 unfold LB EE;rw [d,mF,if_pos rfl];constructor
 ·intro h w g c f
  cases b:Cu (DJ (DO s a p)) with
  | some x=>rw [b] at h;cases h
  | none=>
   have:=Vv b w g;rw [fq d g] at this;cases e:CQ p w
   ·exact absurd ⟨c,f,e⟩ this
   ·rfl
 ·intro h
  cases b:Cu (DJ (DO s a p)) with
  | none=>rfl
  | some x=>
   obtain⟨c,f,_⟩:=Ny b;obtain⟨e,j,i⟩:=(fq d c).1 f;rw [h x c e j] at i;cases i
theorem U9{l:List Sys}{p:AX}{w:List Int}(h:CW l p=some w):(Bc l && AE p)=true/\(∀m∈w,m∈Ac (BI l))/\(∀s∈l,EF s w)/\CQ p w=false:=by
 unfold CW at h;by_cases a:(Bc l && AE p)=true
 ·rw [if_pos a] at h
  obtain⟨b,c,_⟩:=Ny h;exact⟨a,b,(fp a b).1 c⟩
 ·rw [if_neg a] at h;cases h
theorem FW{l:List Sys}{p:AX}(c:(Bc l && AE p)=true):EK l p=true↔∀w,(∀m∈w,m∈Ac (BI l))->(∀s∈l,EF s w)->CQ p w=true:=by
 unfold EK CW;rw [c,mF,if_pos rfl];constructor
 ·intro h w e b
  cases a:Cu (DJ (CO l p)) with
  | some x=>rw [a] at h;cases h
  | none=>
   have:=Vv a w e;rw [fp c e] at this;cases d:CQ p w
   ·exact absurd ⟨b,d⟩ this
   ·rfl
 ·intro h
  cases a:Cu (DJ (CO l p)) with
  | none=>rfl
  | some x=>
   obtain⟨b,g,_⟩:=Ny a;obtain⟨d,f⟩:=(fp c b).1 g;rw [h x b d] at f;cases f
theorem RX(n:Nat)(a:n < 64):AR 0 n=false:=by
 have:=FO (s:=0) (n:=n) (by omega) a;rw [show ((0:Nat):Int)=0 from rfl] at this;rw [this];simp
theorem Hc{t:Sys}:Bc [t]=AZ t:=by simp [Bc]
theorem Fy{s t:Sys}:Bc [s,t]=(AZ s && AZ t):=by simp [Bc]
theorem VC{t:Sys}(ht:AZ t=true){n:Nat}(a:n < 64):AR (BI [t]) n=AR t.al n:=by
 unfold BI;rw [Hc,ht,if_pos rfl]
 show AR (FV .i64 0 t.al) n=_
 rw [Ll (by decide) (AQ ht).1 a,RX n a,pe]
theorem VD{s t:Sys}(a:AZ s=true)(ht:AZ t=true){n:Nat}(b:n < 64):AR (BI [s,t]) n=(AR s.al n || AR t.al n):=by
 unfold BI;rw [Fy,a,ht,pf,if_pos rfl]
 show AR (FV .i64 (FV .i64 0 s.al) t.al) n=_
 have c:Bm 0=true:=by decide
 rw [Ll (Km c (AQ a).1) (AQ ht).1 b,Ll c (AQ a).1 b,RX n b,pe]
theorem ZZ{t:Sys}(ht:AZ t=true){u:List Int}:(∀l∈u,l∈Ac (BI [t]))↔∀l∈u,l∈Ac t.al:=by
 constructor
 ·intro h
  have a:=EP h
  exact IY a λl b=>by rw [<-VC ht (by have:=a l b;omega)];exact(Ak (h l b)).2.2
 ·intro h
  have a:=EP h
  exact IY a λl b=>by rw [VC ht (by have:=a l b;omega)];exact(Ak (h l b)).2.2
theorem Wt{s t:Sys}(c:AZ s=true)(ht:AZ t=true){u:List Int}:(∀l∈u,l∈Ac (BI [s,t]))↔EO u/\∀l∈u,AR s.al l.toNat=true\/AR t.al l.toNat=true:=by
 constructor
 ·intro h
  have a:=EP h;refine⟨a,λl b=>?_⟩;have:=(Ak (h l b)).2.2;rw [VD c ht (by have:=a l b;omega),lK] at this;exact this
 ·rintro⟨a,h⟩
  exact IY a λl b=>by rw [VD c ht (by have:=a l b;omega),lK];exact h l b
theorem ed{a b:Int}(ha:Bm a=true)(hb:Bm b=true){u:List Int}:(∀l∈u,l∈Ac (FV .i64 a b))↔EO u/\∀l∈u,AR a l.toNat=true\/AR b l.toNat=true:=by
 constructor
 ·intro h
  have c:=EP h;refine⟨c,λl d=>?_⟩;have:=(Ak (h l d)).2.2;rw [Ll ha hb (by have:=c l d;omega),lK] at this;exact this
 ·rintro⟨c,h⟩
  exact IY c λl d=>by rw [Ll ha hb (by have:=c l d;omega),lK];exact h l d
theorem W0{s t:Sys}{w:List Int}:(∀x∈[s,t],EF x w)↔EF s w/\EF t w:=by simp
theorem Wu{t:Sys}{w:List Int}:(∀x∈[t],EF x w)↔EF t w:=by simp
theorem Se{s t:Sys}{p a:AX}(h:It s t p a=0):EK [s,t] p=true/\LB s a p=true/\EK [t] a=true:=by
 unfold It at h;split at h
 ·cases h
 rename_i c;split at h
 ·cases h
 rename_i m;split at h
 ·cases h
 rename_i G;split at h
 ·cases h
 rename_i F
 have hk:LB s a p=true:=by simpa using G
 have b:EK [t] a=true:=by simpa using F
 refine⟨?_,hk,b⟩;rw [not_or] at c
 have n:(AZ s && AE p && AZ t)=true:=by
  have o:=c.1;unfold BL at o;split at o
  ·assumption
  ·omega
 have ha:AE a=true:=by simpa using c.2
 simp only [d4] at n;obtain⟨⟨e,f⟩,d⟩:=n;have hal:a.al=BL s p t:=Classical.not_not.1 m
 have hI:FG s p t a.al:=⟨e,f,d,hal⟩
 have y:Df s a p=true:=by unfold Df;rw [e,ha,f];rfl
 have l:(Bc [t] && AE a)=true:=by rw [Hc,d,ha];rfl
 have k:(Bc [s,t] && AE p)=true:=by rw [Fy,e,d,f];rfl
 rw [Uh y] at hk;rw [FW l] at b;rw [FW k];intro w x z;obtain⟨A,B⟩:=(Wt e d).1 x;obtain⟨r,q⟩:=W0.1 z;exact YY hI ha rfl (λu i j c m=>hk u ((ed (AQ e).1 (Ay ha).1).2 ⟨i,j⟩) c m) (λv g c=>b v ((ZZ d).2 g) (Wu.2 c)) A B r q
theorem RE{s t:Sys}{p:AX}{al:Int}(hI:FG s p t al){v:List Int}(g:∀l∈v,l∈Ac t.al)(ht:EF t v)(h:LS ⟨s,p,al⟩ (CA (Bu al v))=false):EK [s,t] p=false:=by
 have a:(Bc [s,t] && AE p)=true:=by rw [Fy,hI.hs,hI.ht,hI.hp];rfl
 obtain⟨x,f,e,d,c,b⟩:=TA hI g ht h;cases hk:EK [s,t] p
 ·rfl
 ·rw [FW a] at hk
  rw [hk x ((Wt hI.hs hI.ht).2 ⟨f,e⟩) (W0.2 ⟨d,c⟩)] at b;cases b
theorem Ql{a:AX}{w:List Int}(b:∀l∈w,l∈Ac a.al):LA a (CA w)=CQ a w:=by
 unfold CQ;rw [P0 w 0 b];rfl
theorem Vk{s t:Sys}{p a:AX}{al:Int}(hI:FG s p t al)(ha:AE a=true)(hal:a.al=al){u:List Int}(h:EE s a p=some u):(∀l∈Bu al u,l∈Ac al)/\LA a (CA (Bu al u))=true/\LS ⟨s,p,al⟩ (CA (Bu al u))=false:=by
 obtain⟨o,i,j,n,k⟩:=JQ h;have e:=EP i;have c:=RI (al:=al) e;have d:=((ed (AQ hI.hs).1 (Ay ha).1).1 i).2;refine⟨c,?_,(OQ (Gt hI) c).2 ⟨u,λl b=>?_,oM _,j,k⟩⟩
 ·rw [Ql (by rw [hal];exact c),<-n]
  exact Hq ha (RH e) e (by rw [hal,KZ λ_ _ h=>h])
 ·have hb:=e l b
  rw [hal] at d;by_cases f:AR al l.toNat=true
  ·exact .inr (IY (u:=[l]) (by intro m b;simp at b;subst b;exact hb) (by intro m b;simp at b;subst b;exact f) l (by simp))
  ·refine .inl ?_
   unfold C0;refine lJ.2 ⟨?_,by simpa using f⟩;have g:AR s.al l.toNat=true:=(d l b).resolve_right f;exact IY (u:=[l]) (by intro m b;simp at b;subst b;exact hb) (by intro m b;simp at b;subst b;exact g) l (by simp)
theorem Gq{t:Sys}{a:AX}{v:List Int}(h:CW [t] a=some v):AZ t=true/\AE a=true/\(∀l∈v,l∈Ac t.al)/\EF t v/\CQ a v=false:=by
 obtain⟨b,d,c,e⟩:=U9 h;rw [d4,Hc] at b;exact⟨b.1,b.2,(ZZ b.1).1 d,Wu.1 c,e⟩
theorem TX{t:Sys}{a:AX}{v:List Int}(h:CW [t] a=some v):(∀l∈Bu a.al v,l∈Ac a.al)/\LA a (CA (Bu a.al v))=false:=by
 obtain⟨i,f,e,g,d⟩:=Gq h;have c:=EP e;have b:=RI (al:=a.al) c;refine⟨b,?_⟩;rw [Ql b,<-d];exact Hq f (RH c) c (by rw [KZ λ_ _ h=>h])
end Go.Am
namespace Go.Am
open Go Go.Proofs
set_option maxHeartbeats 1000000
set_option maxRecDepth 4000
attribute [local irreducible] AW BQ Lex A9 Aj Spec
variable {TB:Bp}
structure ky (t:CR):Prop where
 s:t.s.es.length<=401
 q:GJ 60 t.q
theorem NF{L:W->Bool}{ls:List UInt8}:∀ {n:Nat} {t u:Bl},YS L ls t->BR L ls n t=some u->YS L ls u/\BC L ls u=none/\t.rows <+: u.rows/\u.cols=t.cols/\(t.rows.length<=12->u.rows.length<=12)/\(BC L ls t≠none->t.rows.length < u.rows.length)/\(BC L ls t=none->u=t)
 | 0,t,u,_,h=>by simp [BR] at h
 | n + 1,t,u,hk,h=>by
  unfold BR at h
  cases a:BC L ls t with
  | none=>
   rw [a] at h
   injection h with h;subst h
   exact⟨hk,a,oM _,rfl,id,λh=>absurd rfl h,λ_=>rfl⟩
  | some w=>
   rw [a] at h;dsimp only at h;split at h
   ·cases h
   ·rename_i i
    obtain⟨g,f,b,e,d,k,j⟩:=NF (hk.push a) h;have c:=(pb t.rows [w]).trans b;refine⟨g,f,c,e,λh=>d (by simp;omega),λ_=>?_,λh=>by cases h⟩;have:=b.length_le;simp at this;omega
theorem cf{te:Ii}{x u:Bl}(h:BH (Mb te) (JP te) x=true)(d:Jy te x=some u):BH (Mb te) (JP te) u=true/\BC (CI te) (Bo (Bi te)) u=none/\x.rows <+: u.rows/\u.cols=x.cols/\(BC (CI te) (Bo (Bi te)) x≠none->x.rows.length < u.rows.length)/\(BC (CI te) (Bo (Bi te)) x=none->u=x):=by
 obtain⟨e,r,g,b,q⟩:=GB h;unfold Jy at d;rw [e,g,mF,if_pos rfl] at d;obtain⟨f,n,m,c,l,k,j⟩:=NF (HK g) d;refine⟨?_,n,m,c,k,j⟩;rw [<-Gj,e,mF];have o:=l b.rl;refine Mg (KR e) b.pos f o (by rw [c];exact b.cl) (λw a=>?_) (λw a=>by rw [c] at a;exact(b.cw w a).1);obtain⟨i,hi,p⟩:=lT a;have:=f.short i w (by rw [d5 hi,p]);omega
theorem Xo{te:Ii}{x:Bl}(h:BH (Mb te) (JP te) x=true):(C7 te && Ei (CI te) (Bi te) x)=(BC (CI te) (Bo (Bi te)) x).isNone:=by
 obtain⟨b,e,a,d,c⟩:=GB h;rw [b,O2,a];rfl
structure lA (n m:Nat) (t:Bl):Prop where
 rl:t.rows.length<=n
 cl:t.cols.length<=n
 rb:∀w∈t.rows,w.length<=m
 cb:∀w∈t.cols,w.length<=m
section
variable {P:Program}{Z:Ctx}{d:Option Tmp}{ty:TypeId}{pos:String}{af:Array Edge}{g:Option (Nat×Bool)}{L:List (Nat×E)}{σ:Ab}{nx:Nat}
end
noncomputable def Nw(te:Ii)(x:Bl)(w:W):Option Bl:=if (C7 te && BH (CI te) (Bi te) x && Kp (Bi te) w)=true then Hr x w else none
section
variable {tabs:List (Nat×Obj)}[hTb:Dx ⟨tabs,none⟩]{te:Ii}
include hTb
end
end Go.Am
namespace Go.Am
open Go Go.Proofs
set_option maxHeartbeats 1000000
set_option maxRecDepth 4000
attribute [local irreducible] AW BQ Lex A9 Aj Spec
variable {tabs:List (Nat×Obj)}
theorem cK{al:Int}{w:W}(h:Kp al w=true):AU (Bo al) w/\w.length<=4000:=by
 unfold Kp at h;rw [d4,decide_eq_true_eq] at h;exact⟨HL h.1,h.2⟩
theorem Ux{L:W->Bool}{cols:List W}{c w:W}:marks L (cols++[c]) w=marks L cols w++[Uz (L (w++c))]:=by simp [marks]
theorem TQ{te:Ii}{x u:Bl}{w:W}(h:Nw te x w=some u):BH (Mb te) (JP te) x=true/\AU (Bo (Bi te)) w/\w.length<=4000/\u=⟨x.rows,x.cols++[w]⟩/\BH (Mb te) (JP te) u=true/\Nw te u w=none:=by
 unfold Nw at h;by_cases d:(C7 te && BH (CI te) (Bi te) x && Kp (Bi te) w)=true
 ·rw [if_pos d] at h
  rw [Gj,d4] at d;obtain⟨g,o⟩:=d;obtain⟨m,l⟩:=cK o;obtain⟨k,t,s,f,j⟩:=GB g;unfold Hr at h;split at h
  ·cases h
  rename_i i
  injection h with h
  subst h;rw [not_or] at i;have hk:=HK s;have p:=f.cl;have q:=f.c1;refine⟨g,m,l,rfl,?_,?_⟩
  ·rw [<-Gj,k,mF]
   refine Mg (KR k) f.pos ⟨hk.r0,by rw [d9 (by omega)];exact hk.c0,hk.pre,hk.onR,λc d=>?_,?_,?_⟩ f.rl (by simp;omega) (λr n=>(f.rw r n).1) (λc d=>?_)
   ·rcases f6.1 d with d|d
    ·exact hk.onC c d
    ·simp at d;subst d;exact m
   ·have e:(AT (CI te) ⟨x.rows,x.cols++[w]⟩).map List.dropLast=AT (CI te) x:=by
     unfold AT;rw [mr]
     exact m9 λr _=>by simp [d6,Ux]
    rw [<-e] at j;exact(mY.1 j).imp λh e=>h (by rw [e])
   ·exact nJ.2 ⟨hk.ndC,by simp,λa ha b hb=>by simp at hb;subst hb;exact λe=>i.2 (e ▸ ha)⟩
   ·rcases f6.1 d with d|d
    ·exact(f.cw c d).1
    ·simp at d;subst d;exact l
  ·unfold Nw Hr
   split
   ·rw [if_pos (.inr (by simp))]
   ·rfl
 ·rw [if_neg d] at h;cases h
end Go.Am
namespace Go.Am
open Go Go.Proofs
set_option maxHeartbeats 1000000
set_option maxRecDepth 4000
attribute [local irreducible] AW BQ Lex A9 Aj Spec
variable {TB:Bp}
noncomputable def HG(te:Ii)(x:Bl)(w:W):Option W:=if (C7 te && Ei (CI te) (Bi te) x && Kp (Bi te) w)=true then Ew (CI te) x w else none
noncomputable def OE(te:Ii)(x:Bl)(w:W):Option Bl:=if (C7 te && Ei (CI te) (Bi te) x && Kp (Bi te) w)=true then Gg (CI te) (Bo (Bi te)) x w else none
section
variable {tabs:List (Nat×Obj)}[hTb:Dx ⟨tabs,none⟩]{te:Ii}
include hTb
end
end Go.Am
namespace Go.Am
open Go Go.Proofs
set_option maxHeartbeats 1000000
set_option maxRecDepth 4000
attribute [local irreducible] AW BQ Lex A9 Aj Spec
variable {tabs:List (Nat×Obj)}
end Go.Am
namespace Go.Am
open Go Go.Proofs
set_option maxHeartbeats 1000000
set_option maxRecDepth 4000
attribute [local irreducible] AW BQ Lex A9 Aj Spec
theorem Sa{te:Ii}{x:Bl}(h:(C7 te && Ei (CI te) (Bi te) x)=true):BH (Mb te) (JP te) x=true/\BC (CI te) (Bo (Bi te)) x=none/\Dl (CI te) (Bo (Bi te)) x:=by
 rw [d4] at h;obtain⟨c,b,a⟩:=Xn h.2;exact⟨by rw [<-Gj,h.1,c];rfl,b,a⟩
theorem Tp{te:Ii}{x:Bl}{w v:W}(h:HG te x w=some v):(C7 te && Ei (CI te) (Bi te) x)=true/\AU (Bo (Bi te)) w/\w.length<=4000/\Xc (CI te) x w≠CI te w/\splitAt (CI te) x (CI te w) 0 w=some v/\Split (CI te) (Bo (Bi te)) x w v:=by
 unfold HG at h;by_cases a:(C7 te && Ei (CI te) (Bi te) x && Kp (Bi te) w)=true
 ·rw [if_pos a] at h
  rw [d4] at a;obtain⟨a,f⟩:=a;obtain⟨i,j,b⟩:=Sa a;obtain⟨c,g,_⟩:=fw f;unfold Ew at h;by_cases ha:Xc (CI te) x w=CI te w
  ·rw [if_pos ha] at h;cases h
  ·rw [if_neg ha] at h
   obtain⟨v',e,d⟩:=Tq b (CI te w) w 0 [] c b.r0 rfl ha;rw [e] at h
   injection h with h;subst h
   exact⟨a,c,g,ha,e,d⟩
 ·rw [if_neg a] at h;cases h
theorem bF(te:Ii)(x:Bl)(w:W):OE te x w=(HG te x w).bind λv=>(Nw te x v).bind λu=>Jy te u:=by
 unfold OE
 cases a:HG te x w with
 | none=>
  unfold HG at a;split
  ·rename_i b
   rw [if_pos b] at a;unfold Gg;rw [a];rfl
  ·rfl
 | some v=>
  obtain⟨b,s,l,ha,e,g⟩:=Tp a
  have i:(C7 te && Ei (CI te) (Bi te) x && Kp (Bi te) w)=true:=by
   unfold HG at a;split at a
   ·assumption
   ·cases a
  rw [if_pos i];obtain⟨j,A,q⟩:=Sa b;obtain⟨r,H,G,F,B⟩:=GB j;unfold Gg Ew;rw [if_neg ha,e]
  show (Hr x v).bind _=(Nw te x v).bind _
  obtain⟨p,_,k⟩:=g.suf;have h:Kp (Bi te) v=true:=VR (KR r) (λc b=>s c (by rw [k];simp [b])) (by rw [k] at l;simp at l;omega)
  have d:Nw te x v=Hr x v:=by unfold Nw;rw [Gj,j,h];rfl
  rw [d]
  cases o:Hr x v with
  | none=>rfl
  | some u=>
   obtain⟨_,_,_,_,f,_⟩:=TQ (d.trans o);obtain⟨n,z,m,y,t⟩:=GB f
   show BR _ _ 13 u=Jy te u
   unfold Jy;rw [n,m];rfl
theorem Tr{te:Ii}{x u:Bl}{w v:W}(h:HG te x w=some v)(ha:Nw te x v=some u):BC (CI te) (Bo (Bi te)) u≠none:=by
 obtain⟨i,k,j,g,e,a⟩:=Tp h;obtain⟨_,_,_,rfl,_,_⟩:=TQ ha;obtain⟨r,d,c,b,f⟩:=a.opens;exact db (t:=⟨x.rows,x.cols++[v]⟩) d b f
theorem gh{te:Ii}{x y:Bl}{w:W}(h:OE te x w=some y):(HG te x w).isSome=true/\BH (Mb te) (JP te) x=true/\BH (Mb te) (JP te) y=true/\BC (CI te) (Bo (Bi te)) y=none/\x.rows <+: y.rows/\x.rows.length < y.rows.length/\∃v,y.cols=x.cols++[v]:=by
 rw [bF] at h
 cases b:HG te x w with
 | none=>rw [b] at h;cases h
 | some v=>
  rw [b] at h;have h:(Nw te x v).bind (λu=>Jy te u)=some y:=h
  cases ha:Nw te x v with
  | none=>rw [ha] at h;cases h
  | some u=>
   rw [ha] at h;have h:Jy te u=some y:=h;have c:=Tr b ha;obtain⟨j,_,_,rfl,a,_⟩:=TQ ha;obtain⟨i,g,f,e,d,k⟩:=cf a h;exact⟨rfl,j,i,g,f,d c,v,e⟩
end Go.Am
namespace Go.Am
open Go Go.Proofs
set_option maxHeartbeats 1000000
set_option maxRecDepth 4000
attribute [local irreducible] AW BQ Lex A9 Aj Spec
variable {tabs:List (Nat×Obj)}
theorem ZT{L:W->Bool}{ls:List UInt8}{t:Bl}(g:t.cols=[[]])(c:2<=t.rows.length)(e:(AT L t).Nodup):BC L ls t=none:=by
 cases d:BC L ls t with
 | none=>rfl
 | some w=>
  exfalso;have f:=(JH d).2;obtain⟨a,ha⟩:=get_some (l:=t.rows) (k:=0) (by omega);obtain⟨b,hb⟩:=get_some (l:=t.rows) (k:=1) (by omega);have ne:=ZF e hb ha (by omega);have h:marks L t.cols a∈AT L t:=List.mem_map_of_mem (co ha);have c:marks L t.cols b∈AT L t:=List.mem_map_of_mem (co hb)
  have hk:∀v:W,marks L t.cols v=[Uz (L v)]:=λv=>by rw [g];simp [marks]
  rw [hk] at f h c ne;rw [hk] at ne;cases m:L a<;>cases j:L b<;>cases i:L w<;>simp_all
theorem iy(L:W->Bool)(ls:List UInt8):∃u,BR L ls 13 BT=some u/\u.cols=[[]]/\u.rows.length<=2:=by
 unfold BR
 cases h:BC L ls BT with
 | none=>exact⟨BT,rfl,rfl,by decide⟩
 | some w=>
  dsimp only;rw [if_neg (by decide)];unfold BR;have hk:=(P7 L ls).push h;have a:=ZT (ls:=ls) (t:=⟨BT.rows++[w],BT.cols⟩) rfl (by simp [BT]) hk.nd;rw [a];exact⟨_,rfl,rfl,by simp [BT]⟩
theorem fF{te:Ii}(h:C7 te=true):∃u,XQ te=some u/\BH (Mb te) (JP te) u=true/\BC (CI te) (Bo (Bi te)) u=none/\u.cols=[[]]/\u.rows.length<=2/\Dl (CI te) (Bo (Bi te)) u/\0<=Bi te:=by
 obtain⟨u,e,c,g⟩:=iy (CI te) (Bo (Bi te));obtain⟨b,d,o,n,m,l,k⟩:=NF (P7 _ _) e;have ha:=KR h
 have f:0<=Bi te:=by unfold Bm at ha;simp only [d4,decide_eq_true_eq] at ha;omega
 refine⟨u,by unfold XQ;rw [if_pos h,e],?_,d,c,g,⟨b,HB d⟩,f⟩;rw [<-Gj,h,mF];refine Mg ha f b (by omega) (by rw [c];decide) (λw a=>?_) (λw a=>by rw [c] at a;simp at a;subst a;simp);obtain⟨i,hi,j⟩:=lT a;have:=b.short i w (by rw [d5 hi,j]);omega
end Go.Am
namespace Go.Am
open Go Go.Proofs
set_option maxHeartbeats 1000000
set_option maxRecDepth 4000
attribute [local irreducible] AW BQ Lex A9 Aj Spec
abbrev UC:AX:=⟨0,[],[]⟩
abbrev HJ(s:Sys)(p:AX)(al:Int):Ii:=⟨false,UC,s,p,al⟩
noncomputable def Gm(s t:Sys)(p:AX)(al:Int)(a:AX):Option (W×Bool):=match EE s a p with
 | some u=>some (CA (Bu al u),true)
 | none=>match CW [t] a with
  | some v=>some (CA (Bu al v),false)
  | none=>none
noncomputable def Cz(s:Sys)(p:AX)(al:Int)(x:Bl):AX:=Bw (LS ⟨s,p,al⟩) al x
noncomputable def Ha(s t:Sys)(p:AX)(al:Int)(x:Bl):Option Bl:=match Gm s t p al (Cz s p al x) with
 | some (w,b)=>if (b || LS ⟨s,p,al⟩ w)=true then OE (HJ s p al) x w else none
 | none=>none
noncomputable def Eb(s t:Sys)(p:AX)(al:Int):Nat->Bl->List Bl
 | 0,x=>[x]
 | k+1,x=>x::match Ha s t p al x with
  | some y=>Eb s t p al k y
  | none=>[]
structure Vd where
 code:Int
 a:AX
 tr:W
 rd:Int
noncomputable def NY(s t:Sys)(p:AX)(al:Int)(x:Bl)(r:Nat):Vd:=match Gm s t p al (Cz s p al x) with
 | none=>⟨0,Cz s p al x,[],r⟩
 | some (w,b)=>if (b || LS ⟨s,p,al⟩ w)=true then ⟨2,UC,[],r⟩ else ⟨1,UC,TR (CW [s,t] p),r⟩
noncomputable def dJ(s:Sys)(p:AX)(al:Int):Bl:=(XQ (HJ s p al)).getD BT
noncomputable def Ck(s t:Sys)(p:AX)(al:Int):List Bl:=Eb s t p al 11 (dJ s p al)
noncomputable def C5(s t:Sys)(p:AX):Vd:=if BL s p t < 0 then ⟨3,UC,[],0⟩ else
 NY s t p (BL s p t) ((Ck s t p (BL s p t)).getLastD BT) (Ck s t p (BL s p t)).length
structure GO (s:Sys) (p:AX) (al:Int) (x:Bl) (r:Nat):Prop where
 v:BH (Mb (HJ s p al)) (JP (HJ s p al)) x=true
 o:BC (LS ⟨s,p,al⟩) (Bo al) x=none
 rows:r<=x.rows.length
 cols:x.cols.length=r
theorem OP(s:Sys)(p:AX)(al:Int):CI (HJ s p al)=LS ⟨s,p,al⟩:=by
 funext w;unfold CI;rw [if_neg oo]
theorem Fo(s:Sys)(p:AX)(al:Int):Bi (HJ s p al)=al:=by
 unfold Bi;rw [if_neg oo]
theorem RB{s:Sys}{p:AX}{al:Int}(h:Bv ⟨s,p,al⟩=true):XQ (HJ s p al)=some (dJ s p al)/\GO s p al (dJ s p al) 1:=by
 have hk:C7 (HJ s p al)=true:=by unfold C7;rw [if_neg oo];exact h
 obtain⟨u,e,d,a,c,g,b,f⟩:=fF hk;unfold dJ;rw [e];refine⟨rfl,d,?_,?_,by show u.cols.length=1;rw [c];rfl⟩
 ·rw [OP,Fo] at a;exact a
 ·show 1<=u.rows.length
  have:=(ce.1 b.r0).1;omega
theorem UD{s t:Sys}{p:AX}{al:Int}{x y:Bl}{r:Nat}(a:GO s p al x r)(h:Ha s t p al x=some y):GO s p al y (r+1)/\x.rows.length < y.rows.length:=by
 unfold Ha at h;split at h
 ·split at h
  ·obtain⟨_,_,e,b,_,d,v,c⟩:=gh h
   have f:=a.rows;have g:=a.cols;rw [OP,Fo] at b;exact⟨⟨e,b,by omega,by rw [c];simp;omega⟩,d⟩
  ·cases h
 ·cases h
theorem Tu{s:Sys}{p:AX}{al:Int}{x:Bl}{r:Nat}(b:GO s p al x r):x.rows.length<=12/\r<=12:=by
 obtain⟨_,_,_,a,_⟩:=GB b.v;have:=a.rl;have:=b.rows;omega
theorem OI{s t:Sys}{p:AX}{al:Int}:∀(k:Nat) {x:Bl} {r:Nat},GO s p al x r->∀(i:Nat) (y:Bl),(Eb s t p al k x)[i]? = some y->GO s p al y (r+i)
 | 0,x,r,a,i,y,h=>by
  cases i with
  | zero=>simp [Eb] at h;subst h;exact a
  | succ i=>simp [Eb] at h
 | k + 1,x,r,a,i,y,h=>by
  cases i with
  | zero=>simp [Eb] at h;subst h;exact a
  | succ i=>
   simp only [Eb,oq] at h
   cases b:Ha s t p al x with
   | none=>rw [b] at h;simp at h
   | some z=>
    rw [b] at h;have:=OI k (UD a b).1 i y h;rwa [show r+1+i=r+(i+1) by omega] at this
theorem bG{s t:Sys}{p:AX}{al:Int}(k:Nat)(x:Bl):Eb s t p al k x≠[]:=by cases k<;>simp [Eb]
theorem OH{s t:Sys}{p:AX}{al:Int}:∀(k:Nat) {x:Bl} {r:Nat},GO s p al x r->12<=k+r->∀(i:Nat) (y:Bl),(Eb s t p al k x)[i]? = some y->(Eb s t p al k x)[i+1]? = Ha s t p al y
 | 0, x,r,b,hk,i,y,h=>by
  cases i with
  | zero=>
   simp [Eb] at h;subst h
   cases a:Ha s t p al x with
   | none=>simp [Eb]
   | some z=>
    have:=Tu (UD b a).1;omega
  | succ i=>simp [Eb] at h
 | k + 1,x,r,b,hk,i,y,h=>by
  simp only [Eb] at h |-
  cases a:Ha s t p al x with
  | none=>
   rw [a] at h
   cases i with
   | zero=>simp at h;subst h;simp [a]
   | succ i=>simp at h
  | some z=>
   rw [a] at h
   cases i with
   | zero=>
    simp at h;subst h;rw [a];cases k<;>simp [Eb]
   | succ i=>
    simp only [oq] at h |-;exact OH k (UD b a).1 (by omega) i y h
section
variable {s t:Sys}{p:AX}{al:Int}(hI:FG s p t al)
include hI
theorem run_get{i:Nat}{x:Bl}(h:(Ck s t p al)[i]? = some x):GO s p al x (i+1)/\(Ck s t p al)[i+1]? = Ha s t p al x:=by
 obtain⟨_,b⟩:=RB (Gt hI);have a:=OI 11 b i x h;rw [oa] at a;exact⟨a,OH 11 b (by omega) i x h⟩
theorem Rv:1<=(Ck s t p al).length/\(Ck s t p al).length<=12:=by
 have a:Ck s t p al≠[]:=bG 11 _;have c:1<=(Ck s t p al).length:=o6.2 a;obtain⟨x,b⟩:=get_some (l:=Ck s t p al) (k:=(Ck s t p al).length - 1) (by omega);have:=(Tu (run_get hI b).1).2;omega
theorem bn:∃x,(Ck s t p al).getLastD BT=x/\GO s p al x (Ck s t p al).length/\Ha s t p al x=none:=by
 have d:=Rv hI;obtain⟨x,a⟩:=get_some (l:=Ck s t p al) (k:=(Ck s t p al).length - 1) (by omega);obtain⟨c,b⟩:=run_get hI a;rw [show (Ck s t p al).length - 1+1=(Ck s t p al).length by omega] at c b;refine⟨x,?_,c,?_⟩
 ·rw [List.getLastD_eq_getLast?,List.getLast?_eq_getElem?,a];rfl
 ·rw [<-b];simp
theorem Sq:¬BL s p t < 0:=by
 have:=Sp hI;rw [hI.hal] at this;unfold Bm at this;simp only [decide_eq_true_eq] at this;omega
theorem Qs{x:Bl}{r:Nat}(c:GO s p al x r):AE (Cz s p al x)=true/\(Cz s p al x).al=al/\(Cz s p al x).nx.length=x.rows.length/\Dl (LS ⟨s,p,al⟩) (Bo al) x:=by
 obtain⟨_,_,d,b,_⟩:=GB c.v;have hk:=HK d;rw [OP,Fo] at hk
 have a:Dl (LS ⟨s,p,al⟩) (Bo al) x:=⟨hk,HB c.o⟩
 exact⟨Vz (Sp hI) a b.rl,rfl,by simp [Cz,Bw],a⟩
theorem YD{x:Bl}{r:Nat}(b:GO s p al x r):Df s (Cz s p al x) p=true/\(Bc [t] && AE (Cz s p al x))=true:=by
 obtain⟨a,_⟩:=Qs hI b;exact⟨by unfold Df;rw [hI.hs,a,hI.hp];rfl,by rw [Hc,hI.ht,a];rfl⟩
theorem Xt{x:Bl}{r:Nat}(a:GO s p al x r):(Gm s t p al (Cz s p al x)=none↔It s t p (Cz s p al x)=0)/\(It s t p (Cz s p al x)=0\/It s t p (Cz s p al x)=3\/It s t p (Cz s p al x)=4):=by
 obtain⟨f,e,_⟩:=Qs hI a;obtain⟨c,b⟩:=YD hI a;have d:=Sq hI
 have hal:(Cz s p al x).al=BL s p t:=by rw [e,hI.hal]
 unfold It;rw [if_neg (not_or.2 ⟨d,by rw [f];simp⟩),if_neg (λh=>h hal)];unfold Gm LB EK;rw [c,b,mF,mF]
 cases EE s (Cz s p al x) p with
 | some u=>simp
 | none=>
  cases CW [t] (Cz s p al x) with
  | some v=>simp
  | none=>simp
theorem gq:∃x,GO s p al x (Ck s t p al).length/\Ha s t p al x=none/\C5 s t p=NY s t p al x (Ck s t p al).length:=by
 obtain⟨x,c,b,a⟩:=bn hI;refine⟨x,b,a,?_⟩;unfold C5;rw [if_neg (Sq hI),<-hI.hal,c]
theorem YE:∃x,GO s p al x (Ck s t p al).length/\Ha s t p al x=none/\
    ((C5 s t p=⟨0,Cz s p al x,[],(Ck s t p al).length⟩/\It s t p (Cz s p al x)=0)\/
     (C5 s t p=⟨2,UC,[],(Ck s t p al).length⟩/\∃w b,Gm s t p al (Cz s p al x)=some (w,b)/\(b || LS ⟨s,p,al⟩ w)=true/\OE (HJ s p al) x w=none)\/
     (C5 s t p=⟨1,UC,TR (CW [s,t] p),(Ck s t p al).length⟩/\EK [s,t] p=false/\(CW [s,t] p).isSome=true)):=by
  obtain⟨x,e,c,i⟩:=gq hI;refine⟨x,e,c,?_⟩;rw [i];unfold NY;have h:=Xt hI e;unfold Ha at c
  cases a:Gm s t p al (Cz s p al x) with
  | none=>exact .inl ⟨rfl,h.1.1 a⟩
  | some wb=>
    obtain⟨w,b⟩:=wb;rw [a] at c;simp only at c |-;by_cases hb:(b || LS ⟨s,p,al⟩ w)=true
    · rw [if_pos hb] at c |-
      exact .inr (.inl ⟨rfl,w,b,rfl,hb,c⟩)
    · rw [if_neg hb]
      refine .inr (.inr ⟨rfl,?_⟩)
      have hb:b=false/\LS ⟨s,p,al⟩ w=false:=by simpa using hb
      unfold Gm at a;split at a
      · injection a with a;injection a with _ a;rw [hb.1] at a;cases a
      · split at a
        · rename_i v f
          injection a with a;injection a with a _
          subst a;obtain⟨n,m,k,j,l⟩:=Gq f;have hk:=RE hI k j hb.2;refine⟨hk,?_⟩;unfold EK at hk
          have d:(Bc [s,t] && AE p)=true:=by rw [Fy,hI.hs,hI.ht,hI.hp];rfl
          rw [d,mF] at hk
          cases g:CW [s,t] p with
          | none=>rw [g] at hk;cases hk
          | some _=>rfl
        · cases a
end
theorem Qd{s:Sys}{a p:AX}{w:List Int}(h:EE s a p=some w):w.length<=2304:=by
 obtain⟨b,_⟩:=JQ h;unfold EE at h;rw [if_pos b] at h;obtain⟨c,hk,d⟩:=QS b;have hi:=CM (DJ (DO s a p));rw [h] at hi;have e:=hi.short (Lx c d);have f:(DJ (DO s a p)).N=(s.st*((a.nx.length:Int)*((p.nx.length:Int)*1))).toNat:=rfl;unfold Df at b;simp only [d4] at b;have l:=AQ b.1.1;have k:=Ay b.1.2;have j:=Ay b.2;have i:(a.nx.length:Int)*((p.nx.length:Int)*1)<=12*12:=l3 (by omega) (by omega) (by omega) (by omega)
 have g:s.st*((a.nx.length:Int)*((p.nx.length:Int)*1))<=16*144:=l3 (by omega) (by omega) (by
  have:0<=(a.nx.length:Int)*((p.nx.length:Int)*1):=l4 (by omega) (by omega)
  exact this) (by omega)
 omega
theorem Qc{t:Sys}{a:AX}{w:List Int}(h:CW [t] a=some w):w.length<=192:=by
 obtain⟨d,c,_⟩:=Gq h
 have b:(Bc [t] && AE a)=true:=by rw [Hc,d,c];rfl
 unfold CW at h;rw [if_pos b] at h;obtain⟨e,hk,f⟩:=QR b;have hi:=CM (DJ (CO [t] a));rw [h] at hi;have g:=hi.short (Lx e f);have i:(DJ (CO [t] a)).N=(t.st*((a.nx.length:Int)*1)).toNat:=rfl;have l:=AQ d;have k:=Ay c;have j:t.st*((a.nx.length:Int)*1)<=16*12:=l3 (by omega) (by omega) (by omega) (by omega);omega
theorem TE(al:Int)(u:List Int):(CA (Bu al u)).length<=u.length:=by
 unfold CA Bu;rw [f9];exact nn _ _
theorem Np{s t:Sys}{p a:AX}{al:Int}{w:W}{b:Bool}(h:Gm s t p al a=some (w,b)):w.length<=4000:=by
 unfold Gm at h;split at h
 ·rename_i u d
  injection h with h;injection h with h e
  have:=Qd d;have:=TE al u;rw [<-h];omega
 ·split at h
  ·rename_i v c
   injection h with h;injection h with h e
   have:=Qc c;have:=TE al v;rw [<-h];omega
  ·cases h
section
variable {s t:Sys}{p:AX}{al:Int}(hI:FG s p t al)
include hI
theorem bK:C7 (HJ s p al)=true:=by unfold C7;rw [if_neg oo];exact Gt hI
end
theorem Kn{s t:Sys}{p:AX}(h:¬BL s p t < 0):FG s p t (BL s p t):=by
 have a:(AZ s && AE p && AZ t)=true:=by
  unfold BL at h;split at h
  ·assumption
  ·omega
 simp only [d4] at a;exact⟨a.1.1,a.1.2,a.2,rfl⟩
theorem Qb{s t:Sys}{p:AX}(h:¬BL s p t < 0):((C5 s t p).code=0/\EK [s,t] p=true/\(C5 s t p).tr=[])\/((C5 s t p).code=2/\(C5 s t p).tr=[])\/((C5 s t p).code=1/\EK [s,t] p=false/\(C5 s t p).tr=TR (CW [s,t] p)):=by
 obtain⟨x,c,_,b⟩:=YE (Kn h)
 rcases b with ⟨e,a⟩|⟨e,_⟩|⟨e,hk,_⟩
 ·rw [e];exact .inl ⟨rfl,(Se a).1,rfl⟩
 ·rw [e];exact .inr (.inl ⟨rfl,rfl⟩)
 ·rw [e];exact .inr (.inr ⟨rfl,hk,rfl⟩)
theorem Xa{s t:Sys}{p:AX}(h:BL s p t < 0):C5 s t p=⟨3,UC,[],0⟩:=by unfold C5;rw [if_pos h]
abbrev lq:Sys:=⟨0,1,[]⟩
section
variable {t:Sys}{p:AX}{al:Int}(hI:FG lq p t al)
include hI
end
end Go.Am
namespace Go.Am
open Go Go.Proofs
set_option maxHeartbeats 1000000
set_option maxRecDepth 4000
attribute [local irreducible] AW BQ Lex A9 Aj Spec
variable {TB:Bp}
end Go.Am
