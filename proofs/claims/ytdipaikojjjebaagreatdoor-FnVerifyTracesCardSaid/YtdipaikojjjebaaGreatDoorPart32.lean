/-
  Systems drawn; two systems and a property drawn: walked.
-/
import Derived.Test.YtdipaikojjjebaaGreatDoorPart30
import Derived.Test.YtdipaikojjjebaaGreatDoorPart31
import Derived.Test.YtdipaikojjjebaaGreatDoorPart29
set_option linter.all false
namespace Go.Am
open Go Go.Proofs
set_option maxHeartbeats 1000000
set_option maxRecDepth 4000
attribute [local irreducible] A1 Cr Lex Bs Aj Spec
variable {TB:BA}
def UK:List W:=[[97,98,32,50,32,48,97,49,32,49,98,48],[97,98,99,32,51,32,48,97,49,32,49,98,50,32,50,99,48],[97,98,32,51,32,48,97,48,32,48,97,49,32,48,98,48,32,49,98,50,32,50,97,50],[98,99,32,50,32,48,98,49,32,49,99,48],[98,99,32,51,32,48,98,49,32,48,99,48,32,49,99,50,32,50,98,50,32,50,99,50],[45,32,49],[97,32,49,32,48,97,48],[97,99,32,52,32,48,97,49,32,48,97,50,32,49,99,51,32,50,97,50,32,51,97,48,32,51,99,51],[97,98,99,32,52,32,48,97,48,32,48,98,49,32,49,98,50,32,49,99,48,32,50,99,51,32,51,97,49],[97,98,32,53,32,48,97,48,32,48,97,49,32,48,98,48,32,49,97,50,32,49,98,50,32,50,97,51,32,50,98,51,32,51,97,52,32,51,98,52],[97,98,100,32,51,32,48,97,49,32,48,100,48,32,49,98,48,32,49,100,50]]
theorem XQ:∀w∈UK,w.length<=60:=by decide
theorem Uc:Pure Tryz.prog TB 151 [] (Fi UK):=by
 refine eN Tryz.func151 rfl (by kernel_rfl) rfl ?_;intro Γ a;(repeat first|refine tA rfl ?_|refine aU rfl ?_|apply Aa);refine aR ⟨_,rfl,rfl⟩
theorem IF(b:List UInt8)(hb:b.length<=2000)(p:Int)(N:0<=p/\p<700000000):Spec Tryz.prog TB 85 [(0,A6 b p)] 1 [.o (.ptr 0 2 0 0)] (Ix b p 410 (λs=>s.es.length<=400)):=by
 obtain⟨c,Q,P,I⟩:=A4 (TB:=TB) b hb p 3 (by omega);obtain⟨w,H,J⟩:=iA (TB:=TB) b hb (p+1) (by omega) UK (by decide) (by decide);have G:=XQ w H;have z:=FG (TB:=TB) w (by omega);have g:∀q:Int,p<=q/\q<=p+2->∃(l j k:Int),(0<=j/\j<=8)/\Spec Tryz.prog TB 88 [(0,A6 b q)] 1 [.o (.ptr 0 2 0 0),AX [3,6,7,5,1,0,12]] (λx σ nx=>x=eI .i64 l/\σ=[(0,A6 b (q+1))]/\nx=1)/\
  Spec Tryz.prog TB 88 [(0,A6 b (q+1))] 1 [.o (.ptr 0 2 0 0),AX [3,2,4,1,5]] (λx σ nx=>x=eI .i64 j/\σ=[(0,A6 b (q+1+1))]/\nx=1)/\
  Spec Tryz.prog TB 88 [(0,A6 b (q+1+1))] 1 [.o (.ptr 0 2 0 0),AX [3,2,4,6]] (λx σ nx=>x=eI .i64 k/\σ=[(0,A6 b (q+1+1+1))]/\nx=1):=λq A=>by
  obtain⟨l,M,u⟩:=CL (TB:=TB) b hb q (by omega) [3,6,7,5,1,0,12] (by decide) (by decide);obtain⟨j,v,t⟩:=CL (TB:=TB) b hb (q+1) (by omega) [3,2,4,1,5] (by decide) (by decide);obtain⟨k,L,r⟩:=CL (TB:=TB) b hb (q+1+1) (by omega) [3,2,4,6] (by decide) (by decide);exact⟨l,j,k,by simp at v;omega,u,t,r⟩
 refine eR Tryz.func85 rfl (by kernel_rfl) rfl ?_;intro Γ a;(repeat first|refine tA rfl ?_|refine aU rfl ?_|apply Aa);(refine pW rfl ?_ rfl (by rfl);refine Af [0] rfl rfl (I) ⟨rfl,by decide,by decide⟩ rfl (by simp[cX,zC,a,cN]) ?_;rintro h d e ⟨rfl,rfl,rfl⟩ _);(repeat first|refine s2 rfl λ_ K=>?_|apply Aa);(refine aC rfl ?_ ?_<;>rintro⟨⟩)
 ·(repeat first|refine tA rfl ?_|refine sP rfl (Uc) rfl ?_|refine aU rfl ?_)
  (refine pW rfl ?_ rfl (by rfl);refine Af [0] rfl rfl (J) ⟨rfl,by decide,by decide⟩ rfl (by simp[cX,zC,a,cN]) ?_;rintro h d e ⟨rfl,rfl,rfl⟩ _);(refine pW rfl ?_ rfl (by rfl);refine Af [] rfl rfl (z) ⟨rfl,by decide,by decide⟩ rfl trivial ?_;rintro h d e ⟨⟨y,ok⟩,F,rfl,rfl,rfl⟩ _);have B:y.es.length<=w.length+1:=F;(repeat first|refine tA rfl ?_|refine aU rfl ?_|apply Aa);(refine aC rfl ?_ ?_<;>rintro⟨⟩)
  ·(repeat first|refine tA rfl ?_|refine aU rfl ?_|apply Aa)
   exact aR ⟨_,rfl,[0],Bi y,[(0,A6 b (p+1+1))],⟨by intro i hi;match i with|0=>rfl,by decide⟩,rfl,by (simp[cX,zC,a,cN]),p+1+1,y,by omega,by show y.es.length<=400;omega,rfl,rfl,rfl⟩
  apply aK;obtain⟨l,j,k,v,u,t,r⟩:=g (p+1+1) (by omega);have f:=Gi (TB:=TB) b hb (p+1+1+1+1+1) (by omega) l j k (by omega);(repeat first|refine tA rfl ?_|refine aU rfl ?_);(refine pW rfl ?_ rfl (by rfl);refine Af [0] rfl rfl (u) ⟨rfl,by decide,by decide⟩ rfl (by simp[cX,zC,a,cN]) ?_;rintro h d e ⟨rfl,rfl,rfl⟩ _);(repeat first|refine tA rfl ?_);(refine pW rfl ?_ rfl (by rfl);refine Af [0] rfl rfl (t) ⟨rfl,by decide,by decide⟩ rfl (by simp[cX,zC,a,cN]) ?_;rintro h d e ⟨rfl,rfl,rfl⟩ _);(repeat first|refine tA rfl ?_);(refine pW rfl ?_ rfl (by rfl);refine Af [0] rfl rfl (r) ⟨rfl,by decide,by decide⟩ rfl (by simp[cX,zC,a,cN]) ?_;rintro h d e ⟨rfl,rfl,rfl⟩ _);(refine pW rfl ?_ rfl (by rfl);refine BR [0] rfl rfl 1 (f) (by decide) ⟨rfl,by decide,by decide⟩ rfl (by simp[cX,zC,a,cN]) ?_;rintro h d e ⟨q,n,A,m,rfl,rfl,rfl⟩ _);(repeat first|refine tA rfl ?_|apply Aa);exact aR ⟨_,rfl,[0],Bi n,[(0,A6 b q)],⟨by intro i hi;match i with|0=>rfl,by decide⟩,rfl,by (simp[cX,zC,a,cN]),q,n,by omega,m.2.2,rfl,rfl,rfl⟩
 apply aK;obtain⟨l,j,k,v,u,t,r⟩:=g (p+1) (by omega);have f:=Gi (TB:=TB) b hb (p+1+1+1+1) (by omega) l j k (by omega);(repeat first|refine tA rfl ?_|refine aU rfl ?_);(refine pW rfl ?_ rfl (by rfl);refine Af [0] rfl rfl (u) ⟨rfl,by decide,by decide⟩ rfl (by simp[cX,zC,a,cN]) ?_;rintro h d e ⟨rfl,rfl,rfl⟩ _);(repeat first|refine tA rfl ?_);(refine pW rfl ?_ rfl (by rfl);refine Af [0] rfl rfl (t) ⟨rfl,by decide,by decide⟩ rfl (by simp[cX,zC,a,cN]) ?_;rintro h d e ⟨rfl,rfl,rfl⟩ _);(repeat first|refine tA rfl ?_);(refine pW rfl ?_ rfl (by rfl);refine Af [0] rfl rfl (r) ⟨rfl,by decide,by decide⟩ rfl (by simp[cX,zC,a,cN]) ?_;rintro h d e ⟨rfl,rfl,rfl⟩ _);(refine pW rfl ?_ rfl (by rfl);refine BR [0] rfl rfl 1 (f) (by decide) ⟨rfl,by decide,by decide⟩ rfl (by simp[cX,zC,a,cN]) ?_;rintro h d e ⟨q,n,A,m,rfl,rfl,rfl⟩ _);(repeat first|refine tA rfl ?_|apply Aa);exact aR ⟨_,rfl,[0],Bi n,[(0,A6 b q)],⟨by intro i hi;match i with|0=>rfl,by decide⟩,rfl,by (simp[cX,zC,a,cN]),q,n,by omega,m.2.2,rfl,rfl,rfl⟩
abbrev Jq(r:Sys×A5×Sys):E:=.t [(true,(Av r.1).map .d),(true,(AU r.2.1).map .d),(true,(Av r.2.2).map .d)]
structure gK (r:Sys×A5×Sys):Prop where
 a:r.1.es.length<=400
 b:KX 41 r.2.1
 c:r.2.2.es.length<=400
def bJ(b:List UInt8)(p m:Int)(x:E)(σ:Ab)(nx:Nat):Prop:=∃(p':Int) (r:Sys×A5×Sys),(p<=p'/\p'<=p+m)/\gK r/\x=Jq r/\σ=[(0,A6 b p')]/\nx=1
theorem KX.upto{m n:Nat}{a:A5}(h:KX m a)(c:m<=n):KX n a:=⟨by have:=h.nx;omega,by have:=h.ac;omega,λr b=>by have:=h.row r b;omega⟩
theorem YV{C X:Int->Sys->Prop}{Y:Prop}(h:∀q s,C q s->X q s)(hk:(∀q s,C q s->X q s)->Y):Y:=hk h
theorem Uf(b:List UInt8)(hb:b.length<=2000)(p:Int)(T:0<=p/\p<600000000):Spec Tryz.prog TB 123 [(0,A6 b p)] 1 [.o (.ptr 0 2 0 0)] (bJ b p 2000):=by
 have S:=NV (TB:=TB) b hb p (by omega);refine eR Tryz.func123 rfl (by kernel_rfl) rfl ?_;intro Γ a;(repeat first|refine tA rfl ?_|refine aU rfl ?_|apply Aa);(refine pW rfl ?_ rfl (by rfl);refine Af [0] rfl rfl (S) ⟨rfl,by decide,by decide⟩ rfl (by simp[cX,zC,a,cN]) ?_;rintro t e f ⟨K,H,N,z,rfl,rfl,rfl⟩ _);(repeat first|refine tA rfl ?_|refine aU rfl ?_|apply Aa);have R:=NV (TB:=TB) b hb K (by omega);(refine pW rfl ?_ rfl (by rfl);refine Af [0] rfl rfl (R) ⟨rfl,by decide,by decide⟩ rfl (by simp[cX,zC,a,cN]) ?_;rintro t e f ⟨x,w,M,y,rfl,rfl,rfl⟩ _);(repeat first|refine tA rfl ?_|refine aU rfl ?_|apply Aa);obtain⟨c,Z,Y,P⟩:=A4 (TB:=TB) b hb x 4 (by omega);(refine pW rfl ?_ rfl (by rfl);refine Af [0] rfl rfl (P) ⟨rfl,by decide,by decide⟩ rfl (by simp[cX,zC,a,cN]) ?_;rintro t e f ⟨rfl,rfl,rfl⟩ _);apply YV (C:=λq s=>(p<=q/\q<=p+1300)/\s.es.length<=400)
 case hk=>
  intro hk;(repeat first|refine s2 rfl λ_ G=>?_|apply Aa);(refine aC rfl ?_ ?_<;>rintro⟨⟩)
  ·(repeat first|refine tA rfl ?_|refine aU rfl ?_)
   have F:=IF (TB:=TB) b hb (x+1) (by omega);(refine pW rfl ?_ rfl (by rfl);refine Af [0] rfl rfl (F) ⟨rfl,by decide,by decide⟩ rfl (by simp[cX,zC,a,cN]) ?_;rintro t e f ⟨g,j,v,n,rfl,rfl,rfl⟩ _);(repeat first|refine tA rfl ?_);apply Aa;refine Aj.Aw [0] [] rfl rfl [(2,.o (.ptr 1 3 0 0)),(3,.o (.ptr 2 3 0 0)),(4,.o (.ptr 3 3 0 0)),(5,.o (.ptr 4 3 0 0)),(6,.o (.ptr 5 3 0 0))] [(0,A6 b g),(1,.cells 25 3 [[.d (iD 0),.d (iD 0),.d (.l [])]]),(2,.cells 29 3 [[.d (iD 0),.d (.l []),.d (.l [])]]),(3,.cells 25 3 [[.d (iD 0),.d (iD 0),.d (.l [])]]),(4,.cells 25 3 [(Av j).map .d]),(5,.cells 25 3 [(Av w).map .d])] [0,1,2,3,4,5] (rl a rfl) (by (simp[cX,zC,a,cN,Ae,eC])) ?_;(try dsimp only[cA,cB]);exact hk g j ⟨by omega,n⟩
  ·apply aK
   generalize v:x+1=g at *;refine Aj.Aw [0] [] rfl rfl [(2,.o (.ptr 1 3 0 0)),(3,.o (.ptr 2 3 0 0)),(4,.o (.ptr 3 3 0 0)),(5,.o (.ptr 4 3 0 0)),(6,.o (.ptr 5 3 0 0))] [(0,A6 b g),(1,.cells 25 3 [[.d (iD 0),.d (iD 0),.d (.l [])]]),(2,.cells 29 3 [[.d (iD 0),.d (.l []),.d (.l [])]]),(3,.cells 25 3 [[.d (iD 0),.d (iD 0),.d (.l [])]]),(4,.cells 25 3 [(Av H).map .d]),(5,.cells 25 3 [(Av w).map .d])] [0,1,2,3,4,5] (rl a rfl) (by (simp[cX,zC,a,cN,Ae,eC])) ?_;(try dsimp only[cA,cB]);exact hk g H ⟨by omega,z.2⟩
 case h =>
  intro g j ⟨v,n⟩;(repeat first|refine tA rfl ?_|refine aU rfl ?_);obtain⟨X,V,U,A⟩:=A4 (TB:=TB) b hb g 4 (by omega);(refine pW rfl ?_ rfl (by rfl);refine Af [0] rfl rfl (A) ⟨rfl,by decide,by decide⟩ rfl (by simp[cX,zC,a,cN]) ?_;rintro t e f ⟨rfl,rfl,rfl⟩ _);apply YV (C:=λq s=>(p<=q/\q<=p+1800)/\s.es.length<=400)
  case hk=>
   intro hk;(repeat first|refine s2 rfl λ_ G=>?_|apply Aa);(refine aC rfl ?_ ?_<;>rintro⟨⟩)
   ·(repeat first|refine tA rfl ?_|refine aU rfl ?_)
    have F:=IF (TB:=TB) b hb (g+1) (by omega);(refine pW rfl ?_ rfl (by rfl);refine Af [0] rfl rfl (F) ⟨rfl,by decide,by decide⟩ rfl (by simp[cX,zC,a,cN]) ?_;rintro t e f ⟨k,r,u,m,rfl,rfl,rfl⟩ _);(repeat first|refine tA rfl ?_);apply Aa;refine Aj.Aw [0] [] rfl rfl [(2,.o (.ptr 1 3 0 0)),(3,.o (.ptr 2 3 0 0)),(4,.o (.ptr 3 3 0 0)),(5,.o (.ptr 4 3 0 0)),(6,.o (.ptr 5 3 0 0))] [(0,A6 b k),(1,.cells 25 3 [[.d (iD 0),.d (iD 0),.d (.l [])]]),(2,.cells 29 3 [[.d (iD 0),.d (.l []),.d (.l [])]]),(3,.cells 25 3 [[.d (iD 0),.d (iD 0),.d (.l [])]]),(4,.cells 25 3 [(Av j).map .d]),(5,.cells 25 3 [(Av r).map .d])] [0,1,2,3,4,5] (rl a rfl) (by (simp[cX,zC,a,cN,Ae,eC])) ?_;(try dsimp only[cA,cB]);exact hk k r ⟨by omega,m⟩
   ·apply aK
    generalize u:g+1=k at *;refine Aj.Aw [0] [] rfl rfl [(2,.o (.ptr 1 3 0 0)),(3,.o (.ptr 2 3 0 0)),(4,.o (.ptr 3 3 0 0)),(5,.o (.ptr 4 3 0 0)),(6,.o (.ptr 5 3 0 0))] [(0,A6 b k),(1,.cells 25 3 [[.d (iD 0),.d (iD 0),.d (.l [])]]),(2,.cells 29 3 [[.d (iD 0),.d (.l []),.d (.l [])]]),(3,.cells 25 3 [[.d (iD 0),.d (iD 0),.d (.l [])]]),(4,.cells 25 3 [(Av j).map .d]),(5,.cells 25 3 [(Av w).map .d])] [0,1,2,3,4,5] (rl a rfl) (by (simp[cX,zC,a,cN,Ae,eC])) ?_;(try dsimp only[cA,cB]);exact hk k w ⟨by omega,y.2⟩
  case h=>
   intro k r ⟨u,m⟩;have Q:=Pb (TB:=TB) b hb k (by omega) (Fp .i64 j.al r.al);(repeat first|refine aU rfl ?_);refine rG ⟨Fj [(0,14),(3,14),(5,15),(7,1048),(8,15),(9,1032),(10,1032),(11,1)],X6 [0,1,2,3,4,5,6,8,7,9,10,11]⟩ (by kernel_rfl) ?_;(repeat first|refine tA rfl ?_);(refine Ag rfl ?_;refine Cw ?_ rfl ⟨rfl,rfl⟩;refine Af [0] rfl rfl (Q) ⟨rfl,by decide,by decide⟩ rfl (by simp[cX,zC,a,cN]) ?_;rintro t e f ⟨I,J,L,B,rfl,rfl,rfl⟩ _;refine⟨Je 4 5 rfl rfl rfl,?_⟩);(refine Ag rfl ?_;refine ZL ?_ rfl ⟨rfl,rfl⟩;refine Et rfl rfl rfl rfl (by rfl) rfl (ce rfl) ?_;refine⟨DO 5 rfl rfl,?_⟩);(refine Ag rfl ?_;refine ZL ?_ rfl ⟨rfl,rfl⟩;refine Et rfl rfl rfl rfl (by rfl) rfl (ce rfl) ?_;refine⟨DO 5 rfl rfl,?_⟩);(repeat first|refine tA rfl ?_|apply Aa);exact aR ⟨_,rfl,[0],Jq (j,J,r),[(0,A6 b I)],⟨by intro i hi;match i with|0=>rfl,by decide⟩,rfl,by (simp[cX,zC,a,cN]),I,(j,J,r),by omega,⟨n,B.upto (by omega),m⟩,rfl,rfl,rfl⟩
structure kG (t:CW):Prop where
 s:t.s.es.length<=401
 q:KX 60 t.q
end Go.Am
namespace Go.Am
open Go
theorem HV{s:Sys}:∀ {u:List Int} {q r:Int},Hh (I8 s) u q r↔Hh (I8 s) (Bl s.al u) q r
 | [],q,r=>Iff.rfl
 | l :: u,q,r=>by
  have c:=λq=>HV (s:=s) (u:=u) (q:=q) (r:=r);by_cases hb:AT s.al l.toNat=true
  ·have e:Bl s.al (l::u)=l::Bl s.al u:=mI hb
   rw[e];exact⟨λ⟨y,a,b⟩=>⟨y,a,(c y).1 b⟩,λ⟨y,a,b⟩=>⟨y,a,(c y).2 b⟩⟩
  ·have e:Bl s.al (l::u)=Bl s.al u:=nC hb
   have d:I8 s q l=[q]:=by show BN s q l=_;unfold BN;rw[if_neg hb]
   rw[e,<-c q];constructor
   ·rintro⟨y,a,b⟩
    rw[d]at a
    obtain rfl:y=q:=by simpa using a
    exact b
   ·intro h
    exact⟨q,by rw[d];simp,h⟩
theorem FW{s:Sys}{u v:List Int}(h:Bl s.al u=Bl s.al v):Cp s u↔Cp s v:=by
 unfold Cp;constructor
 ·rintro⟨q,a⟩;exact⟨q,HV.2 (h▸HV.1 a)⟩
 ·rintro⟨q,a⟩;exact⟨q,HV.2 (h.symm▸HV.1 a)⟩
theorem Ow{a:A5}(ha:AJ a=true):∀ {u:List Int} {q:Int},(∀l∈u,0<=l/\l<6)->0<=q/\q<a.nx.length->Dc (fA a) q u=Dc (fA a) q (Bl a.al u)
 | [],q,_,_=>rfl
 | l :: u,q,c,f=>by
  have d:=c l (by simp);have hg:=Eo ha (q:=q.toNat) (by omega) d.1 d.2;have b:=λq=>Ow ha (u:=u) (q:=q) λm g=>c m (by simp[g]);by_cases hb:AT a.al l.toNat=true
  ·have e:Bl a.al (l::u)=l::Bl a.al u:=mI hb
   rw[e];exact b _ hg
  ·have e:Bl a.al (l::u)=Bl a.al u:=nC hb
   have h:CN a q.toNat l=q:=by unfold CN;rw[if_neg hb];omega
   rw[e]
   show Dc (fA a) (CN a q.toNat l) u=_
   rw[h];exact b _ f
def Eb(u:List Int):Prop:=∀l∈u,0<=l/\l<6
theorem JN{a:A5}(ha:AJ a=true){u v:List Int}(c:Eb u)(b:Eb v)(h:Bl a.al u=Bl a.al v):C5 a u=C5 a v:=by
 have d:=AS ha;unfold C5;rw[Ow ha c ⟨by omega,by omega⟩,Ow ha b ⟨by omega,by omega⟩,h]
theorem RI{al:Int}{u:List Int}(a:Eb u):Eb (Bl al u):=λl b=>a l (lw.1 b).1
theorem RJ{al:Int}{u:List Int}(a:Eb u):∀l∈Bl al u,l∈Ac al:=λl b=>by
 obtain⟨d,c⟩:=lw.1 b;have:=a l d
 obtain⟨n,rfl⟩:∃n:Nat,l=n:=⟨l.toNat,by omega⟩
 exact CK.2 ⟨by omega,c⟩
theorem DK{al:Int}{u:List Int}(a:∀l∈u,l∈Ac al):Eb u:=λl b=>by have:=Ai (a l b);omega
theorem KP{al bl:Int}{u:List Int}(h:∀l∈u,AT al l.toNat=true->AT bl l.toNat=true):Bl al (Bl bl u)=Bl al u:=by
 unfold Bl;rw[o7];refine nv λl a=>?_;cases ha:AT al l.toNat
 ·rfl
 ·rw[h l a ha];rfl
theorem cW{al:Int}:∀ {v w:List Int},w <+: Bl al v->∃v',v' <+: v/\Bl al v'=w:=λ{v w} ⟨z,h⟩=>by
 obtain⟨a,c,rfl,b,_⟩:=List.filter_eq_append_iff.1 h.symm;exact⟨a,o5 _ _,b⟩
theorem aZ{s:Sys}{u v:List Int}(h:u <+: v)(a:Cp s v):Cp s u:=by
 obtain⟨z,rfl⟩:=h;obtain⟨q,b⟩:=a;obtain⟨y,c,_⟩:=EX.1 b;exact⟨y,c⟩
theorem merge{A B:Int->Bool}:∀(u:List Int) {v:List Int},(∀l∈u,A l=true)->(∀l∈v,B l=true)->u.filter B=v.filter A->∃x:List Int,x.filter A=u/\x.filter B=v/\∀l∈x,l∈u\/l∈v
 | [],v,_,b,h=>⟨v,h.symm,nU.2 b,λl n=>.inr n⟩
 | l :: u, v,g,b,h=>by
  have i:=g l (by simp);by_cases c:B l=true
  ·rw [mI c]at h
   obtain⟨k,j,rfl,p,q,o⟩:=List.filter_eq_cons_iff.1 h.symm;obtain⟨x,f,e,d⟩:=merge u (v:=j) (λm a=>g m (by simp[a])) (λm a=>b m (by simp[a])) o.symm;refine⟨k++l::x,?_,?_,λm a=>?_⟩
   ·rw[mO,ow.2 p,mI i,f];rfl
   ·rw[mO,nU.2 λm a=>b m (by simp[a]),mI c,e]
   ·rcases f6.1 a with a|a
    ·exact .inr (by simp[a])
    ·rcases lJ.1 a with rfl|a
     ·exact .inl (by simp)
     ·rcases d m a with h|h
      ·exact .inl (by simp[h])
      ·exact .inr (by simp[h])
  ·rw [nC c]at h
   obtain⟨x,f,e,d⟩:=merge u (v:=v) (λm a=>g m (by simp[a])) b h;refine⟨l::x,?_,?_,λm a=>?_⟩
   ·rw[mI i,f]
   ·rw[nC c,e]
   ·rcases lJ.1 a with rfl|a
    ·exact .inl (by simp)
    ·rcases d m a with h|h
     ·exact .inl (by simp[h])
     ·exact .inr h
theorem Ld{a b:Int}(ha:Bn a=true)(hb:Bn b=true){n:Nat}(c:n<64):AT (Fp .i64 a b) n=(AT a n || AT b n):=by
 unfold Bn at ha hb;simp only[decide_eq_true_eq]at ha hb
 obtain⟨x,rfl⟩:∃x:Nat,a=x:=⟨a.toNat,by omega⟩
 obtain⟨y,rfl⟩:∃y:Nat,b=y:=⟨b.toNat,by omega⟩
 have h:=MX (a:=x) (b:=y) (by omega) (by omega);rw[h.1,EW (by omega) c,EW (by omega) c,EW (by omega) c,nQ]
theorem bR{a b:Int}(ha:Bn a=true)(hb:Bn b=true){n:Nat}(c:n<64):AT (I7 .i64 a b) n=(AT a n && AT b n):=by
 unfold Bn at ha hb;simp only[decide_eq_true_eq]at ha hb
 obtain⟨x,rfl⟩:∃x:Nat,a=x:=⟨a.toNat,by omega⟩
 obtain⟨y,rfl⟩:∃y:Nat,b=y:=⟨b.toNat,by omega⟩
 have h:=NM (a:=x) (b:=y) (by omega) (by omega);have d:x &&& y<64:=Nat.lt_of_le_of_lt oR (by omega);rw[h,EW (by omega) c,EW (by omega) c,EW (by omega) c,oQ]
structure Df (s:Sys) (p:A5) (t:Sys) (al:Int):Prop where
 hs:Ay s=true
 hp:AJ p=true
 ht:Ay t=true
 hal:al=A7 s p t
section
variable {s t:Sys}{p:A5}{al:Int}(hI:Df s p t al)
include hI
theorem Zb{n:Nat}(a:n<64):AT al n=((AT s.al n || AT p.al n) && AT t.al n):=by
 have c:=(AE hI.hs).1;have b:=(AS hI.hp).1;have d:=(AE hI.ht).1;rw[hI.hal];unfold A7;rw[hI.hs,hI.hp,hI.ht];simp only[o9,if_true];rw[bR (J0 c b) d a,Ld c b a]
theorem Sp:Bn al=true:=by
 have g:=(AE hI.hs).1;have f:=(AS hI.hp).1;have i:=(AE hI.ht).1;have h:=J0 g f;rw[hI.hal];unfold A7;rw[hI.hs,hI.hp,hI.ht];simp only[o9,if_true];unfold Bn at *;simp only[decide_eq_true_eq] at *
 obtain⟨x,d⟩:∃x:Nat,Fp .i64 s.al p.al=x:=⟨(Fp .i64 s.al p.al).toNat,by omega⟩
 obtain⟨y,c⟩:∃y:Nat,t.al=y:=⟨t.al.toNat,by omega⟩
 have:=NM (a:=x) (b:=y) (by omega) (by omega);have e:x &&& y<64:=Nat.lt_of_le_of_lt oR (by omega);rw[d,c,this];omega
theorem DU:Bu ⟨s,p,al⟩=true:=by
 unfold Bu;rw[hI.hs,hI.hp,Sp hI];rfl
theorem YG{a:A5}(ha:AJ a=true)(hal:a.al=al)(m:∀u,Eb u->(∀l∈u,AT s.al l.toNat=true\/AT al l.toNat=true)->Cp s u->C5 a u=true->C5 p u=true)
 (k:∀v,(∀l∈v,l∈Ac t.al)->Cp t v->C5 a v=true) {x:List Int} (e:Eb x) (f:∀l∈x,AT s.al l.toNat=true\/AT t.al l.toNat=true) (hs:Cp s x) (ht:Cp t x):C5 p x=true:=by
 have c:=λl (b:l∈x)=>Zb hI (n:=l.toNat) (by have:=e l b;omega);have j:=RI (al:=t.al) e;have r:C5 a (Bl t.al x)=true:=k _ (RJ e) ((FW (by rw[KP λ_ _ h=>h])).1 ht)
 let u:=x.filter λl=>AT s.al l.toNat || AT al l.toNat
 have g:Eb u:=λl f=>e l (lw.1 f).1
 have d:∀ {bl:Int},(∀l∈x,AT bl l.toNat=true->(AT s.al l.toNat || AT al l.toNat)=true)->Bl bl u=Bl bl x:=λ{bl} h=>by
  show List.filter _ (List.filter _ x)=List.filter _ x
  rw[o7];refine nv λl f=>?_;cases hb:AT bl l.toNat
  ·rfl
  ·rw[h l f hb];rfl
 have q:C5 a u=true:=by
  rw[JN ha g j,r]
  rw [hal,d λl _ h=>by rw[h,oa],KP λl b h=>by
   have:=c l b;rw[h]at this
   revert this;cases AT t.al l.toNat<;>simp]
 have o:=m u g (λl b=>by have:=(lw.1 b).2;simpa using this) ((FW (d λl _ h=>by rw[h];rfl)).2 hs) q;rw[<-o];refine JN hI.hp e g (d λl b h=>?_).symm;have:=c l b;rw[h,oa,mz]at this
 rcases f l b with i|i
 ·rw[i];rfl
 ·rw[this,i,oa]
theorem Ts{v:List Int}(y:∀l∈v,l∈Ac t.al)(ht:Cp t v)(G:LS ⟨s,p,al⟩ (DD (Bl al v))=false):∃x,Eb x/\(∀l∈x,AT s.al l.toNat=true\/AT t.al l.toNat=true)/\Cp s x/\Cp t x/\C5 p x=false:=by
 have m:=DK y;obtain⟨u,A,J,I,H⟩:=(HA (DU hI) (RJ m)).1 G
 have d:Eb u:=λl a=>by
  rcases A l a with h|h
  ·have:=DT (DU hI) h;omega
  ·have:=Ai h;omega
 obtain⟨v',w,F⟩:=cW J;have g:∀l∈v',l∈Ac t.al:=λl a=>y l (w.subset a);have b:=λ(l:Int) (h:0<=l/\l<6)=>Zb hI (n:=l.toNat) (by omega)
 have q:∀l∈u,(AT s.al l.toNat || AT al l.toNat)=true:=λl a=>by
  rcases A l a with h|h
  ·rw[(DT (DU hI) h).2.2];rfl
  ·rw[(Ai h).2.2,oa]
 have o:∀l∈v',AT t.al l.toNat=true:=λl a=>(Ai (g l a)).2.2
 have e:u.filter (λl=>AT t.al l.toNat)=v'.filter λl=>AT s.al l.toNat || AT al l.toNat:=by
  have L:u.filter (λl=>AT t.al l.toNat)=Bl al u:=nv λl a=>by
   have c:=q l a;rw[b l (d l a)]at c |-;revert c;cases AT s.al l.toNat<;>cases AT p.al l.toNat<;>cases AT t.al l.toNat<;>simp
  have K:v'.filter (λl=>AT s.al l.toNat || AT al l.toNat)=Bl al v':=nv λl a=>by
   have c:=o l a;rw[b l (DK g l a),c];cases AT s.al l.toNat<;>cases AT p.al l.toNat<;>simp
  rw[L,K,F]
 obtain⟨x,B,k,r⟩:=merge u q o e
 have f:Eb x:=λl a=>by
  rcases r l a with h|h
  ·exact d l h
  ·exact DK g l h
 have i:∀l∈x,AT s.al l.toNat=true\/AT t.al l.toNat=true:=λl a=>by
  rcases r l a with h|h
  ·have c:=q l h
   rw[b l (d l h)]at c;revert c;cases AT s.al l.toNat<;>cases AT p.al l.toNat<;>cases AT t.al l.toNat<;>simp
  ·exact .inr (o l h)
 have j:∀ {bl:Int},(∀l∈x,AT bl l.toNat=true->(AT s.al l.toNat || AT al l.toNat)=true)->Bl bl u=Bl bl x:=λ{bl} h=>by
  rw[<-B]
  show List.filter _ (List.filter _ x)=List.filter _ x
  rw[o7];refine nv λl a=>?_;cases hb:AT bl l.toNat
  ·rfl
  ·rw[h l a hb];rfl
 refine⟨x,f,i,(FW (j λl _ h=>by rw[h];rfl)).1 I,?_,?_⟩
 ·have:=aZ w ht
  refine(FW ?_).1 this;have k:Bl t.al x=v':=k;rw[<-k,KP λ_ _ h=>h]
 ·rw[<-H]
  refine JN hI.hp f d (j λl z h=>?_).symm;have:=b l (f l z);rw[h,oa,mz]at this
  rcases i l z with c|c
  ·rw[c];rfl
  ·rw[this,c,oa]
end
theorem II{al:Int}{u:List Int}(c:Eb u)(h:∀l∈u,AT al l.toNat=true):∀l∈u,l∈Ac al:=λl a=>by
 have:=c l a
 obtain⟨n,rfl⟩:∃n:Nat,l=n:=⟨l.toNat,by omega⟩
 have b:=h _ a;rw[i7]at b;exact CK.2 ⟨by omega,b⟩
theorem Nl{g:Gr}{w:List Int}(h:Cs g=some w):over g w/\NL g w/\∀u,over g u->NL g u->¬slt u w:=by
 have:=C6 g;rw[h]at this;exact this
theorem Vj{g:Gr}(h:Cs g=none):∀u,over g u->¬NL g u:=by
 have:=C6 g;rw[h]at this;exact this
theorem JE{s:Sys}{a p:A5}{w:List Int}(h:Dt s a p=some w):BQ s a p=true/\(∀l∈w,l∈Ac (Fp .i64 s.al a.al))/\Cp s w/\C5 a w=true/\C5 p w=false:=by
 unfold Dt at h;by_cases b:BQ s a p=true
 ·rw[if_pos b]at h
  obtain⟨c,d,_⟩:=Nl h;exact⟨b,c,(Y8 b c).1 d⟩
 ·rw[if_neg b]at h;cases h
theorem Jt{s:Sys}{a p:A5}(d:BQ s a p=true):Gw s a p=true↔∀w,(∀l∈w,l∈Ac (Fp .i64 s.al a.al))->Cp s w->C5 a w=true->C5 p w=true:=by
 unfold Gw Dt;rw[d,mz,if_pos rfl];constructor
 ·intro h w g c f
  cases b:Cs (Jc (Dq s a p)) with
  | some x=>rw[b]at h;cases h
  | none=>
   have:=Vj b w g;rw[Y8 d g]at this;cases e:C5 p w
   ·exact absurd ⟨c,f,e⟩ this
   ·rfl
 ·intro h
  cases b:Cs (Jc (Dq s a p)) with
  | none=>rfl
  | some x=>
   obtain⟨c,f,_⟩:=Nl b;obtain⟨e,j,i⟩:=(Y8 d c).1 f;rw[h x c e j]at i;cases i
theorem UO{l:List Sys}{p:A5}{w:List Int}(h:Cn l p=some w):(AY l && AJ p)=true/\(∀m∈w,m∈Ac (Bz l))/\(∀s∈l,Cp s w)/\C5 p w=false:=by
 unfold Cn at h;by_cases a:(AY l && AJ p)=true
 ·rw[if_pos a]at h
  obtain⟨b,c,_⟩:=Nl h;exact⟨a,b,(Y7 a b).1 c⟩
 ·rw[if_neg a]at h;cases h
theorem FN{l:List Sys}{p:A5}(c:(AY l && AJ p)=true):Dm l p=true↔∀w,(∀m∈w,m∈Ac (Bz l))->(∀s∈l,Cp s w)->C5 p w=true:=by
 unfold Dm Cn;rw[c,mz,if_pos rfl];constructor
 ·intro h w e b
  cases a:Cs (Jc (CC l p)) with
  | some x=>rw[a]at h;cases h
  | none=>
   have:=Vj a w e;rw[Y7 c e]at this;cases d:C5 p w
   ·exact absurd ⟨b,d⟩ this
   ·rfl
 ·intro h
  cases a:Cs (Jc (CC l p)) with
  | none=>rfl
  | some x=>
   obtain⟨b,g,_⟩:=Nl a;obtain⟨d,f⟩:=(Y7 c b).1 g;rw[h x b d]at f;cases f
theorem RX(n:Nat)(a:n<64):AT 0 n=false:=by
 have:=EW (s:=0) (n:=n) (by omega) a;rw[show ((0:Nat):Int)=0 from rfl]at this;rw[this];simp
theorem Dx{t:Sys}:AY [t]=Ay t:=by simp[AY]
theorem Ei{s t:Sys}:AY [s,t]=(Ay s && Ay t):=by simp[AY]
theorem MQ{t:Sys}(ht:Ay t=true){n:Nat}(a:n<64):AT (Bz [t]) n=AT t.al n:=by
 unfold Bz;rw[Dx,ht,if_pos rfl]
 show AT (Fp .i64 0 t.al) n=_
 rw[Ld (by decide) (AE ht).1 a,RX n a,o8]
theorem Iz{s t:Sys}(hs:Ay s=true)(ht:Ay t=true){n:Nat}(a:n<64):AT (Bz [s,t]) n=(AT s.al n || AT t.al n):=by
 unfold Bz;rw[Ei,hs,ht,o9,if_pos rfl]
 show AT (Fp .i64 (Fp .i64 0 s.al) t.al) n=_
 have b:Bn 0=true:=by decide
 rw[Ld (J0 b (AE hs).1) (AE ht).1 a,Ld b (AE hs).1 a,RX n a,o8]
theorem QX{t:Sys}(ht:Ay t=true){u:List Int}:(∀l∈u,l∈Ac (Bz [t]))↔∀l∈u,l∈Ac t.al:=by
 constructor
 ·intro h
  have a:=DK h
  exact II a λl b=>by rw[<-MQ ht (by have:=a l b;omega)];exact(Ai (h l b)).2.2
 ·intro h
  have a:=DK h
  exact II a λl b=>by rw[MQ ht (by have:=a l b;omega)];exact(Ai (h l b)).2.2
theorem VN{s t:Sys}(hs:Ay s=true)(ht:Ay t=true){u:List Int}:(∀l∈u,l∈Ac (Bz [s,t]))↔Eb u/\∀l∈u,AT s.al l.toNat=true\/AT t.al l.toNat=true:=by
 constructor
 ·intro h
  have a:=DK h;refine⟨a,λl b=>?_⟩;have:=(Ai (h l b)).2.2;rw[Iz hs ht (by have:=a l b;omega),lT]at this;exact this
 ·rintro⟨a,h⟩
  exact II a λl b=>by rw[Iz hs ht (by have:=a l b;omega),lT];exact h l b
theorem dO{a b:Int}(ha:Bn a=true)(hb:Bn b=true){u:List Int}:(∀l∈u,l∈Ac (Fp .i64 a b))↔Eb u/\∀l∈u,AT a l.toNat=true\/AT b l.toNat=true:=by
 constructor
 ·intro h
  have c:=DK h;refine⟨c,λl d=>?_⟩;have:=(Ai (h l d)).2.2;rw[Ld ha hb (by have:=c l d;omega),lT]at this;exact this
 ·rintro⟨c,h⟩
  exact II c λl d=>by rw[Ld ha hb (by have:=c l d;omega),lT];exact h l d
theorem IV{s t:Sys}{w:List Int}:(∀x∈[s,t],Cp x w)↔Cp s w/\Cp t w:=by simp
theorem IK{t:Sys}{w:List Int}:(∀x∈[t],Cp x w)↔Cp t w:=by simp
theorem Se{s t:Sys}{p a:A5}(h:DH s t p a=0):Dm [s,t] p=true/\Gw s a p=true/\Dm [t] a=true:=by
 unfold DH at h;split at h
 ·cases h
 rename_i c;split at h
 ·cases h
 rename_i m;split at h
 ·cases h
 rename_i G;split at h
 ·cases h
 rename_i F
 have hk:Gw s a p=true:=by simpa using G
 have b:Dm [t] a=true:=by simpa using F
 refine⟨?_,hk,b⟩;rw[not_or]at c
 have n:(Ay s && AJ p && Ay t)=true:=by
  have o:=c.1;unfold A7 at o;split at o
  ·assumption
  ·omega
 have ha:AJ a=true:=by simpa using c.2
 simp only[d4]at n;obtain⟨⟨e,f⟩,d⟩:=n;have hal:a.al=A7 s p t:=Classical.not_not.1 m
 have hI:Df s p t a.al:=⟨e,f,d,hal⟩
 have y:BQ s a p=true:=by unfold BQ;rw[e,ha,f];rfl
 have l:(AY [t] && AJ a)=true:=by rw[Dx,d,ha];rfl
 have k:(AY [s,t] && AJ p)=true:=by rw[Ei,e,d,f];rfl
 rw[Jt y]at hk;rw[FN l]at b;rw[FN k];intro w x z;obtain⟨A,B⟩:=(VN e d).1 x;obtain⟨r,q⟩:=IV.1 z;exact YG hI ha rfl (λu i j c m=>hk u ((dO (AE e).1 (AS ha).1).2 ⟨i,j⟩) c m) (λv g c=>b v ((QX d).2 g) (IK.2 c)) A B r q
theorem RF{s t:Sys}{p:A5}{al:Int}(hI:Df s p t al){v:List Int}(g:∀l∈v,l∈Ac t.al)(ht:Cp t v)(h:LS ⟨s,p,al⟩ (DD (Bl al v))=false):Dm [s,t] p=false:=by
 have a:(AY [s,t] && AJ p)=true:=by rw[Ei,hI.hs,hI.ht,hI.hp];rfl
 obtain⟨x,f,e,d,c,b⟩:=Ts hI g ht h;cases hk:Dm [s,t] p
 ·rfl
 ·rw[FN a]at hk
  rw[hk x ((VN hI.hs hI.ht).2 ⟨f,e⟩) (IV.2 ⟨d,c⟩)]at b;cases b
theorem Yw{a:A5}{w:List Int}(b:∀l∈w,l∈Ac a.al):LA a (DD w)=C5 a w:=by
 unfold C5;rw[P4 w 0 b];rfl
theorem UQ{s t:Sys}{p a:A5}{al:Int}(hI:Df s p t al)(ha:AJ a=true)(hal:a.al=al){u:List Int}(h:Dt s a p=some u):(∀l∈Bl al u,l∈Ac al)/\LA a (DD (Bl al u))=true/\LS ⟨s,p,al⟩ (DD (Bl al u))=false:=by
 obtain⟨n,i,hs,k,j⟩:=JE h;have e:=DK i;have c:=RJ (al:=al) e;have d:=((dO (AE hI.hs).1 (AS ha).1).1 i).2;refine⟨c,?_,(HA (DU hI) c).2 ⟨u,λl b=>?_,oz _,hs,j⟩⟩
 ·rw[Yw (by rw[hal];exact c),<-k]
  exact JN ha (RI e) e (by rw[hal,KP λ_ _ h=>h])
 ·have hb:=e l b
  rw[hal]at d;by_cases f:AT al l.toNat=true
  ·exact .inr (II (u:=[l]) (by intro m b;simp at b;subst b;exact hb) (by intro m b;simp at b;subst b;exact f) l (by simp))
  ·refine .inl ?_
   unfold CR;refine lw.2 ⟨?_,by simpa using f⟩;have g:AT s.al l.toNat=true:=(d l b).resolve_right f;exact II (u:=[l]) (by intro m b;simp at b;subst b;exact hb) (by intro m b;simp at b;subst b;exact g) l (by simp)
theorem Gg{t:Sys}{a:A5}{v:List Int}(h:Cn [t] a=some v):Ay t=true/\AJ a=true/\(∀l∈v,l∈Ac t.al)/\Cp t v/\C5 a v=false:=by
 obtain⟨b,c,hs,d⟩:=UO h;rw[d4,Dx]at b;exact⟨b.1,b.2,(QX b.1).1 c,IK.1 hs,d⟩
theorem TQ{t:Sys}{a:A5}{v:List Int}(h:Cn [t] a=some v):(∀l∈Bl a.al v,l∈Ac a.al)/\LA a (DD (Bl a.al v))=false:=by
 obtain⟨i,f,e,g,d⟩:=Gg h;have c:=DK e;have b:=RJ (al:=a.al) c;refine⟨b,?_⟩;rw[Yw b,<-d];exact JN f (RI c) c (by rw[KP λ_ _ h=>h])
end Go.Am
namespace Go.Am
open Go Go.Proofs
def Ej(n:Nat)(p:W->Prop):Prop:=∃l:List W,l.length<=n/\∀w,p w->w∈l
theorem Ej.or{a b:Nat}{p q:W->Prop}(h:Ej a p)(f:Ej b q):Ej (a+b) (λw=>p w\/q w):=by
 obtain⟨l,i,e⟩:=h;obtain⟨l',g,d⟩:=f;exact⟨l++l',by simp;omega,λw c=>f6.2 (c.imp (e w) (d w))⟩
theorem Ej.sub{a b:Nat}{p q:W->Prop}(h:Ej a p)(hs:∀w,q w->p w)(hb:a<=b):Ej b q:=by
 obtain⟨l,e,d⟩:=h;exact⟨l,by omega,λw c=>d w (hs w c)⟩
theorem Ej.none{n:Nat}{p:W->Prop}(h:∀w,¬p w):Ej n p:=⟨[],by simp,λw a=>absurd a (h w)⟩
theorem NX{α β:Type}(f:α->List β)(b:Nat):∀(l:List α),(∀x∈l,(f x).length<=b)->(l.flatMap f).length<=l.length*b
 | [],_=>by simp
 | x::l,h=>by
  have d:=NX f b l λy a=>h y (by simp[a]);have c:=h x (by simp);rw[nK,mF,me,Nat.succ_mul];omega
theorem Ej.ex{α:Type}{n b:Nat}{p:W->Prop}{q:α->W->Prop}(l:List α)(g:l.length<=n)(f:∀x∈l,Ej b (q x))(h:∀w,p w->∃x∈l,q x w):Ej (n*b) p:=by
 classical
 have d:∀x:α,∃k:List W,x∈l->k.length<=b/\∀w,q x w->w∈k:=λx=>by
  by_cases a:x∈l
  ·obtain⟨k,j,i⟩:=f x a;exact⟨k,λ_=>⟨j,i⟩⟩
  ·exact⟨[],λh=>absurd h a⟩
 have hg:=λx=>Classical.choose_spec (d x);refine⟨l.flatMap λx=>Classical.choose (d x),lm (NX _ b l λx a=>(hg x a).1) (l9 b g),λw e=>?_⟩;obtain⟨x,a,c⟩:=h w e;exact mL.2 ⟨x,a,(hg x a).2 w c⟩
theorem Ej.map{α:Type}{n:Nat}{p:W->Prop}(f:α->W)(l:List α)(c:l.length<=n)(h:∀w,p w->∃x∈l,w=f x):Ej n p:=
 ⟨l.map f,by simpa using c,λw b=>by obtain⟨x,a,rfl⟩:=h w b;exact d8.2 ⟨x,a,rfl⟩⟩
theorem cG(al:Int):(Bg al).length<=6:=by
 unfold Bg;rw[f7];exact AQ al 6
theorem Li{al:Int}{b:Nat}{t:A9}(h:Gb al b t):Ej 1764 (Mb (Bg al) t):=by
 have c:=h.rl;have g:=h.cl;refine Ej.ex (n:=12) (b:=147) (q:=λr v=>∃m:W,(m=[]\/∃l∈Bg al,m=[l])/\∃x:W,(x=[]\/x∈t.cols)/\v=r++m++x) t.rows c (λr _=>?_) λw a=>a;refine Ej.ex (n:=7) (b:=21) (q:=λm v=>∃x:W,(x=[]\/x∈t.cols)/\v=r++m++x) ([]::(Bg al).map λl=>[l]) (by have:=cG al;simp;omega) (λm _=>?_) λw a=>?_
 ·exact Ej.map (λx=>r++m++x) ([]::t.cols) (by simp;omega) λw ⟨x,d,a⟩=>⟨x,by simpa using d,a⟩
 ·obtain⟨m,e,i⟩:=a
  refine⟨m,?_,i⟩
  rcases e with rfl|⟨l,f,rfl⟩
  ·simp
  ·exact lU _ (d8.2 ⟨l,f,rfl⟩)
theorem PB{L:W->Bool}{ls:List UInt8}:∀(n:Nat) (t:A9),(Ep L ls n t).length<=n+1
 | 0,t=>by simp[Ep]
 | n + 1,t=>by
  unfold Ep
  cases Bx L ls t with
  | none=>simp
  | some w=>
   dsimp only;split
   ·simp
   ·have:=PB (L:=L) (ls:=ls) n ⟨t.rows++[w],t.cols⟩
    simp;omega
theorem Px{L:W->Bool}{al:Int}{b:Nat}{t:A9}(h:Gb al b t):Ej 24696 (λv=>∃y∈Ep L (Bg al) 13 t,Mb (Bg al) y v):=
 Ej.ex (n:=14) (b:=1764) (q:=λy v=>Mb (Bg al) y v) (Ep L (Bg al) 13 t) (PB 13 t) (λy a=>Li (h.grow a)) λw c=>c
theorem Xg{al:Int}{b:Nat}{t:A9}(h:Gb al b t){w:W}(e:w.length<=20000):Ej 260013 (Vl t w):=by
 have c:=h.rl
 refine Ej.ex (n:=13) (b:=20001) (q:=λr v=>∃k:Nat,v=r++w.drop k) ([]::t.rows) (by simp;omega) (λr _=>?_) λv ⟨r,d,a⟩=>⟨r,by simpa using d,a⟩
 refine Ej.map (λk=>r++w.drop k) (List.range 20001) (by simp) λv ⟨k,a⟩=>?_;by_cases hk:k<20001
 ·exact⟨k,lS.2 hk,a⟩
 ·exact⟨20000,by simp,by rw[a,mN (by omega),mN (by omega)]⟩
theorem Xf{L:W->Bool}{al:Int}{t:A9}(h:Gb al 20000 t){w:W}(f:AO (Bg al) w)(g:w.length<=20000):Ej 286473 (Vk L (Bg al) t w):=by
 refine((Li h).or ((Xg h g).or (b:=24696) ?_)).sub (b:=286473) (λv e=>e) (by omega)
 cases hs:Dd L t w with
 | none=>exact .none λv ⟨x,a,_⟩=>by cases a
 | some x=>
  cases ha:GH t x with
  | none=>exact .none λv ⟨x',a,u,d,_⟩=>by injection a with a;subst a;rw[ha]at d;cases d
  | some u=>
   obtain⟨p,_,rfl⟩:=Hx hs
   exact(Px (L:=L) (MO h (λc i=>f c (by simp[i])) (by simp at g;omega) ha)).sub (λv ⟨x',a,u',d,e⟩=>by
    injection a with a;subst a
    rw[ha]at d;injection d with d;subst d;exact e) (i9 _)
def okB(al:Int)(w:W):Prop:=AO (Bg al) w/\w.length<=50000
theorem Ih(al:Int):Ql (okB al) al:=λw b a=>⟨b,a⟩
theorem WG{α:Type}:∀(l m:List α),l.Nodup->(∀x∈l,x∈m)->l.length<=m.length
 | [],_,_,_=>by simp
 | x :: l,m,d,hs=>by
  obtain⟨a,b,rfl⟩:=List.append_of_mem (hs x (by simp));rw[List.nodup_cons]at d
  have h:=WG l (a++b) d.2 λy e=>by
   have c:=hs y (lU _ e);simp only[f6,lJ]at c |-
   rcases c with c|rfl|c
   ·exact .inl c
   ·exact absurd e d.1
   ·exact .inr c
  simp at h |-;omega
theorem bY{t:CW}{n:Nat}{p:W->Prop}{al:Int}(h:Ej n p)(j:n<=20000000)(hb:∀w,p w->okB al w):gb t p:=by
 obtain⟨k,hk,e⟩:=h;intro l c f
 have a:l ⊆ CT t::(k.filter λw=>w.length<=50000).flatMap λw=>(List.range 50001).map λi=>FV t (CT t) (w.take i):=λF g=>by
  rcases f F g with rfl|⟨u,v,d,rfl⟩
  ·simp
  ·have b:=(hb _ d).2
   refine lU _ (mL.2 ⟨u++v,lw.2 ⟨e _ d,by simpa using b⟩,d8.2 ⟨u.length,lS.2 (by simp at b;omega),by simp⟩⟩)
 have b:=WG _ _ c a;have q:=NX (λw:W=>(List.range 50001).map λi=>FV t (CT t) (w.take i)) 50001 (k.filter λw=>w.length<=50000) (λx _=>by simp);have o:(k.filter λw=>w.length<=50000).length<=n:=lm (nr _ _) hk;rw[me]at b;have m:(k.filter λw=>decide (w.length<=50000)).length*50001<=20000000*50001:=l9 _ (by omega);omega
theorem iB{al:Int}{w:W}(h:okB al w):gp al w:=⟨h.1,lm h.2 (by omega)⟩
theorem dA{te:HS}{n:Nat}{p:W->Prop}(h:Ej n p)(c:n<=20000000)(hb:∀w,p w->okB (Bc te) w):(∀w,p w->gp (Bc te) w)/\RD te p:=by
 refine⟨λw b=>iB (hb w b),?_⟩;obtain⟨kn,a,s,q,al⟩:=te
 cases kn with
 | true=>intro h;cases h
 | false=>exact λ_=>bY h c hb
end Go.Am
namespace Go.Am
open Go Go.Proofs
set_option maxHeartbeats 1000000
set_option maxRecDepth 4000
attribute [local irreducible] A1 Cr Lex Bs Aj Spec
variable {TB:BA}
theorem KI{te:HS}(a:CU te=true):Bn (Bc te)=true:=by
 obtain⟨kn,p,s,q,al⟩:=te
 cases kn with
 | true=>exact(AS a).1
 | false=>
  have ht:Bu ⟨s,q,al⟩=true:=a;unfold Bu at ht;simp only[d4]at ht;exact ht.2.2
noncomputable def Jp(te:HS)(x:A9):Option A9:=if (CU te && BK (Cv te) (Bc te) x)=true then BJ (Cv te) (Bg (Bc te)) 13 x else none
noncomputable def QS(te:HS):Option A9:=if CU te=true then BJ (Cv te) (Bg (Bc te)) 13 BU else none
section
variable {tabs:List (Nat×Obj)}[hTb:CG ⟨tabs,none⟩]{te:HS}
include hTb
end
noncomputable def LR(te:HS)(w:W):Bool:=if te.kn then eb te.p w else aO ⟨te.s,te.q,te.al⟩ w
def JD(te:HS):Int:=if CU te then Bc te else -1
theorem XM{t:CW}(ht:Bu t=true):RK (aO t) (LS t) t.al:=λw b c=>by
 have a:Bn t.al=true:=by unfold Bu at ht;simp only[d4]at ht;exact ht.2.2
 unfold aO;rw[ht,FP b c a];rfl
theorem bn{te:HS}(a:CU te=true):RK (LR te) (Cv te) (Bc te):=by
 obtain⟨kn,p,s,q,al⟩:=te
 cases kn with
 | true=>exact YA a
 | false=>exact XM (t:=⟨s,q,al⟩) a
theorem XU{A:W->Bool}{t:A9}:BK A (-1) t=false:=by
 cases h:BK A (-1) t
 ·rfl
 ·have:=(KO h).1.pos;omega
theorem OT{A L:W->Bool}{al:Int}(h:RK A L al)(t:A9):BK A al t=BK L al t:=by
 unfold BK;cases hs:LP al t
 ·rfl
 ·rw[GY h (Td hs).bd (by omega)]
theorem Ff(te:HS)(x:A9):(CU te && BK (Cv te) (Bc te) x)=BK (LR te) (JD te) x:=by
 unfold JD;cases a:CU te
 ·simp[XU]
 ·rw[if_pos rfl,mz,OT (bn a)]
theorem EU{te:HS}{x:A9}(h:BK (LR te) (JD te) x=true):CU te=true/\JD te=Bc te/\BK (Cv te) (Bc te) x=true/\dY (Bc te) x/\(AW (Cv te) x).Nodup:=by
 rw[<-Ff,d4]at h;exact⟨h.1,by unfold JD;rw[if_pos h.1],h.2,(KO h.2).1,(KO h.2).2⟩
theorem VD{al:Int}(ha:Bn al=true){w:W}(h:AO (Bg al) w)(a:w.length<=4000):Ju al w=true:=by
 unfold Ju;rw[FP h (by omega) ha,decide_eq_true a];rfl
theorem Zo{L:W->Bool}{x:A9}(h:(AW L x).Nodup){i k:Nat}{u w:W}(hi:x.rows[i]?=some u)(hk:x.rows[k]?=some w)(a:k<i):marks L x.cols u≠marks L x.cols w:=by
 intro b
 have d:(AW L x)[i]?=some (marks L x.cols u):=by unfold AW;simp[hi]
 have c:(AW L x)[k]?=some (marks L x.cols u):=by unfold AW;simp[hk,b]
 obtain⟨j,g⟩:=am.1 d;obtain⟨f,e⟩:=am.1 c;exact lN.1 h k i f j a (by rw[g,e])
theorem Ns{L:W->Bool}{ls:List UInt8}:∀ {n:Nat} {t u:A9},TOk L ls t->BJ L ls n t=some u->TOk L ls u/\Bx L ls u=none/\t.rows <+: u.rows/\u.cols=t.cols/\(t.rows.length<=12->u.rows.length<=12)/\(Bx L ls t≠none->t.rows.length<u.rows.length)/\(Bx L ls t=none->u=t)
 | 0,t,u,_,h=>by simp[BJ]at h
 | n + 1,t,u,hk,h=>by
  unfold BJ at h
  cases a:Bx L ls t with
  | none=>
   rw[a]at h
   injection h with h;subst h
   exact⟨hk,a,oz _,rfl,id,λh=>absurd rfl h,λ_=>rfl⟩
  | some w=>
   rw[a]at h;dsimp only at h;split at h
   ·cases h
   ·rename_i i
    obtain⟨g,f,b,e,d,k,j⟩:=Ns (hk.push a) h;have c:=(o5 t.rows [w]).trans b;refine⟨g,f,c,e,λh=>d (by simp;omega),λ_=>?_,λh=>by cases h⟩;have:=b.length_le;simp at this;omega
theorem bT{te:HS}{x u:A9}(h:BK (LR te) (JD te) x=true)(d:Jp te x=some u):BK (LR te) (JD te) u=true/\Bx (Cv te) (Bg (Bc te)) u=none/\x.rows <+: u.rows/\u.cols=x.cols/\(Bx (Cv te) (Bg (Bc te)) x≠none->x.rows.length<u.rows.length)/\(Bx (Cv te) (Bg (Bc te)) x=none->u=x):=by
 obtain⟨e,r,g,b,q⟩:=EU h;unfold Jp at d;rw[e,g,mz,if_pos rfl]at d;obtain⟨f,n,m,c,l,k,j⟩:=Ns (HB g) d;refine⟨?_,n,m,c,k,j⟩;rw[<-Ff,e,mz];have o:=l b.rl;refine LX (KI e) b.pos f o (by rw[c];exact b.cl) (λw a=>?_) (λw a=>by rw[c]at a;exact(b.cw w a).1);obtain⟨i,hi,p⟩:=lO a;have:=f.short i w (by rw[d5 hi,p]);omega
theorem Lf{te:HS}{x:A9}(h:BK (LR te) (JD te) x=true):(CU te && Dv (Cv te) (Bc te) x)=(Bx (Cv te) (Bg (Bc te)) x).isNone:=by
 obtain⟨b,e,a,d,c⟩:=EU h;rw[b,O7,a];rfl
structure lD (n m:Nat) (t:A9):Prop where
 rl:t.rows.length<=n
 cl:t.cols.length<=n
 rb:∀w∈t.rows,w.length<=m
 cb:∀w∈t.cols,w.length<=m
section
variable {P:Program}{Γ:Ctx}{d:Option Tmp}{ty:TypeId}{pos:String}{af:Array Edge}{g:Option (Nat×Bool)}{L:List (Nat×E)}{σ:Ab}{nx:Nat}
end
noncomputable def Nj(te:HS)(x:A9)(w:W):Option A9:=if (CU te && BK (Cv te) (Bc te) x && Ju (Bc te) w)=true then GH x w else none
section
variable {tabs:List (Nat×Obj)}[hTb:CG ⟨tabs,none⟩]{te:HS}
include hTb
end
noncomputable def Hy(te:HS)(x:A9)(w:W):Option W:=if (CU te && Dv (Cv te) (Bc te) x && Ju (Bc te) w)=true then Dd (Cv te) x w else none
noncomputable def Jh(te:HS)(x:A9)(w:W):Option A9:=if (CU te && Dv (Cv te) (Bc te) x && Ju (Bc te) w)=true then Fv (Cv te) (Bg (Bc te)) x w else none
section
variable {tabs:List (Nat×Obj)}[hTb:CG ⟨tabs,none⟩]{te:HS}
include hTb
end
end Go.Am
namespace Go.Am
open Go Go.Proofs
set_option maxHeartbeats 1000000
set_option maxRecDepth 4000
attribute [local irreducible] A1 Cr Lex Bs Aj Spec
variable {tabs:List (Nat×Obj)}
theorem cC{al:Int}{w:W}(h:Ju al w=true):AO (Bg al) w/\w.length<=4000:=by
 unfold Ju at h;rw[d4,decide_eq_true_eq]at h;exact⟨HC h.1,h.2⟩
theorem Uj{L:W->Bool}{cols:List W}{c w:W}:marks L (cols++[c]) w=marks L cols w++[Uk (L (w++c))]:=by simp[marks]
theorem TJ{te:HS}{x u:A9}{w:W}(h:Nj te x w=some u):BK (LR te) (JD te) x=true/\AO (Bg (Bc te)) w/\w.length<=4000/\u=⟨x.rows,x.cols++[w]⟩/\BK (LR te) (JD te) u=true/\Nj te u w=none:=by
 unfold Nj at h;by_cases d:(CU te && BK (Cv te) (Bc te) x && Ju (Bc te) w)=true
 ·rw [if_pos d]at h
  rw[Ff,d4]at d;obtain⟨g,o⟩:=d;obtain⟨m,l⟩:=cC o;obtain⟨k,t,s,f,j⟩:=EU g;unfold GH at h;split at h
  ·cases h
  rename_i i
  injection h with h
  subst h;rw[not_or]at i;have hk:=HB s;have p:=f.cl;have q:=f.c1;refine⟨g,m,l,rfl,?_,?_⟩
  ·rw [<-Ff,k,mz]
   refine LX (KI k) f.pos ⟨hk.r0,by rw[d9 (by omega)];exact hk.c0,hk.pre,hk.onR,λc d=>?_,?_,?_⟩ f.rl (by simp;omega) (λr n=>(f.rw r n).1) (λc d=>?_)
   ·rcases f6.1 d with d|d
    ·exact hk.onC c d
    ·simp at d;subst d;exact m
   ·have e:(AW (Cv te) ⟨x.rows,x.cols++[w]⟩).map List.dropLast=AW (Cv te) x:=by
     unfold AW;rw[mu]
     exact nh λr _=>by simp[d7,Uj]
    rw[<-e]at j;exact(mR.1 j).imp λh e=>h (by rw[e])
   ·exact nJ.2 ⟨hk.ndC,by simp,λa ha b hb=>by simp at hb;subst hb;exact λe=>i.2 (e▸ha)⟩
   ·rcases f6.1 d with d|d
    ·exact(f.cw c d).1
    ·simp at d;subst d;exact l
  ·unfold Nj GH
   split
   ·rw[if_pos (.inr (by simp))]
   ·rfl
 ·rw[if_neg d]at h;cases h
end Go.Am
namespace Go.Am
open Go Go.Proofs
set_option maxHeartbeats 1000000
set_option maxRecDepth 4000
attribute [local irreducible] A1 Cr Lex Bs Aj Spec
variable {tabs:List (Nat×Obj)}
end Go.Am
namespace Go.Am
open Go Go.Proofs
set_option maxHeartbeats 1000000
set_option maxRecDepth 4000
attribute [local irreducible] A1 Cr Lex Bs Aj Spec
variable {tabs:List (Nat×Obj)}
theorem ZA{L:W->Bool}{ls:List UInt8}{t:A9}(g:t.cols=[[]])(c:2<=t.rows.length)(e:(AW L t).Nodup):Bx L ls t=none:=by
 cases d:Bx L ls t with
 | none=>rfl
 | some w=>
  exfalso;have f:=(Jy d).2;obtain⟨a,ha⟩:=get_some (l:=t.rows) (k:=0) (by omega);obtain⟨b,hb⟩:=get_some (l:=t.rows) (k:=1) (by omega);have ne:=Zo e hb ha (by omega);have h:marks L t.cols a∈AW L t:=List.mem_map_of_mem (co ha);have c:marks L t.cols b∈AW L t:=List.mem_map_of_mem (co hb)
  have hk:∀v:W,marks L t.cols v=[Uk (L v)]:=λv=>by rw[g];simp[marks]
  rw[hk]at f h c ne;rw[hk]at ne;cases m:L a<;>cases j:L b<;>cases i:L w<;>simp_all
theorem iw(L:W->Bool)(ls:List UInt8):∃u,BJ L ls 13 BU=some u/\u.cols=[[]]/\u.rows.length<=2:=by
 unfold BJ
 cases h:Bx L ls BU with
 | none=>exact⟨BU,rfl,rfl,by decide⟩
 | some w=>
  dsimp only;rw[if_neg (by decide)];unfold BJ;have hk:=(P9 L ls).push h;have a:=ZA (ls:=ls) (t:=⟨BU.rows++[w],BU.cols⟩) rfl (by simp[BU]) hk.nd;rw[a];exact⟨_,rfl,rfl,by simp[BU]⟩
theorem fi{te:HS}(h:CU te=true):∃u,QS te=some u/\BK (LR te) (JD te) u=true/\Bx (Cv te) (Bg (Bc te)) u=none/\u.cols=[[]]/\u.rows.length<=2/\BZ (Cv te) (Bg (Bc te)) u/\0<=Bc te:=by
 obtain⟨u,e,c,g⟩:=iw (Cv te) (Bg (Bc te));obtain⟨b,d,o,n,m,l,k⟩:=Ns (P9 _ _) e;have ha:=KI h
 have f:0<=Bc te:=by unfold Bn at ha;simp only[d4,decide_eq_true_eq]at ha;omega
 refine⟨u,by unfold QS;rw[if_pos h,e],?_,d,c,g,⟨b,Hr d⟩,f⟩;rw[<-Ff,h,mz];refine LX ha f b (by omega) (by rw[c];decide) (λw a=>?_) (λw a=>by rw[c]at a;simp at a;subst a;simp);obtain⟨i,hi,j⟩:=lO a;have:=b.short i w (by rw[d5 hi,j]);omega
end Go.Am
namespace Go.Am
open Go Go.Proofs
set_option maxHeartbeats 1000000
set_option maxRecDepth 4000
attribute [local irreducible] A1 Cr Lex Bs Aj Spec
variable {tabs:List (Nat×Obj)}
end Go.Am
namespace Go.Am
open Go Go.Proofs
set_option maxHeartbeats 1000000
set_option maxRecDepth 4000
attribute [local irreducible] A1 Cr Lex Bs Aj Spec
theorem Sa{te:HS}{x:A9}(h:(CU te && Dv (Cv te) (Bc te) x)=true):BK (LR te) (JD te) x=true/\Bx (Cv te) (Bg (Bc te)) x=none/\BZ (Cv te) (Bg (Bc te)) x:=by
 rw[d4]at h;obtain⟨c,b,a⟩:=Xb h.2;exact⟨by rw[<-Ff,h.1,c];rfl,b,a⟩
theorem Tg{te:HS}{x:A9}{w v:W}(h:Hy te x w=some v):(CU te && Dv (Cv te) (Bc te) x)=true/\AO (Bg (Bc te)) w/\w.length<=4000/\O3 (Cv te) x w≠Cv te w/\splitAt (Cv te) x (Cv te w) 0 w=some v/\Split (Cv te) (Bg (Bc te)) x w v:=by
 unfold Hy at h;by_cases a:(CU te && Dv (Cv te) (Bc te) x && Ju (Bc te) w)=true
 ·rw [if_pos a]at h
  rw[d4]at a;obtain⟨a,d⟩:=a;obtain⟨g,i,b⟩:=Sa a;obtain⟨c,f,_⟩:=eY d;unfold Dd at h;by_cases ha:O3 (Cv te) x w=Cv te w
  ·rw[if_pos ha]at h;cases h
  ·rw[if_neg ha]at h
   obtain⟨v',e,hs⟩:=Th b (Cv te w) w 0 [] c b.r0 rfl ha;rw[e]at h
   injection h with h;subst h
   exact⟨a,c,f,ha,e,hs⟩
 ·rw[if_neg a]at h;cases h
theorem bg(te:HS)(x:A9)(w:W):Jh te x w=(Hy te x w).bind λv=>(Nj te x v).bind λu=>Jp te u:=by
 unfold Jh
 cases hs:Hy te x w with
 | none=>
  unfold Hy at hs;split
  ·rename_i a
   rw[if_pos a]at hs;unfold Fv;rw[hs];rfl
  ·rfl
 | some v=>
  obtain⟨a,r,k,ha,e,f⟩:=Tg hs
  have h:(CU te && Dv (Cv te) (Bc te) x && Ju (Bc te) w)=true:=by
   unfold Hy at hs;split at hs
   ·assumption
   ·cases hs
  rw[if_pos h];obtain⟨i,z,o⟩:=Sa a;obtain⟨q,G,F,B,A⟩:=EU i;unfold Fv Dd;rw[if_neg ha,e]
  show (GH x v).bind _=(Nj te x v).bind _
  obtain⟨p,_,j⟩:=f.suf;have g:Ju (Bc te) v=true:=VD (KI q) (λc a=>r c (by rw[j];simp[a])) (by rw[j]at k;simp at k;omega)
  have b:Nj te x v=GH x v:=by unfold Nj;rw[Ff,i,g];rfl
  rw[b]
  cases n:GH x v with
  | none=>rfl
  | some u=>
   obtain⟨_,_,_,_,d,_⟩:=TJ (b.trans n);obtain⟨m,y,l,t,s⟩:=EU d
   show BJ _ _ 13 u=Jp te u
   unfold Jp;rw[m,l];rfl
theorem Ti{te:HS}{x u:A9}{w v:W}(h:Hy te x w=some v)(ha:Nj te x v=some u):Bx (Cv te) (Bg (Bc te)) u≠none:=by
 obtain⟨i,k,j,g,e,a⟩:=Tg h;obtain⟨_,_,_,rfl,_,_⟩:=TJ ha;obtain⟨r,d,c,b,f⟩:=a.opens;exact cT (t:=⟨x.rows,x.cols++[v]⟩) d b f
theorem fO{te:HS}{x y:A9}{w:W}(h:Jh te x w=some y):(Hy te x w).isSome=true/\BK (LR te) (JD te) x=true/\BK (LR te) (JD te) y=true/\Bx (Cv te) (Bg (Bc te)) y=none/\x.rows <+: y.rows/\x.rows.length<y.rows.length/\∃v,y.cols=x.cols++[v]:=by
 rw[bg]at h
 cases hs:Hy te x w with
 | none=>rw[hs]at h;cases h
 | some v=>
  rw[hs]at h;have h:(Nj te x v).bind (λu=>Jp te u)=some y:=h
  cases ha:Nj te x v with
  | none=>rw[ha]at h;cases h
  | some u=>
   rw[ha]at h;have h:Jp te u=some y:=h;have b:=Ti hs ha;obtain⟨i,_,_,rfl,a,_⟩:=TJ ha;obtain⟨g,f,e,d,c,j⟩:=bT a h;exact⟨rfl,i,g,f,e,c b,v,d⟩
abbrev Up:A5:=⟨0,[],[]⟩
abbrev EE(s:Sys)(p:A5)(al:Int):HS:=⟨false,Up,s,p,al⟩
noncomputable def EI(s t:Sys)(p:A5)(al:Int)(a:A5):Option (W×Bool):=match Dt s a p with
 | some u=>some (DD (Bl al u),true)
 | none=>match Cn [t] a with
  | some v=>some (DD (Bl al v),false)
  | none=>none
noncomputable def BL(s:Sys)(p:A5)(al:Int)(x:A9):A5:=Bm (LS ⟨s,p,al⟩) al x
noncomputable def Fx(s t:Sys)(p:A5)(al:Int)(x:A9):Option A9:=match EI s t p al (BL s p al x) with
 | some (w,b)=>if (b || LS ⟨s,p,al⟩ w)=true then Jh (EE s p al) x w else none
 | none=>none
noncomputable def Dr(s t:Sys)(p:A5)(al:Int):Nat->A9->List A9
 | 0,x=>[x]
 | k+1,x=>x::match Fx s t p al x with
  | some y=>Dr s t p al k y
  | none=>[]
structure Vd where
 code:Int
 a:A5
 tr:W
 rd:Int
noncomputable def Mm(s t:Sys)(p:A5)(al:Int)(x:A9)(r:Nat):Vd:=match EI s t p al (BL s p al x) with
 | none=>⟨0,BL s p al x,[],r⟩
 | some (w,b)=>if (b || LS ⟨s,p,al⟩ w)=true then ⟨2,Up,[],r⟩ else ⟨1,Up,WT (Cn [s,t] p),r⟩
noncomputable def UJ(s:Sys)(p:A5)(al:Int):A9:=(QS (EE s p al)).getD BU
noncomputable def Cf(s t:Sys)(p:A5)(al:Int):List A9:=Dr s t p al 11 (UJ s p al)
noncomputable def CP(s t:Sys)(p:A5):Vd:=if A7 s p t<0 then ⟨3,Up,[],0⟩ else
 Mm s t p (A7 s p t) ((Cf s t p (A7 s p t)).getLastD BU) (Cf s t p (A7 s p t)).length
structure El (s:Sys) (p:A5) (al:Int) (x:A9) (r:Nat):Prop where
 v:BK (LR (EE s p al)) (JD (EE s p al)) x=true
 o:Bx (LS ⟨s,p,al⟩) (Bg al) x=none
 rows:r<=x.rows.length
 cols:x.cols.length=r
theorem Ga(s:Sys)(p:A5)(al:Int):Cv (EE s p al)=LS ⟨s,p,al⟩:=by
 funext w;unfold Cv;rw[if_neg oc]
theorem Cy(s:Sys)(p:A5)(al:Int):Bc (EE s p al)=al:=by
 unfold Bc;rw[if_neg oc]
theorem Nh{s:Sys}{p:A5}{al:Int}(h:Bu ⟨s,p,al⟩=true):QS (EE s p al)=some (UJ s p al)/\El s p al (UJ s p al) 1:=by
 have hk:CU (EE s p al)=true:=by unfold CU;rw[if_neg oc];exact h
 obtain⟨u,e,d,a,c,g,b,f⟩:=fi hk;unfold UJ;rw[e];refine⟨rfl,d,?_,?_,by show u.cols.length=1;rw[c];rfl⟩
 ·rw[Ga,Cy]at a;exact a
 ·show 1<=u.rows.length
  have:=(am.1 b.r0).1;omega
theorem QV{s t:Sys}{p:A5}{al:Int}{x y:A9}{r:Nat}(a:El s p al x r)(h:Fx s t p al x=some y):El s p al y (r+1)/\x.rows.length<y.rows.length:=by
 unfold Fx at h;split at h
 ·split at h
  ·obtain⟨_,_,e,b,_,d,v,c⟩:=fO h
   have f:=a.rows;have g:=a.cols;rw[Ga,Cy]at b;exact⟨⟨e,b,by omega,by rw[c];simp;omega⟩,d⟩
  ·cases h
 ·cases h
theorem Tm{s:Sys}{p:A5}{al:Int}{x:A9}{r:Nat}(b:El s p al x r):x.rows.length<=12/\r<=12:=by
 obtain⟨_,_,_,a,_⟩:=EU b.v;have:=a.rl;have:=b.rows;omega
theorem OL{s t:Sys}{p:A5}{al:Int}:∀(k:Nat) {x:A9} {r:Nat},El s p al x r->∀(i:Nat) (y:A9),(Dr s t p al k x)[i]?=some y->El s p al y (r+i)
 | 0,x,r,a,i,y,h=>by
  cases i with
  | zero=>simp[Dr]at h;subst h;exact a
  | succ i=>simp[Dr]at h
 | k + 1,x,r,a,i,y,h=>by
  cases i with
  | zero=>simp[Dr]at h;subst h;exact a
  | succ i=>
   simp only[Dr,oe]at h
   cases b:Fx s t p al x with
   | none=>rw[b]at h;simp at h
   | some z=>
    rw[b]at h;have:=OL k (QV a b).1 i y h;rwa[show r+1+i=r+(i+1) by omega]at this
theorem bh{s t:Sys}{p:A5}{al:Int}(k:Nat)(x:A9):Dr s t p al k x≠[]:=by cases k<;>simp[Dr]
end Go.Am
