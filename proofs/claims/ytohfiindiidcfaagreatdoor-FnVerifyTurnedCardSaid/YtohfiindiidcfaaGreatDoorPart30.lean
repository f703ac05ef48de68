/-
  The safety of a task is made: walked; a task's oracle.
-/
import Derived.Test.YtohfiindiidcfaaGreatDoorPart27
import Derived.Test.YtohfiindiidcfaaGreatDoorPart26
set_option linter.all false
namespace Go.Am
open Go Go.Proofs
set_option maxHeartbeats 1000000
set_option maxRecDepth 4000
attribute [local irreducible] A3 Cp Lex Bl Aj Spec
variable {TB:BC}
section
variable {P:Program}{Z:Ctx}{d:Option Tmp}{ty:TypeId}{pos:String}{af:Array Edge}{g:Option (Nat×Bool)}{f:Env}{σ:Ab}{nx:Nat}
variable {K:E->Ab->Nat->Prop}
theorem ay{t:TypeId}{z:List Value}{fl:List (Nat×Nat)}{parts:Array (Nat×Operand)}{es:List E}{qs:List (Nat×List C)}[U:BT P t z][hf:EE P t fl](p k e q k' e' s k'' e'':Nat)(T:z[p]? = some (.slice none 0 0))(n:z[q]? = some (.slice none 0 0))(l:z[s]? = some (.slice none 0 0))(hpq:p≠q/\p≠s/\q≠s)(N:J8 f (parts.toList.map (·.2))=some es)(Y:FU fl parts.toList es=some qs)
 (G:z.all QA=true) (H:(qs.all λx=>Nat.ble (x.1+x.2.length) z.length)=true) (hK:K (.a (BU qs ((((z.map zC).set p (.arr nx k 0 0)).set q (.arr (nx+1) k' 0 0)).set s (.arr (nx+2) k'' 0 0)))) ((nx+2,.cells e'' k'' [])::(nx+1,.cells e' k' [])::(nx,.cells e k [])::σ) (nx+3)):Cp P TB Z ⟨d,.build t parts,ty,pos,af,g⟩ f σ nx K:=
 DJ λV ρ h1 h2 h3=>by
  subst h3;obtain⟨i,zv,hi,A,m⟩:=Hz U.out;obtain⟨L,S⟩:=h2.alloc (c:=0) (nl:=True) (w:=V.w) (ob:=.cells e k []) rfl rfl rfl rfl (i9 _) (λ_ _=>rfl) (.inl ⟨by simp [Ax],rfl⟩);obtain⟨J,R⟩:=L.alloc (c:=0) (nl:=True) (w:=V.w) (ob:=.cells e' k' []) rfl rfl rfl rfl (i9 _) (λ_ _=>rfl) (.inl ⟨by simp [Ax],rfl⟩);obtain⟨I,Q⟩:=J.alloc (c:=0) (nl:=True) (w:=V.w) (ob:=.cells e'' k'' []) rfl rfl rfl rfl (i9 _) (λ_ _=>rfl) (.inl ⟨by simp [Ax],rfl⟩);have y:=(S.trans R).trans Q;have M:=Dx (V:=Ax (Ax (Ax V V.w.heap.size 0 True V.w) V.w.heap.size 0 True V.w) V.w.heap.size 0 True V.w) (ρ:=ρ) parts.toList es qs (λx F e he=>(h1.get (by simp only [Op.operands];simpa using F) he).ext y) N Y
  have B : Dh (Ax (Ax (Ax V V.w.heap.size 0 True V.w) V.w.heap.size 0 True V.w) V.w.heap.size 0 True V.w) ((((z.map zC).set p (.arr V.nx k 0 0)).set q (.arr (V.nx+1) k' 0 0)).set s (.arr (V.nx+2) k'' 0 0)) zv.cells:=by
   refine⟨by rw [o6,o6,o6,ge,<-m];simp,λj c v h X=>?_⟩
   have b:z[j]? = some v:=by rw [<-m,pA];exact X
   by_cases o:s=j
   ·subst o
    rw [l] at b
    injection b with b
    subst b;rw [pj (by rw [o6,o6,ge];exact(ce.1 l).1)] at h
    injection h with h
    subst h;exact AH.nil (by simp [Ax]) (by simp [Ax])
   ·rw [pk o] at h
    by_cases r:q=j
    ·subst r
     rw [n] at b
     injection b with b
     subst b;rw [pj (by rw [o6,ge];exact(ce.1 n).1)] at h
     injection h with h
     subst h;exact AH.nil (by simp [Ax]) (by simp [Ax])
    ·rw [pk r] at h
     by_cases u:p=j
     ·subst u
      rw [T] at b
      injection b with b
      subst b;rw [pj (by rw [ge];exact(ce.1 T).1)] at h
      injection h with h
      subst h;exact AH.nil (by simp [Ax];omega) (by simp [Ax])
     ·rw [pk u,i8,b] at h
      injection h with h
      subst h;exact Lb (f7.1 G v (co b))
  obtain⟨cells,h4,h5⟩:=GN _ _ _ _ M B (λx F=>by rw [o6,o6,o6,ge];exact Jf _ _ H x F);have hb:=run_build (P:=P) (ρ:=ρ) (parts:=parts) (V:=V) hi A hf.out h4;refine⟨.agg cells,_,_,_,?_,y,I,(show Bo _ (.a _) _ from ⟨cells,rfl,h5⟩),hK⟩
  show ((do let v <-Instr.build t (parts.map λ(i,x)=>(i,ρ x));pure (Go.Next.value v):Sem Go.Next)).run P V.w=_
  simp only [ol,hb,jp];rfl
end
theorem Jn{a b:Int}(ha:Bb a=true)(hb:Bb b=true):Ac (Hn .i64 a b)=(Ac a).filter λl=>!AX b l.toNat:=by
 have key:((List.range 64).all λx=>(List.range 64).all λy=>decide (Ac (Hn .i64 (x:Nat) (y:Nat))=(Ac (x:Nat)).filter λl=>!AX (y:Nat) l.toNat))=true:=by kernel_rfl
 unfold Bb at ha hb;simp only [decide_eq_true_eq] at ha hb;have d:=f7.1 key a.toNat (oJ.2 (by omega));have c:=f7.1 d b.toNat (oJ.2 (by omega));rw [ro ha.1,ro hb.1] at c;exact of_decide_eq_true c
abbrev Mt(t:CO):List D:=[iD t.s.al,iD t.s.st,Ev t.s.es,iD t.q.al,C4 t.q.nx,Ff t.q.ac,iD t.al]
abbrev QM(t:CO):E:=.a ((Mt t).map .d)
theorem Uv(t:CO)(ok:W->Prop):IL t ok ⟨[],[],[]⟩:=⟨rfl,rfl,lm,by simp,by simp,by simp,by simp⟩
theorem Tq[Dc TB]{t:CO}(ht:Bd t=true)(ok:W->Prop):∃m,NG t ok m/\AQ Tryz.prog TB 111 0 [] 0 [QM t] (λx σ nx=>x=.o (.ptr 0 14 0 0)/\σ=Nt t m/\nx=5):=by
 have y:AV t.s=true:=by unfold Bd at ht;simp only [d4] at ht;exact ht.1
 have n:Bb t.al=true:=by unfold Bd at ht;simp only [d4] at ht;exact ht.2.2
 have p:=AN y;have A:=MF ht;obtain⟨j,k,c,f⟩:=bT (TB:=TB) ht (Uv t ok) (by simp) (Gz ht)
 have d:j=I8 t ⟨[],[],[]⟩ (Cz t):=by
  rcases c with ⟨_,w⟩|⟨w,_,_⟩
  ·simp at w
  ·exact w
 have e:=Us (TB:=TB) ht ⟨[],[],[]⟩ A;refine⟨j,⟨by rw [d];exact X6 (Uv t ok) .start (.inl rfl) (by simp),by rw [d];rfl⟩,?_⟩;have u:=PE (TB:=TB) t.s y;have l:=Fz (TB:=TB) t.q (CD ht);have b:=C0 (TB:=TB) (Hn .i64 t.s.al t.al);rw [Jn p.1 n] at b;have b:Pure Tryz.prog TB 52 [eI .i64 (Hn .i64 t.s.al t.al)] (Ak (Cy t)):=b;rw [show SQ t IT=Cz t from rfl] at e;have v:mapA .u16 (QX [])=[]:=rfl;have r:Hr IT=[1,0,0,0,0,0,0,0,0,0,0,0]:=rfl;refine AQ.Bi (AQ.Sc (m:=0) (am rfl) Tryz.func111 rfl (by kernel_rfl) (am rfl) ?_);intro Z a;(repeat first|refine tA rfl ?_ |refine aU rfl ?_ |refine Aa ?_);refine rG (Kh [(14,1),(15,1),(16,1)]) (by kernel_rfl) ?_;(repeat first|refine tX rfl ?_ |refine sP rfl (u) rfl ?_|refine sP rfl (l) rfl ?_|refine sP rfl (b) rfl ?_|(refine Ag rfl ?_;refine gA rfl ?_;first| refine gS (λ_ _=>dH rfl rfl rfl) ?_));(refine pW rfl ?_ rfl (by rfl);refine RX ?_);(refine pW rfl ?_ rfl (by rfl);refine ay 10 12 195 12 6 127 13 1 4 rfl rfl rfl (by decide) rfl rfl (by rfl) (by rfl) ?_);(refine pW rfl ?_ rfl (by rfl);refine De rfl rfl ?_);(repeat first|refine tA rfl ?_);refine Aa ?_;refine Aj.Ay [] [] rfl rfl [(3,.o (.ptr 0 14 0 0))] [(0,.cells 191 14 [eE t (.arr 1 12 0 0) (.mp 2) (.arr 3 6 0 0) (.arr 4 1 0 0)]),(1,.cells 195 12 []),(2,.mp []),(3,.cells 127 6 []),(4,.cells 4 1 [])] [4,1,0,2,3] (rl a rfl) (by (simp[cX,zC,a,A7])) ?_;(try dsimp only[cA,cB]);(repeat first|refine tA rfl ?_|(refine Ag rfl ?_;refine gA rfl ?_;first| refine gS (λ_ _=>AG rfl rfl (by rfl) (by rfl)) ?_) |refine aU rfl ?_);(refine pW rfl ?_ rfl (by rfl);refine Ai [0,1,2,3,4] rfl rfl (e) ⟨rfl,by decide,by decide⟩ rfl (by simp[cX,zC,a,A7,r,v]) ?_;rintro z g h ⟨rfl,rfl,rfl⟩ _);(refine pW rfl ?_ rfl (by rfl);refine Ck [0,1,2,3,4] rfl rfl 1 (f) (by decide) ⟨rfl,by decide,by decide⟩ rfl (by simp[cX,zC,a,A7]) ?_;rintro z g h ⟨rfl,rfl,rfl⟩ _);refine Aa ?_;(repeat first|refine tA rfl ?_ |refine aU rfl ?_ |refine Aa ?_);refine aR ⟨_,rfl,[0,5,6,7,8],.o (.ptr 0 14 0 0),Nt t j,⟨by intro i hi;omega,by decide⟩,rfl,by (simp[cX,zC,a,A7]),rfl,rfl,rfl⟩
def Li(b:List UInt8)(p m:Int)(P:Sys->Prop)(x:E)(σ:Ab)(nx:Nat):Prop:=∃(p':Int) (s:Sys),(p<=p'/\p'<=p+m)/\P s/\x=Br s/\σ=[(0,Bq b p')]/\nx=1
def mM(n:Int)(s:Sys):Prop:=s.st=n/\(∀e∈s.es,0<=e.t/\e.t < n)/\s.es.length<=400
theorem Jm(b:List UInt8)(hb:b.length<=2000)(p:Int)(h0:0<=p/\p < 900000000)(al n ky:Int)(hn:0<=n/\n<=8):AQ Tryz.prog TB 193 1 [(0,Bq b p)] 1 [.o (.ptr 0 2 0 0),eI .i64 al,eI .i64 n,eI .i64 ky] (Li b p 400 (mM n)):=by
 have V:(Ac al).length<=6:=AM al 6;refine AQ.Bi (AQ.Sc (m:=1) (am rfl) Tryz.func193 rfl (by kernel_rfl) (am rfl) ?_);intro Z a;(repeat first|refine tA rfl ?_ |refine aU rfl ?_ |refine Aa ?_);(refine pW rfl ?_ rfl (by rfl);refine Jp 2 3 116 rfl rfl rfl (by rfl) (by rfl) ?_);(repeat first|refine tA rfl ?_ |refine sP rfl (Cj al) rfl ?_ |refine aU rfl ?_ |refine Aa ?_);refine aB ?_;refine aL (α:={s:Nat×Int×List Ef // (s.1:Int)<=n/\(p<=s.2.1/\s.2.1<=p+48*s.1)/\(s.2.2.length:Int)<=s.2.1 - p/\∀e∈s.2.2,0<=e.t/\e.t < n}) [0,2,3,8,9,10] [1] rfl rfl (λs=>[(11,eI .i64 s.1.1)]) (λs=>[(0,Bq b s.1.2.1),(2,.cells 116 3 (s.1.2.2.map Bg)),(3,.cells 25 3 [[.d (iD al),.d (iD n),.arr 2 3 0 s.1.2.2.length]])]) 4 (λs=>n.toNat - s.1.1) (⟨⟨0,p,[]⟩,by simp;omega⟩) a rfl (by (simp[cX,zC,a])) ?_;rintro⟨⟨k,q,es⟩,hk,P,F,K⟩;(try dsimp only[cA,cB]);have hk:(k:Int)<=n:=hk;have P:p<=q/\q<=p+48*k:=P;have F:(es.length:Int)<=q - p:=F;(repeat first|refine tM rfl ?_ |refine s2 rfl λ_ f=>?_ |refine aU rfl ?_ |refine Aa ?_)
 ((refine aC rfl ?_ ?_<;>rintro⟨⟩);all_goals try (simp at f;done))
 ·have U : (k:Int) < n:=by (simp only[oZ] at *;omega)
  refine aK ?_;refine aS (aB ?_);(repeat first|refine tX rfl ?_ |refine aU rfl ?_ |refine Aa ?_);refine aB ?_;refine aL (α:={s:Nat×Int×List Ef // s.1<=(Ac al).length/\(q<=s.2.1/\s.2.1<=q+8*s.1)/\(s.2.2.length:Int)<=s.2.1 - p/\∀e∈s.2.2,0<=e.t/\e.t < n}) [0,2,3,8,9,10,11] [1] rfl rfl (λs=>[(12,eI .i64 s.1.1)]) (λs=>[(0,Bq b s.1.2.1),(2,.cells 116 3 (s.1.2.2.map Bg)),(3,.cells 25 3 [[.d (iD al),.d (iD n),.arr 2 3 0 s.1.2.2.length]])]) 4 (λs=>(Ac al).length - s.1.1) (⟨⟨0,q,es⟩,by simp,by simp,F,K⟩) a rfl (by (simp[cX,zC,a])) ?_;rintro⟨⟨i,u,z⟩,hi,M,g,y⟩;(try dsimp only[cA,cB]);have hi:i<=(Ac al).length:=hi;have M:q<=u/\u<=q+8*i:=M;have g:(z.length:Int)<=u - p:=g;clear K F;(repeat first|refine sN rfl ?_ |refine tM rfl ?_ |refine s2 rfl λ_ f=>?_ |refine aU rfl ?_ |refine Aa ?_)
  ((refine aC rfl ?_ ?_<;>rintro⟨⟩);all_goals try (simp at f;done))
  ·have B:i < (Ac al).length:=by (simp only[oZ] at *;omega)
   obtain⟨l,G⟩:=get_some B
   have X:((Ac al).map Bs)[((i:Nat):Int).toNat]? = some (Bs l):=by rw [io];simp [G]
   refine aK ?_;refine aS (aB ?_);(repeat first|refine tX rfl ?_ |refine aU rfl ?_ |refine Aa ?_);refine aB ?_;refine aL (α:={s:Nat×Int×List Ef // (s.1:Int)<=n/\(u<=s.2.1/\s.2.1<=u+s.1)/\(s.2.2.length:Int)<=s.2.1 - p/\∀e∈s.2.2,0<=e.t/\e.t < n}) [0,2,3,8,9,10,11,12] [1] rfl rfl (λs=>[(13,eI .i64 s.1.1)]) (λs=>[(0,Bq b s.1.2.1),(2,.cells 116 3 (s.1.2.2.map Bg)),(3,.cells 25 3 [[.d (iD al),.d (iD n),.arr 2 3 0 s.1.2.2.length]])]) 4 (λs=>n.toNat - s.1.1) (⟨⟨0,u,z⟩,by simp;omega,by simp,g,y⟩) a rfl (by (simp[cX,zC,a])) ?_;rintro⟨⟨j,v,h⟩,Q,L,w,x⟩;(try dsimp only[cA,cB]);have Q:(j:Int)<=n:=Q;have L:u<=v/\v<=u+j:=L;have w:(h.length:Int)<=v - p:=w;clear y g;(repeat first|refine tM rfl ?_ |refine s2 rfl λ_ f=>?_ |refine aU rfl ?_ |refine Aa ?_)
   ((refine aC rfl ?_ ?_<;>rintro⟨⟩);all_goals try (simp at f;done))
   ·obtain⟨c,c1,c2,T⟩:=Bp (TB:=TB) b hb v ky (by omega)
    have I:(j:Int) < n:=by (simp only[oZ] at *;omega)
    refine aK ?_;refine aS (aB ?_);(repeat first|refine tA rfl ?_ |refine aU rfl ?_);(refine pW rfl ?_ rfl (by rfl);refine Ai [0] rfl rfl (T) ⟨rfl,by decide,by decide⟩ rfl (by simp[cX,zC,a]) ?_;rintro Y R S ⟨rfl,rfl,rfl⟩ _);(repeat first|refine s2 rfl λ_ f=>?_ |refine Aa ?_);(refine aC rfl ?_ ?_<;>rintro⟨⟩)
    ·refine rG (Kh [(1,13),(10,1),(12,1)]) (by kernel_rfl) ?_
     (repeat first|refine tA rfl ?_ |(refine s4 rfl ‹_› rfl ?_ ?_;omega)|(refine Ag rfl ?_;refine gA rfl ?_;first| refine gS (λ_ _=>AG rfl rfl (by rfl) (by rfl)) ?_));(refine pW rfl ?_ rfl (by rfl);refine Au rfl rfl rfl (by first| (simp;done)|(simp;(omega))) rfl (by intro r N;simp at N;subst N;rfl) (by rfl) (am rfl) (by simp;omega) ?_);(repeat first|(refine sA rfl ?_ ?_;first|exact tI|omega) |refine aU rfl ?_ |refine Aa ?_)
     have J:∀e∈h++[(⟨k,l,j⟩:Ef)],0<=e.t/\e.t < n:=λe A=>by
      rcases em.1 A with A|A
      ·exact x e A
      ·simp at A;subst A;exact⟨by dsimp only;omega,I⟩
     refine⟨⟨⟨j+1,v+1,h++[⟨k,l,j⟩]⟩,by dsimp only;omega,by dsimp only;omega,by simp;omega,J⟩,by dsimp only;(omega),[0,1,4,3],?_⟩;(simp[cX,zC,a,cN]<;>rfl)
    ·refine aK ?_
     (repeat first|(refine sA rfl ?_ ?_;first|exact tI|omega) |refine aU rfl ?_ |refine Aa ?_);refine⟨⟨⟨j+1,v+1,h⟩,by dsimp only;omega,by dsimp only;omega,by dsimp only;omega,x⟩,by dsimp only;(omega),[0,1,2,3],?_⟩;(simp[cX,zC,a,cN]<;>rfl)
   ·have H:(j:Int)=n:=by (simp only[oZ] at *;omega)
    refine aE ?_;(repeat first|(refine sA rfl ?_ ?_;first|exact tI|omega) |refine aU rfl ?_ |refine Aa ?_);refine⟨⟨⟨i+1,v,h⟩,by dsimp only;omega,by dsimp only;omega,w,x⟩,by dsimp only;(omega),[0,1,2,3],?_⟩;(simp[cX,zC,a,cN]<;>rfl)
  ·refine aE ?_
   have B:i=(Ac al).length:=by (simp only[oZ] at *;omega)
   (repeat first|(refine sA rfl ?_ ?_;first|exact tI|omega) |refine aU rfl ?_ |refine Aa ?_);refine⟨⟨⟨k+1,u,z⟩,by dsimp only;omega,by dsimp only;omega,g,y⟩,by dsimp only;(omega),[0,1,2,3],?_⟩;(simp[cX,zC,a,cN]<;>rfl)
 ·have H:(k:Int)=n:=by (simp only[oZ] at *;omega)
  refine aE ?_;(repeat first|refine tA rfl ?_ |refine aU rfl ?_ |refine Aa ?_);refine Aj.AF [1,2] [(8,.o (.ip [iD al,iD n,Ev es]))] ⟨⟨_,rfl,.inr (.o (.box rfl (.cons .d (.cons .d (.cons (.full rfl (by simp [d5]) (by simp)) .nil)))))⟩,trivial⟩ ?_;refine aR ⟨_,rfl,[0],Br ⟨al,n,es⟩,[(0,Bq b q)],⟨by intro i hi;match i with|0=>rfl,by decide⟩,rfl,by (simp[cX,zC,a,cN]),q,⟨al,n,es⟩,by omega,⟨rfl,K,by dsimp only;omega⟩,rfl,rfl,rfl⟩
def nD(m:Int)(s:Sys):Prop:=(∀e∈s.es,0<=e.t/\e.t < m)/\s.es.length<=400
theorem mM.le{n m:Int}{s:Sys}(h:mM n s)(b:n<=m):nD m s:=⟨λe a=>by have:=h.2.1 e a;omega,h.2.2⟩
theorem Pw(b:List UInt8)(hb:b.length<=2000)(p:Int)(x:0<=p/\p < 800000000):Spec Tryz.prog TB 150 [(0,Bq b p)] 1 [.o (.ptr 0 2 0 0)] (Li b p 403 (nD 5)):=by
 obtain⟨j,v,r⟩:=Dk (TB:=TB) b hb p (by omega) [3,6,7,5,2] (by decide) (by decide);obtain⟨g,l,n⟩:=Dk (TB:=TB) b hb (p+1) (by omega) [2,3,1,3] (by decide) (by decide);obtain⟨h,u,m⟩:=Dk (TB:=TB) b hb (p+1+1) (by omega) [2,3,4] (by decide) (by decide)
 have k:1<=g/\g<=3:=by simp at l;omega
 have f:=Jm (TB:=TB) b hb (p+1+1+1) (by omega) j g h (by omega);refine eR Tryz.func150 rfl (by kernel_rfl) rfl ?_;intro Z a;(repeat first|refine tA rfl ?_ |refine aU rfl ?_ |refine Aa ?_);(refine pW rfl ?_ rfl (by rfl);refine Ai [0] rfl rfl (r) ⟨rfl,by decide,by decide⟩ rfl (by simp[cX,zC,a]) ?_;rintro e c d ⟨rfl,rfl,rfl⟩ _);(repeat first|refine tA rfl ?_);(refine pW rfl ?_ rfl (by rfl);refine Ai [0] rfl rfl (n) ⟨rfl,by decide,by decide⟩ rfl (by simp[cX,zC,a]) ?_;rintro e c d ⟨rfl,rfl,rfl⟩ _);(repeat first|refine tA rfl ?_);(refine pW rfl ?_ rfl (by rfl);refine Ai [0] rfl rfl (m) ⟨rfl,by decide,by decide⟩ rfl (by simp[cX,zC,a]) ?_;rintro e c d ⟨rfl,rfl,rfl⟩ _);(refine pW rfl ?_ rfl (by rfl);refine Ck [0] rfl rfl 1 (f) (by decide) ⟨rfl,by decide,by decide⟩ rfl (by simp[cX,zC,a,cN]) ?_;rintro e c d ⟨q,s,w,t,rfl,rfl,rfl⟩ _);(repeat first|refine tA rfl ?_ |refine Aa ?_);refine aR ⟨_,rfl,[0],Br s,[(0,Bq b q)],⟨by intro i hi;match i with|0=>rfl,by decide⟩,rfl,by (simp[cX,zC,a,cN]),q,s,by omega,t.le (by omega),rfl,rfl,rfl⟩
theorem ZZ(b:List UInt8)(hb:b.length<=2000)(p:Int)(j:0<=p/\p < 800000000):∃n:Int,Spec Tryz.prog TB 195 [(0,Bq b p)] 1 [.o (.ptr 0 2 0 0)] (λx σ nx=>x=eI .i64 n/\σ=[(0,Bq b (p+1))]/\nx=1):=by
 obtain⟨e,h,f⟩:=Dk (TB:=TB) b hb p (by omega) [3,7,1,5,0,6,63,2,21] (by decide) (by decide);refine⟨e,?_⟩;refine eR Tryz.func195 rfl (by kernel_rfl) rfl ?_;intro Z a;(repeat first|refine tA rfl ?_ |refine aU rfl ?_ |refine Aa ?_);(refine pW rfl ?_ rfl (by rfl);refine Ai [0] rfl rfl (f) ⟨rfl,by decide,by decide⟩ rfl (by simp[cX,zC,a]) ?_;rintro g c d ⟨rfl,rfl,rfl⟩ _);(repeat first|refine tA rfl ?_ |refine Aa ?_);refine aR ⟨_,rfl,?_⟩;refine⟨[0],_,[(0,Bq b (p+1))],⟨by first|(simp;done)|decide|(intro i hi;match i with|0=>rfl),by decide⟩,rfl,by (simp[cX,zC,a]),rfl,rfl,rfl⟩
theorem QS(b:List UInt8)(hb:b.length<=2000)(p:Int)(Q:0<=p/\p < 700000000)(al:Int):Spec Tryz.prog TB 152 [(0,Bq b p)] 1 [.o (.ptr 0 2 0 0),eI .i64 al] (Le b p 100 (λa=>MG 6 a)):=by
 obtain⟨v,P,I⟩:=Dk (TB:=TB) b hb p (by omega) [63,63,5,3,6] (by decide) (by decide);obtain⟨c,S,R,K⟩:=Bp (TB:=TB) b hb (p+1) 8 (by omega);obtain⟨H,J⟩:=ZZ (TB:=TB) b hb (p+1+1) (by omega);refine eR Tryz.func152 rfl (by kernel_rfl) rfl ?_;intro Z e;(repeat first|refine tA rfl ?_ |refine aU rfl ?_ |refine Aa ?_);(refine pW rfl ?_ rfl (by rfl);refine Ai [0] rfl rfl (I) ⟨rfl,by decide,by decide⟩ rfl (by simp[cX,zC,e]) ?_;rintro h f g ⟨rfl,rfl,rfl⟩ _);(repeat first|refine tA rfl ?_ |refine aU rfl ?_ |refine Aa ?_);(refine pW rfl ?_ rfl (by rfl);refine Ai [0] rfl rfl (K) ⟨rfl,by decide,by decide⟩ rfl (by simp[cX,zC,e]) ?_;rintro h f g ⟨rfl,rfl,rfl⟩ _);(repeat first|refine s2 rfl λ_ u=>?_ |refine Aa ?_);(refine aC rfl ?_ ?_<;>rintro⟨⟩)
 ·(repeat first|refine tA rfl ?_ |refine aU rfl ?_)
  (refine pW rfl ?_ rfl (by rfl);refine Ai [0] rfl rfl (J) ⟨rfl,by decide,by decide⟩ rfl (by simp[cX,zC,e]) ?_;rintro h f g ⟨rfl,rfl,rfl⟩ _);(repeat first|refine tA rfl ?_ |refine aU rfl ?_ |refine Aa ?_);obtain⟨N,M,L,m⟩:=Bp (TB:=TB) b hb (p+1+1+1) 4 (by omega);obtain⟨k,x,y⟩:=Dk (TB:=TB) b hb (p+1+1+1+1) (by omega) [3,2,4,1] (by decide) (by decide)
  have w:1<=k/\k<=4:=by simp at x;omega
  have G:=Nh (TB:=TB) b hb (p+1+1+1+1+1) (by omega) (H) k (by omega);have F:=RP (TB:=TB) b hb (p+1+1+1+1) (by omega) (H)
  obtain⟨j,rfl⟩:∃j,j=H:=⟨_,rfl⟩
  (refine pW rfl ?_ rfl (by rfl);refine Ai [0] rfl rfl (m) ⟨rfl,by decide,by decide⟩ rfl (by simp[cX,zC,e]) ?_;rintro h f g ⟨rfl,rfl,rfl⟩ _);(repeat first|refine s2 rfl λ_ u=>?_ |refine Aa ?_);(refine aC rfl ?_ ?_<;>rintro⟨⟩)
  ·(repeat first|refine tA rfl ?_ |refine aU rfl ?_)
   (refine pW rfl ?_ rfl (by rfl);refine Ai [0] rfl rfl (y) ⟨rfl,by decide,by decide⟩ rfl (by simp[cX,zC,e]) ?_;rintro h f g ⟨rfl,rfl,rfl⟩ _);(refine pW rfl ?_ rfl (by rfl);refine Ck [0] rfl rfl 1 (G) (by decide) ⟨rfl,by decide,by decide⟩ rfl (by simp[cX,zC,e,cN]) ?_;rintro h f g ⟨q,l,ac,A,B,n,z,rfl,rfl,rfl⟩ _);(repeat first|refine tA rfl ?_ |refine Aa ?_);refine Aj.Ay [4] [] rfl rfl [] [(0,Bq b q),(1,.cells 29 3 [[.d (iD j),.arr 2 1 0 l.length,.arr 3 1 0 ac.length]]),(2,.cells 64 1 (AA l)),(3,.cells 4 1 (ac.map AT)),(4,.sld 3 (sI l))] [0,1,2,3,4] (rl e rfl) (by (simp[cX,zC,e,cN])) ?_;(try dsimp only[cA,cB]);refine Aj.AF [1,2,3,4] [(4,.o (.ip (AP ⟨j,l.map (·.2),ac⟩)))] ⟨⟨_,rfl,.inr (.o (.box rfl (.cons .d (.cons (.Ni (s:=4) rfl rfl) (.cons (.full rfl (by simp [d5]) (by simp)) .nil)))))⟩,trivial⟩ ?_;refine aR ⟨_,rfl,[0],Bj ⟨j,l.map (·.2),ac⟩,[(0,Bq b q)],⟨by intro i hi;match i with|0=>rfl,by decide⟩,rfl,by (simp[cX,zC,e,cN]),q,_,by omega,Tv B n z (by omega) (by omega),rfl,rfl,rfl⟩
  ·refine aK ?_
   (repeat first|refine tA rfl ?_ |refine aU rfl ?_);(refine pW rfl ?_ rfl (by rfl);refine Ai [0] rfl rfl (F) ⟨rfl,by decide,by decide⟩ rfl (by simp[cX,zC,e,cN]) ?_;rintro h f g ⟨q,t,A,r,rfl,rfl,rfl⟩ _);(repeat first|refine tA rfl ?_ |refine Aa ?_);refine aR ⟨_,rfl,[0],Bj t,[(0,Bq b q)],⟨by intro i hi;match i with|0=>rfl,by decide⟩,rfl,by (simp[cX,zC,e,cN]),q,t,by omega,r.2,rfl,rfl,rfl⟩
 ·refine aK ?_
  (repeat first|refine tA rfl ?_ |refine aU rfl ?_);obtain⟨N,M,L,m⟩:=Bp (TB:=TB) b hb (p+1+1) 4 (by omega);obtain⟨k,x,y⟩:=Dk (TB:=TB) b hb (p+1+1+1) (by omega) [3,2,4,1] (by decide) (by decide)
  have w:1<=k/\k<=4:=by simp at x;omega
  have G:=Nh (TB:=TB) b hb (p+1+1+1+1) (by omega) (Gh .i64 al v) k (by omega);have F:=RP (TB:=TB) b hb (p+1+1+1) (by omega) (Gh .i64 al v);generalize Gh .i64 al v=j at *;(refine pW rfl ?_ rfl (by rfl);refine Ai [0] rfl rfl (m) ⟨rfl,by decide,by decide⟩ rfl (by simp[cX,zC,e]) ?_;rintro h f g ⟨rfl,rfl,rfl⟩ _);(repeat first|refine s2 rfl λ_ u=>?_ |refine Aa ?_);(refine aC rfl ?_ ?_<;>rintro⟨⟩)
  ·(repeat first|refine tA rfl ?_ |refine aU rfl ?_)
   (refine pW rfl ?_ rfl (by rfl);refine Ai [0] rfl rfl (y) ⟨rfl,by decide,by decide⟩ rfl (by simp[cX,zC,e]) ?_;rintro h f g ⟨rfl,rfl,rfl⟩ _);(refine pW rfl ?_ rfl (by rfl);refine Ck [0] rfl rfl 1 (G) (by decide) ⟨rfl,by decide,by decide⟩ rfl (by simp[cX,zC,e,cN]) ?_;rintro h f g ⟨q,l,ac,A,B,n,z,rfl,rfl,rfl⟩ _);(repeat first|refine tA rfl ?_ |refine Aa ?_);refine Aj.Ay [4] [] rfl rfl [] [(0,Bq b q),(1,.cells 29 3 [[.d (iD j),.arr 2 1 0 l.length,.arr 3 1 0 ac.length]]),(2,.cells 64 1 (AA l)),(3,.cells 4 1 (ac.map AT)),(4,.sld 3 (sI l))] [0,1,2,3,4] (rl e rfl) (by (simp[cX,zC,e,cN])) ?_;(try dsimp only[cA,cB]);refine Aj.AF [1,2,3,4] [(4,.o (.ip (AP ⟨j,l.map (·.2),ac⟩)))] ⟨⟨_,rfl,.inr (.o (.box rfl (.cons .d (.cons (.Ni (s:=4) rfl rfl) (.cons (.full rfl (by simp [d5]) (by simp)) .nil)))))⟩,trivial⟩ ?_;refine aR ⟨_,rfl,[0],Bj ⟨j,l.map (·.2),ac⟩,[(0,Bq b q)],⟨by intro i hi;match i with|0=>rfl,by decide⟩,rfl,by (simp[cX,zC,e,cN]),q,_,by omega,Tv B n z (by omega) (by omega),rfl,rfl,rfl⟩
  ·refine aK ?_
   (repeat first|refine tA rfl ?_ |refine aU rfl ?_);(refine pW rfl ?_ rfl (by rfl);refine Ai [0] rfl rfl (F) ⟨rfl,by decide,by decide⟩ rfl (by simp[cX,zC,e,cN]) ?_;rintro h f g ⟨q,t,A,r,rfl,rfl,rfl⟩ _);(repeat first|refine tA rfl ?_ |refine Aa ?_);refine aR ⟨_,rfl,[0],Bj t,[(0,Bq b q)],⟨by intro i hi;match i with|0=>rfl,by decide⟩,rfl,by (simp[cX,zC,e,cN]),q,t,by omega,r.2,rfl,rfl,rfl⟩
theorem Xg{es:List Ef}{l:Int}{m k:Nat}{e:Ef}(a:es[k]? = some e):Cu (es.take (k+1)) l m=if e.l=l/\m.testBit e.f.toNat=true then Cu (es.take k) l m ||| 2 ^ e.t.toNat else Cu (es.take k) l m:=by
 unfold Cu;rw [d9,a,qX];rfl
theorem UW{s:Sys}(a:AV s=true){l:Int}{m k:Nat}:Cu (s.es.take k) l m < 65536:=JF λj b=>by
 obtain⟨e,c,_,rfl⟩:=DT.1 b;have hb:=Dl a (oP c);have d:=AN a;unfold DG at hb;simp only [d4,decide_eq_true_eq] at hb;omega
theorem RO{s:Sys}(o:AV s=true)(l:Int){m:Nat}(F:m < 65536):Pure Tryz.prog TB 201 [Br s,eI .i64 (m:Nat),eI .i64 l] (eI .i64 (Cu s.es l m:Nat)):=by
 have G:=AN o;refine eG Tryz.func201 rfl (by kernel_rfl) rfl ?_;intro Z d;refine Aj.bound 0 rfl λw=>?_;have B:=w (s.es.map Dr) ⟨2,_,rfl,.refl⟩;rw [ge] at B;(repeat first|refine tA rfl ?_ |refine aU rfl ?_ |refine Aa ?_);refine aB ?_;refine aL (α:={k:Nat // k<=s.es.length}) [1,2,3] [] rfl rfl (λ⟨k,hk⟩=>[(7,eI .i64 (Cu (s.es.take k) l m:Nat)),(8,eI .i64 k)]) (λ⟨k,hk⟩=>[]) 0 (λ⟨k,hk⟩=>s.es.length - k) (⟨0,by omega⟩) d rfl (by (simp[cX,zC,d]<;>rfl)) ?_;rintro⟨k,hk⟩;(try dsimp only[cA,cB]);by_cases q:k < s.es.length
 ·obtain⟨e,u⟩:=get_some q
  have r:=get_map (g:=Dr) u
  have A:(s.es.map Dr)[((k:Nat):Int).toNat]? = some (Dr e):=by rw [io];exact r
  have hb:=Dl o (co u);unfold DG at hb;simp only [d4,decide_eq_true_eq] at hb;have i:=Xg (l:=l) (m:=m) u;have x:=UW o (l:=l) (m:=m) (k:=k);have j:=C8 (TB:=TB) (m:Nat) e.f (by omega) (by omega);rw [Dq (by omega) (by omega)] at j;have v:=UO (TB:=TB) e.t (by omega) (by omega)
  have z:2 ^ e.t.toNat < 65536:=by
   have:2 ^ e.t.toNat<=2 ^ 15:=pm (by omega) (by omega);omega
  have p:=OD (a:=Cu (s.es.take k) l m) (b:=2 ^ e.t.toNat) (by omega) (by omega);generalize 2 ^ e.t.toNat=y at *;(repeat first|refine sN rfl ?_ |refine tA rfl ?_ |refine s2 rfl λ_ c=>?_ |refine aU rfl ?_ |refine Aa ?_)
  ((refine aC rfl ?_ ?_<;>rintro⟨⟩);all_goals try(exfalso;(simp only[oZ] at *;omega)))
  refine aK ?_;refine aS (aB ?_)
  (repeat' first|(refine sA rfl ?_ ?_;first|exact tI|omega) |(refine s4 rfl ‹_› rfl ?_ ?_;omega) |refine s2 rfl λ_ c=>?_ |(refine sC rfl (j) ?_;intro _ c)|refine sP rfl (v) rfl ?_ |refine s3 rfl ?_ ?_<;>rintro rfl |refine aU rfl ?_ |refine Aa ?_|(refine aC rfl ?_ ?_<;>rintro⟨⟩));all_goals try contradiction
  ·refine⟨⟨k+1,by omega⟩,by dsimp only;(omega),[],?_⟩
   have n:Cu (s.es.take (k+1)) l m=Cu (s.es.take k) l m ||| y:=by rw [i,if_pos ⟨by simpa using ‹decide (e.l=l)=true›,c⟩]
   simp[cX,zC,d,p,n]
  ·have n:Cu (s.es.take (k+1)) l m=Cu (s.es.take k) l m:=by rw [i,if_neg (by simp [c])]
   refine aK ?_;(repeat first|(refine sA rfl ?_ ?_;first|exact tI|omega) |refine aU rfl ?_ |refine Aa ?_);refine⟨⟨k+1,by omega⟩,by dsimp only;(omega),[],?_⟩;simp[cX,zC,d,n]
  ·have n:Cu (s.es.take (k+1)) l m=Cu (s.es.take k) l m:=by rw [i,if_neg (λh=>by simp [h.1] at c)]
   refine aK ?_;(repeat first|(refine sA rfl ?_ ?_;first|exact tI|omega) |refine aU rfl ?_ |refine Aa ?_);refine⟨⟨k+1,by omega⟩,by dsimp only;(omega),[],?_⟩;simp[cX,zC,d,n]
 ·obtain rfl:k=s.es.length:=by omega
  rw [gt];(repeat first|refine sN rfl ?_ |refine tA rfl ?_ |refine s2 rfl λ_ c=>?_ |refine aU rfl ?_ |refine Aa ?_)
  ((refine aC rfl ?_ ?_<;>rintro⟨⟩);all_goals try(exfalso;(simp only[oZ] at *;omega)))
  refine aE ?_;(repeat first|refine tA rfl ?_ |refine aU rfl ?_ |refine Aa ?_);(subst_vars;exact aR ⟨_,rfl,rfl⟩)
abbrev Nn(n:Nat)(F:PS):List Int:=(List.range n).map λp=>(F p:Int)
def Cl(t:CO)(G:PS)(i k:Nat):Prop:=∀p,p < t.q.nx.length->∀l∈Cy t,(p < i\/(p=i/\l∈(Cy t).take k))->∀j,(Cu t.s.es l (G p)).testBit j=true->(G (CB t.q p l).toNat).testBit j=true
structure Ue (t:CO) (F0 F:PS) (i k:Nat) (G:PS) (b:Bool):Prop where
 ok:C7 t G
 lo:∀p j,(F0 p).testBit j=true->(G p).testBit j=true
 hi:∀p j,(G p).testBit j=true->QB t F0 p j
 le:∀p,F p<=G p
 yes:b=true->On G < On F
 no:b=false->G=F/\Cl t F i k
theorem gh{F G:PS}(h:∀p,F p<=G p):On G<=On F:=by
 unfold On
 repeat' apply Nat.add_le_add
 all_goals exact Nat.sub_le_sub_left (h _) _
def XM(G:PS)(x v:Nat):PS:=λp=>if p=x then v else G p
theorem Ue.Qh{t:CO}(ht:Bd t=true){F0 F G:PS}{i k:Nat}{b:Bool}(h:Ue t F0 F i k G b)(hi:i < t.q.nx.length){l:Int}(hk:(Cy t)[k]? = some l){x:Nat}(u:CB t.q i l=(x:Int))(m:G x ||| Cu t.s.es l (G i)≠G x):Ue t F0 F i (k+1) (XM G x (G x ||| Cu t.s.es l (G i))) true:=by
 have r:=co hk;have d:=DC ht r;have w:=Dy (CD ht) hi d.1 d.2.1;have c:=Jw ht (l:=l) (h.ok.lt i);unfold Dt at c;rw [if_pos d.2.2] at c
 have f:G x ||| Cu t.s.es l (G i) < 65536:=by have:=qk (n:=16) (h.ok.lt x) c;omega
 have g:∀p,G p<=XM G x (G x ||| Cu t.s.es l (G i)) p:=λp=>by
  unfold XM;split
  ·rename_i e;subst e;exact Nat.left_le_or
  ·exact i9 _
 refine⟨⟨λp=>?_,λp v=>?_⟩,λp j a=>?_,λp j a=>?_,λp=>lc (h.le p) (g p),λ_=>?_,λh=>by cases h⟩
 ·unfold XM
  split
  ·exact f
  ·exact h.ok.lt p
 ·unfold XM
  rw [if_neg (by omega)];exact h.ok.z p v
 ·have:=h.lo p j a
  unfold XM;split
  ·rename_i e;subst e;rw [pT,this];rfl
  ·exact this
 ·unfold XM at a
  split at a
  ·rename_i e
   subst e;rw [pT,oN] at a
   rcases a with a|a
   ·exact h.hi p j a
   ·obtain⟨e,o,⟨B,A⟩,y⟩:=DT.1 a
    subst B;have:=QB.step (h.hi i _ A) o r rfl;rw [u,y] at this
    simpa using this
  ·exact h.hi p j a
 ·have H:=gh h.le
  refine lw (YL h.ok.lt (λp=>?_) g λo=>m ?_) H
  ·unfold XM
   split
   ·exact f
   ·exact h.ok.lt p
  ·have I:=AE (CD ht)
   have:=TA o x (by omega)
   simpa [XM] using this
theorem Ue.mc{t:CO}(ht:Bd t=true){F0 F G:PS}{i k:Nat}{b:Bool}(h:Ue t F0 F i k G b){l:Int}(hk:(Cy t)[k]? = some l){x:Nat}(m:CB t.q i l=(x:Int))(n:G x ||| Cu t.s.es l (G i)=G x):Ue t F0 F i (k+1) G b:=
 ⟨h.ok, h.lo,h.hi,h.le,h.yes,λhb=>by
  obtain⟨rfl,g⟩:=h.no hb;refine⟨rfl,λp f l' c d j e=>?_⟩
  rcases d with a|⟨rfl,a⟩
  ·exact g p f l' c (.inl a) j e
  ·rw [d9,hk] at a
   rcases em.1 a with a|a
   ·exact g p f l' c (.inr ⟨rfl,a⟩) j e
   ·simp at a
    subst a
    rw [m,io,<-n,pT,e,q8]⟩
theorem Ue.row{t:CO}{F0 F G:PS}{i:Nat}{b:Bool}(h:Ue t F0 F i (Cy t).length G b):Ue t F0 F (i+1) 0 G b:=
 ⟨h.ok,h.lo,h.hi,h.le,h.yes,λhb=>by
  obtain⟨rfl,f⟩:=h.no hb;refine⟨rfl,λp d l' a c j e=>?_⟩
  rcases c with k|⟨rfl,k⟩
  ·rcases oY p i with g|g
   ·exact f p d l' a (.inl g) j e
   ·exact f p d l' a (.inr ⟨by omega,by rw [gt];exact a⟩) j e
  ·simp at k⟩
theorem Ue.done{t:CO}(ht:Bd t=true){F0 F G:PS}(e:C7 t F0)(h:Ue t F0 F t.q.nx.length 0 G false):G=SQ t F0:=by
 obtain⟨rfl,d⟩:=h.no rfl;exact cm ht e h.ok.z h.lo h.hi λp l j a b c=>d p a l b (.inl a) j c
theorem ia{a b:Int}(ha:Bb a=true)(hb:Bb b=true):a - Gh .i64 a b=Hn .i64 a b/\0<=Gh .i64 a b/\Gh .i64 a b<=63:=by
 have key:((List.range 64).all λx=>(List.range 64).all λy=>decide (((x:Nat):Int) - Gh .i64 (x:Nat) (y:Nat)=Hn .i64 (x:Nat) (y:Nat)/\0<=Gh .i64 (x:Nat) (y:Nat)/\Gh .i64 (x:Nat) (y:Nat)<=63))=true:=by kernel_rfl
 unfold Bb at ha hb;simp only [decide_eq_true_eq] at ha hb;have d:=f7.1 key a.toNat (oJ.2 (by omega));have c:=f7.1 d b.toNat (oJ.2 (by omega));rw [ro ha.1,ro hb.1] at c;exact of_decide_eq_true c
abbrev mB(r:Ef×Bool):E:=.t [(true,(Bg r.1)),(false,[.d (bD r.2)])]
theorem WW(a:W)(u:a.length<=1000000):Spec Tryz.prog TB 154 [] 0 [eT a] (Ep (λ_:Ef×Bool=>True) mB):=by
 refine eR Tryz.func154 rfl (by kernel_rfl) rfl ?_;intro Z b;(repeat first|refine tA rfl ?_ |refine aU rfl ?_ |refine Aa ?_);refine aB ?_;refine aL (α:={k:Nat // k<=a.length}) [0] [] rfl rfl (λs=>[(2,.o (.ptr 0 3 0 0)),(4,eI .i64 s.1)]) (λs=>[(0,.cells 116 3 [Bg ⟨0,0,0⟩])]) 1 (λs=>a.length - s.1) (⟨0,by omega⟩) b rfl (by (simp[cX,zC,b,cN])) ?_;rintro⟨k,hk⟩;(try dsimp only[cA,cB]);by_cases p:k < a.length
 ·obtain⟨c,r⟩:=get_some (l:=a) (k:=(k:Int).toNat) (by omega)
  have q:=c.toNat_lt;have j:=Iu (TB:=TB) a k c r;(repeat first|refine tA rfl ?_ |refine s2 rfl λ_ d=>?_ |refine aU rfl ?_ |refine Aa ?_)
  ((refine aC rfl ?_ ?_<;>rintro⟨⟩);all_goals try(exfalso;(simp only[oZ] at *;omega)))
  refine aK ?_;refine aS (aB ?_)
  (repeat' first|refine tA rfl ?_ |(refine s4 rfl ‹_› rfl ?_ ?_;omega) |refine s2 rfl λ_ d=>?_ |refine s3 rfl ?_ ?_<;>rintro rfl |refine aU rfl ?_ |refine Aa ?_|(refine aC rfl ?_ ?_<;>rintro⟨⟩));all_goals try contradiction
  all_goals first| (exfalso;omega;done)|skip
  ·(repeat first| (refine Ag rfl ?_;refine gA rfl ?_;first| refine gS (λ_ _=>Y9 rfl rfl (by omega) (by omega)) ?_))
   (refine pW rfl ?_ rfl (by rfl);refine Ai [] rfl rfl (JI (TB:=TB) (a.take (k:Int).toNat) (by simp;omega)) ⟨rfl,by decide,by decide⟩ rfl trivial ?_;rintro n g h ⟨⟨f,t⟩,_,rfl,rfl,rfl⟩ _);(repeat first|(refine sA rfl ?_ ?_;first|exact tI|omega)|(refine Ag rfl ?_;refine gA rfl ?_;first| refine gS (λ_ _=>Es rfl rfl (by omega) (by omega)) ?_) |refine aU rfl ?_ |refine Aa ?_);(refine pW rfl ?_ rfl (by rfl);refine Ai [] rfl rfl (JI (TB:=TB) (a.drop ((k:Int)+1).toNat) (by simp;omega)) ⟨rfl,by decide,by decide⟩ rfl trivial ?_;rintro n g h ⟨⟨e,m⟩,_,rfl,rfl,rfl⟩ _);(repeat' first|refine tA rfl ?_ |refine sP rfl (j) rfl ?_|(refine Ag rfl ?_;refine gA rfl ?_;first| refine gS (λ_ _=>AG rfl rfl (by rfl) (by rfl)) ?_) |refine s3 rfl ?_ ?_<;>rintro rfl |refine aU rfl ?_ |refine Aa ?_|(refine aC rfl ?_ ?_<;>rintro⟨⟩))
   all_goals first
    | exact aR ⟨_,rfl,[],mB (⟨f,(c.toNat:Int) - 97,e⟩,m),[],⟨λi hi=>absurd hi (kw i),lm⟩,rfl,trivial,(⟨f,(c.toNat:Int) - 97,e⟩,m),trivial,rfl,rfl,rfl⟩
    | exact aR ⟨_,rfl,[],mB (⟨f,(c.toNat:Int) - 97,e⟩,false),[],⟨λi hi=>absurd hi (kw i),lm⟩,rfl,trivial,(⟨f,(c.toNat:Int) - 97,e⟩,false),trivial,rfl,rfl,rfl⟩
  all_goals
   refine aK ?_;(repeat first|(refine sA rfl ?_ ?_;first|exact tI|omega) |refine aU rfl ?_ |refine Aa ?_);refine⟨⟨k+1,by omega⟩,by dsimp only;(omega),[0],?_⟩;(simp[cX,zC,b,cN]<;>rfl)
 ·(repeat first|refine tA rfl ?_ |refine s2 rfl λ_ d=>?_ |refine aU rfl ?_ |refine Aa ?_)
  ((refine aC rfl ?_ ?_<;>rintro⟨⟩);all_goals try(exfalso;(simp only[oZ] at *;omega)))
  refine aE ?_;(repeat first|refine tA rfl ?_|(refine Ag rfl ?_;refine gA rfl ?_;first| refine gS (λ_ _=>AG rfl rfl (by rfl) (by rfl)) ?_) |refine aU rfl ?_ |refine Aa ?_);exact aR ⟨_,rfl,[],mB (⟨0,0,0⟩,false),[],⟨λi hi=>absurd hi (kw i),lm⟩,rfl,trivial,(⟨0,0,0⟩,false),trivial,rfl,rfl,rfl⟩
theorem IK(y:Sys)(hb:y.es.length<=100000):Spec Tryz.prog TB 155 [] 0 [Br y] (Ep (λr:W=>r.length<=1000000) eT):=by
 have A:=Ce (TB:=TB) y;refine eR Tryz.func155 rfl (by kernel_rfl) rfl ?_;intro Z d;(repeat first|refine tA rfl ?_ |refine s2 rfl λ_ a=>?_ |(refine sC rfl (A) ?_;intro _ a) |refine aU rfl ?_ |refine Aa ?_);(refine aC rfl ?_ ?_<;>rintro⟨⟩)
 ·(repeat first|refine tA rfl ?_ |refine aU rfl ?_ |refine Aa ?_)
  exact aR ⟨_,rfl,[],eT [],[],⟨λi hi=>absurd hi (kw i),lm⟩,rfl,trivial,[],pi _,rfl,rfl,rfl⟩
 have h:AV y=true:=by (simp at a;subst a;assumption)
 have K:=AN h;refine aK ?_;(repeat first|refine aU rfl ?_);refine rG ⟨Gg [(2,1),(6,1)],bE [0,1,4,5,2,3,6,7,8]⟩ (by kernel_rfl) ?_;(repeat first|refine tA rfl ?_);(refine pW rfl ?_ rfl (by rfl);refine Ai [] rfl rfl (EM (TB:=TB) y.al) ⟨rfl,by decide,by decide⟩ rfl trivial ?_;rintro j b c ⟨u,x,rfl,rfl,rfl⟩ _);(repeat first|(refine sA rfl ?_ ?_;simp only[oZ] at *;omega));(refine pW rfl ?_ rfl (by rfl);refine Ai [] rfl rfl (HO (TB:=TB) y.st (by omega)) ⟨rfl,by decide,by decide⟩ rfl trivial ?_;rintro j b c ⟨q,v,rfl,rfl,rfl⟩ _);(repeat first|(refine sA rfl ?_ ?_;first|exact tI|simp only[oZ] at *;omega) |refine aU rfl ?_ |refine Aa ?_);refine aB ?_;refine aL (α:={z:Nat×W // z.1<=y.es.length/\z.2.length<=10+9*z.1}) [1] [] rfl rfl (λs=>[(3,eT s.1.2),(4,eI .i64 s.1.1)]) (λs=>[]) 0 (λs=>y.es.length - s.1.1) (⟨⟨0,u++[32]++q⟩,by simp;omega⟩) d rfl (by (simp[cX,zC,d])) ?_;rintro⟨⟨k,w⟩,hk,o⟩;(try dsimp only[cA,cB]);have hk:k<=y.es.length:=hk;have o:w.length<=10+9*k:=o;by_cases m:k < y.es.length
 ·obtain⟨e,p⟩:=get_some m
  have n:=get_map (g:=Dr) p
  have F:(y.es.map Dr)[((k:Nat):Int).toNat]? = some (Dr e):=by rw [io];exact n
  have hb:=Dl h (co p);unfold DG at hb;simp only [d4,decide_eq_true_eq] at hb;(repeat first|refine sN rfl ?_ |refine tA rfl ?_ |refine s2 rfl λ_ a=>?_ |refine aU rfl ?_ |refine Aa ?_)
  ((refine aC rfl ?_ ?_<;>rintro⟨⟩);all_goals try(exfalso;(simp only[oZ] at *;omega)))
  refine aK ?_;refine aS (aB ?_);(repeat first|refine tA rfl ?_ |(refine s4 rfl ‹_› rfl ?_ ?_;omega) |refine aU rfl ?_ |refine Aa ?_);refine rG ⟨Gg [(3,10),(7,10),(11,10),(4,1001),(12,1001)],bE [0,1,2,3,6,7,10,11,4,5,8,9,12,13,14]⟩ (by kernel_rfl) ?_;(repeat first|(refine sA rfl ?_ ?_;first|exact tI|simp only[oZ] at *;omega));(refine Ag rfl ?_;refine Da ?_ rfl ⟨rfl,rfl⟩;refine Ai [] rfl rfl (HO (TB:=TB) e.f (by omega)) ⟨rfl,by decide,by decide⟩ rfl trivial ?_;rintro j b c ⟨J,H,rfl,rfl,rfl⟩ _;refine⟨Fi 0 rfl rfl,?_⟩);(repeat first|(refine sA rfl ?_ ?_;simp only[oZ] at *;omega) |refine sP rfl (HP e.l (by omega) (by omega)) rfl ?_);(refine Ag rfl ?_;refine Da ?_ rfl ⟨rfl,rfl⟩;refine Ai [] rfl rfl (HO (TB:=TB) e.t (by omega)) ⟨rfl,by decide,by decide⟩ rfl trivial ?_;rintro j b c ⟨I,G,rfl,rfl,rfl⟩ _;refine⟨Fi 0 rfl rfl,?_⟩);(repeat first|(refine sA rfl ?_ ?_;first|exact tI|omega|simp only[oZ] at *;omega) |refine aU rfl ?_ |refine Aa ?_);refine⟨⟨⟨k+1,w++[32]++J++[UInt8.ofNat (97+e.l.toNat)]++I⟩,by dsimp only;omega,by simp;omega⟩,by dsimp only;(omega),[],?_⟩;(simp[cX,zC,d,cN]<;>rfl)
 ·have B:k=y.es.length:=by omega
  (repeat first|refine sN rfl ?_ |refine tA rfl ?_ |refine s2 rfl λ_ a=>?_ |refine aU rfl ?_ |refine Aa ?_)
  ((refine aC rfl ?_ ?_<;>rintro⟨⟩);all_goals try(exfalso;(simp only[oZ] at *;omega)))
  refine aE ?_;(repeat first|refine tA rfl ?_ |refine aU rfl ?_ |refine Aa ?_);exact aR ⟨_,rfl,[],eT w,[],⟨λi hi=>absurd hi (kw i),lm⟩,rfl,trivial,w,by show w.length<=_;omega,rfl,rfl,rfl⟩
abbrev iB(r:Sys×Bool):E:=.t [(true,[.d (iD r.1.al),.d (iD r.1.st),.d (Ev r.1.es)]),(false,[.d (bD r.2)])]
def NL(al n:Int):List Ef->Ab
 | []=>[(1,.cells 25 3 [[.d (iD al),.d (iD n),.d (.v (.slice none 0 0))]])]
 | e::l=>[(1,.cells 25 3 [[.d (iD al),.d (iD n),.arr 2 3 0 (l.length+1)]]),(2,.cells 116 3 ((e::l).map Bg))]
theorem GG(f:W)(Y:f.length<=10000):Spec Tryz.prog TB 104 [] 0 [eT f] (Ep (λr:Sys×Bool=>r.1.es.length<=f.length+1) iB):=by
  refine eR Tryz.func104 rfl (by kernel_rfl) rfl ?_;intro Z e;(repeat first|refine tA rfl ?_ |refine aU rfl ?_ |refine Aa ?_);(refine pW rfl ?_ rfl (by rfl);refine Ai [] rfl rfl (Nf (TB:=TB) f (by omega) 32) ⟨rfl,by decide,by decide⟩ rfl trivial ?_;rintro m b c ⟨ps,⟨R,Q,q⟩,rfl,rfl,rfl⟩ _);(repeat first|refine sN rfl ?_ |refine tA rfl ?_ |refine s2 rfl λ_ a=>?_ |refine aU rfl ?_ |refine Aa ?_);by_cases S:ps.length < 2
  · ((refine aC rfl ?_ ?_<;>rintro⟨⟩);all_goals try(exfalso;(simp only[oZ] at *;omega)))
    (repeat first|refine tA rfl ?_|(refine Ag rfl ?_;refine gA rfl ?_;first| refine gS (λ_ _=>AG rfl rfl (by rfl) (by rfl)) ?_) |refine aU rfl ?_ |refine Aa ?_);exact aR ⟨_,rfl,[],iB (⟨0,0,[]⟩,false),[],⟨λi hi=>absurd hi (kw i),lm⟩,rfl,trivial,(⟨0,0,[]⟩,false),pi _,rfl,rfl,rfl⟩
  ((refine aC rfl ?_ ?_<;>rintro⟨⟩);all_goals try(exfalso;(simp only[oZ] at *;omega)))
  refine aK ?_;obtain⟨K,X⟩:=get_some (l:=ps) (k:=(0:Int).toNat) (by simp;omega);have V:=get_map (g:=CT) X;obtain⟨y,F⟩:=get_some (l:=ps) (k:=(1:Int).toNat) (by simp;omega);have U:=get_map (g:=CT) F;have B:=q y (co F);(repeat first|refine tA rfl ?_ |(refine s4 rfl ‹_› rfl ?_ ?_;omega) |refine aU rfl ?_);(refine pW rfl ?_ rfl (by rfl);refine Ai [] rfl rfl (HC (TB:=TB) K) ⟨rfl,by decide,by decide⟩ rfl trivial ?_;rintro m b c ⟨⟨n,ok⟩,_,rfl,rfl,rfl⟩ _);(repeat first|refine tA rfl ?_ |(refine s4 rfl ‹_› rfl ?_ ?_;omega) |refine aU rfl ?_ |refine Aa ?_);(refine pW rfl ?_ rfl (by rfl);refine Ai [] rfl rfl (JI (TB:=TB) y (by omega)) ⟨rfl,by decide,by decide⟩ rfl trivial ?_;rintro m b c ⟨⟨st,M⟩,_,rfl,rfl,rfl⟩ _);(repeat first|refine tA rfl ?_ |refine s2 rfl λ_ a=>?_ |refine s3 rfl ?_ ?_<;>rintro rfl |refine aU rfl ?_ |refine Aa ?_)
  (repeat' first|refine tA rfl ?_ |refine s2 rfl λ_ a=>?_ |refine aU rfl ?_ |refine Aa ?_|(refine aC rfl ?_ ?_<;>rintro⟨⟩));all_goals try contradiction
  all_goals first
    | ((repeat first|refine tA rfl ?_|(refine Ag rfl ?_;refine gA rfl ?_;first| refine gS (λ_ _=>AG rfl rfl (by rfl) (by rfl)) ?_) |refine Aa ?_)
       exact aR ⟨_,rfl,[],iB (⟨0,0,[]⟩,false),[],⟨λi hi=>absurd hi (kw i),lm⟩,rfl,trivial,(⟨0,0,[]⟩,false),pi _,rfl,rfl,rfl⟩
       done)
    | skip
  refine aK ?_;(repeat first|refine tA rfl ?_|(refine Ag rfl ?_;refine gA rfl ?_;first| refine gS (λ_ _=>PO rfl rfl (by rfl) (by rfl)) ?_) |refine aU rfl ?_ |refine Aa ?_);refine aB ?_;refine aL (α:={z:Nat×List Ef // (2<=z.1/\z.1<=ps.length)/\z.2.length+2=z.1}) [0,4] [] rfl rfl (λs=>[(2,.o (.ptr 0 3 0 0)),(9,.o (.ptr 1 3 0 0)),(10,eI .i64 s.1.1)]) (λs=>((0,.cells 25 3 [[.d (iD 0),.d (iD 0),.d (.l [])]])::NL n st s.1.2)) 3 (λs=>ps.length - s.1.1) (⟨⟨2,[]⟩,by simp;omega⟩) e rfl (by (simp[cX,zC,e,NL,cN])) ?_;rintro⟨⟨k,l⟩,hk,u⟩;(try dsimp only[cA,cB]);have hk:2<=k/\k<=ps.length:=hk;have u:l.length+2=k:=u;(repeat first|refine sN rfl ?_ |refine tA rfl ?_ |refine s2 rfl λ_ a=>?_ |refine aU rfl ?_ |refine Aa ?_)
  ((refine aC rfl ?_ ?_<;>rintro⟨⟩);all_goals try (simp at a;done))
  · have x:k < ps.length:=by (simp only[oZ] at *;omega)
    obtain⟨w,A⟩:=get_some (l:=ps) (k:=k) x;have P:=get_map (g:=CT) A;have N:=q w (co A);refine aK ?_;refine aS (aB ?_);(repeat first|refine tA rfl ?_ |(refine s4 rfl ‹_› rfl ?_ ?_;omega) |refine aU rfl ?_);(refine pW rfl ?_ rfl (by rfl);refine Ai [] rfl rfl (WW (TB:=TB) w (by omega)) ⟨rfl,by decide,by decide⟩ rfl trivial ?_;rintro m b c ⟨⟨⟨I,H,G⟩,L⟩,_,rfl,rfl,rfl⟩ _);(repeat first|refine tA rfl ?_ |refine s2 rfl λ_ a=>?_ |refine aU rfl ?_ |refine Aa ?_);(refine aC rfl ?_ ?_<;>rintro⟨⟩)
    · (repeat first|refine tA rfl ?_|(refine Ag rfl ?_;refine gA rfl ?_;first| refine gS (λ_ _=>AG rfl rfl (by rfl) (by rfl)) ?_) |refine aU rfl ?_ |refine Aa ?_)
      exact aR ⟨_,rfl,[],iB (⟨0,0,[]⟩,false),[],⟨λi hi=>absurd hi (kw i),lm⟩,rfl,trivial,(⟨0,0,[]⟩,false),pi _,rfl,rfl,rfl⟩
    refine aK ?_
    cases l with
    | nil=>
      (repeat first|refine tA rfl ?_ |refine aU rfl ?_);(refine pW rfl ?_ rfl (by rfl);refine YQ 61 rfl ?_;refine EG rfl rfl rfl (by intro r p;simp at p;subst p;rfl) (by rfl) (am rfl) (by simp) (λh=>?_) (λ_=>?_))
      · exact absurd h (by simp)
      (repeat first|(refine sA rfl ?_ ?_;first|exact tI|omega) |refine aU rfl ?_ |refine Aa ?_);refine⟨⟨⟨k+1,[⟨I,H,G⟩]⟩,⟨by dsimp only;omega,by dsimp only;omega⟩,by simp at u;simp;omega⟩,by dsimp only;(omega),[0,1,4],?_⟩;(simp[cX,zC,e,cN,NL,Ae,eC]<;>rfl)
    | cons j l=>
      (repeat first|refine tA rfl ?_ |refine aU rfl ?_);(refine pW rfl ?_ rfl (by rfl);refine Au rfl rfl rfl (by first| (simp;done)|(simp;(omega))) rfl (by intro r p;simp at p;subst p;rfl) (by rfl) (am rfl) (by simp at u |-;omega) ?_);(repeat first|(refine sA rfl ?_ ?_;first|exact tI|omega) |refine aU rfl ?_ |refine Aa ?_);refine⟨⟨⟨k+1,j::(l++[⟨I,H,G⟩])⟩,⟨by dsimp only;omega,by dsimp only;omega⟩,by simp at u |-;omega⟩,by dsimp only;(omega),[0,1,4],?_⟩;(simp[cX,zC,e,cN,NL,Ae,eC]<;>rfl)
  refine aE ?_
  have T:k=ps.length:=by (simp only[oZ] at *;omega)
  have t:l.length<=f.length+1:=by omega
  cases l with
  | nil=>
    refine Aj.AF [1] [(0,eT f),(2,.o (.ptr 0 3 0 0)),(9,.o (.ip (AL ⟨n,st,[]⟩)))] ⟨⟨_,rfl,.inl rfl⟩,⟨_,rfl,.inl rfl⟩,⟨_,rfl,.inr (.o (.box rfl (.cons .d (.cons .d (.cons .nl .nil)))))⟩,trivial⟩ ?_;(repeat first|refine tA rfl ?_ |refine aU rfl ?_);(refine pW rfl ?_ rfl (by rfl);refine Ai [] rfl rfl (IK (TB:=TB) ⟨n,st,[]⟩ (by simp)) ⟨rfl,by decide,by decide⟩ rfl trivial ?_;rintro m b c ⟨J,v,rfl,rfl,rfl⟩ _);(repeat first|refine tA rfl ?_ |refine s2 rfl λ_ a=>?_ |refine Aa ?_);(refine aC rfl ?_ ?_<;>rintro⟨⟩)
    · (repeat first|refine tA rfl ?_|(refine Ag rfl ?_;refine gA rfl ?_;first| refine gS (λ_ _=>AG rfl rfl (by rfl) (by rfl)) ?_) |refine aU rfl ?_ |refine Aa ?_)
      exact aR ⟨_,rfl,[],iB (⟨0,0,[]⟩,false),[],⟨λi hi=>absurd hi (kw i),lm⟩,rfl,trivial,(⟨0,0,[]⟩,false),pi _,rfl,rfl,rfl⟩
    refine aK ?_;(repeat first|refine tA rfl ?_ |refine aU rfl ?_ |refine Aa ?_);exact aR ⟨_,rfl,[],iB (⟨n,st,[]⟩,true),[],⟨λi hi=>absurd hi (kw i),lm⟩,rfl,trivial,(⟨n,st,[]⟩,true),pi _,rfl,rfl,rfl⟩
  | cons j l=>
    refine Aj.AF [1,2] [(0,eT f),(2,.o (.ptr 0 3 0 0)),(9,.o (.ip (AL ⟨n,st,j::l⟩)))] ⟨⟨_,rfl,.inl rfl⟩,⟨_,rfl,.inl rfl⟩,⟨_,rfl,.inr (.o (.box rfl (.cons .d (.cons .d (.cons (.full rfl (by simp [d5]) (by simp)) .nil)))))⟩,trivial⟩ ?_;(repeat first|refine tA rfl ?_ |refine aU rfl ?_);(refine pW rfl ?_ rfl (by rfl);refine Ai [] rfl rfl (IK (TB:=TB) ⟨n,st,j::l⟩ (by simp at t |-;omega)) ⟨rfl,by decide,by decide⟩ rfl trivial ?_;rintro m b c ⟨J,v,rfl,rfl,rfl⟩ _);(repeat first|refine tA rfl ?_ |refine s2 rfl λ_ a=>?_ |refine Aa ?_);(refine aC rfl ?_ ?_<;>rintro⟨⟩)
    · (repeat first|refine tA rfl ?_|(refine Ag rfl ?_;refine gA rfl ?_;first| refine gS (λ_ _=>AG rfl rfl (by rfl) (by rfl)) ?_) |refine aU rfl ?_ |refine Aa ?_)
      exact aR ⟨_,rfl,[],iB (⟨0,0,[]⟩,false),[],⟨λi hi=>absurd hi (kw i),lm⟩,rfl,trivial,(⟨0,0,[]⟩,false),pi _,rfl,rfl,rfl⟩
    refine aK ?_;(repeat first|refine tA rfl ?_ |refine aU rfl ?_ |refine Aa ?_);exact aR ⟨_,rfl,[],iB (⟨n,st,j::l⟩,true),[],⟨λi hi=>absurd hi (kw i),lm⟩,rfl,trivial,(⟨n,st,j::l⟩,true),t,rfl,rfl,rfl⟩
theorem Tz{n x v:Nat}{G:PS}:((Nn n G).map AD).set x (AD (v:Int))=(Nn n (XM G x v)).map AD:=by
 apply pP;intro i;rw [sf];by_cases hi:i < n
 ·have a:∀H:PS,((Nn n H).map AD)[i]? = some (AD (H i:Int)):=λH=>by simp [hi]
  rw [a,a];unfold XM;by_cases e:x=i
  ·subst e;rw [if_pos rfl,if_pos (by simpa using hi),if_pos rfl]
  ·rw [if_neg e,if_neg (λh=>e h.symm)]
 ·have a:∀H:PS,((Nn n H).map AD)[i]? = none:=λH=>oL (by simp;omega)
  rw [a,a];by_cases e:x=i
  ·subst e;rw [if_pos rfl,if_neg (by simpa using hi)]
  ·rw [if_neg e]
theorem Tx{n x:Nat}{G:PS}(h:x < n):((Nn n G).map AD)[0+((x:Nat):Int).toNat]? = some (AD (G x:Int)):=by rw [oH,io];simp [h]
theorem Ue.start{t:CO}{F0 F:PS}(a:C7 t F)(c:∀p j,(F0 p).testBit j=true->(F p).testBit j=true)(b:∀p j,(F p).testBit j=true->QB t F0 p j):Ue t F0 F 0 0 F false:=
 ⟨a,c,b,λ_=>i9 _,λh=>(by cases h),λ_=>⟨rfl,λp _ l _ h=>by simp at h⟩⟩
theorem Pz{t:CO}(ht:Bd t=true){F0:PS}(K:C7 t F0):Spec Tryz.prog TB 200 [(0,.cells 3 1 ((Nn t.q.nx.length F0).map AD))] 1 [QM t,.o (.arr 0 1 0 t.q.nx.length)] (λx σ nx=>x=.o (.arr 0 1 0 t.q.nx.length)/\σ=[(0,.cells 3 1 ((Nn t.q.nx.length (SQ t F0)).map AD))]/\nx=1):=by
 have P:AV t.s=true:=by unfold Bd at ht;simp only [d4] at ht;exact ht.1
 have A:Bb t.al=true:=by unfold Bd at ht;simp only [d4] at ht;exact ht.2.2
 have y:=AN P;have g:=CD ht;have hah:=AE g;have H:=ia y.1 A;have I:=y.1;unfold Bb at I;simp only [decide_eq_true_eq] at I
 have R:Pure Tryz.prog TB 85 [eI .i64 (t.s.al - Gh .i64 t.s.al t.al)] (Ak (Cy t)):=by
  have:=Cj (TB:=TB) (t.s.al - Gh .i64 t.s.al t.al);rw [H.1,Jn y.1 A] at this;rw [H.1];exact this
 have hll:(Cy t).length<=6:=by
  unfold Cy;have V:(Ac t.s.al).length<=6:=AM _ _;exact lc (p8 _ _) V
 refine eR Tryz.func200 rfl (by kernel_rfl) rfl ?_;intro Z c;(repeat first|(refine sA rfl ?_ ?_;first|exact tI|omega) |refine sP rfl (R) rfl ?_ |refine aU rfl ?_ |refine Aa ?_);refine aB ?_;refine aL (α:={s:PS×Bool // C7 t s.1/\(∀p j,(F0 p).testBit j=true->(s.1 p).testBit j=true)/\(∀p j,(s.1 p).testBit j=true->QB t F0 p j)/\(s.2=false->s.1=SQ t F0)}) [1,2,5] [] rfl rfl (λs=>[(6,eB s.1.2)]) (λs=>[(0,.cells 3 1 ((Nn t.q.nx.length s.1.1).map AD))]) 1 (λs=>(if s.1.2 then On s.1.1+1 else 0)) (⟨⟨F0,true⟩,K,λ_ _ h=>h,λ_ _ h=>.base h,λh=>by cases h⟩) c rfl (by (simp[cX,zC,c])) ?_;rintro⟨⟨F,b⟩,U,V,h2,h3⟩;(try dsimp only[cA,cB]);have U:C7 t F:=U
 cases b with
 | false=>
  obtain rfl:F=SQ t F0:=h3 rfl;(repeat first|refine tA rfl ?_ |refine aU rfl ?_ |refine Aa ?_);(refine aC rfl ?_ ?_<;>rintro⟨⟩);refine aE ?_;(repeat first|refine tA rfl ?_ |refine aU rfl ?_ |refine Aa ?_);refine aR ⟨_,rfl,[0],.o (.arr 0 1 0 t.q.nx.length),_,⟨by intro i hi;match i with|0=>rfl,by decide⟩,rfl,?_,rfl,rfl,rfl⟩;(simp[cX,zC,c])
 | true =>
  (repeat first|refine tA rfl ?_ |refine aU rfl ?_ |refine Aa ?_);(refine aC rfl ?_ ?_<;>rintro⟨⟩);refine aK ?_;refine aB ?_;(repeat first|refine tA rfl ?_ |refine aU rfl ?_ |refine Aa ?_);refine aB ?_;refine aL (α:={s:Nat×PS×Bool // s.1<=t.q.nx.length/\Ue t F0 F s.1 0 s.2.1 s.2.2}) [1,2,5] [] rfl rfl (λs=>[(6,eB s.1.2.2),(7,eI .i64 s.1.1)]) (λs=>[(0,.cells 3 1 ((Nn t.q.nx.length s.1.2.1).map AD))]) 1 (λs=>t.q.nx.length - s.1.1) (⟨⟨0,F,false⟩,by simp,.start U V h2⟩) c rfl (by (simp[cX,zC,c])) ?_;rintro⟨⟨i,G,b⟩,hi,w⟩;(try dsimp only[cA,cB]);have hi:i<=t.q.nx.length:=hi;have w:Ue t F0 F i 0 G b:=w;by_cases u:i < t.q.nx.length
  ·(repeat first|refine tA rfl ?_ |refine s2 rfl λ_ d=>?_ |refine aU rfl ?_ |refine Aa ?_)
   ((refine aC rfl ?_ ?_<;>rintro⟨⟩);all_goals try(exfalso;(simp only[oZ] at *;omega)))
   refine aK ?_;refine aS (aB ?_);(repeat first|refine tA rfl ?_ |refine aU rfl ?_ |refine Aa ?_);refine aB ?_;refine aL (α:={s:Nat×PS×Bool // s.1<=(Cy t).length/\Ue t F0 F i s.1 s.2.1 s.2.2}) [1,2,5,7] [] rfl rfl (λs=>[(6,eB s.1.2.2),(8,eI .i64 s.1.1)]) (λs=>[(0,.cells 3 1 ((Nn t.q.nx.length s.1.2.1).map AD))]) 1 (λs=>(Cy t).length - s.1.1) (⟨⟨0,G,b⟩,by simp,w⟩) c rfl (by (simp[cX,zC,c])) ?_;rintro⟨⟨k,G',b'⟩,hk,e⟩;(try dsimp only[cA,cB]);have hk:k<=(Cy t).length:=hk;have e:Ue t F0 F i k G' b':=e;clear w;by_cases S:k < (Cy t).length
   ·obtain⟨l,r⟩:=get_some S
    have f:=DC ht (co r)
    have hl':((Cy t).map Bs)[((k:Nat):Int).toNat]? = some (Bs l):=by rw [io];simp [r]
    have J:=JK (TB:=TB) t.q g i u l f.1 f.2.1;have T:=Dy g u f.1 f.2.1
    obtain⟨x,L⟩:∃x:Nat,CB t.q i l=x:=⟨(CB t.q i l).toNat,by omega⟩
    rw [L] at J T;have M:=RO (TB:=TB) P l (e.ok.lt i)
    have Y:Cu t.s.es l (G' i) < 65536:=by
     have:=UW P (l:=l) (m:=G' i) (k:=t.s.es.length);rwa [gt] at this
    have r1:=Tx (n:=t.q.nx.length) (G:=G') (x:=x) (by omega);have r2:=Tx (n:=t.q.nx.length) (G:=G') (x:=i) u;have X:=e.ok.lt x;have z:=OD (a:=G' x) (b:=Cu t.s.es l (G' i)) (by omega) (by omega);have B:=Tz (n:=t.q.nx.length) (x:=x) (v:=G' x ||| Cu t.s.es l (G' i)) (G:=G');(repeat first|refine sN rfl ?_ |refine tA rfl ?_ |refine s2 rfl λ_ d=>?_ |refine aU rfl ?_ |refine Aa ?_)
    ((refine aC rfl ?_ ?_<;>rintro⟨⟩);all_goals try(exfalso;(simp only[oZ] at *;omega)))
    refine aK ?_;refine aS (aB ?_);(repeat first|refine aU rfl ?_);refine rG (Hg []) (by kernel_rfl) ?_;(repeat first|refine tA rfl ?_ |(refine s4 rfl ‹_› rfl ?_ ?_;omega) |refine sP rfl (J) rfl ?_ |refine aU rfl ?_ |refine Aa ?_);refine rG (Hg []) (by kernel_rfl) ?_;(repeat first|((first|refine sA rfl ?_ ?_|refine s4 rfl ‹_› rfl ?_ ?_);first|exact tI|omega) |refine s2 rfl λ_ d=>?_ |refine sP rfl (M) rfl ?_ |refine aU rfl ?_ |refine Aa ?_);(refine aC rfl ?_ ?_<;>rintro⟨⟩)
    ·have Q:G' x ||| Cu t.s.es l (G' i)≠G' x:=by
      rw [z] at d;simp only [decide_eq_true_eq] at d;omega
     (repeat first|(refine sA rfl ?_ ?_;first|exact tI|omega) |refine t4 rfl ‹_› rfl ?_ |refine aU rfl ?_ |refine Aa ?_);have N:=e.Qh ht u r L Q;generalize XM G' x (G' x ||| Cu t.s.es l (G' i))=G2 at *;refine⟨⟨⟨k+1,G2,true⟩,by omega,N⟩,by dsimp only;(omega),[0],?_⟩
     simp[cX,zC,c,z];simpa [d5] using B
    ·have he:G' x ||| Cu t.s.es l (G' i)=G' x:=by
      rw [z] at d;simp only [decide_eq_false_iff_not] at d;omega
     refine aK ?_;(repeat first|(refine sA rfl ?_ ?_;first|exact tI|omega) |refine aU rfl ?_ |refine Aa ?_);refine⟨⟨⟨k+1,G',b'⟩,by omega,e.mc ht r L he⟩,by dsimp only;(omega),[0],?_⟩;simp[cX,zC,c]
   ·obtain rfl:k=(Cy t).length:=by omega
    (repeat first|refine sN rfl ?_ |refine tA rfl ?_ |refine s2 rfl λ_ d=>?_ |refine aU rfl ?_ |refine Aa ?_)
    ((refine aC rfl ?_ ?_<;>rintro⟨⟩);all_goals try(exfalso;(simp only[oZ] at *;omega)))
    refine aE ?_;(repeat first|(refine sA rfl ?_ ?_;first|exact tI|omega) |refine aU rfl ?_ |refine Aa ?_);refine⟨⟨⟨i+1,G',b'⟩,by omega,e.row⟩,by dsimp only;(omega),[0],?_⟩;simp[cX,zC,c]
  ·obtain rfl:i=t.q.nx.length:=by omega
   (repeat first|refine tA rfl ?_ |refine s2 rfl λ_ d=>?_ |refine aU rfl ?_ |refine Aa ?_)
   ((refine aC rfl ?_ ?_<;>rintro⟨⟩);all_goals try(exfalso;(simp only[oZ] at *;omega)))
   refine aE ?_;refine⟨⟨⟨G,b⟩,w.ok,w.lo,w.hi,λhb=>by have hb:b=false:=hb;subst hb;exact w.done ht K⟩,by cases b<;>simp_all [w.yes],[0],?_⟩;simp[cX,zC,c]
def Ko(m n:Nat):Nat:=(List.range n).countP (m.testBit ·)
theorem PT(m n:Nat):Ko m (n+1)=if m.testBit n then Ko m n+1 else Ko m n:=by
 unfold Ko;rw [qf,List.countP_append];cases h:m.testBit n<;>simp [h]
theorem dX(m n:Nat):Ko m n<=n:=by
 unfold Ko;have:=List.countP_le_length (p:=(m.testBit ·)) (l:=List.range n);rwa [List.length_range] at this
theorem Ng(m:Nat)(e:m < 2 ^ 62)(n:Nat)(h:n<=60):Pure Tryz.prog TB 165 [eI .i64 (m:Nat),eI .i64 (n:Nat)] (eI .i64 (Ko m n:Nat)):=by
 refine eG Tryz.func165 rfl (by kernel_rfl) rfl ?_;intro Z a;(repeat first|refine tA rfl ?_ |refine aU rfl ?_ |refine Aa ?_);refine aB ?_;refine aL (α:={k:Nat // k<=n}) [0,1] [] rfl rfl (λ⟨k,hk⟩=>[(5,eI .i64 (Ko m k:Nat)),(6,eI .i64 k)]) (λ⟨k,hk⟩=>[]) 0 (λ⟨k,hk⟩=>n - k) (⟨0,by omega⟩) a rfl (by (simp[cX,zC,a]<;>rfl)) ?_;rintro⟨k,hk⟩;(try dsimp only[cA,cB]);by_cases f:k < n
 ·have g:=dX m k
  have c:=PT m k;have d:=C8 (TB:=TB) (m:Nat) (k:Int) (by omega) (by omega);rw [Dq e (by omega)] at d;(repeat first|refine tA rfl ?_ |refine s2 rfl λ_ b=>?_ |refine aU rfl ?_ |refine Aa ?_)
  ((refine aC rfl ?_ ?_<;>rintro⟨⟩);all_goals try(exfalso;(simp only[oZ] at *;omega)))
  refine aK ?_;refine aS (aB ?_);(repeat first|refine tA rfl ?_ |(refine sC rfl (d) ?_;intro _ b) |refine aU rfl ?_ |refine Aa ?_);(refine aC rfl ?_ ?_<;>rintro⟨⟩)
  ·have hb:m.testBit k=true:=by simpa using b
   rw [if_pos hb] at c;(repeat first|(refine sA rfl ?_ ?_;first|exact tI|omega) |refine aU rfl ?_ |refine Aa ?_);refine⟨⟨k+1,by omega⟩,by dsimp only;(omega),[],?_⟩;simp[cX,zC,a,c]
  ·have hb:m.testBit k=false:=by simpa using b
   rw [if_neg (by simp [hb])] at c;refine aK ?_;(repeat first|(refine sA rfl ?_ ?_;first|exact tI|omega) |refine aU rfl ?_ |refine Aa ?_);refine⟨⟨k+1,by omega⟩,by dsimp only;(omega),[],?_⟩;simp[cX,zC,a,c]
 ·obtain rfl:k=n:=by omega
  (repeat first|refine tA rfl ?_ |refine s2 rfl λ_ b=>?_ |refine aU rfl ?_ |refine Aa ?_)
  ((refine aC rfl ?_ ?_<;>rintro⟨⟩);all_goals try(exfalso;(simp only[oZ] at *;omega)))
  refine aE ?_;(repeat first|refine tA rfl ?_ |refine aU rfl ?_ |refine Aa ?_);(subst_vars;exact aR ⟨_,rfl,rfl⟩)
def fY(al n:Int)(l:List Ef):Ab:=(0,.cells 25 3 [[.d (iD 0),.d (iD 0),.d (.l [])]])::NL al n l
theorem WT(n:Int)(d:0<=n)(g:n<=16):Pure Tryz.prog TB 120 [eI .i64 n] (eI .i64 ((2 ^ n.toNat:Nat):Int)):=by
 have a:IntKind.i64.wrap (1*2 ^ (min n.toNat IntKind.i64.bits))=((2 ^ n.toNat:Nat):Int):=by
  have e:min n.toNat IntKind.i64.bits=n.toNat:=by
   have:IntKind.i64.bits=64:=rfl;omega
  rw [e,r5];have f:2 ^ n.toNat < 2 ^ 17:=qD (by omega) (by omega)
  have c:(2:Int) ^ n.toNat=((2 ^ n.toNat:Nat):Int):=by push_cast;rfl
  rw [c];generalize 2 ^ n.toNat=p at *;exact IntWalk.i64_in _ (by omega)
 refine eN Tryz.func120 rfl (by kernel_rfl) rfl ?_;intro Z b;(repeat' first|(refine sA rfl ?_ ?_;first|exact tI|omega)|(refine Ag rfl ?_;refine gA rfl ?_;first| refine gS (λ_ _=>dW rfl rfl d a) ?_) |refine aU rfl ?_ |refine Aa ?_|(refine aC rfl ?_ ?_<;>rintro⟨⟩)|refine aK ?_|refine aE ?_|refine aB ?_|refine aR ⟨_,rfl,?_⟩);rfl
abbrev nJ(r:CO×Bool):E:=.t [(true,(Mt r.1).map .d),(false,[.d (bD r.2)])]
end Go.Am
