/-
  Two systems and a property, of which one may be wrong, drawn: walked.
-/
import Derived.Test.YtohfiindiidcfaaGreatDoorPart32
import Derived.Test.YtohfiindiidcfaaGreatDoorPart31
set_option linter.all false
namespace Go.Am
open Go Go.Proofs
set_option maxHeartbeats 1000000
set_option maxRecDepth 4000
attribute [local irreducible] A8 Cq Lex Br Ai Spec
variable {TB:BA}
abbrev SS(r:Sys×Sys×AU):E:=.t [(true,(AD r.1).map .d),(true,(AD r.2.1).map .d),(true,(AF r.2.2).map .d)]
structure bu (r:Sys×Sys×AU) (n m:Nat):Prop where
 a:r.1.es.length<=n
 b:r.2.1.es.length<=n
 c:HG m r.2.2
def Um(b:List UInt8)(p d:Int)(n m:Nat)(x:E)(σ:Ab)(nx:Nat):Prop:=∃(p':Int) (r:Sys×Sys×AU),(p<=p'/\p'<=p+d)/\bu r n m/\x=SS r/\σ=[(0,A5 b p')]/\nx=1
def Zu(b:List UInt8)(p d:Int)(n m:Nat)(x:E)(σ:Ab)(nx:Nat):Prop:=∃(p':Int) (r:Sys×AU×Sys),(p<=p'/\p'<=p+d)/\bu (r.1,r.2.2,r.2.1) n m/\x=IZ r/\σ=[(0,A5 b p')]/\nx=1
theorem Tp(b:List UInt8)(hb:b.length<=2000)(p:Int)(G:0<=p/\p < 700000000)(s:Sys)(q:AU)(t:Sys)(F:s.es.length<=2000)(ht:t.es.length<=2000)(A:HG 1000 q):Spec Tryz.prog TB 62 [(0,A5 b p)] 1 [.o (.ptr 0 2 0 0),Bx s,Bj q,Bx t] (Zu b p 20 2003 1042):=by
 obtain⟨c,I,H,B⟩:=A1 (TB:=TB) b hb p 30 (by omega);refine eR Tryz.func62 rfl (by kernel_rfl) rfl ?_;intro Z a;(repeat first|refine aU rfl ?_);(refine pW rfl ?_ rfl (by rfl);refine Nt rfl rfl ?_);(refine pW rfl ?_ rfl (by rfl);refine Nt rfl rfl ?_);(refine pW rfl ?_ rfl (by rfl);refine Nt rfl rfl ?_);(repeat first|refine tA rfl ?_ |refine aU rfl ?_ |apply Aa);(refine pW rfl ?_ rfl (by rfl);refine Af [0] rfl rfl (B) ⟨rfl,by decide,by decide⟩ rfl (by simp[cX,zC,a,cN]) ?_;rintro g d e ⟨rfl,rfl,rfl⟩ _);apply Aa;apply aB;(repeat first|refine tA rfl ?_ |refine s2 rfl λ_ z=>?_ |refine aU rfl ?_ |apply Aa);(refine aC rfl ?_ ?_<;>rintro⟨⟩)
 ·have y:=En (TB:=TB) b hb (p+1) (by omega) s (by omega)
  (repeat first|refine tA rfl ?_ |refine aU rfl ?_);(refine pW rfl ?_ rfl (by rfl);refine Af [0] rfl rfl (y) ⟨rfl,by decide,by decide⟩ rfl (by simp[cX,zC,a,cN]) ?_;rintro g d e ⟨n,s1,v,l,rfl,rfl,rfl⟩ _);have x:=En (TB:=TB) b hb n (by omega) s1 (by omega);(refine pW rfl ?_ rfl (by rfl);refine Af [0] rfl rfl (x) ⟨rfl,by decide,by decide⟩ rfl (by simp[cX,zC,a,cN]) ?_;rintro g d e ⟨m,s2,u,k,rfl,rfl,rfl⟩ _);have w:=En (TB:=TB) b hb m (by omega) s2 (by omega);(refine pW rfl ?_ rfl (by rfl);refine Af [0] rfl rfl (w) ⟨rfl,by decide,by decide⟩ rfl (by simp[cX,zC,a,cN]) ?_;rintro g d e ⟨h,f,r,j,rfl,rfl,rfl⟩ _);(repeat first|refine tA rfl ?_ |refine aU rfl ?_ |apply Aa);refine Ai.Az [1,2,3] [(5,.o (.ip (AD f))),(6,.o (.ip (AF q))),(7,.o (.ip (AD t))),(8,.o (.ptr 4 3 0 0)),(9,.o (.ptr 5 3 0 0)),(10,.o (.ptr 6 3 0 0))] ⟨⟨_,rfl,.inr (.o (.box rfl (Ef.refl (AD f))))⟩,⟨_,rfl,.inr (.o (.box rfl (Ef.refl (AF q))))⟩,⟨_,rfl,.inr (.o (.box rfl (Ef.refl (AD t))))⟩,⟨_,rfl,.inl rfl⟩,⟨_,rfl,.inl rfl⟩,⟨_,rfl,.inl rfl⟩,trivial⟩ ?_;refine rG (IG [(3,1),(4,1),(5,1)]) (by kernel_rfl) ?_;(repeat first|refine tA rfl ?_ |apply Aa);exact aR ⟨_,rfl,[0],IZ (f,q,t),[(0,A5 b (h))],⟨by intro i hi;match i with|0=>rfl,by decide⟩,rfl,by (simp[cX,zC,a,cN]),h,(f,q,t),by omega,⟨by show f.es.length<=_;omega,by show t.es.length<=_;omega,A.upto (by omega)⟩,rfl,rfl,rfl⟩
 ·(repeat first|refine tA rfl ?_ |refine s2 rfl λ_ z=>?_ |refine aU rfl ?_ |apply Aa)
  (refine aC rfl ?_ ?_<;>rintro⟨⟩)
  ·have y:=Eo (TB:=TB) b hb (p+1) (by omega) q 1000 A (by omega)
   (repeat first|refine tA rfl ?_ |refine aU rfl ?_);(refine pW rfl ?_ rfl (by rfl);refine Af [0] rfl rfl (y) ⟨rfl,by decide,by decide⟩ rfl (by simp[cX,zC,a,cN]) ?_;rintro g d e ⟨n,s1,v,l,rfl,rfl,rfl⟩ _);have x:=Eo (TB:=TB) b hb n (by omega) s1 _ l (by omega);(refine pW rfl ?_ rfl (by rfl);refine Af [0] rfl rfl (x) ⟨rfl,by decide,by decide⟩ rfl (by simp[cX,zC,a,cN]) ?_;rintro g d e ⟨m,s2,u,k,rfl,rfl,rfl⟩ _);have w:=Eo (TB:=TB) b hb m (by omega) s2 _ k (by omega);(refine pW rfl ?_ rfl (by rfl);refine Af [0] rfl rfl (w) ⟨rfl,by decide,by decide⟩ rfl (by simp[cX,zC,a,cN]) ?_;rintro g d e ⟨h,f,r,j,rfl,rfl,rfl⟩ _);(repeat first|refine tA rfl ?_ |refine aU rfl ?_ |apply Aa);refine Ai.Az [1,2,3] [(5,.o (.ip (AD s))),(6,.o (.ip (AF f))),(7,.o (.ip (AD t))),(8,.o (.ptr 4 3 0 0)),(9,.o (.ptr 5 3 0 0)),(10,.o (.ptr 6 3 0 0))] ⟨⟨_,rfl,.inr (.o (.box rfl (Ef.refl (AD s))))⟩,⟨_,rfl,.inr (.o (.box rfl (Ef.refl (AF f))))⟩,⟨_,rfl,.inr (.o (.box rfl (Ef.refl (AD t))))⟩,⟨_,rfl,.inl rfl⟩,⟨_,rfl,.inl rfl⟩,⟨_,rfl,.inl rfl⟩,trivial⟩ ?_;refine rG (IG [(3,1),(4,1),(5,1)]) (by kernel_rfl) ?_;(repeat first|refine tA rfl ?_ |apply Aa);exact aR ⟨_,rfl,[0],IZ (s,f,t),[(0,A5 b (h))],⟨by intro i hi;match i with|0=>rfl,by decide⟩,rfl,by (simp[cX,zC,a,cN]),h,(s,f,t),by omega,⟨by show s.es.length<=_;omega,by show t.es.length<=_;omega,HG.upto j (by omega)⟩,rfl,rfl,rfl⟩
  ·(repeat first|refine tA rfl ?_ |refine s2 rfl λ_ z=>?_ |refine aU rfl ?_ |apply Aa)
   (refine aC rfl ?_ ?_<;>rintro⟨⟩)
   ·have y:=En (TB:=TB) b hb (p+1) (by omega) t (by omega)
    (repeat first|refine tA rfl ?_ |refine aU rfl ?_);(refine pW rfl ?_ rfl (by rfl);refine Af [0] rfl rfl (y) ⟨rfl,by decide,by decide⟩ rfl (by simp[cX,zC,a,cN]) ?_;rintro g d e ⟨n,s1,v,l,rfl,rfl,rfl⟩ _);have x:=En (TB:=TB) b hb n (by omega) s1 (by omega);(refine pW rfl ?_ rfl (by rfl);refine Af [0] rfl rfl (x) ⟨rfl,by decide,by decide⟩ rfl (by simp[cX,zC,a,cN]) ?_;rintro g d e ⟨m,s2,u,k,rfl,rfl,rfl⟩ _);have w:=En (TB:=TB) b hb m (by omega) s2 (by omega);(refine pW rfl ?_ rfl (by rfl);refine Af [0] rfl rfl (w) ⟨rfl,by decide,by decide⟩ rfl (by simp[cX,zC,a,cN]) ?_;rintro g d e ⟨h,f,r,j,rfl,rfl,rfl⟩ _);(repeat first|refine tA rfl ?_ |refine aU rfl ?_ |apply Aa);refine Ai.Az [1,2,3] [(5,.o (.ip (AD s))),(6,.o (.ip (AF q))),(7,.o (.ip (AD f))),(8,.o (.ptr 4 3 0 0)),(9,.o (.ptr 5 3 0 0)),(10,.o (.ptr 6 3 0 0))] ⟨⟨_,rfl,.inr (.o (.box rfl (Ef.refl (AD s))))⟩,⟨_,rfl,.inr (.o (.box rfl (Ef.refl (AF q))))⟩,⟨_,rfl,.inr (.o (.box rfl (Ef.refl (AD f))))⟩,⟨_,rfl,.inl rfl⟩,⟨_,rfl,.inl rfl⟩,⟨_,rfl,.inl rfl⟩,trivial⟩ ?_;refine rG (IG [(3,1),(4,1),(5,1)]) (by kernel_rfl) ?_;(repeat first|refine tA rfl ?_ |apply Aa);exact aR ⟨_,rfl,[0],IZ (s,q,f),[(0,A5 b (h))],⟨by intro i hi;match i with|0=>rfl,by decide⟩,rfl,by (simp[cX,zC,a,cN]),h,(s,q,f),by omega,⟨by show s.es.length<=_;omega,by show f.es.length<=_;omega,A.upto (by omega)⟩,rfl,rfl,rfl⟩
   ·apply aK
    (repeat first|refine aU rfl ?_);refine Ai.Az [1,2,3] [(5,.o (.ip (AD s))),(6,.o (.ip (AF q))),(7,.o (.ip (AD t))),(8,.o (.ptr 4 3 0 0)),(9,.o (.ptr 5 3 0 0)),(10,.o (.ptr 6 3 0 0))] ⟨⟨_,rfl,.inr (.o (.box rfl (Ef.refl (AD s))))⟩,⟨_,rfl,.inr (.o (.box rfl (Ef.refl (AF q))))⟩,⟨_,rfl,.inr (.o (.box rfl (Ef.refl (AD t))))⟩,⟨_,rfl,.inl rfl⟩,⟨_,rfl,.inl rfl⟩,⟨_,rfl,.inl rfl⟩,trivial⟩ ?_;refine rG (IG [(3,1),(4,1),(5,1)]) (by kernel_rfl) ?_;(repeat first|refine tA rfl ?_ |apply Aa);exact aR ⟨_,rfl,[0],IZ (s,q,t),[(0,A5 b (p+1))],⟨by intro i hi;match i with|0=>rfl,by decide⟩,rfl,by (simp[cX,zC,a,cN]),p+1,(s,q,t),by omega,⟨by show s.es.length<=_;omega,by show t.es.length<=_;omega,A.upto (by omega)⟩,rfl,rfl,rfl⟩
end Go.Am
namespace Go.Am
open Go Go.Proofs
set_option maxHeartbeats 1000000
set_option maxRecDepth 4000
attribute [local irreducible] A8 Cq Lex Br Ai Spec
variable {tabs:List (Nat×Obj)}
theorem XY{L:W->Bool}{ls:List UInt8}{t:Bb}(g:t.cols=[[]])(c:2<=t.rows.length)(e:(AY L t).Nodup):Bg L ls t=none:=by
 cases d:Bg L ls t with
 | none=>rfl
 | some w=>
  exfalso;have f:=(Hn d).2;obtain⟨a,ha⟩:=get_some (l:=t.rows) (k:=0) (by omega);obtain⟨b,hb⟩:=get_some (l:=t.rows) (k:=1) (by omega);have ne:=XQ e hb ha (by omega);have h:marks L t.cols a∈AY L t:=List.mem_map_of_mem (co ha);have c:marks L t.cols b∈AY L t:=List.mem_map_of_mem (co hb)
  have hk:∀v:W,marks L t.cols v=[UI (L v)]:=λv=>by rw [g];simp [marks]
  rw [hk] at f h c ne;rw [hk] at ne;cases m:L a<;>cases j:L b<;>cases i:L w<;>simp_all
theorem eU(L:W->Bool)(ls:List UInt8):∃u,BO L ls 13 Bv=some u/\u.cols=[[]]/\u.rows.length<=2:=by
 unfold BO
 cases h:Bg L ls Bv with
 | none=>exact⟨Bv,rfl,rfl,by decide⟩
 | some w=>
  dsimp only;rw [if_neg (by decide)];unfold BO;have hk:=(Ld L ls).push h;have a:=XY (ls:=ls) (t:=⟨Bv.rows++[w],Bv.cols⟩) rfl (by simp [Bv]) hk.nd;rw [a];exact⟨_,rfl,rfl,by simp [Bv]⟩
theorem cZ{te:Ez}(h:CM te=true):∃u,Rs te=some u/\AW (Ex te) (Dv te) u=true/\Bg (BZ te) (BE (A9 te)) u=none/\u.cols=[[]]/\u.rows.length<=2/\BQ (BZ te) (BE (A9 te)) u/\0<=A9 te:=by
 obtain⟨u,e,c,g⟩:=eU (BZ te) (BE (A9 te));obtain⟨b,d,o,n,m,l,k⟩:=MQ (Ld _ _) e;have ha:=GW h
 have f:0<=A9 te:=by unfold A3 at ha;simp only [d4,decide_eq_true_eq] at ha;omega
 refine⟨u,by unfold Rs;rw [if_pos h,e],?_,d,c,g,⟨b,FJ d⟩,f⟩;rw [<-Dd,h,ju];refine Ix ha f b (by omega) (by rw [c];decide) (λw a=>?_) (λw a=>by rw [c] at a;simp at a;subst a;simp);obtain⟨i,hi,j⟩:=jm a;have:=b.short i w (by rw [d6 hi,j]);omega
theorem cY(te:Ez):Hd (Ex te) (Dv te) Bv=Rs te:=by
 have h:=QA te Bv;unfold Hd;refine h.trans ?_;unfold Gk Rs;cases hk:CM te
 ·rfl
 ·have ha:=GW hk
  have c:0<=A9 te:=by unfold A3 at ha;simp only [d4,decide_eq_true_eq] at ha;omega
  have b:=WI (A9 te);rw [Ix ha c (Ld _ _) (by decide) (by decide) (λw a=>by have:=(b.onR w a).2;omega) (λw a=>by simp [Bv] at a;subst a;simp)];rfl
end Go.Am
namespace Go.Am
open Go Go.Proofs
set_option maxHeartbeats 1000000
set_option maxRecDepth 4000
attribute [local irreducible] A8 Cq Lex Br Ai Spec
abbrev JR:AU:=⟨0,[],[]⟩
abbrev Ey(s:Sys)(p:AU)(al:Int):Ez:=⟨false,JR,s,p,al⟩
noncomputable def Gq(s t:Sys)(p:AU)(al:Int)(a:AU):Option (W×Bool):=match Df s a p with
 | some u=>some (C1 (Bz al u),true)
 | none=>match BL [t] a with
  | some v=>some (C1 (Bz al v),false)
  | none=>none
noncomputable def CJ(s:Sys)(p:AU)(al:Int)(x:Bb):AU:=BR (LS ⟨s,p,al⟩) al x
noncomputable def Hl(s t:Sys)(p:AU)(al:Int)(x:Bb):Option Bb:=match Gq s t p al (CJ s p al x) with
 | some (w,b)=>if (b || LS ⟨s,p,al⟩ w)=true then Kk (Ey s p al) x w else none
 | none=>none
noncomputable def EN(s t:Sys)(p:AU)(al:Int):Nat->Bb->List Bb
 | 0,x=>[x]
 | k+1,x=>x::match Hl s t p al x with
  | some y=>EN s t p al k y
  | none=>[]
structure Vd where
 code:Int
 a:AU
 tr:W
 rd:Int
noncomputable def Nn(s t:Sys)(p:AU)(al:Int)(x:Bb)(r:Nat):Vd:=match Gq s t p al (CJ s p al x) with
 | none=>⟨0,CJ s p al x,[],r⟩
 | some (w,b)=>if (b || LS ⟨s,p,al⟩ w)=true then ⟨2,JR,[],r⟩ else ⟨1,JR,Ok (BL [s,t] p),r⟩
noncomputable def aZ(s:Sys)(p:AU)(al:Int):Bb:=(Rs (Ey s p al)).getD Bv
noncomputable def Cz(s t:Sys)(p:AU)(al:Int):List Bb:=EN s t p al 11 (aZ s p al)
noncomputable def De(s t:Sys)(p:AU):Vd:=if Bt s p t < 0 then ⟨3,JR,[],0⟩ else
 Nn s t p (Bt s p t) ((Cz s t p (Bt s p t)).getLastD Bv) (Cz s t p (Bt s p t)).length
structure Ha (s:Sys) (p:AU) (al:Int) (x:Bb) (r:Nat):Prop where
 v:AW (Ex (Ey s p al)) (Dv (Ey s p al)) x=true
 o:Bg (LS ⟨s,p,al⟩) (BE al) x=none
 rows:r<=x.rows.length
 cols:x.cols.length=r
theorem O7(s:Sys)(p:AU)(al:Int):BZ (Ey s p al)=LS ⟨s,p,al⟩:=by
 funext w;unfold BZ;rw [if_neg jR]
theorem Jj(s:Sys)(p:AU)(al:Int):A9 (Ey s p al)=al:=by
 unfold A9;rw [if_neg jR]
theorem Vq{s:Sys}{p:AU}{al:Int}(h:BB ⟨s,p,al⟩=true):Rs (Ey s p al)=some (aZ s p al)/\Ha s p al (aZ s p al) 1:=by
 have hk:CM (Ey s p al)=true:=by unfold CM;rw [if_neg jR];exact h
 obtain⟨u,e,d,a,c,g,b,f⟩:=cZ hk;unfold aZ;rw [e];refine⟨rfl,d,?_,?_,by show u.cols.length=1;rw [c];rfl⟩
 ·rw [O7,Jj] at a;exact a
 ·show 1<=u.rows.length
  have:=(am.1 b.r0).1;omega
theorem TC{s t:Sys}{p:AU}{al:Int}{x y:Bb}{r:Nat}(a:Ha s p al x r)(h:Hl s t p al x=some y):Ha s p al y (r+1)/\x.rows.length < y.rows.length:=by
 unfold Hl at h;split at h
 ·split at h
  ·obtain⟨_,_,e,b,_,d,v,c⟩:=dC h
   have f:=a.rows;have g:=a.cols;rw [O7,Jj] at b;exact⟨⟨e,b,by omega,by rw [c];simp;omega⟩,d⟩
  ·cases h
 ·cases h
theorem Sd{s:Sys}{p:AU}{al:Int}{x:Bb}{r:Nat}(b:Ha s p al x r):x.rows.length<=12/\r<=12:=by
 obtain⟨_,_,_,a,_⟩:=Dj b.v;have:=a.rl;have:=b.rows;omega
theorem Sf{s t:Sys}{p:AU}{al:Int}:∀(k:Nat) {x:Bb} {r:Nat},Ha s p al x r->∀(i:Nat) (y:Bb),(EN s t p al k x)[i]? = some y->Ha s p al y (r+i)
 | 0,x,r,a,i,y,h=>by
  cases i with
  | zero=>simp [EN] at h;subst h;exact a
  | succ i=>simp [EN] at h
 | k + 1,x,r,a,i,y,h=>by
  cases i with
  | zero=>simp [EN] at h;subst h;exact a
  | succ i=>
   simp only [EN,lO] at h
   cases b:Hl s t p al x with
   | none=>rw [b] at h;simp at h
   | some z=>
    rw [b] at h;have:=Sf k (TC a b).1 i y h;rwa [show r+1+i=r+(i+1) by omega] at this
theorem Ze{s t:Sys}{p:AU}{al:Int}(k:Nat)(x:Bb):EN s t p al k x≠[]:=by cases k<;>simp [EN]
theorem NY{s t:Sys}{p:AU}{al:Int}:∀(k:Nat) {x:Bb} {r:Nat},Ha s p al x r->12<=k+r->∀(i:Nat) (y:Bb),(EN s t p al k x)[i]? = some y->(EN s t p al k x)[i+1]? = Hl s t p al y
 | 0, x,r,b,hk,i,y,h=>by
  cases i with
  | zero=>
   simp [EN] at h;subst h
   cases a:Hl s t p al x with
   | none=>simp [EN]
   | some z=>
    have:=Sd (TC b a).1;omega
  | succ i=>simp [EN] at h
 | k + 1,x,r,b,hk,i,y,h=>by
  simp only [EN] at h |-
  cases a:Hl s t p al x with
  | none=>
   rw [a] at h
   cases i with
   | zero=>simp at h;subst h;simp [a]
   | succ i=>simp at h
  | some z=>
   rw [a] at h
   cases i with
   | zero=>
    simp at h;subst h;rw [a];cases k<;>simp [EN]
   | succ i=>
    simp only [lO] at h |-;exact NY k (TC b a).1 (by omega) i y h
section
variable {s t:Sys}{p:AU}{al:Int}(hI:ED s p t al)
include hI
theorem run_get{i:Nat}{x:Bb}(h:(Cz s t p al)[i]? = some x):Ha s p al x (i+1)/\(Cz s t p al)[i+1]? = Hl s t p al x:=by
 obtain⟨_,b⟩:=Vq (Hg hI);have a:=Sf 11 b i x h;rw [lL] at a;exact⟨a,NY 11 b (by omega) i x h⟩
theorem J7:1<=(Cz s t p al).length/\(Cz s t p al).length<=12:=by
 have a:Cz s t p al≠[]:=Ze 11 _;have c:1<=(Cz s t p al).length:=l9.2 a;obtain⟨x,b⟩:=get_some (l:=Cz s t p al) (k:=(Cz s t p al).length - 1) (by omega);have:=(Sd (run_get hI b).1).2;omega
theorem Y0:∃x,(Cz s t p al).getLastD Bv=x/\Ha s p al x (Cz s t p al).length/\Hl s t p al x=none:=by
 have d:=J7 hI;obtain⟨x,a⟩:=get_some (l:=Cz s t p al) (k:=(Cz s t p al).length - 1) (by omega);obtain⟨c,b⟩:=run_get hI a;rw [show (Cz s t p al).length - 1+1=(Cz s t p al).length by omega] at c b;refine⟨x,?_,c,?_⟩
 ·rw [List.getLastD_eq_getLast?,List.getLast?_eq_getElem?,a];rfl
 ·rw [<-b];simp
theorem UC:¬Bt s p t < 0:=by
 have:=QR hI;rw [hI.hal] at this;unfold A3 at this;simp only [decide_eq_true_eq] at this;omega
theorem MK{x:Bb}{r:Nat}(c:Ha s p al x r):AH (CJ s p al x)=true/\(CJ s p al x).al=al/\(CJ s p al x).nx.length=x.rows.length/\BQ (LS ⟨s,p,al⟩) (BE al) x:=by
 obtain⟨_,_,d,b,_⟩:=Dj c.v;have hk:=Hw d;rw [O7,Jj] at hk
 have a:BQ (LS ⟨s,p,al⟩) (BE al) x:=⟨hk,FJ c.o⟩
 exact⟨Pp (QR hI) a b.rl,rfl,by simp [CJ,BR],a⟩
theorem WQ{x:Bb}{r:Nat}(b:Ha s p al x r):BX s (CJ s p al x) p=true/\(AV [t] && AH (CJ s p al x))=true:=by
 obtain⟨a,_⟩:=MK hI b;exact⟨by unfold BX;rw [hI.hs,a,hI.hp];rfl,by rw [GM,hI.ht,a];rfl⟩
theorem VD{x:Bb}{r:Nat}(a:Ha s p al x r):(Gq s t p al (CJ s p al x)=none↔DV s t p (CJ s p al x)=0)/\(DV s t p (CJ s p al x)=0\/DV s t p (CJ s p al x)=3\/DV s t p (CJ s p al x)=4):=by
 obtain⟨f,e,_⟩:=MK hI a;obtain⟨c,b⟩:=WQ hI a;have d:=UC hI
 have hal:(CJ s p al x).al=Bt s p t:=by rw [e,hI.hal]
 unfold DV;rw [if_neg (not_or.2 ⟨d,by rw [f];simp⟩),if_neg (λh=>h hal)];unfold Gq Gl Ck;rw [c,b,ju,ju]
 cases Df s (CJ s p al x) p with
 | some u=>simp
 | none=>
  cases BL [t] (CJ s p al x) with
  | some v=>simp
  | none=>simp
theorem dH:∃x,Ha s p al x (Cz s t p al).length/\Hl s t p al x=none/\De s t p=Nn s t p al x (Cz s t p al).length:=by
 obtain⟨x,c,b,a⟩:=Y0 hI;refine⟨x,b,a,?_⟩;unfold De;rw [if_neg (UC hI),<-hI.hal,c]
theorem Lg:∃x,Ha s p al x (Cz s t p al).length/\Hl s t p al x=none/\
    ((De s t p=⟨0,CJ s p al x,[],(Cz s t p al).length⟩/\DV s t p (CJ s p al x)=0)\/
     (De s t p=⟨2,JR,[],(Cz s t p al).length⟩/\∃w b,Gq s t p al (CJ s p al x)=some (w,b)/\(b || LS ⟨s,p,al⟩ w)=true/\Kk (Ey s p al) x w=none)\/
     (De s t p=⟨1,JR,Ok (BL [s,t] p),(Cz s t p al).length⟩/\Ck [s,t] p=false/\(BL [s,t] p).isSome=true)):=by
  obtain⟨x,e,c,i⟩:=dH hI;refine⟨x,e,c,?_⟩;rw [i];unfold Nn;have h:=VD hI e;unfold Hl at c
  cases a:Gq s t p al (CJ s p al x) with
  | none=>exact .inl ⟨rfl,h.1.1 a⟩
  | some wb=>
    obtain⟨w,b⟩:=wb;rw [a] at c;simp only at c |-;by_cases hb:(b || LS ⟨s,p,al⟩ w)=true
    · rw [if_pos hb] at c |-
      exact .inr (.inl ⟨rfl,w,b,rfl,hb,c⟩)
    · rw [if_neg hb]
      refine .inr (.inr ⟨rfl,?_⟩)
      have hb:b=false/\LS ⟨s,p,al⟩ w=false:=by simpa using hb
      unfold Gq at a;split at a
      · injection a with a;injection a with _ a;rw [hb.1] at a;cases a
      · split at a
        · rename_i v f
          injection a with a;injection a with a _
          subst a;obtain⟨n,m,k,j,l⟩:=Gc f;have hk:=Qf hI k j hb.2;refine⟨hk,?_⟩;unfold Ck at hk
          have d:(AV [s,t] && AH p)=true:=by rw [Ip,hI.hs,hI.ht,hI.hp];rfl
          rw [d,ju] at hk
          cases g:BL [s,t] p with
          | none=>rw [g] at hk;cases hk
          | some _=>rfl
        · cases a
end
theorem O9{s:Sys}{a p:AU}{w:List Int}(h:Df s a p=some w):w.length<=2304:=by
 obtain⟨b,_⟩:=Jk h;unfold Df at h;rw [if_pos b] at h;obtain⟨c,hk,d⟩:=Mt b;have hi:=C5 (Dy (Dq s a p));rw [h] at hi;have e:=hi.short (Nb c d);have f:(Dy (Dq s a p)).N=(s.st*((a.nx.length:Int)*((p.nx.length:Int)*1))).toNat:=rfl;unfold BX at b;simp only [d4] at b;have l:=AJ b.1.1;have k:=AI b.1.2;have j:=AI b.2;have i:(a.nx.length:Int)*((p.nx.length:Int)*1)<=12*12:=jy (by omega) (by omega) (by omega) (by omega)
 have g:s.st*((a.nx.length:Int)*((p.nx.length:Int)*1))<=16*144:=jy (by omega) (by omega) (by
  have:0<=(a.nx.length:Int)*((p.nx.length:Int)*1):=jD (by omega) (by omega)
  exact this) (by omega)
 omega
theorem O8{t:Sys}{a:AU}{w:List Int}(h:BL [t] a=some w):w.length<=192:=by
 obtain⟨d,c,_⟩:=Gc h
 have b:(AV [t] && AH a)=true:=by rw [GM,d,c];rfl
 unfold BL at h;rw [if_pos b] at h;obtain⟨e,hk,f⟩:=Ms b;have hi:=C5 (Dy (Cm [t] a));rw [h] at hi;have g:=hi.short (Nb e f);have i:(Dy (Cm [t] a)).N=(t.st*((a.nx.length:Int)*1)).toNat:=rfl;have l:=AJ d;have k:=AI c;have j:t.st*((a.nx.length:Int)*1)<=16*12:=jy (by omega) (by omega) (by omega) (by omega);omega
theorem Sm(al:Int)(u:List Int):(C1 (Bz al u)).length<=u.length:=by
 unfold C1 Bz;rw [gt];exact lm _ _
theorem UZ{s t:Sys}{p a:AU}{al:Int}{w:W}{b:Bool}(h:Gq s t p al a=some (w,b)):w.length<=4000:=by
 unfold Gq at h;split at h
 ·rename_i u d
  injection h with h;injection h with h e
  have:=O9 d;have:=Sm al u;rw [<-h];omega
 ·split at h
  ·rename_i v c
   injection h with h;injection h with h e
   have:=O8 c;have:=Sm al v;rw [<-h];omega
  ·cases h
section
variable {s t:Sys}{p:AU}{al:Int}(hI:ED s p t al)
include hI
end
theorem JG{s t:Sys}{p:AU}(h:¬Bt s p t < 0):ED s p t (Bt s p t):=by
 have a:(AR s && AH p && AR t)=true:=by
  unfold Bt at h;split at h
  ·assumption
  ·omega
 simp only [d4] at a;exact⟨a.1.1,a.1.2,a.2,rfl⟩
theorem WR{s t:Sys}{p:AU}(h:¬Bt s p t < 0):((De s t p).code=0/\Ck [s,t] p=true/\(De s t p).tr=[])\/((De s t p).code=2/\(De s t p).tr=[])\/((De s t p).code=1/\Ck [s,t] p=false/\(De s t p).tr=Ok (BL [s,t] p)):=by
 obtain⟨x,c,_,b⟩:=Lg (JG h)
 rcases b with ⟨e,a⟩|⟨e,_⟩|⟨e,hk,_⟩
 ·rw [e];exact .inl ⟨rfl,(QF a).1,rfl⟩
 ·rw [e];exact .inr (.inl ⟨rfl,rfl⟩)
 ·rw [e];exact .inr (.inr ⟨rfl,hk,rfl⟩)
abbrev iP:Sys:=⟨0,1,[]⟩
def J5(al:Int)(w:W):W:=w.filter (HD al)
theorem XJ{al l:Int}(h:0<=l/\l < 6):HD al (UInt8.ofNat (97+l.toNat))=AP al l.toNat:=by
 have a:(UInt8.ofNat (97+l.toNat)).toNat=97+l.toNat:=by simp;omega
 have c:=XI al (UInt8.ofNat (97+l.toNat))
 have b:Gz (UInt8.ofNat (97+l.toNat))=true:=by rw [GA,a,decide_eq_true_eq];omega
 rw [<-c,if_pos b,a];unfold hasB;rw [show ((97+l.toNat:Nat):Int) - 97=l by omega,decide_eq_true h.1];rfl
theorem NK{al:Int}:∀ {u:List Int},Gm u->J5 al (C1 u)=C1 (Bz al u)
 | [],_=>rfl
 | l::u,b=>by
  have a:=NK (al:=al) (u:=u) (λx c=>b x (by simp [c]));have d:=XJ (al:=al) (b l (by simp));unfold J5 C1 Bz at *;rw [kk,lv,lv,d];cases AP al l.toNat
  ·simpa using a
  ·simpa using a
theorem YS(al:Int)(w:W):(J5 al w).length<=w.length:=lm _ _
theorem Ww{al:Int}{w:W}{k:Nat}{c:UInt8}(a:w[k]? = some c):J5 al (w.take (k+1))=if HD al c then J5 al (w.take k)++[c] else J5 al (w.take k):=by
 unfold J5;rw [gc,a,Option.toList_some,j9];cases h:HD al c<;>simp [h]
theorem WT{s:Sys}{a p:AU}{u:List Int}(h:Df s a p=some u):Gm u/\(C1 u).length<=2304:=by
 obtain⟨_,b,_⟩:=Jk h;exact⟨FH b,by unfold C1;rw [gt];exact O9 h⟩
theorem WS{t:Sys}{a:AU}{u:List Int}(h:BL [t] a=some u):Gm u/\(C1 u).length<=192:=by
 obtain⟨_,_,b,_⟩:=Gc h;exact⟨FH b,by unfold C1;rw [gt];exact O8 h⟩
theorem Oa{u:List Int}(d:Gm u)(a:(C1 u).length<=50000):DK (C1 u)=true:=by
 unfold DK;rw [decide_eq_true a,ju,d8];intro c b;unfold C1 at b;obtain⟨l,a,rfl⟩:=f7.1 b;have:=d l a;rw [GA,decide_eq_true_eq]
 have e:(UInt8.ofNat (97+l.toNat)).toNat=97+l.toNat:=by simp;omega
 rw [e];omega
section
variable {t:Sys}{p:AU}{al:Int}(hI:ED iP p t al)
include hI
end
section
variable {s t s' t':Sys}{p p':AU}{al:Int}(hI:ED s p t al)(hI':ED s' p' t' al)(hL:Qk (LS ⟨s',p',al⟩) (LS ⟨s,p,al⟩) al)
include hI hI' hL
end
theorem YO{s t:Sys}{p:AU}{al:Int}(hI:ED s p t al){x:Bb}{r:Nat}(c:Ha s p al x r){w:W}{b:Bool}(h:Gq s t p al (CJ s p al x)=some (w,b)):A0 (BE al) w:=by
 obtain⟨g,a,_⟩:=MK hI c;unfold Gq at h;split at h
 ·rename_i u e
  injection h with h;injection h with h f
  subst h;exact Zl (Uf hI g a e).1
 ·split at h
  ·rename_i v d
   injection h with h;injection h with h f
   subst h;have:=(SL d).1;rw [a] at this;exact Zl this
  ·cases h
end Go.Am
namespace Go.Am
open Go Go.Proofs
section
variable {s t:Sys}{p:AU}{al:Int}(hI:ED s p t al)(h:BB ⟨s,p,al⟩=true)
include hI h
end
end Go.Am
namespace Go.Am
open Go Go.Proofs
set_option maxHeartbeats 1000000
set_option maxRecDepth 4000
attribute [local irreducible] A8 Cq Lex Br Ai Spec
noncomputable def CA(s t:Sys)(p:AU)(al:Int)(k:Nat):Bb:=(Cz s t p al).getD k ⟨[],[]⟩
abbrev LP(v:Vd):List D:=[iD v.code,iD v.a.al,C7 v.a.nx,Gx v.a.ac,tD v.tr,iD v.rd]
section
variable {s t:Sys}{p:AU}{al:Int}(hI:ED s p t al)
include hI
theorem Vp{x:Bb}{r:Nat}(b:Ha s p al x r){w:W}(c:A0 (BE al) w)(d:w.length<=4000):Kk (Ey s p al) x w=LN (LS ⟨s,p,al⟩) (BE al) x w:=by
 have e:(CM (Ey s p al) && Bp (BZ (Ey s p al)) (A9 (Ey s p al)) x)=true:=by
  rw [OF b.v,O7,Jj,b.o];rfl
 have a:E5 (A9 (Ey s p al)) w=true:=by rw [Jj];exact UF (QR hI) c d
 unfold Kk;rw [e,a,mj,if_pos rfl,O7,Jj]
theorem X0{x:Bb}{r:Nat}(a:Ha s p al x r){w:W}{b:Bool}(h:Gq s t p al (CJ s p al x)=some (w,b))(hb:(b || LS ⟨s,p,al⟩ w)=true):Hl s t p al x=LN (LS ⟨s,p,al⟩) (BE al) x w:=by
 unfold Hl;rw [h];simp only [hb,if_true];exact Vp hI a (YO hI a h) (UZ h)
omit hI in
theorem Kn{k:Nat}(h:k < (Cz s t p al).length):(Cz s t p al)[k]? = some (CA s t p al k):=by
 unfold CA;rw [lA,d6 h];rfl
theorem N7{k:Nat}(h:k+1=(Cz s t p al).length):De s t p=Nn s t p al (CA s t p al k) (k+1):=by
 unfold De;rw [if_neg (UC hI),<-hI.hal,<-h]
 have e:(Cz s t p al).getLastD Bv=CA s t p al k:=by
  rw [List.getLastD_eq_getLast?,List.getLast?_eq_getElem?,<-h,Nat.add_sub_cancel,Kn (by omega)];rfl
 rw [e]
theorem YV{k:Nat}(h:k < (Cz s t p al).length):Ha s p al (CA s t p al k) (k+1)/\
    ((Gq s t p al (CJ s p al (CA s t p al k))=none/\De s t p=⟨0,CJ s p al (CA s t p al k),[],(k:Int)+1⟩/\k+1=(Cz s t p al).length)\/
      ∃ w b,Gq s t p al (CJ s p al (CA s t p al k))=some (w,b)/\A0 (BE al) w/\w.length<=4000/\
        ((b = false/\LS ⟨s,p,al⟩ w=false/\De s t p=⟨1,JR,Ok (BL [s,t] p),(k:Int)+1⟩/\k+1=(Cz s t p al).length)\/
         ((b=true\/LS ⟨s,p,al⟩ w=true)/\((LN (LS ⟨s,p,al⟩) (BE al) (CA s t p al k) w=some (CA s t p al (k+1))/\k+1 < (Cz s t p al).length)\/
           (LN (LS ⟨s,p,al⟩) (BE al) (CA s t p al k) w=none/\CA s t p al (k+1)=⟨[],[]⟩/\k+1=(Cz s t p al).length/\De s t p=⟨2,JR,[],(k:Int)+1⟩))))):=by
  obtain⟨l,g⟩:=run_get hI (Kn h);refine⟨l,?_⟩
  have f:((k+1:Nat):Int)=(k:Int)+1:=by omega
  have a:Hl s t p al (CA s t p al k)=none->k+1=(Cz s t p al).length:=λe=>by
    rw [e] at g;have:=lJ.1 g;omega
  cases d:Gq s t p al (CJ s p al (CA s t p al k)) with
  | none=>
    have e:Hl s t p al (CA s t p al k)=none:=by unfold Hl;rw [d]
    have c:=N7 hI (a e);unfold Nn at c;rw [d,f] at c;exact .inl ⟨rfl,c,a e⟩
  | some wb=>
    obtain⟨w,b⟩:=wb;refine .inr ⟨w,b,rfl,YO hI l d,UZ d,?_⟩;by_cases hb:(b || LS ⟨s,p,al⟩ w)=true
    · refine .inr ⟨by simpa using hb,?_⟩
      have e:=X0 hI l d hb
      cases i:LN (LS ⟨s,p,al⟩) (BE al) (CA s t p al k) w with
      | some y=>
        rw [i] at e;rw [e] at g;have j:=(am.1 g).1;refine .inl ⟨?_,j⟩;rw [Kn j] at g;exact g.symm
      | none=>
        rw [i] at e;have hk:=a e;have c:=N7 hI hk;unfold Nn at c;rw [d] at c;simp only [hb,if_true,f] at c;refine .inr ⟨rfl,?_,hk,c⟩;unfold CA;rw [lA,jt (by omega)];rfl
    · have e:Hl s t p al (CA s t p al k)=none:=by unfold Hl;rw [d];simp only [hb];rfl
      have hk:=a e;have c:=N7 hI hk;unfold Nn at c;rw [d] at c;simp only [hb,f] at c
      have hb:b=false/\LS ⟨s,p,al⟩ w=false:=by simpa using hb
      exact .inl ⟨hb.1,hb.2,c,hk⟩
theorem YM{a:AU}{w:W}{b:Bool}(h:Gq s t p al a=some (w,b)):(∃u,b=true/\Df s a p=some u/\J5 al (C1 u)=w/\Gm u/\(C1 u).length<=2304)\/(∃u,b=false/\Df s a p=none/\BL [t] a=some u/\J5 al (C1 u)=w/\Gm u/\(C1 u).length<=192):=by
 unfold Gq at h;split at h
 ·rename_i u d
  injection h with h;injection h with h e
  obtain⟨c,f⟩:=WT d;exact .inl ⟨u,e.symm,d,(NK c).trans h,c,f⟩
 ·rename_i d
  split at h
  ·rename_i v g
   injection h with h;injection h with h e
   obtain⟨c,f⟩:=WS g;exact .inr ⟨v,e.symm,d,g,(NK c).trans h,c,f⟩
  ·cases h
omit hI in
theorem YN{a:AU}(h:Gq s t p al a=none):Df s a p=none/\BL [t] a=none:=by
 unfold Gq at h;split at h
 ·cases h
 ·rename_i c
  split at h
  ·cases h
  ·rename_i b
   exact⟨c,b⟩
theorem dD:Rs (Ey s p al)=some (CA s t p al 0):=by
 obtain⟨b,_⟩:=Vq (s:=s) (p:=p) (al:=al) (Hg hI);have a:=Kn (s:=s) (t:=t) (p:=p) (al:=al) (k:=0) (by have:=J7 hI;omega);rw [b];unfold Cz at a;simp only [EN] at a
 simpa using a
end
section
variable {s t:Sys}{p:AU}{al:Int}(hI:ED s p t al)
include hI
theorem dv:(De s t p).rd=(Cz s t p al).length:=by
 obtain⟨x,_,_,a⟩:=Lg hI
 rcases a with ⟨e,_⟩|⟨e,_⟩|⟨e,_⟩<;>rw [e]
end
theorem br{s t:Sys}{p:AU}(h:¬Bt s p t < 0):1<=(De s t p).rd/\(De s t p).rd<=12/\
    (((De s t p).code=0/\Ck [s,t] p=true/\(De s t p).tr=[]/\(De s t p).rd<=(De s t p).a.nx.length/\DV s t p (De s t p).a=0)\/
     ((De s t p).code=2/\(De s t p).tr=[]/\(De s t p).a=JR)\/
     ((De s t p).code=1/\Ck [s,t] p=false/\(De s t p).a=JR/\(De s t p).tr=Ok (BL [s,t] p)/\(BL [s,t] p).isSome=true)):=by
  have hI:=JG h;have g:=dv hI;have i:=J7 hI;refine⟨by omega,by omega,?_⟩;have hk:=WR h;obtain⟨x,c,_,f⟩:=Lg hI;obtain⟨_,_,j,_⟩:=MK hI c;have d:=c.rows
  rcases f with ⟨e,b⟩|⟨e,_⟩|⟨e,b⟩
  · rw [e] at hk |-
    refine .inl ⟨rfl,?_,rfl,?_,b⟩
    · rcases hk with ⟨_,hk,_⟩|⟨hk,_⟩|⟨hk,_⟩
      · exact hk
      · cases hk
      · cases hk
    · show ((Cz s t p (Bt s p t)).length:Int)<=((CJ s p (Bt s p t) x).nx.length:Nat)
      omega
  · rw [e];exact .inr (.inl ⟨rfl,rfl,rfl⟩)
  · rw [e];exact .inr (.inr ⟨rfl,b.1,rfl,rfl,b.2⟩)
theorem Xk{s t:Sys}{p:AU}{al:Int}(hI:ED s p t al){x:Bb}{r:Nat}(a:Ha s p al x r):VA (Ey s p al) x=some (CJ s p al x):=by
 unfold VA;rw [OF a.v,O7,Jj,a.o,if_pos (by rfl:(none:Option W).isNone=true)];rfl
end Go.Am
namespace Go.Am
open Go Go.Proofs
set_option maxHeartbeats 1000000
set_option maxRecDepth 4000
attribute [local irreducible] A8 Cq Lex Br Ai Spec
variable {TB:BA}
theorem Ei[FV TB](s:Sys)(p:AU):Pure Tryz.prog TB 129 [Bx s,Bj p] (Ma (BL [s] p)):=by
 refine eN Tryz.func129 rfl (by kernel_rfl) rfl ?_;intro Z a;(repeat' first|refine tA rfl ?_ |refine sP rfl (CT [s] p) rfl ?_ |refine aU rfl ?_ |apply Aa|(refine aC rfl ?_ ?_<;>rintro⟨⟩)|apply aK|apply aE|apply aB|refine aR ⟨_,rfl,?_⟩)
 all_goals rfl
theorem QK{n k:Nat}(h:k < n):(2 ^ n - 1).testBit k=true:=by rw [Nat.testBit_two_pow_sub_one,decide_eq_true h]
theorem Je{n:Nat}:∀ {k:Nat},k<=n->IN (2 ^ n - 1) k=k
 | 0,_=>rfl
 | k+1,h=>by rw [NF,QK (by omega),if_pos rfl,Je (by omega)]
theorem Tf{y:Sys}(V:AR y=true)(hes:y.es.length<=1048576):Pure Tryz.prog TB 119 [Bx y,eI .i64 ((2 ^ y.st.toNat - 1:Nat):Int)] (Bx y):=by
 have hh:=AJ V
 obtain⟨a,J,I⟩:∃a:Nat,y.st=a/\a<=16:=⟨y.st.toNat,by omega,by omega⟩
 have Y:2 ^ a<=2 ^ 16:=jH (by omega) I
 have B:2 ^ a - 1 < 2 ^ 62:=by omega
 rw [show y.st.toNat=a by omega];have j:=KM (TB:=TB) (2 ^ a - 1) B a (by omega);rw [Je (iX _)] at j
 obtain⟨m,q⟩:∃m,m=2 ^ a - 1:=⟨_,rfl⟩
 have A:∀k,k < a->AP (m:Nat) k=true:=λk hk=>by rw [CK (by omega) (by omega),q];exact QK hk
 have b:∀k,k<=a->IN m k=k:=λk hk=>by rw [q];exact Je hk
 rw [<-q] at j B |-;rw [<-J] at j;refine eG Tryz.func119 rfl (by kernel_rfl) rfl ?_;intro Z i;(repeat first|refine tA rfl ?_ |refine aU rfl ?_ |apply Aa);refine rG (IG [(7,1),(8,1)]) (by kernel_rfl) ?_;(repeat first|refine tX rfl ?_ |refine sP rfl (j) rfl ?_|(refine Av rfl ?_;refine gA rfl ?_;first| refine gS (λ_ _=>NC rfl rfl (by rfl) (by rfl)) ?_) |refine aU rfl ?_ |apply Aa);apply aB;refine aL (α:={z:Nat×List DA // z.1<=y.es.length/\z.2=y.es.take z.1}) [1,2] [] rfl rfl (λs=>[(4,.o (.ptr 0 3 0 0)),(5,.o (.ptr 1 3 0 0)),(6,eI .i64 s.1.1)]) (λs=>ZS y.al y.st s.1.2) 3 (λs=>y.es.length - s.1.1) (⟨⟨0,[]⟩,by simp⟩) i rfl (by (simp[cX,zC,i,ZS,Lq,cN])) ?_;rintro⟨⟨k,l⟩,hk,c⟩;(try dsimp only[cA,cB]);have hk:k<=y.es.length:=hk;have c:l=y.es.take k:=c
 have M:l.length=k:=by rw [c,kx];omega
 by_cases L:k < y.es.length
 ·obtain⟨e,R⟩:=get_some L
  have v:y.es.take (k+1)=l++[e]:=by rw [gc,R,c];rfl
  have Q:=get_map (g:=CL) R
  have hee:(y.es.map CL)[((k:Nat):Int).toNat]? = some (CL e):=by rw [io];exact Q
  have hb:=Dc V (co R);unfold Dn at hb;simp only [d4,decide_eq_true_eq] at hb
  obtain⟨S,P⟩:∃S:Nat,e.f=S:=⟨e.f.toNat,by omega⟩
  obtain⟨F,H⟩:∃F:Nat,e.t=F:=⟨e.t.toNat,by omega⟩
  have x:=Cv (TB:=TB) (m:Nat) e.f (by omega) (by omega);have w:=Cv (TB:=TB) (m:Nat) e.t (by omega) (by omega);rw [A _ (by omega)] at x w;have p:=KM (TB:=TB) m B S (by omega);have n:=KM (TB:=TB) m B F (by omega);rw [b _ (by omega),<-P] at p;rw [b _ (by omega),<-H] at n;(repeat first|refine sN rfl ?_ |refine tA rfl ?_ |refine s2 rfl λ_ T=>?_ |refine aU rfl ?_ |apply Aa)
  ((refine aC rfl ?_ ?_<;>rintro⟨⟩);all_goals try(exfalso;(simp only[oZ] at *;omega)))
  apply aK;refine aS (aB ?_)
  (repeat' first|refine tA rfl ?_ |(refine s4 rfl ‹_› rfl ?_ ?_;omega) |refine sP rfl (x) rfl ?_|refine sP rfl (w) rfl ?_ |refine aU rfl ?_ |apply Aa|(refine aC rfl ?_ ?_<;>rintro⟨⟩));all_goals try contradiction
  cases l with
  | nil=>
   refine rG (IG [(1,11),(4,13),(7,13),(10,13),(14,1),(16,1)]) (by kernel_rfl) ?_;(repeat first|refine tA rfl ?_ |refine sP rfl (p) rfl ?_|refine sP rfl (n) rfl ?_|(refine Av rfl ?_;refine gA rfl ?_;first| refine gS (λ_ _=>AS rfl rfl (by rfl) (by rfl)) ?_));(refine pW rfl ?_ rfl (by rfl);refine UK 38 rfl ?_;refine DO rfl rfl rfl (by intro r u;simp at u;subst u;rfl) (by rfl) (ce rfl) (by simp) (λh=>?_) (λ_=>?_))
   ·exact absurd h (by simp)
   (repeat first|(refine sX rfl ?_ ?_;first|exact tI|omega) |refine aU rfl ?_ |apply Aa);refine⟨⟨⟨k+1,[e]⟩,by dsimp only;omega,by dsimp only;rw [v];rfl⟩,by dsimp only;(omega),[0,1,4],?_⟩;(simp[cX,zC,i,cN,ZS,Lq,Ag,eC]<;>rfl)
  | cons G l=>
   refine rG (IG [(1,11),(4,13),(7,13),(10,13),(14,1),(16,1)]) (by kernel_rfl) ?_;(repeat first|refine tA rfl ?_ |refine sP rfl (p) rfl ?_|refine sP rfl (n) rfl ?_|(refine Av rfl ?_;refine gA rfl ?_;first| refine gS (λ_ _=>AS rfl rfl (by rfl) (by rfl)) ?_));(refine pW rfl ?_ rfl (by rfl);refine Aw rfl rfl rfl (by first| (simp;done)|(simp;(omega))) rfl (by intro r u;simp at u;subst u;rfl) (by rfl) (ce rfl) (by simp at M |-;omega) ?_);(repeat first|(refine sX rfl ?_ ?_;first|exact tI|omega) |refine aU rfl ?_ |apply Aa);refine⟨⟨⟨k+1,G::(l++[e])⟩,by dsimp only;omega,by dsimp only;rw [v];rfl⟩,by dsimp only;(omega),[0,1,4],?_⟩;(simp[cX,zC,i,cN,ZS,Lq,Ag,eC]<;>rfl)
 ·have N:k=y.es.length:=by omega
  have K:l=y.es:=by rw [c,N,iV]
  have X:y=⟨y.al,y.st,l⟩:=by rw [K]
  (repeat first|refine sN rfl ?_ |refine tA rfl ?_ |refine s2 rfl λ_ T=>?_ |refine aU rfl ?_ |apply Aa)
  ((refine aC rfl ?_ ?_<;>rintro⟨⟩);all_goals try(exfalso;(simp only[oZ] at *;omega)))
  apply aE;rw [X]
  cases l with
  | nil=>
   refine Ai.Az [1] [(4,.o (.ptr 0 3 0 0)),(5,.o (.ip (AD ⟨y.al,y.st,[]⟩)))] ⟨⟨_,rfl,.inl rfl⟩,⟨_,rfl,.inr (.o (.box rfl (.cons .d (.cons .d (.cons .nl .nil)))))⟩,trivial⟩ ?_;(repeat first|refine tA rfl ?_ |refine aU rfl ?_ |apply Aa);(subst_vars;exact aR ⟨_,rfl,rfl⟩)
  | cons G l=>
   refine Ai.Az [1,2] [(4,.o (.ptr 0 3 0 0)),(5,.o (.ip (AD ⟨y.al,y.st,G::l⟩)))] ⟨⟨_,rfl,.inl rfl⟩,⟨_,rfl,.inr (.o (.box rfl (.cons .d (.cons .d (.cons (.full rfl (by simp [d5]) (by simp)) .nil)))))⟩,trivial⟩ ?_;(repeat first|refine tA rfl ?_ |refine aU rfl ?_ |apply Aa);(subst_vars;exact aR ⟨_,rfl,rfl⟩)
abbrev bk(s:Sys)(p:AU)(t:Sys):Eh×Bool:=if Bt s p t < 0 then (⟨⟨0,0,[]⟩,⟨0,[],[]⟩,0⟩,false) else (⟨s,p,Bt s p t⟩,true)
theorem HZ(s:Sys)(p:AU)(t:Sys)(f:s.es.length<=1048576):Pure Tryz.prog TB 68 [Bx s,Bj p,Bx t] (iJ (bk s p t)):=by
 have c:=DF (TB:=TB) s p t;unfold bk;by_cases h:Bt s p t < 0
 ·rw [if_pos h]
  refine eG Tryz.func68 rfl (by kernel_rfl) rfl ?_;intro Z a;(repeat first|refine tA rfl ?_ |refine s2 rfl λ_ i=>?_ |refine sP rfl (c) rfl ?_ |refine aU rfl ?_ |apply Aa)
  ((refine aC rfl ?_ ?_<;>rintro⟨⟩);all_goals try(exfalso;(simp only[oZ] at *;omega)))
  (repeat first|refine tA rfl ?_|(refine Av rfl ?_;refine gA rfl ?_;first| refine gS (λ_ _=>AS rfl rfl (by rfl) (by rfl)) ?_) |refine aU rfl ?_ |apply Aa);(subst_vars;exact aR ⟨_,rfl,rfl⟩)
 ·rw [if_neg h]
  have hI:=JG h;have u:=AJ hI.hs;have g:=Td (TB:=TB) s.st (by omega) (by omega);have b:=Tf (TB:=TB) hI.hs f;have m:2 ^ s.st.toNat<=2 ^ 16:=jH (by omega) (by omega);have n:0 < 2 ^ s.st.toNat:=lI _
  have e:((2 ^ s.st.toNat:Nat):Int) - 1=((2 ^ s.st.toNat - 1:Nat):Int):=by omega
  rw [<-e] at b;generalize 2 ^ s.st.toNat=pw at *;generalize Bt s p t=ai at *;refine eG Tryz.func68 rfl (by kernel_rfl) rfl ?_;intro Z a;(repeat first|refine tA rfl ?_ |refine s2 rfl λ_ i=>?_ |refine sP rfl (c) rfl ?_ |refine aU rfl ?_ |apply Aa)
  ((refine aC rfl ?_ ?_<;>rintro⟨⟩);all_goals try(exfalso;(simp only[oZ] at *;omega)))
  apply aK;(repeat first|refine aU rfl ?_);refine rG ⟨Ft [(7,1),(10,1)],Xl [0,1,2,3,4,6,8,5,7,9,10,11]⟩ (by kernel_rfl) ?_;(repeat first|(refine sX rfl ?_ ?_;first|exact tI|omega) |refine sP rfl (g) rfl ?_|refine sP rfl (b) rfl ?_);(refine pW rfl ?_ rfl (by rfl);refine Dh [] rfl rfl 0 (Ik p (Qw hI.hp)) (by decide) ⟨rfl,by decide,by decide⟩ rfl (by simp[cX,zC,a,cN]) ?_;rintro r j k ⟨l,q,rfl,rfl,rfl⟩ _);(repeat first|refine tX rfl ?_|(refine Av rfl ?_;refine gA rfl ?_;first| refine gS (λ_ _=>AS rfl rfl (by rfl) (by rfl)) ?_) |apply Aa);refine Ai.Ay [] [] rfl rfl [(6,.o (.ptr 0 7 0 0)),(7,eB true)] [(0,.cells 87 7 [[.d (iD s.al),.d (iD s.st),.d (Em s.es),.d (iD p.al),.arr 1 1 0 l.length,.arr 2 1 0 p.ac.length,.d (iD ai)]]),(1,.cells 64 1 (AE l)),(2,.cells 4 1 (p.ac.map AZ)),(3,.sld 3 (sI l))] [0,1,2,3] (rl a rfl) (by (simp[cX,zC,a,cN,DL,Ag,eC])) ?_;(try dsimp only[cA,cB]);refine Ai.Az [0,1,2,3] [(6,.o (.ip (Sh ⟨s,⟨p.al,l.map (·.2),p.ac⟩,ai⟩))),(7,eB true)] ⟨⟨_,rfl,.inr (.o (.box rfl (.cons .d (.cons .d (.cons .d (.cons .d (.cons (.Mu (s:=3) rfl rfl) (.cons (.full rfl (by simp [d5]) (by simp)) (.cons .d .nil)))))))))⟩,⟨_,rfl,.inl rfl⟩,trivial⟩ ?_;rw [q];(subst_vars;exact aR ⟨_,rfl,rfl⟩)
theorem Xj(s:Sys)(p:AU)(al:Int):IT Tryz.prog TB 123 170 (Ey s p al) (Dv (Ey s p al)) (Ex (Ey s p al)):=bZ (t:=Ey s p al) rfl
theorem Zi{te:Ez}:0<=Dv te->A3 (Dv te)=true:=λh=>by
 unfold Dv at *;split at h
 ·rename_i hk;rw [if_pos hk];exact GW hk
 ·omega
theorem WG(s:Sys)(p:AU)(al:Int):Pure Tryz.prog TB 69 [DU (Ey s p al)] (Lp (Rs (Ey s p al))):=by
 rw [<-cY];exact PO (Xj s p al)
theorem WH(s:Sys)(p:AU)(al:Int)(x:Bb)(a:Sr x):Pure Tryz.prog TB 70 [DU (Ey s p al),IY x] (bA (VA (Ey s p al) x)):=by
 rw [<-cd];exact Gj (Xj s p al) x a
theorem TT(s:Sys)(p:AU)(al:Int)(x:Bb)(a:Sr x)(w:W)(b:w.length<=4000):Pure Tryz.prog TB 74 [DU (Ey s p al),IY x,eT w] (Lp (Kk (Ey s p al) x w)):=by
 rw [<-aW];exact Ou (Xj s p al) (Zi (te:=Ey s p al)) x a w (by omega)
theorem Hz(w:W)(al:Int)(m:DK w=true)(ha:A3 al=true)(x:w.length<=50000):Pure Tryz.prog TB 128 [eT w,eI .i64 al] (eT (J5 al w)):=by
 have u:=Kv (TB:=TB) w (by omega);have t:=CO (TB:=TB) al
 have l:∀c∈w,Gz c=true:=by
  unfold DK at m;rw [d4,d8] at m;exact m.2
 rw [m] at u;rw [ha] at t;refine eG Tryz.func128 rfl (by kernel_rfl) rfl ?_;intro Z d;(repeat first|refine tA rfl ?_ |refine s2 rfl λ_ b=>?_ |refine sP rfl (u) rfl ?_|refine sP rfl (t) rfl ?_ |refine s3 rfl ?_ ?_<;>rintro rfl |refine aU rfl ?_ |apply Aa)
 (repeat' first|refine tA rfl ?_ |refine s2 rfl λ_ b=>?_ |refine sP rfl (u) rfl ?_|refine sP rfl (t) rfl ?_ |refine aU rfl ?_ |apply Aa|(refine aC rfl ?_ ?_<;>rintro⟨⟩));all_goals try contradiction
 apply aK;(repeat first|refine aU rfl ?_);(refine pW rfl ?_ rfl (by rfl);refine Bd rfl rfl rfl rfl (by simp) (by rfl) (by rfl) (by rfl) (by rfl) ?_);(repeat first|refine tX rfl ?_ |refine aU rfl ?_ |apply Aa);apply aB;refine aL (α:={k:Nat // k<=w.length}) [0,1] [] rfl rfl (λ⟨k,hk⟩=>[(5,.o (.arr 0 1 0 (J5 al (w.take k)).length)),(6,eI .i64 k)]) (λ⟨k,hk⟩=>[(0,.cells 5 1 ((J5 al (w.take k)).map HH))]) 1 (λ⟨k,hk⟩=>w.length - k) (⟨0,by omega⟩) d rfl (by (simp[cX,zC,d,J5])) ?_;rintro⟨k,hk⟩;(try dsimp only[cA,cB]);by_cases p:k < w.length
 ·obtain⟨c,s⟩:=get_some p
  have q:w[((k:Nat):Int).toNat]? = some c:=by simpa using s
  have i:=l c (co s);have h:=i;rw [GA,decide_eq_true_eq] at h;have g:=Hh (TB:=TB) w k c q;have a:=Cv (TB:=TB) al ((c.toNat:Int) - 97) (by omega) (by omega)
  have e:AP al ((c.toNat:Int) - 97).toNat=HD al c:=by
   unfold HD;rw [i,ju];congr 1;omega
  rw [e] at a;have f:=Ww (al:=al) s;have n:=YS al (w.take k);rw [kx] at n;(repeat first|refine tA rfl ?_ |refine s2 rfl λ_ b=>?_ |refine aU rfl ?_ |apply Aa)
  ((refine aC rfl ?_ ?_<;>rintro⟨⟩);all_goals try(exfalso;(simp only[oZ] at *;omega)))
  apply aK;refine aS (aB ?_);cases j:HD al c
  ·rw [j] at a f
   (repeat first|refine tA rfl ?_ |refine sP rfl (g) rfl ?_|refine sP rfl (a) rfl ?_ |refine aU rfl ?_ |apply Aa)
   ((refine aC rfl ?_ ?_<;>rintro⟨⟩);all_goals try (simp at b;done))
   apply aK;(repeat first|(refine sA rfl ?_ ?_;first|exact tI|omega) |refine aU rfl ?_ |apply Aa);refine⟨⟨k+1,by omega⟩,by dsimp only;(omega),[0],?_⟩;simp[cX,zC,d,f,HH,HX]
  ·rw [j] at a f
   (repeat first|refine tA rfl ?_ |refine sP rfl (g) rfl ?_|refine sP rfl (a) rfl ?_ |refine aU rfl ?_ |apply Aa)
   ((refine aC rfl ?_ ?_<;>rintro⟨⟩);all_goals try (simp at b;done))
   (repeat first|refine tA rfl ?_ |(refine s4 rfl ‹_› rfl ?_ ?_;omega) |refine aU rfl ?_);(refine pW rfl ?_ rfl (by rfl);refine Aw rfl rfl rfl (by first| (simp;done)|(simp;(omega))) rfl (by intro r v;simp at v;subst v;rfl) (by rfl) (ce rfl) (by simp;omega) ?_);(repeat first|(refine sX rfl ?_ ?_;first|exact tI|omega) |refine aU rfl ?_ |apply Aa);refine⟨⟨k+1,by omega⟩,by dsimp only;(omega),[1],?_⟩;simp[cX,zC,d,f,HX,HH,jW,TL]
 ·obtain rfl:k=w.length:=by omega
  rw [iV] at *;(repeat first|refine tA rfl ?_ |refine s2 rfl λ_ b=>?_ |refine aU rfl ?_ |apply Aa)
  ((refine aC rfl ?_ ?_<;>rintro⟨⟩);all_goals try(exfalso;(simp only[oZ] at *;omega)))
  apply aE;(repeat first|refine tM rfl ?_|(refine Av rfl ?_;refine gA rfl ?_;first| refine gQ (UU (J5 al w) rfl rfl (by simp) (by first| rw [jV,iY (by simp)]|rw [jV,U0,iY (by simp)])) (by rfl) ?_) |refine aU rfl ?_ |apply Aa);(subst_vars;exact aR ⟨_,rfl,rfl⟩)
abbrev ep(w:W)(c:Int):E:=.t [(false,[.d (tD w)]),(false,[.d (iD c)])]
section
variable [FV TB]{s t:Sys}{p:AU}{al:Int}(hI:ED s p t al)
include hI
theorem QU{a:AU}(h:Gq s t p al a=none):Pure Tryz.prog TB 71 [Bx t,QE ⟨s,p,al⟩,Bj a] (ep [] 0):=by
 obtain⟨f,e⟩:=YN h;have c:=CU (TB:=TB) s a p;have b:=Ei (TB:=TB) t a;rw [f] at c;rw [e] at b;refine eG Tryz.func71 rfl (by kernel_rfl) rfl ?_;intro Z d;(repeat first|refine tA rfl ?_ |refine sP rfl (c) rfl ?_|refine sP rfl (b) rfl ?_ |refine aU rfl ?_ |apply Aa)
 (repeat' first|refine sP rfl (c) rfl ?_|refine sP rfl (b) rfl ?_|(refine aC rfl ?_ ?_<;>rintro⟨⟩));all_goals try contradiction
 apply aK;(repeat first|refine tA rfl ?_ |refine s2 rfl λ_ g=>?_ |refine sP rfl (b) rfl ?_ |refine aU rfl ?_ |apply Aa)
 (repeat' first|refine tA rfl ?_ |refine sP rfl (b) rfl ?_ |refine aU rfl ?_ |apply Aa|(refine aC rfl ?_ ?_<;>rintro⟨⟩));all_goals try contradiction
 (subst_vars;exact aR ⟨_,rfl,rfl⟩)
theorem QV{a:AU}{w:W}{b:Bool}(h:Gq s t p al a=some (w,b))(m:A0 (BE al) w)(r:w.length<=4000):Pure Tryz.prog TB 71 [Bx t,QE ⟨s,p,al⟩,Bj a] (ep w (if (b || LS ⟨s,p,al⟩ w)=true then -1 else 1)):=by
 have hal:=QR hI;have d:=CU (TB:=TB) s a p;have i:=Ei (TB:=TB) t a
 rcases YM hI h with ⟨u,rfl,l,k,j,n⟩|⟨u,rfl,o,l,k,j,n⟩
 ·rw [l] at d
  have e:=Hz (TB:=TB) (C1 u) al (Oa j (by omega)) hal (by omega);rw [k] at e;rw [Bool.true_or,if_pos rfl];refine eG Tryz.func71 rfl (by kernel_rfl) rfl ?_;intro Z f;(repeat first|refine tA rfl ?_ |refine sP rfl (d) rfl ?_ |refine aU rfl ?_ |apply Aa)
  (repeat' first|refine tA rfl ?_ |refine sP rfl (d) rfl ?_|refine sP rfl (e) rfl ?_ |refine aU rfl ?_ |apply Aa|(refine aC rfl ?_ ?_<;>rintro⟨⟩));all_goals try contradiction
  (subst_vars;exact aR ⟨_,rfl,rfl⟩)
 ·rw [o] at d
  rw [l] at i;have e:=Hz (TB:=TB) (C1 u) al (Oa j (by omega)) hal (by omega);rw [k] at e;have g:=LJ (TB:=TB) ⟨s,p,al⟩ w (by omega);rw [O3 (Hg hI) w m (by omega)] at g;rw [lz];generalize LS ⟨s,p,al⟩ w=q at *;refine eG Tryz.func71 rfl (by kernel_rfl) rfl ?_;intro Z f;(repeat first|refine tA rfl ?_ |refine sP rfl (d) rfl ?_ |refine aU rfl ?_ |apply Aa)
  (repeat' first|refine sP rfl (d) rfl ?_|(refine aC rfl ?_ ?_<;>rintro⟨⟩));all_goals try contradiction
  apply aK;(repeat first|refine tA rfl ?_ |refine s2 rfl λ_ c=>?_ |refine sP rfl (i) rfl ?_ |refine aU rfl ?_ |apply Aa)
  (repeat' first|refine tA rfl ?_ |refine sP rfl (i) rfl ?_ |refine aU rfl ?_ |apply Aa|(refine aC rfl ?_ ?_<;>rintro⟨⟩));all_goals try contradiction
  apply aK;(repeat first|refine tA rfl ?_ |refine sP rfl (e) rfl ?_ |refine aU rfl ?_ |apply Aa);cases q
  ·(repeat first|refine s2 rfl λ_ c=>?_ |refine sP rfl (g) rfl ?_ |apply Aa)
   ((refine aC rfl ?_ ?_<;>rintro⟨⟩);all_goals try (simp at c;done))
   (repeat first|refine tA rfl ?_ |refine aU rfl ?_ |apply Aa);(subst_vars;exact aR ⟨_,rfl,rfl⟩)
  ·(repeat first|refine s2 rfl λ_ c=>?_ |refine sP rfl (g) rfl ?_ |apply Aa)
   ((refine aC rfl ?_ ?_<;>rintro⟨⟩);all_goals try (simp at c;done))
   apply aK;(repeat first|refine tA rfl ?_ |refine aU rfl ?_ |apply Aa);(subst_vars;exact aR ⟨_,rfl,rfl⟩)
end
end Go.Am
