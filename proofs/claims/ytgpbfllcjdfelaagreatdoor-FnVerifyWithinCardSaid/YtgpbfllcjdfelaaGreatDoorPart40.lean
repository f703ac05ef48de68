/-
  The program's verification: walked.
-/
import Derived.Test.YtgpbfllcjdfelaaGreatDoorPart39
set_option linter.all false
namespace Go.Am
open Go Go.Proofs
set_option maxHeartbeats 1000000
set_option maxRecDepth 4000
attribute [local irreducible] AW BQ Lex A9 Aj Spec
theorem Ja.eL{P:Program}{TB:Bp}{c:C}{L:W->Bool}{ok:W->Prop}(h:Ja P TB c L ok){w:W}{b:Bool}(hb:L w=b)(i:ok w){Z:Ctx}{d:Option Tmp}{ty:TypeId}{pos:String}{af:Array Edge}{g:Option (Nat×Bool)}{f:Env}{σ:Ab}{nx:Nat}{x a:Operand}{tys:Array TypeId}
 (e:ev f x=some (.o c)) (ha:ev f a=some (eT w)):AW P TB Z ⟨d,.call ⟨.value x,#[a],tys⟩,ty,pos,af,g⟩ f σ nx (eB b):=hb ▸ h.ask e ha i
theorem g8{m:Nat}{L:W->Bool}{ok:W->Prop}{X:Bp->Ctx->C->Prop}{Y:Prop}(h:∀(TB1:Bp) (Z1:Ctx) (a:C),Z1.V.nx=m->Dx TB1->Ja Tryz.prog TB1 a L ok->X TB1 Z1 a)
 (hk:(∀(TB1:Bp) (Z1:Ctx) (a:C),Z1.V.nx=m->Dx TB1->Ja Tryz.prog TB1 a L ok->X TB1 Z1 a)->Y):Y:=hk h
theorem SL{tabs:List (Nat×Obj)}[g:Dx ⟨tabs,none⟩]{te:Ii}{ok:W->Prop}(c:te.kn=false)(b:C7 te=true)(a:∀w,ok w->gE (Bi te) w)(f:RD te ok) :
 ∃(t:CR) (m:FK),Mj t ok m/\AK Tryz.prog ⟨tabs,none⟩ 62 0 [] 0 [fe te] (λx σ nx=>x=.t [(true,[.d (iD (Bi te)),MG (.ptr 0 14 0 0)]),(false,[.d (bD true)])]/\σ=LV t m/\nx=5)/\
  ∀r,Ja Tryz.prog ⟨tabs,some (OK t ok,r)⟩ (MG (Oi r)) (CI te) ok/\Dx ⟨tabs,some (OK t ok,r)⟩:=by
 obtain⟨kn,p,s,q,al⟩:=te;obtain rfl:kn=false:=c;have ht:Bv ⟨s,q,al⟩=true:=b;obtain⟨m,e,hno⟩:=Pg (TB:=⟨tabs,none⟩) p ht ok;exact⟨⟨s,q,al⟩,m,e,hno,λr=>⟨jM ht a (f rfl),gj g⟩⟩
def Nv(v:Vd)(x:E)(σ:Ab)(nx:Nat):Prop:=
 (v.a=UC/\x=ff v/\σ=[]/\nx=0)\/
 (∃l:Ho,l.map (·.2)=v.a.nx/\x=.a [.d (iD v.code),.d (iD v.a.al),.arr 0 1 0 l.length,.arr 1 1 0 v.a.ac.length,.d (tD v.tr),.d (iD v.rd)]/\σ=[(0,.cells 53 1 (AB l)),(1,.cells 4 1 (v.a.ac.map AO)),(2,.sld 3 (sI l))]/\nx=3)
section
variable {tabs:List (Nat×Obj)}[hTb:Dx ⟨tabs,none⟩]
include hTb
theorem U8{s t:Sys}{p:AX}{al:Int}(hI:FG s p t al)(hes:s.es.length<=1048576):AK Tryz.prog ⟨tabs,none⟩ 52 0 [] 0 [BN s,BN t,Bd p,.o (.d (.v .nilFunc))] (Nv (C5 s t p)):=by
 have h1:=Jm (TB:=⟨tabs,none⟩) s p t hes;unfold dN at h1;rw [if_neg (Sq hI),<-hI.hal] at h1;obtain⟨ok,hs0,hf,hgr,hrun⟩:=bW hI (Gt hI)
 let te:Ii:=HJ s p al
 have H:te.kn=false:=rfl;have hok:C7 te=true:=bK hI
 have hsub:∀w,ok w->gE (Bi te) w:=λw hw=>by rw [Fo];exact hs0 w hw
 have hf:RD te ok:=hf;obtain⟨hl1,hl2⟩:=Rv hI;have h0:=gi (t:=t) hI;unfold XQ at h0;rw [if_pos (bK hI),OP,Fo] at h0;refine AK.A7 (AK.PR (m:=0) (am rfl) Tryz.func52 rfl (by kernel_rfl) (am rfl) ?_);intro Z f;(repeat first|refine tA rfl ?_ |refine s2 rfl λ_ e=>?_ |refine sP rfl (h1) rfl ?_ |refine aU rfl ?_ |refine Aa ?_)
 ((refine aC rfl ?_ ?_<;>rintro⟨⟩);all_goals try (simp at e;done))
 refine aK ?_;refine Aj.AH [1] [(3,.o (.d (.v .nilFunc))),(4,.o (.ip (AJ s))),(5,.o (.ip (AJ t))),(6,.o (.ip (AM p))),(8,.o (.ptr 0 6 0 0)),(9,.o (.ip (P8 ⟨s,p,al⟩)))] ⟨⟨_,rfl,.inl rfl⟩,⟨_,rfl,.inl rfl⟩,⟨_,rfl,.inl rfl⟩,⟨_,rfl,.inl rfl⟩,⟨_,rfl,.inl rfl⟩,⟨_,rfl,.inr (.o (.box rfl (FB.refl (P8 ⟨s,p,al⟩))))⟩,trivial⟩ ?_;refine Aj.AA [3,4,5,6,8,9] [0] rfl rfl [] [] [0] (rl f rfl) (by (simp[cX,zC,f,cN])) ?_;(try dsimp only[cA,cB]);(repeat first|refine tA rfl ?_|(refine Ai rfl ?_;refine gA rfl ?_;first| refine gS (λ_ _=>AV rfl rfl (by rfl) (by rfl)) ?_) |refine aU rfl ?_)
 apply g8 (m:=0) (L:=CI te) (ok:=ok);case hk=>(intro hk;obtain⟨tk,mk,hm,hno,q⟩:=SL (tabs:=tabs) H hok hsub hf;((refine pW rfl ?_ rfl (by rfl);refine Cf [] rfl rfl 0 (hno) (by decide) ⟨rfl,by decide,by decide⟩ rfl (by simp[cX,zC,f,A1]) ?_;rintro x0 σ1 nx1 ⟨rfl,rfl,rfl⟩ _);(repeat first|refine tA rfl ?_);refine Aa ?_;refine Aj.jS (OK tk ok) ⟨mk,hm⟩ 1 [2,3,4,5] (λr=>[(3,.o (.d (.v .nilFunc))),(4,.o (.ip (AJ s))),(5,.o (.ip (AJ t))),(6,.o (.ip (AM p))),(9,.o (.ip (P8 ⟨s,p,al⟩))),(8,.o (.ptr 0 6 0 0)),(11,.o (.ptr 6 2 0 0))]) (λr=>[(0,.cells 35 6 [[.d (iD 0),.d (iD 0),.d (.l []),.d (.l []),.d (tD []),.d (iD 0)]]),(6,.cells 90 2 [[.d (iD (Bi te)),MG (Oi r)]])]) (by decide) rfl (by ((repeat' first|exact tI|rfl|refine And.intro ?_ ?_)<;>(simp[cX,zC,f,A1]<;>rfl))) ⟨_,_,_,_,rfl⟩ (λr=>by repeat' first|exact tI|refine And.intro ⟨_,rfl,.AL⟩ ?_) (λr=>by repeat' first|exact tI|refine And.intro ⟨by decide,.inl rfl⟩ ?_|refine And.intro ⟨by decide,.inr ⟨_,_,_,_,rfl,rfl,.cons .AL (.cons .mv .nil)⟩⟩ ?_) λr Z' Y=>?_;have f:Z'.V.nx=0:=(by rw [Y];exact f);refine Aj.AA [3,4,5,6,9] [] rfl rfl [(8,.o (.ptr 0 6 0 0)),(11,.o (.ptr 1 2 0 0))] [(0,.cells 35 6 [[.d (iD 0),.d (iD 0),.d (.l []),.d (.l []),.d (tD []),.d (iD 0)]]),(1,.cells 90 2 [[.d (iD (Bi te)),MG (Oi r)]])] [0,6] (rl f rfl) (by (simp[cX,zC,f])) ?_;(try dsimp only[cA,cB]);have U:=q r;obtain⟨TB0,hTB0⟩:∃T,T=(⟨tabs,some (OK tk ok,r)⟩:Bp):=⟨_,rfl⟩;obtain⟨c0,hc0⟩:∃c,c=MG (Oi r):=⟨_,rfl⟩;rw [<-hTB0,<-hc0] at U |-;exact hk TB0 Z' c0 f U.2 U.1))
 case h =>
  intro TB1 Z1 c1 f hTb1 q
  have q:Ja Tryz.prog TB1 c1 (LS ⟨s,p,al⟩) ok:=by rw [<-OP];exact q
  have eal:Bi te=al:=Fo s p al;rw [eal];clear_value te;have z:=Eu c1 q.BX;have hnt:=QV q al hgr;rw [h0] at hnt
  have I:∀v:Vd,C5 s t p=v->v.a=UC->Nv (C5 s t p) (ff v) [] 0:=λv h1 h2=>by rw [h1];exact .inl ⟨h2,rfl,rfl,rfl⟩
  (repeat first|refine tA rfl ?_|(refine Ai rfl ?_;refine gA rfl ?_;first| refine gS (λ_ _=>Bh rfl rfl (by simp [E.BX,C.BX,C.C6,q.BX]) (hnt) rfl) ?_) |refine aU rfl ?_ |refine Aa ?_);refine aB ?_;refine aL (α:={k:Nat // k<=(Ck s t p al).length/\(k=(Ck s t p al).length->C5 s t p=⟨2,UC,[],(k:Int)⟩)}) [3,4,5,6,8,9,11,13] [0,1] rfl rfl (λ⟨k,H,M⟩=>[(10,eB (decide (k < (Ck s t p al).length))),(14,eI .i64 ((k:Int)+1))]) (λ⟨k,H,M⟩=>[(2,.cells 47 2 [[.d (CG (CS s t p al k).rows),.d (CG (CS s t p al k).cols)]])]) 3 (λ⟨k,H,M⟩=>(Ck s t p al).length - k) (⟨0,by omega,by omega⟩) f rfl (by ((repeat' first|exact tI|rfl|refine And.intro ?_ ?_)<;>(simp[cX,zC,f,cN,z]<;>rfl))) ?_;rintro⟨k,H,M⟩;(try dsimp only[cA,cB]);refine aS (aB ?_);by_cases K:k < (Ck s t p al).length
  ·simp only [decide_eq_true K]
   obtain⟨hx,X⟩:=bf hI K;have hbd:=RC hx;obtain⟨hao,S⟩:=hrun _ (co (IM K));have R:=OY (TB:=TB1) q al (CS s t p al k) hao (hbd.mono (by omega)) hx.o;obtain⟨_,_,_,hcl⟩:=Qs hI hx;have g:=H0 (TB:=TB1) s (Cz s p al (CS s t p al k)) p;have A:=HY (TB:=TB1) t (Cz s p al (CS s t p al k));have R:AK Tryz.prog TB1 65 0 [] 0 [Iq al c1,Ir (CS s t p al k)] (JS (Cz s p al (CS s t p al k))):=R;(repeat first|refine tA rfl ?_ |refine s2 rfl λ_ e=>?_ |refine aU rfl ?_ |refine Aa ?_)
   ((refine aC rfl ?_ ?_<;>rintro⟨⟩);all_goals try (simp at e;done))
   refine aK ?_;(repeat first|refine tA rfl ?_ |refine aU rfl ?_);(refine pW rfl ?_ rfl (by rfl);refine Cf [] rfl rfl 0 R (by decide) ⟨rfl,by decide,by decide⟩ (by simp [Es,E.A7,C.Cj,C.A7,z,eC,Iq,Ir]<;>rfl) (by simp[cX,zC,f,cN]) ?_;rintro x0 σ1 nx1 ⟨l,G,rfl,rfl,rfl⟩ _);(repeat first|refine tA rfl ?_);refine Aa ?_;refine Aj.AA [3,4,5,6,8,9,11,13,14] [0,1,2] rfl rfl [(15,.o (.ptr 6 3 0 0))] [(3,.cells 53 1 (AB l)),(4,.cells 4 1 ((Cz s p al (CS s t p al k)).ac.map AO)),(5,.sld 3 (sI l)),(6,.cells 29 3 [[.d (iD (Cz s p al (CS s t p al k)).al),.arr 3 1 0 l.length,.arr 4 1 0 (Cz s p al (CS s t p al k)).ac.length]])] [0,1,2,3,4,5,6] (rl f rfl) (by (simp[cX,zC,f,cN,Af,eC,BV,z])) ?_;(try dsimp only[cA,cB]);(repeat first|refine tA rfl ?_|(refine Ai rfl ?_;refine gA rfl ?_;first| refine gS (λ_ _=>dj rfl rfl) ?_) |refine aU rfl ?_ |refine Aa ?_)
   ((refine aC rfl ?_ ?_<;>rintro⟨⟩);all_goals try (simp at e;done))
   refine aK ?_
   rcases X with ⟨hr,J,hk⟩|⟨w,b,hr,hon,hwl,X⟩
   ·obtain⟨g1,g2⟩:=aO hr
    rw [g1] at g;rw [g2] at A
    have hend:∀(x:E) (σ:Ab) (nx:Nat),(∃l:Ho,l.map (·.2)=(Cz s p al (CS s t p al k)).nx/\x=.a [.d (iD 0),.d (iD (Cz s p al (CS s t p al k)).al),.arr 0 1 0 l.length,.arr 1 1 0 (Cz s p al (CS s t p al k)).ac.length,.d (tD []),.d (iD ((k:Int)+1))]/\σ=[(0,.cells 53 1 (AB l)),(1,.cells 4 1 ((Cz s p al (CS s t p al k)).ac.map AO)),(2,.sld 3 (sI l))]/\nx=3)->Nv (C5 s t p) x σ nx:=λx σ nx h=>by rw [J];exact .inr h
    generalize Nv (C5 s t p)=Q at *;generalize Cz s p al (CS s t p al k)=a at *;(repeat first|refine tA rfl ?_ |refine s2 rfl λ_ e=>?_|(refine Ai rfl ?_;refine gA rfl ?_;first| refine gQ (AW.Pc [(59,BN s),(60,Bd a),(61,Bd p)] ⟨⟨_,rfl,.AL rfl⟩,⟨_,rfl,Jk (k:=5) rfl rfl rfl G rfl rfl⟩,⟨_,rfl,.AL rfl⟩,trivial⟩ (λZ'=>Bh rfl rfl rfl g rfl) (ET _)) rfl ?_) |refine aU rfl ?_ |refine Aa ?_)
    ((refine aC rfl ?_ ?_<;>rintro⟨⟩);all_goals try (simp at e;done))
    (repeat first|refine tA rfl ?_ |refine s2 rfl λ_ e=>?_|(refine Ai rfl ?_;refine gA rfl ?_;first| refine gQ (AW.Pc [(68,BN t),(69,Bd a)] ⟨⟨_,rfl,.AL rfl⟩,⟨_,rfl,Jk (k:=5) rfl rfl rfl G rfl rfl⟩,trivial⟩ (λZ'=>Bh rfl rfl rfl A rfl) (ET _)) rfl ?_) |refine aU rfl ?_ |refine Aa ?_)
    ((refine aC rfl ?_ ?_<;>rintro⟨⟩);all_goals try (simp at e;done))
    (repeat first|refine tA rfl ?_|(refine Ai rfl ?_;refine gA rfl ?_;first| refine gS (λ_ _=>AV rfl rfl (by rfl) (by rfl)) ?_) |refine aU rfl ?_ |refine Aa ?_);exact aR ⟨_,rfl,[3,4,5],.a [.d (iD 0),.d (iD a.al),.arr 0 1 0 l.length,.arr 1 1 0 a.ac.length,.d (tD []),.d (iD ((k:Int)+1))],[(0,.cells 53 1 (AB l)),(1,.cells 4 1 (a.ac.map AO)),(2,.sld 3 (sI l))],⟨λi hi=>absurd hi (i8 i),by decide⟩,rfl,by (simp[cX,zC,f,cN,BV,Af,eC]),hend _ _ _ ⟨l,G,rfl,rfl,rfl⟩⟩
   ·obtain⟨B,hoks⟩:=S w b hr
    have n:=Pb (TB:=TB1) q al (CS s t p al k) hbd (Sp hI) hcl hx.o w hoks hon (by omega);have hpv:=EC (TB:=TB1) [s,t] p
    rcases aN hI hr with ⟨u,rfl,g1,g2,g3,g4⟩|⟨u,rfl,g0,g1,g2,g3,g4⟩
    ·have j:=MF (TB:=TB1) (CA u) al (by omega)
     rw [g2] at j;rw [g1] at g
     rcases X with ⟨hb,_⟩|⟨_,⟨y,F⟩|⟨y,P,hk,J⟩⟩
     ·cases hb
     ·rw [y] at n
      generalize Cz s p al (CS s t p al k)=a at *;(repeat first|refine tA rfl ?_ |refine s2 rfl λ_ e=>?_|(refine Ai rfl ?_;refine gA rfl ?_;first| refine gQ (AW.Pc [(59,BN s),(60,Bd a),(61,Bd p)] ⟨⟨_,rfl,.AL rfl⟩,⟨_,rfl,Jk (k:=5) rfl rfl rfl G rfl rfl⟩,⟨_,rfl,.AL rfl⟩,trivial⟩ (λZ'=>Bh rfl rfl rfl g rfl) (ET _)) rfl ?_) |refine aU rfl ?_ |refine Aa ?_)
      ((refine aC rfl ?_ ?_<;>rintro⟨⟩);all_goals try (simp at e;done))
      refine aK ?_;(repeat first|refine tA rfl ?_ |refine s2 rfl λ_ e=>?_ |refine sP rfl (j) rfl ?_ |refine s3 rfl ?_ ?_<;>rintro rfl |refine aU rfl ?_ |refine Aa ?_)
      (repeat' first|refine tA rfl ?_ |refine Aa ?_|(refine aC rfl ?_ ?_<;>rintro⟨⟩));all_goals try contradiction
      refine aK ?_;(repeat first|(refine sA rfl ?_ ?_;first|exact tI|omega)|(refine Ai rfl ?_;refine gA rfl ?_;first| refine gS (λ_ _=>Bh rfl rfl (by simp [E.BX,C.BX,C.C6,q.BX]) (n) rfl) ?_) |refine aU rfl ?_ |refine Aa ?_);refine⟨⟨k+1,by omega,by omega⟩,by dsimp only;(omega),[0,1,2],?_⟩;simp[cX,zC,f,cN,z,F]
     ·rw [y] at n
      generalize Cz s p al (CS s t p al k)=a at *;(repeat first|refine tA rfl ?_ |refine s2 rfl λ_ e=>?_|(refine Ai rfl ?_;refine gA rfl ?_;first| refine gQ (AW.Pc [(59,BN s),(60,Bd a),(61,Bd p)] ⟨⟨_,rfl,.AL rfl⟩,⟨_,rfl,Jk (k:=5) rfl rfl rfl G rfl rfl⟩,⟨_,rfl,.AL rfl⟩,trivial⟩ (λZ'=>Bh rfl rfl rfl g rfl) (ET _)) rfl ?_) |refine aU rfl ?_ |refine Aa ?_)
      ((refine aC rfl ?_ ?_<;>rintro⟨⟩);all_goals try (simp at e;done))
      refine aK ?_;(repeat first|refine tA rfl ?_ |refine s2 rfl λ_ e=>?_ |refine sP rfl (j) rfl ?_ |refine s3 rfl ?_ ?_<;>rintro rfl |refine aU rfl ?_ |refine Aa ?_)
      (repeat' first|refine tA rfl ?_ |refine Aa ?_|(refine aC rfl ?_ ?_<;>rintro⟨⟩));all_goals try contradiction
      refine aK ?_;(repeat first|(refine sA rfl ?_ ?_;first|exact tI|omega)|(refine Ai rfl ?_;refine gA rfl ?_;first| refine gS (λ_ _=>Bh rfl rfl (by simp [E.BX,C.BX,C.C6,q.BX]) (n) rfl) ?_) |refine aU rfl ?_ |refine Aa ?_);refine⟨⟨k+1,by omega,λ_=>J⟩,by dsimp only;(omega),[0,1,2],?_⟩;simp[cX,zC,f,cN,z,P,decide_eq_false (show ¬k+1 < (Ck s t p al).length by omega)]
    ·have j:=MF (TB:=TB1) (CA u) al (by omega)
     rw [g2] at j;rw [g0] at g;rw [g1] at A
     rcases X with ⟨_,N,J,hk⟩|⟨hb,X⟩
     ·have I:=I _ J rfl
      generalize Cz s p al (CS s t p al k)=a at *;(repeat first|refine tA rfl ?_ |refine s2 rfl λ_ e=>?_|(refine Ai rfl ?_;refine gA rfl ?_;first| refine gQ (AW.Pc [(59,BN s),(60,Bd a),(61,Bd p)] ⟨⟨_,rfl,.AL rfl⟩,⟨_,rfl,Jk (k:=5) rfl rfl rfl G rfl rfl⟩,⟨_,rfl,.AL rfl⟩,trivial⟩ (λZ'=>Bh rfl rfl rfl g rfl) (ET _)) rfl ?_) |refine aU rfl ?_ |refine Aa ?_)
      ((refine aC rfl ?_ ?_<;>rintro⟨⟩);all_goals try (simp at e;done))
      (repeat first|refine tA rfl ?_ |refine s2 rfl λ_ e=>?_|(refine Ai rfl ?_;refine gA rfl ?_;first| refine gQ (AW.Pc [(68,BN t),(69,Bd a)] ⟨⟨_,rfl,.AL rfl⟩,⟨_,rfl,Jk (k:=5) rfl rfl rfl G rfl rfl⟩,trivial⟩ (λZ'=>Bh rfl rfl rfl A rfl) (ET _)) rfl ?_) |refine aU rfl ?_ |refine Aa ?_)
      ((refine aC rfl ?_ ?_<;>rintro⟨⟩);all_goals try (simp at e;done))
      refine aK ?_;(repeat first|refine tA rfl ?_ |refine s2 rfl λ_ e=>?_ |refine sP rfl (j) rfl ?_ |refine s3 rfl ?_ ?_<;>rintro rfl |refine aU rfl ?_ |refine Aa ?_)
      (repeat' first|refine tA rfl ?_ |refine s2 rfl λ_ e=>?_|(refine Ai rfl ?_;refine gA rfl ?_;first| refine gS (λ_ _=>q.eL N B rfl rfl) ?_) |refine aU rfl ?_ |refine Aa ?_|(refine aC rfl ?_ ?_<;>rintro⟨⟩));all_goals try contradiction
      (repeat first|refine tA rfl ?_ |refine sP rfl (hpv) rfl ?_|(refine Ai rfl ?_;refine gA rfl ?_;first| refine gS (λ_ _=>AV rfl rfl (by rfl) (by rfl)) ?_) |refine aU rfl ?_ |refine Aa ?_);exact aR ⟨_,rfl,[],ff ⟨1,UC,TR (CW [s,t] p),(k:Int)+1⟩,[],⟨λi hi=>absurd hi (i8 i),kw⟩,rfl,by (simp[cX,zC,f,cN,BV,Af,eC]),I⟩
     ·have N:LS ⟨s,p,al⟩ w=true:=by rcases hb with hb|hb;cases hb;exact hb
      rcases X with ⟨y,F⟩|⟨y,P,hk,J⟩
      ·rw [y] at n
       generalize Cz s p al (CS s t p al k)=a at *;(repeat first|refine tA rfl ?_ |refine s2 rfl λ_ e=>?_|(refine Ai rfl ?_;refine gA rfl ?_;first| refine gQ (AW.Pc [(59,BN s),(60,Bd a),(61,Bd p)] ⟨⟨_,rfl,.AL rfl⟩,⟨_,rfl,Jk (k:=5) rfl rfl rfl G rfl rfl⟩,⟨_,rfl,.AL rfl⟩,trivial⟩ (λZ'=>Bh rfl rfl rfl g rfl) (ET _)) rfl ?_) |refine aU rfl ?_ |refine Aa ?_)
       ((refine aC rfl ?_ ?_<;>rintro⟨⟩);all_goals try (simp at e;done))
       (repeat first|refine tA rfl ?_ |refine s2 rfl λ_ e=>?_|(refine Ai rfl ?_;refine gA rfl ?_;first| refine gQ (AW.Pc [(68,BN t),(69,Bd a)] ⟨⟨_,rfl,.AL rfl⟩,⟨_,rfl,Jk (k:=5) rfl rfl rfl G rfl rfl⟩,trivial⟩ (λZ'=>Bh rfl rfl rfl A rfl) (ET _)) rfl ?_) |refine aU rfl ?_ |refine Aa ?_)
       ((refine aC rfl ?_ ?_<;>rintro⟨⟩);all_goals try (simp at e;done))
       refine aK ?_;(repeat first|refine tA rfl ?_ |refine s2 rfl λ_ e=>?_ |refine sP rfl (j) rfl ?_ |refine s3 rfl ?_ ?_<;>rintro rfl |refine aU rfl ?_ |refine Aa ?_)
       (repeat' first|refine tA rfl ?_ |refine s2 rfl λ_ e=>?_|(refine Ai rfl ?_;refine gA rfl ?_;first| refine gS (λ_ _=>q.eL N B rfl rfl) ?_) |refine aU rfl ?_ |refine Aa ?_|(refine aC rfl ?_ ?_<;>rintro⟨⟩));all_goals try contradiction
       refine aK ?_;(repeat first|(refine sA rfl ?_ ?_;first|exact tI|omega)|(refine Ai rfl ?_;refine gA rfl ?_;first| refine gS (λ_ _=>Bh rfl rfl (by simp [E.BX,C.BX,C.C6,q.BX]) (n) rfl) ?_) |refine aU rfl ?_ |refine Aa ?_);refine⟨⟨k+1,by omega,by omega⟩,by dsimp only;(omega),[0,1,2],?_⟩;simp[cX,zC,f,cN,z,F]
      ·rw [y] at n
       generalize Cz s p al (CS s t p al k)=a at *;(repeat first|refine tA rfl ?_ |refine s2 rfl λ_ e=>?_|(refine Ai rfl ?_;refine gA rfl ?_;first| refine gQ (AW.Pc [(59,BN s),(60,Bd a),(61,Bd p)] ⟨⟨_,rfl,.AL rfl⟩,⟨_,rfl,Jk (k:=5) rfl rfl rfl G rfl rfl⟩,⟨_,rfl,.AL rfl⟩,trivial⟩ (λZ'=>Bh rfl rfl rfl g rfl) (ET _)) rfl ?_) |refine aU rfl ?_ |refine Aa ?_)
       ((refine aC rfl ?_ ?_<;>rintro⟨⟩);all_goals try (simp at e;done))
       (repeat first|refine tA rfl ?_ |refine s2 rfl λ_ e=>?_|(refine Ai rfl ?_;refine gA rfl ?_;first| refine gQ (AW.Pc [(68,BN t),(69,Bd a)] ⟨⟨_,rfl,.AL rfl⟩,⟨_,rfl,Jk (k:=5) rfl rfl rfl G rfl rfl⟩,trivial⟩ (λZ'=>Bh rfl rfl rfl A rfl) (ET _)) rfl ?_) |refine aU rfl ?_ |refine Aa ?_)
       ((refine aC rfl ?_ ?_<;>rintro⟨⟩);all_goals try (simp at e;done))
       refine aK ?_;(repeat first|refine tA rfl ?_ |refine s2 rfl λ_ e=>?_ |refine sP rfl (j) rfl ?_ |refine s3 rfl ?_ ?_<;>rintro rfl |refine aU rfl ?_ |refine Aa ?_)
       (repeat' first|refine tA rfl ?_ |refine s2 rfl λ_ e=>?_|(refine Ai rfl ?_;refine gA rfl ?_;first| refine gS (λ_ _=>q.eL N B rfl rfl) ?_) |refine aU rfl ?_ |refine Aa ?_|(refine aC rfl ?_ ?_<;>rintro⟨⟩));all_goals try contradiction
       refine aK ?_;(repeat first|(refine sA rfl ?_ ?_;first|exact tI|omega)|(refine Ai rfl ?_;refine gA rfl ?_;first| refine gS (λ_ _=>Bh rfl rfl (by simp [E.BX,C.BX,C.C6,q.BX]) (n) rfl) ?_) |refine aU rfl ?_ |refine Aa ?_);refine⟨⟨k+1,by omega,λ_=>J⟩,by dsimp only;(omega),[0,1,2],?_⟩;simp[cX,zC,f,cN,z,P,decide_eq_false (show ¬k+1 < (Ck s t p al).length by omega)]
  ·obtain rfl:k=(Ck s t p al).length:=by omega
   have J:=M rfl;simp only [decide_eq_false K];(repeat first|refine tA rfl ?_ |refine s2 rfl λ_ e=>?_ |refine aU rfl ?_ |refine Aa ?_)
   ((refine aC rfl ?_ ?_<;>rintro⟨⟩);all_goals try (simp at e;done))
   (repeat first|(refine sA rfl ?_ ?_;first|exact tI|omega)|(refine Ai rfl ?_;refine gA rfl ?_;first| refine gS (λ_ _=>AV rfl rfl (by rfl) (by rfl)) ?_) |refine aU rfl ?_ |refine Aa ?_);exact aR ⟨_,rfl,[],ff ⟨2,UC,[],((Ck s t p al).length:Int)+1 - 1⟩,[],⟨λi hi=>absurd hi (i8 i),kw⟩,rfl,by (simp[cX,zC,f,cN,BV,Af,eC]),by rw [Int.add_sub_cancel];exact I _ J rfl⟩
theorem TD{s t:Sys}{p:AX}(h:BL s p t < 0)(b:s.es.length<=1048576):AK Tryz.prog ⟨tabs,none⟩ 52 0 [] 0 [BN s,BN t,Bd p,.o (.d (.v .nilFunc))] (Nv (C5 s t p)):=by
 have c:=Jm (TB:=⟨tabs,none⟩) s p t b;unfold dN at c;rw [if_pos h] at c;rw [Xa h];refine AK.A7 (AK.PR (m:=0) (am rfl) Tryz.func52 rfl (by kernel_rfl) (am rfl) ?_);intro Z a;(repeat first|refine tA rfl ?_ |refine s2 rfl λ_ e=>?_ |refine sP rfl (c) rfl ?_ |refine aU rfl ?_ |refine Aa ?_)
 ((refine aC rfl ?_ ?_<;>rintro⟨⟩);all_goals try (simp at e;done))
 (repeat first|refine tA rfl ?_|(refine Ai rfl ?_;refine gA rfl ?_;first| refine gS (λ_ _=>AV rfl rfl (by rfl) (by rfl)) ?_) |refine aU rfl ?_ |refine Aa ?_);exact aR ⟨_,rfl,[],ff ⟨3,UC,[],0⟩,[],⟨λi hi=>absurd hi (i8 i),kw⟩,rfl,by (simp[cX,zC,a,cN,BV,Af,eC]),.inl ⟨rfl,rfl,rfl,rfl⟩⟩
theorem JD(s t:Sys)(p:AX)(c:s.es.length<=1048576):AK Tryz.prog ⟨tabs,none⟩ 14 0 [] 0 [BN s,BN t,Bd p] (Nv (C5 s t p)):=by
 have j:AK Tryz.prog ⟨tabs,none⟩ 52 0 [] 0 [BN s,BN t,Bd p,.o (.d (.v .nilFunc))] (Nv (C5 s t p)):=by
  by_cases h:BL s p t < 0
  ·exact TD h c
  ·exact U8 (Kn h) c
 generalize C5 s t p=v at *;refine AK.A7 (AK.PR (m:=0) (am rfl) Tryz.func14 rfl (by kernel_rfl) (am rfl) ?_);intro Z b;(repeat first|refine tA rfl ?_ |refine aU rfl ?_ |refine Aa ?_);(refine pW rfl ?_ rfl (by rfl);refine Cf [] rfl rfl 0 j (by decide) ⟨rfl,by decide,by decide⟩ rfl trivial ?_;rintro k e f (⟨ha,rfl,rfl,rfl⟩|⟨l,g,rfl,rfl,rfl⟩) _)
 ·(repeat first|refine tA rfl ?_ |refine Aa ?_)
  exact aR ⟨_,rfl,[],ff v,[],⟨λi hi=>absurd hi (i8 i),kw⟩,rfl,by (simp[cX,zC,b,cN,BV,Af,eC]),.inl ⟨ha,rfl,rfl,rfl⟩⟩
 ·(repeat first|refine tA rfl ?_ |refine Aa ?_)
  exact aR ⟨_,rfl,[1,2,3],.a [.d (iD v.code),.d (iD v.a.al),.arr 0 1 0 l.length,.arr 1 1 0 v.a.ac.length,.d (tD v.tr),.d (iD v.rd)],[(0,.cells 53 1 (AB l)),(1,.cells 4 1 (v.a.ac.map AO)),(2,.sld 3 (sI l))],⟨λi hi=>absurd hi (i8 i),by decide⟩,rfl,by (simp[cX,zC,b,cN,BV,Af,eC]),.inr ⟨l,g,rfl,rfl,rfl⟩⟩
theorem Gu(s t:Sys)(p:AX)(b:s.es.length<=1048576):Pure Tryz.prog ⟨tabs,none⟩ 14 [BN s,BN t,Bd p] (ff (C5 s t p)):=by
 refine(JD s t p b).toPure λx σ nx c=>?_;generalize C5 s t p=v at *
 rcases c with ⟨_,rfl,rfl,rfl⟩|⟨l,e,rfl,rfl,rfl⟩
 ·exact⟨[],.inl (.AL rfl)⟩
 ·refine⟨[0,1,2],.inl (.a (ds:=js v) (.cons .d (.cons .d (.cons ?_ (.cons (.full rfl (by simp [d6]) (by simp)) (.cons .d (.cons .d .nil)))))))⟩
  rw [<-e];exact .MA (s:=2) rfl rfl
end
end Go.Am
namespace Go.Am
open Go Go.Proofs
set_option maxHeartbeats 1000000
set_option maxRecDepth 4000
attribute [local irreducible] AW BQ Lex A9 Aj Spec
variable {TB:Bp}
def UY:List (List W):=[[[97,98,32,50,32,48,97,49,32,49,98,48],[98,99,32,50,32,48,98,49,32,49,99,48],[97,99,32,43,49,44,50,32,43,50,44,48,32,45,50,44,50]],[[97,98,32,51,32,48,97,49,32,49,97,50,32,49,98,48],[97,98,32,50,32,48,97,49,32,49,98,48],[97,98,32,43,49,44,48,32,43,50,44,48,32,45,50,44,50]],[[97,98,99,32,56,32,48,97,48,32,48,97,49,32,48,98,48,32,49,97,50,32,49,98,50,32,50,97,51,32,50,98,51,32,51,97,52,32,51,98,52,32,52,97,53,32,52,98,53,32,53,97,54,32,53,98,54,32,54,99,55],[97,98,99,32,49,32,48,97,48,32,48,98,48],[99,32,43,49,32,45,49]],[[97,98,99,32,51,32,48,97,49,32,49,98,50,32,50,99,48],[98,99,32,50,32,48,98,49,32,49,99,48],[97,99,32,43,49,44,50,32,43,50,44,48,32,45,50,44,50]],[[97,98,32,51,32,48,97,49,32,48,98,48,32,49,98,50,32,50,97,50,32,50,98,50],[97,98,99,32,50,32,48,97,49,32,49,98,48,32,49,99,49],[98,32,43,49,32,43,50,32,45,50]],[[97,98,100,32,51,32,48,97,49,32,48,100,48,32,49,98,48,32,49,100,50,32,50,97,50],[97,98,32,50,32,48,97,49,32,49,98,48],[100,32,43,49,32,43,50,32,45,50]],[[97,98,99,32,56,32,48,97,48,32,48,97,49,32,48,98,48,32,49,97,50,32,49,98,50,32,50,97,51,32,50,98,51,32,51,97,52,32,51,98,52,32,52,97,53,32,52,98,53,32,53,97,54,32,53,98,54,32,54,99,55],[97,98,99,32,50,32,48,97,48,32,48,98,48,32,48,99,49],[99,32,43,49,32,45,49]],[[97,98,32,52,32,48,97,49,32,49,97,50,32,49,98,48,32,50,97,51,32,50,98,49,32,51,98,50],[97,98,32,53,32,48,97,49,32,49,97,50,32,49,98,48,32,50,97,51,32,50,98,49,32,51,97,52,32,51,98,50,32,52,98,51],[97,98,32,43,49,44,48,32,43,50,44,48,32,43,51,44,49,32,45,51,44,51]],[[97,99,32,51,32,48,97,49,32,49,97,50,32,50,99,48],[97,99,32,52,32,48,97,49,32,49,97,50,32,50,99,51,32,51,97,48],[99,32,43,49,32,43,50,32,45,50]]]
abbrev kQ(l:List (List W)):D:=.l (l.map λx=>[CG x])
theorem Ss:Pure Tryz.prog TB 195 [] (.o (.d (kQ UY))):=by
 refine eG Tryz.func195 rfl (by kernel_rfl) rfl ?_;intro Z a;(repeat first|refine tA rfl ?_|(refine Ai rfl ?_;refine gA rfl ?_;first| refine gS (λ_ _=>AV rfl rfl (by rfl) (by rfl)) ?_) |refine aU rfl ?_ |refine Aa ?_);(subst_vars;exact aR ⟨_,rfl,rfl⟩)
theorem YA:∀x∈UY,x.length=3/\∀w∈x,w.length<=80:=by decide
theorem Ui(b:List UInt8)(hb:b.length<=2000)(p:Int)(h0:0<=p/\p < 500000000):Spec Tryz.prog TB 117 [(0,A0 b p)] 1 [.o (.ptr 0 2 0 0)] (Vp b p 3000 2000 1000):=by
 obtain⟨L,P,Q,hL0⟩:∃L,Pure Tryz.prog TB 195 [] (.o (.d (kQ L)))/\(∀x∈L,x.length=3/\∀w∈x,w.length<=80)/\0 < L.length:=⟨UY,Ss,YA,by decide⟩
 have f0:=Uu (TB:=TB) b hb p (by omega);refine eR Tryz.func117 rfl (by kernel_rfl) rfl ?_;intro Z e;(repeat first|refine tA rfl ?_ |refine aU rfl ?_ |refine Aa ?_);(refine pW rfl ?_ rfl (by rfl);refine Ae [0] rfl rfl (f0) ⟨rfl,by decide,by decide⟩ rfl (by simp[cX,zC,e,cN]) ?_;rintro v f h ⟨u,⟨s,q,t⟩,X,⟨ba,bb,bc⟩,rfl,rfl,rfl⟩ _);have ba:s.es.length<=400:=ba;have bb:GJ 41 q:=bb;have bc:t.es.length<=400:=bc;obtain⟨c,c0,c1,hc⟩:=A3 (TB:=TB) b hb u 3 (by omega);(repeat first|refine tA rfl ?_ |refine aU rfl ?_ |refine Aa ?_);(refine pW rfl ?_ rfl (by rfl);refine Ae [0] rfl rfl (hc) ⟨rfl,by decide,by decide⟩ rfl (by simp[cX,zC,e,cN]) ?_;rintro v f h ⟨rfl,rfl,rfl⟩ _);(repeat first|refine s2 rfl λ_ H=>?_ |refine Aa ?_);(refine aC rfl ?_ ?_<;>rintro⟨⟩)
 ·obtain⟨k,k0,k1,hk⟩:=A3 (TB:=TB) b hb (u+1) L.length (by omega)
  obtain⟨tx,R⟩:=get_some (l:=L) (k:=k.toNat) (by omega);have V:=get_map (g:=λx=>[CG x]) R;obtain⟨N,F⟩:=Q tx (co R)
  obtain⟨A,z,y,rfl⟩:∃A z y,tx=[A,z,y]:=by
   match tx,N with
   | [a,b,c],_=>exact⟨a,b,c,rfl⟩
  have l0:=F A (by simp);have l1:=F z (by simp);have l2:=F y (by simp);have i0:([A,z,y].map Gh)[(0:Int).toNat]? = some (Gh A):=rfl;have i1:([A,z,y].map Gh)[(1:Int).toNat]? = some (Gh z):=rfl;have i2:([A,z,y].map Gh)[(2:Int).toNat]? = some (Gh y):=rfl;have g0:=FM (TB:=TB) A (by omega);have g1:=FM (TB:=TB) z (by omega);have g2:=Gn (TB:=TB) y (by omega);(repeat first|refine sN rfl ?_ |refine tA rfl ?_ |refine sP rfl (P) rfl ?_ |refine aU rfl ?_ |refine Aa ?_);(refine pW rfl ?_ rfl (by rfl);refine Ae [0] rfl rfl (hk) ⟨rfl,by decide,by decide⟩ rfl (by simp[cX,zC,e,cN]) ?_;rintro v f h ⟨rfl,rfl,rfl⟩ _);(repeat first|refine tA rfl ?_ |(refine s4 rfl ‹_› rfl ?_ ?_;omega) |refine aU rfl ?_ |refine Aa ?_);(refine pW rfl ?_ rfl (by rfl);refine Ae [] rfl rfl (g0) ⟨rfl,by decide,by decide⟩ rfl trivial ?_;rintro v f h ⟨⟨s1,U⟩,J,rfl,rfl,rfl⟩ _);(repeat first|refine tA rfl ?_ |(refine s4 rfl ‹_› rfl ?_ ?_;omega) |refine aU rfl ?_ |refine Aa ?_);(refine pW rfl ?_ rfl (by rfl);refine Ae [] rfl rfl (g1) ⟨rfl,by decide,by decide⟩ rfl trivial ?_;rintro v f h ⟨⟨j,T⟩,I,rfl,rfl,rfl⟩ _);(repeat first|refine tA rfl ?_ |(refine s4 rfl ‹_› rfl ?_ ?_;omega) |refine aU rfl ?_ |refine Aa ?_);(refine pW rfl ?_ rfl (by rfl);refine Ae [] rfl rfl (g2) ⟨rfl,by decide,by decide⟩ rfl trivial ?_;rintro v f h ⟨⟨n,S⟩,r,rfl,rfl,rfl⟩ _);have J:s1.es.length<=A.length+1:=J;have I:j.es.length<=z.length+1:=I;have r:GJ (y.length+1) n:=r;obtain⟨d,d0,d1,Y⟩:=A3 (TB:=TB) b hb (u+1+1) 4 (by omega);(repeat first|refine tA rfl ?_ |refine aU rfl ?_ |refine Aa ?_);(refine pW rfl ?_ rfl (by rfl);refine Ae [0] rfl rfl (Y) ⟨rfl,by decide,by decide⟩ rfl (by simp[cX,zC,e,cN]) ?_;rintro v f h ⟨rfl,rfl,rfl⟩ _);refine Aa ?_;refine aB ?_;(repeat first|refine tA rfl ?_ |refine s2 rfl λ_ H=>?_ |refine aU rfl ?_ |refine Aa ?_);(refine aC rfl ?_ ?_<;>rintro⟨⟩)
  ·have M:=Mw (TB:=TB) b hb (u+1+1+1) (by omega) s1 (by omega)
   (repeat first|refine tA rfl ?_ |refine aU rfl ?_);(refine pW rfl ?_ rfl (by rfl);refine Ae [0] rfl rfl (M) ⟨rfl,by decide,by decide⟩ rfl (by simp[cX,zC,e,cN]) ?_;rintro v f h ⟨B,m,K,G,rfl,rfl,rfl⟩ _);(repeat first|refine tA rfl ?_ |refine aU rfl ?_ |refine Aa ?_);refine Aj.AH [4,5,6] [(5,.o (.ip (AJ m))),(6,.o (.ip (AM n))),(7,.o (.ip (AJ j))),(2,.o (.ptr 1 3 0 0)),(3,.o (.ptr 2 3 0 0)),(4,.o (.ptr 3 3 0 0))] ⟨⟨_,rfl,.inr (.o (.box rfl (FB.refl (AJ m))))⟩,⟨_,rfl,.inr (.o (.box rfl (FB.refl (AM n))))⟩,⟨_,rfl,.inr (.o (.box rfl (FB.refl (AJ j))))⟩,⟨_,rfl,.inl rfl⟩,⟨_,rfl,.inl rfl⟩,⟨_,rfl,.inl rfl⟩,trivial⟩ ?_;refine rG (GI [(3,1),(4,1),(5,1)]) (by kernel_rfl) ?_;(repeat first|refine tA rfl ?_ |refine Aa ?_);exact aR ⟨_,rfl,[0],Qz (m,j,n),[(0,A0 b (B))],⟨by intro i hi;match i with|0=>rfl,by decide⟩,rfl,by (simp[cX,zC,e,cN]),B,(m,j,n),by omega,⟨by show m.es.length<=_;omega,by show j.es.length<=_;omega,r.upto (by omega)⟩,rfl,rfl,rfl⟩
  ·(repeat first|refine tA rfl ?_ |refine s2 rfl λ_ H=>?_ |refine aU rfl ?_ |refine Aa ?_)
   (refine aC rfl ?_ ?_<;>rintro⟨⟩)
   ·have M:=Mw (TB:=TB) b hb (u+1+1+1) (by omega) j (by omega)
    (repeat first|refine tA rfl ?_ |refine aU rfl ?_);(refine pW rfl ?_ rfl (by rfl);refine Ae [0] rfl rfl (M) ⟨rfl,by decide,by decide⟩ rfl (by simp[cX,zC,e,cN]) ?_;rintro v f h ⟨B,m,K,G,rfl,rfl,rfl⟩ _);(repeat first|refine tA rfl ?_ |refine aU rfl ?_ |refine Aa ?_);refine Aj.AH [4,5,6] [(5,.o (.ip (AJ s1))),(6,.o (.ip (AM n))),(7,.o (.ip (AJ m))),(2,.o (.ptr 1 3 0 0)),(3,.o (.ptr 2 3 0 0)),(4,.o (.ptr 3 3 0 0))] ⟨⟨_,rfl,.inr (.o (.box rfl (FB.refl (AJ s1))))⟩,⟨_,rfl,.inr (.o (.box rfl (FB.refl (AM n))))⟩,⟨_,rfl,.inr (.o (.box rfl (FB.refl (AJ m))))⟩,⟨_,rfl,.inl rfl⟩,⟨_,rfl,.inl rfl⟩,⟨_,rfl,.inl rfl⟩,trivial⟩ ?_;refine rG (GI [(3,1),(4,1),(5,1)]) (by kernel_rfl) ?_;(repeat first|refine tA rfl ?_ |refine Aa ?_);exact aR ⟨_,rfl,[0],Qz (s1,m,n),[(0,A0 b (B))],⟨by intro i hi;match i with|0=>rfl,by decide⟩,rfl,by (simp[cX,zC,e,cN]),B,(s1,m,n),by omega,⟨by show s1.es.length<=_;omega,by show m.es.length<=_;omega,r.upto (by omega)⟩,rfl,rfl,rfl⟩
   ·(repeat first|refine tA rfl ?_ |refine s2 rfl λ_ H=>?_ |refine aU rfl ?_ |refine Aa ?_)
    (refine aC rfl ?_ ?_<;>rintro⟨⟩)
    ·have M:=Dp (TB:=TB) b hb (u+1+1+1) (by omega) n _ r (by omega)
     (repeat first|refine tA rfl ?_ |refine aU rfl ?_);(refine pW rfl ?_ rfl (by rfl);refine Ae [0] rfl rfl (M) ⟨rfl,by decide,by decide⟩ rfl (by simp[cX,zC,e,cN]) ?_;rintro v f h ⟨B,m,K,G,rfl,rfl,rfl⟩ _);(repeat first|refine tA rfl ?_ |refine aU rfl ?_ |refine Aa ?_);refine Aj.AH [4,5,6] [(5,.o (.ip (AJ s1))),(6,.o (.ip (AM m))),(7,.o (.ip (AJ j))),(2,.o (.ptr 1 3 0 0)),(3,.o (.ptr 2 3 0 0)),(4,.o (.ptr 3 3 0 0))] ⟨⟨_,rfl,.inr (.o (.box rfl (FB.refl (AJ s1))))⟩,⟨_,rfl,.inr (.o (.box rfl (FB.refl (AM m))))⟩,⟨_,rfl,.inr (.o (.box rfl (FB.refl (AJ j))))⟩,⟨_,rfl,.inl rfl⟩,⟨_,rfl,.inl rfl⟩,⟨_,rfl,.inl rfl⟩,trivial⟩ ?_;refine rG (GI [(3,1),(4,1),(5,1)]) (by kernel_rfl) ?_;(repeat first|refine tA rfl ?_ |refine Aa ?_);exact aR ⟨_,rfl,[0],Qz (s1,j,m),[(0,A0 b (B))],⟨by intro i hi;match i with|0=>rfl,by decide⟩,rfl,by (simp[cX,zC,e,cN]),B,(s1,j,m),by omega,⟨by show s1.es.length<=_;omega,by show j.es.length<=_;omega,GJ.upto G.2 (by omega)⟩,rfl,rfl,rfl⟩
    ·refine aK ?_
     (repeat first|refine aU rfl ?_);refine Aj.AH [4,5,6] [(5,.o (.ip (AJ s1))),(6,.o (.ip (AM n))),(7,.o (.ip (AJ j))),(2,.o (.ptr 1 3 0 0)),(3,.o (.ptr 2 3 0 0)),(4,.o (.ptr 3 3 0 0))] ⟨⟨_,rfl,.inr (.o (.box rfl (FB.refl (AJ s1))))⟩,⟨_,rfl,.inr (.o (.box rfl (FB.refl (AM n))))⟩,⟨_,rfl,.inr (.o (.box rfl (FB.refl (AJ j))))⟩,⟨_,rfl,.inl rfl⟩,⟨_,rfl,.inl rfl⟩,⟨_,rfl,.inl rfl⟩,trivial⟩ ?_;refine rG (GI [(3,1),(4,1),(5,1)]) (by kernel_rfl) ?_;(repeat first|refine tA rfl ?_ |refine Aa ?_);exact aR ⟨_,rfl,[0],Qz (s1,j,n),[(0,A0 b (u+1+1+1))],⟨by intro i hi;match i with|0=>rfl,by decide⟩,rfl,by (simp[cX,zC,e,cN]),u+1+1+1,(s1,j,n),by omega,⟨by show s1.es.length<=_;omega,by show j.es.length<=_;omega,r.upto (by omega)⟩,rfl,rfl,rfl⟩
 ·refine aK ?_
  (repeat first|refine aU rfl ?_);refine Aj.AH [4,5,6] [(5,.o (.ip (AJ s))),(6,.o (.ip (AM q))),(7,.o (.ip (AJ t))),(2,.o (.ptr 1 3 0 0)),(3,.o (.ptr 2 3 0 0)),(4,.o (.ptr 3 3 0 0))] ⟨⟨_,rfl,.inr (.o (.box rfl (FB.refl (AJ s))))⟩,⟨_,rfl,.inr (.o (.box rfl (FB.refl (AM q))))⟩,⟨_,rfl,.inr (.o (.box rfl (FB.refl (AJ t))))⟩,⟨_,rfl,.inl rfl⟩,⟨_,rfl,.inl rfl⟩,⟨_,rfl,.inl rfl⟩,trivial⟩ ?_;refine rG (GI [(3,1),(4,1),(5,1)]) (by kernel_rfl) ?_;(repeat first|refine tA rfl ?_ |refine Aa ?_);exact aR ⟨_,rfl,[0],Qz (s,t,q),[(0,A0 b (u+1))],⟨by intro i hi;match i with|0=>rfl,by decide⟩,rfl,by (simp[cX,zC,e,cN]),u+1,(s,t,q),by omega,⟨by show s.es.length<=_;omega,by show t.es.length<=_;omega,bb.upto (by omega)⟩,rfl,rfl,rfl⟩
theorem XB(b:List UInt8)(hb:b.length<=2000)(p:Int)(u:0<=p/\p < 500000000):Spec Tryz.prog TB 50 [(0,A0 b p)] 1 [.o (.ptr 0 2 0 0)] (Vp b p 3100 2003 1042):=by
 have r:=Ui (TB:=TB) b hb p (by omega);refine eR Tryz.func50 rfl (by kernel_rfl) rfl ?_;intro Z a;(repeat first|refine tA rfl ?_ |refine aU rfl ?_ |refine Aa ?_);(refine pW rfl ?_ rfl (by rfl);refine Ae [0] rfl rfl (r) ⟨rfl,by decide,by decide⟩ rfl (by simp[cX,zC,a,cN]) ?_;rintro j e f ⟨k,⟨s,t,q⟩,m,⟨ba,bb,bc⟩,rfl,rfl,rfl⟩ _);have ba:s.es.length<=2000:=ba;have bb:t.es.length<=2000:=bb;have bc:GJ 1000 q:=bc;have n:=Ut (TB:=TB) b hb k (by omega) s q t ba bb bc;(repeat first|refine tA rfl ?_ |refine aU rfl ?_ |refine Aa ?_);(refine pW rfl ?_ rfl (by rfl);refine Ae [0] rfl rfl (n) ⟨rfl,by decide,by decide⟩ rfl (by simp[cX,zC,a,cN]) ?_;rintro j e f ⟨h,⟨s2,d,c⟩,l,g,rfl,rfl,rfl⟩ _);(repeat first|refine tA rfl ?_ |refine aU rfl ?_ |refine Aa ?_);refine Aj.AH [4,5,6] [(5,.o (.ip (AJ s2))),(6,.o (.ip (AJ c))),(7,.o (.ip (AM d))),(2,.o (.ptr 1 3 0 0)),(3,.o (.ptr 2 3 0 0)),(4,.o (.ptr 3 3 0 0))] ⟨⟨_,rfl,.inr (.o (.box rfl (FB.refl (AJ s2))))⟩,⟨_,rfl,.inr (.o (.box rfl (FB.refl (AJ c))))⟩,⟨_,rfl,.inr (.o (.box rfl (FB.refl (AM d))))⟩,⟨_,rfl,.inl rfl⟩,⟨_,rfl,.inl rfl⟩,⟨_,rfl,.inl rfl⟩,trivial⟩ ?_;refine rG (GI [(3,1),(4,1),(5,1)]) (by kernel_rfl) ?_;(repeat first|refine tA rfl ?_ |refine Aa ?_);exact aR ⟨_,rfl,[0],Qz (s2,c,d),[(0,A0 b (h))],⟨by intro i hi;match i with|0=>rfl,by decide⟩,rfl,by (simp[cX,zC,a,cN]),h,(s2,c,d),by omega,g,rfl,rfl,rfl⟩
theorem JU(b:List UInt8)(hb:b.length<=9223372036854775807):Spec Tryz.prog TB 38 [] 0 [.o (.d (P9 b))] (Dv (λr:Sys×Sys×AX=>r.1.es.length<=1048576/\r.2.1.es.length<=1048576) Qz):=by
 obtain⟨b',g,l⟩:=NU (TB:=TB) b hb;have k:=XB (TB:=TB) b' g 0 (by omega);refine eR Tryz.func38 rfl (by kernel_rfl) rfl ?_;intro Z c;(repeat first|refine tA rfl ?_ |refine aU rfl ?_ |refine Aa ?_);(refine pW rfl ?_ rfl (by rfl);refine Cf [] rfl rfl 0 (l) (by decide) ⟨rfl,by decide,by decide⟩ rfl (by simp[cX,zC,c,cN]) ?_;rintro j e f ⟨rfl,rfl,rfl⟩ _);(refine pW rfl ?_ rfl (by rfl);refine Ae [3] rfl rfl (k) ⟨rfl,by decide,by decide⟩ rfl (by simp[cX,zC,c,cN]) ?_;rintro j e f ⟨q,r,_,h,rfl,rfl,rfl⟩ _);(repeat first|refine tA rfl ?_ |refine Aa ?_);exact aR ⟨_,rfl,[],Qz r,[],⟨λi hi=>absurd hi (i8 i),kw⟩,rfl,trivial,r,⟨by have:=h.a;omega,by have:=h.b;omega⟩,rfl,rfl,rfl⟩
end Go.Am
namespace Go.Am
open Go Go.Proofs
set_option maxHeartbeats 1000000
set_option maxRecDepth 4000
attribute [local irreducible] AW BQ Lex A9 Aj Spec
theorem Uv{tabs:List (Nat×Obj)}[hTb:Dx ⟨tabs,none⟩](b u:List UInt8):Pure Tryz.prog ⟨tabs,none⟩ 8 [.o (.d (P9 b)),.o (.d (P9 u))] (eB true):=by
 refine eG Tryz.func8 rfl (by kernel_rfl) rfl ?_;intro Z I;(repeat' first |refine sN rfl ?_ |((first|refine sA rfl ?_ ?_|refine s4 rfl ‹_› rfl ?_ ?_);first|exact tI|omega|simp only[oZ] at *;omega) |refine s2 rfl λ_ a=>?_ |refine s3 rfl ?_ ?_<;>rintro rfl |refine aU rfl ?_ |refine Aa ?_|(refine aC rfl ?_ ?_<;>rintro⟨⟩))
 ·(subst_vars;exact aR ⟨_,rfl,rfl⟩)
 ·(subst_vars;exact aR ⟨_,rfl,rfl⟩)
 have r:b.length<=9223372036854775807:=by first|omega|simp only[oZ] at *;omega
 have f:u.length<=9223372036854775807:=by first|omega|simp only[oZ] at *;omega
 refine aK ?_;(repeat first |refine sN rfl ?_ |((first|refine sA rfl ?_ ?_|refine s4 rfl ‹_› rfl ?_ ?_);first|exact tI|omega|simp only[oZ] at *;omega) |refine s2 rfl λ_ a=>?_ |refine s3 rfl ?_ ?_<;>rintro rfl |refine aU rfl ?_ |refine Aa ?_);(refine pW rfl ?_ rfl (by rfl);refine Ae [] rfl rfl (HT (TB:=⟨tabs,none⟩) b r) ⟨rfl,by decide,by decide⟩ rfl trivial ?_;rintro A k l ⟨⟨p,q⟩,_,rfl,rfl,rfl⟩ _);(repeat first |refine sN rfl ?_ |((first|refine sA rfl ?_ ?_|refine s4 rfl ‹_› rfl ?_ ?_);first|exact tI|omega|simp only[oZ] at *;omega) |refine s2 rfl λ_ a=>?_ |refine s3 rfl ?_ ?_<;>rintro rfl |refine aU rfl ?_ |refine Aa ?_);(refine pW rfl ?_ rfl (by rfl);refine Ae [] rfl rfl (JU (TB:=⟨tabs,none⟩) u f) ⟨rfl,by decide,by decide⟩ rfl trivial ?_;rintro A k l ⟨⟨s,t,y⟩,⟨e,J⟩,rfl,rfl,rfl⟩ _);(repeat first |refine sN rfl ?_ |((first|refine sA rfl ?_ ?_|refine s4 rfl ‹_› rfl ?_ ?_);first|exact tI|omega|simp only[oZ] at *;omega) |refine s2 rfl λ_ a=>?_ |refine s3 rfl ?_ ?_<;>rintro rfl);refine Aa ?_;refine Aj.AH [0,1,2,3,4] [(5,.o (.ip (AM p))),(6,.o (.ip (AM q))),(7,.o (.ip (AJ s))),(8,.o (.ip (AJ t)))] ⟨⟨_,rfl,.inr (.o (.box rfl (FB.refl (AM p))))⟩,⟨_,rfl,.inr (.o (.box rfl (FB.refl (AM q))))⟩,⟨_,rfl,.inr (.o (.box rfl (FB.refl (AJ s))))⟩,⟨_,rfl,.inr (.o (.box rfl (FB.refl (AJ t))))⟩,trivial⟩ ?_;have j:=HZ (TB:=⟨tabs,none⟩) p q;have i:=Ic (TB:=⟨tabs,none⟩) p q;have x:=Gu (tabs:=tabs) s t p e;have w:=Gu (tabs:=tabs) s t q e;have g:MK p q=true->(C5 s t p).code=0->(C5 s t q).code=0\/(C5 s t q).code=2:=λh=>U7 (OU h).1 (OU h).2
 obtain⟨⟨K,M,F,H⟩,n⟩:∃v,v=C5 s t p:=⟨_,rfl⟩
 obtain⟨⟨z,L,B,G⟩,m⟩:∃v,v=C5 s t q:=⟨_,rfl⟩
 rw [<-n] at x g;rw [<-m] at w g;cases c:MK p q
 ·rw [c] at j i
  (repeat first |refine sN rfl ?_ |((first|refine sA rfl ?_ ?_|refine s4 rfl ‹_› rfl ?_ ?_);first|exact tI|omega|simp only[oZ] at *;omega) |refine s2 rfl λ_ a=>?_ |refine sP rfl (j) rfl ?_ |refine s3 rfl ?_ ?_<;>rintro rfl |refine aU rfl ?_ |refine Aa ?_)
  (repeat' first |refine sN rfl ?_ |((first|refine sA rfl ?_ ?_|refine s4 rfl ‹_› rfl ?_ ?_);first|exact tI|omega|simp only[oZ] at *;omega) |refine s2 rfl λ_ a=>?_ |refine sP rfl (i) rfl ?_ |refine s3 rfl ?_ ?_<;>rintro rfl |refine aU rfl ?_ |refine Aa ?_|(refine aC rfl ?_ ?_<;>rintro⟨⟩));all_goals try contradiction
  all_goals (subst_vars;exact aR ⟨_,rfl,rfl⟩)
 ·rw [c] at j i
  have g:K=0->z=0\/z=2:=g c;(repeat first |refine sN rfl ?_ |((first|refine sA rfl ?_ ?_|refine s4 rfl ‹_› rfl ?_ ?_);first|exact tI|omega|simp only[oZ] at *;omega) |refine s2 rfl λ_ a=>?_ |refine sP rfl (j) rfl ?_ |refine s3 rfl ?_ ?_<;>rintro rfl |refine aU rfl ?_ |refine Aa ?_)
  (repeat' first |refine sN rfl ?_ |((first|refine sA rfl ?_ ?_|refine s4 rfl ‹_› rfl ?_ ?_);first|exact tI|omega|simp only[oZ] at *;omega) |refine s2 rfl λ_ a=>?_ |refine sP rfl (i) rfl ?_ |refine s3 rfl ?_ ?_<;>rintro rfl |refine aU rfl ?_ |refine Aa ?_|(refine aC rfl ?_ ?_<;>rintro⟨⟩));all_goals try contradiction
  refine aK ?_;(repeat first |refine sN rfl ?_ |((first|refine sA rfl ?_ ?_|refine s4 rfl ‹_› rfl ?_ ?_);first|exact tI|omega|simp only[oZ] at *;omega) |refine s2 rfl λ_ a=>?_ |refine sP rfl (x) rfl ?_|refine sP rfl (w) rfl ?_ |refine s3 rfl ?_ ?_<;>rintro rfl |refine aU rfl ?_ |refine Aa ?_)
  (repeat' first |refine sN rfl ?_ |((first|refine sA rfl ?_ ?_|refine s4 rfl ‹_› rfl ?_ ?_);first|exact tI|omega|simp only[oZ] at *;omega) |refine s2 rfl λ_ a=>?_ |refine s3 rfl ?_ ?_<;>rintro rfl |refine aU rfl ?_ |refine Aa ?_|(refine aC rfl ?_ ?_<;>rintro⟨⟩));all_goals try contradiction
  all_goals first
   | (exfalso;first|omega|simp only[oZ] at *;omega;done)
   | (subst_vars;exact aR ⟨_,rfl,rfl⟩)
   | (refine aR ⟨_,rfl,?_⟩;show E.o _=E.o _;congr;grind)
end Go.Am
