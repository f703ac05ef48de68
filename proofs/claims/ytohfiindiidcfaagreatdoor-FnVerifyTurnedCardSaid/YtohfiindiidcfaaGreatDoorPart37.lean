/-
  The program's verification: walked.
-/
import Derived.Test.YtohfiindiidcfaaGreatDoorPart36
set_option linter.all false
namespace Go.Am
open Go Go.Proofs
set_option maxHeartbeats 1000000
set_option maxRecDepth 4000
attribute [local irreducible] A3 Cp Lex Bl Aj Spec
theorem JZ.iY{P:Program}{TB:BC}{c:C}{L:W->Bool}{ok:W->Prop}(h:JZ P TB c L ok){w:W}{b:Bool}(hb:L w=b)(i:ok w){Z:Ctx}{d:Option Tmp}{ty:TypeId}{pos:String}{af:Array Edge}{g:Option (Nat×Bool)}{f:Env}{σ:Ab}{nx:Nat}{x a:Operand}{tys:Array TypeId}
 (e:ev f x=some (.o c)) (ha:ev f a=some (eT w)):A3 P TB Z ⟨d,.call ⟨.value x,#[a],tys⟩,ty,pos,af,g⟩ f σ nx (eB b):=hb ▸ h.ask e ha i
theorem kU{m:Nat}{L:W->Bool}{ok:W->Prop}{X:BC->Ctx->C->Prop}{Y:Prop}(h:∀(TB1:BC) (Z1:Ctx) (a:C),Z1.V.nx=m->Dc TB1->JZ Tryz.prog TB1 a L ok->X TB1 Z1 a)
 (hk:(∀(TB1:BC) (Z1:Ctx) (a:C),Z1.V.nx=m->Dc TB1->JZ Tryz.prog TB1 a L ok->X TB1 Z1 a)->Y):Y:=hk h
theorem Vj{tabs:List (Nat×Obj)}[g:Dc ⟨tabs,none⟩]{te:EF}{ok:W->Prop}(c:te.kn=false)(b:CN te=true)(a:∀w,ok w->kD (A6 te) w)(f:TV te ok) :
 ∃(t:CO) (m:GF),NG t ok m/\AQ Tryz.prog ⟨tabs,none⟩ 64 0 [] 0 [EL te] (λx σ nx=>x=.t [(true,[.d (iD (A6 te)),N6 (.ptr 0 14 0 0)]),(false,[.d (bD true)])]/\σ=Nt t m/\nx=5)/\
  ∀r,JZ Tryz.prog ⟨tabs,some (Qp t ok,r)⟩ (N6 (PU r)) (Cf te) ok/\Dc ⟨tabs,some (Qp t ok,r)⟩:=by
 obtain⟨kn,p,s,q,al⟩:=te;obtain rfl:kn=false:=c;have ht:Bd ⟨s,q,al⟩=true:=b;obtain⟨m,e,hno⟩:=QZ (TB:=⟨tabs,none⟩) p ht ok;exact⟨⟨s,q,al⟩,m,e,hno,λr=>⟨mS ht a (f rfl),kc g⟩⟩
def OX(v:Vd)(x:E)(σ:Ab)(nx:Nat):Prop:=
 (v.a=IZ/\x=fk v/\σ=[]/\nx=0)\/
 (∃l:IM,l.map (·.2)=v.a.nx/\x=.a [.d (iD v.code),.d (iD v.a.al),.arr 0 1 0 l.length,.arr 1 1 0 v.a.ac.length,.d (tD v.tr),.d (iD v.rd)]/\σ=[(0,.cells 64 1 (AA l)),(1,.cells 4 1 (v.a.ac.map AT)),(2,.sld 3 (sI l))]/\nx=3)
section
variable {tabs:List (Nat×Obj)}[hTb:Dc ⟨tabs,none⟩]
include hTb
theorem XP{s t:Sys}{p:AY}{al:Int}(hI:Fe s p t al)(hes:s.es.length<=1048576):AQ Tryz.prog ⟨tabs,none⟩ 34 0 [] 0 [Br s,Br t,Bj p,.o (.d (.v .nilFunc))] (OX (BG s t p)):=by
 have h1:=Kj (TB:=⟨tabs,none⟩) s p t hes;unfold VQ at h1;rw [if_neg (RK hI),<-hI.hal] at h1;obtain⟨ok,hs0,hf,hgr,hrun⟩:=fB hI (ER hI)
 let te:EF:=Dm s p al
 have H:te.kn=false:=rfl;have hok:CN te=true:=XJ hI
 have hsub:∀w,ok w->kD (A6 te) w:=λw hw=>by rw [DM];exact hs0 w hw
 have hf:TV te ok:=hf;obtain⟨hl1,hl2⟩:=ID hI;have h0:=eY (t:=t) hI;unfold Tp at h0;rw [if_pos (XJ hI),IS,DM] at h0;refine AQ.Bi (AQ.Sc (m:=0) (am rfl) Tryz.func34 rfl (by kernel_rfl) (am rfl) ?_);intro Z f;(repeat first|refine tA rfl ?_ |refine s2 rfl λ_ e=>?_ |refine sP rfl (h1) rfl ?_ |refine aU rfl ?_ |refine Aa ?_)
 ((refine aC rfl ?_ ?_<;>rintro⟨⟩);all_goals try (simp at e;done))
 refine aK ?_;refine Aj.AF [1] [(3,.o (.d (.v .nilFunc))),(4,.o (.ip (AL s))),(5,.o (.ip (AL t))),(6,.o (.ip (AP p))),(8,.o (.ptr 0 6 0 0)),(9,.o (.ip (Mt ⟨s,p,al⟩)))] ⟨⟨_,rfl,.inl rfl⟩,⟨_,rfl,.inl rfl⟩,⟨_,rfl,.inl rfl⟩,⟨_,rfl,.inl rfl⟩,⟨_,rfl,.inl rfl⟩,⟨_,rfl,.inr (.o (.box rfl (Gd.refl (Mt ⟨s,p,al⟩))))⟩,trivial⟩ ?_;refine Aj.Ay [3,4,5,6,8,9] [0] rfl rfl [] [] [0] (rl f rfl) (by (simp[cX,zC,f,cN])) ?_;(try dsimp only[cA,cB]);(repeat first|refine tA rfl ?_|(refine Ag rfl ?_;refine gA rfl ?_;first| refine gS (λ_ _=>AG rfl rfl (by rfl) (by rfl)) ?_) |refine aU rfl ?_)
 apply kU (m:=0) (L:=Cf te) (ok:=ok);case hk=>(intro hk;obtain⟨tk,mk,hm,hno,q⟩:=Vj (tabs:=tabs) H hok hsub hf;((refine pW rfl ?_ rfl (by rfl);refine Ck [] rfl rfl 0 (hno) (by decide) ⟨rfl,by decide,by decide⟩ rfl (by simp[cX,zC,f,A7]) ?_;rintro x0 σ1 nx1 ⟨rfl,rfl,rfl⟩ _);(repeat first|refine tA rfl ?_);refine Aa ?_;refine Aj.mZ (Qp tk ok) ⟨mk,hm⟩ 1 [2,3,4,5] (λr=>[(3,.o (.d (.v .nilFunc))),(4,.o (.ip (AL s))),(5,.o (.ip (AL t))),(6,.o (.ip (AP p))),(9,.o (.ip (Mt ⟨s,p,al⟩))),(8,.o (.ptr 0 6 0 0)),(11,.o (.ptr 6 2 0 0))]) (λr=>[(0,.cells 33 6 [[.d (iD 0),.d (iD 0),.d (.l []),.d (.l []),.d (tD []),.d (iD 0)]]),(6,.cells 91 2 [[.d (iD (A6 te)),N6 (PU r)]])]) (by decide) rfl (by ((repeat' first|exact tI|rfl|refine And.intro ?_ ?_)<;>(simp[cX,zC,f,A7]<;>rfl))) ⟨_,_,_,_,rfl⟩ (λr=>by repeat' first|exact tI|refine And.intro ⟨_,rfl,.AR⟩ ?_) (λr=>by repeat' first|exact tI|refine And.intro ⟨by decide,.inl rfl⟩ ?_|refine And.intro ⟨by decide,.inr ⟨_,_,_,_,rfl,rfl,.cons .AR (.cons .mv .nil)⟩⟩ ?_) λr Z' Y=>?_;have f:Z'.V.nx=0:=(by rw [Y];exact f);refine Aj.Ay [3,4,5,6,9] [] rfl rfl [(8,.o (.ptr 0 6 0 0)),(11,.o (.ptr 1 2 0 0))] [(0,.cells 33 6 [[.d (iD 0),.d (iD 0),.d (.l []),.d (.l []),.d (tD []),.d (iD 0)]]),(1,.cells 91 2 [[.d (iD (A6 te)),N6 (PU r)]])] [0,6] (rl f rfl) (by (simp[cX,zC,f])) ?_;(try dsimp only[cA,cB]);have U:=q r;obtain⟨TB0,hTB0⟩:∃T,T=(⟨tabs,some (Qp tk ok,r)⟩:BC):=⟨_,rfl⟩;obtain⟨c0,hc0⟩:∃c,c=N6 (PU r):=⟨_,rfl⟩;rw [<-hTB0,<-hc0] at U |-;exact hk TB0 Z' c0 f U.2 U.1))
 case h =>
  intro TB1 Z1 c1 f hTb1 q
  have q:JZ Tryz.prog TB1 c1 (LS ⟨s,p,al⟩) ok:=by rw [<-IS];exact q
  have eal:A6 te=al:=DM s p al;rw [eal];clear_value te;have z:=E5 c1 q.Cm;have hnt:=Tr q al hgr;rw [h0] at hnt
  have I:∀v:Vd,BG s t p=v->v.a=IZ->OX (BG s t p) (fk v) [] 0:=λv h1 h2=>by rw [h1];exact .inl ⟨h2,rfl,rfl,rfl⟩
  (repeat first|refine tA rfl ?_|(refine Ag rfl ?_;refine gA rfl ?_;first| refine gS (λ_ _=>Bu rfl rfl (by simp [E.Cm,C.Cm,C.Ds,q.Cm]) (hnt) rfl) ?_) |refine aU rfl ?_ |refine Aa ?_);refine aB ?_;refine aL (α:={k:Nat // k<=(BN s t p al).length/\(k=(BN s t p al).length->BG s t p=⟨2,IZ,[],(k:Int)⟩)}) [3,4,5,6,8,9,11,13] [0,1] rfl rfl (λ⟨k,H,M⟩=>[(10,eB (decide (k < (BN s t p al).length))),(14,eI .i64 ((k:Int)+1))]) (λ⟨k,H,M⟩=>[(2,.cells 98 2 [[.d (BZ (BR s t p al k).rows),.d (BZ (BR s t p al k).cols)]])]) 3 (λ⟨k,H,M⟩=>(BN s t p al).length - k) (⟨0,by omega,by omega⟩) f rfl (by ((repeat' first|exact tI|rfl|refine And.intro ?_ ?_)<;>(simp[cX,zC,f,cN,z]<;>rfl))) ?_;rintro⟨k,H,M⟩;(try dsimp only[cA,cB]);refine aS (aB ?_);by_cases K:k < (BN s t p al).length
  ·simp only [decide_eq_true K]
   obtain⟨hx,X⟩:=Vx hI K;have hbd:=TU hx;obtain⟨hao,S⟩:=hrun _ (co (JD K));have R:=QJ (TB:=TB1) q al (BR s t p al k) hao (hbd.mono (by omega)) hx.o;obtain⟨_,_,_,hcl⟩:=Hu hI hx;have g:=Fh (TB:=TB1) s (BJ s p al (BR s t p al k)) p;have A:=IW (TB:=TB1) t (BJ s p al (BR s t p al k));have R:AQ Tryz.prog TB1 66 0 [] 0 [Je al c1,Eh (BR s t p al k)] (Lc (BJ s p al (BR s t p al k))):=R;(repeat first|refine tA rfl ?_ |refine s2 rfl λ_ e=>?_ |refine aU rfl ?_ |refine Aa ?_)
   ((refine aC rfl ?_ ?_<;>rintro⟨⟩);all_goals try (simp at e;done))
   refine aK ?_;(repeat first|refine tA rfl ?_ |refine aU rfl ?_);(refine pW rfl ?_ rfl (by rfl);refine Ck [] rfl rfl 0 R (by decide) ⟨rfl,by decide,by decide⟩ (by simp [EY,E.Bi,C.CA,C.Bi,z,eC,Je,Eh]<;>rfl) (by simp[cX,zC,f,cN]) ?_;rintro x0 σ1 nx1 ⟨l,G,rfl,rfl,rfl⟩ _);(repeat first|refine tA rfl ?_);refine Aa ?_;refine Aj.Ay [3,4,5,6,8,9,11,13,14] [0,1,2] rfl rfl [(15,.o (.ptr 6 3 0 0))] [(3,.cells 64 1 (AA l)),(4,.cells 4 1 ((BJ s p al (BR s t p al k)).ac.map AT)),(5,.sld 3 (sI l)),(6,.cells 29 3 [[.d (iD (BJ s p al (BR s t p al k)).al),.arr 3 1 0 l.length,.arr 4 1 0 (BJ s p al (BR s t p al k)).ac.length]])] [0,1,2,3,4,5,6] (rl f rfl) (by (simp[cX,zC,f,cN,Ae,eC,BU,z])) ?_;(try dsimp only[cA,cB]);(repeat first|refine tA rfl ?_|(refine Ag rfl ?_;refine gA rfl ?_;first| refine gS (λ_ _=>gJ rfl rfl) ?_) |refine aU rfl ?_ |refine Aa ?_)
   ((refine aC rfl ?_ ?_<;>rintro⟨⟩);all_goals try (simp at e;done))
   refine aK ?_
   rcases X with ⟨hr,J,hk⟩|⟨w,b,hr,hon,hwl,X⟩
   ·obtain⟨g1,g2⟩:=Vu hr
    rw [g1] at g;rw [g2] at A
    have hend:∀(x:E) (σ:Ab) (nx:Nat),(∃l:IM,l.map (·.2)=(BJ s p al (BR s t p al k)).nx/\x=.a [.d (iD 0),.d (iD (BJ s p al (BR s t p al k)).al),.arr 0 1 0 l.length,.arr 1 1 0 (BJ s p al (BR s t p al k)).ac.length,.d (tD []),.d (iD ((k:Int)+1))]/\σ=[(0,.cells 64 1 (AA l)),(1,.cells 4 1 ((BJ s p al (BR s t p al k)).ac.map AT)),(2,.sld 3 (sI l))]/\nx=3)->OX (BG s t p) x σ nx:=λx σ nx h=>by rw [J];exact .inr h
    generalize OX (BG s t p)=Q at *;generalize BJ s p al (BR s t p al k)=a at *;(repeat first|refine tA rfl ?_ |refine s2 rfl λ_ e=>?_|(refine Ag rfl ?_;refine gA rfl ?_;first| refine gQ (A3.QV [(59,Br s),(60,Bj a),(61,Bj p)] ⟨⟨_,rfl,.AR rfl⟩,⟨_,rfl,Kg (k:=5) rfl rfl rfl G rfl rfl⟩,⟨_,rfl,.AR rfl⟩,trivial⟩ (λZ'=>Bu rfl rfl rfl g rfl) (FD _)) rfl ?_) |refine aU rfl ?_ |refine Aa ?_)
    ((refine aC rfl ?_ ?_<;>rintro⟨⟩);all_goals try (simp at e;done))
    (repeat first|refine tA rfl ?_ |refine s2 rfl λ_ e=>?_|(refine Ag rfl ?_;refine gA rfl ?_;first| refine gQ (A3.QV [(68,Br t),(69,Bj a)] ⟨⟨_,rfl,.AR rfl⟩,⟨_,rfl,Kg (k:=5) rfl rfl rfl G rfl rfl⟩,trivial⟩ (λZ'=>Bu rfl rfl rfl A rfl) (FD _)) rfl ?_) |refine aU rfl ?_ |refine Aa ?_)
    ((refine aC rfl ?_ ?_<;>rintro⟨⟩);all_goals try (simp at e;done))
    (repeat first|refine tA rfl ?_|(refine Ag rfl ?_;refine gA rfl ?_;first| refine gS (λ_ _=>AG rfl rfl (by rfl) (by rfl)) ?_) |refine aU rfl ?_ |refine Aa ?_);exact aR ⟨_,rfl,[3,4,5],.a [.d (iD 0),.d (iD a.al),.arr 0 1 0 l.length,.arr 1 1 0 a.ac.length,.d (tD []),.d (iD ((k:Int)+1))],[(0,.cells 64 1 (AA l)),(1,.cells 4 1 (a.ac.map AT)),(2,.sld 3 (sI l))],⟨λi hi=>absurd hi (kw i),by decide⟩,rfl,by (simp[cX,zC,f,cN,BU,Ae,eC]),hend _ _ _ ⟨l,G,rfl,rfl,rfl⟩⟩
   ·obtain⟨B,hoks⟩:=S w b hr
    have n:=QT (TB:=TB1) q al (BR s t p al k) hbd (Pp hI) hcl hx.o w hoks hon (by omega);have hpv:=Dz (TB:=TB1) [s,t] p
    rcases Vt hI hr with ⟨u,rfl,g1,g2,g3,g4⟩|⟨u,rfl,g0,g1,g2,g3,g4⟩
    ·have j:=N5 (TB:=TB1) (CQ u) al (by omega)
     rw [g2] at j;rw [g1] at g
     rcases X with ⟨hb,_⟩|⟨_,⟨y,F⟩|⟨y,P,hk,J⟩⟩
     ·cases hb
     ·rw [y] at n
      generalize BJ s p al (BR s t p al k)=a at *;(repeat first|refine tA rfl ?_ |refine s2 rfl λ_ e=>?_|(refine Ag rfl ?_;refine gA rfl ?_;first| refine gQ (A3.QV [(59,Br s),(60,Bj a),(61,Bj p)] ⟨⟨_,rfl,.AR rfl⟩,⟨_,rfl,Kg (k:=5) rfl rfl rfl G rfl rfl⟩,⟨_,rfl,.AR rfl⟩,trivial⟩ (λZ'=>Bu rfl rfl rfl g rfl) (FD _)) rfl ?_) |refine aU rfl ?_ |refine Aa ?_)
      ((refine aC rfl ?_ ?_<;>rintro⟨⟩);all_goals try (simp at e;done))
      refine aK ?_;(repeat first|refine tA rfl ?_ |refine s2 rfl λ_ e=>?_ |refine sP rfl (j) rfl ?_ |refine s3 rfl ?_ ?_<;>rintro rfl |refine aU rfl ?_ |refine Aa ?_)
      (repeat' first|refine tA rfl ?_ |refine Aa ?_|(refine aC rfl ?_ ?_<;>rintro⟨⟩));all_goals try contradiction
      refine aK ?_;(repeat first|(refine sA rfl ?_ ?_;first|exact tI|omega)|(refine Ag rfl ?_;refine gA rfl ?_;first| refine gS (λ_ _=>Bu rfl rfl (by simp [E.Cm,C.Cm,C.Ds,q.Cm]) (n) rfl) ?_) |refine aU rfl ?_ |refine Aa ?_);refine⟨⟨k+1,by omega,by omega⟩,by dsimp only;(omega),[0,1,2],?_⟩;simp[cX,zC,f,cN,z,F]
     ·rw [y] at n
      generalize BJ s p al (BR s t p al k)=a at *;(repeat first|refine tA rfl ?_ |refine s2 rfl λ_ e=>?_|(refine Ag rfl ?_;refine gA rfl ?_;first| refine gQ (A3.QV [(59,Br s),(60,Bj a),(61,Bj p)] ⟨⟨_,rfl,.AR rfl⟩,⟨_,rfl,Kg (k:=5) rfl rfl rfl G rfl rfl⟩,⟨_,rfl,.AR rfl⟩,trivial⟩ (λZ'=>Bu rfl rfl rfl g rfl) (FD _)) rfl ?_) |refine aU rfl ?_ |refine Aa ?_)
      ((refine aC rfl ?_ ?_<;>rintro⟨⟩);all_goals try (simp at e;done))
      refine aK ?_;(repeat first|refine tA rfl ?_ |refine s2 rfl λ_ e=>?_ |refine sP rfl (j) rfl ?_ |refine s3 rfl ?_ ?_<;>rintro rfl |refine aU rfl ?_ |refine Aa ?_)
      (repeat' first|refine tA rfl ?_ |refine Aa ?_|(refine aC rfl ?_ ?_<;>rintro⟨⟩));all_goals try contradiction
      refine aK ?_;(repeat first|(refine sA rfl ?_ ?_;first|exact tI|omega)|(refine Ag rfl ?_;refine gA rfl ?_;first| refine gS (λ_ _=>Bu rfl rfl (by simp [E.Cm,C.Cm,C.Ds,q.Cm]) (n) rfl) ?_) |refine aU rfl ?_ |refine Aa ?_);refine⟨⟨k+1,by omega,λ_=>J⟩,by dsimp only;(omega),[0,1,2],?_⟩;simp[cX,zC,f,cN,z,P,decide_eq_false (show ¬k+1 < (BN s t p al).length by omega)]
    ·have j:=N5 (TB:=TB1) (CQ u) al (by omega)
     rw [g2] at j;rw [g0] at g;rw [g1] at A
     rcases X with ⟨_,N,J,hk⟩|⟨hb,X⟩
     ·have I:=I _ J rfl
      generalize BJ s p al (BR s t p al k)=a at *;(repeat first|refine tA rfl ?_ |refine s2 rfl λ_ e=>?_|(refine Ag rfl ?_;refine gA rfl ?_;first| refine gQ (A3.QV [(59,Br s),(60,Bj a),(61,Bj p)] ⟨⟨_,rfl,.AR rfl⟩,⟨_,rfl,Kg (k:=5) rfl rfl rfl G rfl rfl⟩,⟨_,rfl,.AR rfl⟩,trivial⟩ (λZ'=>Bu rfl rfl rfl g rfl) (FD _)) rfl ?_) |refine aU rfl ?_ |refine Aa ?_)
      ((refine aC rfl ?_ ?_<;>rintro⟨⟩);all_goals try (simp at e;done))
      (repeat first|refine tA rfl ?_ |refine s2 rfl λ_ e=>?_|(refine Ag rfl ?_;refine gA rfl ?_;first| refine gQ (A3.QV [(68,Br t),(69,Bj a)] ⟨⟨_,rfl,.AR rfl⟩,⟨_,rfl,Kg (k:=5) rfl rfl rfl G rfl rfl⟩,trivial⟩ (λZ'=>Bu rfl rfl rfl A rfl) (FD _)) rfl ?_) |refine aU rfl ?_ |refine Aa ?_)
      ((refine aC rfl ?_ ?_<;>rintro⟨⟩);all_goals try (simp at e;done))
      refine aK ?_;(repeat first|refine tA rfl ?_ |refine s2 rfl λ_ e=>?_ |refine sP rfl (j) rfl ?_ |refine s3 rfl ?_ ?_<;>rintro rfl |refine aU rfl ?_ |refine Aa ?_)
      (repeat' first|refine tA rfl ?_ |refine s2 rfl λ_ e=>?_|(refine Ag rfl ?_;refine gA rfl ?_;first| refine gS (λ_ _=>q.iY N B rfl rfl) ?_) |refine aU rfl ?_ |refine Aa ?_|(refine aC rfl ?_ ?_<;>rintro⟨⟩));all_goals try contradiction
      (repeat first|refine tA rfl ?_ |refine sP rfl (hpv) rfl ?_|(refine Ag rfl ?_;refine gA rfl ?_;first| refine gS (λ_ _=>AG rfl rfl (by rfl) (by rfl)) ?_) |refine aU rfl ?_ |refine Aa ?_);exact aR ⟨_,rfl,[],fk ⟨1,IZ,ML (Bx [s,t] p),(k:Int)+1⟩,[],⟨λi hi=>absurd hi (kw i),lm⟩,rfl,by (simp[cX,zC,f,cN,BU,Ae,eC]),I⟩
     ·have N:LS ⟨s,p,al⟩ w=true:=by rcases hb with hb|hb;cases hb;exact hb
      rcases X with ⟨y,F⟩|⟨y,P,hk,J⟩
      ·rw [y] at n
       generalize BJ s p al (BR s t p al k)=a at *;(repeat first|refine tA rfl ?_ |refine s2 rfl λ_ e=>?_|(refine Ag rfl ?_;refine gA rfl ?_;first| refine gQ (A3.QV [(59,Br s),(60,Bj a),(61,Bj p)] ⟨⟨_,rfl,.AR rfl⟩,⟨_,rfl,Kg (k:=5) rfl rfl rfl G rfl rfl⟩,⟨_,rfl,.AR rfl⟩,trivial⟩ (λZ'=>Bu rfl rfl rfl g rfl) (FD _)) rfl ?_) |refine aU rfl ?_ |refine Aa ?_)
       ((refine aC rfl ?_ ?_<;>rintro⟨⟩);all_goals try (simp at e;done))
       (repeat first|refine tA rfl ?_ |refine s2 rfl λ_ e=>?_|(refine Ag rfl ?_;refine gA rfl ?_;first| refine gQ (A3.QV [(68,Br t),(69,Bj a)] ⟨⟨_,rfl,.AR rfl⟩,⟨_,rfl,Kg (k:=5) rfl rfl rfl G rfl rfl⟩,trivial⟩ (λZ'=>Bu rfl rfl rfl A rfl) (FD _)) rfl ?_) |refine aU rfl ?_ |refine Aa ?_)
       ((refine aC rfl ?_ ?_<;>rintro⟨⟩);all_goals try (simp at e;done))
       refine aK ?_;(repeat first|refine tA rfl ?_ |refine s2 rfl λ_ e=>?_ |refine sP rfl (j) rfl ?_ |refine s3 rfl ?_ ?_<;>rintro rfl |refine aU rfl ?_ |refine Aa ?_)
       (repeat' first|refine tA rfl ?_ |refine s2 rfl λ_ e=>?_|(refine Ag rfl ?_;refine gA rfl ?_;first| refine gS (λ_ _=>q.iY N B rfl rfl) ?_) |refine aU rfl ?_ |refine Aa ?_|(refine aC rfl ?_ ?_<;>rintro⟨⟩));all_goals try contradiction
       refine aK ?_;(repeat first|(refine sA rfl ?_ ?_;first|exact tI|omega)|(refine Ag rfl ?_;refine gA rfl ?_;first| refine gS (λ_ _=>Bu rfl rfl (by simp [E.Cm,C.Cm,C.Ds,q.Cm]) (n) rfl) ?_) |refine aU rfl ?_ |refine Aa ?_);refine⟨⟨k+1,by omega,by omega⟩,by dsimp only;(omega),[0,1,2],?_⟩;simp[cX,zC,f,cN,z,F]
      ·rw [y] at n
       generalize BJ s p al (BR s t p al k)=a at *;(repeat first|refine tA rfl ?_ |refine s2 rfl λ_ e=>?_|(refine Ag rfl ?_;refine gA rfl ?_;first| refine gQ (A3.QV [(59,Br s),(60,Bj a),(61,Bj p)] ⟨⟨_,rfl,.AR rfl⟩,⟨_,rfl,Kg (k:=5) rfl rfl rfl G rfl rfl⟩,⟨_,rfl,.AR rfl⟩,trivial⟩ (λZ'=>Bu rfl rfl rfl g rfl) (FD _)) rfl ?_) |refine aU rfl ?_ |refine Aa ?_)
       ((refine aC rfl ?_ ?_<;>rintro⟨⟩);all_goals try (simp at e;done))
       (repeat first|refine tA rfl ?_ |refine s2 rfl λ_ e=>?_|(refine Ag rfl ?_;refine gA rfl ?_;first| refine gQ (A3.QV [(68,Br t),(69,Bj a)] ⟨⟨_,rfl,.AR rfl⟩,⟨_,rfl,Kg (k:=5) rfl rfl rfl G rfl rfl⟩,trivial⟩ (λZ'=>Bu rfl rfl rfl A rfl) (FD _)) rfl ?_) |refine aU rfl ?_ |refine Aa ?_)
       ((refine aC rfl ?_ ?_<;>rintro⟨⟩);all_goals try (simp at e;done))
       refine aK ?_;(repeat first|refine tA rfl ?_ |refine s2 rfl λ_ e=>?_ |refine sP rfl (j) rfl ?_ |refine s3 rfl ?_ ?_<;>rintro rfl |refine aU rfl ?_ |refine Aa ?_)
       (repeat' first|refine tA rfl ?_ |refine s2 rfl λ_ e=>?_|(refine Ag rfl ?_;refine gA rfl ?_;first| refine gS (λ_ _=>q.iY N B rfl rfl) ?_) |refine aU rfl ?_ |refine Aa ?_|(refine aC rfl ?_ ?_<;>rintro⟨⟩));all_goals try contradiction
       refine aK ?_;(repeat first|(refine sA rfl ?_ ?_;first|exact tI|omega)|(refine Ag rfl ?_;refine gA rfl ?_;first| refine gS (λ_ _=>Bu rfl rfl (by simp [E.Cm,C.Cm,C.Ds,q.Cm]) (n) rfl) ?_) |refine aU rfl ?_ |refine Aa ?_);refine⟨⟨k+1,by omega,λ_=>J⟩,by dsimp only;(omega),[0,1,2],?_⟩;simp[cX,zC,f,cN,z,P,decide_eq_false (show ¬k+1 < (BN s t p al).length by omega)]
  ·obtain rfl:k=(BN s t p al).length:=by omega
   have J:=M rfl;simp only [decide_eq_false K];(repeat first|refine tA rfl ?_ |refine s2 rfl λ_ e=>?_ |refine aU rfl ?_ |refine Aa ?_)
   ((refine aC rfl ?_ ?_<;>rintro⟨⟩);all_goals try (simp at e;done))
   (repeat first|(refine sA rfl ?_ ?_;first|exact tI|omega)|(refine Ag rfl ?_;refine gA rfl ?_;first| refine gS (λ_ _=>AG rfl rfl (by rfl) (by rfl)) ?_) |refine aU rfl ?_ |refine Aa ?_);exact aR ⟨_,rfl,[],fk ⟨2,IZ,[],((BN s t p al).length:Int)+1 - 1⟩,[],⟨λi hi=>absurd hi (kw i),lm⟩,rfl,by (simp[cX,zC,f,cN,BU,Ae,eC]),by rw [Int.add_sub_cancel];exact I _ J rfl⟩
theorem VU{s t:Sys}{p:AY}(h:AZ s p t < 0)(b:s.es.length<=1048576):AQ Tryz.prog ⟨tabs,none⟩ 34 0 [] 0 [Br s,Br t,Bj p,.o (.d (.v .nilFunc))] (OX (BG s t p)):=by
 have c:=Kj (TB:=⟨tabs,none⟩) s p t b;unfold VQ at c;rw [if_pos h] at c;rw [OV h];refine AQ.Bi (AQ.Sc (m:=0) (am rfl) Tryz.func34 rfl (by kernel_rfl) (am rfl) ?_);intro Z a;(repeat first|refine tA rfl ?_ |refine s2 rfl λ_ e=>?_ |refine sP rfl (c) rfl ?_ |refine aU rfl ?_ |refine Aa ?_)
 ((refine aC rfl ?_ ?_<;>rintro⟨⟩);all_goals try (simp at e;done))
 (repeat first|refine tA rfl ?_|(refine Ag rfl ?_;refine gA rfl ?_;first| refine gS (λ_ _=>AG rfl rfl (by rfl) (by rfl)) ?_) |refine aU rfl ?_ |refine Aa ?_);exact aR ⟨_,rfl,[],fk ⟨3,IZ,[],0⟩,[],⟨λi hi=>absurd hi (kw i),lm⟩,rfl,by (simp[cX,zC,a,cN,BU,Ae,eC]),.inl ⟨rfl,rfl,rfl,rfl⟩⟩
theorem KE(s t:Sys)(p:AY)(c:s.es.length<=1048576):AQ Tryz.prog ⟨tabs,none⟩ 13 0 [] 0 [Br s,Br t,Bj p] (OX (BG s t p)):=by
 have j:AQ Tryz.prog ⟨tabs,none⟩ 34 0 [] 0 [Br s,Br t,Bj p,.o (.d (.v .nilFunc))] (OX (BG s t p)):=by
  by_cases h:AZ s p t < 0
  ·exact VU h c
  ·exact XP (FO h) c
 generalize BG s t p=v at *;refine AQ.Bi (AQ.Sc (m:=0) (am rfl) Tryz.func13 rfl (by kernel_rfl) (am rfl) ?_);intro Z b;(repeat first|refine tA rfl ?_ |refine aU rfl ?_ |refine Aa ?_);(refine pW rfl ?_ rfl (by rfl);refine Ck [] rfl rfl 0 j (by decide) ⟨rfl,by decide,by decide⟩ rfl trivial ?_;rintro k e f (⟨ha,rfl,rfl,rfl⟩|⟨l,g,rfl,rfl,rfl⟩) _)
 ·(repeat first|refine tA rfl ?_ |refine Aa ?_)
  exact aR ⟨_,rfl,[],fk v,[],⟨λi hi=>absurd hi (kw i),lm⟩,rfl,by (simp[cX,zC,b,cN,BU,Ae,eC]),.inl ⟨ha,rfl,rfl,rfl⟩⟩
 ·(repeat first|refine tA rfl ?_ |refine Aa ?_)
  exact aR ⟨_,rfl,[1,2,3],.a [.d (iD v.code),.d (iD v.a.al),.arr 0 1 0 l.length,.arr 1 1 0 v.a.ac.length,.d (tD v.tr),.d (iD v.rd)],[(0,.cells 64 1 (AA l)),(1,.cells 4 1 (v.a.ac.map AT)),(2,.sld 3 (sI l))],⟨λi hi=>absurd hi (kw i),by decide⟩,rfl,by (simp[cX,zC,b,cN,BU,Ae,eC]),.inr ⟨l,g,rfl,rfl,rfl⟩⟩
theorem YH(s t:Sys)(p:AY)(b:s.es.length<=1048576):Pure Tryz.prog ⟨tabs,none⟩ 13 [Br s,Br t,Bj p] (fk (BG s t p)):=by
 refine(KE s t p b).toPure λx σ nx c=>?_;generalize BG s t p=v at *
 rcases c with ⟨_,rfl,rfl,rfl⟩|⟨l,e,rfl,rfl,rfl⟩
 ·exact⟨[],.inl (.AR rfl)⟩
 ·refine⟨[0,1,2],.inl (.a (ds:=My v) (.cons .d (.cons .d (.cons ?_ (.cons (.full rfl (by simp [d5]) (by simp)) (.cons .d (.cons .d .nil)))))))⟩
  rw [<-e];exact .Ni (s:=2) rfl rfl
end
end Go.Am
namespace Go.Am
open Go Go.Proofs
set_option maxHeartbeats 1000000
set_option maxRecDepth 4000
attribute [local irreducible] A3 Cp Lex Bl Aj Spec
variable {TB:BC}[Dc TB]
noncomputable def KM(s t:Sys)(p:AY)(al:Int):Nat->AY
 | 0=>IZ
 | k+1=>BJ s p al (BR s t p al k)
abbrev kZ(v:Vd)(a:AY):E:=.t [(true,(My v).map .d),(true,(AP a).map .d)]
noncomputable def Ro(s t:Sys)(p:AY)(al:Int)(R:Int):Vd:=if ((BN s t p al).length:Int)<=R then BG s t p else ⟨2,IZ,[],(R.toNat:Int)⟩
theorem ZX{s t:Sys}{p:AY}(h:AZ s p t < 0)(a:s.es.length<=1048576)(R:Int):Pure Tryz.prog TB 35 [Br s,Br t,Bj p,eI .i64 R] (kZ ⟨3,IZ,[],0⟩ IZ):=by
 have b:=Jy (TB:=TB) s p t a;unfold VQ at b;rw [if_pos h] at b;refine eG Tryz.func35 rfl (by kernel_rfl) rfl ?_;intro Z d;(repeat first|refine tA rfl ?_ |refine s2 rfl λ_ c=>?_ |refine sP rfl (b) rfl ?_ |refine aU rfl ?_ |refine Aa ?_)
 ((refine aC rfl ?_ ?_<;>rintro⟨⟩);all_goals try (simp at c;done))
 (repeat first|refine tA rfl ?_|(refine Ag rfl ?_;refine gA rfl ?_;first| refine gS (λ_ _=>AG rfl rfl (by rfl) (by rfl)) ?_) |refine aU rfl ?_ |refine Aa ?_);(subst_vars;exact aR ⟨_,rfl,rfl⟩)
theorem ZY{s t:Sys}{p:AY}{al:Int}(hI:Fe s p t al)(Y:s.es.length<=1048576)(R:Int):Pure Tryz.prog TB 35 [Br s,Br t,Bj p,eI .i64 R] (kZ (Ro s t p al R) (KM s t p al (min (BN s t p al).length R.toNat))):=by
 have h1:=Jy (TB:=TB) s p t Y;unfold VQ at h1;rw [if_neg (RK hI),<-hI.hal] at h1;have h2:=bf (TB:=TB) s p al;rw [eY (t:=t) hI] at h2;obtain⟨U,T⟩:=ID hI
 obtain⟨n,hn⟩:∃n,n=(BN s t p al).length:=⟨_,rfl⟩
 rw [<-hn] at U T |-
 obtain⟨V,j⟩:∃V,V=Ro s t p al R:=⟨_,rfl⟩
 obtain⟨A,m⟩:∃A,A=KM s t p al (min n R.toNat):=⟨_,rfl⟩
 rw [<-j,<-m];refine eG Tryz.func35 rfl (by kernel_rfl) rfl ?_;intro Z e;(repeat first|refine tA rfl ?_ |refine s2 rfl λ_ c=>?_ |refine sP rfl (h1) rfl ?_ |refine aU rfl ?_ |refine Aa ?_)
 ((refine aC rfl ?_ ?_<;>rintro⟨⟩);all_goals try (simp at c;done))
 refine aK ?_;(repeat first|refine tA rfl ?_ |refine sP rfl (h2) rfl ?_|(refine Ag rfl ?_;refine gA rfl ?_;first| refine gS (λ_ _=>AG rfl rfl (by rfl) (by rfl)) ?_) |refine aU rfl ?_ |refine Aa ?_);refine Aj.AF [2,3] [(3,eI .i64 R),(4,.o (.ip (AL s))),(5,.o (.ip (AL t))),(6,.o (.ip (AP p))),(8,.o (.ptr 0 6 0 0)),(9,.o (.ptr 1 3 0 0)),(10,.o (.ip (Mt ⟨s,p,al⟩))),(12,.o (.ip (fc false IZ s p al))),(13,.o (.ptr 4 2 0 0)),(14,eB true),(15,.o (.ptr 5 6 0 0)),(16,.o (.ptr 6 3 0 0))] ⟨⟨_,rfl,.inl rfl⟩,⟨_,rfl,.inl rfl⟩,⟨_,rfl,.inl rfl⟩,⟨_,rfl,.inl rfl⟩,⟨_,rfl,.inl rfl⟩,⟨_,rfl,.inl rfl⟩,⟨_,rfl,.inr (.o (.box rfl (Gd.refl (Mt ⟨s,p,al⟩))))⟩,⟨_,rfl,.inr (.o (.box rfl (Gd.refl (fc false IZ s p al))))⟩,⟨_,rfl,.inl rfl⟩,⟨_,rfl,.inl rfl⟩,⟨_,rfl,.inl rfl⟩,⟨_,rfl,.inl rfl⟩,trivial⟩ ?_;refine Aj.Ay [3,4,5,6,10,12] [0,1] rfl rfl [(8,.o (.ptr 0 6 0 0)),(9,.o (.ptr 1 3 0 0)),(13,.o (.ptr 2 2 0 0)),(14,eB true),(15,.o (.ptr 3 6 0 0)),(16,.o (.ptr 4 3 0 0))] [(2,.cells 98 2 [[.d (BZ (BR s t p al 0).rows),.d (BZ (BR s t p al 0).cols)]]),(3,.cells 33 6 [[.d (iD 2),.d (iD 0),.d (.l []),.d (.l []),.d (tD []),.d (iD 0)]]),(4,.cells 29 3 [[.d (iD 0),.d (.l []),.d (.l [])]])] [0,1,4,5,6] (rl e rfl) (by (simp[cX,zC,e,cN,BU,Ae,eC])) ?_;(try dsimp only[cA,cB]);refine aB ?_;refine aL (α:={k:Nat // k<=n/\k<=R.toNat/\(k=n->BG s t p=⟨2,IZ,[],(k:Int)⟩)}) [3,4,5,6,8,9,10,12,13,15,16] [0,1] rfl rfl (λ⟨k,u,x,i⟩=>[(14,eB (decide (k < n)))]) (λ⟨k,u,x,i⟩=>[(2,.cells 98 2 [[.d (BZ (BR s t p al k).rows),.d (BZ (BR s t p al k).cols)]]),(3,.cells 33 6 [[.d (iD 2),.d (iD 0),.d (.l []),.d (.l []),.d (tD []),.d (iD k)]]),(4,.cells 29 3 [[.d (iD (KM s t p al k).al),.d (C4 (KM s t p al k).nx),.d (Ff (KM s t p al k).ac)]])]) 5 (λ⟨k,u,x,i⟩=>n - k) (⟨0,by omega,by omega,by omega⟩) e rfl (by (simp[cX,zC,e,cN,KM,IZ,decide_eq_true (show 0 < n by omega)])) ?_;rintro⟨k,u,x,i⟩;(try dsimp only[cA,cB]);by_cases H:k < n
 ·simp only [decide_eq_true H]
  by_cases hR:(k:Int) < R
  ·obtain⟨K,J⟩:=Vx hI (k:=k) (by omega)
   have B:VZ (BR s t p al k):=by obtain⟨_,_,_,P,_⟩:=C5 K.v;exact P.sz
   have f:=bg (TB:=TB) s p al (BR s t p al k) B;rw [bZ hI K] at f;obtain⟨hao,_⟩:=Hu hI K;have g:KM s t p al (k+1)=BJ s p al (BR s t p al k):=rfl
   have I:k+1=(BN s t p al).length->Ro s t p al R=BG s t p/\min n R.toNat=k+1:=λh=>⟨by unfold Ro;rw [if_pos (by omega)],by omega⟩
   rcases J with ⟨Q,z,hk⟩|⟨w,b,Q,G,q,J⟩
   ·have y:=UL (TB:=TB) hI Q
    obtain⟨M,L⟩:=I hk
    have eV:V=⟨0,BJ s p al (BR s t p al k),[],(k:Int)+1⟩:=by rw [j,M,z]
    have eA:A=BJ s p al (BR s t p al k):=by rw [m,L,g]
    clear j m;subst eV eA;have hcp:=JJ (TB:=TB) (BJ s p al (BR s t p al k)) (O4 hao);generalize BJ s p al (BR s t p al k)=a at *;generalize KM s t p al k=la;generalize BR s t p al k=tb at *;(repeat first|refine tA rfl ?_ |refine s2 rfl λ_ c=>?_ |refine aU rfl ?_ |refine Aa ?_)
    ((refine aC rfl ?_ ?_<;>rintro⟨⟩);(all_goals try (simp at c;done));(all_goals try(exfalso;(simp only[oZ] at *;omega))))
    refine aK ?_;refine aB ?_;(repeat first|(refine sA rfl ?_ ?_;first|exact tI|omega) |refine sP rfl (f) rfl ?_|refine sP rfl (y) rfl ?_ |refine aU rfl ?_ |refine Aa ?_);refine aB ?_;(repeat first|refine tA rfl ?_ |refine s2 rfl λ_ c=>?_ |refine aU rfl ?_ |refine Aa ?_)
    ((refine aC rfl ?_ ?_<;>rintro⟨⟩);(all_goals try (simp at c;done));(all_goals try(exfalso;omega)))
    (repeat first|refine tX rfl ?_ |refine aU rfl ?_ |refine Aa ?_);(refine pW rfl ?_ rfl (by rfl);refine Ck [] rfl rfl 0 (hcp) (by decide) ⟨rfl,by decide,by decide⟩ rfl (by simp[cX,zC,e,cN]) ?_;rintro x0 σ1 nx1 ⟨l,hl,rfl,rfl,rfl⟩ _);(repeat first|refine tX rfl ?_ |refine aU rfl ?_ |refine Aa ?_);refine Aj.Ay [3,4,5,6,10,12] [0,1] rfl rfl [(8,.o (.ptr 0 6 0 0)),(9,.o (.ptr 1 3 0 0)),(15,.o (.ptr 2 6 0 0)),(16,.o (.ptr 3 3 0 0))] [(2,.cells 33 6 [[.d (iD 0),.d (iD a.al),.arr 4 1 0 l.length,.arr 5 1 0 a.ac.length,.d (tD []),.d (iD ((k:Int)+1))]]),(3,.cells 29 3 [[.d (iD a.al),.d (C4 a.nx),.d (Ff a.ac)]]),(4,.cells 64 1 (AA l)),(5,.cells 4 1 (a.ac.map AT)),(6,.sld 3 (sI l))] [0,1,3,4,6,7,8] (rl e rfl) (by (simp[cX,zC,e,cN,BU,Ae,eC])) ?_;(try dsimp only[cA,cB]);refine Aj.AF [2,3,4,5,6] [(8,.o (.ptr 0 6 0 0)),(9,.o (.ptr 1 3 0 0)),(15,.o (.ip (My ⟨0,⟨a.al,l.map (·.2),a.ac⟩,[],(k:Int)+1⟩))),(16,.o (.ip (AP a)))] ⟨⟨_,rfl,.inl rfl⟩,⟨_,rfl,.inl rfl⟩,⟨_,rfl,.inr (.o (.box rfl (.cons .d (.cons .d (.cons (.Ni (s:=6) rfl rfl) (.cons (.full rfl (by simp [d5]) (by simp)) (.cons .d (.cons .d .nil))))))))⟩,⟨_,rfl,.inr (.o (.box rfl (Gd.refl (AP a))))⟩,trivial⟩ ?_;rw [hl];refine rG (Kh [(2,1),(3,1)]) (by kernel_rfl) ?_;(repeat first|refine tA rfl ?_ |refine Aa ?_);(subst_vars;exact aR ⟨_,rfl,rfl⟩)
   ·have y:=UM (TB:=TB) hI Q G q
    have S:=Fk (TB:=TB) [s,t] p;have r:=XE (TB:=TB) s p al (BR s t p al k) B w q;rw [Zr hI K G q] at r
    rcases J with ⟨rfl,hb0,z,hk⟩|⟨hb,J⟩
    ·rw [hb0,qR,if_neg pE] at y
     obtain⟨M,L⟩:=I hk
     have eV:V=⟨1,IZ,ML (Bx [s,t] p),(k:Int)+1⟩:=by rw [j,M,z]
     have eA:A=BJ s p al (BR s t p al k):=by rw [m,L,g]
     clear j m;subst eV eA;generalize BJ s p al (BR s t p al k)=a at *;generalize KM s t p al k=la;generalize BR s t p al k=tb at *;(repeat first|refine tA rfl ?_ |refine s2 rfl λ_ c=>?_ |refine aU rfl ?_ |refine Aa ?_)
     ((refine aC rfl ?_ ?_<;>rintro⟨⟩);(all_goals try (simp at c;done));(all_goals try(exfalso;(simp only[oZ] at *;omega))))
     refine aK ?_;refine aB ?_;(repeat first|(refine sA rfl ?_ ?_;first|exact tI|omega) |refine sP rfl (f) rfl ?_|refine sP rfl (y) rfl ?_ |refine aU rfl ?_ |refine Aa ?_);refine aB ?_;(repeat first|refine tA rfl ?_ |refine s2 rfl λ_ c=>?_ |refine aU rfl ?_ |refine Aa ?_)
     ((refine aC rfl ?_ ?_<;>rintro⟨⟩);(all_goals try (simp at c;done));(all_goals try(exfalso;omega)))
     (repeat first|refine tA rfl ?_ |refine s2 rfl λ_ c=>?_ |refine aU rfl ?_ |refine Aa ?_)
     ((refine aC rfl ?_ ?_<;>rintro⟨⟩);(all_goals try (simp at c;done));(all_goals try(exfalso;omega)))
     (repeat first|refine tA rfl ?_ |refine sP rfl (S) rfl ?_ |refine aU rfl ?_ |refine Aa ?_);refine Aj.Ay [3,4,5,6,10,12] [0,1] rfl rfl [(8,.o (.ptr 0 6 0 0)),(9,.o (.ptr 1 3 0 0)),(15,.o (.ptr 2 6 0 0)),(16,.o (.ptr 3 3 0 0))] [(2,.cells 33 6 [[.d (iD 1),.d (iD 0),.d (.l []),.d (.l []),.d (tD (ML (Bx [s,t] p))),.d (iD ((k:Int)+1))]]),(3,.cells 29 3 [[.d (iD a.al),.d (C4 a.nx),.d (Ff a.ac)]])] [0,1,3,4] (rl e rfl) (by (simp[cX,zC,e,cN,BU,Ae,eC])) ?_;(try dsimp only[cA,cB]);refine Aj.AF [2,3] [(8,.o (.ptr 0 6 0 0)),(9,.o (.ptr 1 3 0 0)),(15,.o (.ip (My ⟨1,IZ,ML (Bx [s,t] p),(k:Int)+1⟩))),(16,.o (.ip (AP a)))] ⟨⟨_,rfl,.inl rfl⟩,⟨_,rfl,.inl rfl⟩,⟨_,rfl,.inr (.o (.box rfl (Gd.refl (My ⟨1,IZ,ML (Bx [s,t] p),(k:Int)+1⟩))))⟩,⟨_,rfl,.inr (.o (.box rfl (Gd.refl (AP a))))⟩,trivial⟩ ?_;refine rG (Kh [(2,1),(3,1)]) (by kernel_rfl) ?_;(repeat first|refine tA rfl ?_ |refine Aa ?_);(subst_vars;exact aR ⟨_,rfl,rfl⟩)
    ·rw [if_pos (by rcases hb with h|h<;>simp [h])] at y
     rcases J with ⟨F,hlt2⟩|⟨F,N,hk,z⟩
     all_goals
      rw [F] at r
      have X:(k:Int)+1=((k+1:Nat):Int):=by omega
      generalize BJ s p al (BR s t p al k)=a at *;generalize KM s t p al k=la;generalize BR s t p al k=tb at *;(repeat first|refine tA rfl ?_ |refine s2 rfl λ_ c=>?_ |refine aU rfl ?_ |refine Aa ?_)
      ((refine aC rfl ?_ ?_<;>rintro⟨⟩);(all_goals try (simp at c;done));(all_goals try(exfalso;(simp only[oZ] at *;omega))))
      refine aK ?_;refine aB ?_;(repeat first|(refine sA rfl ?_ ?_;first|exact tI|omega) |refine sP rfl (f) rfl ?_|refine sP rfl (y) rfl ?_ |refine aU rfl ?_ |refine Aa ?_);refine aB ?_;(repeat first|refine tA rfl ?_ |refine s2 rfl λ_ c=>?_ |refine aU rfl ?_ |refine Aa ?_)
      ((refine aC rfl ?_ ?_<;>rintro⟨⟩);(all_goals try (simp at c;done));(all_goals try(exfalso;omega)))
      (repeat first|refine tA rfl ?_ |refine s2 rfl λ_ c=>?_ |refine aU rfl ?_ |refine Aa ?_)
      ((refine aC rfl ?_ ?_<;>rintro⟨⟩);(all_goals try (simp at c;done));(all_goals try(exfalso;omega)))
      refine aK ?_;(repeat first|refine tA rfl ?_ |refine sP rfl (r) rfl ?_ |refine aU rfl ?_ |refine Aa ?_)
     ·refine⟨⟨k+1,by omega,by omega,by omega⟩,by dsimp only;(omega),[0,1,2,3,4],?_⟩
      simp[cX,zC,e,cN,g,decide_eq_true (show k+1 < n by omega)]
     ·refine⟨⟨k+1,by omega,by omega,λ_=>by rw [z,X]⟩,by dsimp only;(omega),[0,1,2,3,4],?_⟩
      simp[cX,zC,e,cN,g,N,decide_eq_false (show ¬k+1 < n by omega)]
  ·have hk:k=R.toNat:=by omega
   have e1:Ro s t p al R=⟨2,IZ,[],(k:Int)⟩:=by unfold Ro;rw [if_neg (by omega),hk]
   have e2:min n R.toNat=k:=by omega
   have eV:V=⟨2,IZ,[],(k:Int)⟩:=by rw [j,e1]
   have eA:A=KM s t p al k:=by rw [m,e2]
   clear j m;subst eV eA;generalize KM s t p al k=la;generalize BR s t p al k=tb;(repeat first|refine tA rfl ?_ |refine s2 rfl λ_ c=>?_ |refine aU rfl ?_ |refine Aa ?_)
   ((refine aC rfl ?_ ?_<;>rintro⟨⟩);(all_goals try (simp at c;done));(all_goals try(exfalso;(simp only[oZ] at *;omega))))
   refine aE ?_;(repeat first|refine aU rfl ?_);refine Aj.AF [3,4] [(8,.o (.ptr 0 6 0 0)),(9,.o (.ptr 1 3 0 0)),(15,.o (.ip (My ⟨2,IZ,[],(k:Int)⟩))),(16,.o (.ip (AP la)))] ⟨⟨_,rfl,.inl rfl⟩,⟨_,rfl,.inl rfl⟩,⟨_,rfl,.inr (.o (.box rfl (Gd.refl (My ⟨2,IZ,[],(k:Int)⟩))))⟩,⟨_,rfl,.inr (.o (.box rfl (Gd.refl (AP la))))⟩,trivial⟩ ?_;refine rG (Kh [(2,1),(3,1)]) (by kernel_rfl) ?_;(repeat first|refine tA rfl ?_ |refine Aa ?_);(subst_vars;exact aR ⟨_,rfl,rfl⟩)
 ·obtain rfl:k=n:=by omega
  have e1:Ro s t p al R=⟨2,IZ,[],(k:Int)⟩:=by unfold Ro;rw [if_pos (by omega)];exact i rfl
  have e2:min k R.toNat=k:=by omega
  simp only [decide_eq_false H]
  have eV:V=⟨2,IZ,[],(k:Int)⟩:=by rw [j,e1]
  have eA:A=KM s t p al k:=by rw [m,e2]
  clear j m;subst eV eA;generalize KM s t p al k=la;generalize BR s t p al k=tb;(repeat first|refine tA rfl ?_ |refine aU rfl ?_ |refine Aa ?_)
  ((refine aC rfl ?_ ?_<;>rintro⟨⟩);all_goals try (simp at c;done))
  refine aE ?_;(repeat first|refine aU rfl ?_);refine Aj.AF [3,4] [(8,.o (.ptr 0 6 0 0)),(9,.o (.ptr 1 3 0 0)),(15,.o (.ip (My ⟨2,IZ,[],(k:Int)⟩))),(16,.o (.ip (AP la)))] ⟨⟨_,rfl,.inl rfl⟩,⟨_,rfl,.inl rfl⟩,⟨_,rfl,.inr (.o (.box rfl (Gd.refl (My ⟨2,IZ,[],(k:Int)⟩))))⟩,⟨_,rfl,.inr (.o (.box rfl (Gd.refl (AP la))))⟩,trivial⟩ ?_;refine rG (Kh [(2,1),(3,1)]) (by kernel_rfl) ?_;(repeat first|refine tA rfl ?_ |refine Aa ?_);(subst_vars;exact aR ⟨_,rfl,rfl⟩)
theorem Zo(s t:Sys)(p:AY)(a:s.es.length<=1048576):Pure Tryz.prog TB 15 [Br s,Br t,Bj p] (fk (BG s t p)):=by
 by_cases h:AZ s p t < 0
 ·have b:=ZX (TB:=TB) h a 12
  rw [OV h];refine eG Tryz.func15 rfl (by kernel_rfl) rfl ?_;intro Z c;(repeat first|refine tA rfl ?_ |refine sP rfl (b) rfl ?_ |refine aU rfl ?_ |refine Aa ?_);(subst_vars;exact aR ⟨_,rfl,rfl⟩)
 ·have hI:=FO h
  have b:=ZY (TB:=TB) hI a 12
  have d:Ro s t p (AZ s p t) 12=BG s t p:=by
   unfold Ro;rw [if_pos (by have:=ID hI;omega)]
  rw [d] at b;generalize KM s t p (AZ s p t) _=la at b;generalize BG s t p=v at *;refine eG Tryz.func15 rfl (by kernel_rfl) rfl ?_;intro Z c;(repeat first|refine tA rfl ?_ |refine sP rfl (b) rfl ?_ |refine aU rfl ?_ |refine Aa ?_);(subst_vars;exact aR ⟨_,rfl,rfl⟩)
end Go.Am
