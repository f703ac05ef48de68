/-
  The program's verification: walked.
-/
import Derived.Test.YtbfgijpfhgmepaaGreatDoorPart25
import Derived.Test.YtbfgijpfhgmepaaGreatDoorPart26
import Derived.Test.YtbfgijpfhgmepaaGreatDoorPart27
import Derived.Test.YtbfgijpfhgmepaaGreatDoorPart19
import Derived.Test.YtbfgijpfhgmepaaGreatDoorPart17
import Derived.Test.YtbfgijpfhgmepaaGreatDoorPart20
import Derived.Test.YtbfgijpfhgmepaaGreatDoorPart18
import Derived.Test.YtbfgijpfhgmepaaGreatDoorPart23
import Derived.Test.YtbfgijpfhgmepaaGreatDoorRows
import Derived.JoinedCond
import Derived.KernelRfl
set_option linter.constructorNameAsVariable false
set_option linter.unusedSectionVars false
set_option linter.unusedSimpArgs false
set_option linter.unusedVariables false
namespace Go.Am
open Go Go.Proofs
set_option maxHeartbeats 1000000
attribute [local irreducible] AX Cb Lex Bh Aj Spec
theorem JK.gR{P:Program}{TB:Bz}{c:C}{L:W->Bool}{ok:W->Prop}(h:JK P TB c L ok){w:W}{b:Bool}(hb:L w=b)(i:ok w){Z:Ctx}{d:Option Tmp}{ty:TypeId}{pos:String}{af:Array Edge}{g:Option (Nat×Bool)}{f:Env}{σ:Ab}{nx:Nat}{x a:Operand}{tys:Array TypeId}
 (e:ev f x=some (.o c)) (ha:ev f a=some (eT w)):AX P TB Z ⟨d,.call ⟨.value x,#[a],tys⟩,ty,pos,af,g⟩ f σ nx (eB b):=hb ▸ h.ask e ha i
theorem jJ{m:Nat}{L:W->Bool}{ok:W->Prop}{X:Bz->Ctx->C->Prop}{Y:Prop}(h:∀(TB1:Bz) (Z1:Ctx) (a:C),Z1.V.nx=m->Dt TB1->JK Tryz.prog TB1 a L ok->X TB1 Z1 a)
 (hk:(∀(TB1:Bz) (Z1:Ctx) (a:C),Z1.V.nx=m->Dt TB1->JK Tryz.prog TB1 a L ok->X TB1 Z1 a)->Y):Y:=hk h
theorem Un{tabs:List (Nat×Obj)}[g:Dt ⟨tabs,none⟩]{te:EF}{ok:W->Prop}(c:te.kn=false)(b:CT te=true)(a:∀w,ok w->jt (Bb te) w)(f:SU te ok) :
 ∃(t:CK) (m:Hh),MX t ok m/\AR Tryz.prog ⟨tabs,none⟩ 59 0 [] 0 [EE te] (λx σ nx=>x=.t [(true,[.d (iD (Bb te)),Nt (.ptr 0 14 0 0)]),(false,[.d (bD true)])]/\σ=NQ t m/\nx=5)/\
  ∀r,JK Tryz.prog ⟨tabs,some (PC t ok,r)⟩ (Nt (Pe r)) (CD te) ok/\Dt ⟨tabs,some (PC t ok,r)⟩:=by
 obtain⟨kn,p,s,q,al⟩:=te;obtain rfl:kn=false:=c;have ht:Bc ⟨s,q,al⟩=true:=b;obtain⟨m,e,hno⟩:=Qh (TB:=⟨tabs,none⟩) p ht ok;exact⟨⟨s,q,al⟩,m,e,hno,λr=>⟨lE ht a (f rfl),jd g⟩⟩
def Om(v:Vd)(x:E)(σ:Ab)(nx:Nat):Prop:=
 (v.a=IK/\x=dP v/\σ=[]/\nx=0)\/
 (∃l:Iy,l.map (·.2)=v.a.nx/\x=.a [.d (iD v.code),.d (iD v.a.al),.arr 0 1 0 l.length,.arr 1 1 0 v.a.ac.length,.d (tD v.tr),.d (iD v.rd)]/\σ=[(0,.cells 62 1 (AA l)),(1,.cells 4 1 (v.a.ac.map AS)),(2,.sld 3 (sI l))]/\nx=3)
section
variable {tabs:List (Nat×Obj)}[hTb:Dt ⟨tabs,none⟩]
include hTb
theorem W0{s t:Sys}{p:AZ}{al:Int}(hI:EY s p t al)(hes:s.es.length<=1048576):AR Tryz.prog ⟨tabs,none⟩ 32 0 [] 0 [Bv s,Bv t,Bi p,.o (.d (.v .nilFunc))] (Om (Cp s t p)):=by
 have h1:=JW (TB:=⟨tabs,none⟩) s p t hes;unfold UZ at h1;rw [if_neg (TT hI),<-hI.hal] at h1;obtain⟨ok,hs0,hf,hgr,hrun⟩:=dZ hI (Ge hI)
 let te:EF:=Ew s p al
 have H:te.kn=false:=rfl;have hok:CT te=true:=dJ hI
 have hsub:∀w,ok w->jt (Bb te) w:=λw hw=>by rw [Ft];exact hs0 w hw
 have hf:SU te ok:=hf;obtain⟨hl1,hl2⟩:=JD hI;have h0:=dD (t:=t) hI;unfold Sm at h0;rw [if_pos (dJ hI),Ny,Ft] at h0;refine AR.Be (AR.QY (m:=0) (am rfl) Tryz.func32 rfl (by kernel_rfl) (am rfl) ?_);intro Z f;(repeat first|refine tA rfl ?_ |refine s2 rfl λ_ e=>?_ |refine sP rfl (h1) rfl ?_ |refine aU rfl ?_ |refine Aa ?_)
 ((refine aC rfl ?_ ?_<;>rintro⟨⟩);all_goals try (simp at e;done))
 refine aK ?_;refine Aj.AE [1] [(3,.o (.d (.v .nilFunc))),(4,.o (.ip (AI s))),(5,.o (.ip (AI t))),(6,.o (.ip (AL p))),(8,.o (.ptr 0 6 0 0)),(9,.o (.ip (LK ⟨s,p,al⟩)))] ⟨⟨_,rfl,.inl rfl⟩,⟨_,rfl,.inl rfl⟩,⟨_,rfl,.inl rfl⟩,⟨_,rfl,.inl rfl⟩,⟨_,rfl,.inl rfl⟩,⟨_,rfl,.inr (.o (.box rfl (Fe.refl (LK ⟨s,p,al⟩))))⟩,trivial⟩ ?_;refine Aj.Ay [3,4,5,6,8,9] [0] rfl rfl [] [] [0] (rl f rfl) (by (simp[cX,zC,f,cN])) ?_;(try dsimp only[cA,cB]);(repeat first|refine tA rfl ?_|(refine Ag rfl ?_;refine gA rfl ?_;first| refine gS (λ_ _=>AF rfl rfl (by rfl) (by rfl)) ?_) |refine aU rfl ?_)
 apply jJ (m:=0) (L:=CD te) (ok:=ok);case hk=>(intro hk;obtain⟨tk,mk,hm,hno,q⟩:=Un (tabs:=tabs) H hok hsub hf;((refine pW rfl ?_ rfl (by rfl);refine Ci [] rfl rfl 0 (hno) (by decide) ⟨rfl,by decide,by decide⟩ rfl (by simp[cX,zC,f,A3]) ?_;rintro x0 σ1 nx1 ⟨rfl,rfl,rfl⟩ _);(repeat first|refine tA rfl ?_);refine Aa ?_;refine Aj.lJ (PC tk ok) ⟨mk,hm⟩ 1 [2,3,4,5] (λr=>[(3,.o (.d (.v .nilFunc))),(4,.o (.ip (AI s))),(5,.o (.ip (AI t))),(6,.o (.ip (AL p))),(9,.o (.ip (LK ⟨s,p,al⟩))),(8,.o (.ptr 0 6 0 0)),(11,.o (.ptr 6 2 0 0))]) (λr=>[(0,.cells 35 6 [[.d (iD 0),.d (iD 0),.d (.l []),.d (.l []),.d (tD []),.d (iD 0)]]),(6,.cells 92 2 [[.d (iD (Bb te)),Nt (Pe r)]])]) (by decide) rfl (by ((repeat' first|exact tI|rfl|refine And.intro ?_ ?_)<;>(simp[cX,zC,f,A3]<;>rfl))) ⟨_,_,_,_,rfl⟩ (λr=>by repeat' first|exact tI|refine And.intro ⟨_,rfl,.AQ⟩ ?_) (λr=>by repeat' first|exact tI|refine And.intro ⟨by decide,.inl rfl⟩ ?_|refine And.intro ⟨by decide,.inr ⟨_,_,_,_,rfl,rfl,.cons .AQ (.cons .mv .nil)⟩⟩ ?_) λr Z' Y=>?_;have f:Z'.V.nx=0:=(by rw [Y];exact f);refine Aj.Ay [3,4,5,6,9] [] rfl rfl [(8,.o (.ptr 0 6 0 0)),(11,.o (.ptr 1 2 0 0))] [(0,.cells 35 6 [[.d (iD 0),.d (iD 0),.d (.l []),.d (.l []),.d (tD []),.d (iD 0)]]),(1,.cells 92 2 [[.d (iD (Bb te)),Nt (Pe r)]])] [0,6] (rl f rfl) (by (simp[cX,zC,f])) ?_;(try dsimp only[cA,cB]);have U:=q r;obtain⟨TB0,hTB0⟩:∃T,T=(⟨tabs,some (PC tk ok,r)⟩:Bz):=⟨_,rfl⟩;obtain⟨c0,hc0⟩:∃c,c=Nt (Pe r):=⟨_,rfl⟩;rw [<-hTB0,<-hc0] at U |-;exact hk TB0 Z' c0 f U.2 U.1))
 case h =>
  intro TB1 Z1 c1 f hTb1 q
  have q:JK Tryz.prog TB1 c1 (LS ⟨s,p,al⟩) ok:=by rw [<-Ny];exact q
  have eal:Bb te=al:=Ft s p al;rw [eal];clear_value te;have z:=ES c1 q.Cj;have hnt:=So q al hgr;rw [h0] at hnt
  have I:∀v:Vd,Cp s t p=v->v.a=IK->Om (Cp s t p) (dP v) [] 0:=λv h1 h2=>by rw [h1];exact .inl ⟨h2,rfl,rfl,rfl⟩
  (repeat first|refine tA rfl ?_|(refine Ag rfl ?_;refine gA rfl ?_;first| refine gS (λ_ _=>Bt rfl rfl (by simp [E.Cj,C.Cj,C.Dg,q.Cj]) (hnt) rfl) ?_) |refine aU rfl ?_ |refine Aa ?_);refine aB ?_;refine aL (α:={k:Nat // k<=(BV s t p al).length/\(k=(BV s t p al).length->Cp s t p=⟨2,IK,[],(k:Int)⟩)}) [3,4,5,6,8,9,11,13] [0,1] rfl rfl (λ⟨k,H,M⟩=>[(10,eB (decide (k < (BV s t p al).length))),(14,eI .i64 ((k:Int)+1))]) (λ⟨k,H,M⟩=>[(2,.cells 99 2 [[.d (BW (BL s t p al k).rows),.d (BW (BL s t p al k).cols)]])]) 3 (λ⟨k,H,M⟩=>(BV s t p al).length - k) (⟨0,by omega,by omega⟩) f rfl (by ((repeat' first|exact tI|rfl|refine And.intro ?_ ?_)<;>(simp[cX,zC,f,cN,z]<;>rfl))) ?_;rintro⟨k,H,M⟩;(try dsimp only[cA,cB]);refine aS (aB ?_);by_cases K:k < (BV s t p al).length
  ·simp only [decide_eq_true K]
   obtain⟨hx,X⟩:=UB hI K;have hbd:=SS hx;obtain⟨hao,S⟩:=hrun _ (co (Jm K));have R:=PW (TB:=TB1) q al (BL s t p al k) hao (hbd.mono (by omega)) hx.o;obtain⟨_,_,_,hcl⟩:=Mf hI hx;have g:=IG (TB:=TB1) s (BR s p al (BL s t p al k)) p;have A:=IF (TB:=TB1) t (BR s p al (BL s t p al k));have R:AR Tryz.prog TB1 61 0 [] 0 [IV al c1,DY (BL s t p al k)] (KD (BR s p al (BL s t p al k))):=R;(repeat first|refine tA rfl ?_ |refine s2 rfl λ_ e=>?_ |refine aU rfl ?_ |refine Aa ?_)
   ((refine aC rfl ?_ ?_<;>rintro⟨⟩);all_goals try (simp at e;done))
   refine aK ?_;(repeat first|refine tA rfl ?_ |refine aU rfl ?_);(refine pW rfl ?_ rfl (by rfl);refine Ci [] rfl rfl 0 R (by decide) ⟨rfl,by decide,by decide⟩ (by simp [EP,E.Be,C.Cv,C.Be,z,eC,IV,DY]<;>rfl) (by simp[cX,zC,f,cN]) ?_;rintro x0 σ1 nx1 ⟨l,G,rfl,rfl,rfl⟩ _);(repeat first|refine tA rfl ?_);refine Aa ?_;refine Aj.Ay [3,4,5,6,8,9,11,13,14] [0,1,2] rfl rfl [(15,.o (.ptr 6 3 0 0))] [(3,.cells 62 1 (AA l)),(4,.cells 4 1 ((BR s p al (BL s t p al k)).ac.map AS)),(5,.sld 3 (sI l)),(6,.cells 29 3 [[.d (iD (BR s p al (BL s t p al k)).al),.arr 3 1 0 l.length,.arr 4 1 0 (BR s p al (BL s t p al k)).ac.length]])] [0,1,2,3,4,5,6] (rl f rfl) (by (simp[cX,zC,f,cN,Ae,eC,BN,z])) ?_;(try dsimp only[cA,cB]);(repeat first|refine tA rfl ?_|(refine Ag rfl ?_;refine gA rfl ?_;first| refine gS (λ_ _=>fw rfl rfl) ?_) |refine aU rfl ?_ |refine Aa ?_)
   ((refine aC rfl ?_ ?_<;>rintro⟨⟩);all_goals try (simp at e;done))
   refine aK ?_
   rcases X with ⟨hr,J,hk⟩|⟨w,b,hr,hon,hwl,X⟩
   ·obtain⟨g1,g2⟩:=Uy hr
    rw [g1] at g;rw [g2] at A
    have hend:∀(x:E) (σ:Ab) (nx:Nat),(∃l:Iy,l.map (·.2)=(BR s p al (BL s t p al k)).nx/\x=.a [.d (iD 0),.d (iD (BR s p al (BL s t p al k)).al),.arr 0 1 0 l.length,.arr 1 1 0 (BR s p al (BL s t p al k)).ac.length,.d (tD []),.d (iD ((k:Int)+1))]/\σ=[(0,.cells 62 1 (AA l)),(1,.cells 4 1 ((BR s p al (BL s t p al k)).ac.map AS)),(2,.sld 3 (sI l))]/\nx=3)->Om (Cp s t p) x σ nx:=λx σ nx h=>by rw [J];exact .inr h
    generalize Om (Cp s t p)=Q at *;generalize BR s p al (BL s t p al k)=a at *;(repeat first|refine tA rfl ?_ |refine s2 rfl λ_ e=>?_|(refine Ag rfl ?_;refine gA rfl ?_;first| refine gQ (AX.Qd [(59,Bv s),(60,Bi a),(61,Bi p)] ⟨⟨_,rfl,.AQ rfl⟩,⟨_,rfl,JT (k:=5) rfl rfl rfl G rfl rfl⟩,⟨_,rfl,.AQ rfl⟩,trivial⟩ (λZ'=>Bt rfl rfl rfl g rfl) (Fu _)) rfl ?_) |refine aU rfl ?_ |refine Aa ?_)
    ((refine aC rfl ?_ ?_<;>rintro⟨⟩);all_goals try (simp at e;done))
    (repeat first|refine tA rfl ?_ |refine s2 rfl λ_ e=>?_|(refine Ag rfl ?_;refine gA rfl ?_;first| refine gQ (AX.Qd [(68,Bv t),(69,Bi a)] ⟨⟨_,rfl,.AQ rfl⟩,⟨_,rfl,JT (k:=5) rfl rfl rfl G rfl rfl⟩,trivial⟩ (λZ'=>Bt rfl rfl rfl A rfl) (Fu _)) rfl ?_) |refine aU rfl ?_ |refine Aa ?_)
    ((refine aC rfl ?_ ?_<;>rintro⟨⟩);all_goals try (simp at e;done))
    (repeat first|refine tA rfl ?_|(refine Ag rfl ?_;refine gA rfl ?_;first| refine gS (λ_ _=>AF rfl rfl (by rfl) (by rfl)) ?_) |refine aU rfl ?_ |refine Aa ?_);exact aR ⟨_,rfl,[3,4,5],.a [.d (iD 0),.d (iD a.al),.arr 0 1 0 l.length,.arr 1 1 0 a.ac.length,.d (tD []),.d (iD ((k:Int)+1))],[(0,.cells 62 1 (AA l)),(1,.cells 4 1 (a.ac.map AS)),(2,.sld 3 (sI l))],⟨λi hi=>absurd hi (lc i),by decide⟩,rfl,by (simp[cX,zC,f,cN,BN,Ae,eC]),hend _ _ _ ⟨l,G,rfl,rfl,rfl⟩⟩
   ·obtain⟨B,hoks⟩:=S w b hr
    have n:=Qb (TB:=TB1) q al (BL s t p al k) hbd (QH hI) hcl hx.o w hoks hon (by omega);have hpv:=E8 (TB:=TB1) [s,t] p
    rcases Ux hI hr with ⟨u,rfl,g1,g2,g3,g4⟩|⟨u,rfl,g0,g1,g2,g3,g4⟩
    ·have j:=Ns (TB:=TB1) (Dp u) al (by omega)
     rw [g2] at j;rw [g1] at g
     rcases X with ⟨hb,_⟩|⟨_,⟨y,F⟩|⟨y,P,hk,J⟩⟩
     ·cases hb
     ·rw [y] at n
      generalize BR s p al (BL s t p al k)=a at *;(repeat first|refine tA rfl ?_ |refine s2 rfl λ_ e=>?_|(refine Ag rfl ?_;refine gA rfl ?_;first| refine gQ (AX.Qd [(59,Bv s),(60,Bi a),(61,Bi p)] ⟨⟨_,rfl,.AQ rfl⟩,⟨_,rfl,JT (k:=5) rfl rfl rfl G rfl rfl⟩,⟨_,rfl,.AQ rfl⟩,trivial⟩ (λZ'=>Bt rfl rfl rfl g rfl) (Fu _)) rfl ?_) |refine aU rfl ?_ |refine Aa ?_)
      ((refine aC rfl ?_ ?_<;>rintro⟨⟩);all_goals try (simp at e;done))
      refine aK ?_;(repeat first|refine tA rfl ?_ |refine s2 rfl λ_ e=>?_ |refine sP rfl (j) rfl ?_ |refine s3 rfl ?_ ?_<;>rintro rfl |refine aU rfl ?_ |refine Aa ?_)
      (repeat' first|refine tA rfl ?_ |refine Aa ?_|(refine aC rfl ?_ ?_<;>rintro⟨⟩));all_goals try contradiction
      refine aK ?_;(repeat first|(refine sA rfl ?_ ?_;first|exact tI|omega)|(refine Ag rfl ?_;refine gA rfl ?_;first| refine gS (λ_ _=>Bt rfl rfl (by simp [E.Cj,C.Cj,C.Dg,q.Cj]) (n) rfl) ?_) |refine aU rfl ?_ |refine Aa ?_);refine⟨⟨k+1,by omega,by omega⟩,by dsimp only;(omega),[0,1,2],?_⟩;simp[cX,zC,f,cN,z,F]
     ·rw [y] at n
      generalize BR s p al (BL s t p al k)=a at *;(repeat first|refine tA rfl ?_ |refine s2 rfl λ_ e=>?_|(refine Ag rfl ?_;refine gA rfl ?_;first| refine gQ (AX.Qd [(59,Bv s),(60,Bi a),(61,Bi p)] ⟨⟨_,rfl,.AQ rfl⟩,⟨_,rfl,JT (k:=5) rfl rfl rfl G rfl rfl⟩,⟨_,rfl,.AQ rfl⟩,trivial⟩ (λZ'=>Bt rfl rfl rfl g rfl) (Fu _)) rfl ?_) |refine aU rfl ?_ |refine Aa ?_)
      ((refine aC rfl ?_ ?_<;>rintro⟨⟩);all_goals try (simp at e;done))
      refine aK ?_;(repeat first|refine tA rfl ?_ |refine s2 rfl λ_ e=>?_ |refine sP rfl (j) rfl ?_ |refine s3 rfl ?_ ?_<;>rintro rfl |refine aU rfl ?_ |refine Aa ?_)
      (repeat' first|refine tA rfl ?_ |refine Aa ?_|(refine aC rfl ?_ ?_<;>rintro⟨⟩));all_goals try contradiction
      refine aK ?_;(repeat first|(refine sA rfl ?_ ?_;first|exact tI|omega)|(refine Ag rfl ?_;refine gA rfl ?_;first| refine gS (λ_ _=>Bt rfl rfl (by simp [E.Cj,C.Cj,C.Dg,q.Cj]) (n) rfl) ?_) |refine aU rfl ?_ |refine Aa ?_);refine⟨⟨k+1,by omega,λ_=>J⟩,by dsimp only;(omega),[0,1,2],?_⟩;simp[cX,zC,f,cN,z,P,decide_eq_false (show ¬k+1 < (BV s t p al).length by omega)]
    ·have j:=Ns (TB:=TB1) (Dp u) al (by omega)
     rw [g2] at j;rw [g0] at g;rw [g1] at A
     rcases X with ⟨_,N,J,hk⟩|⟨hb,X⟩
     ·have I:=I _ J rfl
      generalize BR s p al (BL s t p al k)=a at *;(repeat first|refine tA rfl ?_ |refine s2 rfl λ_ e=>?_|(refine Ag rfl ?_;refine gA rfl ?_;first| refine gQ (AX.Qd [(59,Bv s),(60,Bi a),(61,Bi p)] ⟨⟨_,rfl,.AQ rfl⟩,⟨_,rfl,JT (k:=5) rfl rfl rfl G rfl rfl⟩,⟨_,rfl,.AQ rfl⟩,trivial⟩ (λZ'=>Bt rfl rfl rfl g rfl) (Fu _)) rfl ?_) |refine aU rfl ?_ |refine Aa ?_)
      ((refine aC rfl ?_ ?_<;>rintro⟨⟩);all_goals try (simp at e;done))
      (repeat first|refine tA rfl ?_ |refine s2 rfl λ_ e=>?_|(refine Ag rfl ?_;refine gA rfl ?_;first| refine gQ (AX.Qd [(68,Bv t),(69,Bi a)] ⟨⟨_,rfl,.AQ rfl⟩,⟨_,rfl,JT (k:=5) rfl rfl rfl G rfl rfl⟩,trivial⟩ (λZ'=>Bt rfl rfl rfl A rfl) (Fu _)) rfl ?_) |refine aU rfl ?_ |refine Aa ?_)
      ((refine aC rfl ?_ ?_<;>rintro⟨⟩);all_goals try (simp at e;done))
      refine aK ?_;(repeat first|refine tA rfl ?_ |refine s2 rfl λ_ e=>?_ |refine sP rfl (j) rfl ?_ |refine s3 rfl ?_ ?_<;>rintro rfl |refine aU rfl ?_ |refine Aa ?_)
      (repeat' first|refine tA rfl ?_ |refine s2 rfl λ_ e=>?_|(refine Ag rfl ?_;refine gA rfl ?_;first| refine gS (λ_ _=>q.gR N B rfl rfl) ?_) |refine aU rfl ?_ |refine Aa ?_|(refine aC rfl ?_ ?_<;>rintro⟨⟩));all_goals try contradiction
      (repeat first|refine tA rfl ?_ |refine sP rfl (hpv) rfl ?_|(refine Ag rfl ?_;refine gA rfl ?_;first| refine gS (λ_ _=>AF rfl rfl (by rfl) (by rfl)) ?_) |refine aU rfl ?_ |refine Aa ?_);exact aR ⟨_,rfl,[],dP ⟨1,IK,NH (BQ [s,t] p),(k:Int)+1⟩,[],⟨λi hi=>absurd hi (lc i),lm⟩,rfl,by (simp[cX,zC,f,cN,BN,Ae,eC]),I⟩
     ·have N:LS ⟨s,p,al⟩ w=true:=by rcases hb with hb|hb;cases hb;exact hb
      rcases X with ⟨y,F⟩|⟨y,P,hk,J⟩
      ·rw [y] at n
       generalize BR s p al (BL s t p al k)=a at *;(repeat first|refine tA rfl ?_ |refine s2 rfl λ_ e=>?_|(refine Ag rfl ?_;refine gA rfl ?_;first| refine gQ (AX.Qd [(59,Bv s),(60,Bi a),(61,Bi p)] ⟨⟨_,rfl,.AQ rfl⟩,⟨_,rfl,JT (k:=5) rfl rfl rfl G rfl rfl⟩,⟨_,rfl,.AQ rfl⟩,trivial⟩ (λZ'=>Bt rfl rfl rfl g rfl) (Fu _)) rfl ?_) |refine aU rfl ?_ |refine Aa ?_)
       ((refine aC rfl ?_ ?_<;>rintro⟨⟩);all_goals try (simp at e;done))
       (repeat first|refine tA rfl ?_ |refine s2 rfl λ_ e=>?_|(refine Ag rfl ?_;refine gA rfl ?_;first| refine gQ (AX.Qd [(68,Bv t),(69,Bi a)] ⟨⟨_,rfl,.AQ rfl⟩,⟨_,rfl,JT (k:=5) rfl rfl rfl G rfl rfl⟩,trivial⟩ (λZ'=>Bt rfl rfl rfl A rfl) (Fu _)) rfl ?_) |refine aU rfl ?_ |refine Aa ?_)
       ((refine aC rfl ?_ ?_<;>rintro⟨⟩);all_goals try (simp at e;done))
       refine aK ?_;(repeat first|refine tA rfl ?_ |refine s2 rfl λ_ e=>?_ |refine sP rfl (j) rfl ?_ |refine s3 rfl ?_ ?_<;>rintro rfl |refine aU rfl ?_ |refine Aa ?_)
       (repeat' first|refine tA rfl ?_ |refine s2 rfl λ_ e=>?_|(refine Ag rfl ?_;refine gA rfl ?_;first| refine gS (λ_ _=>q.gR N B rfl rfl) ?_) |refine aU rfl ?_ |refine Aa ?_|(refine aC rfl ?_ ?_<;>rintro⟨⟩));all_goals try contradiction
       refine aK ?_;(repeat first|(refine sA rfl ?_ ?_;first|exact tI|omega)|(refine Ag rfl ?_;refine gA rfl ?_;first| refine gS (λ_ _=>Bt rfl rfl (by simp [E.Cj,C.Cj,C.Dg,q.Cj]) (n) rfl) ?_) |refine aU rfl ?_ |refine Aa ?_);refine⟨⟨k+1,by omega,by omega⟩,by dsimp only;(omega),[0,1,2],?_⟩;simp[cX,zC,f,cN,z,F]
      ·rw [y] at n
       generalize BR s p al (BL s t p al k)=a at *;(repeat first|refine tA rfl ?_ |refine s2 rfl λ_ e=>?_|(refine Ag rfl ?_;refine gA rfl ?_;first| refine gQ (AX.Qd [(59,Bv s),(60,Bi a),(61,Bi p)] ⟨⟨_,rfl,.AQ rfl⟩,⟨_,rfl,JT (k:=5) rfl rfl rfl G rfl rfl⟩,⟨_,rfl,.AQ rfl⟩,trivial⟩ (λZ'=>Bt rfl rfl rfl g rfl) (Fu _)) rfl ?_) |refine aU rfl ?_ |refine Aa ?_)
       ((refine aC rfl ?_ ?_<;>rintro⟨⟩);all_goals try (simp at e;done))
       (repeat first|refine tA rfl ?_ |refine s2 rfl λ_ e=>?_|(refine Ag rfl ?_;refine gA rfl ?_;first| refine gQ (AX.Qd [(68,Bv t),(69,Bi a)] ⟨⟨_,rfl,.AQ rfl⟩,⟨_,rfl,JT (k:=5) rfl rfl rfl G rfl rfl⟩,trivial⟩ (λZ'=>Bt rfl rfl rfl A rfl) (Fu _)) rfl ?_) |refine aU rfl ?_ |refine Aa ?_)
       ((refine aC rfl ?_ ?_<;>rintro⟨⟩);all_goals try (simp at e;done))
       refine aK ?_;(repeat first|refine tA rfl ?_ |refine s2 rfl λ_ e=>?_ |refine sP rfl (j) rfl ?_ |refine s3 rfl ?_ ?_<;>rintro rfl |refine aU rfl ?_ |refine Aa ?_)
       (repeat' first|refine tA rfl ?_ |refine s2 rfl λ_ e=>?_|(refine Ag rfl ?_;refine gA rfl ?_;first| refine gS (λ_ _=>q.gR N B rfl rfl) ?_) |refine aU rfl ?_ |refine Aa ?_|(refine aC rfl ?_ ?_<;>rintro⟨⟩));all_goals try contradiction
       refine aK ?_;(repeat first|(refine sA rfl ?_ ?_;first|exact tI|omega)|(refine Ag rfl ?_;refine gA rfl ?_;first| refine gS (λ_ _=>Bt rfl rfl (by simp [E.Cj,C.Cj,C.Dg,q.Cj]) (n) rfl) ?_) |refine aU rfl ?_ |refine Aa ?_);refine⟨⟨k+1,by omega,λ_=>J⟩,by dsimp only;(omega),[0,1,2],?_⟩;simp[cX,zC,f,cN,z,P,decide_eq_false (show ¬k+1 < (BV s t p al).length by omega)]
  ·obtain rfl:k=(BV s t p al).length:=by omega
   have J:=M rfl;simp only [decide_eq_false K];(repeat first|refine tA rfl ?_ |refine s2 rfl λ_ e=>?_ |refine aU rfl ?_ |refine Aa ?_)
   ((refine aC rfl ?_ ?_<;>rintro⟨⟩);all_goals try (simp at e;done))
   (repeat first|(refine sA rfl ?_ ?_;first|exact tI|omega)|(refine Ag rfl ?_;refine gA rfl ?_;first| refine gS (λ_ _=>AF rfl rfl (by rfl) (by rfl)) ?_) |refine aU rfl ?_ |refine Aa ?_);exact aR ⟨_,rfl,[],dP ⟨2,IK,[],((BV s t p al).length:Int)+1 - 1⟩,[],⟨λi hi=>absurd hi (lc i),lm⟩,rfl,by (simp[cX,zC,f,cN,BN,Ae,eC]),by rw [Int.add_sub_cancel];exact I _ J rfl⟩
theorem U9{s t:Sys}{p:AZ}(h:Br s p t < 0)(b:s.es.length<=1048576):AR Tryz.prog ⟨tabs,none⟩ 32 0 [] 0 [Bv s,Bv t,Bi p,.o (.d (.v .nilFunc))] (Om (Cp s t p)):=by
 have c:=JW (TB:=⟨tabs,none⟩) s p t b;unfold UZ at c;rw [if_pos h] at c;rw [SW h];refine AR.Be (AR.QY (m:=0) (am rfl) Tryz.func32 rfl (by kernel_rfl) (am rfl) ?_);intro Z a;(repeat first|refine tA rfl ?_ |refine s2 rfl λ_ e=>?_ |refine sP rfl (c) rfl ?_ |refine aU rfl ?_ |refine Aa ?_)
 ((refine aC rfl ?_ ?_<;>rintro⟨⟩);all_goals try (simp at e;done))
 (repeat first|refine tA rfl ?_|(refine Ag rfl ?_;refine gA rfl ?_;first| refine gS (λ_ _=>AF rfl rfl (by rfl) (by rfl)) ?_) |refine aU rfl ?_ |refine Aa ?_);exact aR ⟨_,rfl,[],dP ⟨3,IK,[],0⟩,[],⟨λi hi=>absurd hi (lc i),lm⟩,rfl,by (simp[cX,zC,a,cN,BN,Ae,eC]),.inl ⟨rfl,rfl,rfl,rfl⟩⟩
theorem Kj(s t:Sys)(p:AZ)(c:s.es.length<=1048576):AR Tryz.prog ⟨tabs,none⟩ 10 0 [] 0 [Bv s,Bv t,Bi p] (Om (Cp s t p)):=by
 have j:AR Tryz.prog ⟨tabs,none⟩ 32 0 [] 0 [Bv s,Bv t,Bi p,.o (.d (.v .nilFunc))] (Om (Cp s t p)):=by
  by_cases h:Br s p t < 0
  ·exact U9 h c
  ·exact W0 (HC h) c
 generalize Cp s t p=v at *;refine AR.Be (AR.QY (m:=0) (am rfl) Tryz.func10 rfl (by kernel_rfl) (am rfl) ?_);intro Z b;(repeat first|refine tA rfl ?_ |refine aU rfl ?_ |refine Aa ?_);(refine pW rfl ?_ rfl (by rfl);refine Ci [] rfl rfl 0 j (by decide) ⟨rfl,by decide,by decide⟩ rfl trivial ?_;rintro k e f (⟨ha,rfl,rfl,rfl⟩|⟨l,g,rfl,rfl,rfl⟩) _)
 ·(repeat first|refine tA rfl ?_ |refine Aa ?_)
  exact aR ⟨_,rfl,[],dP v,[],⟨λi hi=>absurd hi (lc i),lm⟩,rfl,by (simp[cX,zC,b,cN,BN,Ae,eC]),.inl ⟨ha,rfl,rfl,rfl⟩⟩
 ·(repeat first|refine tA rfl ?_ |refine Aa ?_)
  exact aR ⟨_,rfl,[1,2,3],.a [.d (iD v.code),.d (iD v.a.al),.arr 0 1 0 l.length,.arr 1 1 0 v.a.ac.length,.d (tD v.tr),.d (iD v.rd)],[(0,.cells 62 1 (AA l)),(1,.cells 4 1 (v.a.ac.map AS)),(2,.sld 3 (sI l))],⟨λi hi=>absurd hi (lc i),by decide⟩,rfl,by (simp[cX,zC,b,cN,BN,Ae,eC]),.inr ⟨l,g,rfl,rfl,rfl⟩⟩
theorem K7(s t:Sys)(p:AZ)(b:s.es.length<=1048576):Pure Tryz.prog ⟨tabs,none⟩ 10 [Bv s,Bv t,Bi p] (dP (Cp s t p)):=by
 refine(Kj s t p b).toPure λx σ nx c=>?_;generalize Cp s t p=v at *
 rcases c with ⟨_,rfl,rfl,rfl⟩|⟨l,e,rfl,rfl,rfl⟩
 ·exact⟨[],.inl (.AQ rfl)⟩
 ·refine⟨[0,1,2],.inl (.a (ds:=LO v) (.cons .d (.cons .d (.cons ?_ (.cons (.full rfl (by simp [d5]) (by simp)) (.cons .d (.cons .d .nil)))))))⟩
  rw [<-e];exact .MB (s:=2) rfl rfl
end
end Go.Am
namespace Go.Am
open Go Go.Proofs
set_option maxHeartbeats 1000000
attribute [local irreducible] AX Cb Lex Bh Aj Spec
variable {TB:Bz}
theorem aT(s:Sys)(p:AZ)(al:Int):J6 Tryz.prog TB 120 175 (Ew s p al) (Ee (Ew s p al)) (Fq (Ew s p al)):=gU (t:=Ew s p al) rfl
theorem dI{te:EF}:0<=Ee te->A7 (Ee te)=true:=λh=>by
 unfold Ee at *;split at h
 ·rename_i hk;rw [if_pos hk];exact HT hk
 ·omega
theorem ZT(s:Sys)(p:AZ)(al:Int):Pure Tryz.prog TB 68 [EE (Ew s p al)] (Iz (Sm (Ew s p al))):=by
 rw [<-iF];exact Sp (aT s p al)
theorem ZU(s:Sys)(p:AZ)(al:Int)(x:A0)(a:Vm x):Pure Tryz.prog TB 69 [EE (Ew s p al),DY x] (gi (YU (Ew s p al) x)):=by
 rw [<-gX];exact Hg (aT s p al) x a
theorem WQ(s:Sys)(p:AZ)(al:Int)(x:A0)(a:Vm x)(w:W)(b:w.length<=4000):Pure Tryz.prog TB 73 [EE (Ew s p al),DY x,eT w] (Iz (LB (Ew s p al) x w)):=by
 rw [<-fM];exact Qc (aT s p al) (dI (te:=Ew s p al)) x a w (by omega)
theorem IB(w:W)(al:Int)(m:Ey w=true)(ha:A7 al=true)(x:w.length<=50000):Pure Tryz.prog TB 127 [eT w,eI .i64 al] (eT (II al w)):=by
 have u:=LU (TB:=TB) w (by omega);have t:=Dj (TB:=TB) al
 have l:∀c∈w,Gc c=true:=by
  unfold Ey at m;rw [d4,f9] at m;exact m.2
 rw [m] at u;rw [ha] at t;refine eG Tryz.func127 rfl (by kernel_rfl) rfl ?_;intro Z d;(repeat first|refine tA rfl ?_ |refine s2 rfl λ_ b=>?_ |refine sP rfl (u) rfl ?_|refine sP rfl (t) rfl ?_ |refine s3 rfl ?_ ?_<;>rintro rfl |refine aU rfl ?_ |refine Aa ?_)
 (repeat' first|refine tA rfl ?_ |refine s2 rfl λ_ b=>?_ |refine sP rfl (u) rfl ?_|refine sP rfl (t) rfl ?_ |refine aU rfl ?_ |refine Aa ?_|(refine aC rfl ?_ ?_<;>rintro⟨⟩));all_goals try contradiction
 refine aK ?_;(repeat first|refine aU rfl ?_);(refine pW rfl ?_ rfl (by rfl);refine Bf rfl rfl rfl rfl (by simp) (by rfl) (by rfl) (by rfl) (by rfl) ?_);(repeat first|refine tX rfl ?_ |refine aU rfl ?_ |refine Aa ?_);refine aB ?_;refine aL (α:={k:Nat // k<=w.length}) [0,1] [] rfl rfl (λ⟨k,hk⟩=>[(5,.o (.arr 0 1 0 (II al (w.take k)).length)),(6,eI .i64 k)]) (λ⟨k,hk⟩=>[(0,.cells 5 1 ((II al (w.take k)).map Fz))]) 1 (λ⟨k,hk⟩=>w.length - k) (⟨0,by omega⟩) d rfl (by (simp[cX,zC,d,II])) ?_;rintro⟨k,hk⟩;(try dsimp only[cA,cB]);by_cases p:k < w.length
 ·obtain⟨c,s⟩:=get_some p
  have q:w[((k:Nat):Int).toNat]? = some c:=by simpa using s
  have i:=l c (co s);have h:=i;rw [FA,decide_eq_true_eq] at h;have g:=Ih (TB:=TB) w k c q;have a:=C0 (TB:=TB) al ((c.toNat:Int) - 97) (by omega) (by omega)
  have e:AV al ((c.toNat:Int) - 97).toNat=Ig al c:=by
   unfold Ig;rw [i,nI];congr 1;omega
  rw [e] at a;have f:=Rq (al:=al) s;have n:=Uz al (w.take k);rw [oO] at n;(repeat first|refine tA rfl ?_ |refine s2 rfl λ_ b=>?_ |refine aU rfl ?_ |refine Aa ?_)
  ((refine aC rfl ?_ ?_<;>rintro⟨⟩);all_goals try(exfalso;(simp only[oZ] at *;omega)))
  refine aK ?_;refine aS (aB ?_);cases j:Ig al c
  ·rw [j] at a f
   (repeat first|refine tA rfl ?_ |refine sP rfl (g) rfl ?_|refine sP rfl (a) rfl ?_ |refine aU rfl ?_ |refine Aa ?_)
   ((refine aC rfl ?_ ?_<;>rintro⟨⟩);all_goals try (simp at b;done))
   refine aK ?_;(repeat first|(refine sA rfl ?_ ?_;first|exact tI|omega) |refine aU rfl ?_ |refine Aa ?_);refine⟨⟨k+1,by omega⟩,by dsimp only;(omega),[0],?_⟩;simp[cX,zC,d,f,Fz,FN]
  ·rw [j] at a f
   (repeat first|refine tA rfl ?_ |refine sP rfl (g) rfl ?_|refine sP rfl (a) rfl ?_ |refine aU rfl ?_ |refine Aa ?_)
   ((refine aC rfl ?_ ?_<;>rintro⟨⟩);all_goals try (simp at b;done))
   (repeat first|refine tA rfl ?_ |(refine s4 rfl ‹_› rfl ?_ ?_;omega) |refine aU rfl ?_);(refine pW rfl ?_ rfl (by rfl);refine Al rfl rfl rfl (by first| (simp;done)|(simp;(omega))) rfl (by intro r v;simp at v;subst v;rfl) (by rfl) (am rfl) (by simp;omega) ?_);(repeat first|(refine sX rfl ?_ ?_;first|exact tI|omega) |refine aU rfl ?_ |refine Aa ?_);refine⟨⟨k+1,by omega⟩,by dsimp only;(omega),[1],?_⟩;simp[cX,zC,d,f,FN,Fz,nY,MI]
 ·obtain rfl:k=w.length:=by omega
  rw [io] at *;(repeat first|refine tA rfl ?_ |refine s2 rfl λ_ b=>?_ |refine aU rfl ?_ |refine Aa ?_)
  ((refine aC rfl ?_ ?_<;>rintro⟨⟩);all_goals try(exfalso;(simp only[oZ] at *;omega)))
  refine aE ?_;(repeat first|refine tM rfl ?_|(refine Ag rfl ?_;refine gA rfl ?_;first| refine gQ (Of (II al w) rfl rfl (by simp) (by first| rw [nX,ge (by simp)]|rw [nX,SF,ge (by simp)])) (by rfl) ?_) |refine aU rfl ?_ |refine Aa ?_);(subst_vars;exact aR ⟨_,rfl,rfl⟩)
abbrev jN(w:W)(c:Int):E:=.t [(false,[.d (tD w)]),(false,[.d (iD c)])]
section
variable [Dt TB]{s t:Sys}{p:AZ}{al:Int}(hI:EY s p t al)
include hI
theorem TX{a:AZ}(h:Gg s t p al a=none):Pure Tryz.prog TB 70 [Bv t,PZ ⟨s,p,al⟩,Bi a] (jN [] 0):=by
 obtain⟨f,e⟩:=Uy h;have c:=Fc (TB:=TB) s a p;have b:=Fa (TB:=TB) t a;rw [f] at c;rw [e] at b;refine eG Tryz.func70 rfl (by kernel_rfl) rfl ?_;intro Z d;(repeat first|refine tA rfl ?_ |refine sP rfl (c) rfl ?_|refine sP rfl (b) rfl ?_ |refine aU rfl ?_ |refine Aa ?_)
 (repeat' first|refine sP rfl (c) rfl ?_|refine sP rfl (b) rfl ?_|(refine aC rfl ?_ ?_<;>rintro⟨⟩));all_goals try contradiction
 refine aK ?_;(repeat first|refine tA rfl ?_ |refine s2 rfl λ_ g=>?_ |refine sP rfl (b) rfl ?_ |refine aU rfl ?_ |refine Aa ?_)
 (repeat' first|refine tA rfl ?_ |refine sP rfl (b) rfl ?_ |refine aU rfl ?_ |refine Aa ?_|(refine aC rfl ?_ ?_<;>rintro⟨⟩));all_goals try contradiction
 (subst_vars;exact aR ⟨_,rfl,rfl⟩)
theorem TY{a:AZ}{w:W}{b:Bool}(h:Gg s t p al a=some (w,b))(m:AT (A6 al) w)(r:w.length<=4000):Pure Tryz.prog TB 70 [Bv t,PZ ⟨s,p,al⟩,Bi a] (jN w (if (b || LS ⟨s,p,al⟩ w)=true then -1 else 1)):=by
 have hal:=QH hI;have d:=Fc (TB:=TB) s a p;have i:=Fa (TB:=TB) t a
 rcases Ux hI h with ⟨u,rfl,l,k,j,n⟩|⟨u,rfl,o,l,k,j,n⟩
 ·rw [l] at d
  have e:=IB (TB:=TB) (Dp u) al (PL j (by omega)) hal (by omega);rw [k] at e;rw [Bool.true_or,if_pos rfl];refine eG Tryz.func70 rfl (by kernel_rfl) rfl ?_;intro Z f;(repeat first|refine tA rfl ?_ |refine sP rfl (d) rfl ?_ |refine aU rfl ?_ |refine Aa ?_)
  (repeat' first|refine tA rfl ?_ |refine sP rfl (d) rfl ?_|refine sP rfl (e) rfl ?_ |refine aU rfl ?_ |refine Aa ?_|(refine aC rfl ?_ ?_<;>rintro⟨⟩));all_goals try contradiction
  (subst_vars;exact aR ⟨_,rfl,rfl⟩)
 ·rw [o] at d
  rw [l] at i;have e:=IB (TB:=TB) (Dp u) al (PL j (by omega)) hal (by omega);rw [k] at e;have g:=Nu (TB:=TB) ⟨s,p,al⟩ w (by omega);rw [Rt (Ge hI) w m (by omega)] at g;rw [pS];generalize LS ⟨s,p,al⟩ w=q at *;refine eG Tryz.func70 rfl (by kernel_rfl) rfl ?_;intro Z f;(repeat first|refine tA rfl ?_ |refine sP rfl (d) rfl ?_ |refine aU rfl ?_ |refine Aa ?_)
  (repeat' first|refine sP rfl (d) rfl ?_|(refine aC rfl ?_ ?_<;>rintro⟨⟩));all_goals try contradiction
  refine aK ?_;(repeat first|refine tA rfl ?_ |refine s2 rfl λ_ c=>?_ |refine sP rfl (i) rfl ?_ |refine aU rfl ?_ |refine Aa ?_)
  (repeat' first|refine tA rfl ?_ |refine sP rfl (i) rfl ?_ |refine aU rfl ?_ |refine Aa ?_|(refine aC rfl ?_ ?_<;>rintro⟨⟩));all_goals try contradiction
  refine aK ?_;(repeat first|refine tA rfl ?_ |refine sP rfl (e) rfl ?_ |refine aU rfl ?_ |refine Aa ?_);cases q
  ·(repeat first|refine s2 rfl λ_ c=>?_ |refine sP rfl (g) rfl ?_ |refine Aa ?_)
   ((refine aC rfl ?_ ?_<;>rintro⟨⟩);all_goals try (simp at c;done))
   (repeat first|refine tA rfl ?_ |refine aU rfl ?_ |refine Aa ?_);(subst_vars;exact aR ⟨_,rfl,rfl⟩)
  ·(repeat first|refine s2 rfl λ_ c=>?_ |refine sP rfl (g) rfl ?_ |refine Aa ?_)
   ((refine aC rfl ?_ ?_<;>rintro⟨⟩);all_goals try (simp at c;done))
   refine aK ?_;(repeat first|refine tA rfl ?_ |refine aU rfl ?_ |refine Aa ?_);(subst_vars;exact aR ⟨_,rfl,rfl⟩)
end
end Go.Am
namespace Go.Am
open Go Go.Proofs
set_option maxHeartbeats 1000000
attribute [local irreducible] AX Cb Lex Bh Aj Spec
variable {TB:Bz}[Dt TB]
noncomputable def Kp(s t:Sys)(p:AZ)(al:Int):Nat->AZ
 | 0=>IK
 | k+1=>BR s p al (BL s t p al k)
abbrev jO(v:Vd)(a:AZ):E:=.t [(true,(LO v).map .d),(true,(AL a).map .d)]
noncomputable def Qk(s t:Sys)(p:AZ)(al:Int)(R:Int):Vd:=if ((BV s t p al).length:Int)<=R then Cp s t p else ⟨2,IK,[],(R.toNat:Int)⟩
theorem Zl{s t:Sys}{p:AZ}(h:Br s p t < 0)(a:s.es.length<=1048576)(R:Int):Pure Tryz.prog TB 34 [Bv s,Bv t,Bi p,eI .i64 R] (jO ⟨3,IK,[],0⟩ IK):=by
 have b:=Jh (TB:=TB) s p t a;unfold UZ at b;rw [if_pos h] at b;refine eG Tryz.func34 rfl (by kernel_rfl) rfl ?_;intro Z d;(repeat first|refine tA rfl ?_ |refine s2 rfl λ_ c=>?_ |refine sP rfl (b) rfl ?_ |refine aU rfl ?_ |refine Aa ?_)
 ((refine aC rfl ?_ ?_<;>rintro⟨⟩);all_goals try (simp at c;done))
 (repeat first|refine tA rfl ?_|(refine Ag rfl ?_;refine gA rfl ?_;first| refine gS (λ_ _=>AF rfl rfl (by rfl) (by rfl)) ?_) |refine aU rfl ?_ |refine Aa ?_);(subst_vars;exact aR ⟨_,rfl,rfl⟩)
theorem Zm{s t:Sys}{p:AZ}{al:Int}(hI:EY s p t al)(Y:s.es.length<=1048576)(R:Int):Pure Tryz.prog TB 34 [Bv s,Bv t,Bi p,eI .i64 R] (jO (Qk s t p al R) (Kp s t p al (min (BV s t p al).length R.toNat))):=by
 have h1:=Jh (TB:=TB) s p t Y;unfold UZ at h1;rw [if_neg (TT hI),<-hI.hal] at h1;have h2:=ZT (TB:=TB) s p al;rw [dD (t:=t) hI] at h2;obtain⟨U,T⟩:=JD hI
 obtain⟨n,hn⟩:∃n,n=(BV s t p al).length:=⟨_,rfl⟩
 rw [<-hn] at U T |-
 obtain⟨V,j⟩:∃V,V=Qk s t p al R:=⟨_,rfl⟩
 obtain⟨A,m⟩:∃A,A=Kp s t p al (min n R.toNat):=⟨_,rfl⟩
 rw [<-j,<-m];refine eG Tryz.func34 rfl (by kernel_rfl) rfl ?_;intro Z e;(repeat first|refine tA rfl ?_ |refine s2 rfl λ_ c=>?_ |refine sP rfl (h1) rfl ?_ |refine aU rfl ?_ |refine Aa ?_)
 ((refine aC rfl ?_ ?_<;>rintro⟨⟩);all_goals try (simp at c;done))
 refine aK ?_;(repeat first|refine tA rfl ?_ |refine sP rfl (h2) rfl ?_|(refine Ag rfl ?_;refine gA rfl ?_;first| refine gS (λ_ _=>AF rfl rfl (by rfl) (by rfl)) ?_) |refine aU rfl ?_ |refine Aa ?_);refine Aj.AE [2,3] [(3,eI .i64 R),(4,.o (.ip (AI s))),(5,.o (.ip (AI t))),(6,.o (.ip (AL p))),(8,.o (.ptr 0 6 0 0)),(9,.o (.ptr 1 3 0 0)),(10,.o (.ip (LK ⟨s,p,al⟩))),(12,.o (.ip (dH false IK s p al))),(13,.o (.ptr 4 2 0 0)),(14,eB true),(15,.o (.ptr 5 6 0 0)),(16,.o (.ptr 6 3 0 0))] ⟨⟨_,rfl,.inl rfl⟩,⟨_,rfl,.inl rfl⟩,⟨_,rfl,.inl rfl⟩,⟨_,rfl,.inl rfl⟩,⟨_,rfl,.inl rfl⟩,⟨_,rfl,.inl rfl⟩,⟨_,rfl,.inr (.o (.box rfl (Fe.refl (LK ⟨s,p,al⟩))))⟩,⟨_,rfl,.inr (.o (.box rfl (Fe.refl (dH false IK s p al))))⟩,⟨_,rfl,.inl rfl⟩,⟨_,rfl,.inl rfl⟩,⟨_,rfl,.inl rfl⟩,⟨_,rfl,.inl rfl⟩,trivial⟩ ?_;refine Aj.Ay [3,4,5,6,10,12] [0,1] rfl rfl [(8,.o (.ptr 0 6 0 0)),(9,.o (.ptr 1 3 0 0)),(13,.o (.ptr 2 2 0 0)),(14,eB true),(15,.o (.ptr 3 6 0 0)),(16,.o (.ptr 4 3 0 0))] [(2,.cells 99 2 [[.d (BW (BL s t p al 0).rows),.d (BW (BL s t p al 0).cols)]]),(3,.cells 35 6 [[.d (iD 2),.d (iD 0),.d (.l []),.d (.l []),.d (tD []),.d (iD 0)]]),(4,.cells 29 3 [[.d (iD 0),.d (.l []),.d (.l [])]])] [0,1,4,5,6] (rl e rfl) (by (simp[cX,zC,e,cN,BN,Ae,eC])) ?_;(try dsimp only[cA,cB]);refine aB ?_;refine aL (α:={k:Nat // k<=n/\k<=R.toNat/\(k=n->Cp s t p=⟨2,IK,[],(k:Int)⟩)}) [3,4,5,6,8,9,10,12,13,15,16] [0,1] rfl rfl (λ⟨k,u,x,i⟩=>[(14,eB (decide (k < n)))]) (λ⟨k,u,x,i⟩=>[(2,.cells 99 2 [[.d (BW (BL s t p al k).rows),.d (BW (BL s t p al k).cols)]]),(3,.cells 35 6 [[.d (iD 2),.d (iD 0),.d (.l []),.d (.l []),.d (tD []),.d (iD k)]]),(4,.cells 29 3 [[.d (iD (Kp s t p al k).al),.d (CW (Kp s t p al k).nx),.d (E4 (Kp s t p al k).ac)]])]) 5 (λ⟨k,u,x,i⟩=>n - k) (⟨0,by omega,by omega,by omega⟩) e rfl (by (simp[cX,zC,e,cN,Kp,IK,decide_eq_true (show 0 < n by omega)])) ?_;rintro⟨k,u,x,i⟩;(try dsimp only[cA,cB]);by_cases H:k < n
 ·simp only [decide_eq_true H]
  by_cases hR:(k:Int) < R
  ·obtain⟨K,J⟩:=UB hI (k:=k) (by omega)
   have B:Vm (BL s t p al k):=by obtain⟨_,_,_,P,_⟩:=Ds K.v;exact P.sz
   have f:=ZU (TB:=TB) s p al (BL s t p al k) B;rw [aV hI K] at f;obtain⟨hao,_⟩:=Mf hI K;have g:Kp s t p al (k+1)=BR s p al (BL s t p al k):=rfl
   have I:k+1=(BV s t p al).length->Qk s t p al R=Cp s t p/\min n R.toNat=k+1:=λh=>⟨by unfold Qk;rw [if_pos (by omega)],by omega⟩
   rcases J with ⟨Q,z,hk⟩|⟨w,b,Q,G,q,J⟩
   ·have y:=TX (TB:=TB) hI Q
    obtain⟨M,L⟩:=I hk
    have eV:V=⟨0,BR s p al (BL s t p al k),[],(k:Int)+1⟩:=by rw [j,M,z]
    have eA:A=BR s p al (BL s t p al k):=by rw [m,L,g]
    clear j m;subst eV eA;have hcp:=Js (TB:=TB) (BR s p al (BL s t p al k)) (Ot hao);generalize BR s p al (BL s t p al k)=a at *;generalize Kp s t p al k=la;generalize BL s t p al k=tb at *;(repeat first|refine tA rfl ?_ |refine s2 rfl λ_ c=>?_ |refine aU rfl ?_ |refine Aa ?_)
    ((refine aC rfl ?_ ?_<;>rintro⟨⟩);(all_goals try (simp at c;done));(all_goals try(exfalso;(simp only[oZ] at *;omega))))
    refine aK ?_;refine aB ?_;(repeat first|(refine sA rfl ?_ ?_;first|exact tI|omega) |refine sP rfl (f) rfl ?_|refine sP rfl (y) rfl ?_ |refine aU rfl ?_ |refine Aa ?_);refine aB ?_;(repeat first|refine tA rfl ?_ |refine s2 rfl λ_ c=>?_ |refine aU rfl ?_ |refine Aa ?_)
    ((refine aC rfl ?_ ?_<;>rintro⟨⟩);(all_goals try (simp at c;done));(all_goals try(exfalso;omega)))
    (repeat first|refine tX rfl ?_ |refine aU rfl ?_ |refine Aa ?_);(refine pW rfl ?_ rfl (by rfl);refine Ci [] rfl rfl 0 (hcp) (by decide) ⟨rfl,by decide,by decide⟩ rfl (by simp[cX,zC,e,cN]) ?_;rintro x0 σ1 nx1 ⟨l,hl,rfl,rfl,rfl⟩ _);(repeat first|refine tX rfl ?_ |refine aU rfl ?_ |refine Aa ?_);refine Aj.Ay [3,4,5,6,10,12] [0,1] rfl rfl [(8,.o (.ptr 0 6 0 0)),(9,.o (.ptr 1 3 0 0)),(15,.o (.ptr 2 6 0 0)),(16,.o (.ptr 3 3 0 0))] [(2,.cells 35 6 [[.d (iD 0),.d (iD a.al),.arr 4 1 0 l.length,.arr 5 1 0 a.ac.length,.d (tD []),.d (iD ((k:Int)+1))]]),(3,.cells 29 3 [[.d (iD a.al),.d (CW a.nx),.d (E4 a.ac)]]),(4,.cells 62 1 (AA l)),(5,.cells 4 1 (a.ac.map AS)),(6,.sld 3 (sI l))] [0,1,3,4,6,7,8] (rl e rfl) (by (simp[cX,zC,e,cN,BN,Ae,eC])) ?_;(try dsimp only[cA,cB]);refine Aj.AE [2,3,4,5,6] [(8,.o (.ptr 0 6 0 0)),(9,.o (.ptr 1 3 0 0)),(15,.o (.ip (LO ⟨0,⟨a.al,l.map (·.2),a.ac⟩,[],(k:Int)+1⟩))),(16,.o (.ip (AL a)))] ⟨⟨_,rfl,.inl rfl⟩,⟨_,rfl,.inl rfl⟩,⟨_,rfl,.inr (.o (.box rfl (.cons .d (.cons .d (.cons (.MB (s:=6) rfl rfl) (.cons (.full rfl (by simp [d5]) (by simp)) (.cons .d (.cons .d .nil))))))))⟩,⟨_,rfl,.inr (.o (.box rfl (Fe.refl (AL a))))⟩,trivial⟩ ?_;rw [hl];refine rG (JU [(2,1),(3,1)]) (by kernel_rfl) ?_;(repeat first|refine tA rfl ?_ |refine Aa ?_);(subst_vars;exact aR ⟨_,rfl,rfl⟩)
   ·have y:=TY (TB:=TB) hI Q G q
    have S:=Fb (TB:=TB) [s,t] p;have r:=WQ (TB:=TB) s p al (BL s t p al k) B w q;rw [YH hI K G q] at r
    rcases J with ⟨rfl,hb0,z,hk⟩|⟨hb,J⟩
    ·rw [hb0,pS,if_neg oc] at y
     obtain⟨M,L⟩:=I hk
     have eV:V=⟨1,IK,NH (BQ [s,t] p),(k:Int)+1⟩:=by rw [j,M,z]
     have eA:A=BR s p al (BL s t p al k):=by rw [m,L,g]
     clear j m;subst eV eA;generalize BR s p al (BL s t p al k)=a at *;generalize Kp s t p al k=la;generalize BL s t p al k=tb at *;(repeat first|refine tA rfl ?_ |refine s2 rfl λ_ c=>?_ |refine aU rfl ?_ |refine Aa ?_)
     ((refine aC rfl ?_ ?_<;>rintro⟨⟩);(all_goals try (simp at c;done));(all_goals try(exfalso;(simp only[oZ] at *;omega))))
     refine aK ?_;refine aB ?_;(repeat first|(refine sA rfl ?_ ?_;first|exact tI|omega) |refine sP rfl (f) rfl ?_|refine sP rfl (y) rfl ?_ |refine aU rfl ?_ |refine Aa ?_);refine aB ?_;(repeat first|refine tA rfl ?_ |refine s2 rfl λ_ c=>?_ |refine aU rfl ?_ |refine Aa ?_)
     ((refine aC rfl ?_ ?_<;>rintro⟨⟩);(all_goals try (simp at c;done));(all_goals try(exfalso;omega)))
     (repeat first|refine tA rfl ?_ |refine s2 rfl λ_ c=>?_ |refine aU rfl ?_ |refine Aa ?_)
     ((refine aC rfl ?_ ?_<;>rintro⟨⟩);(all_goals try (simp at c;done));(all_goals try(exfalso;omega)))
     (repeat first|refine tA rfl ?_ |refine sP rfl (S) rfl ?_ |refine aU rfl ?_ |refine Aa ?_);refine Aj.Ay [3,4,5,6,10,12] [0,1] rfl rfl [(8,.o (.ptr 0 6 0 0)),(9,.o (.ptr 1 3 0 0)),(15,.o (.ptr 2 6 0 0)),(16,.o (.ptr 3 3 0 0))] [(2,.cells 35 6 [[.d (iD 1),.d (iD 0),.d (.l []),.d (.l []),.d (tD (NH (BQ [s,t] p))),.d (iD ((k:Int)+1))]]),(3,.cells 29 3 [[.d (iD a.al),.d (CW a.nx),.d (E4 a.ac)]])] [0,1,3,4] (rl e rfl) (by (simp[cX,zC,e,cN,BN,Ae,eC])) ?_;(try dsimp only[cA,cB]);refine Aj.AE [2,3] [(8,.o (.ptr 0 6 0 0)),(9,.o (.ptr 1 3 0 0)),(15,.o (.ip (LO ⟨1,IK,NH (BQ [s,t] p),(k:Int)+1⟩))),(16,.o (.ip (AL a)))] ⟨⟨_,rfl,.inl rfl⟩,⟨_,rfl,.inl rfl⟩,⟨_,rfl,.inr (.o (.box rfl (Fe.refl (LO ⟨1,IK,NH (BQ [s,t] p),(k:Int)+1⟩))))⟩,⟨_,rfl,.inr (.o (.box rfl (Fe.refl (AL a))))⟩,trivial⟩ ?_;refine rG (JU [(2,1),(3,1)]) (by kernel_rfl) ?_;(repeat first|refine tA rfl ?_ |refine Aa ?_);(subst_vars;exact aR ⟨_,rfl,rfl⟩)
    ·rw [if_pos (by rcases hb with h|h<;>simp [h])] at y
     rcases J with ⟨F,hlt2⟩|⟨F,N,hk,z⟩
     all_goals
      rw [F] at r
      have X:(k:Int)+1=((k+1:Nat):Int):=by omega
      generalize BR s p al (BL s t p al k)=a at *;generalize Kp s t p al k=la;generalize BL s t p al k=tb at *;(repeat first|refine tA rfl ?_ |refine s2 rfl λ_ c=>?_ |refine aU rfl ?_ |refine Aa ?_)
      ((refine aC rfl ?_ ?_<;>rintro⟨⟩);(all_goals try (simp at c;done));(all_goals try(exfalso;(simp only[oZ] at *;omega))))
      refine aK ?_;refine aB ?_;(repeat first|(refine sA rfl ?_ ?_;first|exact tI|omega) |refine sP rfl (f) rfl ?_|refine sP rfl (y) rfl ?_ |refine aU rfl ?_ |refine Aa ?_);refine aB ?_;(repeat first|refine tA rfl ?_ |refine s2 rfl λ_ c=>?_ |refine aU rfl ?_ |refine Aa ?_)
      ((refine aC rfl ?_ ?_<;>rintro⟨⟩);(all_goals try (simp at c;done));(all_goals try(exfalso;omega)))
      (repeat first|refine tA rfl ?_ |refine s2 rfl λ_ c=>?_ |refine aU rfl ?_ |refine Aa ?_)
      ((refine aC rfl ?_ ?_<;>rintro⟨⟩);(all_goals try (simp at c;done));(all_goals try(exfalso;omega)))
      refine aK ?_;(repeat first|refine tA rfl ?_ |refine sP rfl (r) rfl ?_ |refine aU rfl ?_ |refine Aa ?_)
     ·refine⟨⟨k+1,by omega,by omega,by omega⟩,by dsimp only;(omega),[0,1,2,3,4],?_⟩
      simp[cX,zC,e,cN,g,decide_eq_true (show k+1 < n by omega)]
     ·refine⟨⟨k+1,by omega,by omega,λ_=>by rw [z,X]⟩,by dsimp only;(omega),[0,1,2,3,4],?_⟩
      simp[cX,zC,e,cN,g,N,decide_eq_false (show ¬k+1 < n by omega)]
  ·have hk:k=R.toNat:=by omega
   have e1:Qk s t p al R=⟨2,IK,[],(k:Int)⟩:=by unfold Qk;rw [if_neg (by omega),hk]
   have e2:min n R.toNat=k:=by omega
   have eV:V=⟨2,IK,[],(k:Int)⟩:=by rw [j,e1]
   have eA:A=Kp s t p al k:=by rw [m,e2]
   clear j m;subst eV eA;generalize Kp s t p al k=la;generalize BL s t p al k=tb;(repeat first|refine tA rfl ?_ |refine s2 rfl λ_ c=>?_ |refine aU rfl ?_ |refine Aa ?_)
   ((refine aC rfl ?_ ?_<;>rintro⟨⟩);(all_goals try (simp at c;done));(all_goals try(exfalso;(simp only[oZ] at *;omega))))
   refine aE ?_;(repeat first|refine aU rfl ?_);refine Aj.AE [3,4] [(8,.o (.ptr 0 6 0 0)),(9,.o (.ptr 1 3 0 0)),(15,.o (.ip (LO ⟨2,IK,[],(k:Int)⟩))),(16,.o (.ip (AL la)))] ⟨⟨_,rfl,.inl rfl⟩,⟨_,rfl,.inl rfl⟩,⟨_,rfl,.inr (.o (.box rfl (Fe.refl (LO ⟨2,IK,[],(k:Int)⟩))))⟩,⟨_,rfl,.inr (.o (.box rfl (Fe.refl (AL la))))⟩,trivial⟩ ?_;refine rG (JU [(2,1),(3,1)]) (by kernel_rfl) ?_;(repeat first|refine tA rfl ?_ |refine Aa ?_);(subst_vars;exact aR ⟨_,rfl,rfl⟩)
 ·obtain rfl:k=n:=by omega
  have e1:Qk s t p al R=⟨2,IK,[],(k:Int)⟩:=by unfold Qk;rw [if_pos (by omega)];exact i rfl
  have e2:min k R.toNat=k:=by omega
  simp only [decide_eq_false H]
  have eV:V=⟨2,IK,[],(k:Int)⟩:=by rw [j,e1]
  have eA:A=Kp s t p al k:=by rw [m,e2]
  clear j m;subst eV eA;generalize Kp s t p al k=la;generalize BL s t p al k=tb;(repeat first|refine tA rfl ?_ |refine aU rfl ?_ |refine Aa ?_)
  ((refine aC rfl ?_ ?_<;>rintro⟨⟩);all_goals try (simp at c;done))
  refine aE ?_;(repeat first|refine aU rfl ?_);refine Aj.AE [3,4] [(8,.o (.ptr 0 6 0 0)),(9,.o (.ptr 1 3 0 0)),(15,.o (.ip (LO ⟨2,IK,[],(k:Int)⟩))),(16,.o (.ip (AL la)))] ⟨⟨_,rfl,.inl rfl⟩,⟨_,rfl,.inl rfl⟩,⟨_,rfl,.inr (.o (.box rfl (Fe.refl (LO ⟨2,IK,[],(k:Int)⟩))))⟩,⟨_,rfl,.inr (.o (.box rfl (Fe.refl (AL la))))⟩,trivial⟩ ?_;refine rG (JU [(2,1),(3,1)]) (by kernel_rfl) ?_;(repeat first|refine tA rfl ?_ |refine Aa ?_);(subst_vars;exact aR ⟨_,rfl,rfl⟩)
theorem Lx(s t:Sys)(p:AZ)(a:s.es.length<=1048576):Pure Tryz.prog TB 23 [Bv s,Bv t,Bi p] (dP (Cp s t p)):=by
 by_cases h:Br s p t < 0
 ·have b:=Zl (TB:=TB) h a 12
  rw [SW h];refine eG Tryz.func23 rfl (by kernel_rfl) rfl ?_;intro Z c;(repeat first|refine tA rfl ?_ |refine sP rfl (b) rfl ?_ |refine aU rfl ?_ |refine Aa ?_);(subst_vars;exact aR ⟨_,rfl,rfl⟩)
 ·have hI:=HC h
  have b:=Zm (TB:=TB) hI a 12
  have d:Qk s t p (Br s p t) 12=Cp s t p:=by
   unfold Qk;rw [if_pos (by have:=JD hI;omega)]
  rw [d] at b;generalize Kp s t p (Br s p t) _=la at b;generalize Cp s t p=v at *;refine eG Tryz.func23 rfl (by kernel_rfl) rfl ?_;intro Z c;(repeat first|refine tA rfl ?_ |refine sP rfl (b) rfl ?_ |refine aU rfl ?_ |refine Aa ?_);(subst_vars;exact aR ⟨_,rfl,rfl⟩)
end Go.Am
namespace Go.Am
open Go Go.Proofs
set_option maxHeartbeats 1000000
attribute [local irreducible] AX Cb Lex Bh Aj Spec
variable {TB:Bz}
theorem gM(a:AZ):Pure Tryz.prog TB 11 [Bi a,Bi a] (eB true):=by
 have ag:=PT (TB:=TB) a a;rw [decide_eq_true (⟨rfl,rfl,rfl⟩:a.al=a.al/\a.nx=a.nx/\a.ac=a.ac)] at ag;exact ag
theorem dX(v:Vd):Pure Tryz.prog TB 28 [dP v,dP v] (eB true):=by
 have c:=gM (TB:=TB) v.a;refine eG Tryz.func28 rfl (by kernel_rfl) rfl ?_;intro Z b
 (repeat' first|refine tA rfl ?_ |refine s2 rfl λ_ d=>?_ |refine sP rfl (c) rfl ?_ |refine s3 rfl ?_ ?_<;>rintro rfl |refine aU rfl ?_ |refine Aa ?_|(refine aC rfl ?_ ?_<;>rintro⟨⟩));all_goals try contradiction
 all_goals first
  | (exfalso;simp at *;done)
  | (refine aR ⟨_,rfl,?_⟩;show E.o _=E.o _;congr;first| done|grind)
end Go.Am
namespace Go.Am
open Go Go.Proofs
set_option maxHeartbeats 1000000
attribute [local irreducible] AX Cb Lex Bh Aj Spec
theorem Wq{tabs:List (Nat×Obj)}[hTb:Dt ⟨tabs,none⟩](b:List UInt8):Pure Tryz.prog ⟨tabs,none⟩ 6 [.o (.d (YQ b))] (eB true):=by
 refine eG Tryz.func6 rfl (by kernel_rfl) rfl ?_;intro Z l;(repeat first|refine sN rfl ?_ |refine tA rfl ?_ |refine s2 rfl λ_ c=>?_ |refine aU rfl ?_ |refine Aa ?_);(refine aC rfl ?_ ?_<;>rintro⟨⟩)
 ·(repeat first|refine tA rfl ?_ |refine aU rfl ?_ |refine Aa ?_)
  (subst_vars;exact aR ⟨_,rfl,rfl⟩)
 have g:b.length<=9223372036854775807:=by (simp only[oZ] at *;omega)
 refine aK ?_;(repeat first|refine tA rfl ?_ |refine aU rfl ?_);(refine pW rfl ?_ rfl (by rfl);refine Ai [] rfl rfl (KG (TB:=⟨tabs,none⟩) b g) ⟨rfl,by decide,by decide⟩ rfl trivial ?_;rintro q j k ⟨⟨s,t,p⟩,⟨e,n⟩,rfl,rfl,rfl⟩ _);(repeat first|refine tA rfl ?_);refine Aa ?_;refine Aj.AE [0,1,2] [(3,.o (.ip (AI s))),(4,.o (.ip (AI t))),(5,.o (.ip (AL p)))] ⟨⟨_,rfl,.inr (.o (.box rfl (Fe.refl (AI s))))⟩,⟨_,rfl,.inr (.o (.box rfl (Fe.refl (AI t))))⟩,⟨_,rfl,.inr (.o (.box rfl (Fe.refl (AL p))))⟩,trivial⟩ ?_;have h:=K7 (tabs:=tabs) s t p e;have f:=Lx (TB:=⟨tabs,none⟩) s t p e;have ag:=dX (TB:=⟨tabs,none⟩) (Cp s t p);by_cases hi:Br s p t < 0
 ·rw [SW hi] at h f ag
  (repeat first|refine tA rfl ?_ |refine sP rfl (h) rfl ?_ |refine aU rfl ?_ |refine Aa ?_);refine rG (Gj []) (by kernel_rfl) ?_
  (repeat' first|refine tA rfl ?_ |refine s2 rfl λ_ c=>?_ |refine sP rfl (f) rfl ?_|refine sP rfl (ag) rfl ?_ |refine s3 rfl ?_ ?_<;>rintro rfl |refine aU rfl ?_ |refine Aa ?_|(refine aC rfl ?_ ?_<;>rintro⟨⟩));all_goals try contradiction
  refine rG (Gj []) (by kernel_rfl) ?_
  (repeat' first|refine tA rfl ?_ |refine s2 rfl λ_ c=>?_ |refine sP rfl (f) rfl ?_|refine sP rfl (ag) rfl ?_ |refine s3 rfl ?_ ?_<;>rintro rfl |refine Aa ?_|(refine aC rfl ?_ ?_<;>rintro⟨⟩));all_goals try contradiction
  all_goals (subst_vars;exact aR ⟨_,rfl,rfl⟩)
 ·obtain⟨u,r,i⟩:=fY hi
  obtain⟨⟨code,a,tr,rd⟩,m⟩:∃v,v=Cp s t p:=⟨_,rfl⟩
  simp only [<-m] at *
  rcases i with ⟨rfl,_,rfl,i,_⟩|⟨rfl,rfl,rfl⟩|⟨rfl,_,rfl,rfl,_⟩
  all_goals
   (repeat first|refine tA rfl ?_ |refine sP rfl (h) rfl ?_ |refine aU rfl ?_ |refine Aa ?_);refine rG (Gj []) (by kernel_rfl) ?_
   (repeat' first|refine tA rfl ?_ |refine s2 rfl λ_ c=>?_ |refine sP rfl (f) rfl ?_|refine sP rfl (ag) rfl ?_ |refine s3 rfl ?_ ?_<;>rintro rfl |refine aU rfl ?_ |refine Aa ?_|(refine aC rfl ?_ ?_<;>rintro⟨⟩));all_goals try contradiction
  all_goals first
   | (exfalso;omega;done)
   | (refine aK ?_)
  all_goals (repeat' first|refine sN rfl ?_ |refine tA rfl ?_ |refine s2 rfl λ_ c=>?_ |refine s3 rfl ?_ ?_<;>rintro rfl |refine aU rfl ?_ |refine Aa ?_|(refine aC rfl ?_ ?_<;>rintro⟨⟩));all_goals try contradiction
  all_goals first
   | (exfalso;(simp only[oZ] at *;omega);done)
   | (subst_vars;exact aR ⟨_,rfl,rfl⟩)
   | (dsimp only at *;refine aR ⟨_,rfl,?_⟩;show E.o _=E.o _;congr;grind)
end Go.Am
namespace Go.Proofs.YtbfgijpfhgmepaaGreatDoor
open Go
theorem P0:mapsRowed Tryz.prog=true:=by kernel_rfl
theorem Zb:(Tryz.prog.stops == [])=true:=by kernel_rfl
theorem Y9:(Tryz.prog.stopKnobs == [])=true:=by kernel_rfl
theorem Y8:Tryz.prog.stopsHeard=true:=by kernel_rfl
theorem P4:(false == Tryz.prog.plainKeys)=true:=by kernel_rfl
end Go.Proofs.YtbfgijpfhgmepaaGreatDoor
