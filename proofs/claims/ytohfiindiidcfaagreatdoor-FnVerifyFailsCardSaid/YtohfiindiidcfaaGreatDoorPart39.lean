/-
  What verdicts and assumptions of rounds are like, plainly.
-/
import Derived.Test.YtohfiindiidcfaaGreatDoorPart37
set_option linter.all false
namespace Go.Am
open Go Go.Proofs
set_option maxHeartbeats 1000000
set_option maxRecDepth 4000
attribute [local irreducible] A6 Cz Lex Bv Aj Spec
section
variable {s t:Sys}{p:AX}{al:Int}(hI:Fb s p t al)
include hI
theorem Tp:(BY s t p).rd=(BL s t p al).length:=by
 obtain⟨x,_,_,a⟩:=Nu hI
 rcases a with ⟨e,_⟩|⟨e,_⟩|⟨e,_⟩<;>rw [e]
end
theorem mf{s t:Sys}{p:AX}(h:¬AP s p t < 0):1<=(BY s t p).rd/\(BY s t p).rd<=12/\
    (((BY s t p).code=0/\Du [s,t] p=true/\(BY s t p).tr=[]/\(BY s t p).rd<=(BY s t p).a.nx.length/\EP s t p (BY s t p).a=0)\/
     ((BY s t p).code=2/\(BY s t p).tr=[]/\(BY s t p).a=IV)\/
     ((BY s t p).code=1/\Du [s,t] p=false/\(BY s t p).a=IV/\(BY s t p).tr=Oa (BV [s,t] p)/\(BV [s,t] p).isSome=true)):=by
  have hI:=FO h;have g:=Tp hI;have i:=IB hI;refine⟨by omega,by omega,?_⟩;have hk:=aV h;obtain⟨x,c,_,f⟩:=Nu hI;obtain⟨_,_,j,_⟩:=I0 hI c;have d:=c.rows
  rcases f with ⟨e,b⟩|⟨e,_⟩|⟨e,b⟩
  · rw [e] at hk |-
    refine .inl ⟨rfl,?_,rfl,?_,b⟩
    · rcases hk with ⟨_,hk,_⟩|⟨hk,_⟩|⟨hk,_⟩
      · exact hk
      · cases hk
      · cases hk
    · show ((BL s t p (AP s p t)).length:Int)<=((BH s p (AP s p t) x).nx.length:Nat)
      omega
  · rw [e];exact .inr (.inl ⟨rfl,rfl,rfl⟩)
  · rw [e];exact .inr (.inr ⟨rfl,b.1,rfl,rfl,b.2⟩)
noncomputable def Hj(s t:Sys)(p:AX)(n:Int):Option AX:=if ¬AP s p t < 0/\1<=n/\n<=((BL s t p (AP s p t)).length:Int) then some (BH s p (AP s p t) (BE s t p (AP s p t) (n.toNat - 1))) else none
theorem bO{s t:Sys}{p a:AX}{n:Int}(h:Hj s t p n=some a):∃k:Nat,n=((k+1:Nat):Int)/\¬AP s p t < 0/\k < (BL s t p (AP s p t)).length/\a=BH s p (AP s p t) (BE s t p (AP s p t) k):=by
 unfold Hj at h;split at h
 ·rename_i b
  injection h with h
  exact⟨n.toNat - 1,by omega,b.1,by omega,h.symm⟩
 ·cases h
theorem fm{s t:Sys}{p:AX}{n:Int}(hi:AP s p t < 0):Hj s t p n=none:=by
 unfold Hj;rw [if_neg λh=>h.1 hi]
theorem T8{s t:Sys}{p:AX}{al:Int}(hI:Fb s p t al){x:A1}{r:Nat}(a:Hu s p al x r):Sr (EB s p al) x=some (BH s p al x):=by
 unfold Sr;rw [QW a.v,NZ,Fw,a.o,if_pos (by rfl:(none:Option W).isNone=true)];rfl
theorem jV{s t:Sys}{p a:AX}{n:Int}(h:Hj s t p n=some a):AJ a=true/\a.al=AP s p t/\(∀u v,AR (A7 a.al) u->AR (A7 a.al) v->LA a u=false->LA a (u++v)=false)/\
 (1 < n->∃b,Hj s t p (n - 1)=some b/\b.nx.length < a.nx.length)/\((EP s t p a=0/\n=(BY s t p).rd/\(BY s t p).code=0)\/EP s t p a=3\/EP s t p a=4)/\
 (n=(BY s t p).rd->(BY s t p).code=0->a=(BY s t p).a):=by
 obtain⟨k,rfl,hi,hk,rfl⟩:=bO h;have hI:=FO hi;obtain⟨l,i⟩:=LZ hI hk;obtain⟨F,B,I,H⟩:=I0 hI l;have m:=Tp hI;refine⟨F,B,λu v x r z=>ef (T8 hI l) rfl u v x r z,λy=>?_,?_,λy c=>?_⟩
 ·obtain⟨j,rfl⟩:∃j,k=j+1:=⟨k - 1,by omega⟩
  obtain⟨o,_⟩:=LZ hI (k:=j) (by omega);obtain⟨_,_,G,_⟩:=I0 hI o;refine⟨BH s p (AP s p t) (BE s t p (AP s p t) j),?_,?_⟩
  ·unfold Hj
   rw [if_pos ⟨hi,by omega,by omega⟩];congr 3;omega
  ·have hg:=run_get hI (Ha (s:=s) (t:=t) (p:=p) (al:=AP s p t) (k:=j) (by omega))
   rw [Ha hk] at hg;have:=(SZ o hg.2.symm).2;omega
 ·obtain⟨g,d⟩:=QZ hI l
  rcases i with ⟨f,e,q⟩|⟨w,b,f,_⟩
  ·exact .inl ⟨g.1 f,by rw [m];omega,by rw [e]⟩
  ·rcases d with d|d
   ·rw [g.2 d] at f;cases f
   ·exact .inr d
 ·have A:k+1=(BL s t p (AP s p t)).length:=by omega
  rcases i with ⟨f,e,q⟩|⟨w,b,f,_,_,i⟩
  ·rw [e]
  ·rcases i with ⟨_,_,e,_⟩|⟨_,⟨_,q⟩|⟨_,_,_,e⟩⟩
   ·rw [e] at c;cases c
   ·omega
   ·rw [e] at c;cases c
end Go.Am
namespace Go.Am
open Go Go.Proofs
theorem J5{σ:Ab}{T U S:TypeId}{i j k n m:Nat}{al:Int}{l:Ii}{nx:List (List Int)}{ac:List Bool}(h:look σ i=some (.cells T 1 (AA l)))(g:look σ j=some (.cells U 1 (ac.map AV)))(f:look σ k=some (.sld S (sI l)))(e:l.map (·.2)=nx)(b:l.length=n)(c:ac.length=m):EZ σ (.a [.d (iD al),.arr i 1 0 n,.arr j 1 0 m]) (.a [.d (iD al),.d (CZ nx),.d (Fc ac)]):=by
 subst b c e;exact .a (ds:=[iD al,CZ (l.map (·.2)),Fc ac]) (.cons .d (.cons (.MB h f) (.cons (.full g (by simp [d5]) (gt _)) .nil)))
end Go.Am
namespace Go.Am
open Go Go.Proofs
set_option maxHeartbeats 1000000
set_option maxRecDepth 4000
attribute [local irreducible] A6 Cz Lex Bv Aj Spec
variable {TB:BF}
theorem Fy(r:Option (List Int)):E.Of (Lm r):=by
 show ∀x∈[(false,[C.d (tD (Oa r))]),(false,[C.d (bD r.isSome)])],∀c∈x.2,C.Of c=true
 simp [C.Of]
theorem l4(v:Vd):Pure Tryz.prog TB 14 [eX v,eX v] (eB true):=by
 have c:=iC (TB:=TB) v.a;refine eG Tryz.func14 rfl (by kernel_rfl) rfl ?_;intro Γ b
 (repeat' first|refine tA rfl ?_ |refine s2 rfl λ_ d=>?_ |refine sP rfl (c) rfl ?_ |refine s3 rfl ?_ ?_<;>rintro rfl |refine aU rfl ?_ |apply Aa|(refine aC rfl ?_ ?_<;>rintro⟨⟩));all_goals try contradiction
 all_goals first
  | (exfalso;simp at *;done)
  | (refine aR ⟨_,rfl,?_⟩;show E.o _=E.o _;congr;first| done|grind)
end Go.Am
namespace Go.Am
open Go Go.Proofs
set_option maxHeartbeats 1000000
set_option maxRecDepth 4000
attribute [local irreducible] A6 Cz Lex Bv Aj Spec
theorem JS.iG{P:Program}{TB:BF}{c:C}{L:W->Bool}{ok:W->Prop}(h:JS P TB c L ok){w:W}{b:Bool}(hb:L w=b)(i:ok w){Γ:Ctx}{d:Option Tmp}{ty:TypeId}{pos:String}{af:Array Edge}{g:Option (Nat×Bool)}{f:Env}{σ:Ab}{nx:Nat}{x a:Operand}{tys:Array TypeId}
 (e:ev f x=some (.o c)) (ha:ev f a=some (eT w)):A6 P TB Γ ⟨d,.call ⟨.value x,#[a],tys⟩,ty,pos,af,g⟩ f σ nx (eB b):=hb ▸ h.ask e ha i
theorem kB{m:Nat}{L:W->Bool}{ok:W->Prop}{X:BF->Ctx->C->Prop}{Y:Prop}(h:∀(TB1:BF) (Γ1:Ctx) (a:C),Γ1.V.nx=m->C8 TB1->JS Tryz.prog TB1 a L ok->X TB1 Γ1 a)
 (hk:(∀(TB1:BF) (Γ1:Ctx) (a:C),Γ1.V.nx=m->C8 TB1->JS Tryz.prog TB1 a L ok->X TB1 Γ1 a)->Y):Y:=hk h
theorem UU{tabs:List (Nat×Obj)}[g:C8 ⟨tabs,none⟩]{te:EE}{ok:W->Prop}(c:te.kn=false)(b:CN te=true)(a:∀w,ok w->kc (A5 te) w)(f:TE te ok) :
 ∃(t:CM) (m:GG),Ny t ok m/\AS Tryz.prog ⟨tabs,none⟩ 64 0 [] 0 [EL te] (λx σ nx=>x=.t [(true,[.d (iD (A5 te)),NU (.ptr 0 14 0 0)]),(false,[.d (bD true)])]/\σ=Nk t m/\nx=5)/\
  ∀r,JS Tryz.prog ⟨tabs,some (P8 t ok,r)⟩ (NU (PE r)) (Ce te) ok/\C8 ⟨tabs,some (P8 t ok,r)⟩:=by
 obtain⟨kn,p,s,q,al⟩:=te;obtain rfl:kn=false:=c;have ht:Bg ⟨s,q,al⟩=true:=b;obtain⟨m,e,hno⟩:=QH (TB:=⟨tabs,none⟩) p ht ok;exact⟨⟨s,q,al⟩,m,e,hno,λr=>⟨mw ht a (f rfl),jM g⟩⟩
def OM(v:Vd)(x:E)(σ:Ab)(nx:Nat):Prop:=
 (v.a=IV/\x=eX v/\σ=[]/\nx=0)\/
 (∃l:Ii,l.map (·.2)=v.a.nx/\x=.a [.d (iD v.code),.d (iD v.a.al),.arr 0 1 0 l.length,.arr 1 1 0 v.a.ac.length,.d (tD v.tr),.d (iD v.rd)]/\σ=[(0,.cells 64 1 (AA l)),(1,.cells 4 1 (v.a.ac.map AV)),(2,.sld 3 (sI l))]/\nx=3)
section
variable {tabs:List (Nat×Obj)}[hTb:C8 ⟨tabs,none⟩]
include hTb
theorem XE{s t:Sys}{p:AX}{al:Int}(hI:Fb s p t al)(hes:s.es.length<=1048576):AS Tryz.prog ⟨tabs,none⟩ 34 0 [] 0 [Bp s,Bp t,Bc p,.o (.d (.v .nilFunc))] (OM (BY s t p)):=by
 have h1:=J8 (TB:=⟨tabs,none⟩) s p t hes;unfold VI at h1;rw [if_neg (Ux hI),<-hI.hal] at h1;obtain⟨ok,hs0,hf,hgr,hrun⟩:=fj hI (Gq hI)
 let te:EE:=EB s p al
 have H:te.kn=false:=rfl;have hok:CN te=true:=eL hI
 have Z:∀w,ok w->kc (A5 te) w:=λw hw=>by rw [Fw];exact hs0 w hw
 have hf:TE te ok:=hf;obtain⟨hl1,hl2⟩:=IB hI;have h0:=eD (t:=t) hI;unfold SU at h0;rw [if_pos (eL hI),NZ,Fw] at h0;refine AS.Bj (AS.RL (m:=0) (am rfl) Tryz.func34 rfl (by kernel_rfl) (am rfl) ?_);intro Γ f;(repeat first|refine tA rfl ?_ |refine s2 rfl λ_ e=>?_ |refine sP rfl (h1) rfl ?_ |refine aU rfl ?_ |apply Aa)
 ((refine aC rfl ?_ ?_<;>rintro⟨⟩);all_goals try (simp at e;done))
 apply aK;refine Aj.AF [1] [(3,.o (.d (.v .nilFunc))),(4,.o (.ip (AL s))),(5,.o (.ip (AL t))),(6,.o (.ip (AT p))),(8,.o (.ptr 0 6 0 0)),(9,.o (.ip (Mn ⟨s,p,al⟩)))] ⟨⟨_,rfl,.inl rfl⟩,⟨_,rfl,.inl rfl⟩,⟨_,rfl,.inl rfl⟩,⟨_,rfl,.inl rfl⟩,⟨_,rfl,.inl rfl⟩,⟨_,rfl,.inr (.o (.box rfl (Ge.refl (Mn ⟨s,p,al⟩))))⟩,trivial⟩ ?_;refine Aj.Ay [3,4,5,6,8,9] [0] rfl rfl [] [] [0] (rl f rfl) (by (simp[cX,zC,f,cN])) ?_;(try dsimp only[cA,cB]);(repeat first|refine tA rfl ?_|(refine Af rfl ?_;refine gA rfl ?_;first| refine gS (λ_ _=>AB rfl rfl (by rfl) (by rfl)) ?_) |refine aU rfl ?_)
 apply kB (m:=0) (L:=Ce te) (ok:=ok);case hk=>(intro hk;obtain⟨tk,mk,hm,hno,q⟩:=UU (tabs:=tabs) H hok Z hf;((refine pW rfl ?_ rfl (by rfl);refine Ck [] rfl rfl 0 (hno) (by decide) ⟨rfl,by decide,by decide⟩ rfl (by simp[cX,zC,f,A9]) ?_;rintro x0 σ1 nx1 ⟨rfl,rfl,rfl⟩ _);(repeat first|refine tA rfl ?_);apply Aa;refine Aj.mC (P8 tk ok) ⟨mk,hm⟩ 1 [2,3,4,5] (λr=>[(3,.o (.d (.v .nilFunc))),(4,.o (.ip (AL s))),(5,.o (.ip (AL t))),(6,.o (.ip (AT p))),(9,.o (.ip (Mn ⟨s,p,al⟩))),(8,.o (.ptr 0 6 0 0)),(11,.o (.ptr 6 2 0 0))]) (λr=>[(0,.cells 33 6 [[.d (iD 0),.d (iD 0),.d (.l []),.d (.l []),.d (tD []),.d (iD 0)]]),(6,.cells 91 2 [[.d (iD (A5 te)),NU (PE r)]])]) (by decide) rfl (by ((repeat' first|exact tI|rfl|refine And.intro ?_ ?_)<;>(simp[cX,zC,f,A9]<;>rfl))) ⟨_,_,_,_,rfl⟩ (λr=>by repeat' first|exact tI|refine And.intro ⟨_,rfl,.AQ⟩ ?_) (λr=>by repeat' first|exact tI|refine And.intro ⟨by decide,.inl rfl⟩ ?_|refine And.intro ⟨by decide,.inr ⟨_,_,_,_,rfl,rfl,.cons .AQ (.cons .mv .nil)⟩⟩ ?_) λr Γ' Y=>?_;have f:Γ'.V.nx=0:=(by rw [Y];exact f);refine Aj.Ay [3,4,5,6,9] [] rfl rfl [(8,.o (.ptr 0 6 0 0)),(11,.o (.ptr 1 2 0 0))] [(0,.cells 33 6 [[.d (iD 0),.d (iD 0),.d (.l []),.d (.l []),.d (tD []),.d (iD 0)]]),(1,.cells 91 2 [[.d (iD (A5 te)),NU (PE r)]])] [0,6] (rl f rfl) (by (simp[cX,zC,f])) ?_;(try dsimp only[cA,cB]);have U:=q r;obtain⟨TB0,hTB0⟩:∃T,T=(⟨tabs,some (P8 tk ok,r)⟩:BF):=⟨_,rfl⟩;obtain⟨c0,hc0⟩:∃c,c=NU (PE r):=⟨_,rfl⟩;rw [<-hTB0,<-hc0] at U |-;exact hk TB0 Γ' c0 f U.2 U.1))
 case h =>
  intro TB1 Γ1 c1 f hTb1 q
  have q:JS Tryz.prog TB1 c1 (LS ⟨s,p,al⟩) ok:=by rw [<-NZ];exact q
  have eal:A5 te=al:=Fw s p al;rw [eal];clear_value te;have z:=E4 c1 q.Cm;have hnt:=SW q al hgr;rw [h0] at hnt
  have I:∀v:Vd,BY s t p=v->v.a=IV->OM (BY s t p) (eX v) [] 0:=λv h1 h2=>by rw [h1];exact .inl ⟨h2,rfl,rfl,rfl⟩
  (repeat first|refine tA rfl ?_|(refine Af rfl ?_;refine gA rfl ?_;first| refine gS (λ_ _=>Bt rfl rfl (by simp [E.Cm,C.Cm,C.Dl,q.Cm]) (hnt) rfl) ?_) |refine aU rfl ?_ |apply Aa);apply aB;refine aL (α:={k:Nat // k<=(BL s t p al).length/\(k=(BL s t p al).length->BY s t p=⟨2,IV,[],(k:Int)⟩)}) [3,4,5,6,8,9,11,13] [0,1] rfl rfl (λ⟨k,H,M⟩=>[(10,eB (decide (k < (BL s t p al).length))),(14,eI .i64 ((k:Int)+1))]) (λ⟨k,H,M⟩=>[(2,.cells 98 2 [[.d (Cb (BE s t p al k).rows),.d (Cb (BE s t p al k).cols)]])]) 3 (λ⟨k,H,M⟩=>(BL s t p al).length - k) (⟨0,by omega,by omega⟩) f rfl (by ((repeat' first|exact tI|rfl|refine And.intro ?_ ?_)<;>(simp[cX,zC,f,cN,z]<;>rfl))) ?_;rintro⟨k,H,M⟩;(try dsimp only[cA,cB]);refine aS (aB ?_);by_cases K:k < (BL s t p al).length
  ·simp only [decide_eq_true K]
   obtain⟨hx,X⟩:=LZ hI K;have hbd:=TD hx;obtain⟨hao,S⟩:=hrun _ (co (Ha K));have R:=Qr (TB:=TB1) q al (BE s t p al k) hao (hbd.mono (by omega)) hx.o;obtain⟨_,_,_,hcl⟩:=I0 hI hx;have g:=Ff (TB:=TB1) s (BH s p al (BE s t p al k)) p;have A:=IS (TB:=TB1) t (BH s p al (BE s t p al k));have R:AS Tryz.prog TB1 66 0 [] 0 [I9 al c1,Ef (BE s t p al k)] (KQ (BH s p al (BE s t p al k))):=R;(repeat first|refine tA rfl ?_ |refine s2 rfl λ_ e=>?_ |refine aU rfl ?_ |apply Aa)
   ((refine aC rfl ?_ ?_<;>rintro⟨⟩);all_goals try (simp at e;done))
   apply aK;(repeat first|refine tA rfl ?_ |refine aU rfl ?_);(refine pW rfl ?_ rfl (by rfl);refine Ck [] rfl rfl 0 R (by decide) ⟨rfl,by decide,by decide⟩ (by simp [EX,E.Bj,C.Cy,C.Bj,z,eC,I9,Ef]<;>rfl) (by simp[cX,zC,f,cN]) ?_;rintro x0 σ1 nx1 ⟨l,G,rfl,rfl,rfl⟩ _);(repeat first|refine tA rfl ?_);apply Aa;refine Aj.Ay [3,4,5,6,8,9,11,13,14] [0,1,2] rfl rfl [(15,.o (.ptr 6 3 0 0))] [(3,.cells 64 1 (AA l)),(4,.cells 4 1 ((BH s p al (BE s t p al k)).ac.map AV)),(5,.sld 3 (sI l)),(6,.cells 29 3 [[.d (iD (BH s p al (BE s t p al k)).al),.arr 3 1 0 l.length,.arr 4 1 0 (BH s p al (BE s t p al k)).ac.length]])] [0,1,2,3,4,5,6] (rl f rfl) (by (simp[cX,zC,f,cN,Ae,eC,BR,z])) ?_;(try dsimp only[cA,cB]);(repeat first|refine tA rfl ?_|(refine Af rfl ?_;refine gA rfl ?_;first| refine gS (λ_ _=>gn rfl rfl) ?_) |refine aU rfl ?_ |apply Aa)
   ((refine aC rfl ?_ ?_<;>rintro⟨⟩);all_goals try (simp at e;done))
   apply aK
   rcases X with ⟨hr,J,hk⟩|⟨w,b,hr,hon,hwl,X⟩
   ·obtain⟨g1,g2⟩:=Vk hr
    rw [g1] at g;rw [g2] at A
    have hend:∀(x:E) (σ:Ab) (nx:Nat),(∃l:Ii,l.map (·.2)=(BH s p al (BE s t p al k)).nx/\x=.a [.d (iD 0),.d (iD (BH s p al (BE s t p al k)).al),.arr 0 1 0 l.length,.arr 1 1 0 (BH s p al (BE s t p al k)).ac.length,.d (tD []),.d (iD ((k:Int)+1))]/\σ=[(0,.cells 64 1 (AA l)),(1,.cells 4 1 ((BH s p al (BE s t p al k)).ac.map AV)),(2,.sld 3 (sI l))]/\nx=3)->OM (BY s t p) x σ nx:=λx σ nx h=>by rw [J];exact .inr h
    generalize OM (BY s t p)=Q at *;generalize BH s p al (BE s t p al k)=a at *;(repeat first|refine tA rfl ?_ |refine s2 rfl λ_ e=>?_|(refine Af rfl ?_;refine gA rfl ?_;first| refine gQ (A6.QD [(59,Bp s),(60,Bc a),(61,Bc p)] ⟨⟨_,rfl,.AQ rfl⟩,⟨_,rfl,J5 (k:=5) rfl rfl rfl G rfl rfl⟩,⟨_,rfl,.AQ rfl⟩,trivial⟩ (λΓ'=>Bt rfl rfl rfl g rfl) (Fy _)) rfl ?_) |refine aU rfl ?_ |apply Aa)
    ((refine aC rfl ?_ ?_<;>rintro⟨⟩);all_goals try (simp at e;done))
    (repeat first|refine tA rfl ?_ |refine s2 rfl λ_ e=>?_|(refine Af rfl ?_;refine gA rfl ?_;first| refine gQ (A6.QD [(68,Bp t),(69,Bc a)] ⟨⟨_,rfl,.AQ rfl⟩,⟨_,rfl,J5 (k:=5) rfl rfl rfl G rfl rfl⟩,trivial⟩ (λΓ'=>Bt rfl rfl rfl A rfl) (Fy _)) rfl ?_) |refine aU rfl ?_ |apply Aa)
    ((refine aC rfl ?_ ?_<;>rintro⟨⟩);all_goals try (simp at e;done))
    (repeat first|refine tA rfl ?_|(refine Af rfl ?_;refine gA rfl ?_;first| refine gS (λ_ _=>AB rfl rfl (by rfl) (by rfl)) ?_) |refine aU rfl ?_ |apply Aa);exact aR ⟨_,rfl,[3,4,5],.a [.d (iD 0),.d (iD a.al),.arr 0 1 0 l.length,.arr 1 1 0 a.ac.length,.d (tD []),.d (iD ((k:Int)+1))],[(0,.cells 64 1 (AA l)),(1,.cells 4 1 (a.ac.map AV)),(2,.sld 3 (sI l))],⟨λi hi=>absurd hi (kw i),by decide⟩,rfl,by (simp[cX,zC,f,cN,BR,Ae,eC]),hend _ _ _ ⟨l,G,rfl,rfl,rfl⟩⟩
   ·obtain⟨B,hoks⟩:=S w b hr
    have n:=QA (TB:=TB1) q al (BE s t p al k) hbd (Rs hI) hcl hx.o w hoks hon (by omega);have hpv:=Dt (TB:=TB1) [s,t] p
    rcases Vj hI hr with ⟨u,rfl,g1,g2,g3,g4⟩|⟨u,rfl,g0,g1,g2,g3,g4⟩
    ·have j:=NT (TB:=TB1) (Dx u) al (by omega)
     rw [g2] at j;rw [g1] at g
     rcases X with ⟨hb,_⟩|⟨_,⟨y,F⟩|⟨y,P,hk,J⟩⟩
     ·cases hb
     ·rw [y] at n
      generalize BH s p al (BE s t p al k)=a at *;(repeat first|refine tA rfl ?_ |refine s2 rfl λ_ e=>?_|(refine Af rfl ?_;refine gA rfl ?_;first| refine gQ (A6.QD [(59,Bp s),(60,Bc a),(61,Bc p)] ⟨⟨_,rfl,.AQ rfl⟩,⟨_,rfl,J5 (k:=5) rfl rfl rfl G rfl rfl⟩,⟨_,rfl,.AQ rfl⟩,trivial⟩ (λΓ'=>Bt rfl rfl rfl g rfl) (Fy _)) rfl ?_) |refine aU rfl ?_ |apply Aa)
      ((refine aC rfl ?_ ?_<;>rintro⟨⟩);all_goals try (simp at e;done))
      apply aK;(repeat first|refine tA rfl ?_ |refine s2 rfl λ_ e=>?_ |refine sP rfl (j) rfl ?_ |refine s3 rfl ?_ ?_<;>rintro rfl |refine aU rfl ?_ |apply Aa)
      (repeat' first|refine tA rfl ?_ |apply Aa|(refine aC rfl ?_ ?_<;>rintro⟨⟩));all_goals try contradiction
      apply aK;(repeat first|(refine sA rfl ?_ ?_;first|exact tI|omega)|(refine Af rfl ?_;refine gA rfl ?_;first| refine gS (λ_ _=>Bt rfl rfl (by simp [E.Cm,C.Cm,C.Dl,q.Cm]) (n) rfl) ?_) |refine aU rfl ?_ |apply Aa);refine⟨⟨k+1,by omega,by omega⟩,by dsimp only;(omega),[0,1,2],?_⟩;simp[cX,zC,f,cN,z,F]
     ·rw [y] at n
      generalize BH s p al (BE s t p al k)=a at *;(repeat first|refine tA rfl ?_ |refine s2 rfl λ_ e=>?_|(refine Af rfl ?_;refine gA rfl ?_;first| refine gQ (A6.QD [(59,Bp s),(60,Bc a),(61,Bc p)] ⟨⟨_,rfl,.AQ rfl⟩,⟨_,rfl,J5 (k:=5) rfl rfl rfl G rfl rfl⟩,⟨_,rfl,.AQ rfl⟩,trivial⟩ (λΓ'=>Bt rfl rfl rfl g rfl) (Fy _)) rfl ?_) |refine aU rfl ?_ |apply Aa)
      ((refine aC rfl ?_ ?_<;>rintro⟨⟩);all_goals try (simp at e;done))
      apply aK;(repeat first|refine tA rfl ?_ |refine s2 rfl λ_ e=>?_ |refine sP rfl (j) rfl ?_ |refine s3 rfl ?_ ?_<;>rintro rfl |refine aU rfl ?_ |apply Aa)
      (repeat' first|refine tA rfl ?_ |apply Aa|(refine aC rfl ?_ ?_<;>rintro⟨⟩));all_goals try contradiction
      apply aK;(repeat first|(refine sA rfl ?_ ?_;first|exact tI|omega)|(refine Af rfl ?_;refine gA rfl ?_;first| refine gS (λ_ _=>Bt rfl rfl (by simp [E.Cm,C.Cm,C.Dl,q.Cm]) (n) rfl) ?_) |refine aU rfl ?_ |apply Aa);refine⟨⟨k+1,by omega,λ_=>J⟩,by dsimp only;(omega),[0,1,2],?_⟩;simp[cX,zC,f,cN,z,P,decide_eq_false (show ¬k+1 < (BL s t p al).length by omega)]
    ·have j:=NT (TB:=TB1) (Dx u) al (by omega)
     rw [g2] at j;rw [g0] at g;rw [g1] at A
     rcases X with ⟨_,N,J,hk⟩|⟨hb,X⟩
     ·have I:=I _ J rfl
      generalize BH s p al (BE s t p al k)=a at *;(repeat first|refine tA rfl ?_ |refine s2 rfl λ_ e=>?_|(refine Af rfl ?_;refine gA rfl ?_;first| refine gQ (A6.QD [(59,Bp s),(60,Bc a),(61,Bc p)] ⟨⟨_,rfl,.AQ rfl⟩,⟨_,rfl,J5 (k:=5) rfl rfl rfl G rfl rfl⟩,⟨_,rfl,.AQ rfl⟩,trivial⟩ (λΓ'=>Bt rfl rfl rfl g rfl) (Fy _)) rfl ?_) |refine aU rfl ?_ |apply Aa)
      ((refine aC rfl ?_ ?_<;>rintro⟨⟩);all_goals try (simp at e;done))
      (repeat first|refine tA rfl ?_ |refine s2 rfl λ_ e=>?_|(refine Af rfl ?_;refine gA rfl ?_;first| refine gQ (A6.QD [(68,Bp t),(69,Bc a)] ⟨⟨_,rfl,.AQ rfl⟩,⟨_,rfl,J5 (k:=5) rfl rfl rfl G rfl rfl⟩,trivial⟩ (λΓ'=>Bt rfl rfl rfl A rfl) (Fy _)) rfl ?_) |refine aU rfl ?_ |apply Aa)
      ((refine aC rfl ?_ ?_<;>rintro⟨⟩);all_goals try (simp at e;done))
      apply aK;(repeat first|refine tA rfl ?_ |refine s2 rfl λ_ e=>?_ |refine sP rfl (j) rfl ?_ |refine s3 rfl ?_ ?_<;>rintro rfl |refine aU rfl ?_ |apply Aa)
      (repeat' first|refine tA rfl ?_ |refine s2 rfl λ_ e=>?_|(refine Af rfl ?_;refine gA rfl ?_;first| refine gS (λ_ _=>q.iG N B rfl rfl) ?_) |refine aU rfl ?_ |apply Aa|(refine aC rfl ?_ ?_<;>rintro⟨⟩));all_goals try contradiction
      (repeat first|refine tA rfl ?_ |refine sP rfl (hpv) rfl ?_|(refine Af rfl ?_;refine gA rfl ?_;first| refine gS (λ_ _=>AB rfl rfl (by rfl) (by rfl)) ?_) |refine aU rfl ?_ |apply Aa);exact aR ⟨_,rfl,[],eX ⟨1,IV,Oa (BV [s,t] p),(k:Int)+1⟩,[],⟨λi hi=>absurd hi (kw i),lm⟩,rfl,by (simp[cX,zC,f,cN,BR,Ae,eC]),I⟩
     ·have N:LS ⟨s,p,al⟩ w=true:=by rcases hb with hb|hb;cases hb;exact hb
      rcases X with ⟨y,F⟩|⟨y,P,hk,J⟩
      ·rw [y] at n
       generalize BH s p al (BE s t p al k)=a at *;(repeat first|refine tA rfl ?_ |refine s2 rfl λ_ e=>?_|(refine Af rfl ?_;refine gA rfl ?_;first| refine gQ (A6.QD [(59,Bp s),(60,Bc a),(61,Bc p)] ⟨⟨_,rfl,.AQ rfl⟩,⟨_,rfl,J5 (k:=5) rfl rfl rfl G rfl rfl⟩,⟨_,rfl,.AQ rfl⟩,trivial⟩ (λΓ'=>Bt rfl rfl rfl g rfl) (Fy _)) rfl ?_) |refine aU rfl ?_ |apply Aa)
       ((refine aC rfl ?_ ?_<;>rintro⟨⟩);all_goals try (simp at e;done))
       (repeat first|refine tA rfl ?_ |refine s2 rfl λ_ e=>?_|(refine Af rfl ?_;refine gA rfl ?_;first| refine gQ (A6.QD [(68,Bp t),(69,Bc a)] ⟨⟨_,rfl,.AQ rfl⟩,⟨_,rfl,J5 (k:=5) rfl rfl rfl G rfl rfl⟩,trivial⟩ (λΓ'=>Bt rfl rfl rfl A rfl) (Fy _)) rfl ?_) |refine aU rfl ?_ |apply Aa)
       ((refine aC rfl ?_ ?_<;>rintro⟨⟩);all_goals try (simp at e;done))
       apply aK;(repeat first|refine tA rfl ?_ |refine s2 rfl λ_ e=>?_ |refine sP rfl (j) rfl ?_ |refine s3 rfl ?_ ?_<;>rintro rfl |refine aU rfl ?_ |apply Aa)
       (repeat' first|refine tA rfl ?_ |refine s2 rfl λ_ e=>?_|(refine Af rfl ?_;refine gA rfl ?_;first| refine gS (λ_ _=>q.iG N B rfl rfl) ?_) |refine aU rfl ?_ |apply Aa|(refine aC rfl ?_ ?_<;>rintro⟨⟩));all_goals try contradiction
       apply aK;(repeat first|(refine sA rfl ?_ ?_;first|exact tI|omega)|(refine Af rfl ?_;refine gA rfl ?_;first| refine gS (λ_ _=>Bt rfl rfl (by simp [E.Cm,C.Cm,C.Dl,q.Cm]) (n) rfl) ?_) |refine aU rfl ?_ |apply Aa);refine⟨⟨k+1,by omega,by omega⟩,by dsimp only;(omega),[0,1,2],?_⟩;simp[cX,zC,f,cN,z,F]
      ·rw [y] at n
       generalize BH s p al (BE s t p al k)=a at *;(repeat first|refine tA rfl ?_ |refine s2 rfl λ_ e=>?_|(refine Af rfl ?_;refine gA rfl ?_;first| refine gQ (A6.QD [(59,Bp s),(60,Bc a),(61,Bc p)] ⟨⟨_,rfl,.AQ rfl⟩,⟨_,rfl,J5 (k:=5) rfl rfl rfl G rfl rfl⟩,⟨_,rfl,.AQ rfl⟩,trivial⟩ (λΓ'=>Bt rfl rfl rfl g rfl) (Fy _)) rfl ?_) |refine aU rfl ?_ |apply Aa)
       ((refine aC rfl ?_ ?_<;>rintro⟨⟩);all_goals try (simp at e;done))
       (repeat first|refine tA rfl ?_ |refine s2 rfl λ_ e=>?_|(refine Af rfl ?_;refine gA rfl ?_;first| refine gQ (A6.QD [(68,Bp t),(69,Bc a)] ⟨⟨_,rfl,.AQ rfl⟩,⟨_,rfl,J5 (k:=5) rfl rfl rfl G rfl rfl⟩,trivial⟩ (λΓ'=>Bt rfl rfl rfl A rfl) (Fy _)) rfl ?_) |refine aU rfl ?_ |apply Aa)
       ((refine aC rfl ?_ ?_<;>rintro⟨⟩);all_goals try (simp at e;done))
       apply aK;(repeat first|refine tA rfl ?_ |refine s2 rfl λ_ e=>?_ |refine sP rfl (j) rfl ?_ |refine s3 rfl ?_ ?_<;>rintro rfl |refine aU rfl ?_ |apply Aa)
       (repeat' first|refine tA rfl ?_ |refine s2 rfl λ_ e=>?_|(refine Af rfl ?_;refine gA rfl ?_;first| refine gS (λ_ _=>q.iG N B rfl rfl) ?_) |refine aU rfl ?_ |apply Aa|(refine aC rfl ?_ ?_<;>rintro⟨⟩));all_goals try contradiction
       apply aK;(repeat first|(refine sA rfl ?_ ?_;first|exact tI|omega)|(refine Af rfl ?_;refine gA rfl ?_;first| refine gS (λ_ _=>Bt rfl rfl (by simp [E.Cm,C.Cm,C.Dl,q.Cm]) (n) rfl) ?_) |refine aU rfl ?_ |apply Aa);refine⟨⟨k+1,by omega,λ_=>J⟩,by dsimp only;(omega),[0,1,2],?_⟩;simp[cX,zC,f,cN,z,P,decide_eq_false (show ¬k+1 < (BL s t p al).length by omega)]
  ·obtain rfl:k=(BL s t p al).length:=by omega
   have J:=M rfl;simp only [decide_eq_false K];(repeat first|refine tA rfl ?_ |refine s2 rfl λ_ e=>?_ |refine aU rfl ?_ |apply Aa)
   ((refine aC rfl ?_ ?_<;>rintro⟨⟩);all_goals try (simp at e;done))
   (repeat first|(refine sA rfl ?_ ?_;first|exact tI|omega)|(refine Af rfl ?_;refine gA rfl ?_;first| refine gS (λ_ _=>AB rfl rfl (by rfl) (by rfl)) ?_) |refine aU rfl ?_ |apply Aa);exact aR ⟨_,rfl,[],eX ⟨2,IV,[],((BL s t p al).length:Int)+1 - 1⟩,[],⟨λi hi=>absurd hi (kw i),lm⟩,rfl,by (simp[cX,zC,f,cN,BR,Ae,eC]),by rw [Int.add_sub_cancel];exact I _ J rfl⟩
theorem VM{s t:Sys}{p:AX}(h:AP s p t < 0)(b:s.es.length<=1048576):AS Tryz.prog ⟨tabs,none⟩ 34 0 [] 0 [Bp s,Bp t,Bc p,.o (.d (.v .nilFunc))] (OM (BY s t p)):=by
 have c:=J8 (TB:=⟨tabs,none⟩) s p t b;unfold VI at c;rw [if_pos h] at c;rw [Zt h];refine AS.Bj (AS.RL (m:=0) (am rfl) Tryz.func34 rfl (by kernel_rfl) (am rfl) ?_);intro Γ a;(repeat first|refine tA rfl ?_ |refine s2 rfl λ_ e=>?_ |refine sP rfl (c) rfl ?_ |refine aU rfl ?_ |apply Aa)
 ((refine aC rfl ?_ ?_<;>rintro⟨⟩);all_goals try (simp at e;done))
 (repeat first|refine tA rfl ?_|(refine Af rfl ?_;refine gA rfl ?_;first| refine gS (λ_ _=>AB rfl rfl (by rfl) (by rfl)) ?_) |refine aU rfl ?_ |apply Aa);exact aR ⟨_,rfl,[],eX ⟨3,IV,[],0⟩,[],⟨λi hi=>absurd hi (kw i),lm⟩,rfl,by (simp[cX,zC,a,cN,BR,Ae,eC]),.inl ⟨rfl,rfl,rfl,rfl⟩⟩
theorem Kx(s t:Sys)(p:AX)(c:s.es.length<=1048576):AS Tryz.prog ⟨tabs,none⟩ 13 0 [] 0 [Bp s,Bp t,Bc p] (OM (BY s t p)):=by
 have j:AS Tryz.prog ⟨tabs,none⟩ 34 0 [] 0 [Bp s,Bp t,Bc p,.o (.d (.v .nilFunc))] (OM (BY s t p)):=by
  by_cases h:AP s p t < 0
  ·exact VM h c
  ·exact XE (FO h) c
 generalize BY s t p=v at *;refine AS.Bj (AS.RL (m:=0) (am rfl) Tryz.func13 rfl (by kernel_rfl) (am rfl) ?_);intro Γ b;(repeat first|refine tA rfl ?_ |refine aU rfl ?_ |apply Aa);(refine pW rfl ?_ rfl (by rfl);refine Ck [] rfl rfl 0 j (by decide) ⟨rfl,by decide,by decide⟩ rfl trivial ?_;rintro k e f (⟨ha,rfl,rfl,rfl⟩|⟨l,g,rfl,rfl,rfl⟩) _)
 ·(repeat first|refine tA rfl ?_ |apply Aa)
  exact aR ⟨_,rfl,[],eX v,[],⟨λi hi=>absurd hi (kw i),lm⟩,rfl,by (simp[cX,zC,b,cN,BR,Ae,eC]),.inl ⟨ha,rfl,rfl,rfl⟩⟩
 ·(repeat first|refine tA rfl ?_ |apply Aa)
  exact aR ⟨_,rfl,[1,2,3],.a [.d (iD v.code),.d (iD v.a.al),.arr 0 1 0 l.length,.arr 1 1 0 v.a.ac.length,.d (tD v.tr),.d (iD v.rd)],[(0,.cells 64 1 (AA l)),(1,.cells 4 1 (v.a.ac.map AV)),(2,.sld 3 (sI l))],⟨λi hi=>absurd hi (kw i),by decide⟩,rfl,by (simp[cX,zC,b,cN,BR,Ae,eC]),.inr ⟨l,g,rfl,rfl,rfl⟩⟩
theorem Yz(s t:Sys)(p:AX)(b:s.es.length<=1048576):Pure Tryz.prog ⟨tabs,none⟩ 13 [Bp s,Bp t,Bc p] (eX (BY s t p)):=by
 refine(Kx s t p b).toPure λx σ nx c=>?_;generalize BY s t p=v at *
 rcases c with ⟨_,rfl,rfl,rfl⟩|⟨l,e,rfl,rfl,rfl⟩
 ·exact⟨[],.inl (.AQ rfl)⟩
 ·refine⟨[0,1,2],.inl (.a (ds:=Mq v) (.cons .d (.cons .d (.cons ?_ (.cons (.full rfl (by simp [d5]) (by simp)) (.cons .d (.cons .d .nil)))))))⟩
  rw [<-e];exact .MB (s:=2) rfl rfl
end
end Go.Am
namespace Go.Am
open Go Go.Proofs
set_option maxHeartbeats 1000000
set_option maxRecDepth 4000
attribute [local irreducible] A6 Cz Lex Bv Aj Spec
variable {TB:BF}[C8 TB]
noncomputable def JX(s t:Sys)(p:AX)(al:Int):Nat->AX
 | 0=>IV
 | k+1=>BH s p al (BE s t p al k)
abbrev iT(v:Vd)(a:AX):E:=.t [(true,(Mq v).map .d),(true,(AT a).map .d)]
noncomputable def JZ(s t:Sys)(p:AX)(al:Int)(R:Int):Vd:=if ((BL s t p al).length:Int)<=R then BY s t p else ⟨2,IV,[],(R.toNat:Int)⟩
theorem Ru{s t:Sys}{p:AX}(h:AP s p t < 0)(a:s.es.length<=1048576)(R:Int):Pure Tryz.prog TB 35 [Bp s,Bp t,Bc p,eI .i64 R] (iT ⟨3,IV,[],0⟩ IV):=by
 have b:=Jq (TB:=TB) s p t a;unfold VI at b;rw [if_pos h] at b;refine eG Tryz.func35 rfl (by kernel_rfl) rfl ?_;intro Γ d;(repeat first|refine tA rfl ?_ |refine s2 rfl λ_ c=>?_ |refine sP rfl (b) rfl ?_ |refine aU rfl ?_ |apply Aa)
 ((refine aC rfl ?_ ?_<;>rintro⟨⟩);all_goals try (simp at c;done))
 (repeat first|refine tA rfl ?_|(refine Af rfl ?_;refine gA rfl ?_;first| refine gS (λ_ _=>AB rfl rfl (by rfl) (by rfl)) ?_) |refine aU rfl ?_ |apply Aa);(subst_vars;exact aR ⟨_,rfl,rfl⟩)
theorem Rv{s t:Sys}{p:AX}{al:Int}(hI:Fb s p t al)(Y:s.es.length<=1048576)(R:Int):Pure Tryz.prog TB 35 [Bp s,Bp t,Bc p,eI .i64 R] (iT (JZ s t p al R) (JX s t p al (min (BL s t p al).length R.toNat))):=by
 have h1:=Jq (TB:=TB) s p t Y;unfold VI at h1;rw [if_neg (Ux hI),<-hI.hal] at h1;have h2:=aI (TB:=TB) s p al;rw [eD (t:=t) hI] at h2;obtain⟨U,T⟩:=IB hI
 obtain⟨n,hn⟩:∃n,n=(BL s t p al).length:=⟨_,rfl⟩
 rw [<-hn] at U T |-
 obtain⟨V,j⟩:∃V,V=JZ s t p al R:=⟨_,rfl⟩
 obtain⟨A,m⟩:∃A,A=JX s t p al (min n R.toNat):=⟨_,rfl⟩
 rw [<-j,<-m];refine eG Tryz.func35 rfl (by kernel_rfl) rfl ?_;intro Γ e;(repeat first|refine tA rfl ?_ |refine s2 rfl λ_ c=>?_ |refine sP rfl (h1) rfl ?_ |refine aU rfl ?_ |apply Aa)
 ((refine aC rfl ?_ ?_<;>rintro⟨⟩);all_goals try (simp at c;done))
 apply aK;(repeat first|refine tA rfl ?_ |refine sP rfl (h2) rfl ?_|(refine Af rfl ?_;refine gA rfl ?_;first| refine gS (λ_ _=>AB rfl rfl (by rfl) (by rfl)) ?_) |refine aU rfl ?_ |apply Aa);refine Aj.AF [2,3] [(3,eI .i64 R),(4,.o (.ip (AL s))),(5,.o (.ip (AL t))),(6,.o (.ip (AT p))),(8,.o (.ptr 0 6 0 0)),(9,.o (.ptr 1 3 0 0)),(10,.o (.ip (Mn ⟨s,p,al⟩))),(12,.o (.ip (eJ false IV s p al))),(13,.o (.ptr 4 2 0 0)),(14,eB true),(15,.o (.ptr 5 6 0 0)),(16,.o (.ptr 6 3 0 0))] ⟨⟨_,rfl,.inl rfl⟩,⟨_,rfl,.inl rfl⟩,⟨_,rfl,.inl rfl⟩,⟨_,rfl,.inl rfl⟩,⟨_,rfl,.inl rfl⟩,⟨_,rfl,.inl rfl⟩,⟨_,rfl,.inr (.o (.box rfl (Ge.refl (Mn ⟨s,p,al⟩))))⟩,⟨_,rfl,.inr (.o (.box rfl (Ge.refl (eJ false IV s p al))))⟩,⟨_,rfl,.inl rfl⟩,⟨_,rfl,.inl rfl⟩,⟨_,rfl,.inl rfl⟩,⟨_,rfl,.inl rfl⟩,trivial⟩ ?_;refine Aj.Ay [3,4,5,6,10,12] [0,1] rfl rfl [(8,.o (.ptr 0 6 0 0)),(9,.o (.ptr 1 3 0 0)),(13,.o (.ptr 2 2 0 0)),(14,eB true),(15,.o (.ptr 3 6 0 0)),(16,.o (.ptr 4 3 0 0))] [(2,.cells 98 2 [[.d (Cb (BE s t p al 0).rows),.d (Cb (BE s t p al 0).cols)]]),(3,.cells 33 6 [[.d (iD 2),.d (iD 0),.d (.l []),.d (.l []),.d (tD []),.d (iD 0)]]),(4,.cells 29 3 [[.d (iD 0),.d (.l []),.d (.l [])]])] [0,1,4,5,6] (rl e rfl) (by (simp[cX,zC,e,cN,BR,Ae,eC])) ?_;(try dsimp only[cA,cB]);apply aB;refine aL (α:={k:Nat // k<=n/\k<=R.toNat/\(k=n->BY s t p=⟨2,IV,[],(k:Int)⟩)}) [3,4,5,6,8,9,10,12,13,15,16] [0,1] rfl rfl (λ⟨k,u,x,i⟩=>[(14,eB (decide (k < n)))]) (λ⟨k,u,x,i⟩=>[(2,.cells 98 2 [[.d (Cb (BE s t p al k).rows),.d (Cb (BE s t p al k).cols)]]),(3,.cells 33 6 [[.d (iD 2),.d (iD 0),.d (.l []),.d (.l []),.d (tD []),.d (iD k)]]),(4,.cells 29 3 [[.d (iD (JX s t p al k).al),.d (CZ (JX s t p al k).nx),.d (Fc (JX s t p al k).ac)]])]) 5 (λ⟨k,u,x,i⟩=>n - k) (⟨0,by omega,by omega,by omega⟩) e rfl (by (simp[cX,zC,e,cN,JX,IV,decide_eq_true (show 0 < n by omega)])) ?_;rintro⟨k,u,x,i⟩;(try dsimp only[cA,cB]);by_cases H:k < n
 ·simp only [decide_eq_true H]
  by_cases hR:(k:Int) < R
  ·obtain⟨K,J⟩:=LZ hI (k:=k) (by omega)
   have B:VR (BE s t p al k):=by obtain⟨_,_,_,P,_⟩:=DA K.v;exact P.sz
   have f:=aJ (TB:=TB) s p al (BE s t p al k) B;rw [T8 hI K] at f;obtain⟨hao,_⟩:=I0 hI K;have g:JX s t p al (k+1)=BH s p al (BE s t p al k):=rfl
   have I:k+1=(BL s t p al).length->JZ s t p al R=BY s t p/\min n R.toNat=k+1:=λh=>⟨by unfold JZ;rw [if_pos (by omega)],by omega⟩
   rcases J with ⟨Q,z,hk⟩|⟨w,b,Q,G,q,J⟩
   ·have y:=UA (TB:=TB) hI Q
    obtain⟨M,L⟩:=I hk
    have eV:V=⟨0,BH s p al (BE s t p al k),[],(k:Int)+1⟩:=by rw [j,M,z]
    have eA:A=BH s p al (BE s t p al k):=by rw [m,L,g]
    clear j m;subst eV eA;have Z:=JB (TB:=TB) (BH s p al (BE s t p al k)) (OQ hao);generalize BH s p al (BE s t p al k)=a at *;generalize JX s t p al k=la;generalize BE s t p al k=tb at *;(repeat first|refine tA rfl ?_ |refine s2 rfl λ_ c=>?_ |refine aU rfl ?_ |apply Aa)
    ((refine aC rfl ?_ ?_<;>rintro⟨⟩);(all_goals try (simp at c;done));(all_goals try(exfalso;(simp only[oZ] at *;omega))))
    apply aK;apply aB;(repeat first|(refine sA rfl ?_ ?_;first|exact tI|omega) |refine sP rfl (f) rfl ?_|refine sP rfl (y) rfl ?_ |refine aU rfl ?_ |apply Aa);apply aB;(repeat first|refine tA rfl ?_ |refine s2 rfl λ_ c=>?_ |refine aU rfl ?_ |apply Aa)
    ((refine aC rfl ?_ ?_<;>rintro⟨⟩);(all_goals try (simp at c;done));(all_goals try(exfalso;omega)))
    (repeat first|refine tX rfl ?_ |refine aU rfl ?_ |apply Aa);(refine pW rfl ?_ rfl (by rfl);refine Ck [] rfl rfl 0 (Z) (by decide) ⟨rfl,by decide,by decide⟩ rfl (by simp[cX,zC,e,cN]) ?_;rintro x0 σ1 nx1 ⟨l,hl,rfl,rfl,rfl⟩ _);(repeat first|refine tX rfl ?_ |refine aU rfl ?_ |apply Aa);refine Aj.Ay [3,4,5,6,10,12] [0,1] rfl rfl [(8,.o (.ptr 0 6 0 0)),(9,.o (.ptr 1 3 0 0)),(15,.o (.ptr 2 6 0 0)),(16,.o (.ptr 3 3 0 0))] [(2,.cells 33 6 [[.d (iD 0),.d (iD a.al),.arr 4 1 0 l.length,.arr 5 1 0 a.ac.length,.d (tD []),.d (iD ((k:Int)+1))]]),(3,.cells 29 3 [[.d (iD a.al),.d (CZ a.nx),.d (Fc a.ac)]]),(4,.cells 64 1 (AA l)),(5,.cells 4 1 (a.ac.map AV)),(6,.sld 3 (sI l))] [0,1,3,4,6,7,8] (rl e rfl) (by (simp[cX,zC,e,cN,BR,Ae,eC])) ?_;(try dsimp only[cA,cB]);refine Aj.AF [2,3,4,5,6] [(8,.o (.ptr 0 6 0 0)),(9,.o (.ptr 1 3 0 0)),(15,.o (.ip (Mq ⟨0,⟨a.al,l.map (·.2),a.ac⟩,[],(k:Int)+1⟩))),(16,.o (.ip (AT a)))] ⟨⟨_,rfl,.inl rfl⟩,⟨_,rfl,.inl rfl⟩,⟨_,rfl,.inr (.o (.box rfl (.cons .d (.cons .d (.cons (.MB (s:=6) rfl rfl) (.cons (.full rfl (by simp [d5]) (by simp)) (.cons .d (.cons .d .nil))))))))⟩,⟨_,rfl,.inr (.o (.box rfl (Ge.refl (AT a))))⟩,trivial⟩ ?_;rw [hl];refine rG (J6 [(2,1),(3,1)]) (by kernel_rfl) ?_;(repeat first|refine tA rfl ?_ |apply Aa);(subst_vars;exact aR ⟨_,rfl,rfl⟩)
   ·have y:=UB (TB:=TB) hI Q G q
    have S:=Fi (TB:=TB) [s,t] p;have r:=Xu (TB:=TB) s p al (BE s t p al k) B w q;rw [Zk hI K G q] at r
    rcases J with ⟨rfl,hb0,z,hk⟩|⟨hb,J⟩
    ·rw [hb0,qJ,if_neg o8] at y
     obtain⟨M,L⟩:=I hk
     have eV:V=⟨1,IV,Oa (BV [s,t] p),(k:Int)+1⟩:=by rw [j,M,z]
     have eA:A=BH s p al (BE s t p al k):=by rw [m,L,g]
     clear j m;subst eV eA;generalize BH s p al (BE s t p al k)=a at *;generalize JX s t p al k=la;generalize BE s t p al k=tb at *;(repeat first|refine tA rfl ?_ |refine s2 rfl λ_ c=>?_ |refine aU rfl ?_ |apply Aa)
     ((refine aC rfl ?_ ?_<;>rintro⟨⟩);(all_goals try (simp at c;done));(all_goals try(exfalso;(simp only[oZ] at *;omega))))
     apply aK;apply aB;(repeat first|(refine sA rfl ?_ ?_;first|exact tI|omega) |refine sP rfl (f) rfl ?_|refine sP rfl (y) rfl ?_ |refine aU rfl ?_ |apply Aa);apply aB;(repeat first|refine tA rfl ?_ |refine s2 rfl λ_ c=>?_ |refine aU rfl ?_ |apply Aa)
     ((refine aC rfl ?_ ?_<;>rintro⟨⟩);(all_goals try (simp at c;done));(all_goals try(exfalso;omega)))
     (repeat first|refine tA rfl ?_ |refine s2 rfl λ_ c=>?_ |refine aU rfl ?_ |apply Aa)
     ((refine aC rfl ?_ ?_<;>rintro⟨⟩);(all_goals try (simp at c;done));(all_goals try(exfalso;omega)))
     (repeat first|refine tA rfl ?_ |refine sP rfl (S) rfl ?_ |refine aU rfl ?_ |apply Aa);refine Aj.Ay [3,4,5,6,10,12] [0,1] rfl rfl [(8,.o (.ptr 0 6 0 0)),(9,.o (.ptr 1 3 0 0)),(15,.o (.ptr 2 6 0 0)),(16,.o (.ptr 3 3 0 0))] [(2,.cells 33 6 [[.d (iD 1),.d (iD 0),.d (.l []),.d (.l []),.d (tD (Oa (BV [s,t] p))),.d (iD ((k:Int)+1))]]),(3,.cells 29 3 [[.d (iD a.al),.d (CZ a.nx),.d (Fc a.ac)]])] [0,1,3,4] (rl e rfl) (by (simp[cX,zC,e,cN,BR,Ae,eC])) ?_;(try dsimp only[cA,cB]);refine Aj.AF [2,3] [(8,.o (.ptr 0 6 0 0)),(9,.o (.ptr 1 3 0 0)),(15,.o (.ip (Mq ⟨1,IV,Oa (BV [s,t] p),(k:Int)+1⟩))),(16,.o (.ip (AT a)))] ⟨⟨_,rfl,.inl rfl⟩,⟨_,rfl,.inl rfl⟩,⟨_,rfl,.inr (.o (.box rfl (Ge.refl (Mq ⟨1,IV,Oa (BV [s,t] p),(k:Int)+1⟩))))⟩,⟨_,rfl,.inr (.o (.box rfl (Ge.refl (AT a))))⟩,trivial⟩ ?_;refine rG (J6 [(2,1),(3,1)]) (by kernel_rfl) ?_;(repeat first|refine tA rfl ?_ |apply Aa);(subst_vars;exact aR ⟨_,rfl,rfl⟩)
    ·rw [if_pos (by rcases hb with h|h<;>simp [h])] at y
     rcases J with ⟨F,hlt2⟩|⟨F,N,hk,z⟩
     all_goals
      rw [F] at r
      have X:(k:Int)+1=((k+1:Nat):Int):=by omega
      generalize BH s p al (BE s t p al k)=a at *;generalize JX s t p al k=la;generalize BE s t p al k=tb at *;(repeat first|refine tA rfl ?_ |refine s2 rfl λ_ c=>?_ |refine aU rfl ?_ |apply Aa)
      ((refine aC rfl ?_ ?_<;>rintro⟨⟩);(all_goals try (simp at c;done));(all_goals try(exfalso;(simp only[oZ] at *;omega))))
      apply aK;apply aB;(repeat first|(refine sA rfl ?_ ?_;first|exact tI|omega) |refine sP rfl (f) rfl ?_|refine sP rfl (y) rfl ?_ |refine aU rfl ?_ |apply Aa);apply aB;(repeat first|refine tA rfl ?_ |refine s2 rfl λ_ c=>?_ |refine aU rfl ?_ |apply Aa)
      ((refine aC rfl ?_ ?_<;>rintro⟨⟩);(all_goals try (simp at c;done));(all_goals try(exfalso;omega)))
      (repeat first|refine tA rfl ?_ |refine s2 rfl λ_ c=>?_ |refine aU rfl ?_ |apply Aa)
      ((refine aC rfl ?_ ?_<;>rintro⟨⟩);(all_goals try (simp at c;done));(all_goals try(exfalso;omega)))
      apply aK;(repeat first|refine tA rfl ?_ |refine sP rfl (r) rfl ?_ |refine aU rfl ?_ |apply Aa)
     ·refine⟨⟨k+1,by omega,by omega,by omega⟩,by dsimp only;(omega),[0,1,2,3,4],?_⟩
      simp[cX,zC,e,cN,g,decide_eq_true (show k+1 < n by omega)]
     ·refine⟨⟨k+1,by omega,by omega,λ_=>by rw [z,X]⟩,by dsimp only;(omega),[0,1,2,3,4],?_⟩
      simp[cX,zC,e,cN,g,N,decide_eq_false (show ¬k+1 < n by omega)]
  ·have hk:k=R.toNat:=by omega
   have e1:JZ s t p al R=⟨2,IV,[],(k:Int)⟩:=by unfold JZ;rw [if_neg (by omega),hk]
   have e2:min n R.toNat=k:=by omega
   have eV:V=⟨2,IV,[],(k:Int)⟩:=by rw [j,e1]
   have eA:A=JX s t p al k:=by rw [m,e2]
   clear j m;subst eV eA;generalize JX s t p al k=la;generalize BE s t p al k=tb;(repeat first|refine tA rfl ?_ |refine s2 rfl λ_ c=>?_ |refine aU rfl ?_ |apply Aa)
   ((refine aC rfl ?_ ?_<;>rintro⟨⟩);(all_goals try (simp at c;done));(all_goals try(exfalso;(simp only[oZ] at *;omega))))
   apply aE;(repeat first|refine aU rfl ?_);refine Aj.AF [3,4] [(8,.o (.ptr 0 6 0 0)),(9,.o (.ptr 1 3 0 0)),(15,.o (.ip (Mq ⟨2,IV,[],(k:Int)⟩))),(16,.o (.ip (AT la)))] ⟨⟨_,rfl,.inl rfl⟩,⟨_,rfl,.inl rfl⟩,⟨_,rfl,.inr (.o (.box rfl (Ge.refl (Mq ⟨2,IV,[],(k:Int)⟩))))⟩,⟨_,rfl,.inr (.o (.box rfl (Ge.refl (AT la))))⟩,trivial⟩ ?_;refine rG (J6 [(2,1),(3,1)]) (by kernel_rfl) ?_;(repeat first|refine tA rfl ?_ |apply Aa);(subst_vars;exact aR ⟨_,rfl,rfl⟩)
 ·obtain rfl:k=n:=by omega
  have e1:JZ s t p al R=⟨2,IV,[],(k:Int)⟩:=by unfold JZ;rw [if_pos (by omega)];exact i rfl
  have e2:min k R.toNat=k:=by omega
  simp only [decide_eq_false H]
  have eV:V=⟨2,IV,[],(k:Int)⟩:=by rw [j,e1]
  have eA:A=JX s t p al k:=by rw [m,e2]
  clear j m;subst eV eA;generalize JX s t p al k=la;generalize BE s t p al k=tb;(repeat first|refine tA rfl ?_ |refine aU rfl ?_ |apply Aa)
  ((refine aC rfl ?_ ?_<;>rintro⟨⟩);all_goals try (simp at c;done))
  apply aE;(repeat first|refine aU rfl ?_);refine Aj.AF [3,4] [(8,.o (.ptr 0 6 0 0)),(9,.o (.ptr 1 3 0 0)),(15,.o (.ip (Mq ⟨2,IV,[],(k:Int)⟩))),(16,.o (.ip (AT la)))] ⟨⟨_,rfl,.inl rfl⟩,⟨_,rfl,.inl rfl⟩,⟨_,rfl,.inr (.o (.box rfl (Ge.refl (Mq ⟨2,IV,[],(k:Int)⟩))))⟩,⟨_,rfl,.inr (.o (.box rfl (Ge.refl (AT la))))⟩,trivial⟩ ?_;refine rG (J6 [(2,1),(3,1)]) (by kernel_rfl) ?_;(repeat first|refine tA rfl ?_ |apply Aa);(subst_vars;exact aR ⟨_,rfl,rfl⟩)
theorem Zh(s t:Sys)(p:AX)(a:s.es.length<=1048576):Pure Tryz.prog TB 15 [Bp s,Bp t,Bc p] (eX (BY s t p)):=by
 by_cases h:AP s p t < 0
 ·have b:=Ru (TB:=TB) h a 12
  rw [Zt h];refine eG Tryz.func15 rfl (by kernel_rfl) rfl ?_;intro Γ c;(repeat first|refine tA rfl ?_ |refine sP rfl (b) rfl ?_ |refine aU rfl ?_ |apply Aa);(subst_vars;exact aR ⟨_,rfl,rfl⟩)
 ·have hI:=FO h
  have b:=Rv (TB:=TB) hI a 12
  have d:JZ s t p (AP s p t) 12=BY s t p:=by
   unfold JZ;rw [if_pos (by have:=IB hI;omega)]
  rw [d] at b;generalize JX s t p (AP s p t) _=la at b;generalize BY s t p=v at *;refine eG Tryz.func15 rfl (by kernel_rfl) rfl ?_;intro Γ c;(repeat first|refine tA rfl ?_ |refine sP rfl (b) rfl ?_ |refine aU rfl ?_ |apply Aa);(subst_vars;exact aR ⟨_,rfl,rfl⟩)
theorem VU(s t:Sys)(p:AX)(f:s.es.length<=1048576)(n:Int):Pure Tryz.prog TB 22 [Bp s,Bp t,Bc p,eI .i64 n] (Uh (Hj s t p n)):=by
 by_cases m:n < 1
 ·have e:Hj s t p n=none:=by unfold Hj;rw [if_neg (by omega)]
  rw [e];refine eG Tryz.func22 rfl (by kernel_rfl) rfl ?_;intro Γ b;(repeat first|refine tA rfl ?_ |refine s2 rfl λ_ a=>?_ |refine aU rfl ?_ |apply Aa)
  ((refine aC rfl ?_ ?_<;>rintro⟨⟩);all_goals try(exfalso;(simp only[oZ] at *;omega)))
  (repeat first|refine tA rfl ?_|(refine Af rfl ?_;refine gA rfl ?_;first| refine gS (λ_ _=>AB rfl rfl (by rfl) (by rfl)) ?_) |refine aU rfl ?_ |apply Aa);(subst_vars;exact aR ⟨_,rfl,rfl⟩)
 ·by_cases h:AP s p t < 0
  ·have e:=Ru (TB:=TB) h f n
   rw [fm h];refine eG Tryz.func22 rfl (by kernel_rfl) rfl ?_;intro Γ b;(repeat first|refine tA rfl ?_ |refine s2 rfl λ_ a=>?_ |refine aU rfl ?_ |apply Aa)
   ((refine aC rfl ?_ ?_<;>rintro⟨⟩);all_goals try(exfalso;(simp only[oZ] at *;omega)))
   apply aK;(repeat first|refine tA rfl ?_ |refine s2 rfl λ_ a=>?_ |refine sP rfl (e) rfl ?_ |refine aU rfl ?_ |apply Aa)
   ((refine aC rfl ?_ ?_<;>rintro⟨⟩);all_goals try(exfalso;(simp only[oZ] at *;omega)))
   (repeat first|refine tA rfl ?_|(refine Af rfl ?_;refine gA rfl ?_;first| refine gS (λ_ _=>AB rfl rfl (by rfl) (by rfl)) ?_) |refine aU rfl ?_ |apply Aa);(subst_vars;exact aR ⟨_,rfl,rfl⟩)
  ·have hI:=FO h
   have e:=Rv (TB:=TB) hI f n;have o:=IB hI;by_cases l:((BL s t p (AP s p t)).length:Int) < n
   ·have j:Hj s t p n=none:=by unfold Hj;rw [if_neg (by omega)]
    have i:JZ s t p (AP s p t) n=BY s t p:=by unfold JZ;rw [if_pos (by omega)]
    have c:=Tp hI;rw [j];rw [i] at e
    obtain⟨⟨code,va,tr,rd⟩,g⟩:∃v,v=BY s t p:=⟨_,rfl⟩
    rw [<-g] at e c
    have c:rd < n:=by have:rd=_:=c;omega
    generalize JX s t p (AP s p t) _=la at e;refine eG Tryz.func22 rfl (by kernel_rfl) rfl ?_;intro Γ b;(repeat first|refine tA rfl ?_ |refine s2 rfl λ_ a=>?_ |refine aU rfl ?_ |apply Aa)
    ((refine aC rfl ?_ ?_<;>rintro⟨⟩);all_goals try(exfalso;(simp only[oZ] at *;omega)))
    apply aK;(repeat first|refine tA rfl ?_ |refine s2 rfl λ_ a=>?_ |refine sP rfl (e) rfl ?_ |refine aU rfl ?_ |apply Aa)
    ((refine aC rfl ?_ ?_<;>rintro⟨⟩);all_goals try(exfalso;(simp only[oZ] at *;omega)))
    (repeat first|refine tA rfl ?_|(refine Af rfl ?_;refine gA rfl ?_;first| refine gS (λ_ _=>AB rfl rfl (by rfl) (by rfl)) ?_) |refine aU rfl ?_ |apply Aa);(subst_vars;exact aR ⟨_,rfl,rfl⟩)
   ·obtain⟨k,rfl⟩:∃k:Nat,n=(k:Int)+1:=⟨n.toNat - 1,by omega⟩
    have j:Hj s t p ((k:Int)+1)=some (BH s p (AP s p t) (BE s t p (AP s p t) k)):=by
     unfold Hj;rw [if_pos ⟨h,by omega,by omega⟩];congr 3
    have i:min (BL s t p (AP s p t)).length ((k:Int)+1).toNat=k+1:=by omega
    have c:(JZ s t p (AP s p t) ((k:Int)+1)).rd=(k:Int)+1:=by
     unfold JZ;by_cases d:((BL s t p (AP s p t)).length:Int)<=(k:Int)+1
     ·rw [if_pos d,Tp hI];omega
     ·rw [if_neg d];show (((k:Int)+1).toNat:Int)=_;omega
    rw [j];rw [i] at e;have e:Pure Tryz.prog TB 35 [Bp s,Bp t,Bc p,eI .i64 ((k:Int)+1)] (iT (JZ s t p (AP s p t) ((k:Int)+1)) (BH s p (AP s p t) (BE s t p (AP s p t) k))):=e;generalize BH s p (AP s p t) (BE s t p (AP s p t) k)=la at *
    obtain⟨⟨code,va,tr,rd⟩,g⟩:∃v,v=JZ s t p (AP s p t) ((k:Int)+1):=⟨_,rfl⟩
    rw [<-g] at e c;have c:rd=(k:Int)+1:=c;refine eG Tryz.func22 rfl (by kernel_rfl) rfl ?_;intro Γ b;(repeat first|refine tA rfl ?_ |refine s2 rfl λ_ a=>?_ |refine aU rfl ?_ |apply Aa)
    ((refine aC rfl ?_ ?_<;>rintro⟨⟩);all_goals try(exfalso;(simp only[oZ] at *;omega)))
    apply aK;(repeat first|refine tA rfl ?_ |refine s2 rfl λ_ a=>?_ |refine sP rfl (e) rfl ?_ |refine aU rfl ?_ |apply Aa)
    ((refine aC rfl ?_ ?_<;>rintro⟨⟩);all_goals try(exfalso;(simp only[oZ] at *;omega)))
    apply aK;(repeat first|refine tA rfl ?_|(refine Af rfl ?_;refine gA rfl ?_;first| refine gS (λ_ _=>AB rfl rfl (by rfl) (by rfl)) ?_) |refine aU rfl ?_ |apply Aa);(subst_vars;exact aR ⟨_,rfl,rfl⟩)
end Go.Am
