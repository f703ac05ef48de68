/-
  The program's task of two systems and a property: walked.
-/
import Derived.Test.YtdipaikojjjebaaGreatDoorPart34
import Derived.Test.YtdipaikojjjebaaGreatDoorPart35
set_option linter.all false
namespace Go.Am
open Go Go.Proofs
set_option maxHeartbeats 1000000
set_option maxRecDepth 4000
attribute [local irreducible] A1 Cr Lex Bs Aj Spec
variable {TB:BA}
theorem W0(l:List DM)(h:l.length<=1048576):Spec Tryz.prog TB 50 [] 0 [.o (.d (DY l))] (λx σ nx=>x=.o (.arr 0 3 0 l.length)/\nx=1/\σ=[(0,.cells 78 3 (l.map A2))]):=by
 refine eN Tryz.func50 rfl (by kernel_rfl) rfl ?_;intro Γ a;(repeat first|refine aU rfl ?_);(refine Ag rfl ?_;refine CO (λ_ _=>Ew rfl) rfl ?_);(repeat first|refine tM rfl ?_|refine aU rfl ?_|apply Aa);(refine pW rfl ?_ rfl (by rfl);refine Kq rfl ?_;intro e b);(repeat first|apply Aa);(refine aC rfl ?_ ?_<;>rintro⟨⟩)
 ·obtain rfl:l=[]:=by simpa using b rfl
  (repeat first|refine aU rfl ?_);(refine pW rfl ?_ rfl (by rfl);refine Gl 3 78 ?_);(repeat first|apply Aa);refine aR ⟨_,rfl,rfl,rfl,rfl⟩
 ·apply aK
  (repeat first|refine aU rfl ?_);(refine pW rfl ?_ rfl (by rfl);refine Br rfl rfl rfl rfl (by simp) (by rfl) (by rfl) (by rfl) (by rfl) ?_);(repeat first|refine tM rfl ?_);(refine pW rfl ?_ rfl (by rfl);refine Al rfl rfl rfl (by first|(simp;done)|(simp;(omega))) rfl (by intro r c;simp only[mu,d8]at c;obtain⟨_,_,rfl⟩:=c;rfl) (by rfl) (ce rfl) (by simp;omega) ?_);(repeat first|refine tM rfl ?_|apply Aa);refine Aj.names [1] [(2,.o (.arr 0 3 0 l.length))] [(0,.cells 78 3 (l.map A2))] (by intro i hi;rw[a]at hi;omega) (by simp) (by simp[cX,zC,a]) (by simp[cX,zC,a]) ?_;refine aR ⟨_,rfl,rfl,rfl,rfl⟩
theorem Jd(s:Sys)(p:A5)(t:Sys)(f:s.es.length<=1048576):Pure Tryz.prog TB 23 [Bi s,Bp p,Bi t] (lg (dC s p t)):=by
 have b:=FM (TB:=TB) s p t;unfold dC;by_cases i:A7 s p t<0
 ·rw[if_pos i]
  refine eG Tryz.func23 rfl (by kernel_rfl) rfl ?_;intro Γ a;(repeat first|refine tA rfl ?_|refine s2 rfl λ_ j=>?_|refine sP rfl (b) rfl ?_|refine aU rfl ?_|apply Aa)
  ((refine aC rfl ?_ ?_<;>rintro⟨⟩);all_goals try(exfalso;(simp only[oZ] at *;omega)))
  (repeat first|refine tA rfl ?_|(refine Ag rfl ?_;refine gA rfl ?_;first|refine gS (λ_ _=>AP rfl rfl (by rfl) (by rfl)) ?_)|refine aU rfl ?_|apply Aa);(subst_vars;exact aR ⟨_,rfl,rfl⟩)
 ·rw[if_neg i]
  have hI:=Ia i;have h:=W0 (TB:=TB) s.es f;have g:=Lg (TB:=TB) p ((YJ hI.hp).upto (by omega));generalize A7 s p t=ai at *;refine eG Tryz.func23 rfl (by kernel_rfl) rfl ?_;intro Γ a;(repeat first|refine aU rfl ?_);(refine pW rfl ?_ rfl (by rfl);refine CY rfl rfl ?_);(repeat first|refine tA rfl ?_|refine s2 rfl λ_ j=>?_|refine sP rfl (b) rfl ?_|refine aU rfl ?_|apply Aa)
  ((refine aC rfl ?_ ?_<;>rintro⟨⟩);all_goals try(exfalso;(simp only[oZ] at *;omega)))
  apply aK;(repeat first|refine tA rfl ?_|refine aU rfl ?_);(refine pW rfl ?_ rfl (by rfl);refine Af [] rfl rfl (h) ⟨rfl,by decide,by decide⟩ rfl (by simp[cX,zC,a,cN]) ?_;rintro k c e ⟨rfl,rfl,rfl⟩ _);(repeat first|refine tA rfl ?_|refine aU rfl ?_|apply Aa);refine rG ⟨Fj [(0,10),(2,1001),(5,1)],X6 [0,1,3,2,4,5,6]⟩ (by kernel_rfl) ?_;(repeat first|refine tA rfl ?_);(refine Ag rfl ?_;refine Cw ?_ rfl ⟨rfl,rfl⟩;refine BR [] rfl rfl 0 g (by decide) ⟨rfl,by decide,by decide⟩ rfl (by simp[cX,zC,a,cN]) ?_;rintro k c e ⟨l,m,rfl,rfl,rfl⟩ _;refine⟨DO 0 rfl rfl,?_⟩);(repeat first|refine tA rfl ?_|(refine Ag rfl ?_;refine gA rfl ?_;first|refine gS (λ_ _=>AP rfl rfl (by rfl) (by rfl)) ?_)|apply Aa);refine Aj.Aw [] [] rfl rfl [(6,.o (.ptr 0 7 0 0)),(7,eB true)] [(0,.cells 49 7 [[.d (iD s.al),.d (iD s.st),.arr 1 3 0 s.es.length,.d (iD p.al),.arr 2 1 0 l.length,.arr 3 1 0 p.ac.length,.d (iD ai)]]),(1,.cells 78 3 (s.es.map A2)),(2,.cells 63 1 (AB l)),(3,.cells 4 1 (p.ac.map AN)),(4,.sld 3 (sI l))] [1,2,3,4,5] (rl a rfl) (by (simp[cX,zC,a,cN,Bt,Ae,eC])) ?_;(try dsimp only[cA,cB]);refine Aj.AD [0,1,2,3,4] [(6,.o (.ip (Qb ⟨s,⟨p.al,l.map (·.2),p.ac⟩,ai⟩))),(7,eB true)] ⟨⟨_,rfl,.inr (.o (.box rfl (.cons .d (.cons .d (.cons (.full rfl (by simp[d7]) (by simp)) (.cons .d (.cons (.ML (s:=4) rfl rfl) (.cons (.full rfl (by simp[d7]) (by simp)) (.cons .d .nil)))))))))⟩,⟨_,rfl,.inl rfl⟩,trivial⟩ ?_;rw[m];(subst_vars;exact aR ⟨_,rfl,rfl⟩)
theorem Mu(w:W)(al:Int)(p:w.length<=1048576):Pure Tryz.prog TB 71 [eT w,eI .i64 al] (eT (LK al w)):=by
 refine eG Tryz.func71 rfl (by kernel_rfl) rfl ?_;intro Γ d;(repeat first|refine tM rfl ?_|refine aU rfl ?_|apply Aa);(refine pW rfl ?_ rfl (by rfl);refine Gl 1 5 ?_);(repeat first|refine tM rfl ?_|refine aU rfl ?_|apply Aa);apply aB;refine aL (α:={k:Nat // k<=w.length}) [0,1,8] [] rfl rfl (λ⟨k,hk⟩=>[(5,.o (.arr 0 1 0 (LK al (w.take k)).length)),(9,eI .i64 k)]) (λ⟨k,hk⟩=>[(0,.cells 5 1 ((LK al (w.take k)).map Fo))]) 1 (λ⟨k,hk⟩=>w.length-k) (⟨0,by omega⟩) d rfl (by (repeat' first|exact tI|rfl|refine And.intro ?_ ?_)) ?_;rintro⟨k,hk⟩;(try dsimp only[cA,cB]);by_cases i:k<w.length
 ·obtain⟨c,n⟩:=get_some i
  have j:w[((k:Nat):Int).toNat]?=some c:=by simpa using n
  have e:=QF (TB:=TB) w k c j;have a:=Lo (TB:=TB) al (if MG c then (c.toNat:Int)-97 else -1);rw[Sq]at a;generalize (if MG c then (c.toNat:Int)-97 else -1:Int)=l at e a;have b:=XI (al:=al) n;have h:=az al (w.take k);rw[nR]at h;(repeat first|refine s2 rfl λ_ f=>?_|refine aU rfl ?_|apply Aa)
  ((refine aC rfl ?_ ?_<;>rintro⟨⟩);all_goals try(exfalso;(simp only[oZ] at *;omega)))
  apply aK;refine aS (aB ?_);cases g:Pa al c
  ·rw[g]at a b
   (repeat first|refine tA rfl ?_|refine sP rfl (e) rfl ?_|refine sP rfl (a) rfl ?_|refine aU rfl ?_|apply Aa)
   ((refine aC rfl ?_ ?_<;>rintro⟨⟩);all_goals try (simp at f;done))
   apply aK;(repeat first|(refine sA rfl ?_ ?_;first|exact tI|omega)|refine aU rfl ?_|apply Aa);refine⟨⟨k+1,by omega⟩,by dsimp only;(omega),[0],?_⟩;simp[cX,zC,d,b,Fo,GW]
  ·rw[g]at a b
   (repeat first|refine tA rfl ?_|refine sP rfl (e) rfl ?_|refine sP rfl (a) rfl ?_|refine aU rfl ?_|apply Aa)
   ((refine aC rfl ?_ ?_<;>rintro⟨⟩);all_goals try (simp at f;done))
   (repeat first|refine tA rfl ?_|(refine s4 rfl ‹_› rfl ?_ ?_;omega)|refine aU rfl ?_);(refine pW rfl ?_ rfl (by rfl);refine Al rfl rfl rfl (by first|(simp;done)|(simp;(omega))) rfl (by intro r m;simp at m;subst m;rfl) (by rfl) (ce rfl) (by simp;omega) ?_);(repeat first|(refine sX rfl ?_ ?_;first|exact tI|omega)|refine aU rfl ?_|apply Aa);refine⟨⟨k+1,by omega⟩,by dsimp only;(omega),[1],?_⟩;simp[cX,zC,d,b,GW,Fo,mE]
 ·obtain rfl:k=w.length:=by omega
  rw[jp] at *;(repeat first|refine s2 rfl λ_ f=>?_|refine aU rfl ?_|apply Aa)
  ((refine aC rfl ?_ ?_<;>rintro⟨⟩);all_goals try(exfalso;(simp only[oZ] at *;omega)))
  apply aE;(repeat first|refine tM rfl ?_|(refine Ag rfl ?_;refine gA rfl ?_;first|refine gQ (Rq (LK al w) rfl rfl (by simp) (by first|rw[mD,lF (by simp)]|rw[mD,VZ,lF (by simp)])) (by rfl) ?_)|refine aU rfl ?_|apply Aa);(subst_vars;exact aR ⟨_,rfl,rfl⟩)
theorem HM[CG TB](s:Sys)(p:A5):Pure Tryz.prog TB 70 [Bi s,Bp p] (Nx (Cn [s] p)):=by
 refine eN Tryz.func70 rfl (by kernel_rfl) rfl ?_;intro Γ a;(repeat' first|refine tA rfl ?_|refine sP rfl (Db [s] p) rfl ?_|refine aU rfl ?_|apply Aa|(refine aC rfl ?_ ?_<;>rintro⟨⟩)|apply aK|apply aE|apply aB|refine aR ⟨_,rfl,?_⟩)
 all_goals rfl
theorem ES(r:Option (List Int)):E.MK (Nx r):=by
 show ∀x∈[(false,[C.d (tD (WT r))]),(false,[C.d (bD r.isSome)])],∀c∈x.2,C.MK c=true
 simp[C.MK]
section
variable [CG TB]{s t:Sys}{p:A5}{al:Int}(hI:Df s p t al)
include hI
end
end Go.Am
namespace Go.Am
open Go
section
variable {P:Program}{TB:BA}{Γ:Ctx}{σ:Ab}
theorem Inv.freeze{V:View}(hi:Inv TB Γ V σ)(ids:List Nat):Inv TB Γ (Fh V (FR σ ids)) (BW ids σ):=by
 have g:∀id o,look (FR σ ids) id=some o->look σ id=some o:=λid o h=>(D0 h).2;have e:Ext V (Fh V (FR σ ids)):=JP;refine⟨hi.os,hi.tape,hi.output,hi.old,?_,?_,hi.ext.trans e,⟨?_,?_,?_,?_⟩,?_,λx n=>⟨.inl (hi.tabs x n).1,(hi.tabs x n).2⟩,hi.hid.same rfl (λ_ h=>.inl h) (λb hb=>hb.elim .inl λ⟨id,o,a,c,m⟩=>.inr ⟨id,o,g _ _ a,c,m⟩) λb ⟨id,o,a,c,hb⟩=>have f:=(A0 ids σ id o a).2;⟨id,o,f,c,(AA e (hi.st.lt id o f)).1 hb⟩⟩
 ·rintro b (hb|⟨id,o,a,c,hb⟩)
  ·exact hi.iLt b hb
  ·exact(hi.st.obj id o (g _ _ a)).blt c hb
 ·rintro b (hb|⟨id,o,a,c,hb⟩)
  ·exact hi.iNew b hb
  ·exact .inr (hi.live id o (g _ _ a) c b hb)
 ·intro id o a
  have:=(A0 ids σ id o a).2;exact(hi.st.obj id o this).AR e (hi.st.lt id o this) λ_ _ _=>rfl
 ·intro id o a;exact hi.st.lt id o (A0 ids σ id o a).2
 ·intro id o a c b d hb
  obtain⟨q,f⟩:=A0 ids σ id o a;have d:=(AA e (hi.st.lt id o f)).1 d
  rcases hb with hb|⟨id',o',j,i,m⟩
  ·exact hi.st.free id o f c b d hb
  ·have p:=D0 j
   exact hi.st.inj id id' o o' f p.2 (λe=>q (e▸p.1)) c i b d m
 ·intro id id' o o' a j l c i b hb d
  have f:=(A0 ids σ id o a).2;have k:=(A0 ids σ id' o' j).2;exact hi.st.inj id id' o o' f k l c i b ((AA e (hi.st.lt id o f)).1 hb) ((AA e (hi.st.lt id' o' k)).1 d)
 ·intro id o a c b hb
  have f:=(A0 ids σ id o a).2;exact hi.live id o f c b ((AA e (hi.st.lt id o f)).1 hb)
theorem ZH{V:View}{e:E}{x:Bool×List C}{v:Value}(h:LB e=some x)(ht:Lb V x v):Bd V e v:=by
 cases e with
 | o c=>injection h with h;subst h;obtain⟨c',b,d⟩:=ht;injection b with b;subst b;exact d
 | a cs=>injection h with h;subst h;exact ht
 | t=>cases h
 | e=>cases h
inductive FT (σ:Ab):List (Bool×List C)->List (Bool×List C)->Prop
 | nil:FT σ [] []
 | cons {e e':E} {x x':Bool×List C} {xs xs':List (Bool×List C)}:LB e=some x->LB e'=some x'->EZ σ e e'->FT σ xs xs'->FT σ (x::xs) (x'::xs')
theorem FT.get{xs xs':List (Bool×List C)}(h:FT σ xs xs'):xs'.length=xs.length/\∀(j:Nat) x',xs'[j]?=some x'->∃x e e',xs[j]?=some x/\LB e=some x/\LB e'=some x'/\EZ σ e e':=by
 induction h with
 | nil=>exact⟨rfl,λj x h=>by simp at h⟩
 | @cons e e' x x' xs xs' f d c _ b=>
  refine⟨by simp[b.1],λj y a=>?_⟩
  cases j with
  | zero=>simp at a;subst a;exact⟨x,e,e',rfl,f,d,c⟩
  | succ j=>exact b.2 j y (by simpa using a)
theorem FT.rel{V:View}{xs xs':List (Bool×List C)}(hi:Inv TB Γ V σ)(h:FT σ xs xs'){v:Value}(c:Bd V (.t xs) v):Bd (Fh V σ) (.t xs') v:=by
 obtain⟨vs,i,g,f⟩:=c;obtain⟨d,hg⟩:=h.get;refine⟨vs,i,by rw[g,d],λj x' v' a b=>?_⟩;obtain⟨x,e,e',n,m,l,k⟩:=hg j x' a;exact E9 l (k.rel hi (ZH m (f j x v' n b)))
theorem AH.toPure{g:FuncId}{args:List E}{post:E->Ab->Nat->Prop}{r:E}(h:AH P TB g 0 [] 0 args post)
 (d:∀x σ nx,post x σ nx->∃ids,EZ (FR σ ids) x r\/∃xs xs',x=.t xs/\r=.t xs'/\FT (FR σ ids) xs xs'):Pure P TB g args r:=
 ⟨h.1,λV vs S hg ha=>(h.2 V vs S hg ha).mono λ_ _ ⟨V',v,x,σ',j,i,b,c,f⟩=>by
  obtain⟨ids,a⟩:=d _ _ _ f
  have e:Jw V 0=V:=by have:=hg.nx;unfold Jw;rw[<-this]
  rw[e]at b;have hi:=b.sub λid o h=>(D0 (σ:=σ') (ids:=ids) h).2;refine⟨Fh V' (FR σ' ids),v,r,BW ids σ',j,i,b.freeze ids,?_,rfl⟩
  rcases a with a|⟨xs,xs',rfl,rfl,a⟩
  ·exact a.rel hi c
  ·exact a.rel hi c⟩
end
section
variable {P:Program}{TB:BA}
end
end Go.Am
namespace Go.Am
open Go Go.Proofs
set_option maxHeartbeats 1000000
set_option maxRecDepth 4000
attribute [local irreducible] A1 Cr Lex Bs Aj Spec
section
variable {s t:Sys}{p:A5}{al:Int}(hI:Df s p t al)
include hI
end
theorem IY.en{P:Program}{TB:BA}{c:C}{L:W->Bool}{ok:W->Prop}(h:IY P TB c L ok){w:W}{b:Bool}(hb:L w=b)(i:ok w){Γ:Ctx}{d:Option Tmp}{ty:TypeId}{pos:String}{af:Array Edge}{g:Option (Nat×Bool)}{f:Env}{σ:Ab}{nx:Nat}{x a:Operand}{tys:Array TypeId}
 (e:ev f x=some (.o c)) (ha:ev f a=some (eT w)):A1 P TB Γ ⟨d,.call ⟨.value x,#[a],tys⟩,ty,pos,af,g⟩ f σ nx (eB b):=hb▸h.ask e ha i
theorem gT{m:Nat}{L:W->Bool}{ok:W->Prop}{X:BA->Ctx->C->Prop}{Y:Prop}(h:∀(TB1:BA) (Γ1:Ctx) (a:C),Γ1.V.nx=m->CG TB1->IY Tryz.prog TB1 a L ok->X TB1 Γ1 a)
 (hk:(∀(TB1:BA) (Γ1:Ctx) (a:C),Γ1.V.nx=m->CG TB1->IY Tryz.prog TB1 a L ok->X TB1 Γ1 a)->Y):Y:=hk h
theorem SC{tabs:List (Nat×Obj)}[g:CG ⟨tabs,none⟩]{te:HS}{ok:W->Prop}(c:te.kn=false)(b:CU te=true)(a:∀w,ok w->gp (Bc te) w)(f:RD te ok) :
 ∃(t:CW) (m:FF),Ma t ok m/\AH Tryz.prog ⟨tabs,none⟩ 66 0 [] 0 [eE te] (λx σ nx=>x=.t [(true,[.d (iD (Bc te)),Mw (.ptr 0 14 0 0)]),(false,[.d (bD true)])]/\σ=LN t m/\nx=5)/\
  ∀r,IY Tryz.prog ⟨tabs,some (ON t ok,r)⟩ (Mw (Oh r)) (Cv te) ok/\CG ⟨tabs,some (ON t ok,r)⟩:=by
 obtain⟨kn,p,s,q,al⟩:=te;obtain rfl:kn=false:=c;have ht:Bu ⟨s,q,al⟩=true:=b;obtain⟨m,e,hno⟩:=Pf (TB:=⟨tabs,none⟩) p ht ok;exact⟨⟨s,q,al⟩,m,e,hno,λr=>⟨jP ht a (f rfl),fR g⟩⟩
def Ni(v:Vd)(x:E)(σ:Ab)(nx:Nat):Prop:=
 (v.a=Up/\x=eF v/\σ=[]/\nx=0)\/
 (∃l:HG,l.map (·.2)=v.a.nx/\x=.a [.d (iD v.code),.d (iD v.a.al),.arr 0 1 0 l.length,.arr 1 1 0 v.a.ac.length,.d (tD v.tr),.d (iD v.rd)]/\σ=[(0,.cells 63 1 (AB l)),(1,.cells 4 1 (v.a.ac.map AN)),(2,.sld 3 (sI l))]/\nx=3)
section
variable {tabs:List (Nat×Obj)}[hTb:CG ⟨tabs,none⟩]
include hTb
theorem UN{s t:Sys}{p:A5}{al:Int}(hI:Df s p t al)(hes:s.es.length<=1048576):AH Tryz.prog ⟨tabs,none⟩ 29 0 [] 0 [Bi s,Bi t,Bp p,.o (.d (.v .nilFunc))] (Ni (CP s t p)):=by
 have h1:=Jd (TB:=⟨tabs,none⟩) s p t hes;unfold dC at h1;rw[if_neg (NO hI),<-hI.hal]at h1;obtain⟨ok,hs0,hf,hgr,hrun⟩:=bN hI (DU hI)
 let te:HS:=EE s p al
 have H:te.kn=false:=rfl;have hok:CU te=true:=OO hI
 have Z:∀w,ok w->gp (Bc te) w:=λw hw=>by rw[Cy];exact hs0 w hw
 have hf:RD te ok:=hf;obtain⟨hl1,hl2⟩:=Rv hI;have h0:=fQ (t:=t) hI;unfold QS at h0;rw[if_pos (OO hI),Ga,Cy]at h0;refine AH.A3 (AH.Pg (m:=0) (ce rfl) Tryz.func29 rfl (by kernel_rfl) (ce rfl) ?_);intro Γ f;(repeat first|refine tA rfl ?_|refine s2 rfl λ_ e=>?_|refine sP rfl (h1) rfl ?_|refine aU rfl ?_|apply Aa)
 ((refine aC rfl ?_ ?_<;>rintro⟨⟩);all_goals try (simp at e;done))
 apply aK;refine Aj.AD [1] [(3,.o (.d (.v .nilFunc))),(4,.o (.ip (Av s))),(5,.o (.ip (Av t))),(6,.o (.ip (AU p))),(8,.o (.ptr 0 6 0 0)),(9,.o (.ip (Qb ⟨s,p,al⟩)))] ⟨⟨_,rfl,.inl rfl⟩,⟨_,rfl,.inl rfl⟩,⟨_,rfl,.inl rfl⟩,⟨_,rfl,.inl rfl⟩,⟨_,rfl,.inl rfl⟩,⟨_,rfl,.inr (.o (.box rfl (EL.refl (Qb ⟨s,p,al⟩))))⟩,trivial⟩ ?_;refine Aj.Aw [3,4,5,6,8,9] [0] rfl rfl [] [] [0] (rl f rfl) (by (simp[cX,zC,f,cN])) ?_;(try dsimp only[cA,cB]);(repeat first|refine tA rfl ?_|(refine Ag rfl ?_;refine gA rfl ?_;first|refine gS (λ_ _=>AP rfl rfl (by rfl) (by rfl)) ?_)|refine aU rfl ?_)
 apply gT (m:=0) (L:=Cv te) (ok:=ok);case hk=>(intro hk;obtain⟨tk,mk,hm,hno,q⟩:=SC (tabs:=tabs) H hok Z hf;((refine pW rfl ?_ rfl (by rfl);refine BR [] rfl rfl 0 (hno) (by decide) ⟨rfl,by decide,by decide⟩ rfl (by simp[cX,zC,f,AZ]) ?_;rintro x0 σ1 nx1 ⟨rfl,rfl,rfl⟩ _);(repeat first|refine tA rfl ?_);apply Aa;refine Aj.jU (ON tk ok) ⟨mk,hm⟩ 1 [2,3,4,5] (λr=>[(3,.o (.d (.v .nilFunc))),(4,.o (.ip (Av s))),(5,.o (.ip (Av t))),(6,.o (.ip (AU p))),(9,.o (.ip (Qb ⟨s,p,al⟩))),(8,.o (.ptr 0 6 0 0)),(11,.o (.ptr 6 2 0 0))]) (λr=>[(0,.cells 33 6 [[.d (iD 0),.d (iD 0),.d (.l []),.d (.l []),.d (tD []),.d (iD 0)]]),(6,.cells 102 2 [[.d (iD (Bc te)),Mw (Oh r)]])]) (by decide) rfl (by ((repeat' first|exact tI|rfl|refine And.intro ?_ ?_)<;>(simp[cX,zC,f,AZ]<;>rfl))) ⟨_,_,_,_,rfl⟩ (λr=>by repeat' first|exact tI|refine And.intro ⟨_,rfl,.AR⟩ ?_) (λr=>by repeat' first|exact tI|refine And.intro ⟨by decide,.inl rfl⟩ ?_|refine And.intro ⟨by decide,.inr ⟨_,_,_,_,rfl,rfl,.cons .AR (.cons .mv .nil)⟩⟩ ?_) λr Γ' Y=>?_;have f:Γ'.V.nx=0:=(by rw[Y];exact f);refine Aj.Aw [3,4,5,6,9] [] rfl rfl [(8,.o (.ptr 0 6 0 0)),(11,.o (.ptr 1 2 0 0))] [(0,.cells 33 6 [[.d (iD 0),.d (iD 0),.d (.l []),.d (.l []),.d (tD []),.d (iD 0)]]),(1,.cells 102 2 [[.d (iD (Bc te)),Mw (Oh r)]])] [0,6] (rl f rfl) (by (simp[cX,zC,f])) ?_;(try dsimp only[cA,cB]);have U:=q r;obtain⟨TB0,hTB0⟩:∃T,T=(⟨tabs,some (ON tk ok,r)⟩:BA):=⟨_,rfl⟩;obtain⟨c0,hc0⟩:∃c,c=Mw (Oh r):=⟨_,rfl⟩;rw[<-hTB0,<-hc0]at U |-;exact hk TB0 Γ' c0 f U.2 U.1))
 case h =>
  intro TB1 Γ1 c1 f hTb1 q
  have q:IY Tryz.prog TB1 c1 (LS ⟨s,p,al⟩) ok:=by rw[<-Ga];exact q
  have eal:Bc te=al:=Cy s p al;rw[eal];clear_value te;have z:=EA c1 q.BY;have hnt:=QU q al hgr;rw[h0]at hnt
  have I:∀v:Vd,CP s t p=v->v.a=Up->Ni (CP s t p) (eF v) [] 0:=λv h1 h2=>by rw[h1];exact .inl ⟨h2,rfl,rfl,rfl⟩
  (repeat first|refine tA rfl ?_|(refine Ag rfl ?_;refine gA rfl ?_;first|refine gS (λ_ _=>Be rfl rfl (by simp[E.BY,C.BY,C.C7,q.BY]) (hnt) rfl) ?_)|refine aU rfl ?_|apply Aa);apply aB;refine aL (α:={k:Nat // k<=(Cf s t p al).length/\(k=(Cf s t p al).length->CP s t p=⟨2,Up,[],(k:Int)⟩)}) [3,4,5,6,8,9,11,13] [0,1] rfl rfl (λ⟨k,H,M⟩=>[(10,eB (decide (k<(Cf s t p al).length))),(14,eI .i64 ((k:Int)+1))]) (λ⟨k,H,M⟩=>[(2,.cells 109 2 [[.d (CE (CX s t p al k).rows),.d (CE (CX s t p al k).cols)]])]) 3 (λ⟨k,H,M⟩=>(Cf s t p al).length-k) (⟨0,by omega,by omega⟩) f rfl (by ((repeat' first|exact tI|rfl|refine And.intro ?_ ?_)<;>(simp[cX,zC,f,cN,z]<;>rfl))) ?_;rintro⟨k,H,M⟩;(try dsimp only[cA,cB]);refine aS (aB ?_);by_cases K:k<(Cf s t p al).length
  ·simp only [decide_eq_true K]
   obtain⟨hx,X⟩:=aF hI K;have hbd:=RC hx;obtain⟨hao,S⟩:=hrun _ (co (Iu K));have R:=O5 (TB:=TB1) q al (CX s t p al k) hao (hbd.mono (by omega)) hx.o;obtain⟨_,_,_,hcl⟩:=Lc hI hx;have g:=EJ (TB:=TB1) s (BL s p al (CX s t p al k)) p;have A:=HM (TB:=TB1) t (BL s p al (CX s t p al k));have R:AH Tryz.prog TB1 68 0 [] 0 [HW al c1,HX (CX s t p al k)] (JH (BL s p al (CX s t p al k))):=R;(repeat first|refine tA rfl ?_|refine s2 rfl λ_ e=>?_|refine aU rfl ?_|apply Aa)
   ((refine aC rfl ?_ ?_<;>rintro⟨⟩);all_goals try (simp at e;done))
   apply aK;(repeat first|refine tA rfl ?_|refine aU rfl ?_);(refine pW rfl ?_ rfl (by rfl);refine BR [] rfl rfl 0 R (by decide) ⟨rfl,by decide,by decide⟩ (by simp[Ey,E.A3,C.Ch,C.A3,z,eC,HW,HX]<;>rfl) (by simp[cX,zC,f,cN]) ?_;rintro x0 σ1 nx1 ⟨l,G,rfl,rfl,rfl⟩ _);(repeat first|refine tA rfl ?_);apply Aa;refine Aj.Aw [3,4,5,6,8,9,11,13,14] [0,1,2] rfl rfl [(15,.o (.ptr 6 3 0 0))] [(3,.cells 63 1 (AB l)),(4,.cells 4 1 ((BL s p al (CX s t p al k)).ac.map AN)),(5,.sld 3 (sI l)),(6,.cells 29 3 [[.d (iD (BL s p al (CX s t p al k)).al),.arr 3 1 0 l.length,.arr 4 1 0 (BL s p al (CX s t p al k)).ac.length]])] [0,1,2,3,4,5,6] (rl f rfl) (by (simp[cX,zC,f,cN,Ae,eC,Bt,z])) ?_;(try dsimp only[cA,cB]);(repeat first|refine tA rfl ?_|(refine Ag rfl ?_;refine gA rfl ?_;first|refine gS (λ_ _=>c7 rfl rfl) ?_)|refine aU rfl ?_|apply Aa)
   ((refine aC rfl ?_ ?_<;>rintro⟨⟩);all_goals try (simp at e;done))
   apply aK
   rcases X with ⟨hr,J,hk⟩|⟨w,b,hr,hon,hwl,X⟩
   ·obtain⟨g1,g2⟩:=ao hr
    rw[g1]at g;rw[g2]at A
    have hend:∀(x:E) (σ:Ab) (nx:Nat),(∃l:HG,l.map (·.2)=(BL s p al (CX s t p al k)).nx/\x=.a [.d (iD 0),.d (iD (BL s p al (CX s t p al k)).al),.arr 0 1 0 l.length,.arr 1 1 0 (BL s p al (CX s t p al k)).ac.length,.d (tD []),.d (iD ((k:Int)+1))]/\σ=[(0,.cells 63 1 (AB l)),(1,.cells 4 1 ((BL s p al (CX s t p al k)).ac.map AN)),(2,.sld 3 (sI l))]/\nx=3)->Ni (CP s t p) x σ nx:=λx σ nx h=>by rw[J];exact .inr h
    generalize Ni (CP s t p)=Q at *;generalize BL s p al (CX s t p al k)=a at *;(repeat first|refine tA rfl ?_|refine s2 rfl λ_ e=>?_|(refine Ag rfl ?_;refine gA rfl ?_;first|refine gQ (A1.Pd [(59,Bi s),(60,Bp a),(61,Bp p)] ⟨⟨_,rfl,.AR rfl⟩,⟨_,rfl,Ja (k:=5) rfl rfl rfl G rfl rfl⟩,⟨_,rfl,.AR rfl⟩,trivial⟩ (λΓ'=>Be rfl rfl rfl g rfl) (ES _)) rfl ?_)|refine aU rfl ?_|apply Aa)
    ((refine aC rfl ?_ ?_<;>rintro⟨⟩);all_goals try (simp at e;done))
    (repeat first|refine tA rfl ?_|refine s2 rfl λ_ e=>?_|(refine Ag rfl ?_;refine gA rfl ?_;first|refine gQ (A1.Pd [(68,Bi t),(69,Bp a)] ⟨⟨_,rfl,.AR rfl⟩,⟨_,rfl,Ja (k:=5) rfl rfl rfl G rfl rfl⟩,trivial⟩ (λΓ'=>Be rfl rfl rfl A rfl) (ES _)) rfl ?_)|refine aU rfl ?_|apply Aa)
    ((refine aC rfl ?_ ?_<;>rintro⟨⟩);all_goals try (simp at e;done))
    (repeat first|refine tA rfl ?_|(refine Ag rfl ?_;refine gA rfl ?_;first|refine gS (λ_ _=>AP rfl rfl (by rfl) (by rfl)) ?_)|refine aU rfl ?_|apply Aa);exact aR ⟨_,rfl,[3,4,5],.a [.d (iD 0),.d (iD a.al),.arr 0 1 0 l.length,.arr 1 1 0 a.ac.length,.d (tD []),.d (iD ((k:Int)+1))],[(0,.cells 63 1 (AB l)),(1,.cells 4 1 (a.ac.map AN)),(2,.sld 3 (sI l))],⟨λi hi=>absurd hi (i8 i),by decide⟩,rfl,by (simp[cX,zC,f,cN,Bt,Ae,eC]),hend _ _ _ ⟨l,G,rfl,rfl,rfl⟩⟩
   ·obtain⟨B,hoks⟩:=S w b hr
    have n:=Pc (TB:=TB1) q al (CX s t p al k) hbd (Sp hI) hcl hx.o w hoks hon (by omega);have hpv:=Db (TB:=TB1) [s,t] p
    rcases ak hI hr with ⟨u,rfl,g1,g2,g3,g4⟩|⟨u,rfl,g0,g1,g2,g3,g4⟩
    ·have j:=Mu (TB:=TB1) (DD u) al (by omega)
     rw[g2]at j;rw[g1]at g
     rcases X with ⟨hb,_⟩|⟨_,⟨y,F⟩|⟨y,P,hk,J⟩⟩
     ·cases hb
     ·rw[y]at n
      generalize BL s p al (CX s t p al k)=a at *;(repeat first|refine tA rfl ?_|refine s2 rfl λ_ e=>?_|(refine Ag rfl ?_;refine gA rfl ?_;first|refine gQ (A1.Pd [(59,Bi s),(60,Bp a),(61,Bp p)] ⟨⟨_,rfl,.AR rfl⟩,⟨_,rfl,Ja (k:=5) rfl rfl rfl G rfl rfl⟩,⟨_,rfl,.AR rfl⟩,trivial⟩ (λΓ'=>Be rfl rfl rfl g rfl) (ES _)) rfl ?_)|refine aU rfl ?_|apply Aa)
      ((refine aC rfl ?_ ?_<;>rintro⟨⟩);all_goals try (simp at e;done))
      apply aK;(repeat first|refine tA rfl ?_|refine s2 rfl λ_ e=>?_|refine sP rfl (j) rfl ?_|refine s3 rfl ?_ ?_<;>rintro rfl|refine aU rfl ?_|apply Aa)
      (repeat' first|refine tA rfl ?_|apply Aa|(refine aC rfl ?_ ?_<;>rintro⟨⟩));all_goals try contradiction
      apply aK;(repeat first|(refine sA rfl ?_ ?_;first|exact tI|omega)|(refine Ag rfl ?_;refine gA rfl ?_;first|refine gS (λ_ _=>Be rfl rfl (by simp[E.BY,C.BY,C.C7,q.BY]) (n) rfl) ?_)|refine aU rfl ?_|apply Aa);refine⟨⟨k+1,by omega,by omega⟩,by dsimp only;(omega),[0,1,2],?_⟩;simp[cX,zC,f,cN,z,F]
     ·rw[y]at n
      generalize BL s p al (CX s t p al k)=a at *;(repeat first|refine tA rfl ?_|refine s2 rfl λ_ e=>?_|(refine Ag rfl ?_;refine gA rfl ?_;first|refine gQ (A1.Pd [(59,Bi s),(60,Bp a),(61,Bp p)] ⟨⟨_,rfl,.AR rfl⟩,⟨_,rfl,Ja (k:=5) rfl rfl rfl G rfl rfl⟩,⟨_,rfl,.AR rfl⟩,trivial⟩ (λΓ'=>Be rfl rfl rfl g rfl) (ES _)) rfl ?_)|refine aU rfl ?_|apply Aa)
      ((refine aC rfl ?_ ?_<;>rintro⟨⟩);all_goals try (simp at e;done))
      apply aK;(repeat first|refine tA rfl ?_|refine s2 rfl λ_ e=>?_|refine sP rfl (j) rfl ?_|refine s3 rfl ?_ ?_<;>rintro rfl|refine aU rfl ?_|apply Aa)
      (repeat' first|refine tA rfl ?_|apply Aa|(refine aC rfl ?_ ?_<;>rintro⟨⟩));all_goals try contradiction
      apply aK;(repeat first|(refine sA rfl ?_ ?_;first|exact tI|omega)|(refine Ag rfl ?_;refine gA rfl ?_;first|refine gS (λ_ _=>Be rfl rfl (by simp[E.BY,C.BY,C.C7,q.BY]) (n) rfl) ?_)|refine aU rfl ?_|apply Aa);refine⟨⟨k+1,by omega,λ_=>J⟩,by dsimp only;(omega),[0,1,2],?_⟩;simp[cX,zC,f,cN,z,P,decide_eq_false (show ¬k+1<(Cf s t p al).length by omega)]
    ·have j:=Mu (TB:=TB1) (DD u) al (by omega)
     rw[g2]at j;rw[g0]at g;rw[g1]at A
     rcases X with ⟨_,N,J,hk⟩|⟨hb,X⟩
     ·have I:=I _ J rfl
      generalize BL s p al (CX s t p al k)=a at *;(repeat first|refine tA rfl ?_|refine s2 rfl λ_ e=>?_|(refine Ag rfl ?_;refine gA rfl ?_;first|refine gQ (A1.Pd [(59,Bi s),(60,Bp a),(61,Bp p)] ⟨⟨_,rfl,.AR rfl⟩,⟨_,rfl,Ja (k:=5) rfl rfl rfl G rfl rfl⟩,⟨_,rfl,.AR rfl⟩,trivial⟩ (λΓ'=>Be rfl rfl rfl g rfl) (ES _)) rfl ?_)|refine aU rfl ?_|apply Aa)
      ((refine aC rfl ?_ ?_<;>rintro⟨⟩);all_goals try (simp at e;done))
      (repeat first|refine tA rfl ?_|refine s2 rfl λ_ e=>?_|(refine Ag rfl ?_;refine gA rfl ?_;first|refine gQ (A1.Pd [(68,Bi t),(69,Bp a)] ⟨⟨_,rfl,.AR rfl⟩,⟨_,rfl,Ja (k:=5) rfl rfl rfl G rfl rfl⟩,trivial⟩ (λΓ'=>Be rfl rfl rfl A rfl) (ES _)) rfl ?_)|refine aU rfl ?_|apply Aa)
      ((refine aC rfl ?_ ?_<;>rintro⟨⟩);all_goals try (simp at e;done))
      apply aK;(repeat first|refine tA rfl ?_|refine s2 rfl λ_ e=>?_|refine sP rfl (j) rfl ?_|refine s3 rfl ?_ ?_<;>rintro rfl|refine aU rfl ?_|apply Aa)
      (repeat' first|refine tA rfl ?_|refine s2 rfl λ_ e=>?_|(refine Ag rfl ?_;refine gA rfl ?_;first|refine gS (λ_ _=>q.en N B rfl rfl) ?_)|refine aU rfl ?_|apply Aa|(refine aC rfl ?_ ?_<;>rintro⟨⟩));all_goals try contradiction
      (repeat first|refine tA rfl ?_|refine sP rfl (hpv) rfl ?_|(refine Ag rfl ?_;refine gA rfl ?_;first|refine gS (λ_ _=>AP rfl rfl (by rfl) (by rfl)) ?_)|refine aU rfl ?_|apply Aa);exact aR ⟨_,rfl,[],eF ⟨1,Up,WT (Cn [s,t] p),(k:Int)+1⟩,[],⟨λi hi=>absurd hi (i8 i),kw⟩,rfl,by (simp[cX,zC,f,cN,Bt,Ae,eC]),I⟩
     ·have N:LS ⟨s,p,al⟩ w=true:=by rcases hb with hb|hb;cases hb;exact hb
      rcases X with ⟨y,F⟩|⟨y,P,hk,J⟩
      ·rw[y]at n
       generalize BL s p al (CX s t p al k)=a at *;(repeat first|refine tA rfl ?_|refine s2 rfl λ_ e=>?_|(refine Ag rfl ?_;refine gA rfl ?_;first|refine gQ (A1.Pd [(59,Bi s),(60,Bp a),(61,Bp p)] ⟨⟨_,rfl,.AR rfl⟩,⟨_,rfl,Ja (k:=5) rfl rfl rfl G rfl rfl⟩,⟨_,rfl,.AR rfl⟩,trivial⟩ (λΓ'=>Be rfl rfl rfl g rfl) (ES _)) rfl ?_)|refine aU rfl ?_|apply Aa)
       ((refine aC rfl ?_ ?_<;>rintro⟨⟩);all_goals try (simp at e;done))
       (repeat first|refine tA rfl ?_|refine s2 rfl λ_ e=>?_|(refine Ag rfl ?_;refine gA rfl ?_;first|refine gQ (A1.Pd [(68,Bi t),(69,Bp a)] ⟨⟨_,rfl,.AR rfl⟩,⟨_,rfl,Ja (k:=5) rfl rfl rfl G rfl rfl⟩,trivial⟩ (λΓ'=>Be rfl rfl rfl A rfl) (ES _)) rfl ?_)|refine aU rfl ?_|apply Aa)
       ((refine aC rfl ?_ ?_<;>rintro⟨⟩);all_goals try (simp at e;done))
       apply aK;(repeat first|refine tA rfl ?_|refine s2 rfl λ_ e=>?_|refine sP rfl (j) rfl ?_|refine s3 rfl ?_ ?_<;>rintro rfl|refine aU rfl ?_|apply Aa)
       (repeat' first|refine tA rfl ?_|refine s2 rfl λ_ e=>?_|(refine Ag rfl ?_;refine gA rfl ?_;first|refine gS (λ_ _=>q.en N B rfl rfl) ?_)|refine aU rfl ?_|apply Aa|(refine aC rfl ?_ ?_<;>rintro⟨⟩));all_goals try contradiction
       apply aK;(repeat first|(refine sA rfl ?_ ?_;first|exact tI|omega)|(refine Ag rfl ?_;refine gA rfl ?_;first|refine gS (λ_ _=>Be rfl rfl (by simp[E.BY,C.BY,C.C7,q.BY]) (n) rfl) ?_)|refine aU rfl ?_|apply Aa);refine⟨⟨k+1,by omega,by omega⟩,by dsimp only;(omega),[0,1,2],?_⟩;simp[cX,zC,f,cN,z,F]
      ·rw[y]at n
       generalize BL s p al (CX s t p al k)=a at *;(repeat first|refine tA rfl ?_|refine s2 rfl λ_ e=>?_|(refine Ag rfl ?_;refine gA rfl ?_;first|refine gQ (A1.Pd [(59,Bi s),(60,Bp a),(61,Bp p)] ⟨⟨_,rfl,.AR rfl⟩,⟨_,rfl,Ja (k:=5) rfl rfl rfl G rfl rfl⟩,⟨_,rfl,.AR rfl⟩,trivial⟩ (λΓ'=>Be rfl rfl rfl g rfl) (ES _)) rfl ?_)|refine aU rfl ?_|apply Aa)
       ((refine aC rfl ?_ ?_<;>rintro⟨⟩);all_goals try (simp at e;done))
       (repeat first|refine tA rfl ?_|refine s2 rfl λ_ e=>?_|(refine Ag rfl ?_;refine gA rfl ?_;first|refine gQ (A1.Pd [(68,Bi t),(69,Bp a)] ⟨⟨_,rfl,.AR rfl⟩,⟨_,rfl,Ja (k:=5) rfl rfl rfl G rfl rfl⟩,trivial⟩ (λΓ'=>Be rfl rfl rfl A rfl) (ES _)) rfl ?_)|refine aU rfl ?_|apply Aa)
       ((refine aC rfl ?_ ?_<;>rintro⟨⟩);all_goals try (simp at e;done))
       apply aK;(repeat first|refine tA rfl ?_|refine s2 rfl λ_ e=>?_|refine sP rfl (j) rfl ?_|refine s3 rfl ?_ ?_<;>rintro rfl|refine aU rfl ?_|apply Aa)
       (repeat' first|refine tA rfl ?_|refine s2 rfl λ_ e=>?_|(refine Ag rfl ?_;refine gA rfl ?_;first|refine gS (λ_ _=>q.en N B rfl rfl) ?_)|refine aU rfl ?_|apply Aa|(refine aC rfl ?_ ?_<;>rintro⟨⟩));all_goals try contradiction
       apply aK;(repeat first|(refine sA rfl ?_ ?_;first|exact tI|omega)|(refine Ag rfl ?_;refine gA rfl ?_;first|refine gS (λ_ _=>Be rfl rfl (by simp[E.BY,C.BY,C.C7,q.BY]) (n) rfl) ?_)|refine aU rfl ?_|apply Aa);refine⟨⟨k+1,by omega,λ_=>J⟩,by dsimp only;(omega),[0,1,2],?_⟩;simp[cX,zC,f,cN,z,P,decide_eq_false (show ¬k+1<(Cf s t p al).length by omega)]
  ·obtain rfl:k=(Cf s t p al).length:=by omega
   have J:=M rfl;simp only[decide_eq_false K];(repeat first|refine tA rfl ?_|refine s2 rfl λ_ e=>?_|refine aU rfl ?_|apply Aa)
   ((refine aC rfl ?_ ?_<;>rintro⟨⟩);all_goals try (simp at e;done))
   (repeat first|(refine sA rfl ?_ ?_;first|exact tI|omega)|(refine Ag rfl ?_;refine gA rfl ?_;first|refine gS (λ_ _=>AP rfl rfl (by rfl) (by rfl)) ?_)|refine aU rfl ?_|apply Aa);exact aR ⟨_,rfl,[],eF ⟨2,Up,[],((Cf s t p al).length:Int)+1-1⟩,[],⟨λi hi=>absurd hi (i8 i),kw⟩,rfl,by (simp[cX,zC,f,cN,Bt,Ae,eC]),by rw[Int.add_sub_cancel];exact I _ J rfl⟩
theorem Tu{s t:Sys}{p:A5}(h:A7 s p t<0)(b:s.es.length<=1048576):AH Tryz.prog ⟨tabs,none⟩ 29 0 [] 0 [Bi s,Bi t,Bp p,.o (.d (.v .nilFunc))] (Ni (CP s t p)):=by
 have c:=Jd (TB:=⟨tabs,none⟩) s p t b;unfold dC at c;rw[if_pos h]at c;rw[IW h];refine AH.A3 (AH.Pg (m:=0) (ce rfl) Tryz.func29 rfl (by kernel_rfl) (ce rfl) ?_);intro Γ a;(repeat first|refine tA rfl ?_|refine s2 rfl λ_ e=>?_|refine sP rfl (c) rfl ?_|refine aU rfl ?_|apply Aa)
 ((refine aC rfl ?_ ?_<;>rintro⟨⟩);all_goals try (simp at e;done))
 (repeat first|refine tA rfl ?_|(refine Ag rfl ?_;refine gA rfl ?_;first|refine gS (λ_ _=>AP rfl rfl (by rfl) (by rfl)) ?_)|refine aU rfl ?_|apply Aa);exact aR ⟨_,rfl,[],eF ⟨3,Up,[],0⟩,[],⟨λi hi=>absurd hi (i8 i),kw⟩,rfl,by (simp[cX,zC,a,cN,Bt,Ae,eC]),.inl ⟨rfl,rfl,rfl,rfl⟩⟩
theorem Js(s t:Sys)(p:A5)(c:s.es.length<=1048576):AH Tryz.prog ⟨tabs,none⟩ 10 0 [] 0 [Bi s,Bi t,Bp p] (Ni (CP s t p)):=by
 have j:AH Tryz.prog ⟨tabs,none⟩ 29 0 [] 0 [Bi s,Bi t,Bp p,.o (.d (.v .nilFunc))] (Ni (CP s t p)):=by
  by_cases h:A7 s p t<0
  ·exact Tu h c
  ·exact UN (Ia h) c
 generalize CP s t p=v at *;refine AH.A3 (AH.Pg (m:=0) (ce rfl) Tryz.func10 rfl (by kernel_rfl) (ce rfl) ?_);intro Γ b;(repeat first|refine tA rfl ?_|refine aU rfl ?_|apply Aa);(refine pW rfl ?_ rfl (by rfl);refine BR [] rfl rfl 0 j (by decide) ⟨rfl,by decide,by decide⟩ rfl trivial ?_;rintro k e f (⟨ha,rfl,rfl,rfl⟩|⟨l,g,rfl,rfl,rfl⟩) _)
 ·(repeat first|refine tA rfl ?_|apply Aa)
  exact aR ⟨_,rfl,[],eF v,[],⟨λi hi=>absurd hi (i8 i),kw⟩,rfl,by (simp[cX,zC,b,cN,Bt,Ae,eC]),.inl ⟨ha,rfl,rfl,rfl⟩⟩
 ·(repeat first|refine tA rfl ?_|apply Aa)
  exact aR ⟨_,rfl,[1,2,3],.a [.d (iD v.code),.d (iD v.a.al),.arr 0 1 0 l.length,.arr 1 1 0 v.a.ac.length,.d (tD v.tr),.d (iD v.rd)],[(0,.cells 63 1 (AB l)),(1,.cells 4 1 (v.a.ac.map AN)),(2,.sld 3 (sI l))],⟨λi hi=>absurd hi (i8 i),by decide⟩,rfl,by (simp[cX,zC,b,cN,Bt,Ae,eC]),.inr ⟨l,g,rfl,rfl,rfl⟩⟩
theorem VA(s t:Sys)(p:A5)(b:s.es.length<=1048576):Pure Tryz.prog ⟨tabs,none⟩ 10 [Bi s,Bi t,Bp p] (eF (CP s t p)):=by
 refine(Js s t p b).toPure λx σ nx c=>?_;generalize CP s t p=v at *
 rcases c with ⟨_,rfl,rfl,rfl⟩|⟨l,e,rfl,rfl,rfl⟩
 ·exact⟨[],.inl (.AR rfl)⟩
 ·refine⟨[0,1,2],.inl (.a (ds:=jt v) (.cons .d (.cons .d (.cons ?_ (.cons (.full rfl (by simp[d7]) (by simp)) (.cons .d (.cons .d .nil)))))))⟩
  rw[<-e];exact .ML (s:=2) rfl rfl
end
end Go.Am
namespace Go.Am
open Go Go.Proofs
set_option maxHeartbeats 1000000
set_option maxRecDepth 4000
attribute [local irreducible] A1 Cr Lex Bs Aj Spec
variable {TB:BA}[CG TB]
theorem HI(s t:Sys):Pure Tryz.prog TB 38 [Bi s,Bi t] (eB (Fs s t)):=by
 have c:=Ed (TB:=TB) s;have b:=Ed (TB:=TB) t;unfold Fs;generalize Ay s=x at *;generalize Ay t=y at *;cases x<;>cases y
 all_goals
  refine eG Tryz.func38 rfl (by kernel_rfl) rfl ?_;intro Γ a
  (repeat' first|refine tA rfl ?_|refine s2 rfl λ_ d=>?_|refine sP rfl (c) rfl ?_|refine sP rfl (b) rfl ?_|refine aU rfl ?_|apply Aa|(refine aC rfl ?_ ?_<;>rintro⟨⟩));all_goals try contradiction
 all_goals first
  | (exfalso;simp at *;done)
  | (subst_vars;refine aR ⟨_,rfl,?_⟩;show E.o _=E.o _;congr;first|done|grind)
abbrev ZM(p:NN):List D:=[iD (p.1:Nat),iD (p.2:Nat)]
theorem Xo(nd:List NN)(p:NN):Pure Tryz.prog TB 100 [.o (.d (.l (nd.map ZM))),.a [.d (iD (p.1:Nat)),.d (iD (p.2:Nat))]] (eI .i64 (if p∈nd then (nd.idxOf p:Int) else -1)):=by
 refine eG Tryz.func100 rfl (by kernel_rfl) rfl ?_;intro Γ b;refine Aj.bound 0 rfl λq=>?_;have t:=q (nd.map ZM) .refl;rw[f7]at t;(repeat first|refine tA rfl ?_|refine aU rfl ?_|apply Aa);apply aB;refine aL (α:={k:Nat // k<=nd.length/\p∉nd.take k}) [0,3] [] rfl rfl (λ⟨k,hk,hs⟩=>[(5,eI .i64 k)]) (λ⟨k,hk,hs⟩=>[]) 0 (λ⟨k,hk,hs⟩=>nd.length-k) (⟨0,by omega,by simp⟩) b rfl (by (simp[cX,zC,b])) ?_;rintro⟨k,hk,hs⟩;(try dsimp only[cA,cB]);have hk:k<=nd.length:=hk;have hs:p∉nd.take k:=hs;by_cases j:k<nd.length
 ·obtain⟨x,f⟩:=get_some j
  have r:=get_map (g:=ZM) f;(repeat first|refine sN rfl ?_|refine tA rfl ?_|refine s2 rfl λ_ c=>?_|refine aU rfl ?_|apply Aa)
  ((refine aC rfl ?_ ?_<;>rintro⟨⟩);all_goals try(exfalso;(simp only[oZ] at *;omega)))
  apply aK;refine aS (aB ?_);(repeat first|refine aU rfl ?_);refine rG (Hf []) (by kernel_rfl) ?_;by_cases n:x=p
  ·subst n
   have hi:nd.idxOf x=k:=by
    have e:nd=nd.take k++x::nd.drop (k+1):=by rw[<-BE f,mx]
    rw[e,pg,if_neg hs,oS];simp;omega
   rw[if_pos (co f),hi]
   (repeat' first|refine tA rfl ?_|(refine s4 rfl ‹_› rfl ?_ ?_;omega)|refine s2 rfl λ_ c=>?_|refine s3 rfl ?_ ?_<;>rintro rfl|refine aU rfl ?_|apply Aa|(refine aC rfl ?_ ?_<;>rintro⟨⟩));all_goals try contradiction
   all_goals first
    | (exfalso;omega;done)
    | (exfalso;simp at *;done)
    | (subst_vars;exact aR ⟨_,rfl,rfl⟩)
  ·have m:¬p=x:=λe=>n e.symm
   have i:p∉nd.take (k+1):=by
    rw[gt,f];simp[hs,m]
   have s:¬(x.1=p.1/\x.2=p.2):=λh=>n (Prod.ext h.1 h.2)
   (repeat' first|refine tA rfl ?_|(refine s4 rfl ‹_› rfl ?_ ?_;omega)|refine s2 rfl λ_ c=>?_|refine s3 rfl ?_ ?_<;>rintro rfl|refine aU rfl ?_|apply Aa|(refine aC rfl ?_ ?_<;>rintro⟨⟩));all_goals try contradiction
   all_goals first
    | (exfalso;(simp only[oZ] at *;omega);done)
    | (exfalso;grind;done)
    | skip
   all_goals
    apply aK;(repeat first|(refine sA rfl ?_ ?_;first|exact tI|omega)|refine aU rfl ?_|apply Aa);refine⟨⟨k+1,by omega,i⟩,by dsimp only;(omega),[],?_⟩;simp[cX,zC,b]
 ·obtain rfl:k=nd.length:=by omega
  rw[jp]at hs;rw[if_neg hs];(repeat first|refine sN rfl ?_|refine tA rfl ?_|refine s2 rfl λ_ c=>?_|refine aU rfl ?_|apply Aa)
  ((refine aC rfl ?_ ?_<;>rintro⟨⟩);all_goals try(exfalso;(simp only[oZ] at *;omega)))
  apply aE;(repeat first|refine tA rfl ?_|refine aU rfl ?_|apply Aa);(subst_vars;exact aR ⟨_,rfl,rfl⟩)
def jz:Option W->E
 | some w=>.t [(false,[.d (tD w)]),(false,[.d (bD true)])]
 | none=>.t [(false,[.d (tD [])]),(false,[.d (bD false)])]
theorem UF(s t:Sys):Spec Tryz.prog TB 37 [] 0 [Bi s,Bi t] (De (λo:Option W=>Fs s t=true->o.isNone=Di s t) jz):=by
 have h1:=HI (TB:=TB) s t;cases hc:Fs s t
 ·rw[hc]at h1
  refine eR Tryz.func37 rfl (by kernel_rfl) rfl ?_;intro Γ e;(repeat first|refine tA rfl ?_|refine s2 rfl λ_ c=>?_|refine sP rfl (h1) rfl ?_|refine aU rfl ?_|apply Aa)
  ((refine aC rfl ?_ ?_<;>rintro⟨⟩);all_goals try (simp at c;done))
  (repeat first|refine tA rfl ?_|refine aU rfl ?_|apply Aa);exact aR ⟨_,rfl,[],jz none,[],⟨λi hi=>absurd hi (i8 i),kw⟩,rfl,trivial,none,(λh=>by cases h),rfl,rfl,rfl⟩
 ·rw [hc]at h1
  have N:=hc;unfold Fs at N;simp only[d4,decide_eq_true_eq]at N;obtain⟨⟨hs,ht⟩,hal⟩:=N;have hl:=Dw (TB:=TB) s.al;have hll:(Ac s.al).length<=6:=AQ s.al 6
  have hlm:∀l∈Ac s.al,0<=l/\l<6:=λl hl=>by have:=Ai hl;omega
  generalize T:Ac s.al=ls at *;refine eR Tryz.func37 rfl (by kernel_rfl) rfl ?_;intro Γ e;(repeat first|refine tA rfl ?_|refine s2 rfl λ_ c=>?_|refine sP rfl (h1) rfl ?_|refine aU rfl ?_|apply Aa)
  ((refine aC rfl ?_ ?_<;>rintro⟨⟩);all_goals try (simp at c;done))
  apply aK;(repeat first|refine tX rfl ?_|refine sP rfl (hl) rfl ?_|(refine Ag rfl ?_;refine gA rfl ?_;first|refine gS (λ_ _=>AP rfl rfl (by rfl) (by rfl)) ?_)|refine aU rfl ?_|apply Aa);(refine pW rfl ?_ rfl (by rfl);refine Br rfl rfl rfl rfl (by simp[eC,Bt,Ae]) (by rfl) (by rfl) (by rfl) (by rfl) ?_);(repeat first|refine tX rfl ?_|refine aU rfl ?_|apply Aa);(refine pW rfl ?_ rfl (by rfl);refine Br rfl rfl rfl rfl (by simp[eC]) (by rfl) (by rfl) (by rfl) (by rfl) ?_);(repeat first|refine tA rfl ?_|refine aU rfl ?_|apply Aa);apply aB;refine aL (α:={z:(List NN×List W)×Nat // Gq s t z.1.1 z.2 0/\z.1.2.length=z.1.1.length/\z.2<=z.1.1.length/\∀w∈z.1.2,w.length<=z.1.1.length}) [2,3,6] [] rfl rfl (λs=>[(7,.o (.arr 0 2 0 s.1.1.1.length)),(8,.o (.arr 1 1 0 s.1.1.2.length)),(9,eI .i64 s.1.2)]) (λs=>[(0,.cells 136 2 (s.1.1.1.map λp=>(ZM p).map .d)),(1,.cells 9 1 (s.1.1.2.map ED))]) 2 (λs=>4294967297-s.1.2) (⟨⟨⟨[(1,1)],[[]]⟩,0⟩,Gq.start,rfl,by simp,by simp⟩) e rfl (by (simp[cX,zC,e,eC,Bt,Ae])) ?_;rintro⟨⟨⟨nd,ws⟩,i⟩,hb,L,hi,G⟩;(try dsimp only[cA,cB]);have hb:Gq s t nd i 0:=hb;have L:ws.length=nd.length:=L;have hi:i<=nd.length:=hi;have G:∀w∈ws,w.length<=nd.length:=G;have hnl:=hb.len;by_cases hlt:i<nd.length
  ·obtain⟨p, Y⟩:=get_some hlt
   obtain⟨w,hw⟩:=get_some (l:=ws) (k:=i) (by omega)
   have hp':(nd.map λp=>(ZM p).map C.d)[0+((i:Nat):Int).toNat]?=some ((ZM p).map C.d):=by rw[lH,i7];simp[Y]
   have hw':(ws.map ED)[0+((i:Nat):Int).toNat]?=some (ED w):=by rw[lH,i7];simp[hw]
   have I:=hb.lt p (co Y);have hwlen:=G w (co hw);(repeat first|refine tA rfl ?_|refine s2 rfl λ_ c=>?_|refine aU rfl ?_|apply Aa)
   ((refine aC rfl ?_ ?_<;>rintro⟨⟩);all_goals try(exfalso;(simp only[oZ] at *;omega)))
   apply aK;refine aS (aB ?_);by_cases S:p.2=0
   ·have ho:=hb.out hs ht hal Y S
    (repeat' first|(refine sA rfl ?_ ?_;first|exact tI|omega)|refine t4 rfl ‹_› rfl ?_|refine s2 rfl λ_ c=>?_|refine aU rfl ?_|apply Aa|(refine aC rfl ?_ ?_<;>rintro⟨⟩));all_goals try contradiction
    all_goals first
     | (exfalso;(simp only[oZ] at *;omega);done)
     | (exfalso;simp at *;done)
     | skip
    exact aR ⟨_,rfl,[],jz (some w),[],⟨λi hi=>absurd hi (i8 i),kw⟩,rfl,trivial,some w,λ_=>ho.symm,rfl,rfl,rfl⟩
   ·(repeat' first|(refine sA rfl ?_ ?_;first|exact tI|omega)|refine t4 rfl ‹_› rfl ?_|refine s2 rfl λ_ c=>?_|refine aU rfl ?_|apply Aa|(refine aC rfl ?_ ?_<;>rintro⟨⟩));all_goals try contradiction
    all_goals first
     | (exfalso;(simp only[oZ] at *;omega);done)
     | (exfalso;simp at *;done)
     | skip
    apply aK;(repeat first|refine tA rfl ?_|refine aU rfl ?_|apply Aa);apply aB;refine aL (α:={z:(List NN×List W)×Nat // z.2<=ls.length/\Gq s t z.1.1 i z.2/\z.1.2.length=z.1.1.length/\(∀w∈z.1.2,w.length<=z.1.1.length)/\z.1.1[i]?=some p/\z.1.2[i]?=some w}) [2,3,6,9] [] rfl rfl (λs=>[(7,.o (.arr 0 2 0 s.1.1.1.length)),(8,.o (.arr 1 1 0 s.1.1.2.length)),(10,eI .i64 s.1.2)]) (λs=>[(0,.cells 136 2 (s.1.1.1.map λp=>(ZM p).map .d)),(1,.cells 9 1 (s.1.1.2.map ED))]) 2 (λs=>ls.length-s.1.2) (⟨⟨⟨nd,ws⟩,0⟩,by simp,hb,L,G,Y,hw⟩) e rfl (by (simp[cX,zC,e,eC,Bt,Ae])) ?_;rintro⟨⟨⟨a,b⟩,j⟩,hj,F,m,f,n,y⟩;(try dsimp only[cA,cB]);have hj:j<=ls.length:=hj;have F:Gq s t a i j:=F;have m:b.length=a.length:=m;have f:∀w∈b,w.length<=a.length:=f;have n:a[i]?=some p:=n;have y:b[i]?=some w:=y;have hnl1:=F.len;have V:i<a.length:=(am.1 n).1;by_cases hjl:j<ls.length
    ·obtain⟨l,M⟩:=get_some hjl
     have U:=get_map (g:=DJ) M;have hlb:=hlm l (co M);obtain⟨st1,st2⟩:=F.step hs ht n (l:=l) (by rw[T];exact M)
     have J:(a.map λp=>(ZM p).map C.d)[0+((i:Nat):Int).toNat]?=some ((ZM p).map C.d):=by rw[lH,i7];simp[n]
     have hw1':(b.map ED)[0+((i:Nat):Int).toNat]?=some (ED w):=by rw[lH,i7];simp[y]
     have hwl2:=f w (co y);have ha:=PF (TB:=TB) hs l I.1;have X:=PF (TB:=TB) ht l I.2;have B:=Xo (TB:=TB) a (fy s t p l);have htx:Pure Tryz.prog TB 101 [eI .i64 l] (eT (DD [l])):=Ls (TB:=TB) l hlb.1 (by omega);have htl:(DD [l]).length=1:=rfl;generalize DD [l]=u at *;(repeat first|refine sN rfl ?_|refine tA rfl ?_|refine s2 rfl λ_ c=>?_|refine aU rfl ?_|apply Aa)
     ((refine aC rfl ?_ ?_<;>rintro⟨⟩);all_goals try(exfalso;(simp only[oZ] at *;omega)))
     apply aK;refine aS (aB ?_)
     obtain⟨⟨H,K⟩,hq⟩:∃q,q=fy s t p l:=⟨_,rfl⟩
     rw[<-hq]at st1 st2 B;have e1:Bo s.es l p.1=H:=(congrArg Prod.fst hq).symm;have e2:Bo t.es l p.2=K:=(congrArg Prod.snd hq).symm;rw[e1]at ha st1 st2;rw[e2]at X;(repeat first|refine aU rfl ?_);refine R.Om [(0,2),(1,2),(2,2),(3,2),(4,2),(5,10),(6,2),(7,2),(8,2),(9,2),(10,2),(11,2),(12,2),(13,2),(14,2),(15,2),(16,10),(17,2),(18,2),(19,2),(20,2),(21,2),(22,2),(23,3),(24,5)] mixed (by kernel_rfl) rfl (by kernel_rfl) ?_;(repeat ((refine R.Ag rfl ?_;first|(refine R.yQ (md:=false) rfl rfl rfl ?_ ?_;first|exact tI|omega) )));(refine R.Ag rfl ?_;refine R.iG (λ_ _ _ hs=>PX rfl (hs.trans rfl) J rfl) rfl rfl ?_);(repeat ((refine R.Ag rfl ?_;first|(refine R.yQ (md:=false) rfl rfl rfl ?_ ?_;first|exact tI|omega)|refine R.CO (λ_ _ _=>Be rfl rfl rfl (ha) rfl) rfl rfl ?_|refine R.CO (λ_ _ _=>Of rfl rfl (by omega) U rfl) rfl rfl ?_ )));(refine R.Ag rfl ?_;refine R.iG (λ_ _ _ hs=>PX rfl (hs.trans rfl) J rfl) rfl rfl ?_);(repeat ((refine R.Ag rfl ?_;first|(refine R.yQ (md:=false) rfl rfl rfl ?_ ?_;exact tI)|refine R.yP rfl rfl rfl rfl ?_|refine R.yA rfl rfl rfl rfl ?_|refine R.CO (λ_ _ _=>Be rfl rfl rfl (X) rfl) rfl rfl ?_|refine R.CO (λ_ _ _=>Of rfl rfl (by omega) U rfl) rfl rfl ?_|refine R.CO (λ_ _ _=>AP rfl rfl (by rfl) (by rfl)) rfl rfl ?_ )));refine R.NZ ?_;refine Aj.Aw [2,3,6,9] [] rfl rfl [(7,.o (.arr 0 2 0 a.length)),(8,.o (.arr 1 1 0 b.length)),(10,eI .i64 j),(11,.o (.ptr 2 2 0 0))] [(0,.cells 136 2 (a.map λp=>(ZM p).map .d)),(1,.cells 9 1 (b.map ED)),(2,.cells 136 2 [(ZM (H,K)).map .d])] [0,1,2] (rl e rfl) (by (simp[cX,zC,e,eC,Bt,Ae])) ?_;(try dsimp only[cA,cB]);by_cases hz:H=0
     ·have A:=st1 (.inl hz)
      (repeat' first|refine tA rfl ?_|refine s2 rfl λ_ c=>?_|refine s3 rfl ?_ ?_<;>rintro rfl|refine aU rfl ?_|apply Aa|(refine aC rfl ?_ ?_<;>rintro⟨⟩));all_goals try contradiction
      all_goals first
       | (exfalso;(simp only[oZ] at *;omega);done)
       | skip
      apply aK;(repeat first|(refine sA rfl ?_ ?_;first|exact tI|omega)|refine aU rfl ?_|apply Aa);refine⟨⟨⟨⟨a,b⟩,j+1⟩,by dsimp only;omega,A,m,f,n,y⟩,by dsimp only;(omega),[0,1],?_⟩;simp[cX,zC,e,eC,Bt,Ae]
     ·by_cases Z:(H,K)∈a
      ·have A:=st1 (.inr Z)
       rw[if_pos Z]at B;generalize a.idxOf (H,K)=ix at *
       (repeat' first|refine tA rfl ?_|refine s2 rfl λ_ c=>?_|(refine Ag rfl ?_;refine gA rfl ?_;first|refine gQ (Kx rfl rfl ((.cons (.o (.full rfl (by simp[d7]) (by simp))) (.cons (.cons (.pure rfl) (.cons (.pure rfl) .nil)) .nil))) (B) rfl) rfl ?_)|refine s3 rfl ?_ ?_<;>rintro rfl|refine aU rfl ?_|apply Aa|(refine aC rfl ?_ ?_<;>rintro⟨⟩));all_goals try contradiction
       all_goals first
        | (exfalso;(simp only[oZ] at *;omega);done)
        | skip
       apply aK;(repeat first|(refine sA rfl ?_ ?_;first|exact tI|omega)|refine aU rfl ?_|apply Aa);refine⟨⟨⟨⟨a,b⟩,j+1⟩,by dsimp only;omega,A,m,f,n,y⟩,by dsimp only;(omega),[0,1],?_⟩;simp[cX,zC,e,eC,Bt,Ae]
      ·have A:=st2 hz Z
       have hnl2:=A.len;rw[if_neg Z]at B
       have hwn:∀x:W,x.length<=a.length+1->∀v∈b++[x],v.length<=(a++[(H,K)]).length:=λx hx v P=>by
        rw[mF]
        show v.length<=a.length+1
        rcases f6.1 P with P|P
        ·have:=f v P;omega
        ·simp at P;subst P;exact hx
       have hp2:(a++[(H,K)])[i]?=some p:=by rw[d9 V];exact n
       have hw2:∀x,(b++[x])[i]?=some w:=λx=>by rw[d9 (by omega)];exact y
       (repeat' first|refine tA rfl ?_|refine s2 rfl λ_ c=>?_|(refine Ag rfl ?_;refine gA rfl ?_;first|refine gQ (Kx rfl rfl ((.cons (.o (.full rfl (by simp[d7]) (by simp))) (.cons (.cons (.pure rfl) (.cons (.pure rfl) .nil)) .nil))) (B) rfl) rfl ?_)|refine s3 rfl ?_ ?_<;>rintro rfl|refine aU rfl ?_|apply Aa|(refine aC rfl ?_ ?_<;>rintro⟨⟩));all_goals try contradiction
       all_goals first
        | (exfalso;(simp only[oZ] at *;omega);done)
        | skip
       (refine pW rfl ?_ rfl (by rfl);refine Al rfl rfl rfl (by first|(simp;done)|(simp;(omega))) rfl (by intro r Q;simp at Q;subst Q;rfl) (by rfl) (ce rfl) (by simp;omega) ?_);(repeat first|refine tA rfl ?_|apply Aa);refine rG (JG [(4,11),(12,1)]) (by kernel_rfl) ?_;(repeat first|((first|refine sA rfl ?_ ?_|refine s4 rfl ‹_› rfl ?_ ?_);first|exact tI|omega)|refine sP rfl (htx) rfl ?_);(refine pW rfl ?_ rfl (by rfl);refine Al rfl rfl rfl (by first|(simp;done)|(simp;(omega))) rfl (by intro r Q;simp at Q;subst Q;rfl) (by rfl) (ce rfl) (by simp;omega) ?_);(repeat first|(refine sA rfl ?_ ?_;first|exact tI|omega)|refine aU rfl ?_|apply Aa);refine⟨⟨⟨⟨a++[(H,K)],b++[w++u]⟩,j+1⟩,by dsimp only;omega,A,by simp[m],hwn _ (by simp;omega),hp2,hw2 _⟩,by dsimp only;(omega),[3,4],?_⟩;simp[cX,zC,e,eC,Bt,Ae]
    ·obtain rfl:j=ls.length:=by omega
     have hnx:=(T▸F:Gq s t a i (Ac s.al).length).next n S;(repeat first|refine sN rfl ?_|refine tA rfl ?_|refine s2 rfl λ_ c=>?_|refine aU rfl ?_|apply Aa)
     ((refine aC rfl ?_ ?_<;>rintro⟨⟩);all_goals try(exfalso;(simp only[oZ] at *;omega)))
     apply aE;(repeat first|(refine sA rfl ?_ ?_;first|exact tI|omega)|refine aU rfl ?_|apply Aa);refine⟨⟨⟨⟨a,b⟩,i+1⟩,hnx,m,by dsimp only;omega,f⟩,by dsimp only;(omega),[0,1],?_⟩;simp[cX,zC,e,eC,Bt,Ae]
  ·obtain rfl:i=nd.length:=by omega
   have ho:=hb.all hs ht hal;(repeat first|refine tA rfl ?_|refine s2 rfl λ_ c=>?_|refine aU rfl ?_|apply Aa)
   ((refine aC rfl ?_ ?_<;>rintro⟨⟩);all_goals try(exfalso;(simp only[oZ] at *;omega)))
   apply aE;(repeat first|refine tA rfl ?_|refine aU rfl ?_|apply Aa);exact aR ⟨_,rfl,[],jz none,[],⟨λi hi=>absurd hi (i8 i),kw⟩,rfl,trivial,none,λ_=>ho.symm,rfl,rfl,rfl⟩
theorem Fu(s t:Sys):Pure Tryz.prog TB 16 [Bi s,Bi t] (eB (Di s t)):=by
 have b:=HI (TB:=TB) s t;have h:=UF (TB:=TB) s t;refine eG Tryz.func16 rfl (by kernel_rfl) rfl ?_;intro Γ f;(repeat first|refine tA rfl ?_|refine aU rfl ?_|apply Aa);(refine pW rfl ?_ rfl (by rfl);refine Af [] rfl rfl (h) ⟨rfl,by decide,by decide⟩ rfl trivial ?_;rintro j d e ⟨o,c,rfl,rfl,rfl⟩ _);cases a:Fs s t
 ·have g:Di s t=false:=by
   unfold Di;unfold Fs at a;rw[a,Bool.false_and]
  rw[a]at b;rw[g];cases o
  all_goals
   (repeat' first|refine tA rfl ?_|refine sP rfl (b) rfl ?_|refine aU rfl ?_|apply Aa|(refine aC rfl ?_ ?_<;>rintro⟨⟩));all_goals try contradiction
  all_goals (subst_vars;exact aR ⟨_,rfl,rfl⟩)
 ·have c:=c a
  rw[a]at b;rw[<-c];cases o
  all_goals
   (repeat' first|refine tA rfl ?_|refine s2 rfl λ_ i=>?_|refine sP rfl (b) rfl ?_|refine aU rfl ?_|apply Aa|(refine aC rfl ?_ ?_<;>rintro⟨⟩));all_goals try contradiction
  all_goals (subst_vars;exact aR ⟨_,rfl,rfl⟩)
theorem WB(s t:Sys):Pure Tryz.prog TB 21 [Bi s,Bi t] (eB (Di s t && Di t s)):=by
 have c:=Fu (TB:=TB) s t;have b:=Fu (TB:=TB) t s;generalize Di s t=x at *;generalize Di t s=y at *;cases x
 all_goals
  refine eG Tryz.func21 rfl (by kernel_rfl) rfl ?_;intro Γ a
  (repeat' first|refine tA rfl ?_|refine sP rfl (c) rfl ?_|refine sP rfl (b) rfl ?_|refine aU rfl ?_|apply Aa|(refine aC rfl ?_ ?_<;>rintro⟨⟩));all_goals try contradiction
 all_goals (subst_vars;exact aR ⟨_,rfl,rfl⟩)
end Go.Am
