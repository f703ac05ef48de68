/-
  The assumptions of rounds, of the caller's own: walked.
-/
import Derived.Test.YtohfiindiidcfaaGreatDoorPart39
import Derived.Test.YtohfiindiidcfaaGreatDoorPart38
set_option linter.all false
namespace Go.Am
open Go Go.Proofs
set_option maxHeartbeats 1000000
set_option maxRecDepth 4000
attribute [local irreducible] A6 Cz Lex Bv Aj Spec
def aAc(h:Bool)(an:AX)(fd:Option Ii)(m i j p q:Nat):List C:=match h,fd with
 | true,_=>[.d (iD an.al),.arr p 1 0 m,.arr q 1 0 an.ac.length]
 | false,none=>[.d (iD 0),.d (.l []),.d (.l [])]
 | false,some z=>[.d (iD an.al),.arr i 1 0 z.length,.arr j 1 0 an.ac.length]
theorem aAp{h:Bool}{an:AX}{fd:Option Ii}{m i j p q:Nat}{r:Nat->Nat}:C.Cy r (aAc h an fd m i j p q)=aAc h an fd m (r i) (r j) (r p) (r q):=by
 cases h<;>cases fd<;>rfl
def aAb(an:AX)(fd:Option Ii)(i j:Nat):List C:=match fd with
 | none=>[.d (iD 0),.d (.l []),.d (.l [])]
 | some z=>[.d (iD an.al),.arr i 1 0 z.length,.arr j 1 0 an.ac.length]
theorem aAj{an:AX}{fd:Option Ii}{i j:Nat}{r:Nat->Nat}:C.Cy r (aAb an fd i j)=aAb an fd (r i) (r j):=by
 cases fd<;>rfl
def aAe(an:AX):Option Ii->List Bool
 | none=>[]
 | some _=>an.ac
def aAa:Option Ii->Ii
 | none=>[]
 | some z=>z
theorem aAs{TB:BF}(k n:Int)(an:AX)(fd:Option Ii)(l:Ii)(a:AX)(h:Bool)(e:h=decide (k=n))(ha:h=true->an=a):Spec Tryz.prog TB 38 [(0,.cells 29 3 [aAb an fd 2 3]),(1,.cells 4 1 [[.d (bD fd.isSome)]]),(2,.cells 64 1 (AA (aAa fd))),(3,.cells 4 1 ((aAe an fd).map AV)),(4,.sld 3 (sI (aAa fd))),(5,.cells 64 1 (AA l)),(6,.cells 4 1 (a.ac.map AV)),(7,.sld 3 (sI l))] 8 [eI .i64 k,WC a.al 5 6 l.length a.ac.length,.o (.ip [iD n]),.o (.ptr 0 3 0 0),.o (.ptr 1 1 0 0)]
 (λx σ nx=>x=.t []/\σ=[(0,.cells 29 3 [aAc h an fd l.length 2 3 5 6]),(1,.cells 4 1 [[.d (bD (fd.isSome || h))]]),(2,.cells 64 1 (AA (aAa fd))),(3,.cells 4 1 ((aAe an fd).map AV)),(4,.sld 3 (sI (aAa fd))),(5,.cells 64 1 (AA l)),(6,.cells 4 1 (a.ac.map AV)),(7,.sld 3 (sI l))]/\nx=8):=by
 subst e;by_cases h:k=n
 ·obtain rfl:=ha (decide_eq_true h)
  rw [decide_eq_true h];cases fd
  all_goals
   dsimp only [aAc,aAb,aAe,aAa,Option.isSome,qH];refine eR Tryz.func38 rfl (by kernel_rfl) rfl ?_;intro Z b;(repeat first|refine aU rfl ?_);(refine pW rfl ?_ rfl (by rfl);refine C9 rfl rfl ?_);(repeat first|refine tA rfl ?_ |refine s2 rfl λ_ c=>?_ |refine aU rfl ?_ |apply Aa)
   ((refine aC rfl ?_ ?_<;>rintro⟨⟩);all_goals try(exfalso;(simp only[oZ] at *;omega)))
   (repeat first|refine tA rfl ?_ |refine aU rfl ?_ |apply Aa);exact⟨_,rfl,[0,1,2,3,4,5,6,7],.t [],_,⟨by intro i hi;match i with|0=>rfl|1=>rfl|2=>rfl|3=>rfl|4=>rfl|5=>rfl|6=>rfl|7=>rfl,by decide⟩,rfl,by (simp[cX,zC,b,cN,Ae,eC]),rfl,rfl,rfl⟩
 ·rw [decide_eq_false h]
  cases fd
  all_goals
   dsimp only [aAc,aAb,aAe,aAa,Option.isSome,Bool.or_false];refine eR Tryz.func38 rfl (by kernel_rfl) rfl ?_;intro Z b;(repeat first|refine aU rfl ?_);(refine pW rfl ?_ rfl (by rfl);refine C9 rfl rfl ?_);(repeat first|refine tA rfl ?_ |refine s2 rfl λ_ c=>?_ |refine aU rfl ?_ |apply Aa)
   ((refine aC rfl ?_ ?_<;>rintro⟨⟩);all_goals try(exfalso;(simp only[oZ] at *;omega)))
   apply aK;exact⟨_,rfl,[0,1,2,3,4,5,6,7],.t [],_,⟨by intro i hi;match i with|0=>rfl|1=>rfl|2=>rfl|3=>rfl|4=>rfl|5=>rfl|6=>rfl|7=>rfl,by decide⟩,rfl,by (simp[cX,zC,b,cN,Ae,eC]),rfl,rfl,rfl⟩
def aAl(x:E)(σ:Ab)(nx:Nat):Prop:=
 (∃v:Vd,x=eX v/\σ=[(0,.cells 29 3 [[.d (iD 0),.d (.l []),.d (.l [])]]),(1,.cells 4 1 [[.d (bD false)]])]/\nx=2)\/
 (∃(v:Vd) (l:Ii),x=.a [.d (iD v.code),.d (iD v.a.al),.arr 2 1 0 l.length,.arr 3 1 0 v.a.ac.length,.d (tD v.tr),.d (iD v.rd)]/\σ=[(0,.cells 29 3 [[.d (iD 0),.d (.l []),.d (.l [])]]),(1,.cells 4 1 [[.d (bD false)]]),(2,.cells 64 1 (AA l)),(3,.cells 4 1 (v.a.ac.map AV)),(4,.sld 3 (sI l))]/\nx=5)
def aAq(an:AX)(z:Ii)(x:E)(σ:Ab)(nx:Nat):Prop:=
 (∃v:Vd,x=eX v/\σ=[(0,.cells 29 3 [[.d (iD an.al),.arr 2 1 0 z.length,.arr 3 1 0 an.ac.length]]),(1,.cells 4 1 [[.d (bD true)]]),(2,.cells 64 1 (AA z)),(3,.cells 4 1 (an.ac.map AV)),(4,.sld 3 (sI z))]/\nx=5)\/
 (∃v:Vd,x=.a [.d (iD v.code),.d (iD v.a.al),.arr 2 1 0 z.length,.arr 3 1 0 an.ac.length,.d (tD v.tr),.d (iD v.rd)]/\σ=[(0,.cells 29 3 [[.d (iD an.al),.arr 2 1 0 z.length,.arr 3 1 0 an.ac.length]]),(1,.cells 4 1 [[.d (bD true)]]),(2,.cells 64 1 (AA z)),(3,.cells 4 1 (an.ac.map AV)),(4,.sld 3 (sI z))]/\nx=5)\/
 (∃(v:Vd) (l:Ii),x=.a [.d (iD v.code),.d (iD v.a.al),.arr 5 1 0 l.length,.arr 6 1 0 v.a.ac.length,.d (tD v.tr),.d (iD v.rd)]/\σ=[(0,.cells 29 3 [[.d (iD an.al),.arr 2 1 0 z.length,.arr 3 1 0 an.ac.length]]),(1,.cells 4 1 [[.d (bD true)]]),(2,.cells 64 1 (AA z)),(3,.cells 4 1 (an.ac.map AV)),(4,.sld 3 (sI z)),(5,.cells 64 1 (AA l)),(6,.cells 4 1 (v.a.ac.map AV)),(7,.sld 3 (sI l))]/\nx=8)
def aAi(o:Option AX)(x:E)(σ:Ab)(nx:Nat):Prop:=match o with
 | none=>aAl x σ nx
 | some an=>∃z:Ii,z.map (·.2)=an.nx/\aAq an z x σ nx
section
variable {tabs:List (Nat×Obj)}[hTb:C8 ⟨tabs,none⟩]
include hTb
theorem aAn{s t:Sys}{p:AX}(hi:¬AP s p t < 0)(hes:s.es.length<=1048576)(n:Int):AS Tryz.prog ⟨tabs,none⟩ 34 2 [(0,.cells 29 3 [[.d (iD 0),.d (.l []),.d (.l [])]]),(1,.cells 4 1 [[.d (bD false)]])] 2 [Bp s,Bp t,Bc p,.o (.fn 38 [.ip [iD n],.ptr 0 3 0 0,.ptr 1 1 0 0])] (aAi (Hj s t p n)):=by
 have hI:=FO hi;have h1:=J8 (TB:=⟨tabs,none⟩) s p t hes;unfold VI at h1;rw [if_neg hi] at h1
 have v:1<=n->n<=((BL s t p (AP s p t)).length:Int)->∀z:Ii,z.map (·.2)=((Hj s t p n).getD IV).nx->∀x σ nx,aAq ((Hj s t p n).getD IV) z x σ nx->aAi (Hj s t p n) x σ nx:=λg1 g2 z J x σ nx hx=>by
  have e:Hj s t p n=some ((Hj s t p n).getD IV):=by unfold Hj;rw [if_pos ⟨hi,g1,g2⟩];rfl
  rw [e];exact⟨z,J,hx⟩
 have I:¬(1<=n/\n<=((BL s t p (AP s p t)).length:Int))->∀x σ nx,aAl x σ nx->aAi (Hj s t p n) x σ nx:=λg x σ nx hx=>by
  have e:Hj s t p n=none:=by unfold Hj;rw [if_neg λh=>g h.2]
  rw [e];exact hx
 have han:∀k:Nat,(k:Int)+1=n->k < (BL s t p (AP s p t)).length->(Hj s t p n).getD IV=BH s p (AP s p t) (BE s t p (AP s p t) k):=λk hk N=>by
  unfold Hj;rw [if_pos ⟨hi,by omega,by omega⟩,show n.toNat - 1=k by omega];rfl
 obtain⟨al,hal⟩:∃al,al=AP s p t:=⟨_,rfl⟩
 obtain⟨an,hane⟩:∃an,an=(Hj s t p n).getD IV:=⟨_,rfl⟩
 obtain⟨Q,hQ⟩:∃Q,Q=aAi (Hj s t p n):=⟨_,rfl⟩
 rw [<-hal] at hI h1 v I han;rw [<-hane,<-hQ] at v;rw [<-hQ] at I |-;rw [<-hane] at han;clear hQ hane hal hi;obtain⟨ok,hs0,hf,hgr,hrun⟩:=fj hI (Gq hI)
 let te:EE:=EB s p al
 have G:te.kn=false:=rfl;have hok:CN te=true:=eL hI
 have hsub:∀w,ok w->kc (A5 te) w:=λw hw=>by rw [Fw];exact hs0 w hw
 have hf:TE te ok:=hf;obtain⟨hl1,hl2⟩:=IB hI;have h0:=eD (t:=t) hI;unfold SU at h0;rw [if_pos (eL hI),NZ,Fw] at h0;refine AS.Bj (AS.RL (m:=2) (am rfl) Tryz.func34 rfl (by kernel_rfl) (am rfl) ?_);intro Z f;(repeat first|refine tA rfl ?_ |refine s2 rfl λ_ j=>?_ |refine sP rfl (h1) rfl ?_ |refine aU rfl ?_ |apply Aa)
 ((refine aC rfl ?_ ?_<;>rintro⟨⟩);all_goals try (simp at j;done))
 apply aK;refine Aj.AF [3] [(3,.o (.fn 38 [.ip [iD n],.ptr 0 3 0 0,.ptr 1 1 0 0])),(4,.o (.ip (AL s))),(5,.o (.ip (AL t))),(6,.o (.ip (AT p))),(8,.o (.ptr 2 6 0 0)),(9,.o (.ip (Mn ⟨s,p,al⟩)))] ⟨⟨_,rfl,.inl rfl⟩,⟨_,rfl,.inl rfl⟩,⟨_,rfl,.inl rfl⟩,⟨_,rfl,.inl rfl⟩,⟨_,rfl,.inl rfl⟩,⟨_,rfl,.inr (.o (.box rfl (Ge.refl (Mn ⟨s,p,al⟩))))⟩,trivial⟩ ?_;refine Aj.Ay [3,4,5,6,8,9] [0,1,2] rfl rfl [] [] [0,1,2] (rl f rfl) (by (simp[cX,zC,f,cN])) ?_;(try dsimp only[cA,cB]);(repeat first|refine tA rfl ?_|(refine Af rfl ?_;refine gA rfl ?_;first| refine gS (λ_ _=>AB rfl rfl (by rfl) (by rfl)) ?_) |refine aU rfl ?_)
 apply kB (m:=2) (L:=Ce te) (ok:=ok);case hk=>(intro hk;obtain⟨tk,mk,hm,hno,S⟩:=UU (tabs:=tabs) G hok hsub hf;((refine pW rfl ?_ rfl (by rfl);refine Ck [] rfl rfl 0 (hno) (by decide) ⟨rfl,by decide,by decide⟩ rfl (by simp[cX,zC,f,A9]) ?_;rintro x0 σ1 nx1 ⟨rfl,rfl,rfl⟩ _);(repeat first|refine tA rfl ?_);apply Aa;refine Aj.mC (P8 tk ok) ⟨mk,hm⟩ 3 [4,5,6,7] (λr=>[(3,.o (.fn 38 [.ip [iD n],.ptr 0 3 0 0,.ptr 1 1 0 0])),(4,.o (.ip (AL s))),(5,.o (.ip (AL t))),(6,.o (.ip (AT p))),(9,.o (.ip (Mn ⟨s,p,al⟩))),(8,.o (.ptr 2 6 0 0)),(11,.o (.ptr 8 2 0 0))]) (λr=>[(0,.cells 29 3 [[.d (iD 0),.d (.l []),.d (.l [])]]),(1,.cells 4 1 [[.d (bD false)]]),(2,.cells 33 6 [[.d (iD 0),.d (iD 0),.d (.l []),.d (.l []),.d (tD []),.d (iD 0)]]),(8,.cells 91 2 [[.d (iD (A5 te)),NU (PE r)]])]) (by decide) rfl (by ((repeat' first|exact tI|rfl|refine And.intro ?_ ?_)<;>(simp[cX,zC,f,A9]<;>rfl))) ⟨_,_,_,_,rfl⟩ (λr=>by repeat' first|exact tI|refine And.intro ⟨_,rfl,.AQ⟩ ?_) (λr=>by repeat' first|exact tI|refine And.intro ⟨by decide,.inl rfl⟩ ?_|refine And.intro ⟨by decide,.inr ⟨_,_,_,_,rfl,rfl,.cons .AQ (.cons .mv .nil)⟩⟩ ?_) λr Z' hZ'=>?_;have f:Z'.V.nx=2:=(by rw [hZ'];exact f);refine Aj.Ay [3,4,5,6,9] [] rfl rfl [(8,.o (.ptr 2 6 0 0)),(11,.o (.ptr 3 2 0 0))] [(0,.cells 29 3 [[.d (iD 0),.d (.l []),.d (.l [])]]),(1,.cells 4 1 [[.d (bD false)]]),(2,.cells 33 6 [[.d (iD 0),.d (iD 0),.d (.l []),.d (.l []),.d (tD []),.d (iD 0)]]),(3,.cells 91 2 [[.d (iD (A5 te)),NU (PE r)]])] [0,1,2,8] (rl f rfl) (by (simp[cX,zC,f])) ?_;(try dsimp only[cA,cB]);have hVr:=S r;obtain⟨TB0,hTB0⟩:∃T,T=(⟨tabs,some (P8 tk ok,r)⟩:BF):=⟨_,rfl⟩;obtain⟨c0,hc0⟩:∃c,c=NU (PE r):=⟨_,rfl⟩;rw [<-hTB0,<-hc0] at hVr |-;exact hk TB0 Z' c0 f hVr.2 hVr.1))
 case h =>
  intro TB1 Z1 c1 f hTb1 S
  have S:JS Tryz.prog TB1 c1 (LS ⟨s,p,al⟩) ok:=by rw [<-NZ];exact S
  have eal:A5 te=al:=Fw s p al;rw [eal];clear_value te;have q:=E4 c1 S.Cm;have hnt:=SW S al hgr;rw [h0] at hnt;(repeat first|refine tA rfl ?_|(refine Af rfl ?_;refine gA rfl ?_;first| refine gS (λ_ _=>Bt rfl rfl (by simp [E.Cm,C.Cm,C.Dl,S.Cm]) (hnt) rfl) ?_) |refine aU rfl ?_ |apply Aa)
  obtain⟨ln,hln⟩:∃ln,ln=(BL s t p al).length:=⟨_,rfl⟩
  obtain⟨tv,htv⟩:∃tv,tv=BE s t p al:=⟨_,rfl⟩
  refine Aj.ghost 1 64 ?_;refine Aj.ghost 1 4 ?_;refine Aj.en 3 ?_;apply aB;refine aL (α:={s1:Nat×Option Ii // s1.1<=(BL s t p al).length/\(s1.1=(BL s t p al).length->BY s t p=⟨2,IV,[],(s1.1:Int)⟩)/\((s1.2=none/\¬(1<=n/\n<=(s1.1:Int)))\/(∃z:Ii,s1.2=some z/\z.map (·.2)=an.nx/\1<=n/\n<=(s1.1:Int)))}) [3,4,5,6,8,9,11,13] [2,3] rfl rfl (λs=>[(10,eB (decide (s.1.1 < ln))),(14,eI .i64 ((s.1.1:Int)+1))]) (λs=>[(0,.cells 29 3 [aAb an s.1.2 5 6]),(1,.cells 4 1 [[.d (bD s.1.2.isSome)]]),(4,.cells 98 2 [[.d (Cb (tv s.1.1).rows),.d (Cb (tv s.1.1).cols)]]),(5,.cells 64 1 (AA (aAa s.1.2))),(6,.cells 4 1 ((aAe an s.1.2).map AV)),(7,.sld 3 (sI (aAa s.1.2)))]) 8 (λs=>ln - s.1.1) (⟨⟨0,none⟩,by dsimp only;omega,by dsimp only;omega,.inl ⟨rfl,by dsimp only;omega⟩⟩) f rfl (by (simp[cX,zC,f,cN,q,aAb,aAa,aAe,AA,sI,htv,hln,decide_eq_true (show 0 < (BL s t p al).length by omega)])) ?_;rintro⟨⟨k,fd⟩,G,hk2,H⟩;(try dsimp only[cA,cB]);subst htv hln;have G:k<=(BL s t p al).length:=G;have hk2:k=(BL s t p al).length->BY s t p=⟨2,IV,[],(k:Int)⟩:=hk2;have H:(fd=none/\¬(1<=n/\n<=(k:Int)))\/(∃z:Ii,fd=some z/\z.map (·.2)=an.nx/\1<=n/\n<=(k:Int)):=H;refine aS (aB ?_);by_cases Y:k < (BL s t p al).length
  ·simp only [decide_eq_true Y]
   obtain⟨hx,hc⟩:=LZ hI Y;have hbd:=TD hx;obtain⟨hao,hasks⟩:=hrun _ (co (Ha Y));have hau:=Qr (TB:=TB1) S al (BE s t p al k) hao (hbd.mono (by omega)) hx.o;obtain⟨_,_,_,hcl0⟩:=I0 hI hx;have K:=Ff (TB:=TB1) s (BH s p al (BE s t p al k)) p;have hfv:=IS (TB:=TB1) t (BH s p al (BE s t p al k));have hau:AS Tryz.prog TB1 66 0 [] 0 [I9 al c1,Ef (BE s t p al k)] (KQ (BH s p al (BE s t p al k))):=hau
   obtain⟨h,P⟩:∃h,h=decide ((k:Int)+1=n):=⟨_,rfl⟩
   have ha:h=true->an=BH s p al (BE s t p al k):=λe=>han k (of_decide_eq_true (P.symm.trans e)) Y;have hclo:=λl=>aAs (TB:=TB1) ((k:Int)+1) n an fd l (BH s p al (BE s t p al k)) h P ha;(repeat first|refine tA rfl ?_ |refine s2 rfl λ_ j=>?_ |refine aU rfl ?_ |apply Aa)
   ((refine aC rfl ?_ ?_<;>rintro⟨⟩);all_goals try (simp at j;done))
   apply aK;(repeat first|refine tA rfl ?_ |refine aU rfl ?_);(refine pW rfl ?_ rfl (by rfl);refine Ck [] rfl rfl 0 hau (by decide) ⟨rfl,by decide,by decide⟩ (by simp [EX,E.Bj,C.Cy,C.Bj,q,eC,I9,Ef]<;>rfl) (by simp[cX,zC,f,cN]) ?_;rintro x0 σ1 nx1 ⟨l,N,rfl,rfl,rfl⟩ _);(repeat first|refine tA rfl ?_);apply Aa;refine Aj.Ay [3,4,5,6,8,9,11,13,14] [0,1,2,3,4,5,6,7] rfl rfl [(15,.o (.ptr 11 3 0 0))] [(8,.cells 64 1 (AA l)),(9,.cells 4 1 ((BH s p al (BE s t p al k)).ac.map AV)),(10,.sld 3 (sI l)),(11,.cells 29 3 [[.d (iD (BH s p al (BE s t p al k)).al),.arr 8 1 0 l.length,.arr 9 1 0 (BH s p al (BE s t p al k)).ac.length]])] [0,1,2,3,4,5,6,7,8,9,10,11] (rl f rfl) (by (simp[cX,zC,f,cN,Ae,eC,BR,q,aAj])) ?_;(try dsimp only[cA,cB]);(repeat first|refine tA rfl ?_|(refine Af rfl ?_;refine gA rfl ?_;first| refine gS (λ_ _=>mQ rfl rfl) ?_) |refine aU rfl ?_ |apply Aa)
   ((refine aC rfl ?_ ?_<;>rintro⟨⟩);all_goals try (simp at j;done))
   (repeat first|refine tA rfl ?_ |refine aU rfl ?_);(refine pW rfl ?_ rfl (by rfl);refine Ai [0,1,5,6,7,8,9,10] rfl rfl (hclo l) ⟨rfl,by decide,by decide⟩ rfl (by simp[cX,zC,f,cN,aAj]) ?_;rintro x0 σ1 nx1 ⟨rfl,rfl,rfl⟩ _);apply Aa;refine Aj.Ay [3,4,5,6,8,9,11,13,14,15] [2,3,4,11] rfl rfl [] [(0,.cells 29 3 [aAc h an fd l.length 5 6 8 9]),(1,.cells 4 1 [[.d (bD (fd.isSome || h))]]),(5,.cells 64 1 (AA (aAa fd))),(6,.cells 4 1 ((aAe an fd).map AV)),(7,.sld 3 (sI (aAa fd))),(8,.cells 64 1 (AA l)),(9,.cells 4 1 ((BH s p al (BE s t p al k)).ac.map AV)),(10,.sld 3 (sI l))] [0,1,2,3,4,5,6,7,8,9,10,11] (rl f rfl) (by (simp[cX,zC,f,cN,Ae,eC,BR,q,aAp])) ?_;(try dsimp only[cA,cB])
   rcases hc with ⟨hr,hv,hk⟩|⟨w,b,hr,hon,hwl,hc⟩
   ·obtain⟨g1,g2⟩:=Vk hr
    rw [g1] at K;rw [g2] at hfv;have y:=v;have hno:=I;rw [<-hk] at y hno;generalize BH s p al (BE s t p al k)=a at *;(repeat first|refine tA rfl ?_ |refine s2 rfl λ_ j=>?_|(refine Af rfl ?_;refine gA rfl ?_;first| refine gQ (A6.QD [(59,Bp s),(60,Bc a),(61,Bc p)] ⟨⟨_,rfl,.AQ rfl⟩,⟨_,rfl,J5 (k:=10) rfl rfl rfl N rfl rfl⟩,⟨_,rfl,.AQ rfl⟩,trivial⟩ (λZ'=>Bt rfl rfl rfl K rfl) (Fy _)) rfl ?_) |refine aU rfl ?_ |apply Aa)
    ((refine aC rfl ?_ ?_<;>rintro⟨⟩);all_goals try (simp at j;done))
    (repeat first|refine tA rfl ?_ |refine s2 rfl λ_ j=>?_|(refine Af rfl ?_;refine gA rfl ?_;first| refine gQ (A6.QD [(68,Bp t),(69,Bc a)] ⟨⟨_,rfl,.AQ rfl⟩,⟨_,rfl,J5 (k:=10) rfl rfl rfl N rfl rfl⟩,trivial⟩ (λZ'=>Bt rfl rfl rfl hfv rfl) (Fy _)) rfl ?_) |refine aU rfl ?_ |apply Aa)
    ((refine aC rfl ?_ ?_<;>rintro⟨⟩);all_goals try (simp at j;done))
    (repeat first|refine tA rfl ?_|(refine Af rfl ?_;refine gA rfl ?_;first| refine gS (λ_ _=>AB rfl rfl (by rfl) (by rfl)) ?_) |refine aU rfl ?_ |apply Aa);cases h
    ·have X:¬(k:Int)+1=n:=of_decide_eq_false P.symm
     rcases H with ⟨rfl,G⟩|⟨z,rfl,J,F,B⟩
     ·exact aR ⟨_,rfl,[0,1,8,9,10],.a [.d (iD 0),.d (iD a.al),.arr 2 1 0 l.length,.arr 3 1 0 a.ac.length,.d (tD []),.d (iD ((k:Int)+1))],[(0,.cells 29 3 [[.d (iD 0),.d (.l []),.d (.l [])]]),(1,.cells 4 1 [[.d (bD false)]]),(2,.cells 64 1 (AA l)),(3,.cells 4 1 (a.ac.map AV)),(4,.sld 3 (sI l))],⟨by intro i hi;match i with|0=>rfl|1=>rfl,by decide⟩,rfl,by (simp[cX,zC,f,cN,Ae,eC,BR,aAc,aAb,aAa,aAe]),hno (by omega) _ _ _ (.inr ⟨⟨0,a,[],(k:Int)+1⟩,l,rfl,rfl,rfl⟩)⟩
     ·exact aR ⟨_,rfl,[0,1,5,6,7,8,9,10],.a [.d (iD 0),.d (iD a.al),.arr 5 1 0 l.length,.arr 6 1 0 a.ac.length,.d (tD []),.d (iD ((k:Int)+1))],[(0,.cells 29 3 [[.d (iD an.al),.arr 2 1 0 z.length,.arr 3 1 0 an.ac.length]]),(1,.cells 4 1 [[.d (bD true)]]),(2,.cells 64 1 (AA z)),(3,.cells 4 1 (an.ac.map AV)),(4,.sld 3 (sI z)),(5,.cells 64 1 (AA l)),(6,.cells 4 1 (a.ac.map AV)),(7,.sld 3 (sI l))],⟨by intro i hi;match i with|0=>rfl|1=>rfl,by decide⟩,rfl,by (simp[cX,zC,f,cN,Ae,eC,BR,aAc,aAb,aAa,aAe]),y (by omega) (by omega) z J _ _ _ (.inr (.inr ⟨⟨0,a,[],(k:Int)+1⟩,l,rfl,rfl,rfl⟩))⟩
    ·have X:(k:Int)+1=n:=of_decide_eq_true P.symm
     obtain rfl:=ha rfl;exact aR ⟨_,rfl,[0,1,8,9,10],.a [.d (iD 0),.d (iD an.al),.arr 2 1 0 l.length,.arr 3 1 0 an.ac.length,.d (tD []),.d (iD ((k:Int)+1))],[(0,.cells 29 3 [[.d (iD an.al),.arr 2 1 0 l.length,.arr 3 1 0 an.ac.length]]),(1,.cells 4 1 [[.d (bD true)]]),(2,.cells 64 1 (AA l)),(3,.cells 4 1 (an.ac.map AV)),(4,.sld 3 (sI l))],⟨by intro i hi;match i with|0=>rfl|1=>rfl,by decide⟩,rfl,by (simp[cX,zC,f,cN,Ae,eC,BR,aAc,aAb,aAa,aAe]),y (by omega) (by omega) l N _ _ _ (.inr (.inl ⟨⟨0,an,[],(k:Int)+1⟩,rfl,rfl,rfl⟩))⟩
   ·obtain⟨hokw,hoks⟩:=hasks w b hr
    have hls:=QA (TB:=TB1) S al (BE s t p al k) hbd (Rs hI) hcl0 hx.o w hoks hon (by omega);have hpv:=Dt (TB:=TB1) [s,t] p
    rcases Vj hI hr with ⟨u,rfl,g1,g2,g3,g4⟩|⟨u,rfl,g0,g1,g2,g3,g4⟩
    ·have R := NT (TB:=TB1) (Dx u) al (by omega)
     rw [g2] at R;rw [g1] at K
     rcases hc with ⟨hb,_⟩|⟨_,hc⟩
     ·cases hb
     ·rcases hc with ⟨U,A⟩|⟨U,M,hk,hv⟩
      all_goals
       rw [U] at hls;generalize BH s p al (BE s t p al k)=a at *;(repeat first|refine tA rfl ?_ |refine s2 rfl λ_ j=>?_|(refine Af rfl ?_;refine gA rfl ?_;first| refine gQ (A6.QD [(59,Bp s),(60,Bc a),(61,Bc p)] ⟨⟨_,rfl,.AQ rfl⟩,⟨_,rfl,J5 (k:=10) rfl rfl rfl N rfl rfl⟩,⟨_,rfl,.AQ rfl⟩,trivial⟩ (λZ'=>Bt rfl rfl rfl K rfl) (Fy _)) rfl ?_) |refine aU rfl ?_ |apply Aa)
       ((refine aC rfl ?_ ?_<;>rintro⟨⟩);all_goals try (simp at j;done))
       apply aK;(repeat first|refine tA rfl ?_ |refine s2 rfl λ_ j=>?_ |refine sP rfl (R) rfl ?_ |refine s3 rfl ?_ ?_<;>rintro rfl |refine aU rfl ?_ |apply Aa)
       (repeat' first|refine tA rfl ?_ |apply Aa|(refine aC rfl ?_ ?_<;>rintro⟨⟩));all_goals try contradiction
       apply aK;(repeat first|(refine sA rfl ?_ ?_;first|exact tI|omega)|(refine Af rfl ?_;refine gA rfl ?_;first| refine gS (λ_ _=>Bt rfl rfl (by simp [E.Cm,C.Cm,C.Dl,S.Cm]) (hls) rfl) ?_) |refine aU rfl ?_ |apply Aa)
      ·cases h
       ·have X:¬(k:Int)+1=n:=of_decide_eq_false P.symm
        rcases H with ⟨rfl,G⟩|⟨z,rfl,J,F,B⟩
        ·refine⟨⟨⟨k+1,none⟩,by (try dsimp only);omega,by (try dsimp only);omega,.inl ⟨rfl,by (try dsimp only);omega⟩⟩,by dsimp only;(omega),[0,1,2,3,4,5,6,7],?_⟩
         simp[cX,zC,f,cN,q,aAc,aAb,aAa,aAe,A]
         all_goals (intro i hi;match i,hi with|0,_=>rfl|1,_=>rfl)
        ·refine⟨⟨⟨k+1,some z⟩,by (try dsimp only);omega,by (try dsimp only);omega,.inr ⟨z,rfl,J,by (try dsimp only);omega,by (try dsimp only);omega⟩⟩,by dsimp only;(omega),[0,1,2,3,4,5,6,7],?_⟩
         simp[cX,zC,f,cN,q,aAc,aAb,aAa,aAe,A]
         all_goals (intro i hi;match i,hi with|0,_=>rfl|1,_=>rfl)
       ·have X:(k:Int)+1=n:=of_decide_eq_true P.symm
        obtain rfl:=ha rfl;refine⟨⟨⟨k+1,some l⟩,by (try dsimp only);omega,by (try dsimp only);omega,.inr ⟨l,rfl,N,by (try dsimp only);omega,by (try dsimp only);omega⟩⟩,by dsimp only;(omega),[0,1,2,3,4,8,9,10],?_⟩;simp[cX,zC,f,cN,q,aAc,aAb,aAa,aAe,A]
        all_goals (intro i hi;match i,hi with|0,_=>rfl|1,_=>rfl)
      ·cases h
       ·have X:¬(k:Int)+1=n:=of_decide_eq_false P.symm
        rcases H with ⟨rfl,G⟩|⟨z,rfl,J,F,B⟩
        ·refine⟨⟨⟨k+1,none⟩,by (try dsimp only);omega,λ_=>hv,.inl ⟨rfl,by (try dsimp only);omega⟩⟩,by dsimp only;(omega),[0,1,2,3,4,5,6,7],?_⟩
         simp[cX,zC,f,cN,q,aAc,aAb,aAa,aAe,M,decide_eq_false (show ¬k+1 < (BL s t p al).length by omega)]
         all_goals (intro i hi;match i,hi with|0,_=>rfl|1,_=>rfl)
        ·refine⟨⟨⟨k+1,some z⟩,by (try dsimp only);omega,λ_=>hv,.inr ⟨z,rfl,J,by (try dsimp only);omega,by (try dsimp only);omega⟩⟩,by dsimp only;(omega),[0,1,2,3,4,5,6,7],?_⟩
         simp[cX,zC,f,cN,q,aAc,aAb,aAa,aAe,M,decide_eq_false (show ¬k+1 < (BL s t p al).length by omega)]
         all_goals (intro i hi;match i,hi with|0,_=>rfl|1,_=>rfl)
       ·have X:(k:Int)+1=n:=of_decide_eq_true P.symm
        obtain rfl:=ha rfl;refine⟨⟨⟨k+1,some l⟩,by (try dsimp only);omega,λ_=>hv,.inr ⟨l,rfl,N,by (try dsimp only);omega,by (try dsimp only);omega⟩⟩,by dsimp only;(omega),[0,1,2,3,4,8,9,10],?_⟩;simp[cX,zC,f,cN,q,aAc,aAb,aAa,aAe,M,decide_eq_false (show ¬k+1 < (BL s t p al).length by omega)]
        all_goals (intro i hi;match i,hi with|0,_=>rfl|1,_=>rfl)
    ·have R := NT (TB:=TB1) (Dx u) al (by omega)
     rw [g2] at R;rw [g0] at K;rw [g1] at hfv
     rcases hc with ⟨_,hb0,hv,hk⟩|⟨hb,hc⟩
     ·have y:=v
      have hno:=I;rw [<-hk] at y hno;generalize BH s p al (BE s t p al k)=a at *;(repeat first|refine tA rfl ?_ |refine s2 rfl λ_ j=>?_|(refine Af rfl ?_;refine gA rfl ?_;first| refine gQ (A6.QD [(59,Bp s),(60,Bc a),(61,Bc p)] ⟨⟨_,rfl,.AQ rfl⟩,⟨_,rfl,J5 (k:=10) rfl rfl rfl N rfl rfl⟩,⟨_,rfl,.AQ rfl⟩,trivial⟩ (λZ'=>Bt rfl rfl rfl K rfl) (Fy _)) rfl ?_) |refine aU rfl ?_ |apply Aa)
      ((refine aC rfl ?_ ?_<;>rintro⟨⟩);all_goals try (simp at j;done))
      (repeat first|refine tA rfl ?_ |refine s2 rfl λ_ j=>?_|(refine Af rfl ?_;refine gA rfl ?_;first| refine gQ (A6.QD [(68,Bp t),(69,Bc a)] ⟨⟨_,rfl,.AQ rfl⟩,⟨_,rfl,J5 (k:=10) rfl rfl rfl N rfl rfl⟩,trivial⟩ (λZ'=>Bt rfl rfl rfl hfv rfl) (Fy _)) rfl ?_) |refine aU rfl ?_ |apply Aa)
      ((refine aC rfl ?_ ?_<;>rintro⟨⟩);all_goals try (simp at j;done))
      apply aK;(repeat first|refine tA rfl ?_ |refine s2 rfl λ_ j=>?_ |refine sP rfl (R) rfl ?_ |refine s3 rfl ?_ ?_<;>rintro rfl |refine aU rfl ?_ |apply Aa)
      (repeat' first|refine tA rfl ?_ |refine s2 rfl λ_ j=>?_|(refine Af rfl ?_;refine gA rfl ?_;first| refine gS (λ_ _=>S.iG hb0 hokw rfl rfl) ?_) |refine aU rfl ?_ |apply Aa|(refine aC rfl ?_ ?_<;>rintro⟨⟩));all_goals try contradiction
      (repeat first|refine tA rfl ?_ |refine sP rfl (hpv) rfl ?_|(refine Af rfl ?_;refine gA rfl ?_;first| refine gS (λ_ _=>AB rfl rfl (by rfl) (by rfl)) ?_) |refine aU rfl ?_ |apply Aa);cases h
      ·have X:¬(k:Int)+1=n:=of_decide_eq_false P.symm
       rcases H with ⟨rfl,G⟩|⟨z,rfl,J,F,B⟩
       ·exact aR ⟨_,rfl,[0,1],eX ⟨1,IV,Oa (BV [s,t] p),(k:Int)+1⟩,[(0,.cells 29 3 [[.d (iD 0),.d (.l []),.d (.l [])]]),(1,.cells 4 1 [[.d (bD false)]])],⟨by intro i hi;match i with|0=>rfl|1=>rfl,by decide⟩,rfl,by (simp[cX,zC,f,cN,Ae,eC,BR,aAc,aAb,aAa,aAe]),hno (by omega) _ _ _ (.inl ⟨⟨1,IV,Oa (BV [s,t] p),(k:Int)+1⟩,rfl,rfl,rfl⟩)⟩
       ·exact aR ⟨_,rfl,[0,1,5,6,7],eX ⟨1,IV,Oa (BV [s,t] p),(k:Int)+1⟩,[(0,.cells 29 3 [[.d (iD an.al),.arr 2 1 0 z.length,.arr 3 1 0 an.ac.length]]),(1,.cells 4 1 [[.d (bD true)]]),(2,.cells 64 1 (AA z)),(3,.cells 4 1 (an.ac.map AV)),(4,.sld 3 (sI z))],⟨by intro i hi;match i with|0=>rfl|1=>rfl,by decide⟩,rfl,by (simp[cX,zC,f,cN,Ae,eC,BR,aAc,aAb,aAa,aAe]),y (by omega) (by omega) z J _ _ _ (.inl ⟨⟨1,IV,Oa (BV [s,t] p),(k:Int)+1⟩,rfl,rfl,rfl⟩)⟩
      ·have X:(k:Int)+1=n:=of_decide_eq_true P.symm
       obtain rfl:=ha rfl;exact aR ⟨_,rfl,[0,1,8,9,10],eX ⟨1,IV,Oa (BV [s,t] p),(k:Int)+1⟩,[(0,.cells 29 3 [[.d (iD an.al),.arr 2 1 0 l.length,.arr 3 1 0 an.ac.length]]),(1,.cells 4 1 [[.d (bD true)]]),(2,.cells 64 1 (AA l)),(3,.cells 4 1 (an.ac.map AV)),(4,.sld 3 (sI l))],⟨by intro i hi;match i with|0=>rfl|1=>rfl,by decide⟩,rfl,by (simp[cX,zC,f,cN,Ae,eC,BR,aAc,aAb,aAa,aAe]),y (by omega) (by omega) l N _ _ _ (.inl ⟨⟨1,IV,Oa (BV [s,t] p),(k:Int)+1⟩,rfl,rfl,rfl⟩)⟩
     ·have hb0:LS ⟨s,p,al⟩ w=true:=by rcases hb with hb|hb;cases hb;exact hb
      rcases hc with ⟨U,A⟩|⟨U,M,hk,hv⟩
      all_goals
       rw [U] at hls;generalize BH s p al (BE s t p al k)=a at *;(repeat first|refine tA rfl ?_ |refine s2 rfl λ_ j=>?_|(refine Af rfl ?_;refine gA rfl ?_;first| refine gQ (A6.QD [(59,Bp s),(60,Bc a),(61,Bc p)] ⟨⟨_,rfl,.AQ rfl⟩,⟨_,rfl,J5 (k:=10) rfl rfl rfl N rfl rfl⟩,⟨_,rfl,.AQ rfl⟩,trivial⟩ (λZ'=>Bt rfl rfl rfl K rfl) (Fy _)) rfl ?_) |refine aU rfl ?_ |apply Aa)
       ((refine aC rfl ?_ ?_<;>rintro⟨⟩);all_goals try (simp at j;done))
       (repeat first|refine tA rfl ?_ |refine s2 rfl λ_ j=>?_|(refine Af rfl ?_;refine gA rfl ?_;first| refine gQ (A6.QD [(68,Bp t),(69,Bc a)] ⟨⟨_,rfl,.AQ rfl⟩,⟨_,rfl,J5 (k:=10) rfl rfl rfl N rfl rfl⟩,trivial⟩ (λZ'=>Bt rfl rfl rfl hfv rfl) (Fy _)) rfl ?_) |refine aU rfl ?_ |apply Aa)
       ((refine aC rfl ?_ ?_<;>rintro⟨⟩);all_goals try (simp at j;done))
       apply aK;(repeat first|refine tA rfl ?_ |refine s2 rfl λ_ j=>?_ |refine sP rfl (R) rfl ?_ |refine s3 rfl ?_ ?_<;>rintro rfl |refine aU rfl ?_ |apply Aa)
       (repeat' first|refine tA rfl ?_ |refine s2 rfl λ_ j=>?_|(refine Af rfl ?_;refine gA rfl ?_;first| refine gS (λ_ _=>S.iG hb0 hokw rfl rfl) ?_) |refine aU rfl ?_ |apply Aa|(refine aC rfl ?_ ?_<;>rintro⟨⟩));all_goals try contradiction
       apply aK;(repeat first|(refine sA rfl ?_ ?_;first|exact tI|omega)|(refine Af rfl ?_;refine gA rfl ?_;first| refine gS (λ_ _=>Bt rfl rfl (by simp [E.Cm,C.Cm,C.Dl,S.Cm]) (hls) rfl) ?_) |refine aU rfl ?_ |apply Aa)
      ·cases h
       ·have X:¬(k:Int)+1=n:=of_decide_eq_false P.symm
        rcases H with ⟨rfl,G⟩|⟨z,rfl,J,F,B⟩
        ·refine⟨⟨⟨k+1,none⟩,by (try dsimp only);omega,by (try dsimp only);omega,.inl ⟨rfl,by (try dsimp only);omega⟩⟩,by dsimp only;(omega),[0,1,2,3,4,5,6,7],?_⟩
         simp[cX,zC,f,cN,q,aAc,aAb,aAa,aAe,A]
         all_goals (intro i hi;match i,hi with|0,_=>rfl|1,_=>rfl)
        ·refine⟨⟨⟨k+1,some z⟩,by (try dsimp only);omega,by (try dsimp only);omega,.inr ⟨z,rfl,J,by (try dsimp only);omega,by (try dsimp only);omega⟩⟩,by dsimp only;(omega),[0,1,2,3,4,5,6,7],?_⟩
         simp[cX,zC,f,cN,q,aAc,aAb,aAa,aAe,A]
         all_goals (intro i hi;match i,hi with|0,_=>rfl|1,_=>rfl)
       ·have X:(k:Int)+1=n:=of_decide_eq_true P.symm
        obtain rfl:=ha rfl;refine⟨⟨⟨k+1,some l⟩,by (try dsimp only);omega,by (try dsimp only);omega,.inr ⟨l,rfl,N,by (try dsimp only);omega,by (try dsimp only);omega⟩⟩,by dsimp only;(omega),[0,1,2,3,4,8,9,10],?_⟩;simp[cX,zC,f,cN,q,aAc,aAb,aAa,aAe,A]
        all_goals (intro i hi;match i,hi with|0,_=>rfl|1,_=>rfl)
      ·cases h
       ·have X:¬(k:Int)+1=n:=of_decide_eq_false P.symm
        rcases H with ⟨rfl,G⟩|⟨z,rfl,J,F,B⟩
        ·refine⟨⟨⟨k+1,none⟩,by (try dsimp only);omega,λ_=>hv,.inl ⟨rfl,by (try dsimp only);omega⟩⟩,by dsimp only;(omega),[0,1,2,3,4,5,6,7],?_⟩
         simp[cX,zC,f,cN,q,aAc,aAb,aAa,aAe,M,decide_eq_false (show ¬k+1 < (BL s t p al).length by omega)]
         all_goals (intro i hi;match i,hi with|0,_=>rfl|1,_=>rfl)
        ·refine⟨⟨⟨k+1,some z⟩,by (try dsimp only);omega,λ_=>hv,.inr ⟨z,rfl,J,by (try dsimp only);omega,by (try dsimp only);omega⟩⟩,by dsimp only;(omega),[0,1,2,3,4,5,6,7],?_⟩
         simp[cX,zC,f,cN,q,aAc,aAb,aAa,aAe,M,decide_eq_false (show ¬k+1 < (BL s t p al).length by omega)]
         all_goals (intro i hi;match i,hi with|0,_=>rfl|1,_=>rfl)
       ·have X:(k:Int)+1=n:=of_decide_eq_true P.symm
        obtain rfl:=ha rfl;refine⟨⟨⟨k+1,some l⟩,by (try dsimp only);omega,λ_=>hv,.inr ⟨l,rfl,N,by (try dsimp only);omega,by (try dsimp only);omega⟩⟩,by dsimp only;(omega),[0,1,2,3,4,8,9,10],?_⟩;simp[cX,zC,f,cN,q,aAc,aAb,aAa,aAe,M,decide_eq_false (show ¬k+1 < (BL s t p al).length by omega)]
        all_goals (intro i hi;match i,hi with|0,_=>rfl|1,_=>rfl)
  ·obtain rfl:k=(BL s t p al).length:=by omega
   simp only [decide_eq_false Y];(repeat first|refine tA rfl ?_ |refine s2 rfl λ_ j=>?_ |refine aU rfl ?_ |apply Aa)
   ((refine aC rfl ?_ ?_<;>rintro⟨⟩);all_goals try (simp at j;done))
   (repeat first|(refine sA rfl ?_ ?_;first|exact tI|omega)|(refine Af rfl ?_;refine gA rfl ?_;first| refine gS (λ_ _=>AB rfl rfl (by rfl) (by rfl)) ?_) |refine aU rfl ?_ |apply Aa)
   rcases H with ⟨rfl,hq⟩|⟨z,rfl,J,F,B⟩
   ·exact aR ⟨_,rfl,[0,1],eX ⟨2,IV,[],((BL s t p al).length:Int)+1 - 1⟩,[(0,.cells 29 3 [[.d (iD 0),.d (.l []),.d (.l [])]]),(1,.cells 4 1 [[.d (bD false)]])],⟨by intro i hi;match i with|0=>rfl|1=>rfl,by decide⟩,rfl,by (simp[cX,zC,f,cN,Ae,eC,BR,aAc,aAb,aAa,aAe]),I hq _ _ _ (.inl ⟨⟨2,IV,[],((BL s t p al).length:Int)+1 - 1⟩,rfl,rfl,rfl⟩)⟩
   ·exact aR ⟨_,rfl,[0,1,5,6,7],eX ⟨2,IV,[],((BL s t p al).length:Int)+1 - 1⟩,[(0,.cells 29 3 [[.d (iD an.al),.arr 2 1 0 z.length,.arr 3 1 0 an.ac.length]]),(1,.cells 4 1 [[.d (bD true)]]),(2,.cells 64 1 (AA z)),(3,.cells 4 1 (an.ac.map AV)),(4,.sld 3 (sI z))],⟨by intro i hi;match i with|0=>rfl|1=>rfl,by decide⟩,rfl,by (simp[cX,zC,f,cN,Ae,eC,BR,aAc,aAb,aAa,aAe]),v F B z J _ _ _ (.inl ⟨⟨2,IV,[],((BL s t p al).length:Int)+1 - 1⟩,rfl,rfl,rfl⟩)⟩
theorem aAk{s t:Sys}{p:AX}(h:AP s p t < 0)(b:s.es.length<=1048576)(n:Int):AS Tryz.prog ⟨tabs,none⟩ 34 2 [(0,.cells 29 3 [[.d (iD 0),.d (.l []),.d (.l [])]]),(1,.cells 4 1 [[.d (bD false)]])] 2 [Bp s,Bp t,Bc p,.o (.fn 38 [.ip [iD n],.ptr 0 3 0 0,.ptr 1 1 0 0])] aAl:=by
 have c:=J8 (TB:=⟨tabs,none⟩) s p t b;unfold VI at c;rw [if_pos h] at c;refine AS.Bj (AS.RL (m:=2) (am rfl) Tryz.func34 rfl (by kernel_rfl) (am rfl) ?_);intro Z a;(repeat first|refine tA rfl ?_ |refine s2 rfl λ_ e=>?_ |refine sP rfl (c) rfl ?_ |refine aU rfl ?_ |apply Aa)
 ((refine aC rfl ?_ ?_<;>rintro⟨⟩);all_goals try (simp at e;done))
 (repeat first|refine tA rfl ?_|(refine Af rfl ?_;refine gA rfl ?_;first| refine gS (λ_ _=>AB rfl rfl (by rfl) (by rfl)) ?_) |refine aU rfl ?_ |apply Aa);exact aR ⟨_,rfl,[0,1],eX ⟨3,IV,[],0⟩,[(0,.cells 29 3 [[.d (iD 0),.d (.l []),.d (.l [])]]),(1,.cells 4 1 [[.d (bD false)]])],⟨by intro i hi;match i with|0=>rfl|1=>rfl,by decide⟩,rfl,by (simp[cX,zC,a,cN,Ae,eC,BR,aAc,aAb,aAa,aAe]),.inl ⟨⟨3,IV,[],0⟩,rfl,rfl,rfl⟩⟩
theorem aAm(s t:Sys)(p:AX)(c:s.es.length<=1048576)(n:Int):AS Tryz.prog ⟨tabs,none⟩ 21 0 [] 0 [Bp s,Bp t,Bc p,eI .i64 n] (bm (Hj s t p n)):=by
 have g:AS Tryz.prog ⟨tabs,none⟩ 34 2 [(0,.cells 29 3 [[.d (iD 0),.d (.l []),.d (.l [])]]),(1,.cells 4 1 [[.d (bD false)]])] 2 [Bp s,Bp t,Bc p,.o (.fn 38 [.ip [iD n],.ptr 0 3 0 0,.ptr 1 1 0 0])] (aAi (Hj s t p n)):=by
  by_cases h:AP s p t < 0
  ·rw [fm h];exact aAk h c n
  ·exact aAn h c n
 generalize Hj s t p n=o at *
 cases o with
 | none=>
  refine AS.Bj (AS.RL (m:=0) (am rfl) Tryz.func21 rfl (by kernel_rfl) (am rfl) ?_);intro Z b;(repeat first|refine tA rfl ?_ |refine aU rfl ?_ |apply Aa);(refine pW rfl ?_ rfl (by rfl);refine Ck [1,2] rfl rfl 2 g (by decide) ⟨rfl,by decide,by decide⟩ rfl (by simp[cX,zC,b,cN]) ?_;rintro j e f (⟨v,rfl,rfl,rfl⟩|⟨v,l,rfl,rfl,rfl⟩) _)
  all_goals
   (repeat first|refine aU rfl ?_ |apply Aa);refine rG (J6 [(0,11),(1,12),(2,1004)]) (by kernel_rfl) ?_;(repeat first|refine tA rfl ?_);(refine Af rfl ?_;refine dm ?_ rfl ⟨rfl,rfl⟩;refine Eo rfl rfl rfl rfl (by rfl) rfl (am rfl) ?_;refine⟨Fg 2 rfl rfl,?_⟩);(repeat first|refine tA rfl ?_ |apply Aa);exact aR ⟨_,rfl,[],Uh none,[],⟨λi hi=>absurd hi (kw i),lm⟩,rfl,trivial,rfl,rfl,rfl⟩
 | some a=>
  refine AS.Bj (AS.RL (m:=0) (am rfl) Tryz.func21 rfl (by kernel_rfl) (am rfl) ?_);intro Z b;(repeat first|refine tA rfl ?_ |refine aU rfl ?_ |apply Aa);(refine pW rfl ?_ rfl (by rfl);refine Ck [1,2] rfl rfl 2 g (by decide) ⟨rfl,by decide,by decide⟩ rfl (by simp[cX,zC,b,cN]) ?_;rintro j e f ⟨z,k,(⟨v,rfl,rfl,rfl⟩|⟨v,rfl,rfl,rfl⟩|⟨v,l,rfl,rfl,rfl⟩)⟩ _)
  all_goals
   (repeat first|refine aU rfl ?_ |apply Aa);refine rG (J6 [(0,11),(1,12),(2,1004)]) (by kernel_rfl) ?_;(repeat first|refine tA rfl ?_);(refine Af rfl ?_;refine dm ?_ rfl ⟨rfl,rfl⟩;refine Eo rfl rfl rfl rfl (by rfl) rfl (am rfl) ?_;refine⟨Fg 2 rfl rfl,?_⟩);(repeat first|refine tA rfl ?_ |apply Aa);exact aR ⟨_,rfl,[3,4,5],.t [(true,[.d (iD a.al),.arr 0 1 0 z.length,.arr 1 1 0 a.ac.length]),(false,[.d (bD true)])],[(0,.cells 64 1 (AA z)),(1,.cells 4 1 (a.ac.map AV)),(2,.sld 3 (sI z))],⟨λi hi=>absurd hi (kw i),by decide⟩,rfl,by (simp[cX,zC,b,cN,BR,Ae,eC]),z,k,rfl,rfl,rfl⟩
theorem aAh(s t:Sys)(p:AX)(a:s.es.length<=1048576)(n:Int):Pure Tryz.prog ⟨tabs,none⟩ 21 [Bp s,Bp t,Bc p,eI .i64 n] (Uh (Hj s t p n)):=bm.pure (aAm s t p a n)
end
end Go.Am
namespace Go.Am
open Go Go.Proofs
set_option maxHeartbeats 1000000
set_option maxRecDepth 4000
attribute [local irreducible] A6 Cz Lex Bv Aj Spec
variable {TB:BF}
abbrev aAu(r:Sys×Sys×AX×Int):E:=.t [(true,(AL r.1).map .d),(true,(AL r.2.1).map .d),(true,(AT r.2.2.1).map .d),(false,[.d (iD r.2.2.2)])]
theorem aAg(b:List UInt8)(hb:b.length<=9223372036854775807):Spec Tryz.prog TB 20 [] 0 [.o (.d (eP b))] (Em (λr:Sys×Sys×AX×Int=>(-1<=r.2.2.2/\r.2.2.2<=13)/\r.1.es.length<=1048576/\r.2.1.es.length<=1048576) aAu):=by
 obtain⟨b',g,l⟩:=WM (TB:=TB) b hb;have k:=ZN (TB:=TB) b' g 0 (by omega);refine eR Tryz.func20 rfl (by kernel_rfl) rfl ?_;intro Z c;(repeat first|refine tA rfl ?_ |refine aU rfl ?_ |apply Aa);(refine pW rfl ?_ rfl (by rfl);refine Ck [] rfl rfl 0 (l) (by decide) ⟨rfl,by decide,by decide⟩ rfl (by simp[cX,zC,c,cN]) ?_;rintro h e f ⟨rfl,rfl,rfl⟩ _);(repeat first|refine tA rfl ?_ |refine aU rfl ?_ |apply Aa);(refine pW rfl ?_ rfl (by rfl);refine Ai [3] rfl rfl (k) ⟨rfl,by decide,by decide⟩ rfl (by simp[cX,zC,c,cN]) ?_;rintro h e f ⟨q,⟨s,t,a⟩,p,j,rfl,rfl,rfl⟩ _);obtain⟨n,m,hk⟩:=De (TB:=TB) b' g q (by omega) [1,2,3,1,4,0,-1,13] (by decide) (by decide);(repeat first|refine tA rfl ?_);apply Aa;refine Aj.AF [4,5,6] [(2,.o (.ptr 0 3 0 0)),(3,.o (.ptr 1 3 0 0)),(4,.o (.ptr 2 3 0 0)),(6,.o (.ptr 3 2 0 0)),(7,.o (.ip (AL s))),(8,.o (.ip (AL t))),(9,.o (.ip (AT a)))] ⟨⟨_,rfl,.inl rfl⟩,⟨_,rfl,.inl rfl⟩,⟨_,rfl,.inl rfl⟩,⟨_,rfl,.inl rfl⟩,⟨_,rfl,.inr (.o (.box rfl (Ge.refl (AL s))))⟩,⟨_,rfl,.inr (.o (.box rfl (Ge.refl (AL t))))⟩,⟨_,rfl,.inr (.o (.box rfl (Ge.refl (AT a))))⟩,trivial⟩ ?_;(repeat first|refine aU rfl ?_);refine rG (J6 [(5,1),(6,1),(7,1),(8,1)]) (by kernel_rfl) ?_;(repeat first|refine tA rfl ?_);(refine pW rfl ?_ rfl (by rfl);refine Ai [3] rfl rfl (hk) ⟨rfl,by decide,by decide⟩ rfl (by simp[cX,zC,c,cN]) ?_;rintro h e f ⟨rfl,rfl,rfl⟩ _);(repeat first|refine tA rfl ?_ |apply Aa);exact aR ⟨_,rfl,[],aAu (s,t,a,n),[],⟨λi hi=>absurd hi (kw i),lm⟩,rfl,trivial,(s,t,a,n),⟨by (simp at m;dsimp only;omega),by have:s.es.length<=2003:=j.a;show s.es.length<=_;omega,by have:t.es.length<=2003:=j.b;show t.es.length<=_;omega⟩,rfl,rfl,rfl⟩
end Go.Am
namespace Go.Am
open Go Go.Proofs
set_option maxHeartbeats 1000000
set_option maxRecDepth 4000
attribute [local irreducible] A6 Cz Lex Bv Aj Spec
theorem aAf{tabs:List (Nat×Obj)}[hTb:C8 ⟨tabs,none⟩](b:List UInt8):Pure Tryz.prog ⟨tabs,none⟩ 8 [.o (.d (eP b))] (eB true):=by
 refine eG Tryz.func8 rfl (by kernel_rfl) rfl ?_;intro Z r;(repeat first |refine sN rfl ?_ |((first|refine sA rfl ?_ ?_|refine s4 rfl ‹_› rfl ?_ ?_);first|exact tI|omega|simp only[oZ] at *;omega) |refine s2 rfl λ_ c=>?_ |refine s3 rfl ?_ ?_<;>rintro rfl |refine aU rfl ?_ |apply Aa);(refine aC rfl ?_ ?_<;>rintro⟨⟩)
 ·(repeat first |refine sN rfl ?_ |((first|refine sA rfl ?_ ?_|refine s4 rfl ‹_› rfl ?_ ?_);first|exact tI|omega|simp only[oZ] at *;omega) |refine s2 rfl λ_ c=>?_ |refine s3 rfl ?_ ?_<;>rintro rfl |refine aU rfl ?_ |apply Aa)
  (subst_vars;exact aR ⟨_,rfl,rfl⟩)
 have j:b.length<=9223372036854775807:=by first|omega|simp only[oZ] at *;omega
 apply aK;(repeat first |refine sN rfl ?_ |((first|refine sA rfl ?_ ?_|refine s4 rfl ‹_› rfl ?_ ?_);first|exact tI|omega|simp only[oZ] at *;omega) |refine s2 rfl λ_ c=>?_ |refine s3 rfl ?_ ?_<;>rintro rfl |refine aU rfl ?_ |apply Aa);(refine pW rfl ?_ rfl (by rfl);refine Ai [] rfl rfl (aAg (TB:=⟨tabs,none⟩) b j) ⟨rfl,by decide,by decide⟩ rfl trivial ?_;rintro A m q ⟨⟨s,t,p,n⟩,⟨x,e,y⟩,rfl,rfl,rfl⟩ _);(repeat first |refine sN rfl ?_ |((first|refine sA rfl ?_ ?_|refine s4 rfl ‹_› rfl ?_ ?_);first|exact tI|omega|simp only[oZ] at *;omega) |refine s2 rfl λ_ c=>?_ |refine s3 rfl ?_ ?_<;>rintro rfl);apply Aa;refine Aj.AF [0,1,2] [(3,.o (.ip (AL s))),(4,.o (.ip (AL t))),(5,.o (.ip (AT p))),(6,eI .i64 n)] ⟨⟨_,rfl,.inr (.o (.box rfl (Ge.refl (AL s))))⟩,⟨_,rfl,.inr (.o (.box rfl (Ge.refl (AL t))))⟩,⟨_,rfl,.inr (.o (.box rfl (Ge.refl (AT p))))⟩,⟨_,rfl,.inl rfl⟩,trivial⟩ ?_;have w : -1<=n/\n<=13:=x;have h:=aAh (tabs:=tabs) s t p e n;have g:=VU (TB:=⟨tabs,none⟩) s t p e n;have l:=Yz (tabs:=tabs) s t p e;have k:=iC (TB:=⟨tabs,none⟩) nN
 rcases i:Hj s t p n with _|a
 ·rw [i] at h g
  (repeat first |refine sN rfl ?_ |((first|refine sA rfl ?_ ?_|refine s4 rfl ‹_› rfl ?_ ?_);first|exact tI|omega|simp only[oZ] at *;omega) |refine s2 rfl λ_ c=>?_ |refine sP rfl (h) rfl ?_|refine sP rfl (g) rfl ?_ |refine s3 rfl ?_ ?_<;>rintro rfl |refine aU rfl ?_ |apply Aa)
  (repeat' first |refine sN rfl ?_ |((first|refine sA rfl ?_ ?_|refine s4 rfl ‹_› rfl ?_ ?_);first|exact tI|omega|simp only[oZ] at *;omega) |refine s2 rfl λ_ c=>?_ |refine sP rfl (k) rfl ?_ |refine s3 rfl ?_ ?_<;>rintro rfl |refine aU rfl ?_ |apply Aa|(refine aC rfl ?_ ?_<;>rintro⟨⟩));all_goals try contradiction
  all_goals (subst_vars;exact aR ⟨_,rfl,rfl⟩)
 ·rw [i] at h g
  have ag:=iC (TB:=⟨tabs,none⟩) a;have z:=SG (TB:=⟨tabs,none⟩) s t p a;obtain⟨I,H,G,F,f,B⟩:=jV i;generalize EP s t p a=fn at *
  obtain⟨⟨code,va,tr,rd⟩,u⟩:∃v,v=BY s t p:=⟨_,rfl⟩
  rw [<-u] at l f;have f:(fn=0/\n=rd/\code=0)\/fn=3\/fn=4:=f;(repeat first |refine sN rfl ?_ |((first|refine sA rfl ?_ ?_|refine s4 rfl ‹_› rfl ?_ ?_);first|exact tI|omega|simp only[oZ] at *;omega) |refine s2 rfl λ_ c=>?_ |refine sP rfl (h) rfl ?_|refine sP rfl (g) rfl ?_ |refine s3 rfl ?_ ?_<;>rintro rfl |refine aU rfl ?_ |apply Aa)
  (repeat' first |refine sN rfl ?_ |((first|refine sA rfl ?_ ?_|refine s4 rfl ‹_› rfl ?_ ?_);first|exact tI|omega|simp only[oZ] at *;omega) |refine s2 rfl λ_ c=>?_ |refine sP rfl (ag) rfl ?_ |refine s3 rfl ?_ ?_<;>rintro rfl |refine aU rfl ?_ |apply Aa|(refine aC rfl ?_ ?_<;>rintro⟨⟩));all_goals try contradiction
  apply aK;(repeat first |refine sN rfl ?_ |((first|refine sA rfl ?_ ?_|refine s4 rfl ‹_› rfl ?_ ?_);first|exact tI|omega|simp only[oZ] at *;omega) |refine s2 rfl λ_ c=>?_ |refine sP rfl (l) rfl ?_|refine sP rfl (z) rfl ?_ |refine s3 rfl ?_ ?_<;>rintro rfl |refine aU rfl ?_ |apply Aa)
  rcases f with ⟨rfl,rfl,rfl⟩|rfl|rfl
  all_goals (repeat' first |refine sN rfl ?_ |((first|refine sA rfl ?_ ?_|refine s4 rfl ‹_› rfl ?_ ?_);first|exact tI|omega|simp only[oZ] at *;omega) |refine s2 rfl λ_ c=>?_ |refine s3 rfl ?_ ?_<;>rintro rfl |refine aU rfl ?_ |apply Aa|(refine aC rfl ?_ ?_<;>rintro⟨⟩));all_goals try contradiction
  all_goals first
   | (exfalso;first|omega|simp only[oZ] at *;omega;done)
   | (exfalso;simp at *;done)
   | (subst_vars;exact aR ⟨_,rfl,rfl⟩)
   | (apply aK)
  all_goals (repeat' first |refine sN rfl ?_ |((first|refine sA rfl ?_ ?_|refine s4 rfl ‹_› rfl ?_ ?_);first|exact tI|omega|simp only[oZ] at *;omega) |refine s2 rfl λ_ c=>?_ |refine s3 rfl ?_ ?_<;>rintro rfl |refine aU rfl ?_ |apply Aa|(refine aC rfl ?_ ?_<;>rintro⟨⟩));all_goals try contradiction
  all_goals first
   | (exfalso;first|omega|simp only[oZ] at *;omega;done)
   | (exfalso;simp at *;done)
   | (subst_vars;exact aR ⟨_,rfl,rfl⟩)
end Go.Am
