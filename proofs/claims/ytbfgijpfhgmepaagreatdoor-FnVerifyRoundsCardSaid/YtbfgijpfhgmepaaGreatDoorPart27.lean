/-
  Verdicts of systems that are alike, plainly.
-/
import Derived.Test.YtbfgijpfhgmepaaGreatDoorPart26
import Derived.Test.YtbfgijpfhgmepaaGreatDoorPart5
import Derived.Test.YtbfgijpfhgmepaaGreatDoorPart25
import Derived.Test.YtbfgijpfhgmepaaGreatDoorPart15
import Derived.Test.YtbfgijpfhgmepaaGreatDoorPart16
import Derived.Test.YtbfgijpfhgmepaaGreatDoorPart19
import Derived.Test.YtbfgijpfhgmepaaGreatDoorPart14
import Derived.Test.YtbfgijpfhgmepaaGreatDoorPart20
import Derived.Test.YtbfgijpfhgmepaaGreatDoorPart24
import Derived.Test.YtbfgijpfhgmepaaGreatDoorPart17
import Derived.Test.YtbfgijpfhgmepaaGreatDoorPart22
import Derived.Test.YtbfgijpfhgmepaaGreatDoorPart12
import Derived.Test.YtbfgijpfhgmepaaGreatDoorPart23
import Derived.Test.YtbfgijpfhgmepaaGreatDoorPart21
set_option linter.constructorNameAsVariable false
set_option linter.unusedSectionVars false
set_option linter.unusedSimpArgs false
set_option linter.unusedVariables false
namespace Go.Am
open Go Go.Proofs
set_option maxHeartbeats 1000000
attribute [local irreducible] AX Cb Lex Bh Aj Spec
theorem HC{s t:Sys}{p:AZ}(h:¬Br s p t < 0):EY s p t (Br s p t):=by
 have a:(AU s && AP p && AU t)=true:=by
  unfold Br at h;split at h
  ·assumption
  ·omega
 simp only [d4] at a;exact⟨a.1.1,a.1.2,a.2,rfl⟩
theorem aa{s t:Sys}{p:AZ}(h:¬Br s p t < 0):((Cp s t p).code=0/\Ep [s,t] p=true/\(Cp s t p).tr=[])\/((Cp s t p).code=2/\(Cp s t p).tr=[])\/((Cp s t p).code=1/\Ep [s,t] p=false/\(Cp s t p).tr=NH (BQ [s,t] p)):=by
 obtain⟨x,c,_,b⟩:=MT (HC h)
 rcases b with ⟨e,a⟩|⟨e,_⟩|⟨e,hk,_⟩
 ·rw [e];exact .inl ⟨rfl,(TE a).1,rfl⟩
 ·rw [e];exact .inr (.inl ⟨rfl,rfl⟩)
 ·rw [e];exact .inr (.inr ⟨rfl,hk,rfl⟩)
theorem SW{s t:Sys}{p:AZ}(h:Br s p t < 0):Cp s t p=⟨3,IK,[],0⟩:=by unfold Cp;rw [if_pos h]
abbrev mY:Sys:=⟨0,1,[]⟩
section
variable {t:Sys}{p:AZ}{al:Int}(hI:EY mY p t al)
include hI
end
end Go.Am
namespace Go.Am
open Go
set_option linter.unusedVariables false
variable {P:Program}{TB:Bz}{Z:Ctx}{d:Option Tmp}{ty:TypeId}{pos:String}{af:Array Edge}{g:Option (Nat×Bool)}{f:Env}{σ:Ab}{nx:Nat}
variable {K:E->Ab->Nat->Prop}
end Go.Am
namespace Go.Am
open Go Go.Proofs
set_option maxHeartbeats 1000000
attribute [local irreducible] AX Cb Lex Bh Aj Spec
variable {TB:Bz}
end Go.Am
namespace Go.Am
set_option linter.unusedVariables false
set_option linter.unusedSectionVars false
section
variable {α β:Type}[DecidableEq α][DecidableEq β]
end
def l8(a:AZ)(q r:Int):Prop:=∀w,AT (A6 a.al) w->Vt a (Fm a q w)=Vt a (Fm a r w)
structure m8 (a:AZ) (ks:List (List Int)):Prop where
 len:ks.length=a.nx.length
 ac:∀q r:Nat,q < a.nx.length->r < a.nx.length->ks[q]? = ks[r]?->Vt a q=Vt a r
 go:∀q r:Nat,q < a.nx.length->r < a.nx.length->ks[q]? = ks[r]?->∀l∈Ac a.al,ks[(CA a q l).toNat]? = ks[(CA a r l).toNat]?
 res:∀q r:Nat,q < a.nx.length->r < a.nx.length->l8 a q r->ks[q]? = ks[r]?
structure jw (a:AZ):Prop where
 b:gD a
 n1:1<=a.nx.length
 ac:a.ac.length=a.nx.length
section
variable {a:AZ}(h:jw a)
include h
end
structure l7 (a m:AZ):Prop where
 al:m.al=a.al
 g:jw m
 n2:m.nx.length<=a.nx.length
 lang:∀w,AT (A6 a.al) w->LA m w=LA a w
 rc:∀i:Nat,i < m.nx.length->∃w,AT (A6 a.al) w/\Fm m 0 w=i
 ds:∀i j:Nat,i < m.nx.length->j < m.nx.length->l8 m i j->i=j
end Go.Am
namespace Go.Am
open Go Go.Proofs
set_option maxHeartbeats 1000000
attribute [local irreducible] AX Cb Lex Bh Aj Spec
variable {TB:Bz}
end Go.Am
namespace Go.Am
open Go Go.Proofs
set_option maxHeartbeats 1000000
attribute [local irreducible] AX Cb Lex Bh Aj Spec
variable {tabs:List (Nat×Obj)}
end Go.Am
namespace Go.Am
open Go Go.Proofs
set_option maxHeartbeats 1000000
attribute [local irreducible] AX Cb Lex Bh Aj Spec
set_option linter.unusedSectionVars false
section
variable {s t s' t':Sys}{p p':AZ}{al:Int}(hI:EY s p t al)(hI':EY s' p' t' al)(hL:Td (LS ⟨s',p',al⟩) (LS ⟨s,p,al⟩) al)
include hI hI' hL
end
theorem SD{s t:Sys}{p:AZ}{al:Int}(hI:EY s p t al){x:A0}{r:Nat}(c:Hi s p al x r){w:W}{b:Bool}(h:Gg s t p al (BR s p al x)=some (w,b)):AT (A6 al) w:=by
 obtain⟨g,a,_⟩:=Mf hI c;unfold Gg at h;split at h
 ·rename_i u e
  injection h with h;injection h with h f
  subst h;exact dL (Xc hI g a e).1
 ·split at h
  ·rename_i v d
   injection h with h;injection h with h f
   subst h;have:=(VC d).1;rw [a] at this;exact dL this
  ·cases h
end Go.Am
namespace Go.Am
open Go Go.Proofs
set_option linter.unusedVariables false
theorem UX{s t:Sys}{p:AZ}{al:Int}:∀(k:Nat) (x:A0),(EC s t p al k x).length<=k+1
 | 0,x=>by simp [EC]
 | k+1,x=>by
  simp only [EC]
  cases HG s t p al x with
  | none=>simp
  | some y=>have:=UX (s:=s) (t:=t) (p:=p) (al:=al) k y;simp only [nM];omega
def Tr(s t:Sys)(p:AZ)(al:Int)(x:A0)(v:W):Prop:=MY (A6 al) x v\/∃w b,Gg s t p al (BR s p al x)=some (w,b)/\(v=w\/Xt (LS ⟨s,p,al⟩) (A6 al) x w v)
theorem YA{s t:Sys}{p:AZ}{al:Int}(h:Bc ⟨s,p,al⟩=true){x:A0}(a:x∈BV s t p al):∃r,Hi s p al x r:=by
 obtain⟨i,hi⟩:=List.mem_iff_getElem?.1 a;exact⟨_,PB 11 (SQ h).2 i x hi⟩
theorem SS{s:Sys}{p:AZ}{al:Int}{x:A0}{r:Nat}(b:Hi s p al x r):GU al 20000 x:=by
 obtain⟨_,_,_,a,_⟩:=Ds b.v;have:=a.bd;rwa [Ft] at this
section
variable {s t:Sys}{p:AZ}{al:Int}(hI:EY s p t al)(h:Bc ⟨s,p,al⟩=true)
include hI h
theorem YT{x:A0}(g:x∈BV s t p al):ED 288238 (Tr s t p al x):=by
 obtain⟨r,e⟩:=YA h g;have hb:=SS e;refine((Mn hb).or (b:=286474) ?_).sub (b:=288238) (λv c=>c) (by omega)
 cases f:Gg s t p al (BR s p al x) with
 | none=>exact .none λv ⟨w,b,a,_⟩=>by cases a
 | some wb=>
  obtain⟨w,b⟩:=wb;have d:=SD hI e f;have i:=Og f;refine((ED.map (n:=1) (p:=λv=>v=w) (λ_:Unit=>w) [()] (by simp) λv c=>⟨(),by simp,c⟩).or (Zd (L:=LS ⟨s,p,al⟩) hb d (by omega))).sub (b:=286474) (λv ⟨w',b',a,c⟩=>?_) (by omega)
  injection a with a
  injection a with a _
  subst a;exact c
theorem ea{x:A0}(k:x∈BV s t p al)(v:W)(a:Tr s t p al x v):okB al v:=by
 obtain⟨r,f⟩:=YA h k;have hb:=SS f
 rcases a with a|⟨w,b,g,a⟩
 ·exact hb.on (I9 al) (by omega) v a
 ·have d:=SD hI f g
  have e:=Og g
  rcases a with rfl|a
  ·exact⟨d,by omega⟩
  ·rcases a with a|a|⟨z,i,u,l,y,j,a⟩
   ·exact hb.on (I9 al) (by omega) v a
   ·exact(hb.mono (by omega)).mV (I9 al) d (by omega) v a
   ·obtain⟨q,_,rfl⟩:=Iu i
    exact(RH hb (λc m=>d c (by simp [m])) (by simp at e;omega) l).mr (I9 al) (by omega) y j v a
theorem dZ:∃ok:W->Prop,(∀w,ok w->jt al w)/\SU (Ew s p al) ok/\(∀y∈EK (LS ⟨s,p,al⟩) (A6 al) 13 Bu,IL ok (A6 al) y)/\
 ∀x∈BV s t p al,IL ok (A6 al) x/\∀w b,Gg s t p al (BR s p al x)=some (w,b)->ok w/\∀v,Xt (LS ⟨s,p,al⟩) (A6 al) x w v->ok v:=by
 have i:=QA (L:=LS ⟨s,p,al⟩) (JG al);have g:ED (12*288238) (λv=>∃x∈BV s t p al,Tr s t p al x v):=ED.ex (n:=12) (b:=288238) (q:=λx v=>Tr s t p al x v) (BV s t p al) (UX 11 _) (λx c=>YT hI h c) λw d=>d;have l:=i.or g
 have e:∀w,((∃y∈EK (LS ⟨s,p,al⟩) (A6 al) 13 Bu,MY (A6 al) y w)\/∃x∈BV s t p al,Tr s t p al x w)->okB al w:=λw d=>by
  rcases d with ⟨y,f,a⟩|⟨x,c,a⟩
  ·exact(JG al).mr (I9 al) (by omega) y f w a
  ·exact ea hI h c w a
 obtain⟨k,m⟩:=fU (te:=Ew s p al) l (by omega) (λw d=>by rw [Ft];exact e w d);rw [Ft] at k;exact⟨_,k,m,λy f v a=>.inl ⟨y,f,a⟩,λx c=>⟨λv a=>.inr ⟨x,c,.inl a⟩,λw b j=>⟨.inr ⟨x,c,.inr ⟨w,b,j,.inl rfl⟩⟩,λv a=>.inr ⟨x,c,.inr ⟨w,b,j,.inr a⟩⟩⟩⟩⟩
end
end Go.Am
namespace Go.Am
open Go Go.Proofs
set_option maxHeartbeats 1000000
attribute [local irreducible] AX Cb Lex Bh Aj Spec
noncomputable def BL(s t:Sys)(p:AZ)(al:Int)(k:Nat):A0:=(BV s t p al).getD k ⟨[],[]⟩
abbrev LO(v:Vd):List D:=[iD v.code,iD v.a.al,CW v.a.nx,E4 v.a.ac,tD v.tr,iD v.rd]
abbrev dP(v:Vd):E:=.a [.d (iD v.code),.d (iD v.a.al),.d (CW v.a.nx),.d (E4 v.a.ac),.d (tD v.tr),.d (iD v.rd)]
section
variable {s t:Sys}{p:AZ}{al:Int}(hI:EY s p t al)
include hI
theorem YH{x:A0}{r:Nat}(b:Hi s p al x r){w:W}(c:AT (A6 al) w)(d:w.length<=4000):LB (Ew s p al) x w=GR (LS ⟨s,p,al⟩) (A6 al) x w:=by
 have e:(CT (Ew s p al) && BD (CD (Ew s p al)) (Bb (Ew s p al)) x)=true:=by
  rw [Qx b.v,Ny,Ft,b.o];rfl
 have a:Gf (Bb (Ew s p al)) w=true:=by rw [Ft];exact XJ (QH hI) c d
 unfold LB;rw [e,a,qF,if_pos rfl,Ny,Ft]
theorem cn{x:A0}{r:Nat}(a:Hi s p al x r){w:W}{b:Bool}(h:Gg s t p al (BR s p al x)=some (w,b))(hb:(b || LS ⟨s,p,al⟩ w)=true):HG s t p al x=GR (LS ⟨s,p,al⟩) (A6 al) x w:=by
 unfold HG;rw [h];simp only [hb,if_true];exact YH hI a (SD hI a h) (Og h)
omit hI in
theorem Jm{k:Nat}(h:k < (BV s t p al).length):(BV s t p al)[k]? = some (BL s t p al k):=by
 unfold BL;rw [pT,d6 h];rfl
theorem PI{k:Nat}(h:k+1=(BV s t p al).length):Cp s t p=OX s t p al (BL s t p al k) (k+1):=by
 unfold Cp;rw [if_neg (TT hI),<-hI.hal,<-h]
 have e:(BV s t p al).getLastD Bu=BL s t p al k:=by
  rw [List.getLastD_eq_getLast?,List.getLast?_eq_getElem?,<-h,Nat.add_sub_cancel,Jm (by omega)];rfl
 rw [e]
theorem UB{k:Nat}(h:k < (BV s t p al).length):Hi s p al (BL s t p al k) (k+1)/\
    ((Gg s t p al (BR s p al (BL s t p al k))=none/\Cp s t p=⟨0,BR s p al (BL s t p al k),[],(k:Int)+1⟩/\k+1=(BV s t p al).length)\/
      ∃ w b,Gg s t p al (BR s p al (BL s t p al k))=some (w,b)/\AT (A6 al) w/\w.length<=4000/\
        ((b = false/\LS ⟨s,p,al⟩ w=false/\Cp s t p=⟨1,IK,NH (BQ [s,t] p),(k:Int)+1⟩/\k+1=(BV s t p al).length)\/
         ((b=true\/LS ⟨s,p,al⟩ w=true)/\((GR (LS ⟨s,p,al⟩) (A6 al) (BL s t p al k) w=some (BL s t p al (k+1))/\k+1 < (BV s t p al).length)\/
           (GR (LS ⟨s,p,al⟩) (A6 al) (BL s t p al k) w=none/\BL s t p al (k+1)=⟨[],[]⟩/\k+1=(BV s t p al).length/\Cp s t p=⟨2,IK,[],(k:Int)+1⟩))))):=by
  obtain⟨l,g⟩:=run_get hI (Jm h);refine⟨l,?_⟩
  have f:((k+1:Nat):Int)=(k:Int)+1:=by omega
  have a:HG s t p al (BL s t p al k)=none->k+1=(BV s t p al).length:=λe=>by
    rw [e] at g;have:=p7.1 g;omega
  cases d:Gg s t p al (BR s p al (BL s t p al k)) with
  | none=>
    have e:HG s t p al (BL s t p al k)=none:=by unfold HG;rw [d]
    have c:=PI hI (a e);unfold OX at c;rw [d,f] at c;exact .inl ⟨rfl,c,a e⟩
  | some wb=>
    obtain⟨w,b⟩:=wb;refine .inr ⟨w,b,rfl,SD hI l d,Og d,?_⟩;by_cases hb:(b || LS ⟨s,p,al⟩ w)=true
    · refine .inr ⟨by simpa using hb,?_⟩
      have e:=cn hI l d hb
      cases i:GR (LS ⟨s,p,al⟩) (A6 al) (BL s t p al k) w with
      | some y=>
        rw [i] at e;rw [e] at g;have j:=(ce.1 g).1;refine .inl ⟨?_,j⟩;rw [Jm j] at g;exact g.symm
      | none=>
        rw [i] at e;have hk:=a e;have c:=PI hI hk;unfold OX at c;rw [d] at c;simp only [hb,if_true,f] at c;refine .inr ⟨rfl,?_,hk,c⟩;unfold BL;rw [pT,nj (by omega)];rfl
    · have e:HG s t p al (BL s t p al k)=none:=by unfold HG;rw [d];simp only [hb];rfl
      have hk:=a e;have c:=PI hI hk;unfold OX at c;rw [d] at c;simp only [hb,f] at c
      have hb:b=false/\LS ⟨s,p,al⟩ w=false:=by simpa using hb
      exact .inl ⟨hb.1,hb.2,c,hk⟩
theorem Ux{a:AZ}{w:W}{b:Bool}(h:Gg s t p al a=some (w,b)):(∃u,b=true/\DD s a p=some u/\II al (Dp u)=w/\Hl u/\(Dp u).length<=2304)\/(∃u,b=false/\DD s a p=none/\BQ [t] a=some u/\II al (Dp u)=w/\Hl u/\(Dp u).length<=192):=by
 unfold Gg at h;split at h
 ·rename_i u d
  injection h with h;injection h with h e
  obtain⟨c,f⟩:=ae d;exact .inl ⟨u,e.symm,d,(Pl c).trans h,c,f⟩
 ·rename_i d
  split at h
  ·rename_i v g
   injection h with h;injection h with h e
   obtain⟨c,f⟩:=ab g;exact .inr ⟨v,e.symm,d,g,(Pl c).trans h,c,f⟩
  ·cases h
omit hI in
theorem Uy{a:AZ}(h:Gg s t p al a=none):DD s a p=none/\BQ [t] a=none:=by
 unfold Gg at h;split at h
 ·cases h
 ·rename_i c
  split at h
  ·cases h
  ·rename_i b
   exact⟨c,b⟩
theorem dD:Sm (Ew s p al)=some (BL s t p al 0):=by
 obtain⟨b,_⟩:=SQ (s:=s) (p:=p) (al:=al) (Ge hI);have a:=Jm (s:=s) (t:=t) (p:=p) (al:=al) (k:=0) (by have:=JD hI;omega);rw [b];unfold BV at a;simp only [EC] at a
 simpa using a
end
end Go.Am
namespace Go.Am
set_option linter.unusedVariables false
end Go.Am
namespace Go.Am
open Go Go.Proofs
set_option maxHeartbeats 1000000
attribute [local irreducible] AX Cb Lex Bh Aj Spec
section
variable {s t:Sys}{p:AZ}{al:Int}(hI:EY s p t al)
include hI
theorem iZ:(Cp s t p).rd=(BV s t p al).length:=by
 obtain⟨x,_,_,a⟩:=MT hI
 rcases a with ⟨e,_⟩|⟨e,_⟩|⟨e,_⟩<;>rw [e]
end
theorem fY{s t:Sys}{p:AZ}(h:¬Br s p t < 0):1<=(Cp s t p).rd/\(Cp s t p).rd<=12/\
    (((Cp s t p).code=0/\Ep [s,t] p=true/\(Cp s t p).tr=[]/\(Cp s t p).rd<=(Cp s t p).a.nx.length/\Ib s t p (Cp s t p).a=0)\/
     ((Cp s t p).code=2/\(Cp s t p).tr=[]/\(Cp s t p).a=IK)\/
     ((Cp s t p).code=1/\Ep [s,t] p=false/\(Cp s t p).a=IK/\(Cp s t p).tr=NH (BQ [s,t] p)/\(BQ [s,t] p).isSome=true)):=by
  have hI:=HC h;have g:=iZ hI;have i:=JD hI;refine⟨by omega,by omega,?_⟩;have hk:=aa h;obtain⟨x,c,_,f⟩:=MT hI;obtain⟨_,_,j,_⟩:=Mf hI c;have d:=c.rows
  rcases f with ⟨e,b⟩|⟨e,_⟩|⟨e,b⟩
  · rw [e] at hk |-
    refine .inl ⟨rfl,?_,rfl,?_,b⟩
    · rcases hk with ⟨_,hk,_⟩|⟨hk,_⟩|⟨hk,_⟩
      · exact hk
      · cases hk
      · cases hk
    · show ((BV s t p (Br s p t)).length:Int)<=((BR s p (Br s p t) x).nx.length:Nat)
      omega
  · rw [e];exact .inr (.inl ⟨rfl,rfl,rfl⟩)
  · rw [e];exact .inr (.inr ⟨rfl,b.1,rfl,rfl,b.2⟩)
theorem aV{s t:Sys}{p:AZ}{al:Int}(hI:EY s p t al){x:A0}{r:Nat}(a:Hi s p al x r):YU (Ew s p al) x=some (BR s p al x):=by
 unfold YU;rw [Qx a.v,Ny,Ft,a.o,if_pos (by rfl:(none:Option W).isNone=true)];rfl
end Go.Am
namespace Go.Am
open Go Go.Proofs
set_option maxHeartbeats 1000000
attribute [local irreducible] AX Cb Lex Bh Aj Spec
variable {TB:Bz}
theorem Y0(l:List Int)(h:l.length<=1048576):Spec Tryz.prog TB 151 [] 0 [Ak l] (λx σ nx=>x=.o (.arr 0 1 0 l.length)/\nx=1/\σ=[(0,.cells 3 1 (l.map AD))]):=by
 refine eN Tryz.func151 rfl (by kernel_rfl) rfl ?_;intro Z b;(repeat first |refine sN rfl ?_ |((first|refine sM rfl ?_ ?_|refine s4 rfl ‹_› rfl ?_ ?_);first|exact tI|omega|simp only[oZ] at *;omega) |refine s2 rfl λ_ a=>?_ |refine s3 rfl ?_ ?_<;>rintro rfl |refine aU rfl ?_ |refine Aa ?_ |refine rE (by kernel_rfl) ?_);(refine Ag rfl ?_;refine CB (λ_ _=>CG rfl) rfl ?_);(repeat first |refine sN rfl ?_ |((first|refine sM rfl ?_ ?_|refine s4 rfl ‹_› rfl ?_ ?_);first|exact tI|omega|simp only[oZ] at *;omega) |refine s2 rfl λ_ a=>?_ |refine s3 rfl ?_ ?_<;>rintro rfl |refine aU rfl ?_ |refine Aa ?_ |refine rE (by kernel_rfl) ?_);(refine pW rfl ?_ rfl (by rfl);refine Lh rfl ?_;intro e c);(repeat first |refine sN rfl ?_ |((first|refine sM rfl ?_ ?_|refine s4 rfl ‹_› rfl ?_ ?_);first|exact tI|omega|simp only[oZ] at *;omega) |refine s2 rfl λ_ a=>?_ |refine s3 rfl ?_ ?_<;>rintro rfl |refine aU rfl ?_ |refine Aa ?_ |refine rE (by kernel_rfl) ?_);(refine aC rfl ?_ ?_<;>rintro⟨⟩)
 ·obtain rfl:l=[]:=by simpa using c rfl
  (repeat first |refine sN rfl ?_ |((first|refine sM rfl ?_ ?_|refine s4 rfl ‹_› rfl ?_ ?_);first|exact tI|omega|simp only[oZ] at *;omega) |refine s2 rfl λ_ a=>?_ |refine s3 rfl ?_ ?_<;>rintro rfl |refine aU rfl ?_ |refine Aa ?_ |refine rE (by kernel_rfl) ?_);(refine pW rfl ?_ rfl (by rfl);refine Hc 1 3 ?_);(repeat first |refine sN rfl ?_ |((first|refine sM rfl ?_ ?_|refine s4 rfl ‹_› rfl ?_ ?_);first|exact tI|omega|simp only[oZ] at *;omega) |refine s2 rfl λ_ a=>?_ |refine s3 rfl ?_ ?_<;>rintro rfl |refine aU rfl ?_ |refine Aa ?_ |refine rE (by kernel_rfl) ?_);refine aR ⟨_,rfl,rfl,rfl,rfl⟩
 ·refine aK ?_
  (repeat first |refine sN rfl ?_ |((first|refine sM rfl ?_ ?_|refine s4 rfl ‹_› rfl ?_ ?_);first|exact tI|omega|simp only[oZ] at *;omega) |refine s2 rfl λ_ a=>?_ |refine s3 rfl ?_ ?_<;>rintro rfl |refine aU rfl ?_ |refine Aa ?_ |refine rE (by kernel_rfl) ?_);(refine pW rfl ?_ rfl (by rfl);refine Bf rfl rfl rfl rfl (by simp) (by rfl) (by rfl) (by rfl) (by rfl) ?_);(repeat first |refine sN rfl ?_ |((first|refine sM rfl ?_ ?_|refine s4 rfl ‹_› rfl ?_ ?_);first|exact tI|omega|simp only[oZ] at *;omega) |refine s2 rfl λ_ a=>?_ |refine s3 rfl ?_ ?_<;>rintro rfl |refine aU rfl ?_ |refine Aa ?_ |refine rE (by kernel_rfl) ?_);(refine pW rfl ?_ rfl (by rfl);refine Al rfl rfl rfl (by first|(simp;done)|(simp;(first|omega|simp only[oZ] at *;omega))) rfl (by intro r d;simp only [n7,d9] at d;obtain⟨_,_,rfl⟩:=d;rfl) (by rfl) (am rfl) (by simp;omega) ?_);(repeat first |refine sN rfl ?_ |((first|refine sM rfl ?_ ?_|refine s4 rfl ‹_› rfl ?_ ?_);first|exact tI|omega|simp only[oZ] at *;omega) |refine s2 rfl λ_ a=>?_ |refine s3 rfl ?_ ?_<;>rintro rfl |refine aU rfl ?_ |refine Aa ?_ |refine rE (by kernel_rfl) ?_);refine Aj.names [1] [(2,.o (.arr 0 1 0 l.length))] [(0,.cells 3 1 (l.map AD))] (by intro i hi;rw [b] at hi;omega) (by simp) (by simp[cX,zC,b]) (by simp[cX,zC,b]) ?_;refine aR ⟨_,rfl,rfl,rfl,rfl⟩
theorem YY(l:List Bool)(h:l.length<=1048576):Spec Tryz.prog TB 150 [] 0 [OE l] (λx σ nx=>x=.o (.arr 0 1 0 l.length)/\nx=1/\σ=[(0,.cells 4 1 (l.map AS))]):=by
 refine eN Tryz.func150 rfl (by kernel_rfl) rfl ?_;intro Z b;(repeat first |refine sN rfl ?_ |((first|refine sM rfl ?_ ?_|refine s4 rfl ‹_› rfl ?_ ?_);first|exact tI|omega|simp only[oZ] at *;omega) |refine s2 rfl λ_ a=>?_ |refine s3 rfl ?_ ?_<;>rintro rfl |refine aU rfl ?_ |refine Aa ?_ |refine rE (by kernel_rfl) ?_);(refine Ag rfl ?_;refine CB (λ_ _=>CG rfl) rfl ?_);(repeat first |refine sN rfl ?_ |((first|refine sM rfl ?_ ?_|refine s4 rfl ‹_› rfl ?_ ?_);first|exact tI|omega|simp only[oZ] at *;omega) |refine s2 rfl λ_ a=>?_ |refine s3 rfl ?_ ?_<;>rintro rfl |refine aU rfl ?_ |refine Aa ?_ |refine rE (by kernel_rfl) ?_);(refine pW rfl ?_ rfl (by rfl);refine Lh rfl ?_;intro e c);(repeat first |refine sN rfl ?_ |((first|refine sM rfl ?_ ?_|refine s4 rfl ‹_› rfl ?_ ?_);first|exact tI|omega|simp only[oZ] at *;omega) |refine s2 rfl λ_ a=>?_ |refine s3 rfl ?_ ?_<;>rintro rfl |refine aU rfl ?_ |refine Aa ?_ |refine rE (by kernel_rfl) ?_);(refine aC rfl ?_ ?_<;>rintro⟨⟩)
 ·obtain rfl:l=[]:=by simpa using c rfl
  (repeat first |refine sN rfl ?_ |((first|refine sM rfl ?_ ?_|refine s4 rfl ‹_› rfl ?_ ?_);first|exact tI|omega|simp only[oZ] at *;omega) |refine s2 rfl λ_ a=>?_ |refine s3 rfl ?_ ?_<;>rintro rfl |refine aU rfl ?_ |refine Aa ?_ |refine rE (by kernel_rfl) ?_);(refine pW rfl ?_ rfl (by rfl);refine Hc 1 4 ?_);(repeat first |refine sN rfl ?_ |((first|refine sM rfl ?_ ?_|refine s4 rfl ‹_› rfl ?_ ?_);first|exact tI|omega|simp only[oZ] at *;omega) |refine s2 rfl λ_ a=>?_ |refine s3 rfl ?_ ?_<;>rintro rfl |refine aU rfl ?_ |refine Aa ?_ |refine rE (by kernel_rfl) ?_);refine aR ⟨_,rfl,rfl,rfl,rfl⟩
 ·refine aK ?_
  (repeat first |refine sN rfl ?_ |((first|refine sM rfl ?_ ?_|refine s4 rfl ‹_› rfl ?_ ?_);first|exact tI|omega|simp only[oZ] at *;omega) |refine s2 rfl λ_ a=>?_ |refine s3 rfl ?_ ?_<;>rintro rfl |refine aU rfl ?_ |refine Aa ?_ |refine rE (by kernel_rfl) ?_);(refine pW rfl ?_ rfl (by rfl);refine Bf rfl rfl rfl rfl (by simp) (by rfl) (by rfl) (by rfl) (by rfl) ?_);(repeat first |refine sN rfl ?_ |((first|refine sM rfl ?_ ?_|refine s4 rfl ‹_› rfl ?_ ?_);first|exact tI|omega|simp only[oZ] at *;omega) |refine s2 rfl λ_ a=>?_ |refine s3 rfl ?_ ?_<;>rintro rfl |refine aU rfl ?_ |refine Aa ?_ |refine rE (by kernel_rfl) ?_);(refine pW rfl ?_ rfl (by rfl);refine Al rfl rfl rfl (by first|(simp;done)|(simp;(first|omega|simp only[oZ] at *;omega))) rfl (by intro r d;simp only [n7,d9] at d;obtain⟨_,_,rfl⟩:=d;rfl) (by rfl) (am rfl) (by simp;omega) ?_);(repeat first |refine sN rfl ?_ |((first|refine sM rfl ?_ ?_|refine s4 rfl ‹_› rfl ?_ ?_);first|exact tI|omega|simp only[oZ] at *;omega) |refine s2 rfl λ_ a=>?_ |refine s3 rfl ?_ ?_<;>rintro rfl |refine aU rfl ?_ |refine Aa ?_ |refine rE (by kernel_rfl) ?_);refine Aj.names [1] [(2,.o (.arr 0 1 0 l.length))] [(0,.cells 4 1 (l.map AS))] (by intro i hi;rw [b] at hi;omega) (by simp) (by simp[cX,zC,b]) (by simp[cX,zC,b]) ?_;refine aR ⟨_,rfl,rfl,rfl,rfl⟩
theorem Mj(a:AZ)(ha:LY 1000000 a):AR Tryz.prog TB 101 0 [] 0 [Bi a] (KD a):=by
 have z:=ha.nx;have y:=ha.ac;have u:=YY (TB:=TB) a.ac (by omega);refine AR.Be (AR.QY (m:=0) (am rfl) Tryz.func101 rfl (by kernel_rfl) (am rfl) ?_);intro Z c;(repeat first |refine sN rfl ?_ |((first|refine sA rfl ?_ ?_|refine s4 rfl ‹_› rfl ?_ ?_);first|exact tI|omega|simp only[oZ] at *;omega) |refine s2 rfl λ_ b=>?_ |refine s3 rfl ?_ ?_<;>rintro rfl |refine aU rfl ?_ |refine Aa ?_);refine R.Qj [(6,3),(0,2),(1,2),(2,2),(3,2),(4,1),(5,1),(7,5)] mixed (by kernel_rfl) rfl (by kernel_rfl) ?_;(repeat ((refine R.Ag rfl ?_;first |(refine R.yQ (md:=false) rfl rfl rfl ?_ ?_;first|exact tI|omega|simp only[oZ] at *;omega) |(refine R.yB rfl rfl rfl ?_;intro _ b) |refine R.yS rfl rfl rfl ?_ |refine R.yP rfl rfl rfl rfl ?_ |refine R.yA rfl rfl rfl rfl ?_ |refine R.yW rfl rfl rfl ?_ |refine R.fp rfl rfl ?_ |(refine R.yG rfl rfl ?_ ?_<;>intro hb<;>subst hb) )));(refine R.Ag rfl ?_;refine R.JQ (λ_=>?_) rfl rfl;refine Ai [] rfl rfl u ⟨rfl,by simp,by simp⟩ rfl trivial ?_;rintro w h j ⟨rfl,rfl,rfl⟩ _);(repeat ((refine R.Ag rfl ?_;first |(refine R.yQ (md:=false) rfl rfl rfl ?_ ?_;first|exact tI|omega|simp only[oZ] at *;omega) |(refine R.yB rfl rfl rfl ?_;intro _ b) |refine R.yS rfl rfl rfl ?_ |refine R.yP rfl rfl rfl rfl ?_ |refine R.yA rfl rfl rfl rfl ?_ |refine R.yW rfl rfl rfl ?_ |refine R.fp rfl rfl ?_ |(refine R.yG rfl rfl ?_ ?_<;>intro hb<;>subst hb) )));(refine R.Ag rfl ?_;refine R.JQ (λ_=>?_) rfl rfl;refine I8 1 1 62 rfl rfl rfl (by rfl) (by rfl) ?_);(repeat ((refine R.Ag rfl ?_;first |(refine R.yQ (md:=false) rfl rfl rfl ?_ ?_;first|exact tI|omega|simp only[oZ] at *;omega) |(refine R.yB rfl rfl rfl ?_;intro _ b) |refine R.yS rfl rfl rfl ?_ |refine R.yP rfl rfl rfl rfl ?_ |refine R.yA rfl rfl rfl rfl ?_ |refine R.yW rfl rfl rfl ?_ |refine R.fp rfl rfl ?_ |(refine R.yG rfl rfl ?_ ?_<;>intro hb<;>subst hb) )));refine R.Qe ?_;refine aS ?_;(repeat first |refine sN rfl ?_ |((first|refine sA rfl ?_ ?_|refine s4 rfl ‹_› rfl ?_ ?_);first|exact tI|omega|simp only[oZ] at *;omega) |refine s2 rfl λ_ b=>?_ |refine s3 rfl ?_ ?_<;>rintro rfl |refine aU rfl ?_ |refine Aa ?_);refine aB ?_;refine Aj.dr 3 ?_;refine aL (α:={s:Nat×Iy // s.1<=a.nx.length/\s.2.map (·.2)=a.nx.take s.1}) [2,3,13,14] [] rfl rfl (λs=>[(15,eI .i64 s.1.1)]) (λs=>[(0,.cells 29 3 [[.d (iD 0),.d (.l []),.d (.l [])]]),(1,.cells 4 1 (a.ac.map AS)),(2,.cells 62 1 (AA s.1.2)),(3,.cells 29 3 [[.d (iD a.al),.arr 2 1 0 s.1.2.length,.arr 1 1 0 a.ac.length]]),(4,.sld 3 (sI s.1.2))]) 5 (λs=>a.nx.length - s.1.1) (⟨⟨0,[]⟩,by simp⟩) c rfl (by ((repeat' first|exact tI|rfl|refine And.intro ?_ ?_)<;>(simp[cX,zC,c,cN,BN,Ae,eC]<;>rfl))) ?_;rintro⟨⟨k,l⟩,hk,f⟩;(try dsimp only[cA,cB]);have hk:k<=a.nx.length:=hk;have f:l.map (·.2)=a.nx.take k:=f
 have e:l.length=k:=by have:=congrArg List.length f;simp at this;omega
 (repeat first |refine sN rfl ?_ |((first|refine sA rfl ?_ ?_|refine s4 rfl ‹_› rfl ?_ ?_);first|exact tI|omega|simp only[oZ] at *;omega) |refine s2 rfl λ_ b=>?_ |refine s3 rfl ?_ ?_<;>rintro rfl |refine aU rfl ?_ |refine Aa ?_)
 ((refine aC rfl ?_ ?_<;>rintro⟨⟩);all_goals try(exfalso;first|omega|simp only[oZ] at *;omega))
 ·have p:k < a.nx.length:=by first|omega|simp only[oZ] at *;omega
  obtain⟨r,n⟩:=get_some (l:=a.nx) (k:=k) p;have x:=get_map (g:=EL) n;have o:=ha.row r (co n);have t:=Y0 (TB:=TB) r (by omega);refine aK ?_;refine aS (aB ?_);(repeat first |refine sN rfl ?_ |((first|refine sA rfl ?_ ?_|refine s4 rfl ‹_› rfl ?_ ?_);first|exact tI|omega|simp only[oZ] at *;omega) |refine s2 rfl λ_ b=>?_ |refine s3 rfl ?_ ?_<;>rintro rfl |refine aU rfl ?_ |refine Aa ?_);refine rG (JU [(1,13),(3,1008),(4,1008),(5,1),(7,1)]) (by kernel_rfl) ?_;(repeat first |refine sN rfl ?_ |((first|refine sX rfl ?_ ?_|refine s4 rfl ‹_› rfl ?_ ?_);first|exact tI|omega|simp only[oZ] at *;omega) |refine s2 rfl λ_ b=>?_ |refine s3 rfl ?_ ?_<;>rintro rfl |refine aU rfl ?_ |refine Aa ?_);(refine Ag rfl ?_;refine C3 ?_ rfl ⟨rfl,rfl⟩;refine Ai [] rfl rfl (t) ⟨rfl,by decide,by decide⟩ rfl (by simp[cX,zC,c,cN]) ?_;rintro w h j ⟨rfl,rfl,rfl⟩ _;refine⟨E9 3 rfl rfl,?_⟩);(repeat first |refine sN rfl ?_ |((first|refine sX rfl ?_ ?_|refine s4 rfl ‹_› rfl ?_ ?_);first|exact tI|omega|simp only[oZ] at *;omega) |refine s2 rfl λ_ b=>?_ |refine s3 rfl ?_ ?_<;>rintro rfl |refine aU rfl ?_ |refine Aa ?_);(refine Ag rfl ?_;refine C3 ?_ rfl ⟨rfl,rfl⟩;refine Bf rfl rfl rfl rfl (by simp [eC,E.Be,C.Be]) (by rfl) (by rfl) (by rfl) (by rfl) ?_;refine⟨E9 3 rfl rfl,?_⟩);(repeat first |refine sN rfl ?_ |((first|refine sX rfl ?_ ?_|refine s4 rfl ‹_› rfl ?_ ?_);first|exact tI|omega|simp only[oZ] at *;omega) |refine s2 rfl λ_ b=>?_ |refine s3 rfl ?_ ?_<;>rintro rfl |refine aU rfl ?_ |refine Aa ?_);(refine pW rfl ?_ rfl (by rfl);refine Al rfl rfl rfl (CI _) rfl (by intro r o;simp at o;subst o;rfl) (by rfl) (am rfl) (by simp;omega) ?_);(repeat first |refine sN rfl ?_ |((first|refine sA rfl ?_ ?_|refine s4 rfl ‹_› rfl ?_ ?_);first|exact tI|omega|simp only[oZ] at *;omega) |refine s2 rfl λ_ b=>?_ |refine s3 rfl ?_ ?_<;>rintro rfl);refine Aa ?_;refine Aj.Ay [2,3,13,14,15] [] rfl rfl [] [(0,.cells 29 3 [[.d (iD 0),.d (.l []),.d (.l [])]]),(1,.cells 4 1 (a.ac.map AS)),(2,.cells 62 1 (AA l++[[.arr 5 1 0 r.length]])),(3,.cells 29 3 [[.d (iD a.al),.arr 2 1 0 (l.length+1),.arr 1 1 0 a.ac.length]]),(4,.sld 3 (sI l)),(5,.cells 3 1 (r.map AD))] [0,1,7,3,4,5] (rl c rfl) (by ((repeat' first|exact tI|rfl|refine And.intro ?_ ?_)<;>(simp[cX,zC,c,cN,BN,Ae,eC]<;>rfl))) ?_;(try dsimp only[cA,cB]);refine Aj.Sx 2 5 4 l r rfl rfl rfl λv=>?_;(repeat first |refine sN rfl ?_ |((first|refine sA rfl ?_ ?_|refine s4 rfl ‹_› rfl ?_ ?_);first|exact tI|omega|simp only[oZ] at *;omega) |refine s2 rfl λ_ b=>?_ |refine s3 rfl ?_ ?_<;>rintro rfl |refine aU rfl ?_ |refine Aa ?_);refine⟨⟨⟨k+1,l++[(v,r)]⟩,by dsimp only;omega,by dsimp only;rw [nY,f,d8,n];rfl⟩,by dsimp only;(first|omega|simp only[oZ] at *;omega),[0,1,2,3,4],?_⟩;(simp[cX,zC,c,cN]<;>rfl)
 have q:k=a.nx.length:=by first|omega|simp only[oZ] at *;omega
 refine aE ?_;(repeat first |refine sN rfl ?_ |((first|refine sA rfl ?_ ?_|refine s4 rfl ‹_› rfl ?_ ?_);first|exact tI|omega|simp only[oZ] at *;omega) |refine s2 rfl λ_ b=>?_ |refine s3 rfl ?_ ?_<;>rintro rfl |refine aU rfl ?_ |refine Aa ?_)
 have e:l.map (·.2)=a.nx:=by rw [f,q,io]
 refine aR ⟨_,rfl,[2,1,4],VH a.al 0 1 l.length a.ac.length,[(0,.cells 62 1 (AA l)),(1,.cells 4 1 (a.ac.map AS)),(2,.sld 3 (sI l))],⟨by intro i hi;omega,by decide⟩,rfl,by ((repeat' first|exact tI|rfl|refine And.intro ?_ ?_)<;>(simp[cX,zC,c,cN]<;>rfl)),l,e,rfl,rfl,rfl⟩
theorem Ot{a:AZ}(ha:AP a=true):LY 1000000 a:=by
 have f:=AH ha;refine⟨by omega,by omega,λr c=>?_⟩;obtain⟨i,hi,e⟩:=nB c;obtain⟨row,b,h,g⟩:=Hv ha hi;rw [d6 hi,e] at b
 injection b with b
 subst b;have d:(Ac a.al).length<=6:=AK a.al 6;omega
theorem TL{n k:Nat}(h:k < n):(2 ^ n - 1).testBit k=true:=by rw [Nat.testBit_two_pow_sub_one,decide_eq_true h]
theorem Kv{n:Nat}:∀ {k:Nat},k<=n->J0 (2 ^ n - 1) k=k
 | 0,_=>rfl
 | k+1,h=>by rw [Pd,TL (by omega),if_pos rfl,Kv (by omega)]
theorem VT{y:Sys}(U:AU y=true)(Y:y.es.length<=1048576):Pure Tryz.prog TB 116 [Bv y,eI .i64 ((2 ^ y.st.toNat - 1:Nat):Int)] (Bv y):=by
 have hh:=AN U
 obtain⟨a,J,I⟩:∃a:Nat,y.st=a/\a<=16:=⟨y.st.toNat,by omega,by omega⟩
 have X:2 ^ a<=2 ^ 16:=nU (by omega) I
 have B:2 ^ a - 1 < 2 ^ 62:=by omega
 rw [show y.st.toNat=a by omega];have j:=My (TB:=TB) (2 ^ a - 1) B a (by omega);rw [Kv (jp _)] at j
 obtain⟨m,q⟩:∃m,m=2 ^ a - 1:=⟨_,rfl⟩
 have A:∀k,k < a->AV (m:Nat) k=true:=λk hk=>by rw [De (by omega) (by omega),q];exact TL hk
 have b:∀k,k<=a->J0 m k=k:=λk hk=>by rw [q];exact Kv hk
 rw [<-q] at j B |-;rw [<-J] at j;refine eG Tryz.func116 rfl (by kernel_rfl) rfl ?_;intro Z i;(repeat first|refine tA rfl ?_ |refine aU rfl ?_ |refine Aa ?_);refine rG (JU [(7,1),(8,1)]) (by kernel_rfl) ?_;(repeat first|refine tX rfl ?_ |refine sP rfl (j) rfl ?_|(refine Ag rfl ?_;refine gA rfl ?_;first| refine gS (λ_ _=>Pa rfl rfl (by rfl) (by rfl)) ?_) |refine aU rfl ?_ |refine Aa ?_);refine aB ?_;refine aL (α:={z:Nat×List DW // z.1<=y.es.length/\z.2=y.es.take z.1}) [1,2] [] rfl rfl (λs=>[(4,.o (.ptr 0 3 0 0)),(5,.o (.ptr 1 3 0 0)),(6,eI .i64 s.1.1)]) (λs=>eM y.al y.st s.1.2) 3 (λs=>y.es.length - s.1.1) (⟨⟨0,[]⟩,by simp⟩) i rfl (by (simp[cX,zC,i,eM,Nc,cN])) ?_;rintro⟨⟨k,l⟩,hk,c⟩;(try dsimp only[cA,cB]);have hk:k<=y.es.length:=hk;have c:l=y.es.take k:=c
 have M:l.length=k:=by rw [c,oO];omega
 by_cases L:k < y.es.length
 ·obtain⟨e,R⟩:=get_some L
  have v:y.es.take (k+1)=l++[e]:=by rw [d8,R,c];rfl
  have Q:=get_map (g:=Df) R
  have hee:(y.es.map Df)[((k:Nat):Int).toNat]? = some (Df e):=by rw [i7];exact Q
  have hb:=Dc U (co R);unfold Dy at hb;simp only [d4,decide_eq_true_eq] at hb
  obtain⟨S,P⟩:∃S:Nat,e.f=S:=⟨e.f.toNat,by omega⟩
  obtain⟨F,H⟩:∃F:Nat,e.t=F:=⟨e.t.toNat,by omega⟩
  have x:=C0 (TB:=TB) (m:Nat) e.f (by omega) (by omega);have w:=C0 (TB:=TB) (m:Nat) e.t (by omega) (by omega);rw [A _ (by omega)] at x w;have p:=My (TB:=TB) m B S (by omega);have n:=My (TB:=TB) m B F (by omega);rw [b _ (by omega),<-P] at p;rw [b _ (by omega),<-H] at n;(repeat first|refine sN rfl ?_ |refine tA rfl ?_ |refine s2 rfl λ_ T=>?_ |refine aU rfl ?_ |refine Aa ?_)
  ((refine aC rfl ?_ ?_<;>rintro⟨⟩);all_goals try(exfalso;(simp only[oZ] at *;omega)))
  refine aK ?_;refine aS (aB ?_)
  (repeat' first|refine tA rfl ?_ |(refine s4 rfl ‹_› rfl ?_ ?_;omega) |refine sP rfl (x) rfl ?_|refine sP rfl (w) rfl ?_ |refine aU rfl ?_ |refine Aa ?_|(refine aC rfl ?_ ?_<;>rintro⟨⟩));all_goals try contradiction
  cases l with
  | nil=>
   refine rG (JU [(1,11),(4,13),(7,13),(10,13),(14,1),(16,1)]) (by kernel_rfl) ?_;(repeat first|refine tA rfl ?_ |refine sP rfl (p) rfl ?_|refine sP rfl (n) rfl ?_|(refine Ag rfl ?_;refine gA rfl ?_;first| refine gS (λ_ _=>AF rfl rfl (by rfl) (by rfl)) ?_));(refine pW rfl ?_ rfl (by rfl);refine XQ 38 rfl ?_;refine EA rfl rfl rfl (by intro r u;simp at u;subst u;rfl) (by rfl) (am rfl) (by simp) (λh=>?_) (λ_=>?_))
   ·exact absurd h (by simp)
   (repeat first|(refine sX rfl ?_ ?_;first|exact tI|omega) |refine aU rfl ?_ |refine Aa ?_);refine⟨⟨⟨k+1,[e]⟩,by dsimp only;omega,by dsimp only;rw [v];rfl⟩,by dsimp only;(omega),[0,1,4],?_⟩;(simp[cX,zC,i,cN,eM,Nc,Ae,eC]<;>rfl)
  | cons G l=>
   refine rG (JU [(1,11),(4,13),(7,13),(10,13),(14,1),(16,1)]) (by kernel_rfl) ?_;(repeat first|refine tA rfl ?_ |refine sP rfl (p) rfl ?_|refine sP rfl (n) rfl ?_|(refine Ag rfl ?_;refine gA rfl ?_;first| refine gS (λ_ _=>AF rfl rfl (by rfl) (by rfl)) ?_));(refine pW rfl ?_ rfl (by rfl);refine Al rfl rfl rfl (by first| (simp;done)|(simp;(omega))) rfl (by intro r u;simp at u;subst u;rfl) (by rfl) (am rfl) (by simp at M |-;omega) ?_);(repeat first|(refine sX rfl ?_ ?_;first|exact tI|omega) |refine aU rfl ?_ |refine Aa ?_);refine⟨⟨⟨k+1,G::(l++[e])⟩,by dsimp only;omega,by dsimp only;rw [v];rfl⟩,by dsimp only;(omega),[0,1,4],?_⟩;(simp[cX,zC,i,cN,eM,Nc,Ae,eC]<;>rfl)
 ·have N:k=y.es.length:=by omega
  have K:l=y.es:=by rw [c,N,io]
  have V:y=⟨y.al,y.st,l⟩:=by rw [K]
  (repeat first|refine sN rfl ?_ |refine tA rfl ?_ |refine s2 rfl λ_ T=>?_ |refine aU rfl ?_ |refine Aa ?_)
  ((refine aC rfl ?_ ?_<;>rintro⟨⟩);all_goals try(exfalso;(simp only[oZ] at *;omega)))
  refine aE ?_;rw [V]
  cases l with
  | nil=>
   refine Aj.AE [1] [(4,.o (.ptr 0 3 0 0)),(5,.o (.ip (AI ⟨y.al,y.st,[]⟩)))] ⟨⟨_,rfl,.inl rfl⟩,⟨_,rfl,.inr (.o (.box rfl (.cons .d (.cons .d (.cons .nl .nil)))))⟩,trivial⟩ ?_;(repeat first|refine tA rfl ?_ |refine aU rfl ?_ |refine Aa ?_);(subst_vars;exact aR ⟨_,rfl,rfl⟩)
  | cons G l=>
   refine Aj.AE [1,2] [(4,.o (.ptr 0 3 0 0)),(5,.o (.ip (AI ⟨y.al,y.st,G::l⟩)))] ⟨⟨_,rfl,.inl rfl⟩,⟨_,rfl,.inr (.o (.box rfl (.cons .d (.cons .d (.cons (.full rfl (by simp [d5]) (by simp)) .nil)))))⟩,trivial⟩ ?_;(repeat first|refine tA rfl ?_ |refine aU rfl ?_ |refine Aa ?_);(subst_vars;exact aR ⟨_,rfl,rfl⟩)
abbrev UZ(s:Sys)(p:AZ)(t:Sys):CK×Bool:=if Br s p t < 0 then (⟨⟨0,0,[]⟩,⟨0,[],[]⟩,0⟩,false) else (⟨s,p,Br s p t⟩,true)
theorem Jh(s:Sys)(p:AZ)(t:Sys)(f:s.es.length<=1048576):Pure Tryz.prog TB 67 [Bv s,Bi p,Bv t] (mh (UZ s p t)):=by
 have c:=KA (TB:=TB) s p t;unfold UZ;by_cases h:Br s p t < 0
 ·rw [if_pos h]
  refine eG Tryz.func67 rfl (by kernel_rfl) rfl ?_;intro Z a;(repeat first|refine tA rfl ?_ |refine s2 rfl λ_ i=>?_ |refine sP rfl (c) rfl ?_ |refine aU rfl ?_ |refine Aa ?_)
  ((refine aC rfl ?_ ?_<;>rintro⟨⟩);all_goals try(exfalso;(simp only[oZ] at *;omega)))
  (repeat first|refine tA rfl ?_|(refine Ag rfl ?_;refine gA rfl ?_;first| refine gS (λ_ _=>AF rfl rfl (by rfl) (by rfl)) ?_) |refine aU rfl ?_ |refine Aa ?_);(subst_vars;exact aR ⟨_,rfl,rfl⟩)
 ·rw [if_neg h]
  have hI:=HC h;have u:=AN hI.hs;have g:=VR (TB:=TB) s.st (by omega) (by omega);have b:=VT (TB:=TB) hI.hs f;have m:2 ^ s.st.toNat<=2 ^ 16:=nU (by omega) (by omega);have n:0 < 2 ^ s.st.toNat:=p6 _
  have e:((2 ^ s.st.toNat:Nat):Int) - 1=((2 ^ s.st.toNat - 1:Nat):Int):=by omega
  rw [<-e] at b;generalize 2 ^ s.st.toNat=pw at *;generalize Br s p t=ai at *;refine eG Tryz.func67 rfl (by kernel_rfl) rfl ?_;intro Z a;(repeat first|refine tA rfl ?_ |refine s2 rfl λ_ i=>?_ |refine sP rfl (c) rfl ?_ |refine aU rfl ?_ |refine Aa ?_)
  ((refine aC rfl ?_ ?_<;>rintro⟨⟩);all_goals try(exfalso;(simp only[oZ] at *;omega)))
  refine aK ?_;(repeat first|refine aU rfl ?_);refine rG ⟨FV [(7,1),(10,1)],ak [0,1,2,3,4,6,8,5,7,9,10,11]⟩ (by kernel_rfl) ?_;(repeat first|(refine sX rfl ?_ ?_;first|exact tI|omega) |refine sP rfl (g) rfl ?_|refine sP rfl (b) rfl ?_);(refine pW rfl ?_ rfl (by rfl);refine Ci [] rfl rfl 0 (Js p (Ot hI.hp)) (by decide) ⟨rfl,by decide,by decide⟩ rfl (by simp[cX,zC,a,cN]) ?_;rintro r j k ⟨l,q,rfl,rfl,rfl⟩ _);(repeat first|refine tX rfl ?_|(refine Ag rfl ?_;refine gA rfl ?_;first| refine gS (λ_ _=>AF rfl rfl (by rfl) (by rfl)) ?_) |refine Aa ?_);refine Aj.Ay [] [] rfl rfl [(6,.o (.ptr 0 7 0 0)),(7,eB true)] [(0,.cells 87 7 [[.d (iD s.al),.d (iD s.st),.d (Eo s.es),.d (iD p.al),.arr 1 1 0 l.length,.arr 2 1 0 p.ac.length,.d (iD ai)]]),(1,.cells 62 1 (AA l)),(2,.cells 4 1 (p.ac.map AS)),(3,.sld 3 (sI l))] [0,1,2,3] (rl a rfl) (by (simp[cX,zC,a,cN,BN,Ae,eC])) ?_;(try dsimp only[cA,cB]);refine Aj.AE [0,1,2,3] [(6,.o (.ip (LK ⟨s,⟨p.al,l.map (·.2),p.ac⟩,ai⟩))),(7,eB true)] ⟨⟨_,rfl,.inr (.o (.box rfl (.cons .d (.cons .d (.cons .d (.cons .d (.cons (.MB (s:=3) rfl rfl) (.cons (.full rfl (by simp [d5]) (by simp)) (.cons .d .nil)))))))))⟩,⟨_,rfl,.inl rfl⟩,trivial⟩ ?_;rw [q];(subst_vars;exact aR ⟨_,rfl,rfl⟩)
theorem YZ(l:List DW)(h:l.length<=1048576):Spec Tryz.prog TB 100 [] 0 [.o (.d (Eo l))] (λx σ nx=>x=.o (.arr 0 3 0 l.length)/\nx=1/\σ=[(0,.cells 126 3 (l.map A9))]):=by
 refine eN Tryz.func100 rfl (by kernel_rfl) rfl ?_;intro Z a;(repeat first|refine aU rfl ?_);(refine Ag rfl ?_;refine CB (λ_ _=>CG rfl) rfl ?_);(repeat first|refine tM rfl ?_ |refine aU rfl ?_ |refine Aa ?_);(refine pW rfl ?_ rfl (by rfl);refine Lh rfl ?_;intro e b);(repeat first|refine Aa ?_);(refine aC rfl ?_ ?_<;>rintro⟨⟩)
 ·obtain rfl:l=[]:=by simpa using b rfl
  (repeat first|refine aU rfl ?_);(refine pW rfl ?_ rfl (by rfl);refine Hc 3 126 ?_);(repeat first|refine Aa ?_);refine aR ⟨_,rfl,rfl,rfl,rfl⟩
 ·refine aK ?_
  (repeat first|refine aU rfl ?_);(refine pW rfl ?_ rfl (by rfl);refine Bf rfl rfl rfl rfl (by simp) (by rfl) (by rfl) (by rfl) (by rfl) ?_);(repeat first|refine tM rfl ?_);(refine pW rfl ?_ rfl (by rfl);refine Al rfl rfl rfl (by first| (simp;done)|(simp;(omega))) rfl (by intro r c;simp only [n7,d9] at c;obtain⟨_,_,rfl⟩:=c;rfl) (by rfl) (am rfl) (by simp;omega) ?_);(repeat first|refine tM rfl ?_ |refine Aa ?_);refine Aj.names [1] [(2,.o (.arr 0 3 0 l.length))] [(0,.cells 126 3 (l.map A9))] (by intro i hi;rw [a] at hi;omega) (by simp) (by simp[cX,zC,a]) (by simp[cX,zC,a]) ?_;refine aR ⟨_,rfl,rfl,rfl,rfl⟩
theorem JW(s:Sys)(p:AZ)(t:Sys)(f:s.es.length<=1048576):Pure Tryz.prog TB 58 [Bv s,Bi p,Bv t] (mh (UZ s p t)):=by
 have b:=Ki (TB:=TB) s p t;unfold UZ;by_cases i:Br s p t < 0
 ·rw [if_pos i]
  refine eG Tryz.func58 rfl (by kernel_rfl) rfl ?_;intro Z a;(repeat first|refine tA rfl ?_ |refine s2 rfl λ_ j=>?_ |refine sP rfl (b) rfl ?_ |refine aU rfl ?_ |refine Aa ?_)
  ((refine aC rfl ?_ ?_<;>rintro⟨⟩);all_goals try(exfalso;(simp only[oZ] at *;omega)))
  (repeat first|refine tA rfl ?_|(refine Ag rfl ?_;refine gA rfl ?_;first| refine gS (λ_ _=>AF rfl rfl (by rfl) (by rfl)) ?_) |refine aU rfl ?_ |refine Aa ?_);(subst_vars;exact aR ⟨_,rfl,rfl⟩)
 ·rw [if_neg i]
  have hI:=HC i;have h:=YZ (TB:=TB) s.es f;have g:=Mj (TB:=TB) p ((Ot hI.hp).upto (by omega));generalize Br s p t=ai at *;refine eG Tryz.func58 rfl (by kernel_rfl) rfl ?_;intro Z a;(repeat first|refine aU rfl ?_);(refine pW rfl ?_ rfl (by rfl);refine C5 rfl rfl ?_);(repeat first|refine tA rfl ?_ |refine s2 rfl λ_ j=>?_ |refine sP rfl (b) rfl ?_ |refine aU rfl ?_ |refine Aa ?_)
  ((refine aC rfl ?_ ?_<;>rintro⟨⟩);all_goals try(exfalso;(simp only[oZ] at *;omega)))
  refine aK ?_;(repeat first|refine tA rfl ?_ |refine aU rfl ?_);(refine pW rfl ?_ rfl (by rfl);refine Ai [] rfl rfl (h) ⟨rfl,by decide,by decide⟩ rfl (by simp[cX,zC,a,cN]) ?_;rintro k c e ⟨rfl,rfl,rfl⟩ _);(repeat first|refine tA rfl ?_ |refine aU rfl ?_ |refine Aa ?_);refine rG ⟨FV [(0,10),(2,1001),(5,1)],ak [0,1,3,2,4,5,6]⟩ (by kernel_rfl) ?_;(repeat first|refine tA rfl ?_);(refine Ag rfl ?_;refine C3 ?_ rfl ⟨rfl,rfl⟩;refine Ci [] rfl rfl 0 g (by decide) ⟨rfl,by decide,by decide⟩ rfl (by simp[cX,zC,a,cN]) ?_;rintro k c e ⟨l,m,rfl,rfl,rfl⟩ _;refine⟨E9 0 rfl rfl,?_⟩);(repeat first|refine tA rfl ?_|(refine Ag rfl ?_;refine gA rfl ?_;first| refine gS (λ_ _=>AF rfl rfl (by rfl) (by rfl)) ?_) |refine Aa ?_);refine Aj.Ay [] [] rfl rfl [(6,.o (.ptr 0 7 0 0)),(7,eB true)] [(0,.cells 87 7 [[.d (iD s.al),.d (iD s.st),.arr 1 3 0 s.es.length,.d (iD p.al),.arr 2 1 0 l.length,.arr 3 1 0 p.ac.length,.d (iD ai)]]),(1,.cells 126 3 (s.es.map A9)),(2,.cells 62 1 (AA l)),(3,.cells 4 1 (p.ac.map AS)),(4,.sld 3 (sI l))] [1,2,3,4,5] (rl a rfl) (by (simp[cX,zC,a,cN,BN,Ae,eC])) ?_;(try dsimp only[cA,cB]);refine Aj.AE [0,1,2,3,4] [(6,.o (.ip (LK ⟨s,⟨p.al,l.map (·.2),p.ac⟩,ai⟩))),(7,eB true)] ⟨⟨_,rfl,.inr (.o (.box rfl (.cons .d (.cons .d (.cons (.full rfl (by simp [d5]) (by simp)) (.cons .d (.cons (.MB (s:=4) rfl rfl) (.cons (.full rfl (by simp [d5]) (by simp)) (.cons .d .nil)))))))))⟩,⟨_,rfl,.inl rfl⟩,trivial⟩ ?_;rw [m];(subst_vars;exact aR ⟨_,rfl,rfl⟩)
structure ma (te:EF):Prop where
 pn:te.p.nx.length<=1048576
 pa:te.p.ac.length<=1048576
 pr:∀r∈te.p.nx,r.length<=1048576
 es:te.s.es.length<=1048576
 qn:te.q.nx.length<=1048576
 qa:te.q.ac.length<=1048576
 qr:∀r∈te.q.nx,r.length<=1048576
end Go.Am
namespace Go.Am
open Go
set_option linter.unusedVariables false
section
variable {α:Type}{f:Nat->α}{l:List α}{i:Nat}
end
end Go.Am
namespace Go.Am
open Go Go.Proofs
set_option maxHeartbeats 1000000
attribute [local irreducible] AX Cb Lex Bh Aj Spec
end Go.Am
namespace Go.Am
open Go Go.Proofs
set_option maxHeartbeats 1000000
attribute [local irreducible] AX Cb Lex Bh Aj Spec
variable {TB:Bz}
end Go.Am
namespace Go.Am
open Go Go.Proofs
set_option linter.unusedVariables false
theorem JT{σ:Ab}{T U S:TypeId}{i j k n m:Nat}{al:Int}{l:Iy}{nx:List (List Int)}{ac:List Bool}(h:look σ i=some (.cells T 1 (AA l)))(g:look σ j=some (.cells U 1 (ac.map AS)))(f:look σ k=some (.sld S (sI l)))(e:l.map (·.2)=nx)(b:l.length=n)(c:ac.length=m):EZ σ (.a [.d (iD al),.arr i 1 0 n,.arr j 1 0 m]) (.a [.d (iD al),.d (CW nx),.d (E4 ac)]):=by
 subst b c e;exact .a (ds:=[iD al,CW (l.map (·.2)),E4 ac]) (.cons .d (.cons (.MB h f) (.cons (.full g (by simp [d5]) (gt _)) .nil)))
end Go.Am
namespace Go.Am
open Go Go.Proofs
set_option maxHeartbeats 1000000
attribute [local irreducible] AX Cb Lex Bh Aj Spec
variable {TB:Bz}
theorem Fu(r:Option (List Int)):E.NM (KX r):=by
 show ∀x∈[(false,[C.d (tD (NH r))]),(false,[C.d (bD r.isSome)])],∀c∈x.2,C.NM c=true
 simp [C.NM]
end Go.Am
