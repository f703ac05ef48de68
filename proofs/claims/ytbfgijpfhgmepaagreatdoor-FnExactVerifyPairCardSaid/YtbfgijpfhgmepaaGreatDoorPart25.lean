/-
  Verdicts of systems that are alike, plainly.
-/
import Derived.Test.YtbfgijpfhgmepaaGreatDoorPart24
import Derived.Test.YtbfgijpfhgmepaaGreatDoorPart5
import Derived.Test.YtbfgijpfhgmepaaGreatDoorPart23
import Derived.Test.YtbfgijpfhgmepaaGreatDoorPart16
import Derived.Test.YtbfgijpfhgmepaaGreatDoorPart18
import Derived.Test.YtbfgijpfhgmepaaGreatDoorPart14
import Derived.Test.YtbfgijpfhgmepaaGreatDoorPart17
import Derived.Test.YtbfgijpfhgmepaaGreatDoorPart22
import Derived.Test.YtbfgijpfhgmepaaGreatDoorPart21
import Derived.Test.YtbfgijpfhgmepaaGreatDoorPart12
set_option linter.constructorNameAsVariable false
set_option linter.unusedSectionVars false
set_option linter.unusedSimpArgs false
set_option linter.unusedVariables false
namespace Go.Am
open Go Go.Proofs
set_option maxHeartbeats 1000000
attribute [local irreducible] AQ BS Lex Bc Av Spec
theorem HD{s t:Sys}{p:AZ}(h:¬Bz s p t < 0):Fp s p t (Bz s p t):=by
 have hv:(AP s && AL p && AP t)=true:=by
  unfold Bz at h
  split at h
  ·assumption
  ·omega
 simp only [Bool.and_eq_true] at hv
 exact⟨hv.1.1,hv.1.2,hv.2,rfl⟩
theorem Tj{s t:Sys}{p:AZ}(h:Bz s p t < 0):C8 s t p=⟨3,Hl,[],0⟩:=by unfold C8;rw [if_pos h]
abbrev nc:Sys:=⟨0,1,[]⟩
section
variable {t:Sys}{p:AZ}{al:Int}(hI:Fp nc p t al)
include hI
end
end Go.Am
namespace Go.Am
open Go
set_option linter.unusedVariables false
variable {P:Program}{TB:Bs}{Γ:Ctx}{d:Option Tmp}{ty:TypeId}{pos:String}{af:Array Edge}{g:Option (Nat×Bool)}{f:Env}{σ:Ab}{nx:Nat}
variable {K:E→Ab→Nat→Prop}
end Go.Am
namespace Go.Am
open Go Go.Proofs
set_option maxHeartbeats 1000000
attribute [local irreducible] AQ BS Lex Bc Av Spec
variable {TB:Bs}
end Go.Am
namespace Go.Am
set_option linter.unusedVariables false
set_option linter.unusedSectionVars false
section
variable {α β:Type}[DecidableEq α][DecidableEq β]
end
def mg(a:AZ)(q r:Int):Prop:=∀w,AM (A0 a.al) w→VI a (E9 a q w)=VI a (E9 a r w)
structure nh (a:AZ) (ks:List (List Int)):Prop where
 len:ks.length=a.nx.length
 ac:∀q r:Nat,q < a.nx.length→r < a.nx.length→ks[q]? = ks[r]?→VI a q=VI a r
 go:∀q r:Nat,q < a.nx.length→r < a.nx.length→ks[q]? = ks[r]?→∀l∈Ac a.al,ks[(Cs a q l).toNat]? = ks[(Cs a r l).toNat]?
 res:∀q r:Nat,q < a.nx.length→r < a.nx.length→mg a q r→ks[q]? = ks[r]?
structure jB (a:AZ):Prop where
 b:gE a
 n1:1≤a.nx.length
 ac:a.ac.length=a.nx.length
section
variable {a:AZ}(h:jB a)
include h
end
structure mf (a m:AZ):Prop where
 al:m.al=a.al
 g:jB m
 n2:m.nx.length≤a.nx.length
 lang:∀w,AM (A0 a.al) w→LA m w=LA a w
 rc:∀i:Nat,i < m.nx.length→∃w,AM (A0 a.al) w∧E9 m 0 w=i
 ds:∀i j:Nat,i < m.nx.length→j < m.nx.length→mg m i j→i=j
end Go.Am
namespace Go.Am
open Go Go.Proofs
set_option maxHeartbeats 1000000
attribute [local irreducible] AQ BS Lex Bc Av Spec
variable {TB:Bs}
end Go.Am
namespace Go.Am
open Go Go.Proofs
set_option maxHeartbeats 1000000
attribute [local irreducible] AQ BS Lex Bc Av Spec
variable {tabs:List (Nat×Obj)}
end Go.Am
namespace Go.Am
open Go Go.Proofs
set_option maxHeartbeats 1000000
attribute [local irreducible] AQ BS Lex Bc Av Spec
set_option linter.unusedSectionVars false
section
variable {s t s' t':Sys}{p p':AZ}{al:Int}(hI:Fp s p t al)(hI':Fp s' p' t' al)(hL:Tp (LS ⟨s',p',al⟩) (LS ⟨s,p,al⟩) al)
include hI hI' hL
end
theorem SQ{s t:Sys}{p:AZ}{al:Int}(hI:Fp s p t al){x:AT}{r:Nat}(hx:Hi s p al x r){w:W}{b:Bool}(h:FY s t p al (BO s p al x)=some (w,b)):AM (A0 al) w:=by
 obtain⟨h1,h2,_⟩:=LP hI hx
 unfold FY at h
 split at h
 ·rename_i u hu
  injection h with h;injection h with h h5
  subst h
  exact dO (Xp hI h1 h2 hu).1
 ·split at h
  ·rename_i v hv
   injection h with h;injection h with h h5
   subst h
   have:=(VR hv).1
   rw [h2] at this
   exact dO this
  ·cases h
end Go.Am
namespace Go.Am
open Go Go.Proofs
set_option linter.unusedVariables false
theorem Vo{s t:Sys}{p:AZ}{al:Int}:∀(k:Nat) (x:AT),(Eu s t p al k x).length≤k+1
 | 0,x=>by simp [Eu]
 | k+1,x=>by
  simp only [Eu]
  cases HG s t p al x with
  | none=>simp
  | some y=>have:=Vo (s:=s) (t:=t) (p:=p) (al:=al) k y;simp only [List.length_cons];omega
def TF(s t:Sys)(p:AZ)(al:Int)(x:AT)(v:W):Prop:=MM (A0 al) x v∨∃w b,FY s t p al (BO s p al x)=some (w,b)∧(v=w∨XE (LS ⟨s,p,al⟩) (A0 al) x w v)
theorem YL{s t:Sys}{p:AZ}{al:Int}(h:A6 ⟨s,p,al⟩=true){x:AT}(hx:x∈BX s t p al):∃r,Hi s p al x r:=by
 obtain⟨i,hi⟩:=List.mem_iff_getElem?.1 hx
 exact⟨_,PC 11 (Tf h).2 i x hi⟩
theorem Tg{s:Sys}{p:AZ}{al:Int}{x:AT}{r:Nat}(hx:Hi s p al x r):GN al 20000 x:=by
 obtain⟨_,_,_,hsh,_⟩:=Dk hx.v
 have:=hsh.bd
 rwa [Ff] at this
section
variable {s t:Sys}{p:AZ}{al:Int}(hI:Fp s p t al)(h:A6 ⟨s,p,al⟩=true)
include hI h
theorem Y7{x:AT}(hx:x∈BX s t p al):Ev 288238 (TF s t p al x):=by
 obtain⟨r,hr⟩:=YL h hx
 have hb:=Tg hr
 refine((Ma hb).or (b:=286474) ?_).sub (b:=288238) (fun v hv=>hv) (by omega)
 cases hf:FY s t p al (BO s p al x) with
 | none=>exact .none fun v ⟨w,b,he,_⟩=>by cases he
 | some wb=>
  obtain⟨w,b⟩:=wb
  have hon:=SQ hI hr hf
  have hln:=N7 hf
  refine((Ev.map (n:=1) (p:=fun v=>v=w) (fun _:Unit=>w) [()] (by simp) fun v hv=>⟨(),by simp,hv⟩).or (Zq (L:=LS ⟨s,p,al⟩) hb hon (by omega))).sub (b:=286474) (fun v ⟨w',b',he,hv⟩=>?_) (by omega)
  injection he with he
  injection he with he _
  subst he
  exact hv
theorem eb{x:AT}(hx:x∈BX s t p al)(v:W)(hv:TF s t p al x v):okB al v:=by
 obtain⟨r,hr⟩:=YL h hx
 have hb:=Tg hr
 rcases hv with hv|⟨w,b,hf,hv⟩
 ·exact hb.on (I7 al) (by omega) v hv
 ·have hon:=SQ hI hr hf
  have hln:=N7 hf
  rcases hv with rfl|hv
  ·exact⟨hon,by omega⟩
  ·rcases hv with hv|hv|⟨z,hz,u,hu,y,hy,hv⟩
   ·exact hb.on (I7 al) (by omega) v hv
   ·exact(hb.mono (by omega)).m7 (I7 al) hon (by omega) v hv
   ·obtain⟨q,_,rfl⟩:=It hz
    exact(RQ hb (fun c hc=>hon c (by simp [hc])) (by simp at hln;omega) hu).mB (I7 al) (by omega) y hy v hv
theorem ea:∃ok:W→Prop,(∀w,ok w→jy al w)∧Th (En s p al) ok∧(∀y∈ED (LS ⟨s,p,al⟩) (A0 al) 13 Bj,II ok (A0 al) y)∧
 ∀x∈BX s t p al,II ok (A0 al) x∧∀w b,FY s t p al (BO s p al x)=some (w,b)→ok w∧∀v,XE (LS ⟨s,p,al⟩) (A0 al) x w v→ok v:=by
 have hf1:=QF (L:=LS ⟨s,p,al⟩) (JD al)
 have hf2:Ev (12*288238) (fun v=>∃x∈BX s t p al,TF s t p al x v):=Ev.ex (n:=12) (b:=288238) (q:=fun x v=>TF s t p al x v) (BX s t p al) (Vo 11 _) (fun x hx=>Y7 hI h hx) fun w hw=>hw
 have hf:=hf1.or hf2
 have hall:∀w,((∃y∈ED (LS ⟨s,p,al⟩) (A0 al) 13 Bj,MM (A0 al) y w)∨∃x∈BX s t p al,TF s t p al x w)→okB al w:=fun w hw=>by
  rcases hw with ⟨y,hy,hv⟩|⟨x,hx,hv⟩
  ·exact(JD al).mB (I7 al) (by omega) y hy w hv
  ·exact eb hI h hx w hv
 obtain⟨h1,h2⟩:=fZ (te:=En s p al) hf (by omega) (fun w hw=>by rw [Ff];exact hall w hw)
 rw [Ff] at h1
 exact⟨_,h1,h2,fun y hy v hv=>.inl ⟨y,hy,hv⟩,fun x hx=>⟨fun v hv=>.inr ⟨x,hx,.inl hv⟩,fun w b hr=>⟨.inr ⟨x,hx,.inr ⟨w,b,hr,.inl rfl⟩⟩,fun v hv=>.inr ⟨x,hx,.inr ⟨w,b,hr,.inr hv⟩⟩⟩⟩⟩
end
end Go.Am
namespace Go.Am
open Go Go.Proofs
set_option maxHeartbeats 1000000
attribute [local irreducible] AQ BS Lex Bc Av Spec
noncomputable def BH(s t:Sys)(p:AZ)(al:Int)(k:Nat):AT:=(BX s t p al).getD k ⟨[],[]⟩
abbrev Hg(v:Vd):List D:=[iD v.code,iD v.a.al,CD v.a.nx,Ez v.a.ac,tD v.tr,iD v.rd]
abbrev P6(v:Vd):E:=.a [.d (iD v.code),.d (iD v.a.al),.d (CD v.a.nx),.d (Ez v.a.ac),.d (tD v.tr),.d (iD v.rd)]
section
variable {s t:Sys}{p:AZ}{al:Int}(hI:Fp s p t al)
include hI
theorem YR{x:AT}{r:Nat}(hx:Hi s p al x r){w:W}(hw:AM (A0 al) w)(hl:w.length≤4000):Lq (En s p al) x w=GL (LS ⟨s,p,al⟩) (A0 al) x w:=by
 have hc:(CM (En s p al) && Bw (Cv (En s p al)) (A5 (En s p al)) x)=true:=by
  rw [QA hx.v,Nl,Ff,hx.o];rfl
 have hlw:FX (A5 (En s p al)) w=true:=by rw [Ff];exact XW (QL hI) hw hl
 unfold Lq
 rw [hc,hlw,Bool.and_self,if_pos rfl,Nl,Ff]
theorem cv{x:AT}{r:Nat}(hx:Hi s p al x r){w:W}{b:Bool}(h:FY s t p al (BO s p al x)=some (w,b))(hb:(b || LS ⟨s,p,al⟩ w)=true):HG s t p al x=GL (LS ⟨s,p,al⟩) (A0 al) x w:=by
 unfold HG
 rw [h]
 simp only [hb,if_true]
 exact YR hI hx (SQ hI hx h) (N7 h)
omit hI in
theorem Jl{k:Nat}(h:k < (BX s t p al).length):(BX s t p al)[k]? = some (BH s t p al k):=by
 unfold BH
 rw [List.getD_eq_getElem?_getD,List.getElem?_eq_getElem h];rfl
theorem PK{k:Nat}(h:k+1=(BX s t p al).length):C8 s t p=OQ s t p al (BH s t p al k) (k+1):=by
 unfold C8
 rw [if_neg (Ud hI),←hI.hal,←h]
 have e:(BX s t p al).getLastD Bj=BH s t p al k:=by
  rw [List.getLastD_eq_getLast?,List.getLast?_eq_getElem?,←h,Nat.add_sub_cancel,Jl (by omega)];rfl
 rw [e]
theorem UN{k:Nat}(h:k < (BX s t p al).length):Hi s p al (BH s t p al k) (k+1)∧
    ((FY s t p al (BO s p al (BH s t p al k))=none∧C8 s t p=⟨0,BO s p al (BH s t p al k),[],(k:Int)+1⟩∧k+1=(BX s t p al).length)∨
      ∃ w b,FY s t p al (BO s p al (BH s t p al k))=some (w,b)∧AM (A0 al) w∧w.length≤4000∧
        ((b = false∧LS ⟨s,p,al⟩ w=false∧C8 s t p=⟨1,Hl,PX (Cg [s,t] p),(k:Int)+1⟩∧k+1=(BX s t p al).length)∨
         ((b=true∨LS ⟨s,p,al⟩ w=true)∧((GL (LS ⟨s,p,al⟩) (A0 al) (BH s t p al k) w=some (BH s t p al (k+1))∧k+1 < (BX s t p al).length)∨
           (GL (LS ⟨s,p,al⟩) (A0 al) (BH s t p al k) w=none∧BH s t p al (k+1)=⟨[],[]⟩∧k+1=(BX s t p al).length∧C8 s t p=⟨2,Hl,[],(k:Int)+1⟩))))):=by
  obtain⟨hx,hn⟩:=run_get hI (Jl h)
  refine⟨hx,?_⟩
  have hc1:((k+1:Nat):Int)=(k:Int)+1:=by omega
  have hend:HG s t p al (BH s t p al k)=none→k+1=(BX s t p al).length:=fun e=>by
    rw [e] at hn
    have:=List.getElem?_eq_none_iff.1 hn
    omega
  cases hr:FY s t p al (BO s p al (BH s t p al k)) with
  | none=>
    have e:HG s t p al (BH s t p al k)=none:=by unfold HG;rw [hr]
    have e2:=PK hI (hend e)
    unfold OQ at e2
    rw [hr,hc1] at e2
    exact .inl ⟨rfl,e2,hend e⟩
  | some wb=>
    obtain⟨w,b⟩:=wb
    refine .inr ⟨w,b,rfl,SQ hI hx hr,N7 hr,?_⟩
    by_cases hb:(b || LS ⟨s,p,al⟩ w)=true
    · refine .inr ⟨by simpa using hb,?_⟩
      have e:=cv hI hx hr hb
      cases hst:GL (LS ⟨s,p,al⟩) (A0 al) (BH s t p al k) w with
      | some y=>
        rw [hst] at e
        rw [e] at hn
        have hlt:=(List.getElem?_eq_some_iff.1 hn).1
        refine .inl ⟨?_,hlt⟩
        rw [Jl hlt] at hn
        exact hn.symm
      | none=>
        rw [hst] at e
        have hk:=hend e
        have e2:=PK hI hk
        unfold OQ at e2
        rw [hr] at e2
        simp only [hb,if_true,hc1] at e2
        refine .inr ⟨rfl,?_,hk,e2⟩
        unfold BH
        rw [List.getD_eq_getElem?_getD,List.getElem?_eq_none (by omega)];rfl
    · have e:HG s t p al (BH s t p al k)=none:=by unfold HG;rw [hr];simp only [hb];rfl
      have hk:=hend e
      have e2:=PK hI hk
      unfold OQ at e2
      rw [hr] at e2
      simp only [hb,hc1] at e2
      have hb:b=false∧LS ⟨s,p,al⟩ w=false:=by simpa using hb
      exact .inl ⟨hb.1,hb.2,e2,hk⟩
theorem UJ{a:AZ}{w:W}{b:Bool}(h:FY s t p al a=some (w,b)):(∃u,b=true∧DG s a p=some u∧IG al (Df u)=w∧IF u∧(Df u).length≤2304)∨(∃u,b=false∧DG s a p=none∧Cg [t] a=some u∧IG al (Df u)=w∧IF u∧(Df u).length≤192):=by
 unfold FY at h
 split at h
 ·rename_i u hu
  injection h with h;injection h with h h5
  obtain⟨g1,g2⟩:=ay hu
  exact .inl ⟨u,h5.symm,hu,(Pj g1).trans h,g1,g2⟩
 ·rename_i hu
  split at h
  ·rename_i v hv
   injection h with h;injection h with h h5
   obtain⟨g1,g2⟩:=ax hv
   exact .inr ⟨v,h5.symm,hu,hv,(Pj g1).trans h,g1,g2⟩
  ·cases h
omit hI in
theorem UK{a:AZ}(h:FY s t p al a=none):DG s a p=none∧Cg [t] a=none:=by
 unfold FY at h
 split at h
 ·cases h
 ·rename_i hu
  split at h
  ·cases h
  ·rename_i hv
   exact⟨hu,hv⟩
theorem dG:SA (En s p al)=some (BH s t p al 0):=by
 obtain⟨h1,_⟩:=Tf (s:=s) (p:=p) (al:=al) (FW hI)
 have h2:=Jl (s:=s) (t:=t) (p:=p) (al:=al) (k:=0) (by have:=Li hI;omega)
 rw [h1]
 unfold BX at h2
 simp only [Eu] at h2
 simpa using h2
end
end Go.Am
namespace Go.Am
set_option linter.unusedVariables false
end Go.Am
namespace Go.Am
open Go Go.Proofs
set_option maxHeartbeats 1000000
attribute [local irreducible] AQ BS Lex Bc Av Spec
section
variable {s t:Sys}{p:AZ}{al:Int}(hI:Fp s p t al)
include hI
end
theorem bf{s t:Sys}{p:AZ}{al:Int}(hI:Fp s p t al){x:AT}{r:Nat}(hx:Hi s p al x r):Y8 (En s p al) x=some (BO s p al x):=by
 unfold Y8
 rw [QA hx.v,Nl,Ff,hx.o,if_pos (by rfl:(none:Option W).isNone=true)];rfl
end Go.Am
namespace Go.Am
open Go Go.Proofs
set_option maxHeartbeats 1000000
attribute [local irreducible] AQ BS Lex Bc Av Spec
variable {TB:Bs}
theorem Zf(l:List Int)(h:l.length≤1048576):Spec Tryz.prog TB 151 [] 0 [Ag l] (fun x σ nx=>x=.o (.arr 0 1 0 l.length)∧nx=1∧σ=[(0,.cells 3 1 (l.map Al))]):=by
 refine eN Tryz.func151 rfl (by kernel_rfl) rfl ?_;intro Γ hΓ
 (repeat first |refine sN rfl ?_ |((first|refine sM rfl ?_ ?_|refine s4 rfl ‹_› rfl ?_ ?_);first|exact tI|omega|simp only[oZ] at *;omega) |refine s2 rfl fun _ _hb=>?_ |refine s3 rfl ?_ ?_<;>rintro rfl |refine aU rfl ?_ |refine Aa ?_ |refine rE (by kernel_rfl) ?_)
 (refine Ai rfl ?_;refine Bx (fun _ _=>Bn rfl) rfl ?_)
 (repeat first |refine sN rfl ?_ |((first|refine sM rfl ?_ ?_|refine s4 rfl ‹_› rfl ?_ ?_);first|exact tI|omega|simp only[oZ] at *;omega) |refine s2 rfl fun _ _hb=>?_ |refine s3 rfl ?_ ?_<;>rintro rfl |refine aU rfl ?_ |refine Aa ?_ |refine rE (by kernel_rfl) ?_)
 (refine pW rfl ?_ rfl (by rfl);refine K6 rfl ?_;intro b0 hb0)
 (repeat first |refine sN rfl ?_ |((first|refine sM rfl ?_ ?_|refine s4 rfl ‹_› rfl ?_ ?_);first|exact tI|omega|simp only[oZ] at *;omega) |refine s2 rfl fun _ _hb=>?_ |refine s3 rfl ?_ ?_<;>rintro rfl |refine aU rfl ?_ |refine Aa ?_ |refine rE (by kernel_rfl) ?_)
 (refine aC rfl ?_ ?_<;>rintro⟨⟩)
 ·obtain rfl:l=[]:=by simpa using hb0 rfl
  (repeat first |refine sN rfl ?_ |((first|refine sM rfl ?_ ?_|refine s4 rfl ‹_› rfl ?_ ?_);first|exact tI|omega|simp only[oZ] at *;omega) |refine s2 rfl fun _ _hb=>?_ |refine s3 rfl ?_ ?_<;>rintro rfl |refine aU rfl ?_ |refine Aa ?_ |refine rE (by kernel_rfl) ?_)
  (refine pW rfl ?_ rfl (by rfl);refine Hb 1 3 ?_)
  (repeat first |refine sN rfl ?_ |((first|refine sM rfl ?_ ?_|refine s4 rfl ‹_› rfl ?_ ?_);first|exact tI|omega|simp only[oZ] at *;omega) |refine s2 rfl fun _ _hb=>?_ |refine s3 rfl ?_ ?_<;>rintro rfl |refine aU rfl ?_ |refine Aa ?_ |refine rE (by kernel_rfl) ?_)
  refine aR ⟨_,rfl,rfl,rfl,rfl⟩
 ·refine aK ?_
  (repeat first |refine sN rfl ?_ |((first|refine sM rfl ?_ ?_|refine s4 rfl ‹_› rfl ?_ ?_);first|exact tI|omega|simp only[oZ] at *;omega) |refine s2 rfl fun _ _hb=>?_ |refine s3 rfl ?_ ?_<;>rintro rfl |refine aU rfl ?_ |refine Aa ?_ |refine rE (by kernel_rfl) ?_)
  (refine pW rfl ?_ rfl (by rfl);refine BL rfl rfl rfl rfl (by simp) (by rfl) (by rfl) (by rfl) (by rfl) ?_)
  (repeat first |refine sN rfl ?_ |((first|refine sM rfl ?_ ?_|refine s4 rfl ‹_› rfl ?_ ?_);first|exact tI|omega|simp only[oZ] at *;omega) |refine s2 rfl fun _ _hb=>?_ |refine s3 rfl ?_ ?_<;>rintro rfl |refine aU rfl ?_ |refine Aa ?_ |refine rE (by kernel_rfl) ?_)
  (refine pW rfl ?_ rfl (by rfl);refine AH rfl rfl rfl (by first|(simp;done)|(simp;(first|omega|simp only[oZ] at *;omega))) rfl (by intro r hr;simp only [List.map_map,List.mem_map] at hr;obtain⟨_,_,rfl⟩:=hr;rfl) (by rfl) (Nat.le_of_ble_eq_true rfl) (by simp;omega) ?_)
  (repeat first |refine sN rfl ?_ |((first|refine sM rfl ?_ ?_|refine s4 rfl ‹_› rfl ?_ ?_);first|exact tI|omega|simp only[oZ] at *;omega) |refine s2 rfl fun _ _hb=>?_ |refine s3 rfl ?_ ?_<;>rintro rfl |refine aU rfl ?_ |refine Aa ?_ |refine rE (by kernel_rfl) ?_)
  refine Av.names [1] [(2,.o (.arr 0 1 0 l.length))] [(0,.cells 3 1 (l.map Al))] (by intro i hi;rw [hΓ] at hi;omega) (by simp) (by simp[cX,zC,hΓ]) (by simp[cX,zC,hΓ]) ?_
  refine aR ⟨_,rfl,rfl,rfl,rfl⟩
theorem Zd(l:List Bool)(h:l.length≤1048576):Spec Tryz.prog TB 150 [] 0 [EC l] (fun x σ nx=>x=.o (.arr 0 1 0 l.length)∧nx=1∧σ=[(0,.cells 4 1 (l.map AB))]):=by
 refine eN Tryz.func150 rfl (by kernel_rfl) rfl ?_;intro Γ hΓ
 (repeat first |refine sN rfl ?_ |((first|refine sM rfl ?_ ?_|refine s4 rfl ‹_› rfl ?_ ?_);first|exact tI|omega|simp only[oZ] at *;omega) |refine s2 rfl fun _ _hb=>?_ |refine s3 rfl ?_ ?_<;>rintro rfl |refine aU rfl ?_ |refine Aa ?_ |refine rE (by kernel_rfl) ?_)
 (refine Ai rfl ?_;refine Bx (fun _ _=>Bn rfl) rfl ?_)
 (repeat first |refine sN rfl ?_ |((first|refine sM rfl ?_ ?_|refine s4 rfl ‹_› rfl ?_ ?_);first|exact tI|omega|simp only[oZ] at *;omega) |refine s2 rfl fun _ _hb=>?_ |refine s3 rfl ?_ ?_<;>rintro rfl |refine aU rfl ?_ |refine Aa ?_ |refine rE (by kernel_rfl) ?_)
 (refine pW rfl ?_ rfl (by rfl);refine K6 rfl ?_;intro b0 hb0)
 (repeat first |refine sN rfl ?_ |((first|refine sM rfl ?_ ?_|refine s4 rfl ‹_› rfl ?_ ?_);first|exact tI|omega|simp only[oZ] at *;omega) |refine s2 rfl fun _ _hb=>?_ |refine s3 rfl ?_ ?_<;>rintro rfl |refine aU rfl ?_ |refine Aa ?_ |refine rE (by kernel_rfl) ?_)
 (refine aC rfl ?_ ?_<;>rintro⟨⟩)
 ·obtain rfl:l=[]:=by simpa using hb0 rfl
  (repeat first |refine sN rfl ?_ |((first|refine sM rfl ?_ ?_|refine s4 rfl ‹_› rfl ?_ ?_);first|exact tI|omega|simp only[oZ] at *;omega) |refine s2 rfl fun _ _hb=>?_ |refine s3 rfl ?_ ?_<;>rintro rfl |refine aU rfl ?_ |refine Aa ?_ |refine rE (by kernel_rfl) ?_)
  (refine pW rfl ?_ rfl (by rfl);refine Hb 1 4 ?_)
  (repeat first |refine sN rfl ?_ |((first|refine sM rfl ?_ ?_|refine s4 rfl ‹_› rfl ?_ ?_);first|exact tI|omega|simp only[oZ] at *;omega) |refine s2 rfl fun _ _hb=>?_ |refine s3 rfl ?_ ?_<;>rintro rfl |refine aU rfl ?_ |refine Aa ?_ |refine rE (by kernel_rfl) ?_)
  refine aR ⟨_,rfl,rfl,rfl,rfl⟩
 ·refine aK ?_
  (repeat first |refine sN rfl ?_ |((first|refine sM rfl ?_ ?_|refine s4 rfl ‹_› rfl ?_ ?_);first|exact tI|omega|simp only[oZ] at *;omega) |refine s2 rfl fun _ _hb=>?_ |refine s3 rfl ?_ ?_<;>rintro rfl |refine aU rfl ?_ |refine Aa ?_ |refine rE (by kernel_rfl) ?_)
  (refine pW rfl ?_ rfl (by rfl);refine BL rfl rfl rfl rfl (by simp) (by rfl) (by rfl) (by rfl) (by rfl) ?_)
  (repeat first |refine sN rfl ?_ |((first|refine sM rfl ?_ ?_|refine s4 rfl ‹_› rfl ?_ ?_);first|exact tI|omega|simp only[oZ] at *;omega) |refine s2 rfl fun _ _hb=>?_ |refine s3 rfl ?_ ?_<;>rintro rfl |refine aU rfl ?_ |refine Aa ?_ |refine rE (by kernel_rfl) ?_)
  (refine pW rfl ?_ rfl (by rfl);refine AH rfl rfl rfl (by first|(simp;done)|(simp;(first|omega|simp only[oZ] at *;omega))) rfl (by intro r hr;simp only [List.map_map,List.mem_map] at hr;obtain⟨_,_,rfl⟩:=hr;rfl) (by rfl) (Nat.le_of_ble_eq_true rfl) (by simp;omega) ?_)
  (repeat first |refine sN rfl ?_ |((first|refine sM rfl ?_ ?_|refine s4 rfl ‹_› rfl ?_ ?_);first|exact tI|omega|simp only[oZ] at *;omega) |refine s2 rfl fun _ _hb=>?_ |refine s3 rfl ?_ ?_<;>rintro rfl |refine aU rfl ?_ |refine Aa ?_ |refine rE (by kernel_rfl) ?_)
  refine Av.names [1] [(2,.o (.arr 0 1 0 l.length))] [(0,.cells 4 1 (l.map AB))] (by intro i hi;rw [hΓ] at hi;omega) (by simp) (by simp[cX,zC,hΓ]) (by simp[cX,zC,hΓ]) ?_
  refine aR ⟨_,rfl,rfl,rfl,rfl⟩
theorem LV(a:AZ)(ha:gk 1000000 a):AG Tryz.prog TB 101 0 [] 0 [Bo a] (IK a):=by
 have ha1:=ha.nx
 have ha2:=ha.ac
 have hcB:=Zd (TB:=TB) a.ac (by omega)
 refine AG.A1 (AG.Ql (m:=0) (Nat.le_of_ble_eq_true rfl) Tryz.func101 rfl (by kernel_rfl) (Nat.le_of_ble_eq_true rfl) ?_);intro Γ hΓ
 (repeat first |refine sN rfl ?_ |((first|refine sA rfl ?_ ?_|refine s4 rfl ‹_› rfl ?_ ?_);first|exact tI|omega|simp only[oZ] at *;omega) |refine s2 rfl fun _ _hb=>?_ |refine s3 rfl ?_ ?_<;>rintro rfl |refine aU rfl ?_ |refine Aa ?_)
 refine R.Pf [(6,3),(0,2),(1,2),(2,2),(3,2),(4,1),(5,1),(7,5)] mixed (by kernel_rfl) rfl (by kernel_rfl) ?_
 (repeat ((refine R.Ai rfl ?_;first |(refine R.yQ (md:=false) rfl rfl rfl ?_ ?_;first|exact tI|omega|simp only[oZ] at *;omega) |(refine R.yB rfl rfl rfl ?_;intro _ _hb) |refine R.yS rfl rfl rfl ?_ |refine R.yP rfl rfl rfl rfl ?_ |refine R.yA rfl rfl rfl rfl ?_ |refine R.yW rfl rfl rfl ?_ |refine R.fq rfl rfl ?_ |(refine R.yG rfl rfl ?_ ?_<;>intro hb<;>subst hb) )))
 (refine R.Ai rfl ?_;refine R.NC (fun _=>?_) rfl rfl;refine Bq [] rfl rfl hcB ⟨rfl,by simp,by simp⟩ rfl trivial ?_;rintro x0 σ1 nx1 ⟨rfl,rfl,rfl⟩ _)
 (repeat ((refine R.Ai rfl ?_;first |(refine R.yQ (md:=false) rfl rfl rfl ?_ ?_;first|exact tI|omega|simp only[oZ] at *;omega) |(refine R.yB rfl rfl rfl ?_;intro _ _hb) |refine R.yS rfl rfl rfl ?_ |refine R.yP rfl rfl rfl rfl ?_ |refine R.yA rfl rfl rfl rfl ?_ |refine R.yW rfl rfl rfl ?_ |refine R.fq rfl rfl ?_ |(refine R.yG rfl rfl ?_ ?_<;>intro hb<;>subst hb) )))
 (refine R.Ai rfl ?_;refine R.NC (fun _=>?_) rfl rfl;refine OZ 1 1 62 rfl rfl rfl (by rfl) (by rfl) ?_)
 (repeat ((refine R.Ai rfl ?_;first |(refine R.yQ (md:=false) rfl rfl rfl ?_ ?_;first|exact tI|omega|simp only[oZ] at *;omega) |(refine R.yB rfl rfl rfl ?_;intro _ _hb) |refine R.yS rfl rfl rfl ?_ |refine R.yP rfl rfl rfl rfl ?_ |refine R.yA rfl rfl rfl rfl ?_ |refine R.yW rfl rfl rfl ?_ |refine R.fq rfl rfl ?_ |(refine R.yG rfl rfl ?_ ?_<;>intro hb<;>subst hb) )))
 refine R.OT ?_
 refine aS ?_
 (repeat first |refine sN rfl ?_ |((first|refine sA rfl ?_ ?_|refine s4 rfl ‹_› rfl ?_ ?_);first|exact tI|omega|simp only[oZ] at *;omega) |refine s2 rfl fun _ _hb=>?_ |refine s3 rfl ?_ ?_<;>rintro rfl |refine aU rfl ?_ |refine Aa ?_)
 refine aB ?_
 refine Av.fO 3 ?_
 refine aL (α:={s:Nat×IH // s.1≤a.nx.length∧s.2.map (·.2)=a.nx.take s.1}) [2,3,13,14] [] rfl rfl (fun s=>[(15,eI .i64 s.1.1)]) (fun s=>[(0,.cells 29 3 [[.d (iD 0),.d (.l []),.d (.l [])]]),(1,.cells 4 1 (a.ac.map AB)),(2,.cells 62 1 (Be s.1.2)),(3,.cells 29 3 [[.d (iD a.al),.arr 2 1 0 s.1.2.length,.arr 1 1 0 a.ac.length]]),(4,.sld 3 (sI s.1.2))]) 5 (fun s=>a.nx.length - s.1.1) (⟨⟨0,[]⟩,by simp⟩) hΓ rfl (by ((repeat' first|exact tI|rfl|refine And.intro ?_ ?_)<;>(simp[cX,zC,hΓ,cN,Bp,Af,eC]<;>rfl))) ?_;rintro⟨⟨k,l⟩,hk,hl⟩;(try dsimp only[cA,cB])
 have hk:k≤a.nx.length:=hk
 have hl:l.map (·.2)=a.nx.take k:=hl
 have hll:l.length=k:=by have:=congrArg List.length hl;simp at this;omega
 (repeat first |refine sN rfl ?_ |((first|refine sA rfl ?_ ?_|refine s4 rfl ‹_› rfl ?_ ?_);first|exact tI|omega|simp only[oZ] at *;omega) |refine s2 rfl fun _ _hb=>?_ |refine s3 rfl ?_ ?_<;>rintro rfl |refine aU rfl ?_ |refine Aa ?_)
 ((refine aC rfl ?_ ?_<;>rintro⟨⟩);all_goals try(exfalso;first|omega|simp only[oZ] at *;omega))
 ·have hlt:k < a.nx.length:=by first|omega|simp only[oZ] at *;omega
  obtain⟨r,hx⟩:=get_some (l:=a.nx) (k:=k) hlt
  have hx':=get_map (g:=Ds) hx
  have hr:=ha.row r (List.mem_of_getElem? hx)
  have hcI:=Zf (TB:=TB) r (by omega)
  refine aK ?_
  refine aS (aB ?_)
  (repeat first |refine sN rfl ?_ |((first|refine sA rfl ?_ ?_|refine s4 rfl ‹_› rfl ?_ ?_);first|exact tI|omega|simp only[oZ] at *;omega) |refine s2 rfl fun _ _hb=>?_ |refine s3 rfl ?_ ?_<;>rintro rfl |refine aU rfl ?_ |refine Aa ?_)
  refine rG (dS [(1,13),(3,1008),(4,1008),(5,1),(7,1)]) (by kernel_rfl) ?_
  (repeat first |refine sN rfl ?_ |((first|refine sX rfl ?_ ?_|refine s4 rfl ‹_› rfl ?_ ?_);first|exact tI|omega|simp only[oZ] at *;omega) |refine s2 rfl fun _ _hb=>?_ |refine s3 rfl ?_ ?_<;>rintro rfl |refine aU rfl ?_ |refine Aa ?_)
  (refine Ai rfl ?_;refine O7 ?_ rfl ⟨rfl,rfl⟩;refine Bq [] rfl rfl (hcI) ⟨rfl,by decide,by decide⟩ rfl (by simp[cX,zC,hΓ,cN]) ?_;rintro x0 σ1 nx1 ⟨rfl,rfl,rfl⟩ _;refine⟨QN 3 rfl rfl,?_⟩)
  (repeat first |refine sN rfl ?_ |((first|refine sX rfl ?_ ?_|refine s4 rfl ‹_› rfl ?_ ?_);first|exact tI|omega|simp only[oZ] at *;omega) |refine s2 rfl fun _ _hb=>?_ |refine s3 rfl ?_ ?_<;>rintro rfl |refine aU rfl ?_ |refine Aa ?_)
  (refine Ai rfl ?_;refine O7 ?_ rfl ⟨rfl,rfl⟩;refine BL rfl rfl rfl rfl (by simp [eC,E.A1,C.A1]) (by rfl) (by rfl) (by rfl) (by rfl) ?_;refine⟨QN 3 rfl rfl,?_⟩)
  (repeat first |refine sN rfl ?_ |((first|refine sX rfl ?_ ?_|refine s4 rfl ‹_› rfl ?_ ?_);first|exact tI|omega|simp only[oZ] at *;omega) |refine s2 rfl fun _ _hb=>?_ |refine s3 rfl ?_ ?_<;>rintro rfl |refine aU rfl ?_ |refine Aa ?_)
  (refine pW rfl ?_ rfl (by rfl);refine AH rfl rfl rfl (DY _) rfl (by intro r hr;simp at hr;subst hr;rfl) (by rfl) (Nat.le_of_ble_eq_true rfl) (by simp;omega) ?_)
  (repeat first |refine sN rfl ?_ |((first|refine sA rfl ?_ ?_|refine s4 rfl ‹_› rfl ?_ ?_);first|exact tI|omega|simp only[oZ] at *;omega) |refine s2 rfl fun _ _hb=>?_ |refine s3 rfl ?_ ?_<;>rintro rfl)
  refine Aa ?_
  refine Av.Ce [2,3,13,14,15] [] rfl rfl [] [(0,.cells 29 3 [[.d (iD 0),.d (.l []),.d (.l [])]]),(1,.cells 4 1 (a.ac.map AB)),(2,.cells 62 1 (Be l++[[.arr 5 1 0 r.length]])),(3,.cells 29 3 [[.d (iD a.al),.arr 2 1 0 (l.length+1),.arr 1 1 0 a.ac.length]]),(4,.sld 3 (sI l)),(5,.cells 3 1 (r.map Al))] [0,1,7,3,4,5] (rl hΓ rfl) (by ((repeat' first|exact tI|rfl|refine And.intro ?_ ?_)<;>(simp[cX,zC,hΓ,cN,Bp,Af,eC]<;>rfl))) ?_;(try dsimp only[cA,cB])
  refine Av.WK 2 5 4 l r rfl rfl rfl fun v=>?_
  (repeat first |refine sN rfl ?_ |((first|refine sA rfl ?_ ?_|refine s4 rfl ‹_› rfl ?_ ?_);first|exact tI|omega|simp only[oZ] at *;omega) |refine s2 rfl fun _ _hb=>?_ |refine s3 rfl ?_ ?_<;>rintro rfl |refine aU rfl ?_ |refine Aa ?_)
  refine⟨⟨⟨k+1,l++[(v,r)]⟩,by dsimp only;omega,by dsimp only;rw [List.map_append,hl,List.take_add_one,hx];rfl⟩,by dsimp only;(first|omega|simp only[oZ] at *;omega),[0,1,2,3,4],?_⟩
  (simp[cX,zC,hΓ,cN]<;>rfl)
 have hkn:k=a.nx.length:=by first|omega|simp only[oZ] at *;omega
 refine aE ?_
 (repeat first |refine sN rfl ?_ |((first|refine sA rfl ?_ ?_|refine s4 rfl ‹_› rfl ?_ ?_);first|exact tI|omega|simp only[oZ] at *;omega) |refine s2 rfl fun _ _hb=>?_ |refine s3 rfl ?_ ?_<;>rintro rfl |refine aU rfl ?_ |refine Aa ?_)
 have hll:l.map (·.2)=a.nx:=by rw [hl,hkn,List.take_length]
 refine aR ⟨_,rfl,[2,1,4],Zi a.al 0 1 l.length a.ac.length,[(0,.cells 62 1 (Be l)),(1,.cells 4 1 (a.ac.map AB)),(2,.sld 3 (sI l))],⟨by intro i hi;omega,by decide⟩,rfl,by ((repeat' first|exact tI|rfl|refine And.intro ?_ ?_)<;>(simp[cX,zC,hΓ,cN]<;>rfl)),l,hll,rfl,rfl,rfl⟩
theorem Oh{a:AZ}(ha:AL a=true):gk 1000000 a:=by
 have hh:=AF ha
 refine⟨by omega,by omega,fun r hr=>?_⟩
 obtain⟨i,hi,he⟩:=List.getElem_of_mem hr
 obtain⟨row,h1,h2,h3⟩:=Jn ha hi
 rw [List.getElem?_eq_getElem hi,he] at h1
 injection h1 with h1
 subst h1
 have hla:(Ac a.al).length≤6:=AS a.al 6
 omega
theorem TY{n k:Nat}(h:k < n):(2 ^ n - 1).testBit k=true:=by rw [Nat.testBit_two_pow_sub_one,decide_eq_true h]
theorem Kj{n:Nat}:∀ {k:Nat},k≤n→JS (2 ^ n - 1) k=k
 | 0,_=>rfl
 | k+1,h=>by rw [Pa,TY (by omega),if_pos rfl,Kj (by omega)]
theorem Ws{y:Sys}(hs:AP y=true)(hes:y.es.length≤1048576):Pure Tryz.prog TB 116 [Bt y,eI .i64 ((2 ^ y.st.toNat - 1:Nat):Int)] (Bt y):=by
 have hh:=AK hs
 obtain⟨n0,hn0,hn1⟩:∃n0:Nat,y.st=n0∧n0≤16:=⟨y.st.toNat,by omega,by omega⟩
 have hpw:2 ^ n0≤2 ^ 16:=Nat.pow_le_pow_right (by omega) hn1
 have hm:2 ^ n0 - 1 < 2 ^ 62:=by omega
 rw [show y.st.toNat=n0 by omega]
 have hrk:=Mk (TB:=TB) (2 ^ n0 - 1) hm n0 (by omega)
 rw [Kj (Nat.le_refl _)] at hrk
 obtain⟨m,hmm⟩:∃m,m=2 ^ n0 - 1:=⟨_,rfl⟩
 have hbit:∀k,k < n0→AV (m:Nat) k=true:=fun k hk=>by rw [C4 (by omega) (by omega),hmm];exact TY hk
 have hrank:∀k,k≤n0→JS m k=k:=fun k hk=>by rw [hmm];exact Kj hk
 rw [←hmm] at hrk hm ⊢
 rw [←hn0] at hrk
 refine eG Tryz.func116 rfl (by kernel_rfl) rfl ?_;intro Γ hΓ
 (repeat first|refine tA rfl ?_ |refine aU rfl ?_ |refine Aa ?_)
 refine rG (dS [(7,1),(8,1)]) (by kernel_rfl) ?_
 (repeat first|refine tX rfl ?_ |refine sP rfl (hrk) rfl ?_|(refine Ai rfl ?_;refine gA rfl ?_;first| refine gS (fun _ _=>cJ rfl rfl (by rfl) (by rfl)) ?_) |refine aU rfl ?_ |refine Aa ?_)
 refine aB ?_
 refine aL (α:={z:Nat×List EO // z.1≤y.es.length∧z.2=y.es.take z.1}) [1,2] [] rfl rfl (fun s=>[(4,.o (.ptr 0 3 0 0)),(5,.o (.ptr 1 3 0 0)),(6,eI .i64 s.1.1)]) (fun s=>eL y.al y.st s.1.2) 3 (fun s=>y.es.length - s.1.1) (⟨⟨0,[]⟩,by simp⟩) hΓ rfl (by (simp[cX,zC,hΓ,eL,XP,cN])) ?_;rintro⟨⟨k,l⟩,hk,hl2⟩;(try dsimp only[cA,cB])
 have hk:k≤y.es.length:=hk
 have hl2:l=y.es.take k:=hl2
 have hll:l.length=k:=by rw [hl2,List.length_take];omega
 by_cases hlt:k < y.es.length
 ·obtain⟨e,he⟩:=get_some hlt
  have hl3:y.es.take (k+1)=l++[e]:=by rw [List.take_add_one,he,hl2];rfl
  have he':=get_map (g:=C5) he
  have hee:(y.es.map C5)[((k:Nat):Int).toNat]? = some (C5 e):=by rw [Int.toNat_natCast];exact he'
  have hb:=Dv hs (List.mem_of_getElem? he)
  unfold DL at hb
  simp only [Bool.and_eq_true,decide_eq_true_eq] at hb
  obtain⟨f0,hf0⟩:∃f0:Nat,e.f=f0:=⟨e.f.toNat,by omega⟩
  obtain⟨t0,ht0⟩:∃t0:Nat,e.t=t0:=⟨e.t.toNat,by omega⟩
  have hh1:=CT (TB:=TB) (m:Nat) e.f (by omega) (by omega)
  have hh2:=CT (TB:=TB) (m:Nat) e.t (by omega) (by omega)
  rw [hbit _ (by omega)] at hh1 hh2
  have hr1:=Mk (TB:=TB) m hm f0 (by omega)
  have hr2:=Mk (TB:=TB) m hm t0 (by omega)
  rw [hrank _ (by omega),←hf0] at hr1
  rw [hrank _ (by omega),←ht0] at hr2
  (repeat first|refine sN rfl ?_ |refine tA rfl ?_ |refine s2 rfl fun _ _hb=>?_ |refine aU rfl ?_ |refine Aa ?_)
  ((refine aC rfl ?_ ?_<;>rintro⟨⟩);all_goals try(exfalso;(simp only[oZ] at *;omega)))
  refine aK ?_
  refine aS (aB ?_)
  (repeat' first|refine tA rfl ?_ |(refine s4 rfl ‹_› rfl ?_ ?_;omega) |refine sP rfl (hh1) rfl ?_|refine sP rfl (hh2) rfl ?_ |refine aU rfl ?_ |refine Aa ?_|(refine aC rfl ?_ ?_<;>rintro⟨⟩));all_goals try contradiction
  cases l with
  | nil=>
   refine rG (dS [(1,11),(4,13),(7,13),(10,13),(14,1),(16,1)]) (by kernel_rfl) ?_
   (repeat first|refine tA rfl ?_ |refine sP rfl (hr1) rfl ?_|refine sP rfl (hr2) rfl ?_|(refine Ai rfl ?_;refine gA rfl ?_;first| refine gS (fun _ _=>AU rfl rfl (by rfl) (by rfl)) ?_))
   (refine pW rfl ?_ rfl (by rfl);refine kh 38 rfl ?_;refine HF rfl rfl rfl (by intro r hr;simp at hr;subst hr;rfl) (by rfl) (Nat.le_of_ble_eq_true rfl) (by simp) (fun h=>?_) (fun _=>?_))
   ·exact absurd h (by simp)
   (repeat first|(refine sX rfl ?_ ?_;first|exact tI|omega) |refine aU rfl ?_ |refine Aa ?_)
   refine⟨⟨⟨k+1,[e]⟩,by dsimp only;omega,by dsimp only;rw [hl3];rfl⟩,by dsimp only;(omega),[0,1,4],?_⟩
   (simp[cX,zC,hΓ,cN,eL,XP,Af,eC]<;>rfl)
  | cons r0 l=>
   refine rG (dS [(1,11),(4,13),(7,13),(10,13),(14,1),(16,1)]) (by kernel_rfl) ?_
   (repeat first|refine tA rfl ?_ |refine sP rfl (hr1) rfl ?_|refine sP rfl (hr2) rfl ?_|(refine Ai rfl ?_;refine gA rfl ?_;first| refine gS (fun _ _=>AU rfl rfl (by rfl) (by rfl)) ?_))
   (refine pW rfl ?_ rfl (by rfl);refine AH rfl rfl rfl (by first| (simp;done)|(simp;(omega))) rfl (by intro r hr;simp at hr;subst hr;rfl) (by rfl) (Nat.le_of_ble_eq_true rfl) (by simp at hll ⊢;omega) ?_)
   (repeat first|(refine sX rfl ?_ ?_;first|exact tI|omega) |refine aU rfl ?_ |refine Aa ?_)
   refine⟨⟨⟨k+1,r0::(l++[e])⟩,by dsimp only;omega,by dsimp only;rw [hl3];rfl⟩,by dsimp only;(omega),[0,1,4],?_⟩
   (simp[cX,zC,hΓ,cN,eL,XP,Af,eC]<;>rfl)
 ·have hke:k=y.es.length:=by omega
  have hly:l=y.es:=by rw [hl2,hke,List.take_length]
  have hy:y=⟨y.al,y.st,l⟩:=by rw [hly]
  (repeat first|refine sN rfl ?_ |refine tA rfl ?_ |refine s2 rfl fun _ _hb=>?_ |refine aU rfl ?_ |refine Aa ?_)
  ((refine aC rfl ?_ ?_<;>rintro⟨⟩);all_goals try(exfalso;(simp only[oZ] at *;omega)))
  refine aE ?_
  rw [hy]
  cases l with
  | nil=>
   refine Av.Eb [1] [(4,.o (.ptr 0 3 0 0)),(5,.o (.ip (CQ ⟨y.al,y.st,[]⟩)))] ⟨⟨_,rfl,.inl rfl⟩,⟨_,rfl,.inr (.o (.box rfl (.cons .d (.cons .d (.cons .nl .nil)))))⟩,trivial⟩ ?_
   (repeat first|refine tA rfl ?_ |refine aU rfl ?_ |refine Aa ?_)
   (subst_vars;exact aR ⟨_,rfl,rfl⟩)
  | cons r0 l=>
   refine Av.Eb [1,2] [(4,.o (.ptr 0 3 0 0)),(5,.o (.ip (CQ ⟨y.al,y.st,r0::l⟩)))] ⟨⟨_,rfl,.inl rfl⟩,⟨_,rfl,.inr (.o (.box rfl (.cons .d (.cons .d (.cons (.full rfl (by simp [Function.comp_def]) (by simp)) .nil)))))⟩,trivial⟩ ?_
   (repeat first|refine tA rfl ?_ |refine aU rfl ?_ |refine Aa ?_)
   (subst_vars;exact aR ⟨_,rfl,rfl⟩)
abbrev Vt(s:Sys)(p:AZ)(t:Sys):CB×Bool:=if Bz s p t < 0 then (⟨⟨0,0,[]⟩,⟨0,[],[]⟩,0⟩,false) else (⟨s,p,Bz s p t⟩,true)
theorem Jg(s:Sys)(p:AZ)(t:Sys)(hes:s.es.length≤1048576):Pure Tryz.prog TB 67 [Bt s,Bo p,Bt t] (mr (Vt s p t)):=by
 have hif:=Kq (TB:=TB) s p t
 unfold Vt
 by_cases h0:Bz s p t < 0
 ·rw [if_pos h0]
  refine eG Tryz.func67 rfl (by kernel_rfl) rfl ?_;intro Γ hΓ
  (repeat first|refine tA rfl ?_ |refine s2 rfl fun _ _hb=>?_ |refine sP rfl (hif) rfl ?_ |refine aU rfl ?_ |refine Aa ?_)
  ((refine aC rfl ?_ ?_<;>rintro⟨⟩);all_goals try(exfalso;(simp only[oZ] at *;omega)))
  (repeat first|refine tA rfl ?_|(refine Ai rfl ?_;refine gA rfl ?_;first| refine gS (fun _ _=>AU rfl rfl (by rfl) (by rfl)) ?_) |refine aU rfl ?_ |refine Aa ?_)
  (subst_vars;exact aR ⟨_,rfl,rfl⟩)
 ·rw [if_neg h0]
  have hI:=HD h0
  have hh:=AK hI.hs
  have hbt:=Wn (TB:=TB) s.st (by omega) (by omega)
  have hkp:=Ws (TB:=TB) hI.hs hes
  have hpw:2 ^ s.st.toNat≤2 ^ 16:=Nat.pow_le_pow_right (by omega) (by omega)
  have hpp:0 < 2 ^ s.st.toNat:=Nat.two_pow_pos _
  have hm1:((2 ^ s.st.toNat:Nat):Int) - 1=((2 ^ s.st.toNat - 1:Nat):Int):=by omega
  rw [←hm1] at hkp
  generalize 2 ^ s.st.toNat=pw at *
  generalize Bz s p t=ai at *
  refine eG Tryz.func67 rfl (by kernel_rfl) rfl ?_;intro Γ hΓ
  (repeat first|refine tA rfl ?_ |refine s2 rfl fun _ _hb=>?_ |refine sP rfl (hif) rfl ?_ |refine aU rfl ?_ |refine Aa ?_)
  ((refine aC rfl ?_ ?_<;>rintro⟨⟩);all_goals try(exfalso;(simp only[oZ] at *;omega)))
  refine aK ?_
  (repeat first|refine aU rfl ?_)
  refine rG ⟨OA [(7,1),(10,1)],jK [0,1,2,3,4,6,8,5,7,9,10,11]⟩ (by kernel_rfl) ?_
  (repeat first|(refine sX rfl ?_ ?_;first|exact tI|omega) |refine sP rfl (hbt) rfl ?_|refine sP rfl (hkp) rfl ?_)
  (refine pW rfl ?_ rfl (by rfl);refine CA [] rfl rfl 0 (QQ p (Oh hI.hp)) (by decide) ⟨rfl,by decide,by decide⟩ rfl (by simp[cX,zC,hΓ,cN]) ?_;rintro x0 σ1 nx1 ⟨l,hl,rfl,rfl,rfl⟩ _)
  (repeat first|refine tX rfl ?_|(refine Ai rfl ?_;refine gA rfl ?_;first| refine gS (fun _ _=>AU rfl rfl (by rfl) (by rfl)) ?_) |refine Aa ?_)
  refine Av.Ce [] [] rfl rfl [(6,.o (.ptr 0 7 0 0)),(7,eB true)] [(0,.cells 87 7 [[.d (iD s.al),.d (iD s.st),.d (Ef s.es),.d (iD p.al),.arr 1 1 0 l.length,.arr 2 1 0 p.ac.length,.d (iD ai)]]),(1,.cells 62 1 (Be l)),(2,.cells 4 1 (p.ac.map AB)),(3,.sld 3 (sI l))] [0,1,2,3] (rl hΓ rfl) (by (simp[cX,zC,hΓ,cN,Bp,Af,eC])) ?_;(try dsimp only[cA,cB])
  refine Av.Eb [0,1,2,3] [(6,.o (.ip (Lv ⟨s,⟨p.al,l.map (·.2),p.ac⟩,ai⟩))),(7,eB true)] ⟨⟨_,rfl,.inr (.o (.box rfl (.cons .d (.cons .d (.cons .d (.cons .d (.cons (.jw (s:=3) rfl rfl) (.cons (.full rfl (by simp [Function.comp_def]) (by simp)) (.cons .d .nil)))))))))⟩,⟨_,rfl,.inl rfl⟩,trivial⟩ ?_
  rw [hl]
  (subst_vars;exact aR ⟨_,rfl,rfl⟩)
theorem Ze(l:List EO)(h:l.length≤1048576):Spec Tryz.prog TB 100 [] 0 [.o (.d (Ef l))] (fun x σ nx=>x=.o (.arr 0 3 0 l.length)∧nx=1∧σ=[(0,.cells 126 3 (l.map Az))]):=by
 refine eN Tryz.func100 rfl (by kernel_rfl) rfl ?_;intro Γ hΓ
 (repeat first|refine aU rfl ?_)
 (refine Ai rfl ?_;refine Bx (fun _ _=>Bn rfl) rfl ?_)
 (repeat first|refine tM rfl ?_ |refine aU rfl ?_ |refine Aa ?_)
 (refine pW rfl ?_ rfl (by rfl);refine K6 rfl ?_;intro b0 hb0)
 (repeat first|refine Aa ?_)
 (refine aC rfl ?_ ?_<;>rintro⟨⟩)
 ·obtain rfl:l=[]:=by simpa using hb0 rfl
  (repeat first|refine aU rfl ?_)
  (refine pW rfl ?_ rfl (by rfl);refine Hb 3 126 ?_)
  (repeat first|refine Aa ?_)
  refine aR ⟨_,rfl,rfl,rfl,rfl⟩
 ·refine aK ?_
  (repeat first|refine aU rfl ?_)
  (refine pW rfl ?_ rfl (by rfl);refine BL rfl rfl rfl rfl (by simp) (by rfl) (by rfl) (by rfl) (by rfl) ?_)
  (repeat first|refine tM rfl ?_)
  (refine pW rfl ?_ rfl (by rfl);refine AH rfl rfl rfl (by first| (simp;done)|(simp;(omega))) rfl (by intro r hr;simp only [List.map_map,List.mem_map] at hr;obtain⟨_,_,rfl⟩:=hr;rfl) (by rfl) (Nat.le_of_ble_eq_true rfl) (by simp;omega) ?_)
  (repeat first|refine tM rfl ?_ |refine Aa ?_)
  refine Av.names [1] [(2,.o (.arr 0 3 0 l.length))] [(0,.cells 126 3 (l.map Az))] (by intro i hi;rw [hΓ] at hi;omega) (by simp) (by simp[cX,zC,hΓ]) (by simp[cX,zC,hΓ]) ?_
  refine aR ⟨_,rfl,rfl,rfl,rfl⟩
theorem JP(s:Sys)(p:AZ)(t:Sys)(hes:s.es.length≤1048576):Pure Tryz.prog TB 58 [Bt s,Bo p,Bt t] (mr (Vt s p t)):=by
 have hif:=J9 (TB:=TB) s p t
 unfold Vt
 by_cases h0:Bz s p t < 0
 ·rw [if_pos h0]
  refine eG Tryz.func58 rfl (by kernel_rfl) rfl ?_;intro Γ hΓ
  (repeat first|refine tA rfl ?_ |refine s2 rfl fun _ _hb=>?_ |refine sP rfl (hif) rfl ?_ |refine aU rfl ?_ |refine Aa ?_)
  ((refine aC rfl ?_ ?_<;>rintro⟨⟩);all_goals try(exfalso;(simp only[oZ] at *;omega)))
  (repeat first|refine tA rfl ?_|(refine Ai rfl ?_;refine gA rfl ?_;first| refine gS (fun _ _=>AU rfl rfl (by rfl) (by rfl)) ?_) |refine aU rfl ?_ |refine Aa ?_)
  (subst_vars;exact aR ⟨_,rfl,rfl⟩)
 ·rw [if_neg h0]
  have hI:=HD h0
  have hcl:=Ze (TB:=TB) s.es hes
  have hcp:=LV (TB:=TB) p ((Oh hI.hp).upto (by omega))
  generalize Bz s p t=ai at *
  refine eG Tryz.func58 rfl (by kernel_rfl) rfl ?_;intro Γ hΓ
  (repeat first|refine aU rfl ?_)
  (refine pW rfl ?_ rfl (by rfl);refine Di rfl rfl ?_)
  (repeat first|refine tA rfl ?_ |refine s2 rfl fun _ _hb=>?_ |refine sP rfl (hif) rfl ?_ |refine aU rfl ?_ |refine Aa ?_)
  ((refine aC rfl ?_ ?_<;>rintro⟨⟩);all_goals try(exfalso;(simp only[oZ] at *;omega)))
  refine aK ?_
  (repeat first|refine tA rfl ?_ |refine aU rfl ?_)
  (refine pW rfl ?_ rfl (by rfl);refine Bq [] rfl rfl (hcl) ⟨rfl,by decide,by decide⟩ rfl (by simp[cX,zC,hΓ,cN]) ?_;rintro x0 σ1 nx1 ⟨rfl,rfl,rfl⟩ _)
  (repeat first|refine tA rfl ?_ |refine aU rfl ?_ |refine Aa ?_)
  refine rG ⟨OA [(0,10),(2,1001),(5,1)],jK [0,1,3,2,4,5,6]⟩ (by kernel_rfl) ?_
  (repeat first|refine tA rfl ?_)
  (refine Ai rfl ?_;refine O7 ?_ rfl ⟨rfl,rfl⟩;refine CA [] rfl rfl 0 hcp (by decide) ⟨rfl,by decide,by decide⟩ rfl (by simp[cX,zC,hΓ,cN]) ?_;rintro x0 σ1 nx1 ⟨l,hl,rfl,rfl,rfl⟩ _;refine⟨QN 0 rfl rfl,?_⟩)
  (repeat first|refine tA rfl ?_|(refine Ai rfl ?_;refine gA rfl ?_;first| refine gS (fun _ _=>AU rfl rfl (by rfl) (by rfl)) ?_) |refine Aa ?_)
  refine Av.Ce [] [] rfl rfl [(6,.o (.ptr 0 7 0 0)),(7,eB true)] [(0,.cells 87 7 [[.d (iD s.al),.d (iD s.st),.arr 1 3 0 s.es.length,.d (iD p.al),.arr 2 1 0 l.length,.arr 3 1 0 p.ac.length,.d (iD ai)]]),(1,.cells 126 3 (s.es.map Az)),(2,.cells 62 1 (Be l)),(3,.cells 4 1 (p.ac.map AB)),(4,.sld 3 (sI l))] [1,2,3,4,5] (rl hΓ rfl) (by (simp[cX,zC,hΓ,cN,Bp,Af,eC])) ?_;(try dsimp only[cA,cB])
  refine Av.Eb [0,1,2,3,4] [(6,.o (.ip (Lv ⟨s,⟨p.al,l.map (·.2),p.ac⟩,ai⟩))),(7,eB true)] ⟨⟨_,rfl,.inr (.o (.box rfl (.cons .d (.cons .d (.cons (.full rfl (by simp [Function.comp_def]) (by simp)) (.cons .d (.cons (.jw (s:=4) rfl rfl) (.cons (.full rfl (by simp [Function.comp_def]) (by simp)) (.cons .d .nil)))))))))⟩,⟨_,rfl,.inl rfl⟩,trivial⟩ ?_
  rw [hl]
  (subst_vars;exact aR ⟨_,rfl,rfl⟩)
theorem Fh(r:Option (List Int)):E.Ig (KF r):=by
 show ∀x∈[(false,[C.d (tD (PX r))]),(false,[C.d (bD r.isSome)])],∀c∈x.2,C.Ig c=true
 simp [C.Ig]
end Go.Am
namespace Go.Am
open Go Go.Proofs
set_option maxHeartbeats 1000000
attribute [local irreducible] AQ BS Lex Bc Av Spec
theorem JH.gR{P:Program}{TB:Bs}{c:C}{L:W→Bool}{ok:W→Prop}(h:JH P TB c L ok){w:W}{b:Bool}(hb:L w=b)(hw:ok w){Γ:Ctx}{d:Option Tmp}{ty:TypeId}{pos:String}{af:Array Edge}{g:Option (Nat×Bool)}{f:Env}{σ:Ab}{nx:Nat}{x a:Operand}{tys:Array TypeId}
 (hx:ev f x=some (.o c)) (ha:ev f a=some (eT w)):AQ P TB Γ ⟨d,.call ⟨.value x,#[a],tys⟩,ty,pos,af,g⟩ f σ nx (eB b):=hb ▸ h.ask hx ha hw
theorem jP{m:Nat}{L:W→Bool}{ok:W→Prop}{X:Bs→Ctx→C→Prop}{Y:Prop}(h:∀(TB1:Bs) (Γ1:Ctx) (c1:C),Γ1.V.nx=m→Dl TB1→JH Tryz.prog TB1 c1 L ok→X TB1 Γ1 c1)
 (hk:(∀(TB1:Bs) (Γ1:Ctx) (c1:C),Γ1.V.nx=m→Dl TB1→JH Tryz.prog TB1 c1 L ok→X TB1 Γ1 c1)→Y):Y:=hk h
theorem UB{tabs:List (Nat×Obj)}[hT:Dl ⟨tabs,none⟩]{te:Ex}{ok:W→Prop}(hkn:te.kn=false)(hok:CM te=true)(hsub:∀w,ok w→jy (A5 te) w)(hf:Th te ok) :
 ∃(t:CB) (m:Hh),ML t ok m∧AG Tryz.prog ⟨tabs,none⟩ 59 0 [] 0 [Ew te] (fun x σ nx=>x=.t [(true,[.d (iD (A5 te)),Nd (.ptr 0 14 0 0)]),(false,[.d (bD true)])]∧σ=ND t m∧nx=5)∧
  ∀r,JH Tryz.prog ⟨tabs,some (PD t ok,r)⟩ (Nd (Pb r)) (Cv te) ok∧Dl ⟨tabs,some (PD t ok,r)⟩:=by
 obtain⟨kn,p,s,q,al⟩:=te
 obtain rfl:kn=false:=hkn
 have ht:A6 ⟨s,q,al⟩=true:=hok
 obtain⟨m,hm,hno⟩:=Qk (TB:=⟨tabs,none⟩) p ht ok
 exact⟨⟨s,q,al⟩,m,hm,hno,fun r=>⟨lH ht hsub (hf rfl),jh hT⟩⟩
def Od(v:Vd)(x:E)(σ:Ab)(nx:Nat):Prop:=
 (v.a=Hl∧x=P6 v∧σ=[]∧nx=0)∨
 (∃l:IH,l.map (·.2)=v.a.nx∧x=.a [.d (iD v.code),.d (iD v.a.al),.arr 0 1 0 l.length,.arr 1 1 0 v.a.ac.length,.d (tD v.tr),.d (iD v.rd)]∧σ=[(0,.cells 62 1 (Be l)),(1,.cells 4 1 (v.a.ac.map AB)),(2,.sld 3 (sI l))]∧nx=3)
section
variable {tabs:List (Nat×Obj)}[hTb:Dl ⟨tabs,none⟩]
include hTb
theorem Xl{s t:Sys}{p:AZ}{al:Int}(hI:Fp s p t al)(hes:s.es.length≤1048576):AG Tryz.prog ⟨tabs,none⟩ 32 0 [] 0 [Bt s,Bt t,Bo p,.o (.d (.v .nilFunc))] (Od (C8 s t p)):=by
 have h1:=JP (TB:=⟨tabs,none⟩) s p t hes
 unfold Vt at h1
 rw [if_neg (Ud hI),←hI.hal] at h1
 obtain⟨ok,hs0,hf,hgr,hrun⟩:=ea hI (FW hI)
 let te:Ex:=En s p al
 have hkn:te.kn=false:=rfl
 have hok:CM te=true:=dM hI
 have hsub:∀w,ok w→jy (A5 te) w:=fun w hw=>by rw [Ff];exact hs0 w hw
 have hf:Th te ok:=hf
 obtain⟨hl1,hl2⟩:=Li hI
 have h0:=dG (t:=t) hI
 unfold SA at h0
 rw [if_pos (dM hI),Nl,Ff] at h0
 refine AG.A1 (AG.Ql (m:=0) (Nat.le_of_ble_eq_true rfl) Tryz.func32 rfl (by kernel_rfl) (Nat.le_of_ble_eq_true rfl) ?_);intro Γ hΓ
 (repeat first|refine tA rfl ?_ |refine s2 rfl fun _ _hb=>?_ |refine sP rfl (h1) rfl ?_ |refine aU rfl ?_ |refine Aa ?_)
 ((refine aC rfl ?_ ?_<;>rintro⟨⟩);all_goals try (simp at _hb;done))
 refine aK ?_
 refine Av.Eb [1] [(3,.o (.d (.v .nilFunc))),(4,.o (.ip (CQ s))),(5,.o (.ip (CQ t))),(6,.o (.ip (Bv p))),(8,.o (.ptr 0 6 0 0)),(9,.o (.ip (Lv ⟨s,p,al⟩)))] ⟨⟨_,rfl,.inl rfl⟩,⟨_,rfl,.inl rfl⟩,⟨_,rfl,.inl rfl⟩,⟨_,rfl,.inl rfl⟩,⟨_,rfl,.inl rfl⟩,⟨_,rfl,.inr (.o (.box rfl (NI.refl (Lv ⟨s,p,al⟩))))⟩,trivial⟩ ?_
 refine Av.Ce [3,4,5,6,8,9] [0] rfl rfl [] [] [0] (rl hΓ rfl) (by (simp[cX,zC,hΓ,cN])) ?_;(try dsimp only[cA,cB])
 (repeat first|refine tA rfl ?_|(refine Ai rfl ?_;refine gA rfl ?_;first| refine gS (fun _ _=>AU rfl rfl (by rfl) (by rfl)) ?_) |refine aU rfl ?_)
 apply jP (m:=0) (L:=Cv te) (ok:=ok);case hk=>(intro hk;obtain⟨tk,mk,hm,hno,hV⟩:=UB (tabs:=tabs) hkn hok hsub hf;((refine pW rfl ?_ rfl (by rfl);refine CA [] rfl rfl 0 (hno) (by decide) ⟨rfl,by decide,by decide⟩ rfl (by simp[cX,zC,hΓ,AW]) ?_;rintro x0 σ1 nx1 ⟨rfl,rfl,rfl⟩ _);(repeat first|refine tA rfl ?_);refine Aa ?_;refine Av.lN (PD tk ok) ⟨mk,hm⟩ 1 [2,3,4,5] (fun r=>[(3,.o (.d (.v .nilFunc))),(4,.o (.ip (CQ s))),(5,.o (.ip (CQ t))),(6,.o (.ip (Bv p))),(9,.o (.ip (Lv ⟨s,p,al⟩))),(8,.o (.ptr 0 6 0 0)),(11,.o (.ptr 6 2 0 0))]) (fun r=>[(0,.cells 35 6 [[.d (iD 0),.d (iD 0),.d (.l []),.d (.l []),.d (tD []),.d (iD 0)]]),(6,.cells 92 2 [[.d (iD (A5 te)),Nd (Pb r)]])]) (by decide) rfl (by ((repeat' first|exact tI|rfl|refine And.intro ?_ ?_)<;>(simp[cX,zC,hΓ,AW]<;>rfl))) ⟨_,_,_,_,rfl⟩ (fun r=>by repeat' first|exact tI|refine And.intro ⟨_,rfl,.AD⟩ ?_) (fun r=>by repeat' first|exact tI|refine And.intro ⟨by decide,.inl rfl⟩ ?_|refine And.intro ⟨by decide,.inr ⟨_,_,_,_,rfl,rfl,.cons .AD (.cons .mv .nil)⟩⟩ ?_) fun r Γ' hΓ'=>?_;have hΓ:Γ'.V.nx=0:=(by rw [hΓ'];exact hΓ);refine Av.Ce [3,4,5,6,9] [] rfl rfl [(8,.o (.ptr 0 6 0 0)),(11,.o (.ptr 1 2 0 0))] [(0,.cells 35 6 [[.d (iD 0),.d (iD 0),.d (.l []),.d (.l []),.d (tD []),.d (iD 0)]]),(1,.cells 92 2 [[.d (iD (A5 te)),Nd (Pb r)]])] [0,6] (rl hΓ rfl) (by (simp[cX,zC,hΓ])) ?_;(try dsimp only[cA,cB]);have hVr:=hV r;obtain⟨TB0,hTB0⟩:∃T,T=(⟨tabs,some (PD tk ok,r)⟩:Bs):=⟨_,rfl⟩;obtain⟨c0,hc0⟩:∃c,c=Nd (Pb r):=⟨_,rfl⟩;rw [←hTB0,←hc0] at hVr ⊢;exact hk TB0 Γ' c0 hΓ hVr.2 hVr.1))
 case h =>
  intro TB1 Γ1 c1 hΓ hTb1 hV
  have hV:JH Tryz.prog TB1 c1 (LS ⟨s,p,al⟩) ok:=by rw [←Nl];exact hV
  have eal:A5 te=al:=Ff s p al
  rw [eal]
  clear_value te
  have hcr:=EK c1 hV.BW
  have hnt:=SC hV al hgr
  rw [h0] at hnt
  have hvd:∀v:Vd,C8 s t p=v→v.a=Hl→Od (C8 s t p) (P6 v) [] 0:=fun v h1 h2=>by rw [h1];exact .inl ⟨h2,rfl,rfl,rfl⟩
  (repeat first|refine tA rfl ?_|(refine Ai rfl ?_;refine gA rfl ?_;first| refine gS (fun _ _=>AN rfl rfl (by simp [E.BW,C.BW,C.C6,hV.BW]) (hnt) rfl) ?_) |refine aU rfl ?_ |refine Aa ?_)
  refine aB ?_
  refine aL (α:={k:Nat // k≤(BX s t p al).length∧(k=(BX s t p al).length→C8 s t p=⟨2,Hl,[],(k:Int)⟩)}) [3,4,5,6,8,9,11,13] [0,1] rfl rfl (fun ⟨k,hkn,hk2⟩=>[(10,eB (decide (k < (BX s t p al).length))),(14,eI .i64 ((k:Int)+1))]) (fun ⟨k,hkn,hk2⟩=>[(2,.cells 99 2 [[.d (Cf (BH s t p al k).rows),.d (Cf (BH s t p al k).cols)]])]) 3 (fun ⟨k,hkn,hk2⟩=>(BX s t p al).length - k) (⟨0,by omega,by omega⟩) hΓ rfl (by ((repeat' first|exact tI|rfl|refine And.intro ?_ ?_)<;>(simp[cX,zC,hΓ,cN,hcr]<;>rfl))) ?_;rintro⟨k,hkn,hk2⟩;(try dsimp only[cA,cB])
  refine aS (aB ?_)
  by_cases hlt:k < (BX s t p al).length
  ·simp only [decide_eq_true hlt]
   obtain⟨hx,hc⟩:=UN hI hlt
   have hbd:=Tg hx
   obtain⟨hao,hasks⟩:=hrun _ (List.mem_of_getElem? (Jl hlt))
   have hau:=PZ (TB:=TB1) hV al (BH s t p al k) hao (hbd.mono (by omega)) hx.o
   obtain⟨_,_,_,hcl⟩:=LP hI hx
   have hvu:=IC (TB:=TB1) s (BO s p al (BH s t p al k)) p
   have hfv:=IB (TB:=TB1) t (BO s p al (BH s t p al k))
   have hau:AG Tryz.prog TB1 61 0 [] 0 [IT al c1,DO (BH s t p al k)] (IK (BO s p al (BH s t p al k))):=hau
   (repeat first|refine tA rfl ?_ |refine s2 rfl fun _ _hb=>?_ |refine aU rfl ?_ |refine Aa ?_)
   ((refine aC rfl ?_ ?_<;>rintro⟨⟩);all_goals try (simp at _hb;done))
   refine aK ?_
   (repeat first|refine tA rfl ?_ |refine aU rfl ?_)
   (refine pW rfl ?_ rfl (by rfl);refine CA [] rfl rfl 0 hau (by decide) ⟨rfl,by decide,by decide⟩ (by simp [EI,E.A1,C.BC,C.A1,hcr,eC,IT,DO]<;>rfl) (by simp[cX,zC,hΓ,cN]) ?_;rintro x0 σ1 nx1 ⟨l,hl,rfl,rfl,rfl⟩ _)
   (repeat first|refine tA rfl ?_)
   refine Aa ?_
   refine Av.Ce [3,4,5,6,8,9,11,13,14] [0,1,2] rfl rfl [(15,.o (.ptr 6 3 0 0))] [(3,.cells 62 1 (Be l)),(4,.cells 4 1 ((BO s p al (BH s t p al k)).ac.map AB)),(5,.sld 3 (sI l)),(6,.cells 29 3 [[.d (iD (BO s p al (BH s t p al k)).al),.arr 3 1 0 l.length,.arr 4 1 0 (BO s p al (BH s t p al k)).ac.length]])] [0,1,2,3,4,5,6] (rl hΓ rfl) (by (simp[cX,zC,hΓ,cN,Af,eC,Bp,hcr])) ?_;(try dsimp only[cA,cB])
   (repeat first|refine tA rfl ?_|(refine Ai rfl ?_;refine gA rfl ?_;first| refine gS (fun _ _=>fx rfl rfl) ?_) |refine aU rfl ?_ |refine Aa ?_)
   ((refine aC rfl ?_ ?_<;>rintro⟨⟩);all_goals try (simp at _hb;done))
   refine aK ?_
   rcases hc with ⟨hr,hv,hk⟩|⟨w,b,hr,hon,hwl,hc⟩
   ·obtain⟨g1,g2⟩:=UK hr
    rw [g1] at hvu
    rw [g2] at hfv
    have hend:∀(x:E) (σ:Ab) (nx:Nat),(∃l:IH,l.map (·.2)=(BO s p al (BH s t p al k)).nx∧x=.a [.d (iD 0),.d (iD (BO s p al (BH s t p al k)).al),.arr 0 1 0 l.length,.arr 1 1 0 (BO s p al (BH s t p al k)).ac.length,.d (tD []),.d (iD ((k:Int)+1))]∧σ=[(0,.cells 62 1 (Be l)),(1,.cells 4 1 ((BO s p al (BH s t p al k)).ac.map AB)),(2,.sld 3 (sI l))]∧nx=3)→Od (C8 s t p) x σ nx:=fun x σ nx h=>by rw [hv];exact .inr h
    generalize Od (C8 s t p)=Q at *
    generalize BO s p al (BH s t p al k)=a at *
    (repeat first|refine tA rfl ?_ |refine s2 rfl fun _ _hb=>?_|(refine Ai rfl ?_;refine gA rfl ?_;first| refine gQ (AQ.GU [(59,Bt s),(60,Bo a),(61,Bo p)] ⟨⟨_,rfl,.AD rfl⟩,⟨_,rfl,Hz (k:=5) rfl rfl rfl hl rfl rfl⟩,⟨_,rfl,.AD rfl⟩,trivial⟩ (fun Γ'=>AN rfl rfl rfl hvu rfl) (Fh _)) rfl ?_) |refine aU rfl ?_ |refine Aa ?_)
    ((refine aC rfl ?_ ?_<;>rintro⟨⟩);all_goals try (simp at _hb;done))
    (repeat first|refine tA rfl ?_ |refine s2 rfl fun _ _hb=>?_|(refine Ai rfl ?_;refine gA rfl ?_;first| refine gQ (AQ.GU [(68,Bt t),(69,Bo a)] ⟨⟨_,rfl,.AD rfl⟩,⟨_,rfl,Hz (k:=5) rfl rfl rfl hl rfl rfl⟩,trivial⟩ (fun Γ'=>AN rfl rfl rfl hfv rfl) (Fh _)) rfl ?_) |refine aU rfl ?_ |refine Aa ?_)
    ((refine aC rfl ?_ ?_<;>rintro⟨⟩);all_goals try (simp at _hb;done))
    (repeat first|refine tA rfl ?_|(refine Ai rfl ?_;refine gA rfl ?_;first| refine gS (fun _ _=>AU rfl rfl (by rfl) (by rfl)) ?_) |refine aU rfl ?_ |refine Aa ?_)
    exact aR ⟨_,rfl,[3,4,5],.a [.d (iD 0),.d (iD a.al),.arr 0 1 0 l.length,.arr 1 1 0 a.ac.length,.d (tD []),.d (iD ((k:Int)+1))],[(0,.cells 62 1 (Be l)),(1,.cells 4 1 (a.ac.map AB)),(2,.sld 3 (sI l))],⟨fun i hi=>absurd hi (Nat.not_lt_zero i),by decide⟩,rfl,by (simp[cX,zC,hΓ,cN,Bp,Af,eC]),hend _ _ _ ⟨l,hl,rfl,rfl,rfl⟩⟩
   ·obtain⟨hokw,hoks⟩:=hasks w b hr
    have hls:=Qe (TB:=TB1) hV al (BH s t p al k) hbd (QL hI) hcl hx.o w hoks hon (by omega)
    have hpv:=ET (TB:=TB1) [s,t] p
    rcases UJ hI hr with ⟨u,rfl,g1,g2,g3,g4⟩|⟨u,rfl,g0,g1,g2,g3,g4⟩
    ·have hrs:=Nc (TB:=TB1) (Df u) al (by omega)
     rw [g2] at hrs
     rw [g1] at hvu
     rcases hc with ⟨hb,_⟩|⟨_,⟨hst,hlt2⟩|⟨hst,htb,hk,hv⟩⟩
     ·cases hb
     ·rw [hst] at hls
      generalize BO s p al (BH s t p al k)=a at *
      (repeat first|refine tA rfl ?_ |refine s2 rfl fun _ _hb=>?_|(refine Ai rfl ?_;refine gA rfl ?_;first| refine gQ (AQ.GU [(59,Bt s),(60,Bo a),(61,Bo p)] ⟨⟨_,rfl,.AD rfl⟩,⟨_,rfl,Hz (k:=5) rfl rfl rfl hl rfl rfl⟩,⟨_,rfl,.AD rfl⟩,trivial⟩ (fun Γ'=>AN rfl rfl rfl hvu rfl) (Fh _)) rfl ?_) |refine aU rfl ?_ |refine Aa ?_)
      ((refine aC rfl ?_ ?_<;>rintro⟨⟩);all_goals try (simp at _hb;done))
      refine aK ?_
      (repeat first|refine tA rfl ?_ |refine s2 rfl fun _ _hb=>?_ |refine sP rfl (hrs) rfl ?_ |refine s3 rfl ?_ ?_<;>rintro rfl |refine aU rfl ?_ |refine Aa ?_)
      (repeat' first|refine tA rfl ?_ |refine Aa ?_|(refine aC rfl ?_ ?_<;>rintro⟨⟩));all_goals try contradiction
      refine aK ?_
      (repeat first|(refine sA rfl ?_ ?_;first|exact tI|omega)|(refine Ai rfl ?_;refine gA rfl ?_;first| refine gS (fun _ _=>AN rfl rfl (by simp [E.BW,C.BW,C.C6,hV.BW]) (hls) rfl) ?_) |refine aU rfl ?_ |refine Aa ?_)
      refine⟨⟨k+1,by omega,by omega⟩,by dsimp only;(omega),[0,1,2],?_⟩
      simp[cX,zC,hΓ,cN,hcr,hlt2]
     ·rw [hst] at hls
      generalize BO s p al (BH s t p al k)=a at *
      (repeat first|refine tA rfl ?_ |refine s2 rfl fun _ _hb=>?_|(refine Ai rfl ?_;refine gA rfl ?_;first| refine gQ (AQ.GU [(59,Bt s),(60,Bo a),(61,Bo p)] ⟨⟨_,rfl,.AD rfl⟩,⟨_,rfl,Hz (k:=5) rfl rfl rfl hl rfl rfl⟩,⟨_,rfl,.AD rfl⟩,trivial⟩ (fun Γ'=>AN rfl rfl rfl hvu rfl) (Fh _)) rfl ?_) |refine aU rfl ?_ |refine Aa ?_)
      ((refine aC rfl ?_ ?_<;>rintro⟨⟩);all_goals try (simp at _hb;done))
      refine aK ?_
      (repeat first|refine tA rfl ?_ |refine s2 rfl fun _ _hb=>?_ |refine sP rfl (hrs) rfl ?_ |refine s3 rfl ?_ ?_<;>rintro rfl |refine aU rfl ?_ |refine Aa ?_)
      (repeat' first|refine tA rfl ?_ |refine Aa ?_|(refine aC rfl ?_ ?_<;>rintro⟨⟩));all_goals try contradiction
      refine aK ?_
      (repeat first|(refine sA rfl ?_ ?_;first|exact tI|omega)|(refine Ai rfl ?_;refine gA rfl ?_;first| refine gS (fun _ _=>AN rfl rfl (by simp [E.BW,C.BW,C.C6,hV.BW]) (hls) rfl) ?_) |refine aU rfl ?_ |refine Aa ?_)
      refine⟨⟨k+1,by omega,fun _=>hv⟩,by dsimp only;(omega),[0,1,2],?_⟩
      simp[cX,zC,hΓ,cN,hcr,htb,decide_eq_false (show ¬k+1 < (BX s t p al).length by omega)]
    ·have hrs:=Nc (TB:=TB1) (Df u) al (by omega)
     rw [g2] at hrs
     rw [g0] at hvu
     rw [g1] at hfv
     rcases hc with ⟨_,hb0,hv,hk⟩|⟨hb,hc⟩
     ·have hvd:=hvd _ hv rfl
      generalize BO s p al (BH s t p al k)=a at *
      (repeat first|refine tA rfl ?_ |refine s2 rfl fun _ _hb=>?_|(refine Ai rfl ?_;refine gA rfl ?_;first| refine gQ (AQ.GU [(59,Bt s),(60,Bo a),(61,Bo p)] ⟨⟨_,rfl,.AD rfl⟩,⟨_,rfl,Hz (k:=5) rfl rfl rfl hl rfl rfl⟩,⟨_,rfl,.AD rfl⟩,trivial⟩ (fun Γ'=>AN rfl rfl rfl hvu rfl) (Fh _)) rfl ?_) |refine aU rfl ?_ |refine Aa ?_)
      ((refine aC rfl ?_ ?_<;>rintro⟨⟩);all_goals try (simp at _hb;done))
      (repeat first|refine tA rfl ?_ |refine s2 rfl fun _ _hb=>?_|(refine Ai rfl ?_;refine gA rfl ?_;first| refine gQ (AQ.GU [(68,Bt t),(69,Bo a)] ⟨⟨_,rfl,.AD rfl⟩,⟨_,rfl,Hz (k:=5) rfl rfl rfl hl rfl rfl⟩,trivial⟩ (fun Γ'=>AN rfl rfl rfl hfv rfl) (Fh _)) rfl ?_) |refine aU rfl ?_ |refine Aa ?_)
      ((refine aC rfl ?_ ?_<;>rintro⟨⟩);all_goals try (simp at _hb;done))
      refine aK ?_
      (repeat first|refine tA rfl ?_ |refine s2 rfl fun _ _hb=>?_ |refine sP rfl (hrs) rfl ?_ |refine s3 rfl ?_ ?_<;>rintro rfl |refine aU rfl ?_ |refine Aa ?_)
      (repeat' first|refine tA rfl ?_ |refine s2 rfl fun _ _hb=>?_|(refine Ai rfl ?_;refine gA rfl ?_;first| refine gS (fun _ _=>hV.gR hb0 hokw rfl rfl) ?_) |refine aU rfl ?_ |refine Aa ?_|(refine aC rfl ?_ ?_<;>rintro⟨⟩));all_goals try contradiction
      (repeat first|refine tA rfl ?_ |refine sP rfl (hpv) rfl ?_|(refine Ai rfl ?_;refine gA rfl ?_;first| refine gS (fun _ _=>AU rfl rfl (by rfl) (by rfl)) ?_) |refine aU rfl ?_ |refine Aa ?_)
      exact aR ⟨_,rfl,[],P6 ⟨1,Hl,PX (Cg [s,t] p),(k:Int)+1⟩,[],⟨fun i hi=>absurd hi (Nat.not_lt_zero i),List.nodup_nil⟩,rfl,by (simp[cX,zC,hΓ,cN,Bp,Af,eC]),hvd⟩
     ·have hb0:LS ⟨s,p,al⟩ w=true:=by rcases hb with hb|hb;cases hb;exact hb
      rcases hc with ⟨hst,hlt2⟩|⟨hst,htb,hk,hv⟩
      ·rw [hst] at hls
       generalize BO s p al (BH s t p al k)=a at *
       (repeat first|refine tA rfl ?_ |refine s2 rfl fun _ _hb=>?_|(refine Ai rfl ?_;refine gA rfl ?_;first| refine gQ (AQ.GU [(59,Bt s),(60,Bo a),(61,Bo p)] ⟨⟨_,rfl,.AD rfl⟩,⟨_,rfl,Hz (k:=5) rfl rfl rfl hl rfl rfl⟩,⟨_,rfl,.AD rfl⟩,trivial⟩ (fun Γ'=>AN rfl rfl rfl hvu rfl) (Fh _)) rfl ?_) |refine aU rfl ?_ |refine Aa ?_)
       ((refine aC rfl ?_ ?_<;>rintro⟨⟩);all_goals try (simp at _hb;done))
       (repeat first|refine tA rfl ?_ |refine s2 rfl fun _ _hb=>?_|(refine Ai rfl ?_;refine gA rfl ?_;first| refine gQ (AQ.GU [(68,Bt t),(69,Bo a)] ⟨⟨_,rfl,.AD rfl⟩,⟨_,rfl,Hz (k:=5) rfl rfl rfl hl rfl rfl⟩,trivial⟩ (fun Γ'=>AN rfl rfl rfl hfv rfl) (Fh _)) rfl ?_) |refine aU rfl ?_ |refine Aa ?_)
       ((refine aC rfl ?_ ?_<;>rintro⟨⟩);all_goals try (simp at _hb;done))
       refine aK ?_
       (repeat first|refine tA rfl ?_ |refine s2 rfl fun _ _hb=>?_ |refine sP rfl (hrs) rfl ?_ |refine s3 rfl ?_ ?_<;>rintro rfl |refine aU rfl ?_ |refine Aa ?_)
       (repeat' first|refine tA rfl ?_ |refine s2 rfl fun _ _hb=>?_|(refine Ai rfl ?_;refine gA rfl ?_;first| refine gS (fun _ _=>hV.gR hb0 hokw rfl rfl) ?_) |refine aU rfl ?_ |refine Aa ?_|(refine aC rfl ?_ ?_<;>rintro⟨⟩));all_goals try contradiction
       refine aK ?_
       (repeat first|(refine sA rfl ?_ ?_;first|exact tI|omega)|(refine Ai rfl ?_;refine gA rfl ?_;first| refine gS (fun _ _=>AN rfl rfl (by simp [E.BW,C.BW,C.C6,hV.BW]) (hls) rfl) ?_) |refine aU rfl ?_ |refine Aa ?_)
       refine⟨⟨k+1,by omega,by omega⟩,by dsimp only;(omega),[0,1,2],?_⟩
       simp[cX,zC,hΓ,cN,hcr,hlt2]
      ·rw [hst] at hls
       generalize BO s p al (BH s t p al k)=a at *
       (repeat first|refine tA rfl ?_ |refine s2 rfl fun _ _hb=>?_|(refine Ai rfl ?_;refine gA rfl ?_;first| refine gQ (AQ.GU [(59,Bt s),(60,Bo a),(61,Bo p)] ⟨⟨_,rfl,.AD rfl⟩,⟨_,rfl,Hz (k:=5) rfl rfl rfl hl rfl rfl⟩,⟨_,rfl,.AD rfl⟩,trivial⟩ (fun Γ'=>AN rfl rfl rfl hvu rfl) (Fh _)) rfl ?_) |refine aU rfl ?_ |refine Aa ?_)
       ((refine aC rfl ?_ ?_<;>rintro⟨⟩);all_goals try (simp at _hb;done))
       (repeat first|refine tA rfl ?_ |refine s2 rfl fun _ _hb=>?_|(refine Ai rfl ?_;refine gA rfl ?_;first| refine gQ (AQ.GU [(68,Bt t),(69,Bo a)] ⟨⟨_,rfl,.AD rfl⟩,⟨_,rfl,Hz (k:=5) rfl rfl rfl hl rfl rfl⟩,trivial⟩ (fun Γ'=>AN rfl rfl rfl hfv rfl) (Fh _)) rfl ?_) |refine aU rfl ?_ |refine Aa ?_)
       ((refine aC rfl ?_ ?_<;>rintro⟨⟩);all_goals try (simp at _hb;done))
       refine aK ?_
       (repeat first|refine tA rfl ?_ |refine s2 rfl fun _ _hb=>?_ |refine sP rfl (hrs) rfl ?_ |refine s3 rfl ?_ ?_<;>rintro rfl |refine aU rfl ?_ |refine Aa ?_)
       (repeat' first|refine tA rfl ?_ |refine s2 rfl fun _ _hb=>?_|(refine Ai rfl ?_;refine gA rfl ?_;first| refine gS (fun _ _=>hV.gR hb0 hokw rfl rfl) ?_) |refine aU rfl ?_ |refine Aa ?_|(refine aC rfl ?_ ?_<;>rintro⟨⟩));all_goals try contradiction
       refine aK ?_
       (repeat first|(refine sA rfl ?_ ?_;first|exact tI|omega)|(refine Ai rfl ?_;refine gA rfl ?_;first| refine gS (fun _ _=>AN rfl rfl (by simp [E.BW,C.BW,C.C6,hV.BW]) (hls) rfl) ?_) |refine aU rfl ?_ |refine Aa ?_)
       refine⟨⟨k+1,by omega,fun _=>hv⟩,by dsimp only;(omega),[0,1,2],?_⟩
       simp[cX,zC,hΓ,cN,hcr,htb,decide_eq_false (show ¬k+1 < (BX s t p al).length by omega)]
  ·obtain rfl:k=(BX s t p al).length:=by omega
   have hv:=hk2 rfl
   simp only [decide_eq_false hlt]
   (repeat first|refine tA rfl ?_ |refine s2 rfl fun _ _hb=>?_ |refine aU rfl ?_ |refine Aa ?_)
   ((refine aC rfl ?_ ?_<;>rintro⟨⟩);all_goals try (simp at _hb;done))
   (repeat first|(refine sA rfl ?_ ?_;first|exact tI|omega)|(refine Ai rfl ?_;refine gA rfl ?_;first| refine gS (fun _ _=>AU rfl rfl (by rfl) (by rfl)) ?_) |refine aU rfl ?_ |refine Aa ?_)
   exact aR ⟨_,rfl,[],P6 ⟨2,Hl,[],((BX s t p al).length:Int)+1 - 1⟩,[],⟨fun i hi=>absurd hi (Nat.not_lt_zero i),List.nodup_nil⟩,rfl,by (simp[cX,zC,hΓ,cN,Bp,Af,eC]),by rw [Int.add_sub_cancel];exact hvd _ hv rfl⟩
theorem Vx{s t:Sys}{p:AZ}(h:Bz s p t < 0)(hes:s.es.length≤1048576):AG Tryz.prog ⟨tabs,none⟩ 32 0 [] 0 [Bt s,Bt t,Bo p,.o (.d (.v .nilFunc))] (Od (C8 s t p)):=by
 have h1:=JP (TB:=⟨tabs,none⟩) s p t hes
 unfold Vt at h1
 rw [if_pos h] at h1
 rw [Tj h]
 refine AG.A1 (AG.Ql (m:=0) (Nat.le_of_ble_eq_true rfl) Tryz.func32 rfl (by kernel_rfl) (Nat.le_of_ble_eq_true rfl) ?_);intro Γ hΓ
 (repeat first|refine tA rfl ?_ |refine s2 rfl fun _ _hb=>?_ |refine sP rfl (h1) rfl ?_ |refine aU rfl ?_ |refine Aa ?_)
 ((refine aC rfl ?_ ?_<;>rintro⟨⟩);all_goals try (simp at _hb;done))
 (repeat first|refine tA rfl ?_|(refine Ai rfl ?_;refine gA rfl ?_;first| refine gS (fun _ _=>AU rfl rfl (by rfl) (by rfl)) ?_) |refine aU rfl ?_ |refine Aa ?_)
 exact aR ⟨_,rfl,[],P6 ⟨3,Hl,[],0⟩,[],⟨fun i hi=>absurd hi (Nat.not_lt_zero i),List.nodup_nil⟩,rfl,by (simp[cX,zC,hΓ,cN,Bp,Af,eC]),.inl ⟨rfl,rfl,rfl,rfl⟩⟩
theorem Gu(s t:Sys)(p:AZ)(hes:s.es.length≤1048576):AG Tryz.prog ⟨tabs,none⟩ 10 0 [] 0 [Bt s,Bt t,Bo p] (Od (C8 s t p)):=by
 have h0:AG Tryz.prog ⟨tabs,none⟩ 32 0 [] 0 [Bt s,Bt t,Bo p,.o (.d (.v .nilFunc))] (Od (C8 s t p)):=by
  by_cases h:Bz s p t < 0
  ·exact Vx h hes
  ·exact Xl (HD h) hes
 generalize C8 s t p=v at *
 refine AG.A1 (AG.Ql (m:=0) (Nat.le_of_ble_eq_true rfl) Tryz.func10 rfl (by kernel_rfl) (Nat.le_of_ble_eq_true rfl) ?_);intro Γ hΓ
 (repeat first|refine tA rfl ?_ |refine aU rfl ?_ |refine Aa ?_)
 (refine pW rfl ?_ rfl (by rfl);refine CA [] rfl rfl 0 h0 (by decide) ⟨rfl,by decide,by decide⟩ rfl trivial ?_;rintro x0 σ1 nx1 (⟨ha,rfl,rfl,rfl⟩|⟨l,hl,rfl,rfl,rfl⟩) _)
 ·(repeat first|refine tA rfl ?_ |refine Aa ?_)
  exact aR ⟨_,rfl,[],P6 v,[],⟨fun i hi=>absurd hi (Nat.not_lt_zero i),List.nodup_nil⟩,rfl,by (simp[cX,zC,hΓ,cN,Bp,Af,eC]),.inl ⟨ha,rfl,rfl,rfl⟩⟩
 ·(repeat first|refine tA rfl ?_ |refine Aa ?_)
  exact aR ⟨_,rfl,[1,2,3],.a [.d (iD v.code),.d (iD v.a.al),.arr 0 1 0 l.length,.arr 1 1 0 v.a.ac.length,.d (tD v.tr),.d (iD v.rd)],[(0,.cells 62 1 (Be l)),(1,.cells 4 1 (v.a.ac.map AB)),(2,.sld 3 (sI l))],⟨fun i hi=>absurd hi (Nat.not_lt_zero i),by decide⟩,rfl,by (simp[cX,zC,hΓ,cN,Bp,Af,eC]),.inr ⟨l,hl,rfl,rfl,rfl⟩⟩
theorem KP(s t:Sys)(p:AZ)(hes:s.es.length≤1048576):Pure Tryz.prog ⟨tabs,none⟩ 10 [Bt s,Bt t,Bo p] (P6 (C8 s t p)):=by
 refine(Gu s t p hes).toPure fun x σ nx hx=>?_
 generalize C8 s t p=v at *
 rcases hx with ⟨_,rfl,rfl,rfl⟩|⟨l,hl,rfl,rfl,rfl⟩
 ·exact⟨[],.inl (.AD rfl)⟩
 ·refine⟨[0,1,2],.inl (.a (ds:=Hg v) (.cons .d (.cons .d (.cons ?_ (.cons (.full rfl (by simp [Function.comp_def]) (by simp)) (.cons .d (.cons .d .nil)))))))⟩
  rw [←hl]
  exact .jw (s:=2) rfl rfl
end
end Go.Am
