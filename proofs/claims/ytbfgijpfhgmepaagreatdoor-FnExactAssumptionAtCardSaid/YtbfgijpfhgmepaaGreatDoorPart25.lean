/-
  Verdicts of systems that are alike, plainly.
-/
import Derived.Test.YtbfgijpfhgmepaaGreatDoorPart24
import Derived.Test.YtbfgijpfhgmepaaGreatDoorPart5
import Derived.Test.YtbfgijpfhgmepaaGreatDoorPart23
import Derived.Test.YtbfgijpfhgmepaaGreatDoorPart16
import Derived.Test.YtbfgijpfhgmepaaGreatDoorPart18
import Derived.Test.YtbfgijpfhgmepaaGreatDoorPart14
import Derived.Test.YtbfgijpfhgmepaaGreatDoorPart17
import Derived.Test.YtbfgijpfhgmepaaGreatDoorPart22
import Derived.Test.YtbfgijpfhgmepaaGreatDoorPart21
import Derived.Test.YtbfgijpfhgmepaaGreatDoorPart12
set_option linter.constructorNameAsVariable false
set_option linter.unusedSectionVars false
set_option linter.unusedSimpArgs false
set_option linter.unusedVariables false
namespace Go.Am
open Go Go.Proofs
set_option maxHeartbeats 1000000
attribute [local irreducible] AS BT Lex Bc Au Spec
theorem I6{s t:Sys}{p:AU}(h:¬AL s p t < 0):FW s p t (AL s p t):=by
 have hv:(AR s && AN p && AR t)=true:=by
  unfold AL at h
  split at h
  ·assumption
  ·omega
 simp only [Bool.and_eq_true] at hv
 exact⟨hv.1.1,hv.1.2,hv.2,rfl⟩
abbrev nz:Sys:=⟨0,1,[]⟩
section
variable {t:Sys}{p:AU}{al:Int}(hI:FW nz p t al)
include hI
end
end Go.Am
namespace Go.Am
open Go
set_option linter.unusedVariables false
variable {P:Program}{TB:Bt}{Γ:Ctx}{d:Option Tmp}{ty:TypeId}{pos:String}{af:Array Edge}{g:Option (Nat×Bool)}{f:Env}{σ:Ab}{nx:Nat}
variable {K:E→Ab→Nat→Prop}
end Go.Am
namespace Go.Am
open Go Go.Proofs
set_option maxHeartbeats 1000000
attribute [local irreducible] AS BT Lex Bc Au Spec
variable {TB:Bt}
end Go.Am
namespace Go.Am
set_option linter.unusedVariables false
set_option linter.unusedSectionVars false
section
variable {α β:Type}[DecidableEq α][DecidableEq β]
end
def mC(a:AU)(q r:Int):Prop:=∀w,AK (AZ a.al) w→VU a (Fh a q w)=VU a (Fh a r w)
structure nC (a:AU) (ks:List (List Int)):Prop where
 len:ks.length=a.nx.length
 ac:∀q r:Nat,q < a.nx.length→r < a.nx.length→ks[q]? = ks[r]?→VU a q=VU a r
 go:∀q r:Nat,q < a.nx.length→r < a.nx.length→ks[q]? = ks[r]?→∀l∈Ac a.al,ks[(Cy a q l).toNat]? = ks[(Cy a r l).toNat]?
 res:∀q r:Nat,q < a.nx.length→r < a.nx.length→mC a q r→ks[q]? = ks[r]?
structure jN (a:AU):Prop where
 b:gX a
 n1:1≤a.nx.length
 ac:a.ac.length=a.nx.length
section
variable {a:AU}(h:jN a)
include h
end
structure mB (a m:AU):Prop where
 al:m.al=a.al
 g:jN m
 n2:m.nx.length≤a.nx.length
 lang:∀w,AK (AZ a.al) w→LA m w=LA a w
 rc:∀i:Nat,i < m.nx.length→∃w,AK (AZ a.al) w∧Fh m 0 w=i
 ds:∀i j:Nat,i < m.nx.length→j < m.nx.length→mC m i j→i=j
end Go.Am
namespace Go.Am
open Go Go.Proofs
set_option maxHeartbeats 1000000
attribute [local irreducible] AS BT Lex Bc Au Spec
variable {TB:Bt}
end Go.Am
namespace Go.Am
open Go Go.Proofs
set_option maxHeartbeats 1000000
attribute [local irreducible] AS BT Lex Bc Au Spec
variable {tabs:List (Nat×Obj)}
theorem RJ{t:CD}:∀(u v:W) (F:PS),FK t F u=false→FK t F (u++v)=false
 | [],v,F,h=>by
  have h:(!Fb t F)=false:=h
  cases v with
  | nil=>exact h
  | cons c v=>show (!Fb t F && _)=false;rw [h];rfl
 | c :: u,v,F,h=>by
  have h:(!Fb t F && FK t (Dy t ((c.toNat:Int) - 97) F) u)=false:=h
  show (!Fb t F && FK t (Dy t ((c.toNat:Int) - 97) F) (u++v))=false
  cases hb:(!Fb t F)
  ·rfl
  ·rw [hb] at h
   exact RJ u v _ h
theorem TL{L:W→Bool}{ls:List UInt8}{t:AW}(h:BL L ls t)(hp:∀u v,L u=false→L (u++v)=false):∀(w:W) (i:Nat) (r:W),t.rows[i]? = some r→AK ls w→L r=false→L (t.rows.getD (runM L t i w) [])=false
 | [],i,r,hi,_,hr=>by show L (t.rows.getD i [])=false;rw [N8 hi];exact hr
 | c :: w,i,r,hi,hw,hr=>by
  obtain⟨s,hs,hms⟩:=h.idx hi (hw c (by simp))
  have h9:=UE.1 hms [] (List.mem_of_getElem? h.c0)
  rw [List.append_nil,List.append_nil] at h9
  have e:runM L t i (c::w)=runM L t (CX L t (r++[c])) w:=by
   show runM L t (CX L t (t.rows.getD i []++[c])) w=_
   rw [N8 hi]
  rw [e]
  exact TL h hp w _ s hs (fun d hd=>hw d (by simp [hd])) (by rw [h9];exact hp r [c] hr)
theorem dR{te:Ew}{x:AW}{a:AU}(ha:Sf te x=some a)(hk:te.kn=false):∀u v,AK (AZ a.al) u→AK (AZ a.al) v→LA a u=false→LA a (u++v)=false:=by
 obtain⟨hv,ho,hcl,rfl,hok,h1,h2,h3⟩:=jZ ha
 have hL:∀u v,BV te u=false→BV te (u++v)=false:=fun u v h=>by
  unfold BV at *
  rw [if_neg (by rw [hk];exact Bool.false_ne_true)] at *
  exact RJ u v _ h
 intro u v hu hv h
 have h0:=(List.getElem?_eq_some_iff.1 hcl.r0).1
 rw [KC hcl hu] at h
 rw [KC hcl (SU hu hv)]
 unfold LZ at *
 rw [Px]
 obtain⟨r,hr⟩:=get_some (hcl.run u 0 hu h0)
 rw [N8 hr] at h
 exact TL hcl hL v _ r hr hv h
end Go.Am
namespace Go.Am
open Go Go.Proofs
set_option maxHeartbeats 1000000
attribute [local irreducible] AS BT Lex Bc Au Spec
set_option linter.unusedSectionVars false
section
variable {s t s' t':Sys}{p p':AU}{al:Int}(hI:FW s p t al)(hI':FW s' p' t' al)(hL:TC (LS ⟨s',p',al⟩) (LS ⟨s,p,al⟩) al)
include hI hI' hL
end
theorem Tg{s t:Sys}{p:AU}{al:Int}(hI:FW s p t al){x:AW}{r:Nat}(hx:Hq s p al x r){w:W}{b:Bool}(h:Gf s t p al (BK s p al x)=some (w,b)):AK (AZ al) w:=by
 obtain⟨h1,h2,_⟩:=J8 hI hx
 unfold Gf at h
 split at h
 ·rename_i u hu
  injection h with h;injection h with h h5
  subst h
  exact er (XB hI h1 h2 hu).1
 ·split at h
  ·rename_i v hv
   injection h with h;injection h with h h5
   subst h
   have:=(Wn hv).1
   rw [h2] at this
   exact er this
  ·cases h
end Go.Am
namespace Go.Am
open Go Go.Proofs
set_option linter.unusedVariables false
theorem VA{s t:Sys}{p:AU}{al:Int}:∀(k:Nat) (x:AW),(EA s t p al k x).length≤k+1
 | 0,x=>by simp [EA]
 | k+1,x=>by
  simp only [EA]
  cases HM s t p al x with
  | none=>simp
  | some y=>have:=VA (s:=s) (t:=t) (p:=p) (al:=al) k y;simp only [List.length_cons];omega
def TT(s t:Sys)(p:AU)(al:Int)(x:AW)(v:W):Prop:=MV (AZ al) x v∨∃w b,Gf s t p al (BK s p al x)=some (w,b)∧(v=w∨XQ (LS ⟨s,p,al⟩) (AZ al) x w v)
theorem YZ{s t:Sys}{p:AU}{al:Int}(h:A9 ⟨s,p,al⟩=true){x:AW}(hx:x∈Bn s t p al):∃r,Hq s p al x r:=by
 obtain⟨i,hi⟩:=List.mem_iff_getElem?.1 hx
 exact⟨_,PN 11 (Ts h).2 i x hi⟩
theorem Tt{s:Sys}{p:AU}{al:Int}{x:AW}{r:Nat}(hx:Hq s p al x r):GY al 20000 x:=by
 obtain⟨_,_,_,hsh,_⟩:=Dp hx.v
 have:=hsh.bd
 rwa [Fm] at this
section
variable {s t:Sys}{p:AU}{al:Int}(hI:FW s p t al)(h:A9 ⟨s,p,al⟩=true)
include hI h
theorem Zl{x:AW}(hx:x∈Bn s t p al):EB 288238 (TT s t p al x):=by
 obtain⟨r,hr⟩:=YZ h hx
 have hb:=Tt hr
 refine((Mi hb).or (b:=286474) ?_).sub (b:=288238) (fun v hv=>hv) (by omega)
 cases hf:Gf s t p al (BK s p al x) with
 | none=>exact .none fun v ⟨w,b,he,_⟩=>by cases he
 | some wb=>
  obtain⟨w,b⟩:=wb
  have hon:=Tg hI hr hf
  have hln:=Oj hf
  refine((EB.map (n:=1) (p:=fun v=>v=w) (fun _:Unit=>w) [()] (by simp) fun v hv=>⟨(),by simp,hv⟩).or (ZC (L:=LS ⟨s,p,al⟩) hb hon (by omega))).sub (b:=286474) (fun v ⟨w',b',he,hv⟩=>?_) (by omega)
  injection he with he
  injection he with he _
  subst he
  exact hv
theorem eO{x:AW}(hx:x∈Bn s t p al)(v:W)(hv:TT s t p al x v):okB al v:=by
 obtain⟨r,hr⟩:=YZ h hx
 have hb:=Tt hr
 rcases hv with hv|⟨w,b,hf,hv⟩
 ·exact hb.on (Jb al) (by omega) v hv
 ·have hon:=Tg hI hr hf
  have hln:=Oj hf
  rcases hv with rfl|hv
  ·exact⟨hon,by omega⟩
  ·rcases hv with hv|hv|⟨z,hz,u,hu,y,hy,hv⟩
   ·exact hb.on (Jb al) (by omega) v hv
   ·exact(hb.mono (by omega)).nv (Jb al) hon (by omega) v hv
   ·obtain⟨q,_,rfl⟩:=Iz hz
    exact(Sb hb (fun c hc=>hon c (by simp [hc])) (by simp at hln;omega) hu).mQ (Jb al) (by omega) y hy v hv
theorem eM:∃ok:W→Prop,(∀w,ok w→jK al w)∧Tu (Et s p al) ok∧(∀y∈EI (LS ⟨s,p,al⟩) (AZ al) 13 Bl,IN ok (AZ al) y)∧
 ∀x∈Bn s t p al,IN ok (AZ al) x∧∀w b,Gf s t p al (BK s p al x)=some (w,b)→ok w∧∀v,XQ (LS ⟨s,p,al⟩) (AZ al) x w v→ok v:=by
 have hf1:=QN (L:=LS ⟨s,p,al⟩) (JH al)
 have hf2:EB (12*288238) (fun v=>∃x∈Bn s t p al,TT s t p al x v):=EB.ex (n:=12) (b:=288238) (q:=fun x v=>TT s t p al x v) (Bn s t p al) (VA 11 _) (fun x hx=>Zl hI h hx) fun w hw=>hw
 have hf:=hf1.or hf2
 have hall:∀w,((∃y∈EI (LS ⟨s,p,al⟩) (AZ al) 13 Bl,MV (AZ al) y w)∨∃x∈Bn s t p al,TT s t p al x w)→okB al w:=fun w hw=>by
  rcases hw with ⟨y,hy,hv⟩|⟨x,hx,hv⟩
  ·exact(JH al).mQ (Jb al) (by omega) y hy w hv
  ·exact eO hI h hx w hv
 obtain⟨h1,h2⟩:=gu (te:=Et s p al) hf (by omega) (fun w hw=>by rw [Fm];exact hall w hw)
 rw [Fm] at h1
 exact⟨_,h1,h2,fun y hy v hv=>.inl ⟨y,hy,hv⟩,fun x hx=>⟨fun v hv=>.inr ⟨x,hx,.inl hv⟩,fun w b hr=>⟨.inr ⟨x,hx,.inr ⟨w,b,hr,.inl rfl⟩⟩,fun v hv=>.inr ⟨x,hx,.inr ⟨w,b,hr,.inr hv⟩⟩⟩⟩⟩
end
end Go.Am
namespace Go.Am
open Go Go.Proofs
set_option maxHeartbeats 1000000
attribute [local irreducible] AS BT Lex Bc Au Spec
noncomputable def BC(s t:Sys)(p:AU)(al:Int)(k:Nat):AW:=(Bn s t p al).getD k ⟨[],[]⟩
abbrev Nz(v:Vd):List D:=[iD v.code,iD v.a.al,CR v.a.nx,E4 v.a.ac,tD v.tr,iD v.rd]
abbrev gJ(v:Vd):E:=.a [.d (iD v.code),.d (iD v.a.al),.d (CR v.a.nx),.d (E4 v.a.ac),.d (tD v.tr),.d (iD v.rd)]
section
variable {s t:Sys}{p:AU}{al:Int}(hI:FW s p t al)
include hI
theorem Za{x:AW}{r:Nat}(hx:Hq s p al x r){w:W}(hw:AK (AZ al) w)(hl:w.length≤4000):Lz (Et s p al) x w=GS (LS ⟨s,p,al⟩) (AZ al) x w:=by
 have hc:(CG (Et s p al) && Bu (BV (Et s p al)) (AY (Et s p al)) x)=true:=by
  rw [QJ hx.v,Ny,Fm,hx.o];rfl
 have hlw:Ge (AY (Et s p al)) w=true:=by rw [Fm];exact Yw (QT hI) hw hl
 unfold Lz
 rw [hc,hlw,Bool.and_self,if_pos rfl,Ny,Fm]
theorem cS{x:AW}{r:Nat}(hx:Hq s p al x r){w:W}{b:Bool}(h:Gf s t p al (BK s p al x)=some (w,b))(hb:(b || LS ⟨s,p,al⟩ w)=true):HM s t p al x=GS (LS ⟨s,p,al⟩) (AZ al) x w:=by
 unfold HM
 rw [h]
 simp only [hb,if_true]
 exact Za hI hx (Tg hI hx h) (Oj h)
omit hI in
theorem GU{k:Nat}(h:k < (Bn s t p al).length):(Bn s t p al)[k]? = some (BC s t p al k):=by
 unfold BC
 rw [List.getD_eq_getElem?_getD,List.getElem?_eq_getElem h];rfl
theorem PX{k:Nat}(h:k+1=(Bn s t p al).length):GX s t p=O2 s t p al (BC s t p al k) (k+1):=by
 unfold GX
 rw [if_neg (Yt hI),←hI.hal,←h]
 have e:(Bn s t p al).getLastD Bl=BC s t p al k:=by
  rw [List.getLastD_eq_getLast?,List.getLast?_eq_getElem?,←h,Nat.add_sub_cancel,GU (by omega)];rfl
 rw [e]
theorem Lq{k:Nat}(h:k < (Bn s t p al).length):Hq s p al (BC s t p al k) (k+1)∧
    ((Gf s t p al (BK s p al (BC s t p al k))=none∧GX s t p=⟨0,BK s p al (BC s t p al k),[],(k:Int)+1⟩∧k+1=(Bn s t p al).length)∨
      ∃ w b,Gf s t p al (BK s p al (BC s t p al k))=some (w,b)∧AK (AZ al) w∧w.length≤4000∧
        ((b = false∧LS ⟨s,p,al⟩ w=false∧GX s t p=⟨1,G0,J7 (BJ [s,t] p),(k:Int)+1⟩∧k+1=(Bn s t p al).length)∨
         ((b=true∨LS ⟨s,p,al⟩ w=true)∧((GS (LS ⟨s,p,al⟩) (AZ al) (BC s t p al k) w=some (BC s t p al (k+1))∧k+1 < (Bn s t p al).length)∨
           (GS (LS ⟨s,p,al⟩) (AZ al) (BC s t p al k) w=none∧BC s t p al (k+1)=⟨[],[]⟩∧k+1=(Bn s t p al).length∧GX s t p=⟨2,G0,[],(k:Int)+1⟩))))):=by
  obtain⟨hx,hn⟩:=run_get hI (GU h)
  refine⟨hx,?_⟩
  have hc1:((k+1:Nat):Int)=(k:Int)+1:=by omega
  have hend:HM s t p al (BC s t p al k)=none→k+1=(Bn s t p al).length:=fun e=>by
    rw [e] at hn
    have:=List.getElem?_eq_none_iff.1 hn
    omega
  cases hr:Gf s t p al (BK s p al (BC s t p al k)) with
  | none=>
    have e:HM s t p al (BC s t p al k)=none:=by unfold HM;rw [hr]
    have e2:=PX hI (hend e)
    unfold O2 at e2
    rw [hr,hc1] at e2
    exact .inl ⟨rfl,e2,hend e⟩
  | some wb=>
    obtain⟨w,b⟩:=wb
    refine .inr ⟨w,b,rfl,Tg hI hx hr,Oj hr,?_⟩
    by_cases hb:(b || LS ⟨s,p,al⟩ w)=true
    · refine .inr ⟨by simpa using hb,?_⟩
      have e:=cS hI hx hr hb
      cases hst:GS (LS ⟨s,p,al⟩) (AZ al) (BC s t p al k) w with
      | some y=>
        rw [hst] at e
        rw [e] at hn
        have hlt:=(List.getElem?_eq_some_iff.1 hn).1
        refine .inl ⟨?_,hlt⟩
        rw [GU hlt] at hn
        exact hn.symm
      | none=>
        rw [hst] at e
        have hk:=hend e
        have e2:=PX hI hk
        unfold O2 at e2
        rw [hr] at e2
        simp only [hb,if_true,hc1] at e2
        refine .inr ⟨rfl,?_,hk,e2⟩
        unfold BC
        rw [List.getD_eq_getElem?_getD,List.getElem?_eq_none (by omega)];rfl
    · have e:HM s t p al (BC s t p al k)=none:=by unfold HM;rw [hr];simp only [hb];rfl
      have hk:=hend e
      have e2:=PX hI hk
      unfold O2 at e2
      rw [hr] at e2
      simp only [hb,hc1] at e2
      have hb:b=false∧LS ⟨s,p,al⟩ w=false:=by simpa using hb
      exact .inl ⟨hb.1,hb.2,e2,hk⟩
theorem UY{a:AU}{w:W}{b:Bool}(h:Gf s t p al a=some (w,b)):(∃u,b=true∧DN s a p=some u∧IM al (Dk u)=w∧IL u∧(Dk u).length≤2304)∨(∃u,b=false∧DN s a p=none∧BJ [t] a=some u∧IM al (Dk u)=w∧IL u∧(Dk u).length≤192):=by
 unfold Gf at h
 split at h
 ·rename_i u hu
  injection h with h;injection h with h h5
  obtain⟨g1,g2⟩:=aT hu
  exact .inl ⟨u,h5.symm,hu,(Pt g1).trans h,g1,g2⟩
 ·rename_i hu
  split at h
  ·rename_i v hv
   injection h with h;injection h with h h5
   obtain⟨g1,g2⟩:=aQ hv
   exact .inr ⟨v,h5.symm,hu,hv,(Pt g1).trans h,g1,g2⟩
  ·cases h
omit hI in
theorem UZ{a:AU}(h:Gf s t p al a=none):DN s a p=none∧BJ [t] a=none:=by
 unfold Gf at h
 split at h
 ·cases h
 ·rename_i hu
  split at h
  ·cases h
  ·rename_i hv
   exact⟨hu,hv⟩
theorem ea:SL (Et s p al)=some (BC s t p al 0):=by
 obtain⟨h1,_⟩:=Ts (s:=s) (p:=p) (al:=al) (Gd hI)
 have h2:=GU (s:=s) (t:=t) (p:=p) (al:=al) (k:=0) (by have:=Lt hI;omega)
 rw [h1]
 unfold Bn at h2
 simp only [EA] at h2
 simpa using h2
end
end Go.Am
namespace Go.Am
set_option linter.unusedVariables false
end Go.Am
namespace Go.Am
open Go Go.Proofs
set_option maxHeartbeats 1000000
attribute [local irreducible] AS BT Lex Bc Au Spec
section
variable {s t:Sys}{p:AU}{al:Int}(hI:FW s p t al)
include hI
theorem WZ:(GX s t p).rd=(Bn s t p al).length:=by
 obtain⟨x,_,_,hc⟩:=aP hI
 rcases hc with ⟨e,_⟩|⟨e,_⟩|⟨e,_⟩<;>rw [e]
end
noncomputable def Cj(s t:Sys)(p:AU)(n:Int):Option AU:=if ¬AL s p t < 0∧1≤n∧n≤((Bn s t p (AL s p t)).length:Int) then some (BK s p (AL s p t) (BC s t p (AL s p t) (n.toNat - 1))) else none
theorem bE{s t:Sys}{p a:AU}{n:Int}(h:Cj s t p n=some a):∃k:Nat,n=((k+1:Nat):Int)∧¬AL s p t < 0∧k < (Bn s t p (AL s p t)).length∧a=BK s p (AL s p t) (BC s t p (AL s p t) k):=by
 unfold Cj at h
 split at h
 ·rename_i hc
  injection h with h
  exact⟨n.toNat - 1,by omega,hc.1,by omega,h.symm⟩
 ·cases h
theorem XS{s t:Sys}{p:AU}{n:Int}(hi:AL s p t < 0):Cj s t p n=none:=by
 unfold Cj
 rw [if_neg fun h=>h.1 hi]
theorem TU{s t:Sys}{p:AU}{al:Int}(hI:FW s p t al){x:AW}{r:Nat}(hx:Hq s p al x r):Sf (Et s p al) x=some (BK s p al x):=by
 unfold Sf
 rw [QJ hx.v,Ny,Fm,hx.o,if_pos (by rfl:(none:Option W).isNone=true)];rfl
theorem Zm{s t:Sys}{p a:AU}{n:Int}(h:Cj s t p n=some a):AN a=true∧a.al=AL s p t∧(∀u v,AK (AZ a.al) u→AK (AZ a.al) v→LA a u=false→LA a (u++v)=false)∧
 (1 < n→∃b,Cj s t p (n - 1)=some b∧b.nx.length < a.nx.length)∧((Ih s t p a=0∧n=(GX s t p).rd∧(GX s t p).code=0)∨Ih s t p a=3∨Ih s t p a=4)∧
 (n=(GX s t p).rd→(GX s t p).code=0→a=(GX s t p).a):=by
 obtain⟨k,rfl,hi,hk,rfl⟩:=bE h
 have hI:=I6 hi
 obtain⟨hx,hc⟩:=Lq hI hk
 obtain⟨h1,h2,h3,h4⟩:=J8 hI hx
 have hrd:=WZ hI
 refine⟨h1,h2,fun u v hu hv hl=>dR (TU hI hx) rfl u v hu hv hl,fun hn=>?_,?_,fun hn hcode=>?_⟩
 ·obtain⟨j,rfl⟩:∃j,k=j+1:=⟨k - 1,by omega⟩
  obtain⟨hy,_⟩:=Lq hI (k:=j) (by omega)
  obtain⟨_,_,h5,_⟩:=J8 hI hy
  refine⟨BK s p (AL s p t) (BC s t p (AL s p t) j),?_,?_⟩
  ·unfold Cj
   rw [if_pos ⟨hi,by omega,by omega⟩]
   congr 3
   omega
  ·have hg:=run_get hI (GU (s:=s) (t:=t) (p:=p) (al:=AL s p t) (k:=j) (by omega))
   rw [GU hk] at hg
   have:=(SQ hy hg.2.symm).2
   omega
 ·obtain⟨hf1,hf2⟩:=QM hI hx
  rcases hc with ⟨c1,c2,c3⟩|⟨w,b,c1,_⟩
  ·exact .inl ⟨hf1.1 c1,by rw [hrd];omega,by rw [c2]⟩
  ·rcases hf2 with hf2|hf2
   ·rw [hf1.2 hf2] at c1;cases c1
   ·exact .inr hf2
 ·have hk1:k+1=(Bn s t p (AL s p t)).length:=by omega
  rcases hc with ⟨c1,c2,c3⟩|⟨w,b,c1,_,_,hc⟩
  ·rw [c2]
  ·rcases hc with ⟨_,_,c2,_⟩|⟨_,⟨_,c3⟩|⟨_,_,_,c2⟩⟩
   ·rw [c2] at hcode;cases hcode
   ·omega
   ·rw [c2] at hcode;cases hcode
end Go.Am
namespace Go.Am
open Go Go.Proofs
set_option maxHeartbeats 1000000
attribute [local irreducible] AS BT Lex Bc Au Spec
variable {TB:Bt}
theorem Zt(l:List Int)(h:l.length≤1048576):Spec Tryz.prog TB 151 [] 0 [Ag l] (fun x σ nx=>x=.o (.arr 0 1 0 l.length)∧nx=1∧σ=[(0,.cells 3 1 (l.map Al))]):=by
 refine eN Tryz.func151 rfl (by kernel_rfl) rfl ?_;intro Γ hΓ
 (repeat first |refine sN rfl ?_ |((first|refine sM rfl ?_ ?_|refine s4 rfl ‹_› rfl ?_ ?_);first|exact tI|omega|simp only[oZ] at *;omega) |refine s2 rfl fun _ _hb=>?_ |refine s3 rfl ?_ ?_<;>rintro rfl |refine aU rfl ?_ |refine Aa ?_ |refine rE (by kernel_rfl) ?_)
 (refine Ai rfl ?_;refine Bs (fun _ _=>Br rfl) rfl ?_)
 (repeat first |refine sN rfl ?_ |((first|refine sM rfl ?_ ?_|refine s4 rfl ‹_› rfl ?_ ?_);first|exact tI|omega|simp only[oZ] at *;omega) |refine s2 rfl fun _ _hb=>?_ |refine s3 rfl ?_ ?_<;>rintro rfl |refine aU rfl ?_ |refine Aa ?_ |refine rE (by kernel_rfl) ?_)
 (refine pW rfl ?_ rfl (by rfl);refine Le rfl ?_;intro b0 hb0)
 (repeat first |refine sN rfl ?_ |((first|refine sM rfl ?_ ?_|refine s4 rfl ‹_› rfl ?_ ?_);first|exact tI|omega|simp only[oZ] at *;omega) |refine s2 rfl fun _ _hb=>?_ |refine s3 rfl ?_ ?_<;>rintro rfl |refine aU rfl ?_ |refine Aa ?_ |refine rE (by kernel_rfl) ?_)
 (refine aC rfl ?_ ?_<;>rintro⟨⟩)
 ·obtain rfl:l=[]:=by simpa using hb0 rfl
  (repeat first |refine sN rfl ?_ |((first|refine sM rfl ?_ ?_|refine s4 rfl ‹_› rfl ?_ ?_);first|exact tI|omega|simp only[oZ] at *;omega) |refine s2 rfl fun _ _hb=>?_ |refine s3 rfl ?_ ?_<;>rintro rfl |refine aU rfl ?_ |refine Aa ?_ |refine rE (by kernel_rfl) ?_)
  (refine pW rfl ?_ rfl (by rfl);refine Hk 1 3 ?_)
  (repeat first |refine sN rfl ?_ |((first|refine sM rfl ?_ ?_|refine s4 rfl ‹_› rfl ?_ ?_);first|exact tI|omega|simp only[oZ] at *;omega) |refine s2 rfl fun _ _hb=>?_ |refine s3 rfl ?_ ?_<;>rintro rfl |refine aU rfl ?_ |refine Aa ?_ |refine rE (by kernel_rfl) ?_)
  refine aR ⟨_,rfl,rfl,rfl,rfl⟩
 ·refine aK ?_
  (repeat first |refine sN rfl ?_ |((first|refine sM rfl ?_ ?_|refine s4 rfl ‹_› rfl ?_ ?_);first|exact tI|omega|simp only[oZ] at *;omega) |refine s2 rfl fun _ _hb=>?_ |refine s3 rfl ?_ ?_<;>rintro rfl |refine aU rfl ?_ |refine Aa ?_ |refine rE (by kernel_rfl) ?_)
  (refine pW rfl ?_ rfl (by rfl);refine BP rfl rfl rfl rfl (by simp) (by rfl) (by rfl) (by rfl) (by rfl) ?_)
  (repeat first |refine sN rfl ?_ |((first|refine sM rfl ?_ ?_|refine s4 rfl ‹_› rfl ?_ ?_);first|exact tI|omega|simp only[oZ] at *;omega) |refine s2 rfl fun _ _hb=>?_ |refine s3 rfl ?_ ?_<;>rintro rfl |refine aU rfl ?_ |refine Aa ?_ |refine rE (by kernel_rfl) ?_)
  (refine pW rfl ?_ rfl (by rfl);refine AH rfl rfl rfl (by first|(simp;done)|(simp;(first|omega|simp only[oZ] at *;omega))) rfl (by intro r hr;simp only [List.map_map,List.mem_map] at hr;obtain⟨_,_,rfl⟩:=hr;rfl) (by rfl) (Nat.le_of_ble_eq_true rfl) (by simp;omega) ?_)
  (repeat first |refine sN rfl ?_ |((first|refine sM rfl ?_ ?_|refine s4 rfl ‹_› rfl ?_ ?_);first|exact tI|omega|simp only[oZ] at *;omega) |refine s2 rfl fun _ _hb=>?_ |refine s3 rfl ?_ ?_<;>rintro rfl |refine aU rfl ?_ |refine Aa ?_ |refine rE (by kernel_rfl) ?_)
  refine Au.names [1] [(2,.o (.arr 0 1 0 l.length))] [(0,.cells 3 1 (l.map Al))] (by intro i hi;rw [hΓ] at hi;omega) (by simp) (by simp[cX,zC,hΓ]) (by simp[cX,zC,hΓ]) ?_
  refine aR ⟨_,rfl,rfl,rfl,rfl⟩
theorem Zr(l:List Bool)(h:l.length≤1048576):Spec Tryz.prog TB 150 [] 0 [EG l] (fun x σ nx=>x=.o (.arr 0 1 0 l.length)∧nx=1∧σ=[(0,.cells 4 1 (l.map Ax))]):=by
 refine eN Tryz.func150 rfl (by kernel_rfl) rfl ?_;intro Γ hΓ
 (repeat first |refine sN rfl ?_ |((first|refine sM rfl ?_ ?_|refine s4 rfl ‹_› rfl ?_ ?_);first|exact tI|omega|simp only[oZ] at *;omega) |refine s2 rfl fun _ _hb=>?_ |refine s3 rfl ?_ ?_<;>rintro rfl |refine aU rfl ?_ |refine Aa ?_ |refine rE (by kernel_rfl) ?_)
 (refine Ai rfl ?_;refine Bs (fun _ _=>Br rfl) rfl ?_)
 (repeat first |refine sN rfl ?_ |((first|refine sM rfl ?_ ?_|refine s4 rfl ‹_› rfl ?_ ?_);first|exact tI|omega|simp only[oZ] at *;omega) |refine s2 rfl fun _ _hb=>?_ |refine s3 rfl ?_ ?_<;>rintro rfl |refine aU rfl ?_ |refine Aa ?_ |refine rE (by kernel_rfl) ?_)
 (refine pW rfl ?_ rfl (by rfl);refine Le rfl ?_;intro b0 hb0)
 (repeat first |refine sN rfl ?_ |((first|refine sM rfl ?_ ?_|refine s4 rfl ‹_› rfl ?_ ?_);first|exact tI|omega|simp only[oZ] at *;omega) |refine s2 rfl fun _ _hb=>?_ |refine s3 rfl ?_ ?_<;>rintro rfl |refine aU rfl ?_ |refine Aa ?_ |refine rE (by kernel_rfl) ?_)
 (refine aC rfl ?_ ?_<;>rintro⟨⟩)
 ·obtain rfl:l=[]:=by simpa using hb0 rfl
  (repeat first |refine sN rfl ?_ |((first|refine sM rfl ?_ ?_|refine s4 rfl ‹_› rfl ?_ ?_);first|exact tI|omega|simp only[oZ] at *;omega) |refine s2 rfl fun _ _hb=>?_ |refine s3 rfl ?_ ?_<;>rintro rfl |refine aU rfl ?_ |refine Aa ?_ |refine rE (by kernel_rfl) ?_)
  (refine pW rfl ?_ rfl (by rfl);refine Hk 1 4 ?_)
  (repeat first |refine sN rfl ?_ |((first|refine sM rfl ?_ ?_|refine s4 rfl ‹_› rfl ?_ ?_);first|exact tI|omega|simp only[oZ] at *;omega) |refine s2 rfl fun _ _hb=>?_ |refine s3 rfl ?_ ?_<;>rintro rfl |refine aU rfl ?_ |refine Aa ?_ |refine rE (by kernel_rfl) ?_)
  refine aR ⟨_,rfl,rfl,rfl,rfl⟩
 ·refine aK ?_
  (repeat first |refine sN rfl ?_ |((first|refine sM rfl ?_ ?_|refine s4 rfl ‹_› rfl ?_ ?_);first|exact tI|omega|simp only[oZ] at *;omega) |refine s2 rfl fun _ _hb=>?_ |refine s3 rfl ?_ ?_<;>rintro rfl |refine aU rfl ?_ |refine Aa ?_ |refine rE (by kernel_rfl) ?_)
  (refine pW rfl ?_ rfl (by rfl);refine BP rfl rfl rfl rfl (by simp) (by rfl) (by rfl) (by rfl) (by rfl) ?_)
  (repeat first |refine sN rfl ?_ |((first|refine sM rfl ?_ ?_|refine s4 rfl ‹_› rfl ?_ ?_);first|exact tI|omega|simp only[oZ] at *;omega) |refine s2 rfl fun _ _hb=>?_ |refine s3 rfl ?_ ?_<;>rintro rfl |refine aU rfl ?_ |refine Aa ?_ |refine rE (by kernel_rfl) ?_)
  (refine pW rfl ?_ rfl (by rfl);refine AH rfl rfl rfl (by first|(simp;done)|(simp;(first|omega|simp only[oZ] at *;omega))) rfl (by intro r hr;simp only [List.map_map,List.mem_map] at hr;obtain⟨_,_,rfl⟩:=hr;rfl) (by rfl) (Nat.le_of_ble_eq_true rfl) (by simp;omega) ?_)
  (repeat first |refine sN rfl ?_ |((first|refine sM rfl ?_ ?_|refine s4 rfl ‹_› rfl ?_ ?_);first|exact tI|omega|simp only[oZ] at *;omega) |refine s2 rfl fun _ _hb=>?_ |refine s3 rfl ?_ ?_<;>rintro rfl |refine aU rfl ?_ |refine Aa ?_ |refine rE (by kernel_rfl) ?_)
  refine Au.names [1] [(2,.o (.arr 0 1 0 l.length))] [(0,.cells 4 1 (l.map Ax))] (by intro i hi;rw [hΓ] at hi;omega) (by simp) (by simp[cX,zC,hΓ]) (by simp[cX,zC,hΓ]) ?_
  refine aR ⟨_,rfl,rfl,rfl,rfl⟩
theorem Me(a:AU)(ha:gE 1000000 a):AD Tryz.prog TB 101 0 [] 0 [Bp a] (IP a):=by
 have ha1:=ha.nx
 have ha2:=ha.ac
 have hcB:=Zr (TB:=TB) a.ac (by omega)
 refine AD.A3 (AD.P6 (m:=0) (Nat.le_of_ble_eq_true rfl) Tryz.func101 rfl (by kernel_rfl) (Nat.le_of_ble_eq_true rfl) ?_);intro Γ hΓ
 (repeat first |refine sN rfl ?_ |((first|refine sA rfl ?_ ?_|refine s4 rfl ‹_› rfl ?_ ?_);first|exact tI|omega|simp only[oZ] at *;omega) |refine s2 rfl fun _ _hb=>?_ |refine s3 rfl ?_ ?_<;>rintro rfl |refine aU rfl ?_ |refine Aa ?_)
 refine R.NR [(6,3),(0,2),(1,2),(2,2),(3,2),(4,1),(5,1),(7,5)] mixed (by kernel_rfl) rfl (by kernel_rfl) ?_
 (repeat ((refine R.Ai rfl ?_;first |(refine R.yQ (md:=false) rfl rfl rfl ?_ ?_;first|exact tI|omega|simp only[oZ] at *;omega) |(refine R.yB rfl rfl rfl ?_;intro _ _hb) |refine R.yS rfl rfl rfl ?_ |refine R.yP rfl rfl rfl rfl ?_ |refine R.yA rfl rfl rfl rfl ?_ |refine R.yW rfl rfl rfl ?_ |refine R.fK rfl rfl ?_ |(refine R.yG rfl rfl ?_ ?_<;>intro hb<;>subst hb) )))
 (refine R.Ai rfl ?_;refine R.NQ (fun _=>?_) rfl rfl;refine Bx [] rfl rfl hcB ⟨rfl,by simp,by simp⟩ rfl trivial ?_;rintro x0 σ1 nx1 ⟨rfl,rfl,rfl⟩ _)
 (repeat ((refine R.Ai rfl ?_;first |(refine R.yQ (md:=false) rfl rfl rfl ?_ ?_;first|exact tI|omega|simp only[oZ] at *;omega) |(refine R.yB rfl rfl rfl ?_;intro _ _hb) |refine R.yS rfl rfl rfl ?_ |refine R.yP rfl rfl rfl rfl ?_ |refine R.yA rfl rfl rfl rfl ?_ |refine R.yW rfl rfl rfl ?_ |refine R.fK rfl rfl ?_ |(refine R.yG rfl rfl ?_ ?_<;>intro hb<;>subst hb) )))
 (refine R.Ai rfl ?_;refine R.NQ (fun _=>?_) rfl rfl;refine Pa 1 1 62 rfl rfl rfl (by rfl) (by rfl) ?_)
 (repeat ((refine R.Ai rfl ?_;first |(refine R.yQ (md:=false) rfl rfl rfl ?_ ?_;first|exact tI|omega|simp only[oZ] at *;omega) |(refine R.yB rfl rfl rfl ?_;intro _ _hb) |refine R.yS rfl rfl rfl ?_ |refine R.yP rfl rfl rfl rfl ?_ |refine R.yA rfl rfl rfl rfl ?_ |refine R.yW rfl rfl rfl ?_ |refine R.fK rfl rfl ?_ |(refine R.yG rfl rfl ?_ ?_<;>intro hb<;>subst hb) )))
 refine R.NM ?_
 refine aS ?_
 (repeat first |refine sN rfl ?_ |((first|refine sA rfl ?_ ?_|refine s4 rfl ‹_› rfl ?_ ?_);first|exact tI|omega|simp only[oZ] at *;omega) |refine s2 rfl fun _ _hb=>?_ |refine s3 rfl ?_ ?_<;>rintro rfl |refine aU rfl ?_ |refine Aa ?_)
 refine aB ?_
 refine Au.dT 3 ?_
 refine aL (α:={s:Nat×Ga // s.1≤a.nx.length∧s.2.map (·.2)=a.nx.take s.1}) [2,3,13,14] [] rfl rfl (fun s=>[(15,eI .i64 s.1.1)]) (fun s=>[(0,.cells 29 3 [[.d (iD 0),.d (.l []),.d (.l [])]]),(1,.cells 4 1 (a.ac.map Ax)),(2,.cells 62 1 (A6 s.1.2)),(3,.cells 29 3 [[.d (iD a.al),.arr 2 1 0 s.1.2.length,.arr 1 1 0 a.ac.length]]),(4,.sld 3 (sI s.1.2))]) 5 (fun s=>a.nx.length - s.1.1) (⟨⟨0,[]⟩,by simp⟩) hΓ rfl (by ((repeat' first|exact tI|rfl|refine And.intro ?_ ?_)<;>(simp[cX,zC,hΓ,cN,Bi,Af,eC]<;>rfl))) ?_;rintro⟨⟨k,l⟩,hk,hl⟩;(try dsimp only[cA,cB])
 have hk:k≤a.nx.length:=hk
 have hl:l.map (·.2)=a.nx.take k:=hl
 have hll:l.length=k:=by have:=congrArg List.length hl;simp at this;omega
 (repeat first |refine sN rfl ?_ |((first|refine sA rfl ?_ ?_|refine s4 rfl ‹_› rfl ?_ ?_);first|exact tI|omega|simp only[oZ] at *;omega) |refine s2 rfl fun _ _hb=>?_ |refine s3 rfl ?_ ?_<;>rintro rfl |refine aU rfl ?_ |refine Aa ?_)
 ((refine aC rfl ?_ ?_<;>rintro⟨⟩);all_goals try(exfalso;first|omega|simp only[oZ] at *;omega))
 ·have hlt:k < a.nx.length:=by first|omega|simp only[oZ] at *;omega
  obtain⟨r,hx⟩:=get_some (l:=a.nx) (k:=k) hlt
  have hx':=get_map (g:=Dw) hx
  have hr:=ha.row r (List.mem_of_getElem? hx)
  have hcI:=Zt (TB:=TB) r (by omega)
  refine aK ?_
  refine aS (aB ?_)
  (repeat first |refine sN rfl ?_ |((first|refine sA rfl ?_ ?_|refine s4 rfl ‹_› rfl ?_ ?_);first|exact tI|omega|simp only[oZ] at *;omega) |refine s2 rfl fun _ _hb=>?_ |refine s3 rfl ?_ ?_<;>rintro rfl |refine aU rfl ?_ |refine Aa ?_)
  refine rG (aX [(1,13),(3,1008),(4,1008),(5,1),(7,1)]) (by kernel_rfl) ?_
  (repeat first |refine sN rfl ?_ |((first|refine sX rfl ?_ ?_|refine s4 rfl ‹_› rfl ?_ ?_);first|exact tI|omega|simp only[oZ] at *;omega) |refine s2 rfl fun _ _hb=>?_ |refine s3 rfl ?_ ?_<;>rintro rfl |refine aU rfl ?_ |refine Aa ?_)
  (refine Ai rfl ?_;refine Pj ?_ rfl ⟨rfl,rfl⟩;refine Bx [] rfl rfl (hcI) ⟨rfl,by decide,by decide⟩ rfl (by simp[cX,zC,hΓ,cN]) ?_;rintro x0 σ1 nx1 ⟨rfl,rfl,rfl⟩ _;refine⟨Nh 3 rfl rfl,?_⟩)
  (repeat first |refine sN rfl ?_ |((first|refine sX rfl ?_ ?_|refine s4 rfl ‹_› rfl ?_ ?_);first|exact tI|omega|simp only[oZ] at *;omega) |refine s2 rfl fun _ _hb=>?_ |refine s3 rfl ?_ ?_<;>rintro rfl |refine aU rfl ?_ |refine Aa ?_)
  (refine Ai rfl ?_;refine Pj ?_ rfl ⟨rfl,rfl⟩;refine BP rfl rfl rfl rfl (by simp [eC,E.A3,C.A3]) (by rfl) (by rfl) (by rfl) (by rfl) ?_;refine⟨Nh 3 rfl rfl,?_⟩)
  (repeat first |refine sN rfl ?_ |((first|refine sX rfl ?_ ?_|refine s4 rfl ‹_› rfl ?_ ?_);first|exact tI|omega|simp only[oZ] at *;omega) |refine s2 rfl fun _ _hb=>?_ |refine s3 rfl ?_ ?_<;>rintro rfl |refine aU rfl ?_ |refine Aa ?_)
  (refine pW rfl ?_ rfl (by rfl);refine AH rfl rfl rfl (Ec _) rfl (by intro r hr;simp at hr;subst hr;rfl) (by rfl) (Nat.le_of_ble_eq_true rfl) (by simp;omega) ?_)
  (repeat first |refine sN rfl ?_ |((first|refine sA rfl ?_ ?_|refine s4 rfl ‹_› rfl ?_ ?_);first|exact tI|omega|simp only[oZ] at *;omega) |refine s2 rfl fun _ _hb=>?_ |refine s3 rfl ?_ ?_<;>rintro rfl)
  refine Aa ?_
  refine Au.BR [2,3,13,14,15] [] rfl rfl [] [(0,.cells 29 3 [[.d (iD 0),.d (.l []),.d (.l [])]]),(1,.cells 4 1 (a.ac.map Ax)),(2,.cells 62 1 (A6 l++[[.arr 5 1 0 r.length]])),(3,.cells 29 3 [[.d (iD a.al),.arr 2 1 0 (l.length+1),.arr 1 1 0 a.ac.length]]),(4,.sld 3 (sI l)),(5,.cells 3 1 (r.map Al))] [0,1,7,3,4,5] (rl hΓ rfl) (by ((repeat' first|exact tI|rfl|refine And.intro ?_ ?_)<;>(simp[cX,zC,hΓ,cN,Bi,Af,eC]<;>rfl))) ?_;(try dsimp only[cA,cB])
  refine Au.WW 2 5 4 l r rfl rfl rfl fun v=>?_
  (repeat first |refine sN rfl ?_ |((first|refine sA rfl ?_ ?_|refine s4 rfl ‹_› rfl ?_ ?_);first|exact tI|omega|simp only[oZ] at *;omega) |refine s2 rfl fun _ _hb=>?_ |refine s3 rfl ?_ ?_<;>rintro rfl |refine aU rfl ?_ |refine Aa ?_)
  refine⟨⟨⟨k+1,l++[(v,r)]⟩,by dsimp only;omega,by dsimp only;rw [List.map_append,hl,List.take_add_one,hx];rfl⟩,by dsimp only;(first|omega|simp only[oZ] at *;omega),[0,1,2,3,4],?_⟩
  (simp[cX,zC,hΓ,cN]<;>rfl)
 have hkn:k=a.nx.length:=by first|omega|simp only[oZ] at *;omega
 refine aE ?_
 (repeat first |refine sN rfl ?_ |((first|refine sA rfl ?_ ?_|refine s4 rfl ‹_› rfl ?_ ?_);first|exact tI|omega|simp only[oZ] at *;omega) |refine s2 rfl fun _ _hb=>?_ |refine s3 rfl ?_ ?_<;>rintro rfl |refine aU rfl ?_ |refine Aa ?_)
 have hll:l.map (·.2)=a.nx:=by rw [hl,hkn,List.take_length]
 refine aR ⟨_,rfl,[2,1,4],Wu a.al 0 1 l.length a.ac.length,[(0,.cells 62 1 (A6 l)),(1,.cells 4 1 (a.ac.map Ax)),(2,.sld 3 (sI l))],⟨by intro i hi;omega,by decide⟩,rfl,by ((repeat' first|exact tI|rfl|refine And.intro ?_ ?_)<;>(simp[cX,zC,hΓ,cN]<;>rfl)),l,hll,rfl,rfl,rfl⟩
theorem Ow{a:AU}(ha:AN a=true):gE 1000000 a:=by
 have hh:=AG ha
 refine⟨by omega,by omega,fun r hr=>?_⟩
 obtain⟨i,hi,he⟩:=List.getElem_of_mem hr
 obtain⟨row,h1,h2,h3⟩:=Jq ha hi
 rw [List.getElem?_eq_getElem hi,he] at h1
 injection h1 with h1
 subst h1
 have hla:(Ac a.al).length≤6:=AV a.al 6
 omega
theorem Uj{n k:Nat}(h:k < n):(2 ^ n - 1).testBit k=true:=by rw [Nat.testBit_two_pow_sub_one,decide_eq_true h]
theorem Kq{n:Nat}:∀ {k:Nat},k≤n→JY (2 ^ n - 1) k=k
 | 0,_=>rfl
 | k+1,h=>by rw [Pm,Uj (by omega),if_pos rfl,Kq (by omega)]
theorem WG{y:Sys}(hs:AR y=true)(hes:y.es.length≤1048576):Pure Tryz.prog TB 116 [Bv y,eI .i64 ((2 ^ y.st.toNat - 1:Nat):Int)] (Bv y):=by
 have hh:=AM hs
 obtain⟨n0,hn0,hn1⟩:∃n0:Nat,y.st=n0∧n0≤16:=⟨y.st.toNat,by omega,by omega⟩
 have hpw:2 ^ n0≤2 ^ 16:=Nat.pow_le_pow_right (by omega) hn1
 have hm:2 ^ n0 - 1 < 2 ^ 62:=by omega
 rw [show y.st.toNat=n0 by omega]
 have hrk:=Ms (TB:=TB) (2 ^ n0 - 1) hm n0 (by omega)
 rw [Kq (Nat.le_refl _)] at hrk
 obtain⟨m,hmm⟩:∃m,m=2 ^ n0 - 1:=⟨_,rfl⟩
 have hbit:∀k,k < n0→A0 (m:Nat) k=true:=fun k hk=>by rw [C8 (by omega) (by omega),hmm];exact Uj hk
 have hrank:∀k,k≤n0→JY m k=k:=fun k hk=>by rw [hmm];exact Kq hk
 rw [←hmm] at hrk hm ⊢
 rw [←hn0] at hrk
 refine eG Tryz.func116 rfl (by kernel_rfl) rfl ?_;intro Γ hΓ
 (repeat first|refine tA rfl ?_ |refine aU rfl ?_ |refine Aa ?_)
 refine rG (aX [(7,1),(8,1)]) (by kernel_rfl) ?_
 (repeat first|refine tX rfl ?_ |refine sP rfl (hrk) rfl ?_|(refine Ai rfl ?_;refine gA rfl ?_;first| refine gS (fun _ _=>da rfl rfl (by rfl) (by rfl)) ?_) |refine aU rfl ?_ |refine Aa ?_)
 refine aB ?_
 refine aL (α:={z:Nat×List ET // z.1≤y.es.length∧z.2=y.es.take z.1}) [1,2] [] rfl rfl (fun s=>[(4,.o (.ptr 0 3 0 0)),(5,.o (.ptr 1 3 0 0)),(6,eI .i64 s.1.1)]) (fun s=>fi y.al y.st s.1.2) 3 (fun s=>y.es.length - s.1.1) (⟨⟨0,[]⟩,by simp⟩) hΓ rfl (by (simp[cX,zC,hΓ,fi,X6,cN])) ?_;rintro⟨⟨k,l⟩,hk,hl2⟩;(try dsimp only[cA,cB])
 have hk:k≤y.es.length:=hk
 have hl2:l=y.es.take k:=hl2
 have hll:l.length=k:=by rw [hl2,List.length_take];omega
 by_cases hlt:k < y.es.length
 ·obtain⟨e,he⟩:=get_some hlt
  have hl3:y.es.take (k+1)=l++[e]:=by rw [List.take_add_one,he,hl2];rfl
  have he':=get_map (g:=C9) he
  have hee:(y.es.map C9)[((k:Nat):Int).toNat]? = some (C9 e):=by rw [Int.toNat_natCast];exact he'
  have hb:=DA hs (List.mem_of_getElem? he)
  unfold DT at hb
  simp only [Bool.and_eq_true,decide_eq_true_eq] at hb
  obtain⟨f0,hf0⟩:∃f0:Nat,e.f=f0:=⟨e.f.toNat,by omega⟩
  obtain⟨t0,ht0⟩:∃t0:Nat,e.t=t0:=⟨e.t.toNat,by omega⟩
  have hh1:=CY (TB:=TB) (m:Nat) e.f (by omega) (by omega)
  have hh2:=CY (TB:=TB) (m:Nat) e.t (by omega) (by omega)
  rw [hbit _ (by omega)] at hh1 hh2
  have hr1:=Ms (TB:=TB) m hm f0 (by omega)
  have hr2:=Ms (TB:=TB) m hm t0 (by omega)
  rw [hrank _ (by omega),←hf0] at hr1
  rw [hrank _ (by omega),←ht0] at hr2
  (repeat first|refine sN rfl ?_ |refine tA rfl ?_ |refine s2 rfl fun _ _hb=>?_ |refine aU rfl ?_ |refine Aa ?_)
  ((refine aC rfl ?_ ?_<;>rintro⟨⟩);all_goals try(exfalso;(simp only[oZ] at *;omega)))
  refine aK ?_
  refine aS (aB ?_)
  (repeat' first|refine tA rfl ?_ |(refine s4 rfl ‹_› rfl ?_ ?_;omega) |refine sP rfl (hh1) rfl ?_|refine sP rfl (hh2) rfl ?_ |refine aU rfl ?_ |refine Aa ?_|(refine aC rfl ?_ ?_<;>rintro⟨⟩));all_goals try contradiction
  cases l with
  | nil=>
   refine rG (aX [(1,11),(4,13),(7,13),(10,13),(14,1),(16,1)]) (by kernel_rfl) ?_
   (repeat first|refine tA rfl ?_ |refine sP rfl (hr1) rfl ?_|refine sP rfl (hr2) rfl ?_|(refine Ai rfl ?_;refine gA rfl ?_;first| refine gS (fun _ _=>AQ rfl rfl (by rfl) (by rfl)) ?_))
   (refine pW rfl ?_ rfl (by rfl);refine ky 38 rfl ?_;refine HL rfl rfl rfl (by intro r hr;simp at hr;subst hr;rfl) (by rfl) (Nat.le_of_ble_eq_true rfl) (by simp) (fun h=>?_) (fun _=>?_))
   ·exact absurd h (by simp)
   (repeat first|(refine sX rfl ?_ ?_;first|exact tI|omega) |refine aU rfl ?_ |refine Aa ?_)
   refine⟨⟨⟨k+1,[e]⟩,by dsimp only;omega,by dsimp only;rw [hl3];rfl⟩,by dsimp only;(omega),[0,1,4],?_⟩
   (simp[cX,zC,hΓ,cN,fi,X6,Af,eC]<;>rfl)
  | cons r0 l=>
   refine rG (aX [(1,11),(4,13),(7,13),(10,13),(14,1),(16,1)]) (by kernel_rfl) ?_
   (repeat first|refine tA rfl ?_ |refine sP rfl (hr1) rfl ?_|refine sP rfl (hr2) rfl ?_|(refine Ai rfl ?_;refine gA rfl ?_;first| refine gS (fun _ _=>AQ rfl rfl (by rfl) (by rfl)) ?_))
   (refine pW rfl ?_ rfl (by rfl);refine AH rfl rfl rfl (by first| (simp;done)|(simp;(omega))) rfl (by intro r hr;simp at hr;subst hr;rfl) (by rfl) (Nat.le_of_ble_eq_true rfl) (by simp at hll ⊢;omega) ?_)
   (repeat first|(refine sX rfl ?_ ?_;first|exact tI|omega) |refine aU rfl ?_ |refine Aa ?_)
   refine⟨⟨⟨k+1,r0::(l++[e])⟩,by dsimp only;omega,by dsimp only;rw [hl3];rfl⟩,by dsimp only;(omega),[0,1,4],?_⟩
   (simp[cX,zC,hΓ,cN,fi,X6,Af,eC]<;>rfl)
 ·have hke:k=y.es.length:=by omega
  have hly:l=y.es:=by rw [hl2,hke,List.take_length]
  have hy:y=⟨y.al,y.st,l⟩:=by rw [hly]
  (repeat first|refine sN rfl ?_ |refine tA rfl ?_ |refine s2 rfl fun _ _hb=>?_ |refine aU rfl ?_ |refine Aa ?_)
  ((refine aC rfl ?_ ?_<;>rintro⟨⟩);all_goals try(exfalso;(simp only[oZ] at *;omega)))
  refine aE ?_
  rw [hy]
  cases l with
  | nil=>
   refine Au.DE [1] [(4,.o (.ptr 0 3 0 0)),(5,.o (.ip (CE ⟨y.al,y.st,[]⟩)))] ⟨⟨_,rfl,.inl rfl⟩,⟨_,rfl,.inr (.o (.box rfl (.cons .d (.cons .d (.cons .nl .nil)))))⟩,trivial⟩ ?_
   (repeat first|refine tA rfl ?_ |refine aU rfl ?_ |refine Aa ?_)
   (subst_vars;exact aR ⟨_,rfl,rfl⟩)
  | cons r0 l=>
   refine Au.DE [1,2] [(4,.o (.ptr 0 3 0 0)),(5,.o (.ip (CE ⟨y.al,y.st,r0::l⟩)))] ⟨⟨_,rfl,.inl rfl⟩,⟨_,rfl,.inr (.o (.box rfl (.cons .d (.cons .d (.cons (.full rfl (by simp [Function.comp_def]) (by simp)) .nil)))))⟩,trivial⟩ ?_
   (repeat first|refine tA rfl ?_ |refine aU rfl ?_ |refine Aa ?_)
   (subst_vars;exact aR ⟨_,rfl,rfl⟩)
abbrev VF(s:Sys)(p:AU)(t:Sys):CD×Bool:=if AL s p t < 0 then (⟨⟨0,0,[]⟩,⟨0,[],[]⟩,0⟩,false) else (⟨s,p,AL s p t⟩,true)
theorem Jk(s:Sys)(p:AU)(t:Sys)(hes:s.es.length≤1048576):Pure Tryz.prog TB 67 [Bv s,Bp p,Bv t] (mK (VF s p t)):=by
 have hif:=Kx (TB:=TB) s p t
 unfold VF
 by_cases h0:AL s p t < 0
 ·rw [if_pos h0]
  refine eG Tryz.func67 rfl (by kernel_rfl) rfl ?_;intro Γ hΓ
  (repeat first|refine tA rfl ?_ |refine s2 rfl fun _ _hb=>?_ |refine sP rfl (hif) rfl ?_ |refine aU rfl ?_ |refine Aa ?_)
  ((refine aC rfl ?_ ?_<;>rintro⟨⟩);all_goals try(exfalso;(simp only[oZ] at *;omega)))
  (repeat first|refine tA rfl ?_|(refine Ai rfl ?_;refine gA rfl ?_;first| refine gS (fun _ _=>AQ rfl rfl (by rfl) (by rfl)) ?_) |refine aU rfl ?_ |refine Aa ?_)
  (subst_vars;exact aR ⟨_,rfl,rfl⟩)
 ·rw [if_neg h0]
  have hI:=I6 h0
  have hh:=AM hI.hs
  have hbt:=WD (TB:=TB) s.st (by omega) (by omega)
  have hkp:=WG (TB:=TB) hI.hs hes
  have hpw:2 ^ s.st.toNat≤2 ^ 16:=Nat.pow_le_pow_right (by omega) (by omega)
  have hpp:0 < 2 ^ s.st.toNat:=Nat.two_pow_pos _
  have hm1:((2 ^ s.st.toNat:Nat):Int) - 1=((2 ^ s.st.toNat - 1:Nat):Int):=by omega
  rw [←hm1] at hkp
  generalize 2 ^ s.st.toNat=pw at *
  generalize AL s p t=ai at *
  refine eG Tryz.func67 rfl (by kernel_rfl) rfl ?_;intro Γ hΓ
  (repeat first|refine tA rfl ?_ |refine s2 rfl fun _ _hb=>?_ |refine sP rfl (hif) rfl ?_ |refine aU rfl ?_ |refine Aa ?_)
  ((refine aC rfl ?_ ?_<;>rintro⟨⟩);all_goals try(exfalso;(simp only[oZ] at *;omega)))
  refine aK ?_
  (repeat first|refine aU rfl ?_)
  refine rG ⟨ON [(7,1),(10,1)],jY [0,1,2,3,4,6,8,5,7,9,10,11]⟩ (by kernel_rfl) ?_
  (repeat first|(refine sX rfl ?_ ?_;first|exact tI|omega) |refine sP rfl (hbt) rfl ?_|refine sP rfl (hkp) rfl ?_)
  (refine pW rfl ?_ rfl (by rfl);refine BO [] rfl rfl 0 (QX p (Ow hI.hp)) (by decide) ⟨rfl,by decide,by decide⟩ rfl (by simp[cX,zC,hΓ,cN]) ?_;rintro x0 σ1 nx1 ⟨l,hl,rfl,rfl,rfl⟩ _)
  (repeat first|refine tX rfl ?_|(refine Ai rfl ?_;refine gA rfl ?_;first| refine gS (fun _ _=>AQ rfl rfl (by rfl) (by rfl)) ?_) |refine Aa ?_)
  refine Au.BR [] [] rfl rfl [(6,.o (.ptr 0 7 0 0)),(7,eB true)] [(0,.cells 87 7 [[.d (iD s.al),.d (iD s.st),.d (Ek s.es),.d (iD p.al),.arr 1 1 0 l.length,.arr 2 1 0 p.ac.length,.d (iD ai)]]),(1,.cells 62 1 (A6 l)),(2,.cells 4 1 (p.ac.map Ax)),(3,.sld 3 (sI l))] [0,1,2,3] (rl hΓ rfl) (by (simp[cX,zC,hΓ,cN,Bi,Af,eC])) ?_;(try dsimp only[cA,cB])
  refine Au.DE [0,1,2,3] [(6,.o (.ip (LI ⟨s,⟨p.al,l.map (·.2),p.ac⟩,ai⟩))),(7,eB true)] ⟨⟨_,rfl,.inr (.o (.box rfl (.cons .d (.cons .d (.cons .d (.cons .d (.cons (.kE (s:=3) rfl rfl) (.cons (.full rfl (by simp [Function.comp_def]) (by simp)) (.cons .d .nil)))))))))⟩,⟨_,rfl,.inl rfl⟩,trivial⟩ ?_
  rw [hl]
  (subst_vars;exact aR ⟨_,rfl,rfl⟩)
theorem Zs(l:List ET)(h:l.length≤1048576):Spec Tryz.prog TB 100 [] 0 [.o (.d (Ek l))] (fun x σ nx=>x=.o (.arr 0 3 0 l.length)∧nx=1∧σ=[(0,.cells 126 3 (l.map AA))]):=by
 refine eN Tryz.func100 rfl (by kernel_rfl) rfl ?_;intro Γ hΓ
 (repeat first|refine aU rfl ?_)
 (refine Ai rfl ?_;refine Bs (fun _ _=>Br rfl) rfl ?_)
 (repeat first|refine tM rfl ?_ |refine aU rfl ?_ |refine Aa ?_)
 (refine pW rfl ?_ rfl (by rfl);refine Le rfl ?_;intro b0 hb0)
 (repeat first|refine Aa ?_)
 (refine aC rfl ?_ ?_<;>rintro⟨⟩)
 ·obtain rfl:l=[]:=by simpa using hb0 rfl
  (repeat first|refine aU rfl ?_)
  (refine pW rfl ?_ rfl (by rfl);refine Hk 3 126 ?_)
  (repeat first|refine Aa ?_)
  refine aR ⟨_,rfl,rfl,rfl,rfl⟩
 ·refine aK ?_
  (repeat first|refine aU rfl ?_)
  (refine pW rfl ?_ rfl (by rfl);refine BP rfl rfl rfl rfl (by simp) (by rfl) (by rfl) (by rfl) (by rfl) ?_)
  (repeat first|refine tM rfl ?_)
  (refine pW rfl ?_ rfl (by rfl);refine AH rfl rfl rfl (by first| (simp;done)|(simp;(omega))) rfl (by intro r hr;simp only [List.map_map,List.mem_map] at hr;obtain⟨_,_,rfl⟩:=hr;rfl) (by rfl) (Nat.le_of_ble_eq_true rfl) (by simp;omega) ?_)
  (repeat first|refine tM rfl ?_ |refine Aa ?_)
  refine Au.names [1] [(2,.o (.arr 0 3 0 l.length))] [(0,.cells 126 3 (l.map AA))] (by intro i hi;rw [hΓ] at hi;omega) (by simp) (by simp[cX,zC,hΓ]) (by simp[cX,zC,hΓ]) ?_
  refine aR ⟨_,rfl,rfl,rfl,rfl⟩
theorem JV(s:Sys)(p:AU)(t:Sys)(hes:s.es.length≤1048576):Pure Tryz.prog TB 58 [Bv s,Bp p,Bv t] (mK (VF s p t)):=by
 have hif:=Kh (TB:=TB) s p t
 unfold VF
 by_cases h0:AL s p t < 0
 ·rw [if_pos h0]
  refine eG Tryz.func58 rfl (by kernel_rfl) rfl ?_;intro Γ hΓ
  (repeat first|refine tA rfl ?_ |refine s2 rfl fun _ _hb=>?_ |refine sP rfl (hif) rfl ?_ |refine aU rfl ?_ |refine Aa ?_)
  ((refine aC rfl ?_ ?_<;>rintro⟨⟩);all_goals try(exfalso;(simp only[oZ] at *;omega)))
  (repeat first|refine tA rfl ?_|(refine Ai rfl ?_;refine gA rfl ?_;first| refine gS (fun _ _=>AQ rfl rfl (by rfl) (by rfl)) ?_) |refine aU rfl ?_ |refine Aa ?_)
  (subst_vars;exact aR ⟨_,rfl,rfl⟩)
 ·rw [if_neg h0]
  have hI:=I6 h0
  have hcl:=Zs (TB:=TB) s.es hes
  have hcp:=Me (TB:=TB) p ((Ow hI.hp).upto (by omega))
  generalize AL s p t=ai at *
  refine eG Tryz.func58 rfl (by kernel_rfl) rfl ?_;intro Γ hΓ
  (repeat first|refine aU rfl ?_)
  (refine pW rfl ?_ rfl (by rfl);refine Da rfl rfl ?_)
  (repeat first|refine tA rfl ?_ |refine s2 rfl fun _ _hb=>?_ |refine sP rfl (hif) rfl ?_ |refine aU rfl ?_ |refine Aa ?_)
  ((refine aC rfl ?_ ?_<;>rintro⟨⟩);all_goals try(exfalso;(simp only[oZ] at *;omega)))
  refine aK ?_
  (repeat first|refine tA rfl ?_ |refine aU rfl ?_)
  (refine pW rfl ?_ rfl (by rfl);refine Bx [] rfl rfl (hcl) ⟨rfl,by decide,by decide⟩ rfl (by simp[cX,zC,hΓ,cN]) ?_;rintro x0 σ1 nx1 ⟨rfl,rfl,rfl⟩ _)
  (repeat first|refine tA rfl ?_ |refine aU rfl ?_ |refine Aa ?_)
  refine rG ⟨ON [(0,10),(2,1001),(5,1)],jY [0,1,3,2,4,5,6]⟩ (by kernel_rfl) ?_
  (repeat first|refine tA rfl ?_)
  (refine Ai rfl ?_;refine Pj ?_ rfl ⟨rfl,rfl⟩;refine BO [] rfl rfl 0 hcp (by decide) ⟨rfl,by decide,by decide⟩ rfl (by simp[cX,zC,hΓ,cN]) ?_;rintro x0 σ1 nx1 ⟨l,hl,rfl,rfl,rfl⟩ _;refine⟨Nh 0 rfl rfl,?_⟩)
  (repeat first|refine tA rfl ?_|(refine Ai rfl ?_;refine gA rfl ?_;first| refine gS (fun _ _=>AQ rfl rfl (by rfl) (by rfl)) ?_) |refine Aa ?_)
  refine Au.BR [] [] rfl rfl [(6,.o (.ptr 0 7 0 0)),(7,eB true)] [(0,.cells 87 7 [[.d (iD s.al),.d (iD s.st),.arr 1 3 0 s.es.length,.d (iD p.al),.arr 2 1 0 l.length,.arr 3 1 0 p.ac.length,.d (iD ai)]]),(1,.cells 126 3 (s.es.map AA)),(2,.cells 62 1 (A6 l)),(3,.cells 4 1 (p.ac.map Ax)),(4,.sld 3 (sI l))] [1,2,3,4,5] (rl hΓ rfl) (by (simp[cX,zC,hΓ,cN,Bi,Af,eC])) ?_;(try dsimp only[cA,cB])
  refine Au.DE [0,1,2,3,4] [(6,.o (.ip (LI ⟨s,⟨p.al,l.map (·.2),p.ac⟩,ai⟩))),(7,eB true)] ⟨⟨_,rfl,.inr (.o (.box rfl (.cons .d (.cons .d (.cons (.full rfl (by simp [Function.comp_def]) (by simp)) (.cons .d (.cons (.kE (s:=4) rfl rfl) (.cons (.full rfl (by simp [Function.comp_def]) (by simp)) (.cons .d .nil)))))))))⟩,⟨_,rfl,.inl rfl⟩,trivial⟩ ?_
  rw [hl]
  (subst_vars;exact aR ⟨_,rfl,rfl⟩)
theorem Im(r:Option (List Int)):E.Il (KO r):=by
 show ∀x∈[(false,[C.d (tD (J7 r))]),(false,[C.d (bD r.isSome)])],∀c∈x.2,C.Il c=true
 simp [C.Il]
end Go.Am
namespace Go.Am
open Go Go.Proofs
set_option maxHeartbeats 1000000
attribute [local irreducible] AS BT Lex Bc Au Spec
theorem JL.jX{P:Program}{TB:Bt}{c:C}{L:W→Bool}{ok:W→Prop}(h:JL P TB c L ok){w:W}{b:Bool}(hb:L w=b)(hw:ok w){Γ:Ctx}{d:Option Tmp}{ty:TypeId}{pos:String}{af:Array Edge}{g:Option (Nat×Bool)}{f:Env}{σ:Ab}{nx:Nat}{x a:Operand}{tys:Array TypeId}
 (hx:ev f x=some (.o c)) (ha:ev f a=some (eT w)):AS P TB Γ ⟨d,.call ⟨.value x,#[a],tys⟩,ty,pos,af,g⟩ f σ nx (eB b):=hb ▸ h.ask hx ha hw
theorem kc{m:Nat}{L:W→Bool}{ok:W→Prop}{X:Bt→Ctx→C→Prop}{Y:Prop}(h:∀(TB1:Bt) (Γ1:Ctx) (c1:C),Γ1.V.nx=m→Df TB1→JL Tryz.prog TB1 c1 L ok→X TB1 Γ1 c1)
 (hk:(∀(TB1:Bt) (Γ1:Ctx) (c1:C),Γ1.V.nx=m→Df TB1→JL Tryz.prog TB1 c1 L ok→X TB1 Γ1 c1)→Y):Y:=hk h
theorem UP{tabs:List (Nat×Obj)}[hT:Df ⟨tabs,none⟩]{te:Ew}{ok:W→Prop}(hkn:te.kn=false)(hok:CG te=true)(hsub:∀w,ok w→jK (AY te) w)(hf:Tu te ok) :
 ∃(t:CD) (m:Hp),MU t ok m∧AD Tryz.prog ⟨tabs,none⟩ 59 0 [] 0 [EC te] (fun x σ nx=>x=.t [(true,[.d (iD (AY te)),Nr (.ptr 0 14 0 0)]),(false,[.d (bD true)])]∧σ=NS t m∧nx=5)∧
  ∀r,JL Tryz.prog ⟨tabs,some (PO t ok,r)⟩ (Nr (Pn r)) (BV te) ok∧Df ⟨tabs,some (PO t ok,r)⟩:=by
 obtain⟨kn,p,s,q,al⟩:=te
 obtain rfl:kn=false:=hkn
 have ht:A9 ⟨s,q,al⟩=true:=hok
 obtain⟨m,hm,hno⟩:=Qu (TB:=⟨tabs,none⟩) p ht ok
 exact⟨⟨s,q,al⟩,m,hm,hno,fun r=>⟨lV ht hsub (hf rfl),jw hT⟩⟩
section
variable {tabs:List (Nat×Obj)}[hTb:Df ⟨tabs,none⟩]
include hTb
end
end Go.Am
namespace Go.Am
open Go Go.Proofs
set_option maxHeartbeats 1000000
attribute [local irreducible] AS BT Lex Bc Au Spec
variable {TB:Bt}
theorem Nb{σ:Ab}{T:TypeId}{i n:Nat}{s:Sys}(h0:look σ i=some (.cells T 3 (s.es.map AA)))(hn:s.es.length=n):EZ σ (.a [.d (iD s.al),.d (iD s.st),.arr i 3 0 n]) (Bv s):=by
 subst hn
 exact .a (ds:=[iD s.al,iD s.st,Ek s.es]) (.cons .d (.cons .d (.cons (.full h0 (by simp [Function.comp_def]) (List.length_map _)) .nil)))
theorem Zn{a:AU}(h:AN a=true):a.nx.length≤1048576∧(∀r∈a.nx,r.length≤1048576)∧a.ac.length≤1048576:=by
 obtain⟨_,h1,h2,h3⟩:=AG h
 refine⟨by omega,fun r hr=>?_,by omega⟩
 obtain⟨i,hi⟩:=List.mem_iff_getElem?.1 hr
 obtain⟨row,g1,g2,_⟩:=(XT h).2 i (List.getElem?_eq_some_iff.1 hi).1
 rw [hi] at g1
 injection g1 with g1
 subst g1
 have:(Ac a.al).length≤6:=AV _ 6
 omega
theorem bB(s:Sys)(p:AU)(al:Int):J0 Tryz.prog TB 120 175 (Et s p al) (DK (Et s p al)) (ES (Et s p al)):=ic (t:=Et s p al) rfl
theorem en{te:Ew}:0≤DK te→A4 (DK te)=true:=fun h=>by
 unfold DK at *
 split at h
 ·rename_i hk;rw [if_pos hk];exact GW hk
 ·omega
theorem aG(s:Sys)(p:AU)(al:Int):Pure Tryz.prog TB 68 [EC (Et s p al)] (IB (SL (Et s p al))):=by
 rw [←iR];exact SP (bB s p al)
theorem aH(s:Sys)(p:AU)(al:Int)(x:AW)(hz:VN x):Pure Tryz.prog TB 69 [EC (Et s p al),DW x] (MZ (Sf (Et s p al) x)):=by
 rw [←ig];exact Ho (bB s p al) x hz
theorem Xi(s:Sys)(p:AU)(al:Int)(x:AW)(hz:VN x)(w:W)(hw:w.length≤4000):Pure Tryz.prog TB 73 [EC (Et s p al),DW x,eT w] (IB (Lz (Et s p al) x w)):=by
 rw [←gj];exact Qp (bB s p al) (en (te:=Et s p al)) x hz w (by omega)
theorem ID(w:W)(al:Int)(hw:Ev w=true)(ha:A4 al=true)(hl:w.length≤50000):Pure Tryz.prog TB 127 [eT w,eI .i64 al] (eT (IM al w)):=by
 have h1:=LP (TB:=TB) w (by omega)
 have h2:=DZ (TB:=TB) al
 have hall:∀c∈w,Gb c=true:=by
  unfold Ev at hw
  rw [Bool.and_eq_true,List.all_eq_true] at hw
  exact hw.2
 rw [hw] at h1
 rw [ha] at h2
 refine eG Tryz.func127 rfl (by kernel_rfl) rfl ?_;intro Γ hΓ
 (repeat first|refine tA rfl ?_ |refine s2 rfl fun _ _hb=>?_ |refine sP rfl (h1) rfl ?_|refine sP rfl (h2) rfl ?_ |refine s3 rfl ?_ ?_<;>rintro rfl |refine aU rfl ?_ |refine Aa ?_)
 (repeat' first|refine tA rfl ?_ |refine s2 rfl fun _ _hb=>?_ |refine sP rfl (h1) rfl ?_|refine sP rfl (h2) rfl ?_ |refine aU rfl ?_ |refine Aa ?_|(refine aC rfl ?_ ?_<;>rintro⟨⟩));all_goals try contradiction
 refine aK ?_
 (repeat first|refine aU rfl ?_)
 (refine pW rfl ?_ rfl (by rfl);refine BP rfl rfl rfl rfl (by simp) (by rfl) (by rfl) (by rfl) (by rfl) ?_)
 (repeat first|refine tX rfl ?_ |refine aU rfl ?_ |refine Aa ?_)
 refine aB ?_
 refine aL (α:={k:Nat // k≤w.length}) [0,1] [] rfl rfl (fun ⟨k,hk⟩=>[(5,.o (.arr 0 1 0 (IM al (w.take k)).length)),(6,eI .i64 k)]) (fun ⟨k,hk⟩=>[(0,.cells 5 1 ((IM al (w.take k)).map Fv))]) 1 (fun ⟨k,hk⟩=>w.length - k) (⟨0,by omega⟩) hΓ rfl (by (simp[cX,zC,hΓ,IM])) ?_;rintro⟨k,hk⟩;(try dsimp only[cA,cB])
 by_cases hlt:k < w.length
 ·obtain⟨c,hc⟩:=get_some hlt
  have hc':w[((k:Nat):Int).toNat]? = some c:=by simpa using hc
  have hch:=hall c (List.mem_of_getElem? hc)
  have hch2:=hch
  rw [Fw,decide_eq_true_eq] at hch2
  have hla:=Jv (TB:=TB) w k c hc'
  have hha:=CY (TB:=TB) al ((c.toNat:Int) - 97) (by omega) (by omega)
  have e:A0 al ((c.toNat:Int) - 97).toNat=Ik al c:=by
   unfold Ik
   rw [hch,Bool.true_and]
   congr 1
   omega
  rw [e] at hha
  have hst:=RD (al:=al) hc
  have hrl:=U0 al (w.take k)
  rw [List.length_take] at hrl
  (repeat first|refine tA rfl ?_ |refine s2 rfl fun _ _hb=>?_ |refine aU rfl ?_ |refine Aa ?_)
  ((refine aC rfl ?_ ?_<;>rintro⟨⟩);all_goals try(exfalso;(simp only[oZ] at *;omega)))
  refine aK ?_
  refine aS (aB ?_)
  cases hcc:Ik al c
  ·rw [hcc] at hha hst
   (repeat first|refine tA rfl ?_ |refine sP rfl (hla) rfl ?_|refine sP rfl (hha) rfl ?_ |refine aU rfl ?_ |refine Aa ?_)
   ((refine aC rfl ?_ ?_<;>rintro⟨⟩);all_goals try (simp at _hb;done))
   refine aK ?_
   (repeat first|(refine sA rfl ?_ ?_;first|exact tI|omega) |refine aU rfl ?_ |refine Aa ?_)
   refine⟨⟨k+1,by omega⟩,by dsimp only;(omega),[0],?_⟩
   simp[cX,zC,hΓ,hst,Fv,FH]
  ·rw [hcc] at hha hst
   (repeat first|refine tA rfl ?_ |refine sP rfl (hla) rfl ?_|refine sP rfl (hha) rfl ?_ |refine aU rfl ?_ |refine Aa ?_)
   ((refine aC rfl ?_ ?_<;>rintro⟨⟩);all_goals try (simp at _hb;done))
   (repeat first|refine tA rfl ?_ |(refine s4 rfl ‹_› rfl ?_ ?_;omega) |refine aU rfl ?_)
   (refine pW rfl ?_ rfl (by rfl);refine AH rfl rfl rfl (by first| (simp;done)|(simp;(omega))) rfl (by intro r hr;simp at hr;subst hr;rfl) (by rfl) (Nat.le_of_ble_eq_true rfl) (by simp;omega) ?_)
   (repeat first|(refine sX rfl ?_ ?_;first|exact tI|omega) |refine aU rfl ?_ |refine Aa ?_)
   refine⟨⟨k+1,by omega⟩,by dsimp only;(omega),[1],?_⟩
   simp[cX,zC,hΓ,hst,FH,Fv,List.map_append,MF]
 ·obtain rfl:k=w.length:=by omega
  rw [List.take_length] at *
  (repeat first|refine tA rfl ?_ |refine s2 rfl fun _ _hb=>?_ |refine aU rfl ?_ |refine Aa ?_)
  ((refine aC rfl ?_ ?_<;>rintro⟨⟩);all_goals try(exfalso;(simp only[oZ] at *;omega)))
  refine aE ?_
  (repeat first|refine tM rfl ?_|(refine Ai rfl ?_;refine gA rfl ?_;first| refine gQ (Oi (IM al w) rfl rfl (by simp) (by first| rw [List.drop_zero,List.take_of_length_le (by simp)]|rw [List.drop_zero,Ti,List.take_of_length_le (by simp)])) (by rfl) ?_) |refine aU rfl ?_ |refine Aa ?_)
  (subst_vars;exact aR ⟨_,rfl,rfl⟩)
abbrev ki(w:W)(c:Int):E:=.t [(false,[.d (tD w)]),(false,[.d (iD c)])]
section
variable [Df TB]{s t:Sys}{p:AU}{al:Int}(hI:FW s p t al)
include hI
theorem Uu{a:AU}(h:Gf s t p al a=none):Pure Tryz.prog TB 70 [Bv t,Qh ⟨s,p,al⟩,Bp a] (ki [] 0):=by
 obtain⟨g1,g2⟩:=UZ h
 have h1:=Fa (TB:=TB) s a p
 have h2:=E8 (TB:=TB) t a
 rw [g1] at h1
 rw [g2] at h2
 refine eG Tryz.func70 rfl (by kernel_rfl) rfl ?_;intro Γ hΓ
 (repeat first|refine tA rfl ?_ |refine sP rfl (h1) rfl ?_|refine sP rfl (h2) rfl ?_ |refine aU rfl ?_ |refine Aa ?_)
 (repeat' first|refine sP rfl (h1) rfl ?_|refine sP rfl (h2) rfl ?_|(refine aC rfl ?_ ?_<;>rintro⟨⟩));all_goals try contradiction
 refine aK ?_
 (repeat first|refine tA rfl ?_ |refine s2 rfl fun _ _hb=>?_ |refine sP rfl (h2) rfl ?_ |refine aU rfl ?_ |refine Aa ?_)
 (repeat' first|refine tA rfl ?_ |refine sP rfl (h2) rfl ?_ |refine aU rfl ?_ |refine Aa ?_|(refine aC rfl ?_ ?_<;>rintro⟨⟩));all_goals try contradiction
 (subst_vars;exact aR ⟨_,rfl,rfl⟩)
theorem Uv{a:AU}{w:W}{b:Bool}(h:Gf s t p al a=some (w,b))(hw:AK (AZ al) w)(hl:w.length≤4000):Pure Tryz.prog TB 70 [Bv t,Qh ⟨s,p,al⟩,Bp a] (ki w (if (b || LS ⟨s,p,al⟩ w)=true then -1 else 1)):=by
 have hal:=QT hI
 have h1:=Fa (TB:=TB) s a p
 have h2:=E8 (TB:=TB) t a
 rcases UY hI h with ⟨u,rfl,g1,g2,g3,g4⟩|⟨u,rfl,g0,g1,g2,g3,g4⟩
 ·rw [g1] at h1
  have h3:=ID (TB:=TB) (Dk u) al (P0 g3 (by omega)) hal (by omega)
  rw [g2] at h3
  rw [Bool.true_or,if_pos rfl]
  refine eG Tryz.func70 rfl (by kernel_rfl) rfl ?_;intro Γ hΓ
  (repeat first|refine tA rfl ?_ |refine sP rfl (h1) rfl ?_ |refine aU rfl ?_ |refine Aa ?_)
  (repeat' first|refine tA rfl ?_ |refine sP rfl (h1) rfl ?_|refine sP rfl (h3) rfl ?_ |refine aU rfl ?_ |refine Aa ?_|(refine aC rfl ?_ ?_<;>rintro⟨⟩));all_goals try contradiction
  (subst_vars;exact aR ⟨_,rfl,rfl⟩)
 ·rw [g0] at h1
  rw [g1] at h2
  have h3:=ID (TB:=TB) (Dk u) al (P0 g3 (by omega)) hal (by omega)
  rw [g2] at h3
  have h4:=Ns (TB:=TB) ⟨s,p,al⟩ w (by omega)
  rw [RH (Gd hI) w hw (by omega)] at h4
  rw [Bool.false_or]
  generalize LS ⟨s,p,al⟩ w=b0 at *
  refine eG Tryz.func70 rfl (by kernel_rfl) rfl ?_;intro Γ hΓ
  (repeat first|refine tA rfl ?_ |refine sP rfl (h1) rfl ?_ |refine aU rfl ?_ |refine Aa ?_)
  (repeat' first|refine sP rfl (h1) rfl ?_|(refine aC rfl ?_ ?_<;>rintro⟨⟩));all_goals try contradiction
  refine aK ?_
  (repeat first|refine tA rfl ?_ |refine s2 rfl fun _ _hb=>?_ |refine sP rfl (h2) rfl ?_ |refine aU rfl ?_ |refine Aa ?_)
  (repeat' first|refine tA rfl ?_ |refine sP rfl (h2) rfl ?_ |refine aU rfl ?_ |refine Aa ?_|(refine aC rfl ?_ ?_<;>rintro⟨⟩));all_goals try contradiction
  refine aK ?_
  (repeat first|refine tA rfl ?_ |refine sP rfl (h3) rfl ?_ |refine aU rfl ?_ |refine Aa ?_)
  cases b0
  ·(repeat first|refine s2 rfl fun _ _hb=>?_ |refine sP rfl (h4) rfl ?_ |refine Aa ?_)
   ((refine aC rfl ?_ ?_<;>rintro⟨⟩);all_goals try (simp at _hb;done))
   (repeat first|refine tA rfl ?_ |refine aU rfl ?_ |refine Aa ?_)
   (subst_vars;exact aR ⟨_,rfl,rfl⟩)
  ·(repeat first|refine s2 rfl fun _ _hb=>?_ |refine sP rfl (h4) rfl ?_ |refine Aa ?_)
   ((refine aC rfl ?_ ?_<;>rintro⟨⟩);all_goals try (simp at _hb;done))
   refine aK ?_
   (repeat first|refine tA rfl ?_ |refine aU rfl ?_ |refine Aa ?_)
   (subst_vars;exact aR ⟨_,rfl,rfl⟩)
end
end Go.Am
