/-
  What all rows share: how the arguments read, what a law that computes true leaves, a world that holds the tables.
-/
import Derived.Test.YtkdilmleinnfiaaGreatDoorCards
import Derived.Test.YtkdilmleinnfiaaGreatDoorTie
import Derived.Test.YtkdilmleinnfiaaGreatDoorPart6
import Derived.Test.YtkdilmleinnfiaaGreatDoorPart8
import Derived.WalkKit
import Derived.Test.YtkdilmleinnfiaaGreatDoorPart7
set_option linter.constructorNameAsVariable false
set_option linter.unusedSectionVars false
set_option linter.unusedSimpArgs false
set_option linter.unusedVariables false
namespace Go.Proofs.YtkdilmleinnfiaaGreatDoor
open Go Go.Am Go.ChangeShapes Go.WideShapes Go.ChangeAt Go.RowKit
theorem own:ownKnob Tryz.prog.godebug=none:=by kernel_rfl
theorem laidOut:laidOutB Tryz.prog=true:=by kernel_rfl
section
variable {w:World}
end
theorem XW{f:FuncId}{W:World}{TB:Bw}{es:List E}{vs:Array Value}(hno:TB.hid=none)(h:Pure Tryz.prog TB f es (eB true))(ht:∀x∈TB,below W x.1∧W.heap[x.1]? = some x.2)(ha:LJ (QY W) es vs) :
 Calls Tryz.prog f vs W fun e W'=>e=.returned (.bool true)∧Fs W W':=by
 have hg:Am.Good TB (QY W) [] 0 ⟨fun _=>False,fun _=>False⟩:=⟨fun _ h=>h,FV,ht,rfl,⟨by unfold Am.Na;rw [hno];exact fun _ h=>h,fun _ h=>h.elim,fun _ h=>h.elim,fun _ _ h=>h⟩⟩
 refine(h.2 (QY W) vs _ hg ha).mono ?_
 rintro e W' ⟨V',v,x,σ',rfl,rfl,hi,hx,rfl⟩
 have hv:v=.bool true:=AI.val hx
 subst hv
 exact⟨rfl,hi.os,hi.output,hi.ext.size,fun b hb=>hi.old b hb fun h=>h.elim (fun ⟨_,_,h,_⟩=>by cases h) fun h=>h⟩
def Qm(l:List Value):Obj→Obj
 | .cells _ t frozen=>.cells l.toArray t frozen
 | o=>o
noncomputable def Zp(os:Os):World:=
 {World.holding Tryz.prog os ⟨#[],#[],[]⟩ with heap:=((((World.holding Tryz.prog os ⟨#[],#[],[]⟩).heap.modify 1 (Qm Fj)).modify 2 (Qm Fk)).modify 0 (Qm Lx)) }
end Go.Proofs.YtkdilmleinnfiaaGreatDoor
namespace Go.Am.R
open Go
structure Bz where
 f:Env
 σ:Ab
 nx:Nat
 pd:Nat→Option (TypeId×List Value)
def Bz.put(S:Bz)(d:Option Tmp)(x:E):Bz:=⟨Bs S.f d x,S.σ,S.nx,fun t=>if d=some t then none else S.pd t⟩
def Bz.Fg(S:Bz)(d:Tmp)(q:TypeId×List Value):Bz:=⟨S.f,S.σ,S.nx,fun t=>if t=d then some q else S.pd t⟩
def Bz.ad(S:Bz)(d:Tmp)(T:TypeId)(z:List Value):Bz:=⟨Bs S.f (some d) (.o (.ptr S.nx z.length 0 0)),(S.nx,.cells T z.length [z.map zC])::S.σ,S.nx+1,fun t=>if t=d then none else S.pd t⟩
theorem Bz.put_comm(S:Bz){d d':Option Tmp}{x y:E}(h:∀t,d=some t→d'≠some t):(S.put d x).put d' y=(S.put d' y).put d x:=by
 unfold Bz.put
 rw [Jg h]
 congr 1
 funext t
 simp only
 split<;>split<;>rfl
theorem Bz.O3(S:Bz){d':Option Tmp}{d:Tmp}{q:TypeId×List Value}{y:E}(h:d'≠some d):(S.put d' y).Fg d q=(S.Fg d q).put d' y:=by
 unfold Bz.put Bz.Fg
 simp only [Bz.mk.injEq,true_and]
 funext t
 by_cases e:t=d
 ·subst e;simp [h]
 ·simp [e]
theorem Bz.Tc(S:Bz){d d':Tmp}{q q':TypeId×List Value}(h:d≠d'):(S.Fg d q).Fg d' q'=(S.Fg d' q').Fg d q:=by
 unfold Bz.Fg
 simp only [Bz.mk.injEq,true_and]
 funext t
 by_cases e:t=d
 ·subst e;simp [h]
 ·simp [e]
theorem Bz.XR(S:Bz){d':Option Tmp}{d:Tmp}{T:TypeId}{z:List Value}{y:E}(h:d'≠some d):(S.put d' y).ad d T z=(S.ad d T z).put d' y:=by
 unfold Bz.put Bz.ad
 simp only
 rw [Jg (d:=d') (d':=some d) (fun t ht e=>h (by rw [ht,e]))]
 congr 1
 funext t
 by_cases e:t=d
 ·subst e;simp
 ·simp [e]
theorem Bz.Wq(S:Bz){d' d:Tmp}{T:TypeId}{z:List Value}{q:TypeId×List Value}(h:d'≠d):(S.Fg d' q).ad d T z=(S.ad d T z).Fg d' q:=by
 unfold Bz.Fg Bz.ad
 simp only [Bz.mk.injEq,true_and]
 funext t
 by_cases e:t=d
 ·subst e;simp [Ne.symm h]
 ·simp [e]
section
variable (P:Program)(TB:Bw)(ops:Array Oper)
def QC(c:Nat)(o:Oper)(S:Bz)(x:E):Prop:=
 if c=2 then ∀Γ σ nx,AY P TB Γ o S.f σ nx x else if c=0 then ∀Γ,AY P TB Γ o S.f S.σ S.nx x else 10≤c∧∀Γ σ nx,look σ (c - 10)=look S.σ (c - 10)→AY P TB Γ o S.f σ nx x
def Mv(c:Nat)(o:Oper)(S:Bz)(u:Bz→Bz):Prop:=
 (c≠3∧Be ops o S.f=some false∧u=fun S=>S.put o.dst (.t []))∨
 (c≠3∧Be ops o S.f=some true∧∃x,QC P TB c o S x∧u=fun S=>S.put o.dst x)∨
 (c=3∧o.guard=none∧∃d T z,o.dst=some d∧o.op=.alloc T∧TC P T=some z∧z.all Ml=true∧S.f d=none∧u=fun S=>S.Fg d (T,z))
def Wn(m:Nat)(o:Oper)(K:Bz→Prop)(S:Bz):Prop:=
 (Be ops o S.f=some false∧K (S.put o.dst (.t [])))∨(Be ops o S.f=some true∧∀Γ,B2 P TB Γ o S.f S.σ S.nx (fun x σ' nx'=>Kept m S.σ σ'∧K (Bz.put ⟨S.f,σ',nx',S.pd⟩ o.dst x)))
def St(c:Nat)(o:Oper)(K:Bz→Prop)(S:Bz):Prop:=
 if c=1 then Wn P TB ops 0 o K S else
 if 1000≤c then Wn P TB ops (c - 1000) o K S else
 if c=5 then ∃d T z,.tmp d∈o.op.operands∧S.pd d=some (T,z)∧Wn P TB ops 0 o K (S.ad d T z) else
 ∃u,Mv P TB ops c o S u∧K (u S)
def Lex:List (Nat×Nat)→(Bz→Prop)→Bz→Prop
 | [],K,S=>K S
 | (i,c)::r,K,S=>∃o,ops[i]? = some o∧St P TB ops c o (Lex r K) S
end
section
variable {P:Program}{TB:Bw}{ops:Array Oper}
theorem Wn.mono{m:Nat}{o:Oper}{K K':Bz→Prop}{S:Bz}(h:∀S,K S→K' S)(hs:Wn P TB ops m o K S):Wn P TB ops m o K' S:=by
 rcases hs with ⟨h1,h2⟩|⟨h1,h2⟩
 ·exact .inl ⟨h1,h _ h2⟩
 ·exact .inr ⟨h1,fun Γ=>(h2 Γ).mono fun _ _ _ h3=>⟨h3.1,h _ h3.2⟩⟩
theorem St.mono{c:Nat}{o:Oper}{K K':Bz→Prop}{S:Bz}(h:∀S,K S→K' S)(hs:St P TB ops c o K S):St P TB ops c o K' S:=by
 unfold St at *
 split
 ·rename_i e;rw [if_pos e] at hs;exact hs.mono h
 ·rename_i e;rw [if_neg e] at hs
  split
  ·rename_i e;rw [if_pos e] at hs;exact hs.mono h
  ·rename_i e;rw [if_neg e] at hs
   split
   ·rename_i e5;rw [if_pos e5] at hs
    obtain⟨d,T,z,h1,h2,h3⟩:=hs
    exact⟨d,T,z,h1,h2,h3.mono h⟩
   ·rename_i e5;rw [if_neg e5] at hs
    obtain⟨u,h1,h2⟩:=hs
    exact⟨u,h1,h _ h2⟩
def WA(x y:Oper):Bool:=(x.looksAt ops).all fun t=>!(y.looksAt ops).contains t
def It(ci cj:Nat):Bool:=
 Nat.beq ci 2 || (Nat.beq ci 3 || ((Nat.beq ci 0 && (!Nat.beq cj 1 && (!Nat.beq cj 5 && Nat.ble cj 999))) || (Nat.ble 10 ci && (Nat.ble ci 999 && (!Nat.beq cj 1 && (!Nat.beq cj 5 && (Nat.ble cj 999 || (cj - 1000).testBit (ci - 10))))))))
theorem Iu{ci cj:Nat}(h:It ci cj=true):ci=2∨ci=3∨(ci=0∧cj≠1∧cj≠5∧cj < 1000)∨(10≤ci∧ci < 1000∧cj≠1∧cj≠5∧(cj < 1000∨(cj - 1000).testBit (ci - 10)=true)):=by
 unfold It at h
 have nb:∀a b:Nat,(!Nat.beq a b)=true→a≠b:=fun a b h e=>by subst e;simp at h
 simp only [Bool.or_eq_true,Bool.and_eq_true,Nat.beq_eq,Nat.ble_eq] at h
 rcases h with h|h|⟨h1,h2,h3,h4⟩|⟨h1,h2,h3,h4,h5⟩
 ·exact .inl h
 ·exact .inr (.inl h)
 ·exact .inr (.inr (.inl ⟨h1,nb _ _ h2,nb _ _ h3,by omega⟩))
 ·exact .inr (.inr (.inr ⟨h1,by omega,nb _ _ h3,nb _ _ h4,h5.imp (fun h=>by omega) id⟩))
def UZ(ops:Array Oper)(i ci j cj:Nat):Bool:=
 waits ops i ops.size j || (match ops[i]?,ops[j]? with
  | some x,some y=>x.apart ops y && It ci cj && (!Nat.beq cj 5 || WA (ops:=ops) x y)
  | _,_=>false)
def NC(ops:Array Oper)(i c:Nat)(r:List (Nat×Nat)):Bool:=r.all fun (j,cj)=>UZ ops i c j cj
def CS(ops:Array Oper):List (Nat×Nat)→Bool
 | []=>true
 | (i,c)::r=>NC ops i c r && CS ops r
theorem Mv.put{c:Nat}{o:Oper}{S:Bz}{u:Bz→Bz}(h:Mv P TB ops c o S u){d:Option Tmp}{x:E}{σ:Ab}{nx:Nat}{pd:Nat→Option (TypeId×List Value)}(hd:∀t,d=some t→t∉o.looksAt ops)(hd2:∀t,o.dst=some t→d≠some t)(hs:c=0→σ=S.σ∧nx=S.nx)(hl:10≤c→look σ (c - 10)=look S.σ (c - 10)) :
 Mv P TB ops c o (Bz.put ⟨S.f,σ,nx,pd⟩ d x) u:=by
 have hg:Be ops o (Bz.put ⟨S.f,σ,nx,pd⟩ d x).f=Be ops o S.f:=Fa hd
 have ag:∀t,.tmp t∈o.op.operands→S.f t=Bs S.f d x t:=fun t ht=>(Eh hd t ht).symm
 rcases h with ⟨h1,h2,h3⟩|⟨h1,h2,y,h3,h4⟩|⟨h1,h2,dd,T,z,h3,h4,h5,h6,h7,h8⟩
 ·exact .inl ⟨h1,by rw [hg];exact h2,h3⟩
 ·refine .inr (.inl ⟨h1,by rw [hg];exact h2,y,?_,h4⟩)
  unfold QC at h3 ⊢
  by_cases e:c=2
  ·rw [if_pos e] at h3 ⊢
   exact fun Γ σ nx=>(h3 Γ σ nx).congr ag
  ·rw [if_neg e] at h3 ⊢
   by_cases hc0:c=0
   ·rw [if_pos hc0] at h3 ⊢
    obtain⟨rfl,rfl⟩:=hs hc0
    exact fun Γ=>(h3 Γ).congr ag
   ·rw [if_neg hc0] at h3 ⊢
    exact⟨h3.1,fun Γ σ1 nx1 hx=>(h3.2 Γ σ1 nx1 (hx.trans (hl h3.1))).congr ag⟩
 ·refine .inr (.inr ⟨h1,h2,dd,T,z,h3,h4,h5,h6,?_,h8⟩)
  show Bs S.f d x dd=none
  rw [Cu (hd2 dd h3)];exact h7
theorem Mv.cy{c:Nat}{o:Oper}{S:Bz}{u:Bz→Bz}(h:Mv P TB ops c o S u):(∃x,u=fun S=>S.put o.dst x)∨∃d q,o.dst=some d∧u=fun S=>S.Fg d q:=by
 rcases h with ⟨_,_,h3⟩|⟨_,_,y,_,h4⟩|⟨_,_,dd,T,z,h3,_,_,_,_,h8⟩
 ·exact .inl ⟨_,h3⟩
 ·exact .inl ⟨_,h4⟩
 ·exact .inr ⟨dd,_,h3,h8⟩
theorem Mv.back{c:Nat}{o oi:Oper}{S:Bz}{u v:Bz→Bz}(hu:(∃x,u=fun S=>S.put oi.dst x)∨∃d q,oi.dst=some d∧u=fun S=>S.Fg d q)(h:Mv P TB ops c o (u S) v)(h1:∀t,oi.dst=some t→t∉o.looksAt ops)(h2:∀t,oi.dst=some t→o.dst≠some t):Mv P TB ops c o S v:=by
 rcases hu with ⟨x,rfl⟩|⟨d,q,hd,rfl⟩
 ·have hg:Be ops o (S.put oi.dst x).f=Be ops o S.f:=Fa h1
  have ag:∀t,.tmp t∈o.op.operands→Bs S.f oi.dst x t=S.f t:=Eh h1
  rcases h with ⟨a1,a2,a3⟩|⟨a1,a2,y,a3,a4⟩|⟨a1,a2,dd,T,z,a3,a4,a5,a6,a7,a8⟩
  ·exact .inl ⟨a1,by rw [←hg];exact a2,a3⟩
  ·refine .inr (.inl ⟨a1,by rw [←hg];exact a2,y,?_,a4⟩)
   unfold QC at a3 ⊢
   by_cases e:c=2
   ·rw [if_pos e] at a3 ⊢;exact fun Γ σ nx=>(a3 Γ σ nx).congr ag
   ·rw [if_neg e] at a3 ⊢
    by_cases hc0:c=0
    ·rw [if_pos hc0] at a3 ⊢;exact fun Γ=>(a3 Γ).congr ag
    ·rw [if_neg hc0] at a3 ⊢;exact⟨a3.1,fun Γ σ1 nx1 hx=>(a3.2 Γ σ1 nx1 hx).congr ag⟩
  ·refine .inr (.inr ⟨a1,a2,dd,T,z,a3,a4,a5,a6,?_,a8⟩)
   have:Bs S.f oi.dst x dd=none:=a7
   rw [Cu (fun e=>h2 dd e a3)] at this;exact this
 ·exact h
theorem Pu{oi oj:Oper}{S:Bz}{u v:Bz→Bz}(hu:(∃x,u=fun S=>S.put oi.dst x)∨∃d q,oi.dst=some d∧u=fun S=>S.Fg d q)(hv:(∃x,v=fun S=>S.put oj.dst x)∨∃d q,oj.dst=some d∧v=fun S=>S.Fg d q)(h:∀t,oi.dst=some t→oj.dst≠some t):v (u S)=u (v S):=by
 rcases hu with ⟨x,rfl⟩|⟨d,q,hd,rfl⟩<;>rcases hv with ⟨y,rfl⟩|⟨d',q',hd',rfl⟩
 ·exact S.put_comm h
 ·exact S.O3 fun e=>h d' e hd'
 ·exact(S.O3 (h d hd)).symm
 ·exact S.Tc fun e=>h d hd (by rw [hd',e])
theorem Wn.swap{ci m:Nat}{oi oj:Oper}{S:Bz}{u:Bz→Bz}{K:Bz→Prop}(hci:ci=2∨ci=3∨(10≤ci∧m.testBit (ci - 10)=true))(hap:oi.apart ops oj=true)(hu:Mv P TB ops ci oi S u)(h:Wn P TB ops m oj K (u S)):Wn P TB ops m oj (fun S'=>∃u,Mv P TB ops ci oi S' u∧K (u S')) S:=by
 obtain⟨h1,h2,h3⟩:=Oper.apart_spec hap
 have hup:=hu.cy
 have h2':∀t,oi.dst=some t→oj.dst≠some t:=h2
 have hmv:∀(x:E) (σ:Ab) (nx:Nat),Kept m S.σ σ→Mv P TB ops ci oi (Bz.put ⟨S.f,σ,nx,S.pd⟩ oj.dst x) u:=fun x σ nx hkp=>hu.put (fun t ht=>h3 t ht) h2' (fun e=>by omega) (fun e=>hkp _ (by rcases hci with e1|e1|e1;omega;omega;exact e1.2))
 have hK:∀(x:E) (σ:Ab) (nx:Nat),Bz.put ⟨(u S).f,σ,nx,(u S).pd⟩ oj.dst x=u (Bz.put ⟨S.f,σ,nx,S.pd⟩ oj.dst x):=by
  intro x σ nx
  have:=Pu (S:=⟨S.f,σ,nx,S.pd⟩) hup (.inl ⟨x,rfl⟩) h2'
  rw [←this]
  rcases hup with ⟨y,rfl⟩|⟨d,q,_,rfl⟩<;>rfl
 have hg:Be ops oj (u S).f=Be ops oj S.f:=by
  rcases hup with ⟨y,rfl⟩|⟨d,q,_,rfl⟩
  ·exact Fa h1
  ·rfl
 have ag:∀t,.tmp t∈oj.op.operands→(u S).f t=S.f t:=by
  rcases hup with ⟨y,rfl⟩|⟨d,q,_,rfl⟩
  ·exact Eh h1
  ·exact fun _ _=>rfl
 have hσ:(u S).σ=S.σ∧(u S).nx=S.nx:=by rcases hup with ⟨y,rfl⟩|⟨d,q,_,rfl⟩<;>exact⟨rfl,rfl⟩
 rcases h with ⟨a1,a2⟩|⟨a1,a2⟩
 ·refine .inl ⟨by rw [←hg];exact a1,u,hmv _ S.σ S.nx (fun _ _=>rfl),?_⟩
  have:=hK (.t []) S.σ S.nx
  rw [←hσ.1,←hσ.2] at this
  have e:Bz.put ⟨(u S).f,(u S).σ,(u S).nx,(u S).pd⟩ oj.dst (.t [])=(u S).put oj.dst (.t []):=rfl
  rw [e] at this
  rw [this,hσ.1,hσ.2] at a2
  exact a2
 ·refine .inr ⟨by rw [←hg];exact a1,fun Γ=>?_⟩
  have:=(a2 Γ).congr ag
  rw [hσ.1,hσ.2] at this
  exact this.mono fun x σ' nx' hk=>by
   have hkp:Kept m S.σ σ':=hk.1
   exact⟨hkp,u,hmv x σ' nx' hkp,by rw [←hK];exact hk.2⟩
theorem St.swap{ci cj:Nat}{oi oj:Oper}{S:Bz}{u:Bz→Bz}{K:Bz→Prop}(hap:oi.apart ops oj=true)(hcc:It ci cj=true)(hfar:(!Nat.beq cj 5 || WA (ops:=ops) oi oj)=true)
 (hu:Mv P TB ops ci oi S u) (h:St P TB ops cj oj K (u S)):St P TB ops cj oj (fun S'=>∃u,Mv P TB ops ci oi S' u∧K (u S')) S:=by
 obtain⟨h1,h2,h3⟩:=Oper.apart_spec hap
 have h2':∀t,oi.dst=some t→oj.dst≠some t:=h2
 have hup:=hu.cy
 have hci:=Iu hcc
 unfold St at *
 by_cases c1:cj=1
 ·rw [if_pos c1] at h ⊢
  exact h.swap (by omega) hap hu
 ·rw [if_neg c1] at h ⊢
  by_cases ck:1000≤cj
  ·rw [if_pos ck] at h ⊢
   refine h.swap ?_ hap hu
   rcases hci with e|e|e|⟨e1,e2,e3,e4,e5|e5⟩
   ·exact .inl e
   ·exact .inr (.inl e)
   ·omega
   ·omega
   ·exact .inr (.inr ⟨e1,e5⟩)
  rw [if_neg ck] at h ⊢
  by_cases c5:cj=5
  ·rw [if_pos c5] at h ⊢
   obtain⟨d,T,z,hdo,hpd,hst⟩:=h
   have hdl:d∈oj.looksAt ops:=Ff hdo
   have hne:oi.dst≠some d:=fun e=>h1 d e hdl
   have hnl:d∉oi.looksAt ops:=by
    subst c5
    unfold WA at hfar
    simp only [Nat.beq_refl,Bool.not_true,Bool.false_or,List.all_eq_true] at hfar
    intro hd
    have:=hfar d hd
    simp [hdl] at this
   have hpd':S.pd d=some (T,z):=by
    rcases hup with ⟨x,rfl⟩|⟨d',q,hd',rfl⟩
    ·have:(if oi.dst=some d then none else S.pd d)=some (T,z):=hpd
     rwa [if_neg hne] at this
    ·have:(if d=d' then some q else S.pd d)=some (T,z):=hpd
     rwa [if_neg (fun e=>hne (by rw [hd',e]))] at this
   have hcomm:(u S).ad d T z=u (S.ad d T z):=by
    rcases hup with ⟨x,rfl⟩|⟨d',q,hd',rfl⟩
    ·exact S.XR hne
    ·exact S.Wq fun e=>hne (by rw [hd',e])
   have hmv:Mv P TB ops ci oi (S.ad d T z) u:=by
    have:=hu.put (d:=some d) (x:=.o (.ptr S.nx z.length 0 0)) (σ:=(S.nx,.cells T z.length [z.map zC])::S.σ) (nx:=S.nx+1) (pd:=S.pd) (fun t ht=>by injection ht with ht;subst ht;exact hnl) (fun t ht e=>hne (by rw [ht];exact e.symm)) (fun e=>by omega) (fun e=>by omega)
    rcases this with ⟨a1,a2,a3⟩|⟨a1,a2,y,a3,a4⟩|⟨a1,a2,dd,T',z',a3,a4,a5,a6,a7,a8⟩
    ·exact .inl ⟨a1,a2,a3⟩
    ·exact .inr (.inl ⟨a1,a2,y,a3,a4⟩)
    ·exact .inr (.inr ⟨a1,a2,dd,T',z',a3,a4,a5,a6,a7,a8⟩)
   rw [hcomm] at hst
   exact⟨d,T,z,hdo,hpd',hst.swap (by omega) hap hmv⟩
  ·rw [if_neg c5] at h ⊢
   obtain⟨v,hv,hk⟩:=h
   have hvp:=hv.cy
   refine⟨v,hv.back hup h1 h2',u,?_,by rw [←Pu hup hvp h2'];exact hk⟩
   rcases hvp with ⟨x,rfl⟩|⟨d,q,hd,rfl⟩
   ·exact hu.put (σ:=S.σ) (nx:=S.nx) (pd:=S.pd) (fun t ht=>h3 t ht) h2' (fun _=>⟨rfl,rfl⟩) (fun _=>rfl)
   ·exact hu
end
section
variable {P:Program}{TB:Bw}{ops:Array Oper}
theorem DF(K:Bz→Prop):∀(r:List (Nat×Nat)) (listed:Array Bool) (S:Bz),DQ ops listed→A3 ops r listed=true→CS ops r=true→
 Lex P TB ops r K S→∀j,j∈Region.ready .any ops listed→∃r1 c r2 o,r=r1++(j,c)::r2∧ops[j]? = some o∧St P TB ops c o (Lex P TB ops (r1++r2) K) S
 | [],listed,_,_,ho,_,_,j,hj=>by have:=IB _ _ ho j hj;simp at this
 | (i, ci) :: r,listed,S,hc,ho,hk,h,j,hj=>by
  obtain⟨oi,hoi,h⟩:=h
  by_cases hij:j=i
  ·subst hij
   exact⟨[],ci,r,oi,rfl,hoi,h⟩
  ·simp only [A3,Bool.and_eq_true] at ho
   simp only [CS,Bool.and_eq_true] at hk
   have hi:i∈Region.ready .any ops listed:=by simpa using ho.1
   have hjm:j∈r.map (·.1):=IB r _ ho.2 j (ready_mono hj hij)
   obtain⟨⟨j',cj⟩,hmem,rfl⟩:=List.mem_map.1 hjm
   have hat:=hk.1
   unfold NC at hat
   rw [List.all_eq_true] at hat
   have hnow:∀c',(j',c')∈r→∃oj,ops[j']? = some oj∧oi.apart ops oj=true∧It ci c'=true∧(!Nat.beq c' 5 || WA (ops:=ops) oi oj)=true:=by
    intro c' hm'
    have hj0:=hat _ hm'
    simp only [UZ] at hj0
    rw [Bool.or_eq_true] at hj0
    rcases hj0 with hj0|hj0
    ·exact absurd hj (JV hc (Pr (Lh hi)) hj0)
    ·rw [hoi] at hj0
     cases hoj:ops[j']? with
     | none=>rw [hoj] at hj0;cases hj0
     | some oj=>
      rw [hoj] at hj0
      simp only [Bool.and_eq_true] at hj0
      exact⟨oj,rfl,hj0.1.1,hj0.1.2,hj0.2⟩
   have hci:ci≠1∧¬1000≤ci∧ci≠5:=by
    obtain⟨oj,_,_,h2,_⟩:=hnow cj hmem
    have:=Iu h2
    omega
   have h':∃u,Mv P TB ops ci oi S u∧Lex P TB ops r K (u S):=by
    unfold St at h
    rwa [if_neg hci.1,if_neg hci.2.1,if_neg hci.2.2] at h
   obtain⟨u,hu,hl⟩:=h'
   obtain⟨r1,c,r2,oj,hr,hoj,h5⟩:=DF K r (listed.setIfInBounds i true) _ (Fu hc hi) ho.2 hk.2 hl j' (ready_mono hj hij)
   obtain⟨oj',hoj',hap,hcc,hfar⟩:=hnow c (by rw [hr];simp)
   rw [hoj] at hoj'
   injection hoj' with hoj'
   subst hoj'
   refine⟨(i,ci)::r1,c,r2,oj,by rw [hr];rfl,hoj,?_⟩
   refine(St.swap hap hcc hfar hu h5).mono fun S' ⟨u',hu',hk'⟩=>?_
   refine⟨oi,hoi,?_⟩
   unfold St
   rw [if_neg hci.1,if_neg hci.2.1,if_neg hci.2.2]
   exact⟨u',hu',hk'⟩
theorem Iz:∀(r1 r2:List (Nat×Nat)) (x:Nat×Nat),CS ops (r1++x::r2)=true→CS ops (r1++r2)=true
 | [],r2,(j,c),h=>by
  simp only [List.nil_append,CS,Bool.and_eq_true] at h
  exact h.2
 | (i,d)::r1,r2,x,h=>by
  simp only [List.cons_append,CS,Bool.and_eq_true] at h ⊢
  refine⟨?_,Iz r1 r2 x h.2⟩
  have h1:=h.1
  unfold NC at h1 ⊢
  rw [List.all_eq_true] at h1 ⊢
  intro y hy
  refine h1 y ?_
  rcases List.mem_append.1 hy with hy|hy
  ·exact List.mem_append_left _ hy
  ·exact List.mem_append_right _ (List.mem_cons_of_mem _ hy)
structure Sm (Γ:Ctx) (V:View) (σ:Ab) (b:Nat) (T:TypeId) (z:List Value):Prop where
 cells:∃cur:Array Value,V.w.heap[b]? = some (.cells cur T (0,0))∧cur.toList=z
 ni:¬V.I b
 ns:∀id o,look σ id=some o→¬V.nl id→¬DC V id o b
 lo:Γ.V.w.heap.size≤b
 zok:z.all Ml=true
theorem Sm.lt{Γ:Ctx}{V:View}{σ:Ab}{b:Nat}{T:TypeId}{z:List Value}(h:Sm Γ V σ b T z):b < V.w.heap.size:=by
 obtain⟨cur,h1,_⟩:=h.cells
 exact(Array.getElem?_eq_some_iff.1 h1).1
theorem Inv.comp{Γ:Ctx}{V V':View}{σ σ':Ab}{Q:PD}(h:Inv TB Γ V σ)(hj:∀b,Q.J b→Γ.J b∨Γ.V.w.heap.size≤b∨Γ.F b)(hq:∀b,Q.B b→Γ.V.w.heap.size≤b∨Γ.F b)(h':Inv TB (EO V V σ Q) V' σ'):Inv TB Γ V' σ':=by
 have hf:∀b,C5 V σ b∨Q.B b→Γ.V.w.heap.size≤b∨Γ.F b:=by
  rintro b (⟨id,o,h1,h2,h3⟩|hb)
  ·exact h.live id o h1 h2 b h3
  ·exact hq b hb
 refine⟨h'.os.trans h.os,h'.tape.trans h.tape,h'.output.trans h.output,fun b hb hn=>?_,h'.iLt,fun b hb=>?_,h.ext.trans h'.ext,h'.st,fun id o h1 h2 b hb=>?_,h'.tabs,?_⟩
 ·have h1:¬(C5 V σ b∨Q.B b):=fun hx=>by rcases hf b hx with h2|h2;omega;exact hn h2
  exact(h'.old b (Nat.lt_of_lt_of_le hb h.ext.size) h1).trans (h.old b hb hn)
 ·rcases h'.iNew b hb with h1|h1|h1
  ·exact h.iNew b h1
  ·exact .inr (.inl (Nat.le_trans h.ext.size h1))
  ·exact .inr (hf b h1)
 ·rcases h'.live id o h1 h2 b hb with h3|h3
  ·exact .inl (Nat.le_trans h.ext.size h3)
  ·exact hf _ h3
 ·obtain⟨Q1,k1,k2,k3⟩:=h'.hid
  refine⟨Q1,k1,fun b hb=>?_,fun b hb=>?_⟩
  ·rcases k2 b hb with h3|h3|h3
   ·exact hj b h3
   ·exact .inr (.inl (Nat.le_trans h.ext.size h3))
   ·exact .inr (hf b h3)
  ·rcases k3 b hb with h3|h3
   ·exact .inl (Nat.le_trans h.ext.size h3)
   ·exact hf b h3
theorem Sm.comp{Γ:Ctx}{V V':View}{σ σ':Ab}{b:Nat}{T:TypeId}{z:List Value}{Q:PD}(hp:Sm Γ V σ b T z)(hnq:¬Q.B b)(h':Inv TB (EO V V σ Q) V' σ'):Sm Γ V' σ' b T z:=by
 have hlt:=hp.lt
 have hnf:¬(C5 V σ b∨Q.B b):=by
  rintro(⟨id,o,h1,h2,h3⟩|hb)
  ·exact hp.ns id o h1 h2 h3
  ·exact hnq hb
 refine⟨?_,fun hI=>?_,fun id o h1 h2 e=>?_,hp.lo,hp.zok⟩
 ·obtain⟨cur,h1,h2⟩:=hp.cells
  exact⟨cur,(h'.old b hlt hnf).trans h1,h2⟩
 ·rcases h'.iNew b hI with h1|h1|h1
  ·exact hp.ni h1
  ·have h1:V.w.heap.size≤b:=h1;omega
  ·exact hnf h1
 ·rcases h'.live id o h1 h2 b e with h3|h3
  ·have h3:V.w.heap.size≤b:=h3;omega
  ·exact hnf h3
structure Zv (TB:Bw) (Γ:Ctx) (V:View) (S:Bz) (a:Act) (Q:PD):Prop where
 s:LK TB V S.σ Q
 j:∀b,Q.J b→Γ.J b∨Γ.V.w.heap.size≤b∨Γ.F b
 b:∀b,Q.B b→Γ.V.w.heap.size≤b∨Γ.F b
 p:∀d q b,S.pd d=some q→a.tmps[d]? = some (.pointer (some ⟨b,0,none⟩))→¬Q.B b
structure Hi (TB:Bw) (Γ:Ctx) (N:Nat) (V:View) (S:Bz) (a:Act):Prop where
 st:BM TB Γ N V S.f S.σ S.nx a
 pd:∀d T z,S.pd d=some (T,z)→S.f d=none∧∃b,a.tmps[d]? = some (.pointer (some ⟨b,0,none⟩))∧Sm Γ V S.σ b T z
 ne:∀d d' q q' b b',S.pd d=some q→S.pd d'=some q'→d≠d'→a.tmps[d]? = some (.pointer (some ⟨b,0,none⟩))→a.tmps[d']? = some (.pointer (some ⟨b',0,none⟩))→b≠b'
 sc:∃Q,Zv TB Γ V S a Q
variable {Γ:Ctx}{N:Nat}{V V':View}{S:Bz}{a:Act}
theorem FO{a:Act}{d:Option Tmp}{v:Value}{t:Nat}(h:d≠some t):(a.put d v).tmps[t]? = a.tmps[t]?:=by
 cases d with
 | none=>rfl
 | some d=>
  have:d≠t:=fun e=>h (by rw [e])
  simp [Act.put,Array.getElem?_setIfInBounds_ne this]
theorem Hi.put(h:Hi TB Γ N V S a){d:Option Tmp}{x:E}{v:Value}{σ':Ab}{nx':Nat}(hd:∀t,d=some t→t < N)(e:Ext V V'){Q:PD}(hQ:Zv TB Γ V S a Q)(hi:Inv TB (EO V V S.σ Q) V' σ')(hn:V'.nx=nx')(hx:Bc V' x v):Hi TB Γ N V' (Bz.put ⟨S.f,σ',nx',S.pd⟩ d x) (a.put d v):=by
 have hp:∀t q,(if d=some t then none else S.pd t)=some q→d≠some t∧S.pd t=some q:=fun t q hq=>by
  split at hq
  ·cases hq
  ·rename_i hne;exact⟨hne,hq⟩
 refine⟨h.st.put hd e (Inv.comp h.st.inv hQ.j hQ.b hi) hn hx,fun t T z hq=>?_,fun t t' q q' b b' hq hq' hne hb hb'=>?_,?_⟩
 ·obtain⟨h1,h2⟩:=hp t _ hq
  obtain⟨h3,b,h4,h5⟩:=h.pd t T z h2
  refine⟨?_,b,by rw [FO h1];exact h4,h5.comp (hQ.p t _ b h2 h4) hi⟩
  show Bs S.f d x t=none
  rw [Cu h1];exact h3
 ·obtain⟨h1,h2⟩:=hp t _ hq
  obtain⟨h1',h2'⟩:=hp t' _ hq'
  rw [FO h1] at hb
  rw [FO h1'] at hb'
  exact h.ne t t' q q' b b' h2 h2' hne hb hb'
 ·obtain⟨Q1,k1,k2,k3⟩:=hi.hid
  refine⟨Q1,k1,fun b hb=>?_,fun b hb=>?_,fun t q b hq hb hB=>?_⟩
  ·rcases k2 b hb with h3|h3|h3|h3
   ·exact hQ.j b h3
   ·exact .inr (.inl (Nat.le_trans h.st.inv.ext.size h3))
   ·obtain⟨id,o,g1,g2,g3⟩:=h3;exact .inr (h.st.inv.live id o g1 g2 b g3)
   ·exact .inr (hQ.b b h3)
  ·rcases k3 b hb with h3|h3|h3
   ·exact .inl (Nat.le_trans h.st.inv.ext.size h3)
   ·obtain⟨id,o,g1,g2,g3⟩:=h3;exact h.st.inv.live id o g1 g2 b g3
   ·exact hQ.b b h3
  ·obtain⟨h1,h2⟩:=hp t _ hq
   rw [FO h1] at hb
   obtain⟨_,b2,h4,h5⟩:=h.pd t q.1 q.2 h2
   rw [hb] at h4
   injection h4 with h4;injection h4 with h4;injection h4 with h4;injection h4 with h4
   subst h4
   rcases k3 b hB with h3|h3|h3
   ·have h3:V.w.heap.size≤b:=h3
    have:=h5.lt;omega
   ·obtain⟨id,o,g1,g2,g3⟩:=h3;exact h5.ns id o g1 g2 g3
   ·exact hQ.p t _ b h2 hb h3
theorem Inv.grow{σ:Ab}(h:Inv TB Γ V σ){w:World}(hos:w.os=V.w.os)(ht:w.tape=V.w.tape)(ho:w.output=V.w.output)(hs:V.w.heap.size≤w.heap.size)(hw:∀b,b < V.w.heap.size→w.heap[b]? = V.w.heap[b]?):Inv TB Γ { V with w:=w } σ∧Ext V { V with w:=w } := by
 have e:Ext V { V with w:=w } := ⟨fun _ h=>h,fun b hb=>hw b (h.iLt b hb),hs,fun _ _=>rfl,fun _ _=>rfl,fun _ _=>Iff.rfl,Nat.le_refl _⟩
 refine⟨⟨hos.trans h.os,ht.trans h.tape,ho.trans h.output,fun b hb hf=>(hw b (Nat.lt_of_lt_of_le hb h.ext.size)).trans (h.old b hb hf),fun b hb=>Nat.lt_of_lt_of_le (h.iLt b hb) hs,h.iNew,h.ext.trans e,⟨fun id o hl=>?_,h.st.lt,h.st.free,h.st.inj⟩,h.live,fun x hx=>?_,h.hid.step (fun _ h=>h) e.heap hs (fun b hb _ _=>hw b hb) (fun _ h=>.inl h) fun b hb=>.inl (GB e h.st.lt hb)⟩,e⟩
 ·exact(h.st.obj id o hl).Bb e (h.st.lt id o hl) fun hn b hb=>hw _ ((h.st.obj id o hl).blt hn hb)
 ·have:=h.tabs x hx
  exact⟨this.1,(hw _ (h.iLt _ this.1)).trans this.2⟩
theorem Hi.alloc(h:Hi TB Γ N V S a){d:Tmp}{T:TypeId}{zv:Value}{z:List Value}(hd:d < N)(hf:S.f d=none)(hz:zv.cells.toList=z)(hok:z.all Ml=true):Hi TB Γ N { V with w:=V.w.alloc (.cells zv.cells T) } (S.Fg d (T,z)) (a.put (some d) (.pointer (some ⟨V.w.heap.size,0,none⟩))):=by
 obtain⟨hi,he⟩:=Inv.grow h.st.inv (w:=V.w.alloc (.cells zv.cells T)) rfl rfl rfl (by simp) (fun b hb=>AV _ _ _ hb)
 have hds:d < a.tmps.size:=by rw [h.st.size];exact hd
 have hput:(a.put (some d) (.pointer (some ⟨V.w.heap.size,0,none⟩))).tmps[d]? = some (.pointer (some ⟨V.w.heap.size,0,none⟩)):=by
  simp [Act.put,hds]
 refine⟨⟨fun t e ht=>?_,h.st.lt,by simp [Act.put,h.st.size],hi,h.st.nx,h.st.defers⟩,fun t T' z' hq=>?_,fun t t' q q' b b' hq hq' hne hb hb'=>?_,?_⟩
 ·have ht:S.f t=some e:=ht
  have hne:d≠t:=fun e=>by subst e;rw [hf] at ht;cases ht
  have:=(h.st.env t e ht).ext he
  simpa [Act.put,Array.getElem?_setIfInBounds_ne hne] using this
 ·have hq:(if t=d then some (T,z) else S.pd t)=some (T',z'):=hq
  by_cases e:t=d
  ·subst e
   rw [if_pos rfl] at hq
   injection hq with hq;injection hq with hq1 hq2
   subst hq1 hq2
   refine⟨hf,_,hput,⟨⟨zv.cells,BJ _ _,hz⟩,fun hI=>?_,fun id o h1 h2 e=>?_,?_,hok⟩⟩
   ·exact Nat.lt_irrefl _ (h.st.inv.iLt _ hI)
   ·have h3:=(h.st.inv.st.obj id o h1).blt h2 e
    omega
   ·exact h.st.inv.ext.size
  ·rw [if_neg e] at hq
   obtain⟨h1,b,h2,h3⟩:=h.pd t T' z' hq
   refine⟨h1,b,by rw [FO (fun e'=>e (by injection e' with e';exact e'.symm))];exact h2,⟨?_,h3.ni,h3.ns,h3.lo,h3.zok⟩⟩
   obtain⟨cur,h4,h5⟩:=h3.cells
   exact⟨cur,(AV _ _ _ h3.lt).trans h4,h5⟩
 ·have hq:(if t=d then some (T,z) else S.pd t)=some q:=hq
  have hq':(if t'=d then some (T,z) else S.pd t')=some q':=hq'
  have old:∀t q b,t≠d→S.pd t=some q→(a.put (some d) (.pointer (some ⟨V.w.heap.size,0,none⟩))).tmps[t]? = some (.pointer (some ⟨b,0,none⟩))→a.tmps[t]? = some (.pointer (some ⟨b,0,none⟩))∧b < V.w.heap.size:=fun t q b e hq hb=>by
   rw [FO (fun e'=>e (by injection e' with e';exact e'.symm))] at hb
   obtain⟨_,b2,h2,h3⟩:=h.pd t q.1 q.2 hq
   rw [hb] at h2
   injection h2 with h2;injection h2 with h2;injection h2 with h2;injection h2 with h2
   subst h2
   exact⟨hb,h3.lt⟩
  by_cases e:t=d
  ·subst e
   rw [hput] at hb
   injection hb with hb;injection hb with hb;injection hb with hb;injection hb with hb
   rw [if_neg (Ne.symm hne)] at hq'
   have:=(old t' q' b' (Ne.symm hne) hq' hb').2
   omega
  ·rw [if_neg e] at hq
   have h1:=old t q b e hq hb
   by_cases e':t'=d
   ·subst e'
    rw [hput] at hb'
    injection hb' with hb';injection hb' with hb';injection hb' with hb';injection hb' with hb'
    omega
   ·rw [if_neg e'] at hq'
    exact h.ne t t' q q' b b' hq hq' hne h1.1 (old t' q' b' e' hq' hb').1
 ·obtain⟨Q,hQ⟩:=h.sc
  refine⟨Q,hQ.s.step (fun _ h=>h) he.heap he.size (fun b hb _ _=>AV _ _ _ hb) (fun _ h=>.inl h) fun b hb=>.inl (GB he h.st.inv.st.lt hb),hQ.j,hQ.b,fun t q b hq hb hB=>?_⟩
  have hq:(if t=d then some (T,z) else S.pd t)=some q:=hq
  by_cases e:t=d
  ·subst e
   rw [hput] at hb
   injection hb with hb;injection hb with hb;injection hb with hb;injection hb with hb
   have:=hQ.s.r.blt hB
   omega
  ·rw [if_neg e] at hq
   rw [FO (fun e'=>e (by injection e' with e';exact e'.symm))] at hb
   exact hQ.p t q b hq hb hB
theorem Hi.Zy(h:Hi TB Γ N V S a){d:Tmp}{T:TypeId}{z:List Value}(hd:d < N)(hq:S.pd d=some (T,z)):∃V',V'.w=V.w∧Hi TB Γ N V' (S.ad d T z) a:=by
 obtain⟨hf,b,hb,hp⟩:=h.pd d T z hq
 obtain⟨cur,hcur,hcz⟩:=hp.cells
 have hi:=h.st.inv
 have hnx:=h.st.nx
 have e:Ext V (Au V b 1 False V.w):=Da (Nat.le_refl _) fun _ _=>rfl
 have hρ:(Au V b 1 False V.w).ρ V.nx=b:=by simp [Au]
 have hrel:Cp (Au V b 1 False V.w) (z.map zC) cur:=by
  refine⟨by rw [List.length_map,←hcz];simp,fun j c v hj hv=>?_⟩
  have hzj:z[j]? = some v:=by rw [←hcz,Array.getElem?_toList];exact hv
  rw [List.getElem?_map,hzj] at hj
  injection hj with hj
  subst hj
  exact JA (List.all_eq_true.1 hp.zok v (List.mem_of_getElem? hzj))
 have hkeep:∀id o,look ((S.nx,O.cells T z.length [z.map zC])::S.σ) id=some o→(id=V.nx∧o=O.cells T z.length [z.map zC])∨(id≠V.nx∧look S.σ id=some o):=fun id o hl=>by
  rw [Ax] at hl
  rw [←hnx] at hl
  by_cases hid:V.nx=id
  ·rw [if_pos hid] at hl;injection hl with hl;exact .inl ⟨hid.symm,hl.symm⟩
  ·rw [if_neg hid] at hl;exact .inr ⟨Ne.symm hid,hl⟩
 have hnlk:∀id,id < V.nx→((Au V b 1 False V.w).nl id↔V.nl id):=fun id hid=>e.nl id hid
 obtain⟨Q,hQ⟩:=h.sc
 have hsQ:LK TB (Au V b 1 False V.w) ((S.nx,O.cells T z.length [z.map zC])::S.σ) Q:=by
  refine⟨hQ.s.r,hQ.s.ji,hQ.s.bi,fun b' ⟨id,o,hl,hn,hb'⟩ hB=>?_⟩
  rcases hkeep id o hl with ⟨rfl,rfl⟩|⟨h1,h2⟩
  ·have hb':b'=_:=hb'
   rw [hρ] at hb';subst hb'
   exact hQ.p d _ _ hq hb hB
  ·have hlt:=hi.st.lt id o h2
   exact hQ.s.ap b' ⟨id,o,h2,fun hx=>hn ((hnlk id hlt).2 hx),(AG e hlt).1 hb'⟩ hB
 have hinv:Inv TB Γ (Au V b 1 False V.w) ((S.nx,O.cells T z.length [z.map zC])::S.σ):=by
  refine⟨hi.os,hi.tape,hi.output,hi.old,hi.iLt,hi.iNew,hi.ext.trans e,⟨fun id o hl=>?_,fun id o hl=>?_,fun id o hl hn b' hb' hI=>?_,fun id id' o o' hl hl' hne hn hn' b' hb1 hb2=>?_⟩,fun id o hl hn b' hb'=>?_,hi.tabs,⟨Q,hsQ,hQ.j,hQ.b⟩⟩
  ·rcases hkeep id o hl with ⟨rfl,rfl⟩|⟨h1,h2⟩
   ·refine .inr ⟨by simp [Au],cur,by rw [hρ];exact hcur,?_,by simp [Au],by simp [Au,maxLen],?_,?_⟩
    ·simp [Au,←hcz]
    ·intro r hr;simp at hr;subst hr;simp
    ·intro i r j c hi hj
     have h1:=RU hrel i r j c hi hj
     rw [List.length_map] at h1
     exact h1
   ·exact(hi.st.obj id o h2).Bb e (hi.st.lt id o h2) fun _ _ _=>rfl
  ·rcases hkeep id o hl with ⟨rfl,rfl⟩|⟨h1,h2⟩
   ·exact Nat.lt_succ_self _
   ·exact Nat.lt_succ_of_lt (hi.st.lt id o h2)
  ·rcases hkeep id o hl with ⟨rfl,rfl⟩|⟨h1,h2⟩
   ·have hb':b'=_:=hb'
    rw [hρ] at hb';subst hb';exact hp.ni hI
   ·have hlt:=hi.st.lt id o h2
    exact hi.st.free id o h2 (fun hx=>hn ((hnlk id hlt).2 hx)) b' ((AG e hlt).1 hb') hI
  ·rcases hkeep id o hl with ⟨rfl,rfl⟩|⟨h1,h2⟩<;>rcases hkeep id' o' hl' with ⟨rfl,rfl⟩|⟨h1',h2'⟩
   ·exact absurd rfl hne
   ·have hlt:=hi.st.lt id' o' h2'
    have hb1:b'=_:=hb1
    rw [hρ] at hb1;subst hb1
    exact hp.ns id' o' h2' (fun hx=>hn' ((hnlk id' hlt).2 hx)) ((AG e hlt).1 hb2)
   ·have hlt:=hi.st.lt id o h2
    have hb2:b'=_:=hb2
    rw [hρ] at hb2;subst hb2
    exact hp.ns id o h2 (fun hx=>hn ((hnlk id hlt).2 hx)) ((AG e hlt).1 hb1)
   ·have hlt:=hi.st.lt id o h2
    have hlt':=hi.st.lt id' o' h2'
    exact hi.st.inj id id' o o' h2 h2' hne (fun hx=>hn ((hnlk id hlt).2 hx)) (fun hx=>hn' ((hnlk id' hlt').2 hx)) b' ((AG e hlt).1 hb1) ((AG e hlt').1 hb2)
  ·rcases hkeep id o hl with ⟨rfl,rfl⟩|⟨h1,h2⟩
   ·have hb':b'=_:=hb'
    rw [hρ] at hb';subst hb';exact .inl hp.lo
   ·have hlt:=hi.st.lt id o h2
    exact hi.live id o h2 (fun hx=>hn ((hnlk id hlt).2 hx)) b' ((AG e hlt).1 hb')
 refine⟨Au V b 1 False V.w,rfl,⟨fun t x ht=>?_,fun t x ht=>?_,h.st.size,hinv,by show V.nx+1=S.nx+1;rw [hnx],h.st.defers⟩,fun t T' z' hq'=>?_,fun t t' q q' b1 b1' hq1 hq1' hne hb1 hb1'=>?_,⟨Q,hsQ,hQ.j,hQ.b,fun t q b1 hq1 hb1=>?_⟩⟩
 ·by_cases et:t=d
  ·subst et
   have ht:Bs S.f (some t) (.o (.ptr S.nx z.length 0 0)) t=some x:=ht
   simp only [Bs,if_true] at ht
   injection ht with ht
   subst ht
   have hg:a.tmps.getD t undef=.pointer (some ⟨b,0,none⟩):=by simp [hb]
   rw [hg,←hnx]
   exact Kt
  ·have ht:Bs S.f (some d) (.o (.ptr S.nx z.length 0 0)) t=some x:=ht
   rw [Cu (fun e'=>et (by injection e' with e';exact e'.symm))] at ht
   exact(h.st.env t x ht).ext e
 ·by_cases et:t=d
  ·subst et;exact hd
  ·have ht:Bs S.f (some d) (.o (.ptr S.nx z.length 0 0)) t=some x:=ht
   rw [Cu (fun e'=>et (by injection e' with e';exact e'.symm))] at ht
   exact h.st.lt t x ht
 ·have hq':(if t=d then none else S.pd t)=some (T',z'):=hq'
  by_cases et:t=d
  ·rw [if_pos et] at hq';cases hq'
  ·rw [if_neg et] at hq'
   obtain⟨h1,b2,h2,h3⟩:=h.pd t T' z' hq'
   refine⟨?_,b2,h2,⟨h3.cells,h3.ni,fun id o hl hn=>?_,h3.lo,h3.zok⟩⟩
   ·show Bs S.f (some d) _ t=none
    rw [Cu (fun e'=>et (by injection e' with e';exact e'.symm))];exact h1
   ·rcases hkeep id o hl with ⟨rfl,rfl⟩|⟨h4,h5⟩
    ·intro hx
     have hx:b2=_:=hx
     rw [hρ] at hx;exact h.ne d t _ _ b b2 hq hq' (Ne.symm et) hb h2 hx.symm
    ·have hlt:=hi.st.lt id o h5
     exact fun hx=>h3.ns id o h5 (fun hx=>hn ((hnlk id hlt).2 hx)) ((AG e hlt).1 hx)
 ·have hq1:(if t=d then none else S.pd t)=some q:=hq1
  have hq1':(if t'=d then none else S.pd t')=some q':=hq1'
  by_cases et:t=d
  ·rw [if_pos et] at hq1;cases hq1
  ·by_cases et':t'=d
   ·rw [if_pos et'] at hq1';cases hq1'
   ·rw [if_neg et] at hq1;rw [if_neg et'] at hq1'
    exact h.ne t t' q q' b1 b1' hq1 hq1' hne hb1 hb1'
 ·have hq1:(if t=d then none else S.pd t)=some q:=hq1
  by_cases et:t=d
  ·rw [if_pos et] at hq1;cases hq1
  ·rw [if_neg et] at hq1
   exact hQ.p t q b1 hq1 hb1
end
section
variable {P:Program}{TB:Bw}{ops:Array Oper}{Γ:Ctx}{N:Nat}
def QQ(TB:Bw)(Γ:Ctx)(N:Nat)(K:Bz→Prop)(Q:Exit→Act→World→Prop):Prop:=∀V S a,Hi TB Γ N V S a→K S→Q .normal a V.w
theorem Pl{i m:Nat}{o:Oper}(ho:ops[i]? = some o)(hd:∀t,o.dst=some t→t < N){K:Bz→Prop}{K':Act→World→Prop}{Q:Exit→Act→World→Prop}
 (hK:∀V S a,Hi TB Γ N V S a→K S→K' a V.w) {V:View} {S:Bz} {a:Act} (hr:Hi TB Γ N V S a) (h:Wn P TB ops m o K S):wpOp P ops Q i K' a V.w:=by
 have hlt:∀t e,S.f t=some e→t < a.tmps.size:=fun t e he=>by rw [hr.st.size];exact hr.st.lt t e he
 obtain⟨Q0,hQ⟩:=hr.sc
 have hgood:Good TB V S.σ S.nx Q0:=⟨hr.st.inv.iLt,hr.st.inv.st,hr.st.inv.tabs,hr.st.nx,hQ.s⟩
 unfold wpOp
 simp only [ho]
 rcases h with ⟨hg,hk⟩|⟨hg,hk⟩
 ·rw [Fo hr.st.env hlt hg]
  have h1:Hi TB Γ N V (S.put o.dst (.t [])) (a.put o.dst undef):=hr.put (σ':=S.σ) hd (Ext.refl _) hQ hgood.inv hr.st.nx (Jz V)
  simpa using hK _ _ _ h1 hk
 ·rw [Fo hr.st.env hlt hg]
  simp only [if_true]
  refine .inl (QG P (Oper.wp_mono ?_ (hk (EO V V S.σ Q0) V a (hr.st.env.op o) hgood.inv hr.st.nx)))
  rintro a' w' ⟨V',v,x,σ',rfl,rfl,e3,e4,e5,e6⟩
  exact hK V' _ _ (hr.put hd e3 hQ e4 rfl e5) e6.2
theorem Tn{d:Option Tmp}{ty:TypeId}{pos:String}{af:Array Edge}{g:Option (Nat×Bool)}{ρ:Operand→Value}{T:TypeId}{z:List Value}(hz:TC P T=some z):∃zv:Value,zv.cells.toList=z∧∀w:World,(execOp ρ ⟨d,.alloc T,ty,pos,af,g⟩).run P w=.ok (.value (.pointer (some ⟨w.heap.size,0,none⟩))) (w.alloc (.cells zv.cells T)):=by
 obtain⟨i,zv,hi,hzv,hzz⟩:=GU hz
 exact⟨zv,hzz,fun w=>by simp [execOp,Instr.alloc,zeroValue,typeInfo,hi,hzv,newVar,newRow,go_sem]⟩
theorem Kw{i c:Nat}{o:Oper}(ho:ops[i]? = some o)(hd:∀t,o.dst=some t→t < N){K:Bz→Prop}{K':Act→World→Prop}{Q:Exit→Act→World→Prop}
 (hK:∀V S a,Hi TB Γ N V S a→K S→K' a V.w) {V:View} {S:Bz} {a:Act} (hr:Hi TB Γ N V S a) (h:St P TB ops c o K S):wpOp P ops Q i K' a V.w:=by
 unfold St at h
 by_cases c1:c=1
 ·rw [if_pos c1] at h;exact Pl ho hd hK hr h
 ·rw [if_neg c1] at h
  by_cases ck:1000≤c
  ·rw [if_pos ck] at h;exact Pl ho hd hK hr h
  rw [if_neg ck] at h
  by_cases c5:c=5
  ·rw [if_pos c5] at h
   obtain⟨d,T,z,_,hpd,hst⟩:=h
   have hdN:d < N:=by
    obtain⟨_,b,hb,_⟩:=hr.pd d T z hpd
    have:=(Array.getElem?_eq_some_iff.1 hb).1
    rw [hr.st.size] at this;exact this
   obtain⟨V',e1,hr'⟩:=hr.Zy hdN hpd
   have:=Pl (Q:=Q) ho hd hK hr' hst
   rwa [e1] at this
  ·rw [if_neg c5] at h
   obtain⟨u,hm,hk⟩:=h
   rcases hm with ⟨h1,h2,rfl⟩|⟨h1,h2,x,h3,rfl⟩|⟨h1,h2,d,T,z,h3,h4,h5,h6,h7,rfl⟩
   ·exact Pl (m:=0) ho hd hK hr (.inl ⟨h2,hk⟩)
   ·refine Pl (m:=0) ho hd hK hr (.inr ⟨h2,fun Γ=>AY.bL P TB Γ ?_ ⟨fun _ _=>rfl,hk⟩⟩)
    unfold QC at h3
    by_cases e:c=2
    ·rw [if_pos e] at h3;exact h3 Γ S.σ S.nx
    ·rw [if_neg e] at h3
     by_cases e0:c=0
     ·rw [if_pos e0] at h3;exact h3 Γ
     ·rw [if_neg e0] at h3;exact h3.2 Γ S.σ S.nx rfl
   ·unfold wpOp
    simp only [ho]
    have hw:Region.wanted o (yielded ops a.tmps)=true:=by unfold Region.wanted;rw [h2]
    rw [hw]
    simp only [if_true]
    refine .inl ?_
    obtain⟨dst,op,ty,pos,af,g⟩:=o
    simp only at h3 h4
    subst h3 h4
    obtain⟨zv,hzz,hrun⟩:=Tn (P:=P) (d:=some d) (ty:=ty) (pos:=pos) (af:=af) (g:=g) (ρ:=a.eval) h5
    unfold Oper.wp
    rw [hrun]
    have hr':=hr.alloc (T:=T) (zv:=zv) (hd d rfl) h7 hzz h6
    exact hK _ _ _ hr' hk
theorem Px{ops:Array Oper}(hd:EC N ops=true){K:Bz→Prop}{Q:Exit→Act→World→Prop}(hK:QQ TB Γ N K Q):∀(n:Nat) (r:List (Nat×Nat)) (listed:Array Bool) (V:View) (S:Bz) (a:Act),
 r.length=n→DQ ops listed→A3 ops r listed=true→CS ops r=true→Hi TB Γ N V S a→Lex P TB ops r K S→wpAny P .any ops Q n listed a V.w
 | 0,r,listed,V,S,a,hn,hc,ho,hk,hr,h=>by
  have:r=[]:=List.length_eq_zero_iff.1 hn
  subst this
  refine⟨?_,hK V S a hr h⟩
  simpa [A3] using ho
 | n + 1,r,listed,V,S,a,hn,hc,ho,hk,hr,h=>by
  refine⟨fun hnil=>?_,fun j hj=>?_⟩
  ·cases r with
   | nil=>simp at hn
   | cons x r=>
    obtain⟨i,c⟩:=x
    simp only [A3,Bool.and_eq_true] at ho
    have:=ho.1
    rw [hnil] at this
    simp at this
  ·obtain⟨r1,c,r2,o,rfl,hoj,h1⟩:=DF K r listed S hc ho hk h j hj
   refine Kw hoj (fun t ht=>PL hd hoj ht) (fun V' S' a' hr' hk'=>?_) hr h1
   exact Px hd hK n (r1++r2) _ V' S' a' (by simp at hn ⊢;omega) (Fu hc hj) (Lc r1 r2 j c listed ho hj) (Iz r1 r2 _ hk) hr' hk'
variable {i c:Nat}{r:List (Nat×Nat)}{L:List (Nat×E)}{σ:Ab}{nx:Nat}{pl:List (Nat×(TypeId×List Value))}{K:Bz→Prop}{Q:Exit→Env→Ab→Nat→Prop}
def Eg(P:Program)(TB:Bw)(ops:Array Oper)(r:List (Nat×Nat))(K:Bz→Prop)(L:List (Nat×E))(σ:Ab)(nx:Nat)(pl:List (Nat×(TypeId×List Value))):Prop:=Lex P TB ops r K ⟨look L,σ,nx,look pl⟩
theorem Xh{id:Nat}(r:List (Nat×Nat))(hm:P.follows .mixedOrders=true)(hd:EC N ops=true)(hn:r.length=ops.size)(ho:(A3 ops r (Array.replicate ops.size false) && CS ops r)=true)
 (h:Eg P TB ops r (fun S=>Q .normal S.f S.σ S.nx) L σ nx []):Ak P TB Γ N (.region id ops true) Q (look L) σ nx:=by
 intro V a hs
 rw [Bool.and_eq_true] at ho
 refine wp_region_any hm ?_
 obtain⟨h1,h2⟩:=hs.inv.drew
 have hs':BM TB Γ N { V with w:={ V.w with drawn:=V.w.drawn+1 } } (look L) σ V.nx a:=⟨hs.env.ext h2,hs.lt,hs.size,h1,rfl,hs.defers⟩
 have hnx:=hs.nx
 subst hnx
 exact Px hd (fun V S a hs hk=>⟨V,S.f,S.σ,rfl,by rw [hs.st.nx];exact hk,by rw [hs.st.nx];exact hs.st⟩) ops.size r _ { V with w:={ V.w with drawn:=V.w.drawn+1 } } _ a hn (JF ops) ho.1 ho.2 ⟨hs',fun d T z hq=>(by cases hq),fun d d' q q' b b' hq=>(by cases hq),let ⟨Q0,k1,k2,k3⟩:=h1.hid;⟨Q0,k1,k2,k3,fun d q b hq=>(by cases hq)⟩⟩ h
theorem Aa{K:Bz→Prop}(h:K ⟨look L,σ,nx,look pl⟩):Eg P TB ops [] K L σ nx pl:=h
theorem WN(h:Q .normal (look L) σ nx):Eg P TB ops [] (fun S=>Q .normal S.f S.σ S.nx) L σ nx pl:=h
def CP(d:Nat):List (Nat×(TypeId×List Value))→List (Nat×(TypeId×List Value))
 | []=>[]
 | (k,x)::r=>bif Nat.beq k d then CP d r else (k,x)::CP d r
theorem FB:∀(pl:List (Nat×(TypeId×List Value))) (d t:Nat),look (CP d pl) t=if t=d then none else look pl t
 | [],d,t=>by simp [CP,look]
 | (k, x)::r,d,t=>by
  simp only [CP]
  by_cases h:k=d
  ·subst h
   simp only [Nat.beq_refl,cond_true]
   rw [FB r k t,Ax]
   by_cases h2:t=k
   ·simp [h2]
   ·rw [if_neg h2,if_neg h2,if_neg (Ne.symm h2)]
  ·have:Nat.beq k d=false:=by
    cases hb:Nat.beq k d
    ·rfl
    ·exact absurd (Nat.eq_of_beq_eq_true hb) h
   rw [this,cond_false,Ax,Ax,FB r d t]
   by_cases h2:t=d
   ·subst h2;simp [h]
   ·simp [h2]
theorem GP{d:Tmp}{x:E}{σ':Ab}{nx':Nat}:Bz.put ⟨look L,σ',nx',look pl⟩ (some d) x=⟨look ((d,x)::L),σ',nx',look (CP d pl)⟩:=by
 unfold Bz.put
 rw [CC]
 congr 1
 funext t
 rw [FB]
 by_cases h:t=d
 ·subst h;simp
 ·simp [h,Ne.symm h]
theorem O2{x:E}{σ':Ab}{nx':Nat}:Bz.put ⟨look L,σ',nx',look pl⟩ none x=⟨look L,σ',nx',look pl⟩:=by
 unfold Bz.put;congr 1
def Br(P:Program)(TB:Bw)(ops:Array Oper)(o:Oper)(i c:Nat)(r:List (Nat×Nat))(K:Bz→Prop)(L:List (Nat×E))(σ:Ab)(nx:Nat)(pl:List (Nat×(TypeId×List Value))):Prop:=
 ops[i]? = some o→Eg P TB ops ((i,c)::r) K L σ nx pl
theorem Ag{o:Oper}(ho:La ops.toList i=some o)(h:Br P TB ops o i c r K L σ nx pl):Eg P TB ops ((i,c)::r) K L σ nx pl:=h (by rw [Lb] at ho;simpa using ho)
variable {d:Tmp}{op:Op}{ty:TypeId}{pos:String}{af:Array Edge}{g:Option (Nat×Bool)}
theorem Cq{x:E}(hq:∀Γ σ nx,AY P TB Γ ⟨some d,op,ty,pos,af,g⟩ (look L) σ nx x)(hg:Be ops ⟨some d,op,ty,pos,af,g⟩ (look L)=some true)(hc:(Nat.beq c 0 || Nat.beq c 2)=true)(h:Eg P TB ops r K ((d,x)::L) σ nx (CP d pl)):Br P TB ops ⟨some d,op,ty,pos,af,g⟩ i c r K L σ nx pl:=by
 intro ho
 refine⟨_,ho,?_⟩
 unfold St
 have h2:c=0∨c=2:=by
  simp only [Bool.or_eq_true,Nat.beq_eq] at hc;exact hc
 rw [if_neg (by omega),if_neg (by omega),if_neg (by omega)]
 refine⟨fun S=>S.put (some d) x,.inr (.inl ⟨by omega,hg,x,?_,rfl⟩),?_⟩
 ·unfold QC
  rcases h2 with h2|h2
  ·rw [if_neg (by omega),if_pos h2];exact fun Γ=>hq Γ σ nx
  ·rw [if_pos h2];exact hq
 ·simp only
  rw [GP];exact h
theorem WY{x:E}(hq:∀Γ,AY P TB Γ ⟨some d,op,ty,pos,af,g⟩ (look L) σ nx x)(hg:Be ops ⟨some d,op,ty,pos,af,g⟩ (look L)=some true)(hc:Nat.beq c 0=true)(h:Eg P TB ops r K ((d,x)::L) σ nx (CP d pl)):Br P TB ops ⟨some d,op,ty,pos,af,g⟩ i c r K L σ nx pl:=by
 intro ho
 refine⟨_,ho,?_⟩
 unfold St
 have h2:c=0:=by simpa using hc
 rw [if_neg (by omega),if_neg (by omega),if_neg (by omega)]
 refine⟨fun S=>S.put (some d) x,.inr (.inl ⟨by omega,hg,x,?_,rfl⟩),?_⟩
 ·unfold QC;rw [if_neg (by omega),if_pos h2];exact hq
 ·simp only
  rw [GP];exact h
theorem Dc(h:∀Γ,B2 P TB Γ ⟨some d,op,ty,pos,af,g⟩ (look L) σ nx (fun x σ' nx'=>Kept (c - 1000) σ σ'∧Eg P TB ops r K ((d,x)::L) σ' nx' (CP d pl)))(hg:Be ops ⟨some d,op,ty,pos,af,g⟩ (look L)=some true)(hc:Nat.ble 1000 c=true):Br P TB ops ⟨some d,op,ty,pos,af,g⟩ i c r K L σ nx pl:=by
 intro ho
 refine⟨_,ho,?_⟩
 unfold St
 have hc:=Nat.le_of_ble_eq_true hc
 rw [if_neg (by omega),if_pos hc]
 exact .inr ⟨hg,fun Γ=>(h Γ).mono fun x σ' nx' hk=>by
  refine⟨hk.1,?_⟩
  have e:Bz.put ⟨(⟨look L,σ,nx,look pl⟩:Bz).f,σ',nx',(⟨look L,σ,nx,look pl⟩:Bz).pd⟩ (some d) x=_:=GP
  rw [e];exact hk.2⟩
theorem Mf(h:∀Γ,B2 P TB Γ ⟨some d,op,ty,pos,af,g⟩ (look L) σ nx (fun x σ' nx'=>Eg P TB ops r K ((d,x)::L) σ' nx' (CP d pl)))(hg:Be ops ⟨some d,op,ty,pos,af,g⟩ (look L)=some true)(hc:c=1):Br P TB ops ⟨some d,op,ty,pos,af,g⟩ i c r K L σ nx pl:=by
 intro ho
 refine⟨_,ho,?_⟩
 unfold St
 rw [if_pos hc]
 exact .inr ⟨hg,fun Γ=>(h Γ).mono fun x σ' nx' hk=>by
  refine⟨fun id hid=>by simp at hid,?_⟩
  have e:Bz.put ⟨(⟨look L,σ,nx,look pl⟩:Bz).f,σ',nx',(⟨look L,σ,nx,look pl⟩:Bz).pd⟩ (some d) x=_:=GP
  rw [e];exact hk⟩
theorem Hq(h:∀Γ,B2 P TB Γ ⟨none,op,ty,pos,af,g⟩ (look L) σ nx (fun _ σ' nx'=>Eg P TB ops r K L σ' nx' pl))(hg:Be ops ⟨none,op,ty,pos,af,g⟩ (look L)=some true)(hc:c=1):Br P TB ops ⟨none,op,ty,pos,af,g⟩ i c r K L σ nx pl:=by
 intro ho
 refine⟨_,ho,?_⟩
 unfold St
 rw [if_pos hc]
 exact .inr ⟨hg,fun Γ=>(h Γ).mono fun x σ' nx' hk=>by
  refine⟨fun id hid=>by simp at hid,?_⟩
  have e:Bz.put ⟨(⟨look L,σ,nx,look pl⟩:Bz).f,σ',nx',(⟨look L,σ,nx,look pl⟩:Bz).pd⟩ none x=_:=O2
  rw [e];exact hk⟩
theorem cd{T:TypeId}{z:List Value}[hz:BR P T z](hok:z.all Ml=true)(hf:look L d=none)(hc:c=3)(h:Eg P TB ops r K L σ nx ((d,(T,z))::pl)):Br P TB ops ⟨some d,.alloc T,ty,pos,af,none⟩ i c r K L σ nx pl:=by
 intro ho
 refine⟨_,ho,?_⟩
 unfold St
 rw [if_neg (by omega),if_neg (by omega),if_neg (by omega)]
 refine⟨fun S=>S.Fg d (T,z),.inr (.inr ⟨hc,rfl,d,T,z,rfl,rfl,hz.out,hok,hf,rfl⟩),?_⟩
 have e:Bz.Fg ⟨look L,σ,nx,look pl⟩ d (T,z)=⟨look L,σ,nx,look ((d,(T,z))::pl)⟩:=by
  unfold Bz.Fg
  congr 1
  funext t
  rw [Ax]
  by_cases h:t=d
  ·subst h;simp
  ·simp [h,Ne.symm h]
 simp only
 rw [e];exact h
theorem ca{t : Tmp}{T:TypeId}{z:List Value}(hp:look pl t=some (T,z))(ht:(op.operands.any fun x=>match x with|.tmp t'=>Nat.beq t' t|_=>false)=true)(hg:Be ops ⟨none,op,ty,pos,af,g⟩ (look ((t,.o (.ptr nx z.length 0 0))::L))=some true)(hc:c=5)
    (h:∀Γ,B2 P TB Γ ⟨none,op,ty,pos,af,g⟩ (look ((t,.o (.ptr nx z.length 0 0))::L)) ((nx,.cells T z.length [z.map zC])::σ) (nx+1) (fun _ σ' nx'=>Eg P TB ops r K ((t,.o (.ptr nx z.length 0 0))::L) σ' nx' (CP t pl))):Br P TB ops ⟨none,op,ty,pos,af,g⟩ i c r K L σ nx pl:=by
  intro ho
  refine⟨_,ho,?_⟩
  unfold St
  rw [if_neg (by omega),if_neg (by omega),if_pos hc]
  have e:Bz.ad ⟨look L,σ,nx,look pl⟩ t T z=⟨look ((t,.o (.ptr nx z.length 0 0))::L),(nx,.cells T z.length [z.map zC])::σ,nx+1,look (CP t pl)⟩:=by
    unfold Bz.ad
    rw [CC]
    congr 1
    funext t'
    rw [FB]
  have hm : .tmp t∈op.operands:=by
    obtain⟨i,hi,h1⟩:=Array.any_eq_true.1 ht
    have hx:=Array.getElem_mem hi
    generalize op.operands[i]=x at *
    cases x with
    | tmp t' => have:t'=t:=by simpa using h1
                rw [←this];exact hx
    | _=>cases h1
  refine⟨t,T,z,hm,hp,?_⟩
  rw [e]
  exact .inr ⟨hg,fun Γ=>(h Γ).mono fun x σ' nx' hk=>by
    refine⟨fun id hid=>by simp at hid,?_⟩
    have e2:Bz.put ⟨(⟨look ((t,.o (.ptr nx z.length 0 0))::L),(nx,.cells T z.length [z.map zC])::σ,nx+1,look (CP t pl)⟩:Bz).f,σ',nx',(⟨look ((t,.o (.ptr nx z.length 0 0))::L),(nx,.cells T z.length [z.map zC])::σ,nx+1,look (CP t pl)⟩:Bz).pd⟩ none x=_:=O2
    rw [e2];exact hk⟩
theorem ae{t:Tmp}{ts:TypeId}{y:Operand}{T:TypeId}{z:List Value}(hp:look pl t=some (T,z))(hg:Be ops ⟨none,.store ts (.tmp t) y,ty,pos,af,g⟩ (look ((t,.o (.ptr nx z.length 0 0))::L))=some true)(hc:c=5)
 (h:∀Γ,B2 P TB Γ ⟨none,.store ts (.tmp t) y,ty,pos,af,g⟩ (look ((t,.o (.ptr nx z.length 0 0))::L)) ((nx,.cells T z.length [z.map zC])::σ) (nx+1) (fun _ σ' nx'=>Eg P TB ops r K ((t,.o (.ptr nx z.length 0 0))::L) σ' nx' (CP t pl))):Br P TB ops ⟨none,.store ts (.tmp t) y,ty,pos,af,g⟩ i c r K L σ nx pl:=
 ca hp (by simp [Op.operands]) hg hc h
theorem Td{b0:Bool}(hq:∀Γ σ nx,AY P TB Γ ⟨some d,op,ty,pos,af,g⟩ (look L) σ nx (eB b0))(hg:Be ops ⟨some d,op,ty,pos,af,g⟩ (look L)=some true)(hc:(Nat.beq c 0 || Nat.beq c 2)=true)(h:∀b,b0=b→Eg P TB ops r K ((d,eB b)::L) σ nx (CP d pl)):Br P TB ops ⟨some d,op,ty,pos,af,g⟩ i c r K L σ nx pl:=Cq hq hg hc (h b0 rfl)
theorem ak{j:Nat}{w:Bool}(hg:Be ops ⟨some d,op,ty,pos,af,some (j,w)⟩ (look L)=some false)(hc:(Nat.beq c 0 || Nat.beq c 2)=true)(h:Eg P TB ops r K ((d,.t [])::L) σ nx (CP d pl)):Br P TB ops ⟨some d,op,ty,pos,af,some (j,w)⟩ i c r K L σ nx pl:=by
 intro ho
 refine⟨_,ho,?_⟩
 unfold St
 have h2:c=0∨c=2:=by
  simp only [Bool.or_eq_true,Nat.beq_eq] at hc;exact hc
 rw [if_neg (by omega),if_neg (by omega),if_neg (by omega)]
 refine⟨fun S=>S.put (some d) (.t []),.inl ⟨by omega,hg,rfl⟩,?_⟩
 simp only
 rw [GP];exact h
end
section
variable {P:Program}{TB:Bw}{ops:Array Oper}{i c:Nat}{r:List (Nat×Nat)}{L:List (Nat×E)}{σ:Ab}{nx:Nat}{pl:List (Nat×(TypeId×List Value))}{K:Bz→Prop}{d:Option Tmp}{ty:TypeId}{pos:String}{af:Array Edge}{g:Option (Nat×Bool)}
end
section
variable {P:Program}{TB:Bw}{ops:Array Oper}{i c:Nat}{r:List (Nat×Nat)}{L:List (Nat×E)}{σ:Ab}{nx:Nat}{pl:List (Nat×(TypeId×List Value))}{K:Bz→Prop}{d:Tmp}{ty:TypeId}{pos:String}{af:Array Edge}{g:Option (Nat×Bool)}{op:Op}
theorem yQ{md:Bool}[hT:B7 P]{q:Prop}{x:E}(hg:Be ops ⟨some d,op,ty,pos,af,g⟩ (look L)=some true)(hc:(Nat.beq c 0 || Nat.beq c 2)=true)(h:Vw hT.T md (look L) op=some (q,x))(hq:q)(hk:Eg P TB ops r K ((d,x)::L) σ nx (CP d pl)):Br P TB ops ⟨some d,op,ty,pos,af,g⟩ i c r K L σ nx pl:=
 Cq (fun _ _ _=>RR h hq) hg hc hk
theorem yB[hT:B7 P]{b0:Bool}(hg:Be ops ⟨some d,op,ty,pos,af,g⟩ (look L)=some true)(hc:(Nat.beq c 0 || Nat.beq c 2)=true)(h:O7 hT.T (look L) op=some b0)(hk:∀b,b0=b→Eg P TB ops r K ((d,eB b)::L) σ nx (CP d pl)):Br P TB ops ⟨some d,op,ty,pos,af,g⟩ i c r K L σ nx pl:=
 Td (fun _ _ _=>O8 h) hg hc hk
theorem yS[hT:B7 P]{x:E}(hg:Be ops ⟨some d,op,ty,pos,af,g⟩ (look L)=some true)(hc:Nat.beq c 0=true)(h:JP hT.T σ (look L) op=some x)(hk:Eg P TB ops r K ((d,x)::L) σ nx (CP d pl)):Br P TB ops ⟨some d,op,ty,pos,af,g⟩ i c r K L σ nx pl:=
 WY (fun _=>Li h) hg hc hk
theorem yW[hT:B7 P]{t:TypeId}{x y:Operand}{σ':Ab}(hg:Be ops ⟨none,.store t x y,ty,pos,af,g⟩ (look L)=some true)(hc:c=1)(h:MM hT.T σ (look L) t x y=some σ')(hk:Eg P TB ops r K L σ' nx pl):Br P TB ops ⟨none,.store t x y,ty,pos,af,g⟩ i c r K L σ nx pl:=
 Hq (fun _=>Lj h hk) hg hc
theorem yA[hT:B7 P]{t:Tmp}{ts:TypeId}{y:Operand}{T:TypeId}{z:List Value}{σ':Ab}(hp:look pl t=some (T,z))(hg:Be ops ⟨none,.store ts (.tmp t) y,ty,pos,af,g⟩ (look ((t,.o (.ptr nx z.length 0 0))::L))=some true)(hc:c=5)
 (h:MM hT.T ((nx,.cells T z.length [z.map zC])::σ) (look ((t,.o (.ptr nx z.length 0 0))::L)) ts (.tmp t) y=some σ') (hk:Eg P TB ops r K ((t,.o (.ptr nx z.length 0 0))::L) σ' (nx+1) (CP t pl)):Br P TB ops ⟨none,.store ts (.tmp t) y,ty,pos,af,g⟩ i c r K L σ nx pl:=
 ae hp hg hc fun _=>Lj h hk
theorem yP[hT:B7 P]{T:TypeId}{z:List Value}(hz:(Hj hT.T T).ze=some z)(hok:z.all Ml=true)(hf:look L d=none)(hc:c=3)(h:Eg P TB ops r K L σ nx ((d,(T,z))::pl)):Br P TB ops ⟨some d,.alloc T,ty,pos,af,none⟩ i c r K L σ nx pl:=
 haveI:=(CL (P:=P) T hT.ok).Ur hz
 cd hok hf hc h
theorem yG{dd:Option Tmp}{j t:Nat}{w b:Bool}(_hd:(ops[j]?).bind (·.dst)=some t)(_hv:look L t=some (eB b))
 (hT:b=true→Eg P TB ops ((i,c)::r) K L σ nx pl) (hF:b=false→Eg P TB ops ((i,c)::r) K L σ nx pl):Br P TB ops ⟨dd,op,ty,pos,af,some (j,w)⟩ i c r K L σ nx pl:=by
 intro _
 cases b
 ·exact hF rfl
 ·exact hT rfl
end
end Go.Am.R
namespace Go.Am
open Go
section
variable {P:Program}{TB:Bw}{Γ:Ctx}{d:Option Tmp}{ty:TypeId}{pos:String}{af:Array Edge}{g:Option (Nat×Bool)}{f:Env}{σ:Ab}{nx:Nat}
end
section
variable {P:Program}{TB:Bw}{Γ:Ctx}{d:Option Tmp}{ty:TypeId}{pos:String}{af:Array Edge}{g:Option (Nat×Bool)}{f:Env}{σ:Ab}{nx:Nat}
variable {K:E→Ab→Nat→Prop}
theorem run_build{t:TypeId}{fl:List (Nat×Nat)}{parts:Array (Nat×Operand)}{ρ:Operand→Value}{V:View}{i:TypeInfo}{zv:Value}{cells:Array Value}(hi:P.info? t=some i)(hzv:i.zero=some zv)(hh:ZP P t=some fl)
 (h3:Instr.fill (fl[·]?) zv.cells (parts.toList.map fun (i,x)=>(i,ρ x))=some cells):(Instr.build t (parts.map fun (i,x)=>(i,ρ x))).run P V.w=.ok (.agg cells) V.w:=by
 have hparts:(parts.map fun (i,x)=>(i,ρ x)).toList=parts.toList.map fun (i,x)=>(i,ρ x):=by simp
 unfold ZP at hh
 split at hh
 ·rename_i fs hu
  have hpl:∀(l:List Field) (ll:List (Nat×Nat)),(l.mapM fun f=>(P.info? f.type).map fun i=>(f.offset,i.size))=some ll→∀w,((l.mapM fun f=>do pure (f.offset,←sizeOf f.type)):Sem (List (Nat×Nat))).run P w=.ok ll w:=by
   intro l
   induction l with
   | nil=>intro ll h w;simp at h;subst h;simp [go_sem]
   | cons y l ih=>
    intro ll h w
    simp only [List.mapM_cons,Option.bind_eq_bind,Option.bind_eq_some_iff,Option.map_eq_some_iff] at h
    obtain⟨p,⟨ii,hii,rfl⟩,ll',h5,h6⟩:=h
    simp at h6
    subst h6
    have hs:(sizeOf y.type).run P w=.ok ii.size w:=by simp [sizeOf,typeInfo,hii,go_sem]
    have ihh:=ih ll' h5 w
    simp only [bind_pure_comp] at ihh
    simp only [List.mapM_cons,Sem.run_bind,hs,Result.andThen_ok,bind_pure_comp,Sem.run_map,ihh]
  have hpl2:=hpl fs.toList fl hh V.w
  have hz0:(zeroValue t).run P V.w=.ok zv V.w:=by simp [zeroValue,typeInfo,hi,hzv,go_sem]
  have ha:((fs.mapM fun f=>do pure (f.offset,←sizeOf f.type)):Sem (Array (Nat×Nat))).run P V.w=.ok fl.toArray V.w:=by
   rw [Array.mapM_eq_mapM_toList,Sem.run_map,hpl2];rfl
  rw [←hparts] at h3
  simp only [Instr.build,Sem.run_bind,hz0,Result.andThen_ok,run_underlying hu,ha]
  simp only [List.getElem?_toArray]
  rw [h3]
  rfl
 ·rename_i n e hu
  simp only [Option.map_eq_some_iff] at hh
  obtain⟨ii,hii,rfl⟩:=hh
  have hz0:(zeroValue t).run P V.w=.ok zv V.w:=by simp [zeroValue,typeInfo,hi,hzv,go_sem]
  have hs:(sizeOf e).run P V.w=.ok ii.size V.w:=by simp [sizeOf,typeInfo,hii,go_sem]
  have hfill:∀(ps:List (Nat×Value)) (c c':Array Value),Instr.fill (fun i=>((List.range n).map fun j=>(j*ii.size,ii.size))[i]?) c ps=some c'→Instr.fill (fun i=>some (i*ii.size,ii.size)) c ps=some c':=by
   intro ps
   induction ps with
   | nil=>intro c c' h;simpa [Instr.fill] using h
   | cons p ps ih=>
    intro c c' h
    obtain⟨i',v'⟩:=p
    unfold Instr.fill at h ⊢
    by_cases hlt:i' < n
    ·simp only [List.getElem?_map,List.getElem?_range hlt,Option.map_some] at h
     simp only at h ⊢
     split at h
     ·cases h
     ·rename_i hno
      rw [if_neg hno];exact ih _ _ (by simpa only [List.getElem?_map] using h)
    ·simp [hlt] at h
  rw [←hparts] at h3
  simp only [Instr.build,Sem.run_bind,hz0,Result.andThen_ok,run_underlying hu,hs]
  rw [hfill _ _ _ h3]
  rfl
 ·cases hh
theorem OP{t:TypeId}{z:List Value}{fl:List (Nat×Nat)}{parts:Array (Nat×Operand)}{es:List E}{qs:List (Nat×List C)}[hz:BR P t z][hf:Gk P t fl](p k e:Nat)(hp:z[p]? = some (.slice none 0 0))(hes:Hz f (parts.toList.map (·.2))=some es)(hq:Eo fl parts.toList es=some qs)
 (hok:z.all Ml=true) (hle:(qs.all fun x=>Nat.ble (x.1+x.2.length) z.length)=true) (hK:K (.a (BZ qs ((z.map zC).set p (.arr nx k 0 0)))) ((nx,.cells e k [])::σ) (nx+1)):B2 P TB Γ ⟨d,.build t parts,ty,pos,af,g⟩ f σ nx K:=
 CQ fun V ρ h1 h2 h3=>by
  subst h3
  obtain⟨i,zv,hi,hzv,hzz⟩:=GU hz.out
  obtain⟨hi2,he2⟩:=h2.alloc (c:=0) (nl:=True) (w:=V.w) (ob:=.cells e k []) rfl rfl rfl rfl (Nat.le_refl _) (fun _ _=>rfl) (.inl ⟨by simp [Au],rfl⟩)
  have hfo:=CR (V:=Au V V.w.heap.size 0 True V.w) (ρ:=ρ) parts.toList es qs (fun x hx e he=>(h1.get (by simp only [Op.operands];simpa using hx) he).ext he2) hes hq
  have hzr:Cp (Au V V.w.heap.size 0 True V.w) ((z.map zC).set p (.arr V.nx k 0 0)) zv.cells:=by
   refine⟨by rw [List.length_set,List.length_map,←hzz];simp,fun j c v hj hv=>?_⟩
   have hzj:z[j]? = some v:=by rw [←hzz,Array.getElem?_toList];exact hv
   by_cases hjp:p=j
   ·subst hjp
    rw [hp] at hzj
    injection hzj with hzj
    subst hzj
    rw [List.getElem?_set_self (by rw [List.length_map];exact(List.getElem?_eq_some_iff.1 hp).1)] at hj
    injection hj with hj
    subst hj
    exact AI.nil (by simp [Au]) (by simp [Au])
   ·rw [List.getElem?_set_ne hjp,List.getElem?_map,hzj] at hj
    injection hj with hj
    subst hj
    exact JA (List.all_eq_true.1 hok v (List.mem_of_getElem? hzj))
  obtain⟨cells,h4,h5⟩:=E8 _ _ _ _ hfo hzr (fun x hx=>by rw [List.length_set,List.length_map];exact Ii _ _ hle x hx)
  have hb:=run_build (P:=P) (ρ:=ρ) (parts:=parts) (V:=V) hi hzv hf.out h4
  refine⟨.agg cells,_,_,_,?_,he2,hi2,(show Bc _ (.a _) _ from ⟨cells,rfl,h5⟩),hK⟩
  show ((do let v ←Instr.build t (parts.map fun (i,x)=>(i,ρ x));pure (Next.value v):Sem Next)).run P V.w=_
  simp only [Sem.run_bind,hb,Result.andThen_ok]
  rfl
end
section
variable {P:Program}{TB:Bw}
end
end Go.Am
namespace Go.Am
open Go Go.Proofs
set_option maxHeartbeats 1000000
set_option maxRecDepth 4000
attribute [local irreducible] AY B2 Lex Br Ak Spec
variable {TB:Bw}
theorem Hm(n:Int):Pure Tryz.prog TB 139 [eI .i64 n] (eB (BI n)):=by
 refine eN Tryz.func139 rfl (by kernel_rfl) rfl ?_;intro Γ hΓ
 (repeat' first|refine tA rfl ?_ |refine s2 rfl fun _ _hb=>?_ |refine s3 rfl ?_ ?_<;>rintro rfl |refine aU rfl ?_ |refine Aa ?_|(refine aC rfl ?_ ?_<;>rintro⟨⟩)|refine aK ?_|refine aE ?_|refine aB ?_|refine aR ⟨_,rfl,?_⟩)
 all_goals (show E.o _=E.o _;congr;unfold BI;grind)
theorem ES(n:Int):Pure Tryz.prog TB 190 [eI .i64 n] (eB (BI n)):=by
 refine eN Tryz.func190 rfl (by kernel_rfl) rfl ?_;intro Γ hΓ
 (repeat' first|refine tA rfl ?_ |refine s2 rfl fun _ _hb=>?_ |refine s3 rfl ?_ ?_<;>rintro rfl |refine aU rfl ?_ |refine Aa ?_|(refine aC rfl ?_ ?_<;>rintro⟨⟩)|refine aK ?_|refine aE ?_|refine aB ?_|refine aR ⟨_,rfl,?_⟩)
 all_goals (show E.o _=E.o _;congr;unfold BI;grind)
theorem Fb(s n:Int)(h0:0≤n)(h1:n < 64):Pure Tryz.prog TB 156 [eI .i64 s,eI .i64 n] (eB (EM s n.toNat)):=by
 refine eN Tryz.func156 rfl (by kernel_rfl) rfl ?_;intro Γ hΓ
 (repeat' first|(refine sA rfl ?_ ?_;first|exact tI|omega) |refine s2 rfl fun _ _hb=>?_ |refine aU rfl ?_ |refine Aa ?_|(refine aC rfl ?_ ?_<;>rintro⟨⟩)|refine aK ?_|refine aE ?_|refine aB ?_|refine aR ⟨_,rfl,?_⟩)
 subst _hb;rfl
theorem Us(s n:Int):Pure Tryz.prog TB 186 [eI .i64 s,eI .i64 n] (eB (hasB s n)):=by
 refine eN Tryz.func186 rfl (by kernel_rfl) rfl ?_;intro Γ hΓ
 (repeat' first|(refine sA rfl ?_ ?_;first|exact tI|simp only[oZ] at *;omega) |refine s2 rfl fun _ _hb=>?_ |refine s3 rfl ?_ ?_<;>rintro rfl |refine aU rfl ?_ |refine Aa ?_|(refine aC rfl ?_ ?_<;>rintro⟨⟩)|refine aK ?_|refine aE ?_|refine aB ?_|refine aR ⟨_,rfl,?_⟩)
 all_goals (show E.o _=E.o _;congr;unfold hasB EM;have:IntKind.i64.bits=64:=rfl;grind)
theorem Cf(s:Int):Pure Tryz.prog TB 94 [eI .i64 s] (Aj (Ac s)):=by
 refine eN Tryz.func94 rfl (by kernel_rfl) rfl ?_;intro Γ hΓ
 (repeat first|refine tX rfl ?_ |refine aU rfl ?_ |refine Aa ?_)
 (refine pW rfl ?_ rfl (by rfl);refine A1 rfl rfl rfl rfl (by simp) (by rfl) (by rfl) (by rfl) (by rfl) ?_)
 (repeat first|refine tX rfl ?_ |refine aU rfl ?_ |refine Aa ?_)
 refine aB ?_
 refine Ak.A4 (α:={k:Nat // k≤6}) (fun ⟨k,hk⟩=>[(0,eI .i64 s),(3,.o (.arr 0 1 0 (Az s k).length)),(4,eI .i64 k)]) (fun ⟨k,hk⟩=>[(0,.cells 3 1 ((Az s k).map AB))]) 1 (fun ⟨k,hk⟩=>6 - k) (⟨0,by omega⟩) [0] (Eb hΓ rfl rfl) (by (repeat' first|exact tI|rfl|refine And.intro ?_ ?_)) ?_;rintro⟨k,hk⟩;(try dsimp only)
 (repeat first|refine tX rfl ?_ |refine s2 rfl fun _ _hb=>?_ |refine aU rfl ?_ |refine Aa ?_)
 (refine aC rfl ?_ ?_<;>rintro⟨⟩)
 ·have hlt:k < 6:=by have:=of_decide_eq_true _hb;omega
  refine aK ?_
  refine aS (aB ?_)
  (repeat first|refine tX rfl ?_ |refine aU rfl ?_)
  (refine Ag rfl ?_;refine Td (fun _ _=>BE rfl rfl rfl (Fb _ _ (by omega) (by omega)) rfl) rfl ?_;intro _ _hb)
  (repeat first|refine Aa ?_)
  have hs:=B1 s k
  (refine aC rfl ?_ ?_<;>rintro⟨⟩)
  ·(repeat first|refine tA rfl ?_ |refine aU rfl ?_)
   (refine pW rfl ?_ rfl (by rfl);refine Aw rfl rfl rfl (by first| (simp;done)|(simp;(omega))) rfl (by intro r hr;simp at hr;subst hr;rfl) (by rfl) (Nat.le_of_ble_eq_true rfl) (by have:=AL s k;simp;omega) ?_)
   (repeat first|(refine sX rfl ?_ ?_;first|exact tI|omega) |refine aU rfl ?_ |refine Aa ?_)
   refine⟨⟨k+1,by omega⟩,by dsimp only;(omega),[1],?_⟩
   rw [if_pos (by simpa using _hb)] at hs
   simp[cX,zC,hΓ,hs]
  ·refine aK ?_
   (repeat first|(refine sX rfl ?_ ?_;first|exact tI|omega) |refine aU rfl ?_ |refine Aa ?_)
   refine⟨⟨k+1,by omega⟩,by dsimp only;(omega),[0],?_⟩
   rw [if_neg (by simpa using _hb),List.append_nil] at hs
   simp[cX,zC,hΓ,hs]
 ·have hk6:k=6:=by have:=of_decide_eq_false _hb;omega
  subst hk6
  refine aE ?_
  (repeat first|refine tX rfl ?_ |refine aU rfl ?_ |refine Aa ?_)
  refine Ak.freeze [0] [(2,.o (.d (CO (Az s 6))))] ⟨⟨_,rfl,.o (.full (by simp) rfl (by simp [Function.comp_def]) (by simp))⟩,trivial⟩ ?_
  refine aR ⟨_,rfl,rfl⟩
theorem EU(n:Int)(h0:0≤n)(h1:n < 128):Pure Tryz.prog TB 162 [eI .i64 n] (eI .u8 (97+n)):=by
 refine eN Tryz.func162 rfl (by kernel_rfl) rfl ?_;intro Γ hΓ
 (repeat' first|(refine sA rfl ?_ ?_;first|exact tI|omega) |refine aU rfl ?_ |refine Aa ?_|(refine aC rfl ?_ ?_<;>rintro⟨⟩)|refine aK ?_|refine aE ?_|refine aB ?_|refine aR ⟨_,rfl,?_⟩)
 rfl
theorem GY(n:Int)(h0:0≤n)(h1:n < 128):Pure Tryz.prog TB 98 [eI .i64 n] (eT [UInt8.ofNat (97+n.toNat)]):=by
 refine eN Tryz.func98 rfl (by kernel_rfl) rfl ?_;intro Γ hΓ
 (repeat first|(refine sA rfl ?_ ?_;first|exact tI|omega) |refine aU rfl ?_ |refine Aa ?_)
 (refine Ag rfl ?_;refine Cq (fun _ _=>NH [UInt8.ofNat (97+n.toNat)] rfl (by
  have h2:(97+n.toNat) % 256=97+n.toNat:=Nat.mod_eq_of_lt (by omega)
  have h3:(97+n:Int)=((97+n.toNat:Nat):Int):=by omega
  simp [ZH,h2,h3])) rfl ?_)
 (repeat first|refine tA rfl ?_ |refine Aa ?_)
 refine aR ⟨_,rfl,?_⟩
 rfl
theorem PZ(s n:Int)(h0:0≤n)(h1:n < 64):Pure Tryz.prog TB 157 [eI .i64 s,eI .i64 n] (eI .i64 (Az s n.toNat).length):=by
 refine eN Tryz.func157 rfl (by kernel_rfl) rfl ?_;intro Γ hΓ
 (repeat first|refine tM rfl ?_ |refine aU rfl ?_ |refine Aa ?_)
 refine aB ?_
 refine Ak.A4 (α:={k:Nat // k≤n.toNat}) (fun ⟨k,hk⟩=>[(0,eI .i64 s),(1,eI .i64 n),(5,eI .i64 (Az s k).length),(6,eI .i64 k)]) (fun ⟨k,hk⟩=>[]) 0 (fun ⟨k,hk⟩=>n.toNat - k) (⟨0,by omega⟩) [] (Eb hΓ rfl rfl) (by (repeat' first|exact tI|rfl|refine And.intro ?_ ?_)) ?_;rintro⟨k,hk⟩;(try dsimp only)
 (repeat first|refine tM rfl ?_ |refine s2 rfl fun _ _hb=>?_ |refine aU rfl ?_ |refine Aa ?_)
 (refine aC rfl ?_ ?_<;>rintro⟨⟩)
 ·have hlt:k < n.toNat:=by have:=of_decide_eq_true _hb;omega
  refine aK ?_
  refine aS (aB ?_)
  (repeat first|refine tM rfl ?_ |refine aU rfl ?_)
  (refine Ag rfl ?_;refine Td (fun _ _=>BE rfl rfl rfl (Fb _ _ (by omega) (by omega)) rfl) rfl ?_;intro _ _hb)
  (repeat first|refine Aa ?_)
  have hs:=B1 s k
  have hl:=AL s k
  (refine aC rfl ?_ ?_<;>rintro⟨⟩)
  ·(repeat first|(refine sM rfl ?_ ?_;first|exact tI|omega) |refine aU rfl ?_ |refine Aa ?_)
   refine⟨⟨k+1,by omega⟩,by dsimp only;(omega),[],?_⟩
   rw [if_pos (by simpa using _hb)] at hs
   simp[cX,zC,hΓ,hs]
  ·refine aK ?_
   (repeat first|(refine sM rfl ?_ ?_;first|exact tI|omega) |refine aU rfl ?_ |refine Aa ?_)
   refine⟨⟨k+1,by omega⟩,by dsimp only;(omega),[],?_⟩
   rw [if_neg (by simpa using _hb),List.append_nil] at hs
   simp[cX,zC,hΓ,hs]
 ·have hk6:k=n.toNat:=by have:=of_decide_eq_false _hb;omega
  subst hk6
  refine aE ?_
  (repeat first|refine tM rfl ?_ |refine aU rfl ?_ |refine Aa ?_)
  refine aR ⟨_,rfl,rfl⟩
theorem CD(s:Int):Pure Tryz.prog TB 140 [eI .i64 s] (Aj (Ac s)):=by
 refine eN Tryz.func140 rfl (by kernel_rfl) rfl ?_;intro Γ hΓ
 (repeat first|refine aU rfl ?_)
 (refine Ag rfl ?_;refine Cq (fun _ _=>CT rfl) rfl ?_)
 (repeat first|refine aU rfl ?_ |refine Aa ?_)
 (refine pW rfl ?_ rfl (by rfl);refine Iw 1 3 ?_)
 (repeat first|refine tM rfl ?_ |refine aU rfl ?_ |refine Aa ?_)
 refine aB ?_
 refine Ak.A4 (α:={k:Nat // k≤6}) (fun ⟨k,hk⟩=>[(0,eI .i64 s),(3,.o (.arr 0 1 0 (Az s k).length)),(5,eI .i64 k)]) (fun ⟨k,hk⟩=>[(0,.cells 3 1 ((Az s k).map AB))]) 1 (fun ⟨k,hk⟩=>6 - k) (⟨0,by omega⟩) [0] (Eb hΓ rfl rfl) (by (repeat' first|exact tI|rfl|refine And.intro ?_ ?_)) ?_;rintro⟨k,hk⟩;(try dsimp only)
 (repeat first|refine s2 rfl fun _ _hb=>?_ |refine aU rfl ?_ |refine Aa ?_)
 (refine aC rfl ?_ ?_<;>rintro⟨⟩)
 ·have hlt:k < 6:=by have:=of_decide_eq_true _hb;omega
  refine aK ?_
  refine aS (aB ?_)
  (repeat first|refine tM rfl ?_ |refine aU rfl ?_ |refine Aa ?_)
  (refine Ag rfl ?_;refine Td (fun _ _=>BE rfl rfl rfl (Us _ _) rfl) rfl ?_;intro _ _hb)
  (repeat first|refine Aa ?_)
  have hs:=B1 s k
  have hbb:hasB s k=EM s k:=by simp [hasB]
  rw [hbb] at _hb
  (refine aC rfl ?_ ?_<;>rintro⟨⟩)
  ·(repeat first|refine tA rfl ?_ |refine aU rfl ?_)
   (refine pW rfl ?_ rfl (by rfl);refine Aw rfl rfl rfl (by first| (simp;done)|(simp;(omega))) rfl (by intro r hr;simp at hr;subst hr;rfl) (by rfl) (Nat.le_of_ble_eq_true rfl) (by have:=AL s k;simp;omega) ?_)
   (repeat first|(refine sX rfl ?_ ?_;first|exact tI|omega) |refine aU rfl ?_ |refine Aa ?_)
   refine⟨⟨k+1,by omega⟩,by dsimp only;(omega),[1],?_⟩
   rw [if_pos (by simpa using _hb)] at hs
   simp[cX,zC,hΓ,hs]
  ·refine aK ?_
   (repeat first|(refine sX rfl ?_ ?_;first|exact tI|omega) |refine aU rfl ?_ |refine Aa ?_)
   refine⟨⟨k+1,by omega⟩,by dsimp only;(omega),[0],?_⟩
   rw [if_neg (by simpa using _hb),List.append_nil] at hs
   simp[cX,zC,hΓ,hs]
 ·have hk6:k=6:=by have:=of_decide_eq_false _hb;omega
  subst hk6
  refine aE ?_
  (repeat first|refine tX rfl ?_ |refine aU rfl ?_ |refine Aa ?_)
  refine Ak.freeze [0] [(2,.o (.d (CO (Az s 6))))] ⟨⟨_,rfl,.o (.full (by simp) rfl (by simp [Function.comp_def]) (by simp))⟩,trivial⟩ ?_
  refine aR ⟨_,rfl,rfl⟩
end Go.Am
