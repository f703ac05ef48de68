/-
  What all rows share: how the arguments read, what a law that computes true leaves, a world that holds the tables.
-/
import Derived.Test.YtkdilmleinnfiaaGreatDoorCards
import Derived.Test.YtkdilmleinnfiaaGreatDoorTie
import Derived.Test.YtkdilmleinnfiaaGreatDoorPart6
import Derived.Test.YtkdilmleinnfiaaGreatDoorPart8
import Derived.WalkKit
import Derived.Test.YtkdilmleinnfiaaGreatDoorPart7
set_option linter.constructorNameAsVariable false
set_option linter.unusedSectionVars false
set_option linter.unusedSimpArgs false
set_option linter.unusedVariables false
namespace Go.Proofs.YtkdilmleinnfiaaGreatDoor
open Go Go.Am Go.ChangeShapes Go.WideShapes Go.ChangeAt Go.RowKit
theorem own:ownKnob Tryz.prog.godebug=none:=by kernel_rfl
theorem laidOut:laidOutB Tryz.prog=true:=by kernel_rfl
section
variable {w:World}
theorem bh:Rd Tryz.prog w 253 3 CZ:=
 Rd.map (fun y:Int×Int×Int=>(⟨y.1,y.2.1,y.2.2⟩:Fk)) (fun _=>rfl) (IG (k0:=1) (k1:=1) (k2:=1) Tryz.underlying253 ⟨rfl,rfl,rfl⟩ ⟨by kernel_rfl,by kernel_rfl,by kernel_rfl,by kernel_rfl⟩ (IF Tryz.underlying3) (IF Tryz.underlying3) (IF Tryz.underlying3))
theorem fX:Rd Tryz.prog w 28 3 Ok:=
 Rd.map (fun y:Int×Int×List Fk=>(⟨y.1,y.2.1,y.2.2⟩:Am.Sys)) (fun _=>rfl) (IG (k0:=1) (k1:=1) (k2:=1) Tryz.underlying28 ⟨rfl,rfl,rfl⟩ ⟨by kernel_rfl,by kernel_rfl,by kernel_rfl,by kernel_rfl⟩ (IF Tryz.underlying3) (IF Tryz.underlying3) (Jw Tryz.underlying26 (by kernel_rfl) (by decide) bh))
theorem fW:Rd Tryz.prog w 25 3 Ed:=
 Rd.map (fun y:Int×List (List Int)×List Bool=>(⟨y.1,y.2.1,y.2.2⟩:Bn)) (fun _=>rfl) (IG (k0:=1) (k1:=1) (k2:=1) Tryz.underlying25 ⟨rfl,rfl,rfl⟩ ⟨by kernel_rfl,by kernel_rfl,by kernel_rfl,by kernel_rfl⟩ (IF Tryz.underlying3) (Jw Tryz.underlying22 (by kernel_rfl) (by decide) (Jw Tryz.underlying84 (by kernel_rfl) (by decide) (IF Tryz.underlying3))) (Jw Tryz.underlying23 (by kernel_rfl) (by decide) (Y0 Tryz.underlying4)))
end
theorem ZN{f:FuncId}{W:World}{TB:Be}{es:List E}{vs:Array Value}(hno:TB.hid=none)(h:Pure Tryz.prog TB f es (eB true))(ht:∀x∈TB,below W x.1∧W.heap[x.1]? = some x.2)(ha:KO (PB W) es vs) :
 Calls Tryz.prog f vs W fun e W'=>e=.returned (.bool true)∧Gf W W':=by
 have hg:Am.Good TB (PB W) [] 0 ⟨fun _=>False,fun _=>False⟩:=⟨fun _ h=>h,Dh,ht,rfl,⟨by unfold Am.OA;rw [hno];exact fun _ h=>h,fun _ h=>h.elim,fun _ h=>h.elim,fun _ _ h=>h⟩⟩
 refine(h.2 (PB W) vs _ hg ha).mono ?_
 rintro e W' ⟨V',v,x,σ',rfl,rfl,hi,hx,rfl⟩
 have hv:v=.bool true:=Ax.val hx
 subst hv
 exact⟨rfl,hi.os,hi.output,hi.ext.size,fun b hb=>hi.old b hb fun h=>h.elim (fun ⟨_,_,h,_⟩=>by cases h) fun h=>h⟩
def Sa(l:List Value):Obj→Obj
 | .cells _ t frozen=>.cells l.toArray t frozen
 | o=>o
noncomputable def bO(os:Os):World:=
 {World.holding Tryz.prog os ⟨#[],#[],[]⟩ with heap:=((((World.holding Tryz.prog os ⟨#[],#[],[]⟩).heap.modify 1 (Sa FY)).modify 2 (Sa B7)).modify 0 (Sa MR)) }
end Go.Proofs.YtkdilmleinnfiaaGreatDoor
namespace Go.Am.R
open Go
structure Bv where
 f:Env
 σ:Ab
 nx:Nat
 pd:Nat→Option (TypeId×List Value)
def Bv.put(S:Bv)(d:Option Tmp)(x:E):Bv:=⟨Bq S.f d x,S.σ,S.nx,fun t=>if d=some t then none else S.pd t⟩
def Bv.FR(S:Bv)(d:Tmp)(q:TypeId×List Value):Bv:=⟨S.f,S.σ,S.nx,fun t=>if t=d then some q else S.pd t⟩
def Bv.ad(S:Bv)(d:Tmp)(T:TypeId)(z:List Value):Bv:=⟨Bq S.f (some d) (.o (.ptr S.nx z.length 0 0)),(S.nx,.cells T z.length [z.map zC])::S.σ,S.nx+1,fun t=>if t=d then none else S.pd t⟩
theorem Bv.put_comm(S:Bv){d d':Option Tmp}{x y:E}(h:∀t,d=some t→d'≠some t):(S.put d x).put d' y=(S.put d' y).put d x:=by
 unfold Bv.put
 rw [J9 h]
 congr 1
 funext t
 simp only
 split<;>split<;>rfl
theorem Bv.Qq(S:Bv){d':Option Tmp}{d:Tmp}{q:TypeId×List Value}{y:E}(h:d'≠some d):(S.put d' y).FR d q=(S.FR d q).put d' y:=by
 unfold Bv.put Bv.FR
 simp only [Bv.mk.injEq,true_and]
 funext t
 by_cases e:t=d
 ·subst e;simp [h]
 ·simp [e]
theorem Bv.UK(S:Bv){d d':Tmp}{q q':TypeId×List Value}(h:d≠d'):(S.FR d q).FR d' q'=(S.FR d' q').FR d q:=by
 unfold Bv.FR
 simp only [Bv.mk.injEq,true_and]
 funext t
 by_cases e:t=d
 ·subst e;simp [h]
 ·simp [e]
theorem Bv.ZG(S:Bv){d':Option Tmp}{d:Tmp}{T:TypeId}{z:List Value}{y:E}(h:d'≠some d):(S.put d' y).ad d T z=(S.ad d T z).put d' y:=by
 unfold Bv.put Bv.ad
 simp only
 rw [J9 (d:=d') (d':=some d) (fun t ht e=>h (by rw [ht,e]))]
 congr 1
 funext t
 by_cases e:t=d
 ·subst e;simp
 ·simp [e]
theorem Bv.XU(S:Bv){d' d:Tmp}{T:TypeId}{z:List Value}{q:TypeId×List Value}(h:d'≠d):(S.FR d' q).ad d T z=(S.ad d T z).FR d' q:=by
 unfold Bv.FR Bv.ad
 simp only [Bv.mk.injEq,true_and]
 funext t
 by_cases e:t=d
 ·subst e;simp [Ne.symm h]
 ·simp [e]
section
variable (P:Program)(TB:Be)(ops:Array Oper)
def QC(c:Nat)(o:Oper)(S:Bv)(x:E):Prop:=
 if c=2 then ∀Γ σ nx,AV P TB Γ o S.f σ nx x else if c=0 then ∀Γ,AV P TB Γ o S.f S.σ S.nx x else 10≤c∧∀Γ σ nx,look σ (c - 10)=look S.σ (c - 10)→AV P TB Γ o S.f σ nx x
def Mv(c:Nat)(o:Oper)(S:Bv)(u:Bv→Bv):Prop:=
 (c≠3∧Bc ops o S.f=some false∧u=fun S=>S.put o.dst (.t []))∨
 (c≠3∧Bc ops o S.f=some true∧∃x,QC P TB c o S x∧u=fun S=>S.put o.dst x)∨
 (c=3∧o.guard=none∧∃d T z,o.dst=some d∧o.op=.alloc T∧Vo P T=some z∧z.all Nw=true∧S.f d=none∧u=fun S=>S.FR d (T,z))
def XM(m:Nat)(o:Oper)(K:Bv→Prop)(S:Bv):Prop:=
 (Bc ops o S.f=some false∧K (S.put o.dst (.t [])))∨(Bc ops o S.f=some true∧∀Γ,BX P TB Γ o S.f S.σ S.nx (fun x σ' nx'=>Kept m S.σ σ'∧K (Bv.put ⟨S.f,σ',nx',S.pd⟩ o.dst x)))
def St(c:Nat)(o:Oper)(K:Bv→Prop)(S:Bv):Prop:=
 if c=1 then XM P TB ops 0 o K S else
 if 1000≤c then XM P TB ops (c - 1000) o K S else
 if c=5 then ∃d T z,.tmp d∈o.op.operands∧S.pd d=some (T,z)∧XM P TB ops 0 o K (S.ad d T z) else
 ∃u,Mv P TB ops c o S u∧K (u S)
def Lex:List (Nat×Nat)→(Bv→Prop)→Bv→Prop
 | [],K,S=>K S
 | (i,c)::r,K,S=>∃o,ops[i]? = some o∧St P TB ops c o (Lex r K) S
end
section
variable {P:Program}{TB:Be}{ops:Array Oper}
theorem XM.mono{m:Nat}{o:Oper}{K K':Bv→Prop}{S:Bv}(h:∀S,K S→K' S)(hs:XM P TB ops m o K S):XM P TB ops m o K' S:=by
 rcases hs with ⟨h1,h2⟩|⟨h1,h2⟩
 ·exact .inl ⟨h1,h _ h2⟩
 ·exact .inr ⟨h1,fun Γ=>(h2 Γ).mono fun _ _ _ h3=>⟨h3.1,h _ h3.2⟩⟩
theorem St.mono{c:Nat}{o:Oper}{K K':Bv→Prop}{S:Bv}(h:∀S,K S→K' S)(hs:St P TB ops c o K S):St P TB ops c o K' S:=by
 unfold St at *
 split
 ·rename_i e;rw [if_pos e] at hs;exact hs.mono h
 ·rename_i e;rw [if_neg e] at hs
  split
  ·rename_i e;rw [if_pos e] at hs;exact hs.mono h
  ·rename_i e;rw [if_neg e] at hs
   split
   ·rename_i e5;rw [if_pos e5] at hs
    obtain⟨d,T,z,h1,h2,h3⟩:=hs
    exact⟨d,T,z,h1,h2,h3.mono h⟩
   ·rename_i e5;rw [if_neg e5] at hs
    obtain⟨u,h1,h2⟩:=hs
    exact⟨u,h1,h _ h2⟩
def Yp(x y:Oper):Bool:=(x.looksAt ops).all fun t=>!(y.looksAt ops).contains t
def Ji(ci cj:Nat):Bool:=
 Nat.beq ci 2 || (Nat.beq ci 3 || ((Nat.beq ci 0 && (!Nat.beq cj 1 && (!Nat.beq cj 5 && Nat.ble cj 999))) || (Nat.ble 10 ci && (Nat.ble ci 999 && (!Nat.beq cj 1 && (!Nat.beq cj 5 && (Nat.ble cj 999 || (cj - 1000).testBit (ci - 10))))))))
theorem Jj{ci cj:Nat}(h:Ji ci cj=true):ci=2∨ci=3∨(ci=0∧cj≠1∧cj≠5∧cj < 1000)∨(10≤ci∧ci < 1000∧cj≠1∧cj≠5∧(cj < 1000∨(cj - 1000).testBit (ci - 10)=true)):=by
 unfold Ji at h
 have nb:∀a b:Nat,(!Nat.beq a b)=true→a≠b:=fun a b h e=>by subst e;simp at h
 simp only [Bool.or_eq_true,Bool.and_eq_true,Nat.beq_eq,Nat.ble_eq] at h
 rcases h with h|h|⟨h1,h2,h3,h4⟩|⟨h1,h2,h3,h4,h5⟩
 ·exact .inl h
 ·exact .inr (.inl h)
 ·exact .inr (.inr (.inl ⟨h1,nb _ _ h2,nb _ _ h3,by omega⟩))
 ·exact .inr (.inr (.inr ⟨h1,by omega,nb _ _ h3,nb _ _ h4,h5.imp (fun h=>by omega) id⟩))
def WQ(ops:Array Oper)(i ci j cj:Nat):Bool:=
 waits ops i ops.size j || (match ops[i]?,ops[j]? with
  | some x,some y=>x.apart ops y && Ji ci cj && (!Nat.beq cj 5 || Yp (ops:=ops) x y)
  | _,_=>false)
def OY(ops:Array Oper)(i c:Nat)(r:List (Nat×Nat)):Bool:=r.all fun (j,cj)=>WQ ops i c j cj
def C6(ops:Array Oper):List (Nat×Nat)→Bool
 | []=>true
 | (i,c)::r=>OY ops i c r && C6 ops r
theorem Mv.put{c:Nat}{o:Oper}{S:Bv}{u:Bv→Bv}(h:Mv P TB ops c o S u){d:Option Tmp}{x:E}{σ:Ab}{nx:Nat}{pd:Nat→Option (TypeId×List Value)}(hd:∀t,d=some t→t∉o.looksAt ops)(hd2:∀t,o.dst=some t→d≠some t)(hs:c=0→σ=S.σ∧nx=S.nx)(hl:10≤c→look σ (c - 10)=look S.σ (c - 10)) :
 Mv P TB ops c o (Bv.put ⟨S.f,σ,nx,pd⟩ d x) u:=by
 have hg:Bc ops o (Bv.put ⟨S.f,σ,nx,pd⟩ d x).f=Bc ops o S.f:=FJ hd
 have ag:∀t,.tmp t∈o.op.operands→S.f t=Bq S.f d x t:=fun t ht=>(EK hd t ht).symm
 rcases h with ⟨h1,h2,h3⟩|⟨h1,h2,y,h3,h4⟩|⟨h1,h2,dd,T,z,h3,h4,h5,h6,h7,h8⟩
 ·exact .inl ⟨h1,by rw [hg];exact h2,h3⟩
 ·refine .inr (.inl ⟨h1,by rw [hg];exact h2,y,?_,h4⟩)
  unfold QC at h3 ⊢
  by_cases e:c=2
  ·rw [if_pos e] at h3 ⊢
   exact fun Γ σ nx=>(h3 Γ σ nx).congr ag
  ·rw [if_neg e] at h3 ⊢
   by_cases hc0:c=0
   ·rw [if_pos hc0] at h3 ⊢
    obtain⟨rfl,rfl⟩:=hs hc0
    exact fun Γ=>(h3 Γ).congr ag
   ·rw [if_neg hc0] at h3 ⊢
    exact⟨h3.1,fun Γ σ1 nx1 hx=>(h3.2 Γ σ1 nx1 (hx.trans (hl h3.1))).congr ag⟩
 ·refine .inr (.inr ⟨h1,h2,dd,T,z,h3,h4,h5,h6,?_,h8⟩)
  show Bq S.f d x dd=none
  rw [CC (hd2 dd h3)];exact h7
theorem Mv.fB{c:Nat}{o:Oper}{S:Bv}{u:Bv→Bv}(h:Mv P TB ops c o S u):(∃x,u=fun S=>S.put o.dst x)∨∃d q,o.dst=some d∧u=fun S=>S.FR d q:=by
 rcases h with ⟨_,_,h3⟩|⟨_,_,y,_,h4⟩|⟨_,_,dd,T,z,h3,_,_,_,_,h8⟩
 ·exact .inl ⟨_,h3⟩
 ·exact .inl ⟨_,h4⟩
 ·exact .inr ⟨dd,_,h3,h8⟩
theorem Mv.back{c:Nat}{o oi:Oper}{S:Bv}{u v:Bv→Bv}(hu:(∃x,u=fun S=>S.put oi.dst x)∨∃d q,oi.dst=some d∧u=fun S=>S.FR d q)(h:Mv P TB ops c o (u S) v)(h1:∀t,oi.dst=some t→t∉o.looksAt ops)(h2:∀t,oi.dst=some t→o.dst≠some t):Mv P TB ops c o S v:=by
 rcases hu with ⟨x,rfl⟩|⟨d,q,hd,rfl⟩
 ·have hg:Bc ops o (S.put oi.dst x).f=Bc ops o S.f:=FJ h1
  have ag:∀t,.tmp t∈o.op.operands→Bq S.f oi.dst x t=S.f t:=EK h1
  rcases h with ⟨a1,a2,a3⟩|⟨a1,a2,y,a3,a4⟩|⟨a1,a2,dd,T,z,a3,a4,a5,a6,a7,a8⟩
  ·exact .inl ⟨a1,by rw [←hg];exact a2,a3⟩
  ·refine .inr (.inl ⟨a1,by rw [←hg];exact a2,y,?_,a4⟩)
   unfold QC at a3 ⊢
   by_cases e:c=2
   ·rw [if_pos e] at a3 ⊢;exact fun Γ σ nx=>(a3 Γ σ nx).congr ag
   ·rw [if_neg e] at a3 ⊢
    by_cases hc0:c=0
    ·rw [if_pos hc0] at a3 ⊢;exact fun Γ=>(a3 Γ).congr ag
    ·rw [if_neg hc0] at a3 ⊢;exact⟨a3.1,fun Γ σ1 nx1 hx=>(a3.2 Γ σ1 nx1 hx).congr ag⟩
  ·refine .inr (.inr ⟨a1,a2,dd,T,z,a3,a4,a5,a6,?_,a8⟩)
   have:Bq S.f oi.dst x dd=none:=a7
   rw [CC (fun e=>h2 dd e a3)] at this;exact this
 ·exact h
theorem QT{oi oj:Oper}{S:Bv}{u v:Bv→Bv}(hu:(∃x,u=fun S=>S.put oi.dst x)∨∃d q,oi.dst=some d∧u=fun S=>S.FR d q)(hv:(∃x,v=fun S=>S.put oj.dst x)∨∃d q,oj.dst=some d∧v=fun S=>S.FR d q)(h:∀t,oi.dst=some t→oj.dst≠some t):v (u S)=u (v S):=by
 rcases hu with ⟨x,rfl⟩|⟨d,q,hd,rfl⟩<;>rcases hv with ⟨y,rfl⟩|⟨d',q',hd',rfl⟩
 ·exact S.put_comm h
 ·exact S.Qq fun e=>h d' e hd'
 ·exact(S.Qq (h d hd)).symm
 ·exact S.UK fun e=>h d hd (by rw [hd',e])
theorem XM.swap{ci m:Nat}{oi oj:Oper}{S:Bv}{u:Bv→Bv}{K:Bv→Prop}(hci:ci=2∨ci=3∨(10≤ci∧m.testBit (ci - 10)=true))(hap:oi.apart ops oj=true)(hu:Mv P TB ops ci oi S u)(h:XM P TB ops m oj K (u S)):XM P TB ops m oj (fun S'=>∃u,Mv P TB ops ci oi S' u∧K (u S')) S:=by
 obtain⟨h1,h2,h3⟩:=Oper.apart_spec hap
 have hup:=hu.fB
 have h2':∀t,oi.dst=some t→oj.dst≠some t:=h2
 have hmv:∀(x:E) (σ:Ab) (nx:Nat),Kept m S.σ σ→Mv P TB ops ci oi (Bv.put ⟨S.f,σ,nx,S.pd⟩ oj.dst x) u:=fun x σ nx hkp=>hu.put (fun t ht=>h3 t ht) h2' (fun e=>by omega) (fun e=>hkp _ (by rcases hci with e1|e1|e1;omega;omega;exact e1.2))
 have hK:∀(x:E) (σ:Ab) (nx:Nat),Bv.put ⟨(u S).f,σ,nx,(u S).pd⟩ oj.dst x=u (Bv.put ⟨S.f,σ,nx,S.pd⟩ oj.dst x):=by
  intro x σ nx
  have:=QT (S:=⟨S.f,σ,nx,S.pd⟩) hup (.inl ⟨x,rfl⟩) h2'
  rw [←this]
  rcases hup with ⟨y,rfl⟩|⟨d,q,_,rfl⟩<;>rfl
 have hg:Bc ops oj (u S).f=Bc ops oj S.f:=by
  rcases hup with ⟨y,rfl⟩|⟨d,q,_,rfl⟩
  ·exact FJ h1
  ·rfl
 have ag:∀t,.tmp t∈oj.op.operands→(u S).f t=S.f t:=by
  rcases hup with ⟨y,rfl⟩|⟨d,q,_,rfl⟩
  ·exact EK h1
  ·exact fun _ _=>rfl
 have hσ:(u S).σ=S.σ∧(u S).nx=S.nx:=by rcases hup with ⟨y,rfl⟩|⟨d,q,_,rfl⟩<;>exact⟨rfl,rfl⟩
 rcases h with ⟨a1,a2⟩|⟨a1,a2⟩
 ·refine .inl ⟨by rw [←hg];exact a1,u,hmv _ S.σ S.nx (fun _ _=>rfl),?_⟩
  have:=hK (.t []) S.σ S.nx
  rw [←hσ.1,←hσ.2] at this
  have e:Bv.put ⟨(u S).f,(u S).σ,(u S).nx,(u S).pd⟩ oj.dst (.t [])=(u S).put oj.dst (.t []):=rfl
  rw [e] at this
  rw [this,hσ.1,hσ.2] at a2
  exact a2
 ·refine .inr ⟨by rw [←hg];exact a1,fun Γ=>?_⟩
  have:=(a2 Γ).congr ag
  rw [hσ.1,hσ.2] at this
  exact this.mono fun x σ' nx' hk=>by
   have hkp:Kept m S.σ σ':=hk.1
   exact⟨hkp,u,hmv x σ' nx' hkp,by rw [←hK];exact hk.2⟩
theorem St.swap{ci cj:Nat}{oi oj:Oper}{S:Bv}{u:Bv→Bv}{K:Bv→Prop}(hap:oi.apart ops oj=true)(hcc:Ji ci cj=true)(hfar:(!Nat.beq cj 5 || Yp (ops:=ops) oi oj)=true)
 (hu:Mv P TB ops ci oi S u) (h:St P TB ops cj oj K (u S)):St P TB ops cj oj (fun S'=>∃u,Mv P TB ops ci oi S' u∧K (u S')) S:=by
 obtain⟨h1,h2,h3⟩:=Oper.apart_spec hap
 have h2':∀t,oi.dst=some t→oj.dst≠some t:=h2
 have hup:=hu.fB
 have hci:=Jj hcc
 unfold St at *
 by_cases c1:cj=1
 ·rw [if_pos c1] at h ⊢
  exact h.swap (by omega) hap hu
 ·rw [if_neg c1] at h ⊢
  by_cases ck:1000≤cj
  ·rw [if_pos ck] at h ⊢
   refine h.swap ?_ hap hu
   rcases hci with e|e|e|⟨e1,e2,e3,e4,e5|e5⟩
   ·exact .inl e
   ·exact .inr (.inl e)
   ·omega
   ·omega
   ·exact .inr (.inr ⟨e1,e5⟩)
  rw [if_neg ck] at h ⊢
  by_cases c5:cj=5
  ·rw [if_pos c5] at h ⊢
   obtain⟨d,T,z,hdo,hpd,hst⟩:=h
   have hdl:d∈oj.looksAt ops:=FP hdo
   have hne:oi.dst≠some d:=fun e=>h1 d e hdl
   have hnl:d∉oi.looksAt ops:=by
    subst c5
    unfold Yp at hfar
    simp only [Nat.beq_refl,Bool.not_true,Bool.false_or,List.all_eq_true] at hfar
    intro hd
    have:=hfar d hd
    simp [hdl] at this
   have hpd':S.pd d=some (T,z):=by
    rcases hup with ⟨x,rfl⟩|⟨d',q,hd',rfl⟩
    ·have:(if oi.dst=some d then none else S.pd d)=some (T,z):=hpd
     rwa [if_neg hne] at this
    ·have:(if d=d' then some q else S.pd d)=some (T,z):=hpd
     rwa [if_neg (fun e=>hne (by rw [hd',e]))] at this
   have hcomm:(u S).ad d T z=u (S.ad d T z):=by
    rcases hup with ⟨x,rfl⟩|⟨d',q,hd',rfl⟩
    ·exact S.ZG hne
    ·exact S.XU fun e=>hne (by rw [hd',e])
   have hmv:Mv P TB ops ci oi (S.ad d T z) u:=by
    have:=hu.put (d:=some d) (x:=.o (.ptr S.nx z.length 0 0)) (σ:=(S.nx,.cells T z.length [z.map zC])::S.σ) (nx:=S.nx+1) (pd:=S.pd) (fun t ht=>by injection ht with ht;subst ht;exact hnl) (fun t ht e=>hne (by rw [ht];exact e.symm)) (fun e=>by omega) (fun e=>by omega)
    rcases this with ⟨a1,a2,a3⟩|⟨a1,a2,y,a3,a4⟩|⟨a1,a2,dd,T',z',a3,a4,a5,a6,a7,a8⟩
    ·exact .inl ⟨a1,a2,a3⟩
    ·exact .inr (.inl ⟨a1,a2,y,a3,a4⟩)
    ·exact .inr (.inr ⟨a1,a2,dd,T',z',a3,a4,a5,a6,a7,a8⟩)
   rw [hcomm] at hst
   exact⟨d,T,z,hdo,hpd',hst.swap (by omega) hap hmv⟩
  ·rw [if_neg c5] at h ⊢
   obtain⟨v,hv,hk⟩:=h
   have hvp:=hv.fB
   refine⟨v,hv.back hup h1 h2',u,?_,by rw [←QT hup hvp h2'];exact hk⟩
   rcases hvp with ⟨x,rfl⟩|⟨d,q,hd,rfl⟩
   ·exact hu.put (σ:=S.σ) (nx:=S.nx) (pd:=S.pd) (fun t ht=>h3 t ht) h2' (fun _=>⟨rfl,rfl⟩) (fun _=>rfl)
   ·exact hu
end
section
variable {P:Program}{TB:Be}{ops:Array Oper}
theorem Ei(K:Bv→Prop):∀(r:List (Nat×Nat)) (listed:Array Bool) (S:Bv),Ey ops listed→A4 ops r listed=true→C6 ops r=true→
 Lex P TB ops r K S→∀j,j∈Region.ready .any ops listed→∃r1 c r2 o,r=r1++(j,c)::r2∧ops[j]? = some o∧St P TB ops c o (Lex P TB ops (r1++r2) K) S
 | [],listed,_,_,ho,_,_,j,hj=>by have:=Jp _ _ ho j hj;simp at this
 | (i, ci) :: r,listed,S,hc,ho,hk,h,j,hj=>by
  obtain⟨oi,hoi,h⟩:=h
  by_cases hij:j=i
  ·subst hij
   exact⟨[],ci,r,oi,rfl,hoi,h⟩
  ·simp only [A4,Bool.and_eq_true] at ho
   simp only [C6,Bool.and_eq_true] at hk
   have hi:i∈Region.ready .any ops listed:=by simpa using ho.1
   have hjm:j∈r.map (·.1):=Jp r _ ho.2 j (ready_mono hj hij)
   obtain⟨⟨j',cj⟩,hmem,rfl⟩:=List.mem_map.1 hjm
   have hat:=hk.1
   unfold OY at hat
   rw [List.all_eq_true] at hat
   have hnow:∀c',(j',c')∈r→∃oj,ops[j']? = some oj∧oi.apart ops oj=true∧Ji ci c'=true∧(!Nat.beq c' 5 || Yp (ops:=ops) oi oj)=true:=by
    intro c' hm'
    have hj0:=hat _ hm'
    simp only [WQ] at hj0
    rw [Bool.or_eq_true] at hj0
    rcases hj0 with hj0|hj0
    ·exact absurd hj (KN hc (QS (Mx hi)) hj0)
    ·rw [hoi] at hj0
     cases hoj:ops[j']? with
     | none=>rw [hoj] at hj0;cases hj0
     | some oj=>
      rw [hoj] at hj0
      simp only [Bool.and_eq_true] at hj0
      exact⟨oj,rfl,hj0.1.1,hj0.1.2,hj0.2⟩
   have hci:ci≠1∧¬1000≤ci∧ci≠5:=by
    obtain⟨oj,_,_,h2,_⟩:=hnow cj hmem
    have:=Jj h2
    omega
   have h':∃u,Mv P TB ops ci oi S u∧Lex P TB ops r K (u S):=by
    unfold St at h
    rwa [if_neg hci.1,if_neg hci.2.1,if_neg hci.2.2] at h
   obtain⟨u,hu,hl⟩:=h'
   obtain⟨r1,c,r2,oj,hr,hoj,h5⟩:=Ei K r (listed.setIfInBounds i true) _ (Gj hc hi) ho.2 hk.2 hl j' (ready_mono hj hij)
   obtain⟨oj',hoj',hap,hcc,hfar⟩:=hnow c (by rw [hr];simp)
   rw [hoj] at hoj'
   injection hoj' with hoj'
   subst hoj'
   refine⟨(i,ci)::r1,c,r2,oj,by rw [hr];rfl,hoj,?_⟩
   refine(St.swap hap hcc hfar hu h5).mono fun S' ⟨u',hu',hk'⟩=>?_
   refine⟨oi,hoi,?_⟩
   unfold St
   rw [if_neg hci.1,if_neg hci.2.1,if_neg hci.2.2]
   exact⟨u',hu',hk'⟩
theorem Jo:∀(r1 r2:List (Nat×Nat)) (x:Nat×Nat),C6 ops (r1++x::r2)=true→C6 ops (r1++r2)=true
 | [],r2,(j,c),h=>by
  simp only [List.nil_append,C6,Bool.and_eq_true] at h
  exact h.2
 | (i,d)::r1,r2,x,h=>by
  simp only [List.cons_append,C6,Bool.and_eq_true] at h ⊢
  refine⟨?_,Jo r1 r2 x h.2⟩
  have h1:=h.1
  unfold OY at h1 ⊢
  rw [List.all_eq_true] at h1 ⊢
  intro y hy
  refine h1 y ?_
  rcases List.mem_append.1 hy with hy|hy
  ·exact List.mem_append_left _ hy
  ·exact List.mem_append_right _ (List.mem_cons_of_mem _ hy)
structure Ue (Γ:Ctx) (V:View) (σ:Ab) (b:Nat) (T:TypeId) (z:List Value):Prop where
 cells:∃cur:Array Value,V.w.heap[b]? = some (.cells cur T (0,0))∧cur.toList=z
 ni:¬V.I b
 ns:∀id o,look σ id=some o→¬V.nl id→¬Dv V id o b
 lo:Γ.V.w.heap.size≤b
 zok:z.all Nw=true
theorem Ue.lt{Γ:Ctx}{V:View}{σ:Ab}{b:Nat}{T:TypeId}{z:List Value}(h:Ue Γ V σ b T z):b < V.w.heap.size:=by
 obtain⟨cur,h1,_⟩:=h.cells
 exact(Array.getElem?_eq_some_iff.1 h1).1
theorem Inv.comp{Γ:Ctx}{V V':View}{σ σ':Ab}{Q:Pu}(h:Inv TB Γ V σ)(hj:∀b,Q.J b→Γ.J b∨Γ.V.w.heap.size≤b∨Γ.F b)(hq:∀b,Q.B b→Γ.V.w.heap.size≤b∨Γ.F b)(h':Inv TB (DJ V V σ Q) V' σ'):Inv TB Γ V' σ':=by
 have hf:∀b,CK V σ b∨Q.B b→Γ.V.w.heap.size≤b∨Γ.F b:=by
  rintro b (⟨id,o,h1,h2,h3⟩|hb)
  ·exact h.live id o h1 h2 b h3
  ·exact hq b hb
 refine⟨h'.os.trans h.os,h'.tape.trans h.tape,h'.output.trans h.output,fun b hb hn=>?_,h'.iLt,fun b hb=>?_,h.ext.trans h'.ext,h'.st,fun id o h1 h2 b hb=>?_,h'.tabs,?_⟩
 ·have h1:¬(CK V σ b∨Q.B b):=fun hx=>by rcases hf b hx with h2|h2;omega;exact hn h2
  exact(h'.old b (Nat.lt_of_lt_of_le hb h.ext.size) h1).trans (h.old b hb hn)
 ·rcases h'.iNew b hb with h1|h1|h1
  ·exact h.iNew b h1
  ·exact .inr (.inl (Nat.le_trans h.ext.size h1))
  ·exact .inr (hf b h1)
 ·rcases h'.live id o h1 h2 b hb with h3|h3
  ·exact .inl (Nat.le_trans h.ext.size h3)
  ·exact hf _ h3
 ·obtain⟨Q1,k1,k2,k3⟩:=h'.hid
  refine⟨Q1,k1,fun b hb=>?_,fun b hb=>?_⟩
  ·rcases k2 b hb with h3|h3|h3
   ·exact hj b h3
   ·exact .inr (.inl (Nat.le_trans h.ext.size h3))
   ·exact .inr (hf b h3)
  ·rcases k3 b hb with h3|h3
   ·exact .inl (Nat.le_trans h.ext.size h3)
   ·exact hf b h3
theorem Ue.comp{Γ:Ctx}{V V':View}{σ σ':Ab}{b:Nat}{T:TypeId}{z:List Value}{Q:Pu}(hp:Ue Γ V σ b T z)(hnq:¬Q.B b)(h':Inv TB (DJ V V σ Q) V' σ'):Ue Γ V' σ' b T z:=by
 have hlt:=hp.lt
 have hnf:¬(CK V σ b∨Q.B b):=by
  rintro(⟨id,o,h1,h2,h3⟩|hb)
  ·exact hp.ns id o h1 h2 h3
  ·exact hnq hb
 refine⟨?_,fun hI=>?_,fun id o h1 h2 e=>?_,hp.lo,hp.zok⟩
 ·obtain⟨cur,h1,h2⟩:=hp.cells
  exact⟨cur,(h'.old b hlt hnf).trans h1,h2⟩
 ·rcases h'.iNew b hI with h1|h1|h1
  ·exact hp.ni h1
  ·have h1:V.w.heap.size≤b:=h1;omega
  ·exact hnf h1
 ·rcases h'.live id o h1 h2 b e with h3|h3
  ·have h3:V.w.heap.size≤b:=h3;omega
  ·exact hnf h3
structure bX (TB:Be) (Γ:Ctx) (V:View) (S:Bv) (a:Act) (Q:Pu):Prop where
 s:KQ TB V S.σ Q
 j:∀b,Q.J b→Γ.J b∨Γ.V.w.heap.size≤b∨Γ.F b
 b:∀b,Q.B b→Γ.V.w.heap.size≤b∨Γ.F b
 p:∀d q b,S.pd d=some q→a.tmps[d]? = some (.pointer (some ⟨b,0,none⟩))→¬Q.B b
structure HO (TB:Be) (Γ:Ctx) (N:Nat) (V:View) (S:Bv) (a:Act):Prop where
 st:BA TB Γ N V S.f S.σ S.nx a
 pd:∀d T z,S.pd d=some (T,z)→S.f d=none∧∃b,a.tmps[d]? = some (.pointer (some ⟨b,0,none⟩))∧Ue Γ V S.σ b T z
 ne:∀d d' q q' b b',S.pd d=some q→S.pd d'=some q'→d≠d'→a.tmps[d]? = some (.pointer (some ⟨b,0,none⟩))→a.tmps[d']? = some (.pointer (some ⟨b',0,none⟩))→b≠b'
 sc:∃Q,bX TB Γ V S a Q
variable {Γ:Ctx}{N:Nat}{V V':View}{S:Bv}{a:Act}
theorem Gy{a:Act}{d:Option Tmp}{v:Value}{t:Nat}(h:d≠some t):(a.put d v).tmps[t]? = a.tmps[t]?:=by
 cases d with
 | none=>rfl
 | some d=>
  have:d≠t:=fun e=>h (by rw [e])
  simp [Act.put,Array.getElem?_setIfInBounds_ne this]
theorem HO.put(h:HO TB Γ N V S a){d:Option Tmp}{x:E}{v:Value}{σ':Ab}{nx':Nat}(hd:∀t,d=some t→t < N)(e:Ext V V'){Q:Pu}(hQ:bX TB Γ V S a Q)(hi:Inv TB (DJ V V S.σ Q) V' σ')(hn:V'.nx=nx')(hx:A2 V' x v):HO TB Γ N V' (Bv.put ⟨S.f,σ',nx',S.pd⟩ d x) (a.put d v):=by
 have hp:∀t q,(if d=some t then none else S.pd t)=some q→d≠some t∧S.pd t=some q:=fun t q hq=>by
  split at hq
  ·cases hq
  ·rename_i hne;exact⟨hne,hq⟩
 refine⟨h.st.put hd e (Inv.comp h.st.inv hQ.j hQ.b hi) hn hx,fun t T z hq=>?_,fun t t' q q' b b' hq hq' hne hb hb'=>?_,?_⟩
 ·obtain⟨h1,h2⟩:=hp t _ hq
  obtain⟨h3,b,h4,h5⟩:=h.pd t T z h2
  refine⟨?_,b,by rw [Gy h1];exact h4,h5.comp (hQ.p t _ b h2 h4) hi⟩
  show Bq S.f d x t=none
  rw [CC h1];exact h3
 ·obtain⟨h1,h2⟩:=hp t _ hq
  obtain⟨h1',h2'⟩:=hp t' _ hq'
  rw [Gy h1] at hb
  rw [Gy h1'] at hb'
  exact h.ne t t' q q' b b' h2 h2' hne hb hb'
 ·obtain⟨Q1,k1,k2,k3⟩:=hi.hid
  refine⟨Q1,k1,fun b hb=>?_,fun b hb=>?_,fun t q b hq hb hB=>?_⟩
  ·rcases k2 b hb with h3|h3|h3|h3
   ·exact hQ.j b h3
   ·exact .inr (.inl (Nat.le_trans h.st.inv.ext.size h3))
   ·obtain⟨id,o,g1,g2,g3⟩:=h3;exact .inr (h.st.inv.live id o g1 g2 b g3)
   ·exact .inr (hQ.b b h3)
  ·rcases k3 b hb with h3|h3|h3
   ·exact .inl (Nat.le_trans h.st.inv.ext.size h3)
   ·obtain⟨id,o,g1,g2,g3⟩:=h3;exact h.st.inv.live id o g1 g2 b g3
   ·exact hQ.b b h3
  ·obtain⟨h1,h2⟩:=hp t _ hq
   rw [Gy h1] at hb
   obtain⟨_,b2,h4,h5⟩:=h.pd t q.1 q.2 h2
   rw [hb] at h4
   injection h4 with h4;injection h4 with h4;injection h4 with h4;injection h4 with h4
   subst h4
   rcases k3 b hB with h3|h3|h3
   ·have h3:V.w.heap.size≤b:=h3
    have:=h5.lt;omega
   ·obtain⟨id,o,g1,g2,g3⟩:=h3;exact h5.ns id o g1 g2 g3
   ·exact hQ.p t _ b h2 hb h3
theorem Inv.grow{σ:Ab}(h:Inv TB Γ V σ){w:World}(hos:w.os=V.w.os)(ht:w.tape=V.w.tape)(ho:w.output=V.w.output)(hs:V.w.heap.size≤w.heap.size)(hw:∀b,b < V.w.heap.size→w.heap[b]? = V.w.heap[b]?):Inv TB Γ { V with w:=w } σ∧Ext V { V with w:=w } := by
 have e:Ext V { V with w:=w } := ⟨fun _ h=>h,fun b hb=>hw b (h.iLt b hb),hs,fun _ _=>rfl,fun _ _=>rfl,fun _ _=>Iff.rfl,Nat.le_refl _⟩
 refine⟨⟨hos.trans h.os,ht.trans h.tape,ho.trans h.output,fun b hb hf=>(hw b (Nat.lt_of_lt_of_le hb h.ext.size)).trans (h.old b hb hf),fun b hb=>Nat.lt_of_lt_of_le (h.iLt b hb) hs,h.iNew,h.ext.trans e,⟨fun id o hl=>?_,h.st.lt,h.st.free,h.st.inj⟩,h.live,fun x hx=>?_,h.hid.step (fun _ h=>h) e.heap hs (fun b hb _ _=>hw b hb) (fun _ h=>.inl h) fun b hb=>.inl (Hg e h.st.lt hb)⟩,e⟩
 ·exact(h.st.obj id o hl).AU e (h.st.lt id o hl) fun hn b hb=>hw _ ((h.st.obj id o hl).blt hn hb)
 ·have:=h.tabs x hx
  exact⟨this.1,(hw _ (h.iLt _ this.1)).trans this.2⟩
theorem HO.alloc(h:HO TB Γ N V S a){d:Tmp}{T:TypeId}{zv:Value}{z:List Value}(hd:d < N)(hf:S.f d=none)(hz:zv.cells.toList=z)(hok:z.all Nw=true):HO TB Γ N { V with w:=V.w.alloc (.cells zv.cells T) } (S.FR d (T,z)) (a.put (some d) (.pointer (some ⟨V.w.heap.size,0,none⟩))):=by
 obtain⟨hi,he⟩:=Inv.grow h.st.inv (w:=V.w.alloc (.cells zv.cells T)) rfl rfl rfl (by simp) (fun b hb=>AX _ _ _ hb)
 have hds:d < a.tmps.size:=by rw [h.st.size];exact hd
 have hput:(a.put (some d) (.pointer (some ⟨V.w.heap.size,0,none⟩))).tmps[d]? = some (.pointer (some ⟨V.w.heap.size,0,none⟩)):=by
  simp [Act.put,hds]
 refine⟨⟨fun t e ht=>?_,h.st.lt,by simp [Act.put,h.st.size],hi,h.st.nx,h.st.defers⟩,fun t T' z' hq=>?_,fun t t' q q' b b' hq hq' hne hb hb'=>?_,?_⟩
 ·have ht:S.f t=some e:=ht
  have hne:d≠t:=fun e=>by subst e;rw [hf] at ht;cases ht
  have:=(h.st.env t e ht).ext he
  simpa [Act.put,Array.getElem?_setIfInBounds_ne hne] using this
 ·have hq:(if t=d then some (T,z) else S.pd t)=some (T',z'):=hq
  by_cases e:t=d
  ·subst e
   rw [if_pos rfl] at hq
   injection hq with hq;injection hq with hq1 hq2
   subst hq1 hq2
   refine⟨hf,_,hput,⟨⟨zv.cells,BG _ _,hz⟩,fun hI=>?_,fun id o h1 h2 e=>?_,?_,hok⟩⟩
   ·exact Nat.lt_irrefl _ (h.st.inv.iLt _ hI)
   ·have h3:=(h.st.inv.st.obj id o h1).blt h2 e
    omega
   ·exact h.st.inv.ext.size
  ·rw [if_neg e] at hq
   obtain⟨h1,b,h2,h3⟩:=h.pd t T' z' hq
   refine⟨h1,b,by rw [Gy (fun e'=>e (by injection e' with e';exact e'.symm))];exact h2,⟨?_,h3.ni,h3.ns,h3.lo,h3.zok⟩⟩
   obtain⟨cur,h4,h5⟩:=h3.cells
   exact⟨cur,(AX _ _ _ h3.lt).trans h4,h5⟩
 ·have hq:(if t=d then some (T,z) else S.pd t)=some q:=hq
  have hq':(if t'=d then some (T,z) else S.pd t')=some q':=hq'
  have old:∀t q b,t≠d→S.pd t=some q→(a.put (some d) (.pointer (some ⟨V.w.heap.size,0,none⟩))).tmps[t]? = some (.pointer (some ⟨b,0,none⟩))→a.tmps[t]? = some (.pointer (some ⟨b,0,none⟩))∧b < V.w.heap.size:=fun t q b e hq hb=>by
   rw [Gy (fun e'=>e (by injection e' with e';exact e'.symm))] at hb
   obtain⟨_,b2,h2,h3⟩:=h.pd t q.1 q.2 hq
   rw [hb] at h2
   injection h2 with h2;injection h2 with h2;injection h2 with h2;injection h2 with h2
   subst h2
   exact⟨hb,h3.lt⟩
  by_cases e:t=d
  ·subst e
   rw [hput] at hb
   injection hb with hb;injection hb with hb;injection hb with hb;injection hb with hb
   rw [if_neg (Ne.symm hne)] at hq'
   have:=(old t' q' b' (Ne.symm hne) hq' hb').2
   omega
  ·rw [if_neg e] at hq
   have h1:=old t q b e hq hb
   by_cases e':t'=d
   ·subst e'
    rw [hput] at hb'
    injection hb' with hb';injection hb' with hb';injection hb' with hb';injection hb' with hb'
    omega
   ·rw [if_neg e'] at hq'
    exact h.ne t t' q q' b b' hq hq' hne h1.1 (old t' q' b' e' hq' hb').1
 ·obtain⟨Q,hQ⟩:=h.sc
  refine⟨Q,hQ.s.step (fun _ h=>h) he.heap he.size (fun b hb _ _=>AX _ _ _ hb) (fun _ h=>.inl h) fun b hb=>.inl (Hg he h.st.inv.st.lt hb),hQ.j,hQ.b,fun t q b hq hb hB=>?_⟩
  have hq:(if t=d then some (T,z) else S.pd t)=some q:=hq
  by_cases e:t=d
  ·subst e
   rw [hput] at hb
   injection hb with hb;injection hb with hb;injection hb with hb;injection hb with hb
   have:=hQ.s.r.blt hB
   omega
  ·rw [if_neg e] at hq
   rw [Gy (fun e'=>e (by injection e' with e';exact e'.symm))] at hb
   exact hQ.p t q b hq hb hB
theorem HO.cg(h:HO TB Γ N V S a){d:Tmp}{T:TypeId}{z:List Value}(hd:d < N)(hq:S.pd d=some (T,z)):∃V',V'.w=V.w∧HO TB Γ N V' (S.ad d T z) a:=by
 obtain⟨hf,b,hb,hp⟩:=h.pd d T z hq
 obtain⟨cur,hcur,hcz⟩:=hp.cells
 have hi:=h.st.inv
 have hnx:=h.st.nx
 have e:Ext V (Ak V b 1 False V.w):=DB (Nat.le_refl _) fun _ _=>rfl
 have hρ:(Ak V b 1 False V.w).ρ V.nx=b:=by simp [Ak]
 have hrel:Cy (Ak V b 1 False V.w) (z.map zC) cur:=by
  refine⟨by rw [List.length_map,←hcz];simp,fun j c v hj hv=>?_⟩
  have hzj:z[j]? = some v:=by rw [←hcz,Array.getElem?_toList];exact hv
  rw [List.getElem?_map,hzj] at hj
  injection hj with hj
  subst hj
  exact Kx (List.all_eq_true.1 hp.zok v (List.mem_of_getElem? hzj))
 have hkeep:∀id o,look ((S.nx,O.cells T z.length [z.map zC])::S.σ) id=some o→(id=V.nx∧o=O.cells T z.length [z.map zC])∨(id≠V.nx∧look S.σ id=some o):=fun id o hl=>by
  rw [Au] at hl
  rw [←hnx] at hl
  by_cases hid:V.nx=id
  ·rw [if_pos hid] at hl;injection hl with hl;exact .inl ⟨hid.symm,hl.symm⟩
  ·rw [if_neg hid] at hl;exact .inr ⟨Ne.symm hid,hl⟩
 have hnlk:∀id,id < V.nx→((Ak V b 1 False V.w).nl id↔V.nl id):=fun id hid=>e.nl id hid
 obtain⟨Q,hQ⟩:=h.sc
 have hsQ:KQ TB (Ak V b 1 False V.w) ((S.nx,O.cells T z.length [z.map zC])::S.σ) Q:=by
  refine⟨hQ.s.r,hQ.s.ji,hQ.s.bi,fun b' ⟨id,o,hl,hn,hb'⟩ hB=>?_⟩
  rcases hkeep id o hl with ⟨rfl,rfl⟩|⟨h1,h2⟩
  ·have hb':b'=_:=hb'
   rw [hρ] at hb';subst hb'
   exact hQ.p d _ _ hq hb hB
  ·have hlt:=hi.st.lt id o h2
   exact hQ.s.ap b' ⟨id,o,h2,fun hx=>hn ((hnlk id hlt).2 hx),(Aw e hlt).1 hb'⟩ hB
 have hinv:Inv TB Γ (Ak V b 1 False V.w) ((S.nx,O.cells T z.length [z.map zC])::S.σ):=by
  refine⟨hi.os,hi.tape,hi.output,hi.old,hi.iLt,hi.iNew,hi.ext.trans e,⟨fun id o hl=>?_,fun id o hl=>?_,fun id o hl hn b' hb' hI=>?_,fun id id' o o' hl hl' hne hn hn' b' hb1 hb2=>?_⟩,fun id o hl hn b' hb'=>?_,hi.tabs,⟨Q,hsQ,hQ.j,hQ.b⟩⟩
  ·rcases hkeep id o hl with ⟨rfl,rfl⟩|⟨h1,h2⟩
   ·refine .inr ⟨by simp [Ak],cur,by rw [hρ];exact hcur,?_,by simp [Ak],by simp [Ak,maxLen],?_,?_⟩
    ·simp [Ak,←hcz]
    ·intro r hr;simp at hr;subst hr;simp
    ·intro i r j c hi hj
     have h1:=TR hrel i r j c hi hj
     rw [List.length_map] at h1
     exact h1
   ·exact(hi.st.obj id o h2).AU e (hi.st.lt id o h2) fun _ _ _=>rfl
  ·rcases hkeep id o hl with ⟨rfl,rfl⟩|⟨h1,h2⟩
   ·exact Nat.lt_succ_self _
   ·exact Nat.lt_succ_of_lt (hi.st.lt id o h2)
  ·rcases hkeep id o hl with ⟨rfl,rfl⟩|⟨h1,h2⟩
   ·have hb':b'=_:=hb'
    rw [hρ] at hb';subst hb';exact hp.ni hI
   ·have hlt:=hi.st.lt id o h2
    exact hi.st.free id o h2 (fun hx=>hn ((hnlk id hlt).2 hx)) b' ((Aw e hlt).1 hb') hI
  ·rcases hkeep id o hl with ⟨rfl,rfl⟩|⟨h1,h2⟩<;>rcases hkeep id' o' hl' with ⟨rfl,rfl⟩|⟨h1',h2'⟩
   ·exact absurd rfl hne
   ·have hlt:=hi.st.lt id' o' h2'
    have hb1:b'=_:=hb1
    rw [hρ] at hb1;subst hb1
    exact hp.ns id' o' h2' (fun hx=>hn' ((hnlk id' hlt).2 hx)) ((Aw e hlt).1 hb2)
   ·have hlt:=hi.st.lt id o h2
    have hb2:b'=_:=hb2
    rw [hρ] at hb2;subst hb2
    exact hp.ns id o h2 (fun hx=>hn ((hnlk id hlt).2 hx)) ((Aw e hlt).1 hb1)
   ·have hlt:=hi.st.lt id o h2
    have hlt':=hi.st.lt id' o' h2'
    exact hi.st.inj id id' o o' h2 h2' hne (fun hx=>hn ((hnlk id hlt).2 hx)) (fun hx=>hn' ((hnlk id' hlt').2 hx)) b' ((Aw e hlt).1 hb1) ((Aw e hlt').1 hb2)
  ·rcases hkeep id o hl with ⟨rfl,rfl⟩|⟨h1,h2⟩
   ·have hb':b'=_:=hb'
    rw [hρ] at hb';subst hb';exact .inl hp.lo
   ·have hlt:=hi.st.lt id o h2
    exact hi.live id o h2 (fun hx=>hn ((hnlk id hlt).2 hx)) b' ((Aw e hlt).1 hb')
 refine⟨Ak V b 1 False V.w,rfl,⟨fun t x ht=>?_,fun t x ht=>?_,h.st.size,hinv,by show V.nx+1=S.nx+1;rw [hnx],h.st.defers⟩,fun t T' z' hq'=>?_,fun t t' q q' b1 b1' hq1 hq1' hne hb1 hb1'=>?_,⟨Q,hsQ,hQ.j,hQ.b,fun t q b1 hq1 hb1=>?_⟩⟩
 ·by_cases et:t=d
  ·subst et
   have ht:Bq S.f (some t) (.o (.ptr S.nx z.length 0 0)) t=some x:=ht
   simp only [Bq,if_true] at ht
   injection ht with ht
   subst ht
   have hg:a.tmps.getD t undef=.pointer (some ⟨b,0,none⟩):=by simp [hb]
   rw [hg,←hnx]
   exact Ln
  ·have ht:Bq S.f (some d) (.o (.ptr S.nx z.length 0 0)) t=some x:=ht
   rw [CC (fun e'=>et (by injection e' with e';exact e'.symm))] at ht
   exact(h.st.env t x ht).ext e
 ·by_cases et:t=d
  ·subst et;exact hd
  ·have ht:Bq S.f (some d) (.o (.ptr S.nx z.length 0 0)) t=some x:=ht
   rw [CC (fun e'=>et (by injection e' with e';exact e'.symm))] at ht
   exact h.st.lt t x ht
 ·have hq':(if t=d then none else S.pd t)=some (T',z'):=hq'
  by_cases et:t=d
  ·rw [if_pos et] at hq';cases hq'
  ·rw [if_neg et] at hq'
   obtain⟨h1,b2,h2,h3⟩:=h.pd t T' z' hq'
   refine⟨?_,b2,h2,⟨h3.cells,h3.ni,fun id o hl hn=>?_,h3.lo,h3.zok⟩⟩
   ·show Bq S.f (some d) _ t=none
    rw [CC (fun e'=>et (by injection e' with e';exact e'.symm))];exact h1
   ·rcases hkeep id o hl with ⟨rfl,rfl⟩|⟨h4,h5⟩
    ·intro hx
     have hx:b2=_:=hx
     rw [hρ] at hx;exact h.ne d t _ _ b b2 hq hq' (Ne.symm et) hb h2 hx.symm
    ·have hlt:=hi.st.lt id o h5
     exact fun hx=>h3.ns id o h5 (fun hx=>hn ((hnlk id hlt).2 hx)) ((Aw e hlt).1 hx)
 ·have hq1:(if t=d then none else S.pd t)=some q:=hq1
  have hq1':(if t'=d then none else S.pd t')=some q':=hq1'
  by_cases et:t=d
  ·rw [if_pos et] at hq1;cases hq1
  ·by_cases et':t'=d
   ·rw [if_pos et'] at hq1';cases hq1'
   ·rw [if_neg et] at hq1;rw [if_neg et'] at hq1'
    exact h.ne t t' q q' b1 b1' hq1 hq1' hne hb1 hb1'
 ·have hq1:(if t=d then none else S.pd t)=some q:=hq1
  by_cases et:t=d
  ·rw [if_pos et] at hq1;cases hq1
  ·rw [if_neg et] at hq1
   exact hQ.p t q b1 hq1 hb1
end
section
variable {P:Program}{TB:Be}{ops:Array Oper}{Γ:Ctx}{N:Nat}
def SI(TB:Be)(Γ:Ctx)(N:Nat)(K:Bv→Prop)(Q:Exit→Act→World→Prop):Prop:=∀V S a,HO TB Γ N V S a→K S→Q .normal a V.w
theorem MO{i m:Nat}{o:Oper}(ho:ops[i]? = some o)(hd:∀t,o.dst=some t→t < N){K:Bv→Prop}{K':Act→World→Prop}{Q:Exit→Act→World→Prop}
 (hK:∀V S a,HO TB Γ N V S a→K S→K' a V.w) {V:View} {S:Bv} {a:Act} (hr:HO TB Γ N V S a) (h:XM P TB ops m o K S):wpOp P ops Q i K' a V.w:=by
 have hlt:∀t e,S.f t=some e→t < a.tmps.size:=fun t e he=>by rw [hr.st.size];exact hr.st.lt t e he
 obtain⟨Q0,hQ⟩:=hr.sc
 have hgood:Good TB V S.σ S.nx Q0:=⟨hr.st.inv.iLt,hr.st.inv.st,hr.st.inv.tabs,hr.st.nx,hQ.s⟩
 unfold wpOp
 simp only [ho]
 rcases h with ⟨hg,hk⟩|⟨hg,hk⟩
 ·rw [Ge hr.st.env hlt hg]
  have h1:HO TB Γ N V (S.put o.dst (.t [])) (a.put o.dst undef):=hr.put (σ':=S.σ) hd (Ext.refl _) hQ hgood.inv hr.st.nx (Kv V)
  simpa using hK _ _ _ h1 hk
 ·rw [Ge hr.st.env hlt hg]
  simp only [if_true]
  refine .inl (Sz P (Oper.wp_mono ?_ (hk (DJ V V S.σ Q0) V a (hr.st.env.op o) hgood.inv hr.st.nx)))
  rintro a' w' ⟨V',v,x,σ',rfl,rfl,e3,e4,e5,e6⟩
  exact hK V' _ _ (hr.put hd e3 hQ e4 rfl e5) e6.2
theorem UU{d:Option Tmp}{ty:TypeId}{pos:String}{af:Array Edge}{g:Option (Nat×Bool)}{ρ:Operand→Value}{T:TypeId}{z:List Value}(hz:Vo P T=some z):∃zv:Value,zv.cells.toList=z∧∀w:World,(execOp ρ ⟨d,.alloc T,ty,pos,af,g⟩).run P w=.ok (.value (.pointer (some ⟨w.heap.size,0,none⟩))) (w.alloc (.cells zv.cells T)):=by
 obtain⟨i,zv,hi,hzv,hzz⟩:=IQ hz
 exact⟨zv,hzz,fun w=>by simp [execOp,Instr.alloc,zeroValue,typeInfo,hi,hzv,newVar,newRow,go_sem]⟩
theorem Lq{i c:Nat}{o:Oper}(ho:ops[i]? = some o)(hd:∀t,o.dst=some t→t < N){K:Bv→Prop}{K':Act→World→Prop}{Q:Exit→Act→World→Prop}
 (hK:∀V S a,HO TB Γ N V S a→K S→K' a V.w) {V:View} {S:Bv} {a:Act} (hr:HO TB Γ N V S a) (h:St P TB ops c o K S):wpOp P ops Q i K' a V.w:=by
 unfold St at h
 by_cases c1:c=1
 ·rw [if_pos c1] at h;exact MO ho hd hK hr h
 ·rw [if_neg c1] at h
  by_cases ck:1000≤c
  ·rw [if_pos ck] at h;exact MO ho hd hK hr h
  rw [if_neg ck] at h
  by_cases c5:c=5
  ·rw [if_pos c5] at h
   obtain⟨d,T,z,_,hpd,hst⟩:=h
   have hdN:d < N:=by
    obtain⟨_,b,hb,_⟩:=hr.pd d T z hpd
    have:=(Array.getElem?_eq_some_iff.1 hb).1
    rw [hr.st.size] at this;exact this
   obtain⟨V',e1,hr'⟩:=hr.cg hdN hpd
   have:=MO (Q:=Q) ho hd hK hr' hst
   rwa [e1] at this
  ·rw [if_neg c5] at h
   obtain⟨u,hm,hk⟩:=h
   rcases hm with ⟨h1,h2,rfl⟩|⟨h1,h2,x,h3,rfl⟩|⟨h1,h2,d,T,z,h3,h4,h5,h6,h7,rfl⟩
   ·exact MO (m:=0) ho hd hK hr (.inl ⟨h2,hk⟩)
   ·refine MO (m:=0) ho hd hK hr (.inr ⟨h2,fun Γ=>AV.eA P TB Γ ?_ ⟨fun _ _=>rfl,hk⟩⟩)
    unfold QC at h3
    by_cases e:c=2
    ·rw [if_pos e] at h3;exact h3 Γ S.σ S.nx
    ·rw [if_neg e] at h3
     by_cases e0:c=0
     ·rw [if_pos e0] at h3;exact h3 Γ
     ·rw [if_neg e0] at h3;exact h3.2 Γ S.σ S.nx rfl
   ·unfold wpOp
    simp only [ho]
    have hw:Region.wanted o (yielded ops a.tmps)=true:=by unfold Region.wanted;rw [h2]
    rw [hw]
    simp only [if_true]
    refine .inl ?_
    obtain⟨dst,op,ty,pos,af,g⟩:=o
    simp only at h3 h4
    subst h3 h4
    obtain⟨zv,hzz,hrun⟩:=UU (P:=P) (d:=some d) (ty:=ty) (pos:=pos) (af:=af) (g:=g) (ρ:=a.eval) h5
    unfold Oper.wp
    rw [hrun]
    have hr':=hr.alloc (T:=T) (zv:=zv) (hd d rfl) h7 hzz h6
    exact hK _ _ _ hr' hk
theorem QW{ops:Array Oper}(hd:Fa N ops=true){K:Bv→Prop}{Q:Exit→Act→World→Prop}(hK:SI TB Γ N K Q):∀(n:Nat) (r:List (Nat×Nat)) (listed:Array Bool) (V:View) (S:Bv) (a:Act),
 r.length=n→Ey ops listed→A4 ops r listed=true→C6 ops r=true→HO TB Γ N V S a→Lex P TB ops r K S→wpAny P .any ops Q n listed a V.w
 | 0,r,listed,V,S,a,hn,hc,ho,hk,hr,h=>by
  have:r=[]:=List.length_eq_zero_iff.1 hn
  subst this
  refine⟨?_,hK V S a hr h⟩
  simpa [A4] using ho
 | n + 1,r,listed,V,S,a,hn,hc,ho,hk,hr,h=>by
  refine⟨fun hnil=>?_,fun j hj=>?_⟩
  ·cases r with
   | nil=>simp at hn
   | cons x r=>
    obtain⟨i,c⟩:=x
    simp only [A4,Bool.and_eq_true] at ho
    have:=ho.1
    rw [hnil] at this
    simp at this
  ·obtain⟨r1,c,r2,o,rfl,hoj,h1⟩:=Ei K r listed S hc ho hk h j hj
   refine Lq hoj (fun t ht=>Rz hd hoj ht) (fun V' S' a' hr' hk'=>?_) hr h1
   exact QW hd hK n (r1++r2) _ V' S' a' (by simp at hn ⊢;omega) (Gj hc hj) (Mq r1 r2 j c listed ho hj) (Jo r1 r2 _ hk) hr' hk'
variable {i c:Nat}{r:List (Nat×Nat)}{L:List (Nat×E)}{σ:Ab}{nx:Nat}{pl:List (Nat×(TypeId×List Value))}{K:Bv→Prop}{Q:Exit→Env→Ab→Nat→Prop}
def E5(P:Program)(TB:Be)(ops:Array Oper)(r:List (Nat×Nat))(K:Bv→Prop)(L:List (Nat×E))(σ:Ab)(nx:Nat)(pl:List (Nat×(TypeId×List Value))):Prop:=Lex P TB ops r K ⟨look L,σ,nx,look pl⟩
theorem bk{id:Nat}(r:List (Nat×Nat))(hm:P.follows .mixedOrders=true)(hd:Fa N ops=true)(hn:r.length=ops.size)(ho:(A4 ops r (Array.replicate ops.size false) && C6 ops r)=true)
 (h:E5 P TB ops r (fun S=>Q .normal S.f S.σ S.nx) L σ nx []):Av P TB Γ N (.region id ops true) Q (look L) σ nx:=by
 intro V a hs
 rw [Bool.and_eq_true] at ho
 refine wp_region_any hm ?_
 obtain⟨h1,h2⟩:=hs.inv.drew
 have hs':BA TB Γ N { V with w:={ V.w with drawn:=V.w.drawn+1 } } (look L) σ V.nx a:=⟨hs.env.ext h2,hs.lt,hs.size,h1,rfl,hs.defers⟩
 have hnx:=hs.nx
 subst hnx
 exact QW hd (fun V S a hs hk=>⟨V,S.f,S.σ,rfl,by rw [hs.st.nx];exact hk,by rw [hs.st.nx];exact hs.st⟩) ops.size r _ { V with w:={ V.w with drawn:=V.w.drawn+1 } } _ a hn (KB ops) ho.1 ho.2 ⟨hs',fun d T z hq=>(by cases hq),fun d d' q q' b b' hq=>(by cases hq),let ⟨Q0,k1,k2,k3⟩:=h1.hid;⟨Q0,k1,k2,k3,fun d q b hq=>(by cases hq)⟩⟩ h
theorem Aa{K:Bv→Prop}(h:K ⟨look L,σ,nx,look pl⟩):E5 P TB ops [] K L σ nx pl:=h
theorem aw(h:Q .normal (look L) σ nx):E5 P TB ops [] (fun S=>Q .normal S.f S.σ S.nx) L σ nx pl:=h
def Dm(d:Nat):List (Nat×(TypeId×List Value))→List (Nat×(TypeId×List Value))
 | []=>[]
 | (k,x)::r=>bif Nat.beq k d then Dm d r else (k,x)::Dm d r
theorem Gs:∀(pl:List (Nat×(TypeId×List Value))) (d t:Nat),look (Dm d pl) t=if t=d then none else look pl t
 | [],d,t=>by simp [Dm,look]
 | (k, x)::r,d,t=>by
  simp only [Dm]
  by_cases h:k=d
  ·subst h
   simp only [Nat.beq_refl,cond_true]
   rw [Gs r k t,Au]
   by_cases h2:t=k
   ·simp [h2]
   ·rw [if_neg h2,if_neg h2,if_neg (Ne.symm h2)]
  ·have:Nat.beq k d=false:=by
    cases hb:Nat.beq k d
    ·rfl
    ·exact absurd (Nat.eq_of_beq_eq_true hb) h
   rw [this,cond_false,Au,Au,Gs r d t]
   by_cases h2:t=d
   ·subst h2;simp [h]
   ·simp [h2]
theorem Js{d:Tmp}{x:E}{σ':Ab}{nx':Nat}:Bv.put ⟨look L,σ',nx',look pl⟩ (some d) x=⟨look ((d,x)::L),σ',nx',look (Dm d pl)⟩:=by
 unfold Bv.put
 rw [Dk]
 congr 1
 funext t
 rw [Gs]
 by_cases h:t=d
 ·subst h;simp
 ·simp [h,Ne.symm h]
theorem Qp{x:E}{σ':Ab}{nx':Nat}:Bv.put ⟨look L,σ',nx',look pl⟩ none x=⟨look L,σ',nx',look pl⟩:=by
 unfold Bv.put;congr 1
def Bf(P:Program)(TB:Be)(ops:Array Oper)(o:Oper)(i c:Nat)(r:List (Nat×Nat))(K:Bv→Prop)(L:List (Nat×E))(σ:Ab)(nx:Nat)(pl:List (Nat×(TypeId×List Value))):Prop:=
 ops[i]? = some o→E5 P TB ops ((i,c)::r) K L σ nx pl
theorem Ai{o:Oper}(ho:Mn ops.toList i=some o)(h:Bf P TB ops o i c r K L σ nx pl):E5 P TB ops ((i,c)::r) K L σ nx pl:=h (by rw [Mo] at ho;simpa using ho)
variable {d:Tmp}{op:Op}{ty:TypeId}{pos:String}{af:Array Edge}{g:Option (Nat×Bool)}
theorem B5{x:E}(hq:∀Γ σ nx,AV P TB Γ ⟨some d,op,ty,pos,af,g⟩ (look L) σ nx x)(hg:Bc ops ⟨some d,op,ty,pos,af,g⟩ (look L)=some true)(hc:(Nat.beq c 0 || Nat.beq c 2)=true)(h:E5 P TB ops r K ((d,x)::L) σ nx (Dm d pl)):Bf P TB ops ⟨some d,op,ty,pos,af,g⟩ i c r K L σ nx pl:=by
 intro ho
 refine⟨_,ho,?_⟩
 unfold St
 have h2:c=0∨c=2:=by
  simp only [Bool.or_eq_true,Nat.beq_eq] at hc;exact hc
 rw [if_neg (by omega),if_neg (by omega),if_neg (by omega)]
 refine⟨fun S=>S.put (some d) x,.inr (.inl ⟨by omega,hg,x,?_,rfl⟩),?_⟩
 ·unfold QC
  rcases h2 with h2|h2
  ·rw [if_neg (by omega),if_pos h2];exact fun Γ=>hq Γ σ nx
  ·rw [if_pos h2];exact hq
 ·simp only
  rw [Js];exact h
theorem YR{x:E}(hq:∀Γ,AV P TB Γ ⟨some d,op,ty,pos,af,g⟩ (look L) σ nx x)(hg:Bc ops ⟨some d,op,ty,pos,af,g⟩ (look L)=some true)(hc:Nat.beq c 0=true)(h:E5 P TB ops r K ((d,x)::L) σ nx (Dm d pl)):Bf P TB ops ⟨some d,op,ty,pos,af,g⟩ i c r K L σ nx pl:=by
 intro ho
 refine⟨_,ho,?_⟩
 unfold St
 have h2:c=0:=by simpa using hc
 rw [if_neg (by omega),if_neg (by omega),if_neg (by omega)]
 refine⟨fun S=>S.put (some d) x,.inr (.inl ⟨by omega,hg,x,?_,rfl⟩),?_⟩
 ·unfold QC;rw [if_neg (by omega),if_pos h2];exact hq
 ·simp only
  rw [Js];exact h
theorem RZ(h:∀Γ,BX P TB Γ ⟨some d,op,ty,pos,af,g⟩ (look L) σ nx (fun x σ' nx'=>E5 P TB ops r K ((d,x)::L) σ' nx' (Dm d pl)))(hg:Bc ops ⟨some d,op,ty,pos,af,g⟩ (look L)=some true)(hc:c=1):Bf P TB ops ⟨some d,op,ty,pos,af,g⟩ i c r K L σ nx pl:=by
 intro ho
 refine⟨_,ho,?_⟩
 unfold St
 rw [if_pos hc]
 exact .inr ⟨hg,fun Γ=>(h Γ).mono fun x σ' nx' hk=>by
  refine⟨fun id hid=>by simp at hid,?_⟩
  have e:Bv.put ⟨(⟨look L,σ,nx,look pl⟩:Bv).f,σ',nx',(⟨look L,σ,nx,look pl⟩:Bv).pd⟩ (some d) x=_:=Js
  rw [e];exact hk⟩
theorem FT(h:∀Γ,BX P TB Γ ⟨none,op,ty,pos,af,g⟩ (look L) σ nx (fun _ σ' nx'=>E5 P TB ops r K L σ' nx' pl))(hg:Bc ops ⟨none,op,ty,pos,af,g⟩ (look L)=some true)(hc:c=1):Bf P TB ops ⟨none,op,ty,pos,af,g⟩ i c r K L σ nx pl:=by
 intro ho
 refine⟨_,ho,?_⟩
 unfold St
 rw [if_pos hc]
 exact .inr ⟨hg,fun Γ=>(h Γ).mono fun x σ' nx' hk=>by
  refine⟨fun id hid=>by simp at hid,?_⟩
  have e:Bv.put ⟨(⟨look L,σ,nx,look pl⟩:Bv).f,σ',nx',(⟨look L,σ,nx,look pl⟩:Bv).pd⟩ none x=_:=Qp
  rw [e];exact hk⟩
theorem fc{T:TypeId}{z:List Value}[hz:BL P T z](hok:z.all Nw=true)(hf:look L d=none)(hc:c=3)(h:E5 P TB ops r K L σ nx ((d,(T,z))::pl)):Bf P TB ops ⟨some d,.alloc T,ty,pos,af,none⟩ i c r K L σ nx pl:=by
 intro ho
 refine⟨_,ho,?_⟩
 unfold St
 rw [if_neg (by omega),if_neg (by omega),if_neg (by omega)]
 refine⟨fun S=>S.FR d (T,z),.inr (.inr ⟨hc,rfl,d,T,z,rfl,rfl,hz.out,hok,hf,rfl⟩),?_⟩
 have e:Bv.FR ⟨look L,σ,nx,look pl⟩ d (T,z)=⟨look L,σ,nx,look ((d,(T,z))::pl)⟩:=by
  unfold Bv.FR
  congr 1
  funext t
  rw [Au]
  by_cases h:t=d
  ·subst h;simp
  ·simp [h,Ne.symm h]
 simp only
 rw [e];exact h
theorem fb{t : Tmp}{T:TypeId}{z:List Value}(hp:look pl t=some (T,z))(ht:(op.operands.any fun x=>match x with|.tmp t'=>Nat.beq t' t|_=>false)=true)(hg:Bc ops ⟨none,op,ty,pos,af,g⟩ (look ((t,.o (.ptr nx z.length 0 0))::L))=some true)(hc:c=5)
    (h:∀Γ,BX P TB Γ ⟨none,op,ty,pos,af,g⟩ (look ((t,.o (.ptr nx z.length 0 0))::L)) ((nx,.cells T z.length [z.map zC])::σ) (nx+1) (fun _ σ' nx'=>E5 P TB ops r K ((t,.o (.ptr nx z.length 0 0))::L) σ' nx' (Dm t pl))):Bf P TB ops ⟨none,op,ty,pos,af,g⟩ i c r K L σ nx pl:=by
  intro ho
  refine⟨_,ho,?_⟩
  unfold St
  rw [if_neg (by omega),if_neg (by omega),if_pos hc]
  have e:Bv.ad ⟨look L,σ,nx,look pl⟩ t T z=⟨look ((t,.o (.ptr nx z.length 0 0))::L),(nx,.cells T z.length [z.map zC])::σ,nx+1,look (Dm t pl)⟩:=by
    unfold Bv.ad
    rw [Dk]
    congr 1
    funext t'
    rw [Gs]
  have hm : .tmp t∈op.operands:=by
    obtain⟨i,hi,h1⟩:=Array.any_eq_true.1 ht
    have hx:=Array.getElem_mem hi
    generalize op.operands[i]=x at *
    cases x with
    | tmp t' => have:t'=t:=by simpa using h1
                rw [←this];exact hx
    | _=>cases h1
  refine⟨t,T,z,hm,hp,?_⟩
  rw [e]
  exact .inr ⟨hg,fun Γ=>(h Γ).mono fun x σ' nx' hk=>by
    refine⟨fun id hid=>by simp at hid,?_⟩
    have e2:Bv.put ⟨(⟨look ((t,.o (.ptr nx z.length 0 0))::L),(nx,.cells T z.length [z.map zC])::σ,nx+1,look (Dm t pl)⟩:Bv).f,σ',nx',(⟨look ((t,.o (.ptr nx z.length 0 0))::L),(nx,.cells T z.length [z.map zC])::σ,nx+1,look (Dm t pl)⟩:Bv).pd⟩ none x=_:=Qp
    rw [e2];exact hk⟩
theorem cT{t:Tmp}{ts:TypeId}{y:Operand}{T:TypeId}{z:List Value}(hp:look pl t=some (T,z))(hg:Bc ops ⟨none,.store ts (.tmp t) y,ty,pos,af,g⟩ (look ((t,.o (.ptr nx z.length 0 0))::L))=some true)(hc:c=5)
 (h:∀Γ,BX P TB Γ ⟨none,.store ts (.tmp t) y,ty,pos,af,g⟩ (look ((t,.o (.ptr nx z.length 0 0))::L)) ((nx,.cells T z.length [z.map zC])::σ) (nx+1) (fun _ σ' nx'=>E5 P TB ops r K ((t,.o (.ptr nx z.length 0 0))::L) σ' nx' (Dm t pl))):Bf P TB ops ⟨none,.store ts (.tmp t) y,ty,pos,af,g⟩ i c r K L σ nx pl:=
 fb hp (by simp [Op.operands]) hg hc h
theorem UL{b0:Bool}(hq:∀Γ σ nx,AV P TB Γ ⟨some d,op,ty,pos,af,g⟩ (look L) σ nx (eB b0))(hg:Bc ops ⟨some d,op,ty,pos,af,g⟩ (look L)=some true)(hc:(Nat.beq c 0 || Nat.beq c 2)=true)(h:∀b,b0=b→E5 P TB ops r K ((d,eB b)::L) σ nx (Dm d pl)):Bf P TB ops ⟨some d,op,ty,pos,af,g⟩ i c r K L σ nx pl:=B5 hq hg hc (h b0 rfl)
theorem cW{j:Nat}{w:Bool}(hg:Bc ops ⟨some d,op,ty,pos,af,some (j,w)⟩ (look L)=some false)(hc:(Nat.beq c 0 || Nat.beq c 2)=true)(h:E5 P TB ops r K ((d,.t [])::L) σ nx (Dm d pl)):Bf P TB ops ⟨some d,op,ty,pos,af,some (j,w)⟩ i c r K L σ nx pl:=by
 intro ho
 refine⟨_,ho,?_⟩
 unfold St
 have h2:c=0∨c=2:=by
  simp only [Bool.or_eq_true,Nat.beq_eq] at hc;exact hc
 rw [if_neg (by omega),if_neg (by omega),if_neg (by omega)]
 refine⟨fun S=>S.put (some d) (.t []),.inl ⟨by omega,hg,rfl⟩,?_⟩
 simp only
 rw [Js];exact h
end
section
variable {P:Program}{TB:Be}{ops:Array Oper}{i c:Nat}{r:List (Nat×Nat)}{L:List (Nat×E)}{σ:Ab}{nx:Nat}{pl:List (Nat×(TypeId×List Value))}{K:Bv→Prop}{d:Option Tmp}{ty:TypeId}{pos:String}{af:Array Edge}{g:Option (Nat×Bool)}
end
section
variable {P:Program}{TB:Be}{ops:Array Oper}{i c:Nat}{r:List (Nat×Nat)}{L:List (Nat×E)}{σ:Ab}{nx:Nat}{pl:List (Nat×(TypeId×List Value))}{K:Bv→Prop}{d:Tmp}{ty:TypeId}{pos:String}{af:Array Edge}{g:Option (Nat×Bool)}{op:Op}
theorem yQ{md:Bool}[hT:Ci P]{q:Prop}{x:E}(hg:Bc ops ⟨some d,op,ty,pos,af,g⟩ (look L)=some true)(hc:(Nat.beq c 0 || Nat.beq c 2)=true)(h:Xk hT.T md (look L) op=some (q,x))(hq:q)(hk:E5 P TB ops r K ((d,x)::L) σ nx (Dm d pl)):Bf P TB ops ⟨some d,op,ty,pos,af,g⟩ i c r K L σ nx pl:=
 B5 (fun _ _ _=>TP h hq) hg hc hk
theorem yB[hT:Ci P]{b0:Bool}(hg:Bc ops ⟨some d,op,ty,pos,af,g⟩ (look L)=some true)(hc:(Nat.beq c 0 || Nat.beq c 2)=true)(h:Qt hT.T (look L) op=some b0)(hk:∀b,b0=b→E5 P TB ops r K ((d,eB b)::L) σ nx (Dm d pl)):Bf P TB ops ⟨some d,op,ty,pos,af,g⟩ i c r K L σ nx pl:=
 UL (fun _ _ _=>Qu h) hg hc hk
theorem yS[hT:Ci P]{x:E}(hg:Bc ops ⟨some d,op,ty,pos,af,g⟩ (look L)=some true)(hc:Nat.beq c 0=true)(h:KJ hT.T σ (look L) op=some x)(hk:E5 P TB ops r K ((d,x)::L) σ nx (Dm d pl)):Bf P TB ops ⟨some d,op,ty,pos,af,g⟩ i c r K L σ nx pl:=
 YR (fun _=>My h) hg hc hk
theorem yW[hT:Ci P]{t:TypeId}{x y:Operand}{σ':Ab}(hg:Bc ops ⟨none,.store t x y,ty,pos,af,g⟩ (look L)=some true)(hc:c=1)(h:Oe hT.T σ (look L) t x y=some σ')(hk:E5 P TB ops r K L σ' nx pl):Bf P TB ops ⟨none,.store t x y,ty,pos,af,g⟩ i c r K L σ nx pl:=
 FT (fun _=>Mz h hk) hg hc
theorem yA[hT:Ci P]{t:Tmp}{ts:TypeId}{y:Operand}{T:TypeId}{z:List Value}{σ':Ab}(hp:look pl t=some (T,z))(hg:Bc ops ⟨none,.store ts (.tmp t) y,ty,pos,af,g⟩ (look ((t,.o (.ptr nx z.length 0 0))::L))=some true)(hc:c=5)
 (h:Oe hT.T ((nx,.cells T z.length [z.map zC])::σ) (look ((t,.o (.ptr nx z.length 0 0))::L)) ts (.tmp t) y=some σ') (hk:E5 P TB ops r K ((t,.o (.ptr nx z.length 0 0))::L) σ' (nx+1) (Dm t pl)):Bf P TB ops ⟨none,.store ts (.tmp t) y,ty,pos,af,g⟩ i c r K L σ nx pl:=
 cT hp hg hc fun _=>Mz h hk
theorem yP[hT:Ci P]{T:TypeId}{z:List Value}(hz:(HR hT.T T).ze=some z)(hok:z.all Nw=true)(hf:look L d=none)(hc:c=3)(h:E5 P TB ops r K L σ nx ((d,(T,z))::pl)):Bf P TB ops ⟨some d,.alloc T,ty,pos,af,none⟩ i c r K L σ nx pl:=
 haveI:=(CX (P:=P) T hT.ok).Wn hz
 fc hok hf hc h
theorem yG{dd:Option Tmp}{j t:Nat}{w b:Bool}(_hd:(ops[j]?).bind (·.dst)=some t)(_hv:look L t=some (eB b))
 (hT:b=true→E5 P TB ops ((i,c)::r) K L σ nx pl) (hF:b=false→E5 P TB ops ((i,c)::r) K L σ nx pl):Bf P TB ops ⟨dd,op,ty,pos,af,some (j,w)⟩ i c r K L σ nx pl:=by
 intro _
 cases b
 ·exact hF rfl
 ·exact hT rfl
end
end Go.Am.R
namespace Go.Am
open Go
section
variable {P:Program}{TB:Be}{Γ:Ctx}{d:Option Tmp}{ty:TypeId}{pos:String}{af:Array Edge}{g:Option (Nat×Bool)}{f:Env}{σ:Ab}{nx:Nat}
end
section
variable {P:Program}{TB:Be}{Γ:Ctx}{d:Option Tmp}{ty:TypeId}{pos:String}{af:Array Edge}{g:Option (Nat×Bool)}{f:Env}{σ:Ab}{nx:Nat}
variable {K:E→Ab→Nat→Prop}
theorem run_build{t:TypeId}{fl:List (Nat×Nat)}{parts:Array (Nat×Operand)}{ρ:Operand→Value}{V:View}{i:TypeInfo}{zv:Value}{cells:Array Value}(hi:P.info? t=some i)(hzv:i.zero=some zv)(hh:dV P t=some fl)
 (h3:Instr.fill (fl[·]?) zv.cells (parts.toList.map fun (i,x)=>(i,ρ x))=some cells):(Instr.build t (parts.map fun (i,x)=>(i,ρ x))).run P V.w=.ok (.agg cells) V.w:=by
 have hparts:(parts.map fun (i,x)=>(i,ρ x)).toList=parts.toList.map fun (i,x)=>(i,ρ x):=by simp
 unfold dV at hh
 split at hh
 ·rename_i fs hu
  have hpl:∀(l:List Field) (ll:List (Nat×Nat)),(l.mapM fun f=>(P.info? f.type).map fun i=>(f.offset,i.size))=some ll→∀w,((l.mapM fun f=>do pure (f.offset,←sizeOf f.type)):Sem (List (Nat×Nat))).run P w=.ok ll w:=by
   intro l
   induction l with
   | nil=>intro ll h w;simp at h;subst h;simp [go_sem]
   | cons y l ih=>
    intro ll h w
    simp only [List.mapM_cons,Option.bind_eq_bind,Option.bind_eq_some_iff,Option.map_eq_some_iff] at h
    obtain⟨p,⟨ii,hii,rfl⟩,ll',h5,h6⟩:=h
    simp at h6
    subst h6
    have hs:(sizeOf y.type).run P w=.ok ii.size w:=by simp [sizeOf,typeInfo,hii,go_sem]
    have ihh:=ih ll' h5 w
    simp only [bind_pure_comp] at ihh
    simp only [List.mapM_cons,Sem.run_bind,hs,Result.andThen_ok,bind_pure_comp,Sem.run_map,ihh]
  have hpl2:=hpl fs.toList fl hh V.w
  have hz0:(zeroValue t).run P V.w=.ok zv V.w:=by simp [zeroValue,typeInfo,hi,hzv,go_sem]
  have ha:((fs.mapM fun f=>do pure (f.offset,←sizeOf f.type)):Sem (Array (Nat×Nat))).run P V.w=.ok fl.toArray V.w:=by
   rw [Array.mapM_eq_mapM_toList,Sem.run_map,hpl2];rfl
  rw [←hparts] at h3
  simp only [Instr.build,Sem.run_bind,hz0,Result.andThen_ok,run_underlying hu,ha]
  simp only [List.getElem?_toArray]
  rw [h3]
  rfl
 ·rename_i n e hu
  simp only [Option.map_eq_some_iff] at hh
  obtain⟨ii,hii,rfl⟩:=hh
  have hz0:(zeroValue t).run P V.w=.ok zv V.w:=by simp [zeroValue,typeInfo,hi,hzv,go_sem]
  have hs:(sizeOf e).run P V.w=.ok ii.size V.w:=by simp [sizeOf,typeInfo,hii,go_sem]
  have hfill:∀(ps:List (Nat×Value)) (c c':Array Value),Instr.fill (fun i=>((List.range n).map fun j=>(j*ii.size,ii.size))[i]?) c ps=some c'→Instr.fill (fun i=>some (i*ii.size,ii.size)) c ps=some c':=by
   intro ps
   induction ps with
   | nil=>intro c c' h;simpa [Instr.fill] using h
   | cons p ps ih=>
    intro c c' h
    obtain⟨i',v'⟩:=p
    unfold Instr.fill at h ⊢
    by_cases hlt:i' < n
    ·simp only [List.getElem?_map,List.getElem?_range hlt,Option.map_some] at h
     simp only at h ⊢
     split at h
     ·cases h
     ·rename_i hno
      rw [if_neg hno];exact ih _ _ (by simpa only [List.getElem?_map] using h)
    ·simp [hlt] at h
  rw [←hparts] at h3
  simp only [Instr.build,Sem.run_bind,hz0,Result.andThen_ok,run_underlying hu,hs]
  rw [hfill _ _ _ h3]
  rfl
 ·cases hh
end
section
variable {P:Program}{TB:Be}
def bZ(t:Tmp)(ids:List Nat)(post:E→Ab→Nat→Prop):Exit→Env→Ab→Nat→Prop
 | .ret,f,σ,nx|.normal,f,σ,nx=>∃id k i T rows r x,f t=some (.o (.ptr id k i 0))∧look σ id=some (.cells T k rows)∧rows[i]? = some r∧FE σ ids (.a r) x∧post x (BH ids σ) nx
 | _,_,_,_=>False
theorem Xr{fn:Func}{V:View}{Γ:Ctx}{f:Env}{a:Act}{σ:Ab}{t:Tmp}{T':TypeId}{n:Nat}{id k i:Nat}{T:TypeId}{rows:List (List C)}{r:List C}[hl:Cu P T' true n](hn:n=k)(hrs:fn.results = #[.cell t T'])(hE:C9 V f a.tmps)(hi:Inv TB Γ V σ)(ht:f t=some (.o (.ptr id k i 0)))(ho:look σ id=some (.cells T k rows))(hr:rows[i]? = some r) :
 ∃v,(results fn a.tmps).run P V.w=.ok v V.w∧A2 V (.a r) v:=by
 have h3:=hE t _ ht
 subst hn
 have hres:∀w,(results fn a.tmps).run P w=((do loadVar T' (←asAddr (a.tmps.getD t undef))):Sem Value).run P w:=fun w=>by
  simp [results,hrs,-Array.getD_eq_getD_getElem?,go_sem]
 generalize hv:a.tmps.getD t undef=v0 at h3 hres
 cases h3 with
 | ptr hid hnl=>
  rcases hi.st.obj id _ ho with ⟨h4,_⟩|⟨_,cur,h4,h5,h6,h7,h8,h9⟩
  ·exact absurd h4 hnl
  ·have hrl:=h8 r (List.mem_of_getElem? hr)
   rw [Nat.add_zero] at hres
   have hcell:∀q,q < n→∃v,cur[i*n+q]? = some v∧Ax V (r[q]?.getD (.d (.l []))) v:=fun q hq=>by
    have hlt:q < r.length:=by omega
    obtain⟨v,h10,h11⟩:=h9 i r q r[q] hr (List.getElem?_eq_getElem hlt)
    exact⟨v,h10,by rw [List.getElem?_eq_getElem hlt];exact h11⟩
   refine⟨.agg ((List.range n).map fun q=>cur.getD (i*n+q) undef).toArray,?_,_,rfl,by simp [hrl],?_⟩
   ·have:(loadCells ⟨V.ρ id,i*n,none⟩ n).run P V.w=.ok ((List.range n).map fun q=>cur.getD (i*n+q) undef).toArray V.w:=run_loadCells V.w _ n _ fun q hq=>by
     rw [Bj]
     obtain⟨v,h10,_⟩:=hcell q hq
     have:cur.getD (i*n+q) undef=v:=by simp [h10]
     rw [this]
     simp [World.cell?,h4,h10]
    unfold loadCells at this
    rw [hres]
    simp [asAddr,loadVar,(Bk hl.out V.w).1,(Bk hl.out V.w).2,this,go_sem]
   ·intro q c v hj hv'
    have hq:q < n:=by have:=(List.getElem?_eq_some_iff.1 hj).1;omega
    obtain⟨v',h10,h11⟩:=hcell q hq
    rw [hj] at h11
    have:v=v':=by simpa [hq,h10] using hv'.symm
    rw [this];exact h11
theorem Yr{V:View}{Γ:Ctx}{σ:Ab}(hi:Inv TB Γ V σ)(ids:List Nat):Inv TB Γ (Iw V σ ids) (BH ids σ):=by
 have h:BA TB Γ 0 V (fun _=>none) σ V.nx { tmps:=#[],defers:=[] } := ⟨fun t e h=>(by cases h),fun t e h=>(by cases h),rfl,hi,rfl,rfl⟩
 exact(h.freeze ids [] trivial).inv
theorem Spec.bQ {g:FuncId} {fn:Func} {c:Code} {σ:Ab} {nx:Nat} {args:List E} {post:E→Ab→Nat→Prop} (t:Tmp) (T':TypeId) (n:Nat) (ids:List Nat) [hl:Cu P T' true n] (hf:P.funcs[g]? = some fn) (hb:fn.body=some c) (hname:(fn.name == "runtime.NumGoroutine")=false) (hrs:fn.results = #[.cell t T'])
 (hargs:args.length≤fn.ntmps) (h:∀Γ:Ctx,Γ.V.nx=nx→Av P TB Γ fn.ntmps c (fun e f σ nx=>bZ t ids post e f σ nx∧∀id k i,f t=some (.o (.ptr id k i 0))→k=n) (look (Bw 0 args)) σ nx):Spec P TB g σ nx args post:=by
 refine⟨⟨fn,hf,hname,by rw [hb];rfl⟩,?_⟩
 intro V vs S hg ha
 refine calls_of_wp hf hb ?_
 have hs:vs.size≤fn.ntmps:=by rw [ha.1];exact hargs
 have hr:BA TB (DJ V V σ S) fn.ntmps V (look (Bw 0 args)) σ nx { tmps:=vs++Array.replicate (fn.ntmps - vs.size) undef,defers:=[] } := by
  refine⟨?_,?_,by simp;omega,hg.inv,hg.nx,rfl⟩
  ·intro t e he
   obtain⟨_,h2⟩:=Bu args 0 t e he
   have h2:args[t]? = some e:=by simpa using h2
   have hlt:t < vs.size:=by rw [ha.1];exact(List.getElem?_eq_some_iff.1 h2).1
   have h3:=ha.2 t e vs[t] h2 (Array.getElem?_eq_getElem hlt)
   simpa [Array.getElem?_append_left hlt,hlt] using h3
  ·intro t e he
   obtain⟨_,h2⟩:=Bu args 0 t e he
   have h2:args[t]? = some e:=by simpa using h2
   have:=(List.getElem?_eq_some_iff.1 h2).1
   omega
 refine wp_mono (h (DJ V V σ S) hg.nx V _ hr) ?_
 rintro e a' w' ⟨V',f',σ',rfl,⟨hq,hkn⟩,hr'⟩
 have fin:(∃id k i T rows r x,f' t=some (.o (.ptr id k i 0))∧look σ' id=some (.cells T k rows)∧rows[i]? = some r∧FE σ' ids (.a r) x∧post x (BH ids σ') V'.nx)→∃v,(results fn a'.tmps).run P V'.w=.ok v V'.w∧∃V'' v' x σ'',Ending.returned v=.returned v'∧V''.w=V'.w∧Inv TB (DJ V V σ S) V'' σ''∧A2 V'' x v'∧post x σ'' V''.nx:=by
  rintro⟨id,k,i,T,rows,r,x,h1,h2,h3,h4,h5⟩
  obtain⟨v,hv,he⟩:=Xr (P:=P) (hkn id k i h1).symm hrs hr'.env hr'.inv h1 h2 h3
  exact⟨v,hv,Iw V' σ' ids,v,x,_,rfl,rfl,Yr hr'.inv ids,h4.rel hr'.inv he,h5⟩
 cases e with
 | normal=>exact⟨hr'.defers,fin hq⟩
 | ret=>exact⟨hr'.defers,fin hq⟩
 | exit id=>exact hq.elim
 | goto l=>exact hq.elim
 | panic ch=>exact hq.elim
 | outgrown=>exact hq.elim
end
end Go.Am
namespace Go.Am
open Go Go.Proofs
set_option maxHeartbeats 1000000
set_option maxRecDepth 4000
attribute [local irreducible] AV BX Lex Bf Av Spec
variable {TB:Be}
theorem DZ(n:Int):Pure Tryz.prog TB 139 [eI .i64 n] (eB (Bb n)):=by
 refine eN Tryz.func139 rfl (by kernel_rfl) rfl ?_;intro Γ hΓ
 (repeat' first|refine tA rfl ?_ |refine s2 rfl fun _ _hb=>?_ |refine s3 rfl ?_ ?_<;>rintro rfl |refine aU rfl ?_ |refine Aa ?_|(refine aC rfl ?_ ?_<;>rintro⟨⟩)|refine aK ?_|refine aE ?_|refine aB ?_|refine aR ⟨_,rfl,?_⟩)
 all_goals (show E.o _=E.o _;congr;unfold Bb;grind)
theorem D0(n:Int):Pure Tryz.prog TB 190 [eI .i64 n] (eB (Bb n)):=by
 refine eN Tryz.func190 rfl (by kernel_rfl) rfl ?_;intro Γ hΓ
 (repeat' first|refine tA rfl ?_ |refine s2 rfl fun _ _hb=>?_ |refine s3 rfl ?_ ?_<;>rintro rfl |refine aU rfl ?_ |refine Aa ?_|(refine aC rfl ?_ ?_<;>rintro⟨⟩)|refine aK ?_|refine aE ?_|refine aB ?_|refine aR ⟨_,rfl,?_⟩)
 all_goals (show E.o _=E.o _;congr;unfold Bb;grind)
theorem Dz(s n:Int)(h0:0≤n)(h1:n < 64):Pure Tryz.prog TB 156 [eI .i64 s,eI .i64 n] (eB (DN s n.toNat)):=by
 refine eN Tryz.func156 rfl (by kernel_rfl) rfl ?_;intro Γ hΓ
 (repeat' first|(refine sA rfl ?_ ?_;first|exact tI|omega) |refine s2 rfl fun _ _hb=>?_ |refine aU rfl ?_ |refine Aa ?_|(refine aC rfl ?_ ?_<;>rintro⟨⟩)|refine aK ?_|refine aE ?_|refine aB ?_|refine aR ⟨_,rfl,?_⟩)
 subst _hb;rfl
theorem LV(s n:Int):Pure Tryz.prog TB 186 [eI .i64 s,eI .i64 n] (eB (hasB s n)):=by
 refine eN Tryz.func186 rfl (by kernel_rfl) rfl ?_;intro Γ hΓ
 (repeat' first|(refine sA rfl ?_ ?_;first|exact tI|simp only[oZ] at *;omega) |refine s2 rfl fun _ _hb=>?_ |refine s3 rfl ?_ ?_<;>rintro rfl |refine aU rfl ?_ |refine Aa ?_|(refine aC rfl ?_ ?_<;>rintro⟨⟩)|refine aK ?_|refine aE ?_|refine aB ?_|refine aR ⟨_,rfl,?_⟩)
 all_goals (show E.o _=E.o _;congr;unfold hasB DN;have:IntKind.i64.bits=64:=rfl;grind)
theorem CO(s:Int):Pure Tryz.prog TB 94 [eI .i64 s] (Ag (Ac s)):=by
 refine eN Tryz.func94 rfl (by kernel_rfl) rfl ?_;intro Γ hΓ
 (repeat first|refine tX rfl ?_ |refine aU rfl ?_ |refine Aa ?_)
 (refine pW rfl ?_ rfl (by rfl);refine C5 rfl rfl rfl rfl (by simp) (by rfl) (by rfl) (by rfl) (by rfl) ?_)
 (repeat first|refine tX rfl ?_ |refine aU rfl ?_ |refine Aa ?_)
 refine aB ?_
 refine Av.AR (α:={k:Nat // k≤6}) (fun ⟨k,hk⟩=>[(0,eI .i64 s),(3,.o (.arr 0 1 0 (Ay s k).length)),(4,eI .i64 k)]) (fun ⟨k,hk⟩=>[(0,.cells 3 1 ((Ay s k).map AI))]) 1 (fun ⟨k,hk⟩=>6 - k) (⟨0,by omega⟩) [0] (Dq hΓ rfl rfl) (by (repeat' first|exact tI|rfl|refine And.intro ?_ ?_)) ?_;rintro⟨k,hk⟩;(try dsimp only)
 (repeat first|refine tX rfl ?_ |refine s2 rfl fun _ _hb=>?_ |refine aU rfl ?_ |refine Aa ?_)
 (refine aC rfl ?_ ?_<;>rintro⟨⟩)
 ·have hlt:k < 6:=by have:=of_decide_eq_true _hb;omega
  refine aK ?_
  refine aS (aB ?_)
  (repeat first|refine tX rfl ?_ |refine aU rfl ?_)
  (refine Ai rfl ?_;refine UL (fun _ _=>AD rfl rfl rfl (Dz _ _ (by omega) (by omega)) rfl) rfl ?_;intro _ _hb)
  (repeat first|refine Aa ?_)
  have hs:=B4 s k
  (refine aC rfl ?_ ?_<;>rintro⟨⟩)
  ·(repeat first|refine tA rfl ?_ |refine aU rfl ?_)
   (refine pW rfl ?_ rfl (by rfl);refine AY rfl rfl rfl (by first| (simp;done)|(simp;(omega))) rfl (by intro r hr;simp at hr;subst hr;rfl) (by rfl) (Nat.le_of_ble_eq_true rfl) (by have:=A0 s k;simp;omega) ?_)
   (repeat first|(refine sX rfl ?_ ?_;first|exact tI|omega) |refine aU rfl ?_ |refine Aa ?_)
   refine⟨⟨k+1,by omega⟩,by dsimp only;(omega),[1],?_⟩
   rw [if_pos (by simpa using _hb)] at hs
   simp[cX,zC,hΓ,hs]
  ·refine aK ?_
   (repeat first|(refine sX rfl ?_ ?_;first|exact tI|omega) |refine aU rfl ?_ |refine Aa ?_)
   refine⟨⟨k+1,by omega⟩,by dsimp only;(omega),[0],?_⟩
   rw [if_neg (by simpa using _hb),List.append_nil] at hs
   simp[cX,zC,hΓ,hs]
 ·have hk6:k=6:=by have:=of_decide_eq_false _hb;omega
  subst hk6
  refine aE ?_
  (repeat first|refine tX rfl ?_ |refine aU rfl ?_ |refine Aa ?_)
  refine Av.freeze [0] [(2,.o (.d (Eg (Ay s 6))))] ⟨⟨_,rfl,.o (.full (by simp) rfl (by simp [Function.comp_def]) (by simp))⟩,trivial⟩ ?_
  refine aR ⟨_,rfl,rfl⟩
end Go.Am
