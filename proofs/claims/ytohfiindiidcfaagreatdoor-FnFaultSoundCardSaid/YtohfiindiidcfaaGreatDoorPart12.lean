/-
  Regions that draw, with new variables in any order: a variable that is laid and not yet written is 'pending'.
-/
import Derived.Test.YtohfiindiidcfaaGreatDoorPart10
set_option linter.all false
namespace Go.Am.R
open Go
structure BK where
 f:Env
 σ:Ab
 nx:Nat
 pd:Nat->Option (TypeId×List Value)
def BK.put(S:BK)(d:Option Tmp)(x:E):BK:=⟨BC S.f d x,S.σ,S.nx,λt=>if d=some t then none else S.pd t⟩
def BK.GN(S:BK)(d:Tmp)(q:TypeId×List Value):BK:=⟨S.f,S.σ,S.nx,λt=>if t=d then some q else S.pd t⟩
def BK.ad(S:BK)(d:Tmp)(T:TypeId)(z:List Value):BK:=⟨BC S.f (some d) (.o (.ptr S.nx z.length 0 0)),(S.nx,.cells T z.length [z.map zC])::S.σ,S.nx+1,λt=>if t=d then none else S.pd t⟩
theorem BK.put_comm(S:BK){d d':Option Tmp}{x y:E}(h:∀t,d=some t->d'≠some t):(S.put d x).put d' y=(S.put d' y).put d x:=by
 unfold BK.put;rw [KI h];congr 1;funext t;simp only;split<;>split<;>rfl
theorem BK.RC(S:BK){d':Option Tmp}{d:Tmp}{q:TypeId×List Value}{y:E}(h:d'≠some d):(S.put d' y).GN d q=(S.GN d q).put d' y:=by
 unfold BK.put BK.GN;simp only [BK.mk.injEq,true_and];funext t;by_cases e:t=d
 ·subst e;simp [h]
 ·simp [e]
theorem BK.VX(S:BK){d d':Tmp}{q q':TypeId×List Value}(h:d≠d'):(S.GN d q).GN d' q'=(S.GN d' q').GN d q:=by
 unfold BK.GN;simp only [BK.mk.injEq,true_and];funext t;by_cases e:t=d
 ·subst e;simp [h]
 ·simp [e]
theorem BK.bV(S:BK){d':Option Tmp}{d:Tmp}{T:TypeId}{z:List Value}{y:E}(h:d'≠some d):(S.put d' y).ad d T z=(S.ad d T z).put d' y:=by
 unfold BK.put BK.ad;simp only;rw [KI (d:=d') (d':=some d) (λt ht e=>h (by rw [ht,e]))];congr 1;funext t;by_cases e:t=d
 ·subst e;simp
 ·simp [e]
theorem BK.Zw(S:BK){d' d:Tmp}{T:TypeId}{z:List Value}{q:TypeId×List Value}(h:d'≠d):(S.GN d' q).ad d T z=(S.ad d T z).GN d' q:=by
 unfold BK.GN BK.ad;simp only [BK.mk.injEq,true_and];funext t;by_cases e:t=d
 ·subst e;simp [Ne.symm h]
 ·simp [e]
section
variable (P:Program)(TB:BA)(ops:Array Oper)
def QC(c:Nat)(o:Oper)(S:BK)(x:E):Prop:=
 if c=2 then ∀Z σ nx,A8 P TB Z o S.f σ nx x else if c=0 then ∀Z,A8 P TB Z o S.f S.σ S.nx x else 10<=c/\∀Z σ nx,look σ (c - 10)=look S.σ (c - 10)->A8 P TB Z o S.f σ nx x
def Mv(c:Nat)(o:Oper)(S:BK)(u:BK->BK):Prop:=
 (c≠3/\Bo ops o S.f=some false/\u=λS=>S.put o.dst (.t []))\/
 (c≠3/\Bo ops o S.f=some true/\∃x,QC P TB c o S x/\u=λS=>S.put o.dst x)\/
 (c=3/\o.guard=none/\∃d T z,o.dst=some d/\o.op=.alloc T/\WU P T=some z/\z.all Od=true/\S.f d=none/\u=λS=>S.GN d (T,z))
def Zp(m:Nat)(o:Oper)(K:BK->Prop)(S:BK):Prop:=
 (Bo ops o S.f=some false/\K (S.put o.dst (.t [])))\/(Bo ops o S.f=some true/\∀Z,Cq P TB Z o S.f S.σ S.nx (λx σ' nx'=>Kept m S.σ σ'/\K (BK.put ⟨S.f,σ',nx',S.pd⟩ o.dst x)))
def St(c:Nat)(o:Oper)(K:BK->Prop)(S:BK):Prop:=
 if c=1 then Zp P TB ops 0 o K S else
 if 1000<=c then Zp P TB ops (c - 1000) o K S else
 if c=5 then ∃d T z,.tmp d∈o.op.operands/\S.pd d=some (T,z)/\Zp P TB ops 0 o K (S.ad d T z) else
 ∃u,Mv P TB ops c o S u/\K (u S)
def Lex:List (Nat×Nat)->(BK->Prop)->BK->Prop
 | [],K,S=>K S
 | (i,c)::r,K,S=>∃o,ops[i]? = some o/\St P TB ops c o (Lex r K) S
end
section
variable {P:Program}{TB:BA}{ops:Array Oper}
theorem Zp.mono{m:Nat}{o:Oper}{K K':BK->Prop}{S:BK}(h:∀S,K S->K' S)(d:Zp P TB ops m o K S):Zp P TB ops m o K' S:=by
 rcases d with ⟨b,a⟩|⟨b,a⟩
 ·exact .inl ⟨b,h _ a⟩
 ·exact .inr ⟨b,λZ=>(a Z).mono λ_ _ _ c=>⟨c.1,h _ c.2⟩⟩
theorem St.mono{c:Nat}{o:Oper}{K K':BK->Prop}{S:BK}(h:∀S,K S->K' S)(a:St P TB ops c o K S):St P TB ops c o K' S:=by
 unfold St at *;split
 ·rename_i e;rw [if_pos e] at a;exact a.mono h
 ·rename_i e;rw [if_neg e] at a
  split
  ·rename_i e;rw [if_pos e] at a;exact a.mono h
  ·rename_i e;rw [if_neg e] at a
   split
   ·rename_i g;rw [if_pos g] at a
    obtain⟨d,T,z,f,b,i⟩:=a;exact⟨d,T,z,f,b,i.mono h⟩
   ·rename_i g;rw [if_neg g] at a
    obtain⟨u,f,b⟩:=a;exact⟨u,f,h _ b⟩
def ZI(x y:Oper):Bool:=(x.looksAt ops).all λt=>!(y.looksAt ops).contains t
def JK(ci cj:Nat):Bool:=
 Nat.beq ci 2 || (Nat.beq ci 3 || ((Nat.beq ci 0 && (!Nat.beq cj 1 && (!Nat.beq cj 5 && Nat.ble cj 999))) || (Nat.ble 10 ci && (Nat.ble ci 999 && (!Nat.beq cj 1 && (!Nat.beq cj 5 && (Nat.ble cj 999 || (cj - 1000).testBit (ci - 10))))))))
theorem JL{ci cj:Nat}(h:JK ci cj=true):ci=2\/ci=3\/(ci=0/\cj≠1/\cj≠5/\cj < 1000)\/(10<=ci/\ci < 1000/\cj≠1/\cj≠5/\(cj < 1000\/(cj - 1000).testBit (ci - 10)=true)):=by
 unfold JK at h
 have nb:∀a b:Nat,(!Nat.beq a b)=true->a≠b:=λa b h e=>by subst e;simp at h
 simp only [jh,d4,Nat.beq_eq,Nat.ble_eq] at h
 rcases h with h|h|⟨d,g,c,f⟩|⟨d,g,c,f,i⟩
 ·exact .inl h
 ·exact .inr (.inl h)
 ·exact .inr (.inr (.inl ⟨d,nb _ _ g,nb _ _ c,by omega⟩))
 ·exact .inr (.inr (.inr ⟨d,by omega,nb _ _ c,nb _ _ f,i.imp (λh=>by omega) id⟩))
def X8(ops:Array Oper)(i ci j cj:Nat):Bool:=
 waits ops i ops.size j || (match ops[i]?,ops[j]? with
  | some x,some y=>x.apart ops y && JK ci cj && (!Nat.beq cj 5 || ZI (ops:=ops) x y)
  | _,_=>false)
def PQ(ops:Array Oper)(i c:Nat)(r:List (Nat×Nat)):Bool:=r.all λ(j,cj)=>X8 ops i c j cj
def Du(ops:Array Oper):List (Nat×Nat)->Bool
 | []=>true
 | (i,c)::r=>PQ ops i c r && Du ops r
theorem Mv.put{c:Nat}{o:Oper}{S:BK}{u:BK->BK}(h:Mv P TB ops c o S u){d:Option Tmp}{x:E}{σ:Ab}{nx:Nat}{pd:Nat->Option (TypeId×List Value)}(p:∀t,d=some t->t∉o.looksAt ops)(l:∀t,o.dst=some t->d≠some t)(r:c=0->σ=S.σ/\nx=S.nx)(s:10<=c->look σ (c - 10)=look S.σ (c - 10)) :
 Mv P TB ops c o (BK.put ⟨S.f,σ,nx,pd⟩ d x) u:=by
 have n:Bo ops o (BK.put ⟨S.f,σ,nx,pd⟩ d x).f=Bo ops o S.f:=GF p;have ag:∀t,.tmp t∈o.op.operands->S.f t=BC S.f d x t:=λt ht=>(Fo p t ht).symm
 rcases h with ⟨i,g,a⟩|⟨i,g,y,a,m⟩|⟨i,g,dd,T,z,a,m,B,A,w,v⟩
 ·exact .inl ⟨i,by rw [n];exact g,a⟩
 ·refine .inr (.inl ⟨i,by rw [n];exact g,y,?_,m⟩)
  unfold QC at a |-;by_cases e:c=2
  ·rw [if_pos e] at a |-
   exact λZ σ nx=>(a Z σ nx).congr ag
  ·rw [if_neg e] at a |-
   by_cases b:c=0
   ·rw [if_pos b] at a |-
    obtain⟨rfl,rfl⟩:=r b;exact λZ=>(a Z).congr ag
   ·rw [if_neg b] at a |-
    exact⟨a.1,λZ j k q=>(a.2 Z j k (q.trans (s a.1))).congr ag⟩
 ·refine .inr (.inr ⟨i,g,dd,T,z,a,m,B,A,?_,v⟩)
  show BC S.f d x dd=none
  rw [C6 (l dd a)];exact w
theorem Mv.gO{c:Nat}{o:Oper}{S:BK}{u:BK->BK}(h:Mv P TB ops c o S u):(∃x,u=λS=>S.put o.dst x)\/∃d q,o.dst=some d/\u=λS=>S.GN d q:=by
 rcases h with ⟨_,_,a⟩|⟨_,_,y,_,e⟩|⟨_,_,dd,T,z,a,_,_,_,_,b⟩
 ·exact .inl ⟨_,a⟩
 ·exact .inl ⟨_,e⟩
 ·exact .inr ⟨dd,_,a,b⟩
theorem Mv.back{c:Nat}{o oi:Oper}{S:BK}{u v:BK->BK}(r:(∃x,u=λS=>S.put oi.dst x)\/∃d q,oi.dst=some d/\u=λS=>S.GN d q)(h:Mv P TB ops c o (u S) v)(n:∀t,oi.dst=some t->t∉o.looksAt ops)(s:∀t,oi.dst=some t->o.dst≠some t):Mv P TB ops c o S v:=by
 rcases r with ⟨x,rfl⟩|⟨d,q,G,rfl⟩
 ·have m:Bo ops o (S.put oi.dst x).f=Bo ops o S.f:=GF n
  have ag:∀t,.tmp t∈o.op.operands->BC S.f oi.dst x t=S.f t:=Fo n
  rcases h with ⟨i,g,a⟩|⟨i,g,y,a,l⟩|⟨i,g,dd,T,z,a,l,F,B,A,w⟩
  ·exact .inl ⟨i,by rw [<-m];exact g,a⟩
  ·refine .inr (.inl ⟨i,by rw [<-m];exact g,y,?_,l⟩)
   unfold QC at a |-;by_cases e:c=2
   ·rw [if_pos e] at a |-;exact λZ σ nx=>(a Z σ nx).congr ag
   ·rw [if_neg e] at a |-
    by_cases b:c=0
    ·rw [if_pos b] at a |-;exact λZ=>(a Z).congr ag
    ·rw [if_neg b] at a |-;exact⟨a.1,λZ j k p=>(a.2 Z j k p).congr ag⟩
  ·refine .inr (.inr ⟨i,g,dd,T,z,a,l,F,B,?_,w⟩)
   have:BC S.f oi.dst x dd=none:=A;rw [C6 (λe=>s dd e a)] at this;exact this
 ·exact h
theorem Sl{oi oj:Oper}{S:BK}{u v:BK->BK}(f:(∃x,u=λS=>S.put oi.dst x)\/∃d q,oi.dst=some d/\u=λS=>S.GN d q)(c:(∃x,v=λS=>S.put oj.dst x)\/∃d q,oj.dst=some d/\v=λS=>S.GN d q)(h:∀t,oi.dst=some t->oj.dst≠some t):v (u S)=u (v S):=by
 rcases f with ⟨x,rfl⟩|⟨d,q,b,rfl⟩<;>rcases c with ⟨y,rfl⟩|⟨d',q',a,rfl⟩
 ·exact S.put_comm h
 ·exact S.RC λe=>h d' e a
 ·exact(S.RC (h d b)).symm
 ·exact S.VX λe=>h d b (by rw [a,e])
theorem Zp.swap{ci m:Nat}{oi oj:Oper}{S:BK}{u:BK->BK}{K:BK->Prop}(k:ci=2\/ci=3\/(10<=ci/\m.testBit (ci - 10)=true))(l:oi.apart ops oj=true)(p:Mv P TB ops ci oi S u)(h:Zp P TB ops m oj K (u S)):Zp P TB ops m oj (λS'=>∃u,Mv P TB ops ci oi S' u/\K (u S')) S:=by
 obtain⟨v,z,w⟩:=Oper.apart_spec l;have b:=p.gO;have i:∀t,oi.dst=some t->oj.dst≠some t:=z;have g:∀(x:E) (σ:Ab) (nx:Nat),Kept m S.σ σ->Mv P TB ops ci oi (BK.put ⟨S.f,σ,nx,S.pd⟩ oj.dst x) u:=λx σ nx c=>p.put (λt ht=>w t ht) i (λe=>by omega) (λe=>c _ (by rcases k with n|n|n;omega;omega;exact n.2))
 have s:∀(x:E) (σ:Ab) (nx:Nat),BK.put ⟨(u S).f,σ,nx,(u S).pd⟩ oj.dst x=u (BK.put ⟨S.f,σ,nx,S.pd⟩ oj.dst x):=by
  intro x σ nx;have:=Sl (S:=⟨S.f,σ,nx,S.pd⟩) b (.inl ⟨x,rfl⟩) i;rw [<-this]
  rcases b with ⟨y,rfl⟩|⟨d,q,_,rfl⟩<;>rfl
 have r:Bo ops oj (u S).f=Bo ops oj S.f:=by
  rcases b with ⟨y,rfl⟩|⟨d,q,_,rfl⟩
  ·exact GF v
  ·rfl
 have ag:∀t,.tmp t∈oj.op.operands->(u S).f t=S.f t:=by
  rcases b with ⟨y,rfl⟩|⟨d,q,_,rfl⟩
  ·exact Fo v
  ·exact λ_ _=>rfl
 have a:(u S).σ=S.σ/\(u S).nx=S.nx:=by rcases b with ⟨y,rfl⟩|⟨d,q,_,rfl⟩<;>exact⟨rfl,rfl⟩
 rcases h with ⟨o,j⟩|⟨o,j⟩
 ·refine .inl ⟨by rw [<-r];exact o,u,g _ S.σ S.nx (λ_ _=>rfl),?_⟩
  have:=s (.t []) S.σ S.nx;rw [<-a.1,<-a.2] at this;have e:BK.put ⟨(u S).f,(u S).σ,(u S).nx,(u S).pd⟩ oj.dst (.t [])=(u S).put oj.dst (.t []):=rfl;rw [e] at this;rw [this,a.1,a.2] at j;exact j
 ·refine .inr ⟨by rw [<-r];exact o,λZ=>?_⟩
  have:=(j Z).congr ag;rw [a.1,a.2] at this
  exact this.mono λx σ' nx' hk=>by
   have c:Kept m S.σ σ':=hk.1;exact⟨c,u,g x σ' nx' c,by rw [<-s];exact hk.2⟩
theorem St.swap{ci cj:Nat}{oi oj:Oper}{S:BK}{u:BK->BK}{K:BK->Prop}(f:oi.apart ops oj=true)(I:JK ci cj=true)(b:(!Nat.beq cj 5 || ZI (ops:=ops) oi oj)=true)
 (k:Mv P TB ops ci oi S u) (h:St P TB ops cj oj K (u S)):St P TB ops cj oj (λS'=>∃u,Mv P TB ops ci oi S' u/\K (u S')) S:=by
 obtain⟨Q,Y,X⟩:=Oper.apart_spec f;have j:∀t,oi.dst=some t->oj.dst≠some t:=Y;have c:=k.gO;have H:=JL I;unfold St at *;by_cases V:cj=1
 ·rw [if_pos V] at h |-
  exact h.swap (by omega) f k
 ·rw [if_neg V] at h |-
  by_cases ck:1000<=cj
  ·rw [if_pos ck] at h |-
   refine h.swap ?_ f k
   rcases H with e|e|e|⟨e1,e2,e3,e4,R|R⟩
   ·exact .inl e
   ·exact .inr (.inl e)
   ·omega
   ·omega
   ·exact .inr (.inr ⟨e1,R⟩)
  rw [if_neg ck] at h |-;by_cases J:cj=5
  ·rw [if_pos J] at h |-
   obtain⟨d,T,z,r,p,m⟩:=h;have s:d∈oj.looksAt ops:=GL r;have a:oi.dst≠some d:=λe=>Q d e s
   have F:d∉oi.looksAt ops:=by
    subst J;unfold ZI at b;simp only [l3,jL,lz,d8] at b;intro N;have:=b d N;simp [s] at this
   have n:S.pd d=some (T,z):=by
    rcases c with ⟨x,rfl⟩|⟨d',q,g,rfl⟩
    ·have:(if oi.dst=some d then none else S.pd d)=some (T,z):=p
     rwa [if_neg a] at this
    ·have:(if d=d' then some q else S.pd d)=some (T,z):=p
     rwa [if_neg (λe=>a (by rw [g,e]))] at this
   have i:(u S).ad d T z=u (S.ad d T z):=by
    rcases c with ⟨x,rfl⟩|⟨d',q,g,rfl⟩
    ·exact S.bV a
    ·exact S.Zw λe=>a (by rw [g,e])
   have G:Mv P TB ops ci oi (S.ad d T z) u:=by
    have:=k.put (d:=some d) (x:=.o (.ptr S.nx z.length 0 0)) (σ:=(S.nx,.cells T z.length [z.map zC])::S.σ) (nx:=S.nx+1) (pd:=S.pd) (λt ht=>by injection ht with ht;subst ht;exact F) (λt ht e=>a (by rw [ht];exact e.symm)) (λe=>by omega) (λe=>by omega)
    rcases this with ⟨B,A,w⟩|⟨B,A,y,w,L⟩|⟨B,A,dd,T',z',w,L,a5,a6,a7,a8⟩
    ·exact .inl ⟨B,A,w⟩
    ·exact .inr (.inl ⟨B,A,y,w,L⟩)
    ·exact .inr (.inr ⟨B,A,dd,T',z',w,L,a5,a6,a7,a8⟩)
   rw [i] at m;exact⟨d,T,z,r,n,m.swap (by omega) f G⟩
  ·rw [if_neg J] at h |-
   obtain⟨v,M,hk⟩:=h;have l:=M.gO;refine⟨v,M.back c Q j,u,?_,by rw [<-Sl c l j];exact hk⟩
   rcases l with ⟨x,rfl⟩|⟨d,q,N,rfl⟩
   ·exact k.put (σ:=S.σ) (nx:=S.nx) (pd:=S.pd) (λt ht=>X t ht) j (λ_=>⟨rfl,rfl⟩) (λ_=>rfl)
   ·exact k
end
section
variable {P:Program}{TB:BA}{ops:Array Oper}
theorem EL(K:BK->Prop):∀(r:List (Nat×Nat)) (listed:Array Bool) (S:BK),E4 ops listed->Bc ops r listed=true->Du ops r=true->
 Lex P TB ops r K S->∀j,j∈Region.ready .any ops listed->∃t c s o,r=t++(j,c)::s/\ops[j]? = some o/\St P TB ops c o (Lex P TB ops (t++s) K) S
 | [],listed,_,_,m,_,_,j,p=>by have:=JU _ _ m j p;simp at this
 | (i, ci) :: r,listed,S,F,m,hk,h,j,p=>by
  obtain⟨oi,g,h⟩:=h;by_cases k:j=i
  ·subst k
   exact⟨[],ci,r,oi,rfl,g,h⟩
  ·simp only [Bc,d4] at m
   simp only [Du,d4] at hk
   have hi:i∈Region.ready .any ops listed:=by simpa using m.1
   have y:j∈r.map (·.1):=JU r _ m.2 j (ready_mono p k);obtain⟨⟨j',cj⟩,n,rfl⟩:=f7.1 y;have l:=hk.1;unfold PQ at l;rw [d8] at l
   have f:∀c',(j',c')∈r->∃oj,ops[j']? = some oj/\oi.apart ops oj=true/\JK ci c'=true/\(!Nat.beq c' 5 || ZI (ops:=ops) oi oj)=true:=by
    intro c' w;have a:=l _ w;simp only [X8] at a;rw [jh] at a
    rcases a with a|a
    ·exact absurd p (LQ F (Si (NG hi)) a)
    ·rw [g] at a
     cases e:ops[j']? with
     | none=>rw [e] at a;cases a
     | some oj=>
      rw [e] at a;simp only [d4] at a;exact⟨oj,rfl,a.1.1,a.1.2,a.2⟩
   have d:ci≠1/\¬1000<=ci/\ci≠5:=by
    obtain⟨oj,_,_,J,_⟩:=f cj n;have:=JL J;omega
   have L:∃u,Mv P TB ops ci oi S u/\Lex P TB ops r K (u S):=by
    unfold St at h;rwa [if_neg d.1,if_neg d.2.1,if_neg d.2.2] at h
   obtain⟨u,G,H⟩:=L;obtain⟨t,c,s,oj,B,e,I⟩:=EL K r (listed.setIfInBounds i true) _ (He F hi) m.2 hk.2 H j' (ready_mono p k);obtain⟨oj',b,A,z,q⟩:=f c (by rw [B];simp);rw [e] at b
   injection b with b
   subst b;refine⟨(i,ci)::t,c,s,oj,by rw [B];rfl,e,?_⟩;refine(St.swap A z q G I).mono λS' ⟨u',v,x⟩=>?_;refine⟨oi,g,?_⟩;unfold St;rw [if_neg d.1,if_neg d.2.1,if_neg d.2.2];exact⟨u',v,x⟩
theorem JS:∀(e a:List (Nat×Nat)) (x:Nat×Nat),Du ops (e++x::a)=true->Du ops (e++a)=true
 | [],a,(j,c),h=>by
  simp only [lE,Du,d4] at h;exact h.2
 | (i,d)::e,a,x,h=>by
  simp only [jT,Du,d4] at h |-;refine⟨?_,JS e a x h.2⟩;have f:=h.1;unfold PQ at f |-;rw [d8] at f |-;intro y b;refine f y ?_
  rcases f6.1 b with b|b
  ·exact jf _ b
  ·exact jp _ (jE _ b)
structure Vz (Z:Ctx) (V:View) (σ:Ab) (b:Nat) (T:TypeId) (z:List Value):Prop where
 cells:∃cur:Array Value,V.w.heap[b]? = some (.cells cur T (0,0))/\cur.toList=z
 ni:¬V.I b
 ns:∀id o,look σ id=some o->¬V.nl id->¬EF V id o b
 lo:Z.V.w.heap.size<=b
 zok:z.all Od=true
theorem Vz.lt{Z:Ctx}{V:View}{σ:Ab}{b:Nat}{T:TypeId}{z:List Value}(h:Vz Z V σ b T z):b < V.w.heap.size:=by
 obtain⟨cur,a,_⟩:=h.cells;exact(jq.1 a).1
theorem Inv.comp{Z:Ctx}{V V':View}{σ σ':Ab}{Q:Sz}(h:Inv TB Z V σ)(n:∀b,Q.J b->Z.J b\/Z.V.w.heap.size<=b\/Z.F b)(m:∀b,Q.B b->Z.V.w.heap.size<=b\/Z.F b)(d:Inv TB (GB V V σ Q) V' σ'):Inv TB Z V' σ':=by
 have f:∀b,DS V σ b\/Q.B b->Z.V.w.heap.size<=b\/Z.F b:=by
  rintro b (⟨id,o,c,e,a⟩|hb)
  ·exact h.live id o c e b a
  ·exact m b hb
 refine⟨d.os.trans h.os,d.tape.trans h.tape,d.output.trans h.output,λb hb g=>?_,d.iLt,λb hb=>?_,h.ext.trans d.ext,d.st,λid o c e b hb=>?_,d.tabs,?_⟩
 ·have c:¬(DS V σ b\/Q.B b):=λl=>by rcases f b l with e|e;omega;exact g e
  exact(d.old b (ja hb h.ext.size) c).trans (h.old b hb g)
 ·rcases d.iNew b hb with c|c|c
  ·exact h.iNew b c
  ·exact .inr (.inl (i9 h.ext.size c))
  ·exact .inr (f b c)
 ·rcases d.live id o c e b hb with a|a
  ·exact .inl (i9 h.ext.size a)
  ·exact f _ a
 ·obtain⟨Q1,k,j,i⟩:=d.hid
  refine⟨Q1,k,λb hb=>?_,λb hb=>?_⟩
  ·rcases j b hb with a|a|a
   ·exact n b a
   ·exact .inr (.inl (i9 h.ext.size a))
   ·exact .inr (f b a)
  ·rcases i b hb with a|a
   ·exact .inl (i9 h.ext.size a)
   ·exact f b a
theorem Vz.comp{Z:Ctx}{V V':View}{σ σ':Ab}{b:Nat}{T:TypeId}{z:List Value}{Q:Sz}(d:Vz Z V σ b T z)(h:¬Q.B b)(j:Inv TB (GB V V σ Q) V' σ'):Vz Z V' σ' b T z:=by
 have i:=d.lt
 have c:¬(DS V σ b\/Q.B b):=by
  rintro(⟨id,o,a,g,f⟩|hb)
  ·exact d.ns id o a g f
  ·exact h hb
 refine⟨?_,λhI=>?_,λid o a g e=>?_,d.lo,d.zok⟩
 ·obtain⟨cur,a,g⟩:=d.cells
  exact⟨cur,(j.old b i c).trans a,g⟩
 ·rcases j.iNew b hI with a|a|a
  ·exact d.ni a
  ·have a:V.w.heap.size<=b:=a;omega
  ·exact c a
 ·rcases j.live id o a g b e with f|f
  ·have f:V.w.heap.size<=b:=f;omega
  ·exact c f
structure dV (TB:BA) (Z:Ctx) (V:View) (S:BK) (a:Act) (Q:Sz):Prop where
 s:Of TB V S.σ Q
 j:∀b,Q.J b->Z.J b\/Z.V.w.heap.size<=b\/Z.F b
 b:∀b,Q.B b->Z.V.w.heap.size<=b\/Z.F b
 p:∀d q b,S.pd d=some q->a.tmps[d]? = some (.pointer (some ⟨b,0,none⟩))->¬Q.B b
structure IB (TB:BA) (Z:Ctx) (N:Nat) (V:View) (S:BK) (a:Act):Prop where
 st:Cg TB Z N V S.f S.σ S.nx a
 pd:∀d T z,S.pd d=some (T,z)->S.f d=none/\∃b,a.tmps[d]? = some (.pointer (some ⟨b,0,none⟩))/\Vz Z V S.σ b T z
 ne:∀d d' q q' b b',S.pd d=some q->S.pd d'=some q'->d≠d'->a.tmps[d]? = some (.pointer (some ⟨b,0,none⟩))->a.tmps[d']? = some (.pointer (some ⟨b',0,none⟩))->b≠b'
 sc:∃Q,dV TB Z V S a Q
variable {Z:Ctx}{N:Nat}{V V':View}{S:BK}{a:Act}
theorem Ho{a:Act}{d:Option Tmp}{v:Value}{t:Nat}(h:d≠some t):(a.put d v).tmps[t]? = a.tmps[t]?:=by
 cases d with
 | none=>rfl
 | some d=>
  have:d≠t:=λe=>h (by rw [e]);simp [Act.put,kl this]
theorem IB.put(h:IB TB Z N V S a){d:Option Tmp}{x:E}{v:Value}{σ':Ab}{nx':Nat}(P:∀t,d=some t->t < N)(e:Ext V V'){Q:Sz}(l:dV TB Z V S a Q)(hi:Inv TB (GB V V S.σ Q) V' σ')(M:V'.nx=nx')(L:Bq V' x v):IB TB Z N V' (BK.put ⟨S.f,σ',nx',S.pd⟩ d x) (a.put d v):=by
 have A:∀t q,(if d=some t then none else S.pd t)=some q->d≠some t/\S.pd t=some q:=λt q i=>by
  split at i
  ·cases i
  ·rename_i k;exact⟨k,i⟩
 refine⟨h.st.put P e (Inv.comp h.st.inv l.j l.b hi) M L,λt T z i=>?_,λt t' q q' b b' i F k hb r=>?_,?_⟩
 ·obtain⟨n,m⟩:=A t _ i
  obtain⟨c,b,g,B⟩:=h.pd t T z m;refine⟨?_,b,by rw [Ho n];exact g,B.comp (l.p t _ b m g) hi⟩
  show BC S.f d x t=none
  rw [C6 n];exact c
 ·obtain⟨n,m⟩:=A t _ i
  obtain⟨H,G⟩:=A t' _ F;rw [Ho n] at hb;rw [Ho H] at r;exact h.ne t t' q q' b b' m G k hb r
 ·obtain⟨Q1,K,J,I⟩:=hi.hid
  refine⟨Q1,K,λb hb=>?_,λb hb=>?_,λt q b i hb R=>?_⟩
  ·rcases J b hb with c|c|c|c
   ·exact l.j b c
   ·exact .inr (.inl (i9 h.st.inv.ext.size c))
   ·obtain⟨id,o,y,u,s⟩:=c;exact .inr (h.st.inv.live id o y u b s)
   ·exact .inr (l.b b c)
  ·rcases I b hb with c|c|c
   ·exact .inl (i9 h.st.inv.ext.size c)
   ·obtain⟨id,o,y,u,s⟩:=c;exact h.st.inv.live id o y u b s
   ·exact l.b b c
  ·obtain⟨n,m⟩:=A t _ i
   rw [Ho n] at hb;obtain⟨_,X,g,B⟩:=h.pd t q.1 q.2 m;rw [hb] at g
   injection g with g;injection g with g;injection g with g;injection g with g
   subst g
   rcases I b R with c|c|c
   ·have c:V.w.heap.size<=b:=c
    have:=B.lt;omega
   ·obtain⟨id,o,y,u,s⟩:=c;exact B.ns id o y u s
   ·exact l.p t _ b m hb c
theorem Inv.grow{σ:Ab}(h:Inv TB Z V σ){w:World}(d:w.os=V.w.os)(ht:w.tape=V.w.tape)(i:w.output=V.w.output)(c:V.w.heap.size<=w.heap.size)(a:∀b,b < V.w.heap.size->w.heap[b]? = V.w.heap[b]?):Inv TB Z { V with w:=w } σ/\Ext V { V with w:=w } := by
 have e:Ext V { V with w:=w } := ⟨λ_ h=>h,λb hb=>a b (h.iLt b hb),c,λ_ _=>rfl,λ_ _=>rfl,λ_ _=>Iff.rfl,iX _⟩
 refine⟨⟨d.trans h.os,ht.trans h.tape,i.trans h.output,λb hb k=>(a b (ja hb h.ext.size)).trans (h.old b hb k),λb hb=>ja (h.iLt b hb) c,h.iNew,h.ext.trans e,⟨λid o f=>?_,h.st.lt,h.st.free,h.st.inj⟩,h.live,λx g=>?_,h.hid.step (λ_ h=>h) e.heap c (λb hb _ _=>a b hb) (λ_ h=>.inl h) λb hb=>.inl (HN e h.st.lt hb)⟩,e⟩
 ·exact(h.st.obj id o f).AX e (h.st.lt id o f) λj b hb=>a _ ((h.st.obj id o f).blt j hb)
 ·have:=h.tabs x g
  exact⟨this.1,(a _ (h.iLt _ this.1)).trans this.2⟩
theorem IB.alloc(h:IB TB Z N V S a){d:Tmp}{T:TypeId}{zv:Value}{z:List Value}(J:d < N)(G:S.f d=none)(I:zv.cells.toList=z)(B:z.all Od=true):IB TB Z N { V with w:=V.w.alloc (.cells zv.cells T) } (S.GN d (T,z)) (a.put (some d) (.pointer (some ⟨V.w.heap.size,0,none⟩))):=by
 obtain⟨hi,x⟩:=Inv.grow h.st.inv (w:=V.w.alloc (.cells zv.cells T)) rfl rfl rfl (by simp) (λb hb=>A6 _ _ _ hb)
 have F:d < a.tmps.size:=by rw [h.st.size];exact J
 have k:(a.put (some d) (.pointer (some ⟨V.w.heap.size,0,none⟩))).tmps[d]? = some (.pointer (some ⟨V.w.heap.size,0,none⟩)):=by
  simp [Act.put,F]
 refine⟨⟨λt e ht=>?_,h.st.lt,by simp [Act.put,h.st.size],hi,h.st.nx,h.st.defers⟩,λt T' z' g=>?_,λt t' q q' b b' g i m hb c=>?_,?_⟩
 ·have ht:S.f t=some e:=ht
  have m:d≠t:=λe=>by subst e;rw [G] at ht;cases ht
  have:=(h.st.env t e ht).ext x
  simpa [Act.put,kl m] using this
 ·have g:(if t=d then some (T,z) else S.pd t)=some (T',z'):=g
  by_cases e:t=d
  ·subst e
   rw [if_pos rfl] at g
   injection g with g;injection g with A y
   subst A y;refine⟨G,_,k,⟨⟨zv.cells,BT _ _,I⟩,λhI=>?_,λid o v l e=>?_,?_,B⟩⟩
   ·exact Nat.lt_irrefl _ (h.st.inv.iLt _ hI)
   ·have n:=(h.st.inv.st.obj id o v).blt l e
    omega
   ·exact h.st.inv.ext.size
  ·rw [if_neg e] at g
   obtain⟨v,b,l,n⟩:=h.pd t T' z' g;refine⟨v,b,by rw [Ho (λe'=>e (by injection e' with e';exact e'.symm))];exact l,⟨?_,n.ni,n.ns,n.lo,n.zok⟩⟩;obtain⟨cur,L,K⟩:=n.cells;exact⟨cur,(A6 _ _ _ n.lt).trans L,K⟩
 ·have g:(if t=d then some (T,z) else S.pd t)=some q:=g
  have i:(if t'=d then some (T,z) else S.pd t')=some q':=i
  have old:∀t q b,t≠d->S.pd t=some q->(a.put (some d) (.pointer (some ⟨V.w.heap.size,0,none⟩))).tmps[t]? = some (.pointer (some ⟨b,0,none⟩))->a.tmps[t]? = some (.pointer (some ⟨b,0,none⟩))/\b < V.w.heap.size:=λt q b e g hb=>by
   rw [Ho (λe'=>e (by injection e' with e';exact e'.symm))] at hb;obtain⟨_,M,l,n⟩:=h.pd t q.1 q.2 g;rw [hb] at l
   injection l with l;injection l with l;injection l with l;injection l with l
   subst l;exact⟨hb,n.lt⟩
  by_cases e:t=d
  ·subst e
   rw [k] at hb
   injection hb with hb;injection hb with hb;injection hb with hb;injection hb with hb
   rw [if_neg (Ne.symm m)] at i;have:=(old t' q' b' (Ne.symm m) i c).2;omega
  ·rw [if_neg e] at g
   have v:=old t q b e g hb;by_cases e':t'=d
   ·subst e'
    rw [k] at c
    injection c with c;injection c with c;injection c with c;injection c with c
    omega
   ·rw [if_neg e'] at i
    exact h.ne t t' q q' b b' g i m v.1 (old t' q' b' e' i c).1
 ·obtain⟨Q,u⟩:=h.sc
  refine⟨Q,u.s.step (λ_ h=>h) x.heap x.size (λb hb _ _=>A6 _ _ _ hb) (λ_ h=>.inl h) λb hb=>.inl (HN x h.st.inv.st.lt hb),u.j,u.b,λt q b g hb H=>?_⟩;have g:(if t=d then some (T,z) else S.pd t)=some q:=g;by_cases e:t=d
  ·subst e
   rw [k] at hb
   injection hb with hb;injection hb with hb;injection hb with hb;injection hb with hb
   have:=u.s.r.blt H;omega
  ·rw [if_neg e] at g
   rw [Ho (λe'=>e (by injection e' with e';exact e'.symm))] at hb;exact u.p t q b g hb H
theorem IB.dZ(h:IB TB Z N V S a){d:Tmp}{T:TypeId}{z:List Value}(hd:d < N)(hq:S.pd d=some (T,z)):∃V',V'.w=V.w/\IB TB Z N V' (S.ad d T z) a:=by
 obtain⟨hf,b,hb,hp⟩:=h.pd d T z hq;obtain⟨cur,hcur,hcz⟩:=hp.cells;have hi:=h.st.inv;have Y:=h.st.nx;have e:Ext V (Ax V b 1 False V.w):=D0 (iX _) λ_ _=>rfl
 have G:(Ax V b 1 False V.w).U V.nx=b:=by simp [Ax]
 have hrel:CP (Ax V b 1 False V.w) (z.map zC) cur:=by
  refine⟨by rw [gt,<-hcz];simp,λj c v hj hv=>?_⟩
  have hzj:z[j]? = some v:=by rw [<-hcz,jO];exact hv
  rw [ge,hzj] at hj
  injection hj with hj
  subst hj;exact Li (d8.1 hp.zok v (co hzj))
 have k:∀id o,look ((S.nx,O.cells T z.length [z.map zC])::S.σ) id=some o->(id=V.nx/\o=O.cells T z.length [z.map zC])\/(id≠V.nx/\look S.σ id=some o):=λid o y=>by
  rw [AA] at y;rw [<-Y] at y;by_cases I:V.nx=id
  ·rw [if_pos I] at y;injection y with y;exact .inl ⟨I.symm,y.symm⟩
  ·rw [if_neg I] at y;exact .inr ⟨Ne.symm I,y⟩
 have n:∀id,id < V.nx->((Ax V b 1 False V.w).nl id↔V.nl id):=λid I=>e.nl id I;obtain⟨Q,L⟩:=h.sc
 have hsQ:Of TB (Ax V b 1 False V.w) ((S.nx,O.cells T z.length [z.map zC])::S.σ) Q:=by
  refine⟨L.s.r,L.s.ji,L.s.bi,λb' ⟨id,o,y,K,l⟩ hB=>?_⟩
  rcases k id o y with ⟨rfl,rfl⟩|⟨M,B⟩
  ·have l:b'=_:=l
   rw [G] at l;subst l;exact L.p d _ _ hq hb hB
  ·have g:=hi.st.lt id o B
   exact L.s.ap b' ⟨id,o,B,λu=>K ((n id g).2 u),(AK e g).1 l⟩ hB
 have hinv:Inv TB Z (Ax V b 1 False V.w) ((S.nx,O.cells T z.length [z.map zC])::S.σ):=by
  refine⟨hi.os,hi.tape,hi.output,hi.old,hi.iLt,hi.iNew,hi.ext.trans e,⟨λid o y=>?_,λid o y=>?_,λid o y K b' l hI=>?_,λid id' o o' y hl' P K hn' b' A J=>?_⟩,λid o y K b' l=>?_,hi.tabs,⟨Q,hsQ,L.j,L.b⟩⟩
  ·rcases k id o y with ⟨rfl,rfl⟩|⟨M,B⟩
   ·refine .inr ⟨by simp [Ax],cur,by rw [G];exact hcur,?_,by simp [Ax],by simp [Ax,maxLen],?_,?_⟩
    ·simp [Ax,<-hcz]
    ·intro r hr;simp at hr;subst hr;simp
    ·intro i r j c hi hj
     have M:=U8 hrel i r j c hi hj;rw [gt] at M;exact M
   ·exact(hi.st.obj id o B).AX e (hi.st.lt id o B) λ_ _ _=>rfl
  ·rcases k id o y with ⟨rfl,rfl⟩|⟨M,B⟩
   ·exact kT _
   ·exact kt (hi.st.lt id o B)
  ·rcases k id o y with ⟨rfl,rfl⟩|⟨M,B⟩
   ·have l:b'=_:=l
    rw [G] at l;subst l;exact hp.ni hI
   ·have g:=hi.st.lt id o B
    exact hi.st.free id o B (λu=>K ((n id g).2 u)) b' ((AK e g).1 l) hI
  ·rcases k id o y with ⟨rfl,rfl⟩|⟨M,B⟩<;>rcases k id' o' hl' with ⟨rfl,rfl⟩|⟨h1',R⟩
   ·exact absurd rfl P
   ·have g:=hi.st.lt id' o' R
    have A:b'=_:=A;rw [G] at A;subst A;exact hp.ns id' o' R (λu=>hn' ((n id' g).2 u)) ((AK e g).1 J)
   ·have g:=hi.st.lt id o B
    have J:b'=_:=J;rw [G] at J;subst J;exact hp.ns id o B (λu=>K ((n id g).2 u)) ((AK e g).1 A)
   ·have g:=hi.st.lt id o B
    have X:=hi.st.lt id' o' R;exact hi.st.inj id id' o o' B R P (λu=>K ((n id g).2 u)) (λu=>hn' ((n id' X).2 u)) b' ((AK e g).1 A) ((AK e X).1 J)
  ·rcases k id o y with ⟨rfl,rfl⟩|⟨M,B⟩
   ·have l:b'=_:=l
    rw [G] at l;subst l;exact .inl hp.lo
   ·have g:=hi.st.lt id o B
    exact hi.live id o B (λu=>K ((n id g).2 u)) b' ((AK e g).1 l)
 refine⟨Ax V b 1 False V.w,rfl,⟨λt x ht=>?_,λt x ht=>?_,h.st.size,hinv,by show V.nx+1=S.nx+1;rw [Y],h.st.defers⟩,λt T' z' H=>?_,λt t' q q' b1 b1' m F P A hb1'=>?_,⟨Q,hsQ,L.j,L.b,λt q b1 m A=>?_⟩⟩
 ·by_cases et:t=d
  ·subst et
   have ht:BC S.f (some t) (.o (.ptr S.nx z.length 0 0)) t=some x:=ht;simp only [BC,if_true] at ht
   injection ht with ht
   subst ht
   have hg:a.tmps.getD t undef=.pointer (some ⟨b,0,none⟩):=by simp [hb]
   rw [hg,<-Y];exact Mz
  ·have ht:BC S.f (some d) (.o (.ptr S.nx z.length 0 0)) t=some x:=ht
   rw [C6 (λe'=>et (by injection e' with e';exact e'.symm))] at ht;exact(h.st.env t x ht).ext e
 ·by_cases et:t=d
  ·subst et;exact hd
  ·have ht:BC S.f (some d) (.o (.ptr S.nx z.length 0 0)) t=some x:=ht
   rw [C6 (λe'=>et (by injection e' with e';exact e'.symm))] at ht;exact h.st.lt t x ht
 ·have H:(if t=d then none else S.pd t)=some (T',z'):=H
  by_cases et:t=d
  ·rw [if_pos et] at H;cases H
  ·rw [if_neg et] at H
   obtain⟨M,b2,B,h3⟩:=h.pd t T' z' H;refine⟨?_,b2,B,⟨h3.cells,h3.ni,λid o y K=>?_,h3.lo,h3.zok⟩⟩
   ·show BC S.f (some d) _ t=none
    rw [C6 (λe'=>et (by injection e' with e';exact e'.symm))];exact M
   ·rcases k id o y with ⟨rfl,rfl⟩|⟨h4,h5⟩
    ·intro u
     have u:b2=_:=u;rw [G] at u;exact h.ne d t _ _ b b2 hq H (Ne.symm et) hb B u.symm
    ·have g:=hi.st.lt id o h5
     exact λu=>h3.ns id o h5 (λu=>K ((n id g).2 u)) ((AK e g).1 u)
 ·have m:(if t=d then none else S.pd t)=some q:=m
  have F:(if t'=d then none else S.pd t')=some q':=F;by_cases et:t=d
  ·rw [if_pos et] at m;cases m
  ·by_cases et':t'=d
   ·rw [if_pos et'] at F;cases F
   ·rw [if_neg et] at m;rw [if_neg et'] at F
    exact h.ne t t' q q' b1 b1' m F P A hb1'
 ·have m:(if t=d then none else S.pd t)=some q:=m
  by_cases et:t=d
  ·rw [if_pos et] at m;cases m
  ·rw [if_neg et] at m
   exact L.p t q b1 m A
end
section
variable {P:Program}{TB:BA}{ops:Array Oper}{Z:Ctx}{N:Nat}
def Ul(TB:BA)(Z:Ctx)(N:Nat)(K:BK->Prop)(Q:Exit->Act->World->Prop):Prop:=∀V S a,IB TB Z N V S a->K S->Q .normal a V.w
theorem NU{i m:Nat}{o:Oper}(n:ops[i]? = some o)(k:∀t,o.dst=some t->t < N){K:BK->Prop}{K':Act->World->Prop}{Q:Exit->Act->World->Prop}
 (l:∀V S a,IB TB Z N V S a->K S->K' a V.w) {V:View} {S:BK} {a:Act} (b:IB TB Z N V S a) (h:Zp P TB ops m o K S):wpOp P ops Q i K' a V.w:=by
 have d:∀t e,S.f t=some e->t < a.tmps.size:=λt e p=>by rw [b.st.size];exact b.st.lt t e p
 obtain⟨Q0,j⟩:=b.sc
 have c:Good TB V S.σ S.nx Q0:=⟨b.st.inv.iLt,b.st.inv.st,b.st.inv.tabs,b.st.nx,j.s⟩
 unfold wpOp;simp only [n]
 rcases h with ⟨g,hk⟩|⟨g,hk⟩
 ·rw [GZ b.st.env d g]
  have q:IB TB Z N V (S.put o.dst (.t [])) (a.put o.dst undef):=b.put (σ':=S.σ) k (Ext.refl _) j c.inv b.st.nx (Lf V)
  simpa using l _ _ _ q hk
 ·rw [GZ b.st.env d g]
  simp only [if_true];refine .inl (Ub P (Oper.wp_mono ?_ (hk (GB V V S.σ Q0) V a (b.st.env.op o) c.inv b.st.nx)));rintro a' w' ⟨V',v,x,σ',rfl,rfl,z,y,u,r⟩;exact l V' _ _ (b.put k z j y rfl u) r.2
theorem WB{d:Option Tmp}{ty:TypeId}{pos:String}{af:Array Edge}{g:Option (Nat×Bool)}{U:Operand->Value}{T:TypeId}{z:List Value}(c:WU P T=some z):∃zv:Value,zv.cells.toList=z/\∀w:World,(execOp U ⟨d,.alloc T,ty,pos,af,g⟩).run P w=.ok (.value (.pointer (some ⟨w.heap.size,0,none⟩))) (w.alloc (.cells zv.cells T)):=by
 obtain⟨i,zv,hi,b,a⟩:=Hx c;exact⟨zv,a,λw=>by simp [execOp,Instr.alloc,zeroValue,typeInfo,hi,b,newVar,newRow,go_sem]⟩
theorem MC{i c:Nat}{o:Oper}(l:ops[i]? = some o)(n:∀t,o.dst=some t->t < N){K:BK->Prop}{K':Act->World->Prop}{Q:Exit->Act->World->Prop}
 (p:∀V S a,IB TB Z N V S a->K S->K' a V.w) {V:View} {S:BK} {a:Act} (j:IB TB Z N V S a) (h:St P TB ops c o K S):wpOp P ops Q i K' a V.w:=by
 unfold St at h;by_cases I:c=1
 ·rw [if_pos I] at h;exact NU l n p j h
 ·rw [if_neg I] at h
  by_cases ck:1000<=c
  ·rw [if_pos ck] at h;exact NU l n p j h
  rw [if_neg ck] at h;by_cases H:c=5
  ·rw [if_pos H] at h
   obtain⟨d,T,z,_,r,y⟩:=h
   have A:d < N:=by
    obtain⟨_,b,hb,_⟩:=j.pd d T z r;have:=(jq.1 hb).1;rw [j.st.size] at this;exact this
   obtain⟨V',Y,k⟩:=j.dZ A r;have:=NU (Q:=Q) l n p k y;rwa [Y] at this
  ·rw [if_neg H] at h
   obtain⟨u,L,hk⟩:=h
   rcases L with ⟨F,s,rfl⟩|⟨F,s,x,f,rfl⟩|⟨F,s,d,T,z,f,B,X,R,M,rfl⟩
   ·exact NU (m:=0) l n p j (.inl ⟨s,hk⟩)
   ·refine NU (m:=0) l n p j (.inr ⟨s,λZ=>A8.gi P TB Z ?_ ⟨λ_ _=>rfl,hk⟩⟩)
    unfold QC at f;by_cases e:c=2
    ·rw [if_pos e] at f;exact f Z S.σ S.nx
    ·rw [if_neg e] at f
     by_cases G:c=0
     ·rw [if_pos G] at f;exact f Z
     ·rw [if_neg G] at f;exact f.2 Z S.σ S.nx rfl
   ·unfold wpOp
    simp only [l]
    have J:Region.wanted o (yielded ops a.tmps)=true:=by unfold Region.wanted;rw [s]
    rw [J];simp only [if_true];refine .inl ?_;obtain⟨dst,op,ty,pos,af,g⟩:=o;simp only at f B;subst f B;obtain⟨zv,v,q⟩:=WB (P:=P) (d:=some d) (ty:=ty) (pos:=pos) (af:=af) (g:=g) (U:=a.eval) X;unfold Oper.wp;rw [q];have k:=j.alloc (T:=T) (zv:=zv) (n d rfl) M v R;exact p _ _ _ k hk
theorem Sp{ops:Array Oper}(u:Gd N ops=true){K:BK->Prop}{Q:Exit->Act->World->Prop}(v:Ul TB Z N K Q):∀(n:Nat) (r:List (Nat×Nat)) (listed:Array Bool) (V:View) (S:BK) (a:Act),
 r.length=n->E4 ops listed->Bc ops r listed=true->Du ops r=true->IB TB Z N V S a->Lex P TB ops r K S->wpAny P .any ops Q n listed a V.w
 | 0,r,listed,V,S,a,f,s,b,hk,m,h=>by
  have:r=[]:=i8.1 f;subst this;refine⟨?_,v V S a m h⟩
  simpa [Bc] using b
 | n + 1,r,listed,V,S,a,f,s,b,hk,m,h=>by
  refine⟨λe=>?_,λj q=>?_⟩
  ·cases r with
   | nil=>simp at f
   | cons x r=>
    obtain⟨i,c⟩:=x;simp only [Bc,d4] at b;have:=b.1;rw [e] at this;simp at this
  ·obtain⟨k,c,g,o,rfl,d,y⟩:=EL K r listed S s b hk h j q
   refine MC d (λt ht=>SO u d ht) (λV' S' a' l p=>?_) m y;exact Sp u v n (k++g) _ V' S' a' (by simp at f |-;omega) (He s q) (NA k g j c listed b q) (JS k g _ hk) l p
variable {i c:Nat}{r:List (Nat×Nat)}{L:List (Nat×E)}{σ:Ab}{nx:Nat}{pl:List (Nat×(TypeId×List Value))}{K:BK->Prop}{Q:Exit->Env->Ab->Nat->Prop}
def Gu(P:Program)(TB:BA)(ops:Array Oper)(r:List (Nat×Nat))(K:BK->Prop)(L:List (Nat×E))(σ:Ab)(nx:Nat)(pl:List (Nat×(TypeId×List Value))):Prop:=Lex P TB ops r K ⟨look L,σ,nx,look pl⟩
theorem RI{id:Nat}(r:List (Nat×Nat))(p:P.follows .mixedOrders=true)(s:Gd N ops=true)(o:r.length=ops.size)(i:(Bc ops r (Array.replicate ops.size false) && Du ops r)=true)
 (h:Gu P TB ops r (λS=>Q .normal S.f S.σ S.nx) L σ nx []):Ai P TB Z N (.region id ops true) Q (look L) σ nx:=by
 intro V a c;rw [d4] at i;refine wp_region_any p ?_;obtain⟨k,t⟩:=c.inv.drew
 have g:Cg TB Z N { V with w:={ V.w with drawn:=V.w.drawn+1 } } (look L) σ V.nx a:=⟨c.env.ext t,c.lt,c.size,k,rfl,c.defers⟩
 have j:=c.nx;subst j;exact Sp s (λV S a c hk=>⟨V,S.f,S.σ,rfl,by rw [c.st.nx];exact hk,by rw [c.st.nx];exact c.st⟩) ops.size r _ { V with w:={ V.w with drawn:=V.w.drawn+1 } } _ a o (Lo ops) i.1 i.2 ⟨g,λd T z e=>(by cases e),λd d' q q' b b' e=>(by cases e),let ⟨Q0,n,m,l⟩:=k.hid;⟨Q0,n,m,l,λd q b e=>(by cases e)⟩⟩ h
theorem Aa{K:BK->Prop}(h:K ⟨look L,σ,nx,look pl⟩):Gu P TB ops [] K L σ nx pl:=h
theorem Ro(h:Q .normal (look L) σ nx):Gu P TB ops [] (λS=>Q .normal S.f S.σ S.nx) L σ nx pl:=h
def DN(d:Nat):List (Nat×(TypeId×List Value))->List (Nat×(TypeId×List Value))
 | []=>[]
 | (k,x)::r=>bif Nat.beq k d then DN d r else (k,x)::DN d r
theorem Hi:∀(pl:List (Nat×(TypeId×List Value))) (d t:Nat),look (DN d pl) t=if t=d then none else look pl t
 | [],d,t=>by simp [DN,look]
 | (k, x)::r,d,t=>by
  simp only [DN];by_cases h:k=d
  ·subst h
   simp only [l3,cond_true];rw [Hi r k t,AA];by_cases a:t=k
   ·simp [a]
   ·rw [if_neg a,if_neg a,if_neg (Ne.symm a)]
  ·have:Nat.beq k d=false:=by
    cases hb:Nat.beq k d
    ·rfl
    ·exact absurd (f9 hb) h
   rw [this,cond_false,AA,AA,Hi r d t];by_cases a:t=d
   ·subst a;simp [h]
   ·simp [a]
theorem JY{d:Tmp}{x:E}{σ':Ab}{nx':Nat}:BK.put ⟨look L,σ',nx',look pl⟩ (some d) x=⟨look ((d,x)::L),σ',nx',look (DN d pl)⟩:=by
 unfold BK.put;rw [DM];congr 1;funext t;rw [Hi];by_cases h:t=d
 ·subst h;simp
 ·simp [h,Ne.symm h]
theorem RB{x:E}{σ':Ab}{nx':Nat}:BK.put ⟨look L,σ',nx',look pl⟩ none x=⟨look L,σ',nx',look pl⟩:=by
 unfold BK.put;congr 1
def Br(P:Program)(TB:BA)(ops:Array Oper)(o:Oper)(i c:Nat)(r:List (Nat×Nat))(K:BK->Prop)(L:List (Nat×E))(σ:Ab)(nx:Nat)(pl:List (Nat×(TypeId×List Value))):Prop:=
 ops[i]? = some o->Gu P TB ops ((i,c)::r) K L σ nx pl
theorem Av{o:Oper}(a:Ny ops.toList i=some o)(h:Br P TB ops o i c r K L σ nx pl):Gu P TB ops ((i,c)::r) K L σ nx pl:=h (by rw [Nz] at a;simpa using a)
variable {d:Tmp}{op:Op}{ty:TypeId}{pos:String}{af:Array Edge}{g:Option (Nat×Bool)}
theorem C8{x:E}(b:∀Z σ nx,A8 P TB Z ⟨some d,op,ty,pos,af,g⟩ (look L) σ nx x)(j:Bo ops ⟨some d,op,ty,pos,af,g⟩ (look L)=some true)(e:(Nat.beq c 0 || Nat.beq c 2)=true)(h:Gu P TB ops r K ((d,x)::L) σ nx (DN d pl)):Br P TB ops ⟨some d,op,ty,pos,af,g⟩ i c r K L σ nx pl:=by
 intro f;refine⟨_,f,?_⟩;unfold St
 have a:c=0\/c=2:=by
  simp only [jh,Nat.beq_eq] at e;exact e
 rw [if_neg (by omega),if_neg (by omega),if_neg (by omega)];refine⟨λS=>S.put (some d) x,.inr (.inl ⟨by omega,j,x,?_,rfl⟩),?_⟩
 ·unfold QC
  rcases a with a|a
  ·rw [if_neg (by omega),if_pos a];exact λZ=>b Z σ nx
  ·rw [if_pos a];exact b
 ·simp only
  rw [JY];exact h
theorem ax{x:E}(a:∀Z,A8 P TB Z ⟨some d,op,ty,pos,af,g⟩ (look L) σ nx x)(e:Bo ops ⟨some d,op,ty,pos,af,g⟩ (look L)=some true)(f:Nat.beq c 0=true)(h:Gu P TB ops r K ((d,x)::L) σ nx (DN d pl)):Br P TB ops ⟨some d,op,ty,pos,af,g⟩ i c r K L σ nx pl:=by
 intro b;refine⟨_,b,?_⟩;unfold St
 have j:c=0:=by simpa using f
 rw [if_neg (by omega),if_neg (by omega),if_neg (by omega)];refine⟨λS=>S.put (some d) x,.inr (.inl ⟨by omega,e,x,?_,rfl⟩),?_⟩
 ·unfold QC;rw [if_neg (by omega),if_pos j];exact a
 ·simp only
  rw [JY];exact h
theorem CY(h:∀Z,Cq P TB Z ⟨some d,op,ty,pos,af,g⟩ (look L) σ nx (λx σ' nx'=>Kept (c - 1000) σ σ'/\Gu P TB ops r K ((d,x)::L) σ' nx' (DN d pl)))(j:Bo ops ⟨some d,op,ty,pos,af,g⟩ (look L)=some true)(a:Nat.ble 1000 c=true):Br P TB ops ⟨some d,op,ty,pos,af,g⟩ i c r K L σ nx pl:=by
 intro b;refine⟨_,b,?_⟩;unfold St;have a:=ce a;rw [if_neg (by omega),if_pos a]
 exact .inr ⟨j,λZ=>(h Z).mono λx σ' nx' hk=>by
  refine⟨hk.1,?_⟩;have e:BK.put ⟨(⟨look L,σ,nx,look pl⟩:BK).f,σ',nx',(⟨look L,σ,nx,look pl⟩:BK).pd⟩ (some d) x=_:=JY
  rw [e];exact hk.2⟩
theorem Mf(h:∀Z,Cq P TB Z ⟨some d,op,ty,pos,af,g⟩ (look L) σ nx (λx σ' nx'=>Gu P TB ops r K ((d,x)::L) σ' nx' (DN d pl)))(j:Bo ops ⟨some d,op,ty,pos,af,g⟩ (look L)=some true)(k:c=1):Br P TB ops ⟨some d,op,ty,pos,af,g⟩ i c r K L σ nx pl:=by
 intro b;refine⟨_,b,?_⟩;unfold St;rw [if_pos k]
 exact .inr ⟨j,λZ=>(h Z).mono λx σ' nx' hk=>by
  refine⟨λid a=>by simp at a,?_⟩;have e:BK.put ⟨(⟨look L,σ,nx,look pl⟩:BK).f,σ',nx',(⟨look L,σ,nx,look pl⟩:BK).pd⟩ (some d) x=_:=JY
  rw [e];exact hk⟩
theorem NB(h:∀Z,Cq P TB Z ⟨none,op,ty,pos,af,g⟩ (look L) σ nx (λ_ σ' nx'=>Gu P TB ops r K L σ' nx' pl))(d:Bo ops ⟨none,op,ty,pos,af,g⟩ (look L)=some true)(j:c=1):Br P TB ops ⟨none,op,ty,pos,af,g⟩ i c r K L σ nx pl:=by
 intro b;refine⟨_,b,?_⟩;unfold St;rw [if_pos j]
 exact .inr ⟨d,λZ=>(h Z).mono λx σ' nx' hk=>by
  refine⟨λid a=>by simp at a,?_⟩;have e:BK.put ⟨(⟨look L,σ,nx,look pl⟩:BK).f,σ',nx',(⟨look L,σ,nx,look pl⟩:BK).pd⟩ none x=_:=RB
  rw [e];exact hk⟩
theorem gz{T:TypeId}{z:List Value}[b:BJ P T z](a:z.all Od=true)(g:look L d=none)(j:c=3)(h:Gu P TB ops r K L σ nx ((d,(T,z))::pl)):Br P TB ops ⟨some d,.alloc T,ty,pos,af,none⟩ i c r K L σ nx pl:=by
 intro f;refine⟨_,f,?_⟩;unfold St;rw [if_neg (by omega),if_neg (by omega),if_neg (by omega)];refine⟨λS=>S.GN d (T,z),.inr (.inr ⟨j,rfl,d,T,z,rfl,rfl,b.out,a,g,rfl⟩),?_⟩
 have e:BK.GN ⟨look L,σ,nx,look pl⟩ d (T,z)=⟨look L,σ,nx,look ((d,(T,z))::pl)⟩:=by
  unfold BK.GN;congr 1;funext t;rw [AA];by_cases h:t=d
  ·subst h;simp
  ·simp [h,Ne.symm h]
 simp only;rw [e];exact h
theorem gy{t : Tmp}{T:TypeId}{z:List Value}(j:look pl t=some (T,z))(ht:(op.operands.any λx=>match x with|.tmp t'=>Nat.beq t' t|_=>false)=true)(m:Bo ops ⟨none,op,ty,pos,af,g⟩ (look ((t,.o (.ptr nx z.length 0 0))::L))=some true)(n:c=5)
    (h:∀Z,Cq P TB Z ⟨none,op,ty,pos,af,g⟩ (look ((t,.o (.ptr nx z.length 0 0))::L)) ((nx,.cells T z.length [z.map zC])::σ) (nx+1) (λ_ σ' nx'=>Gu P TB ops r K ((t,.o (.ptr nx z.length 0 0))::L) σ' nx' (DN t pl))):Br P TB ops ⟨none,op,ty,pos,af,g⟩ i c r K L σ nx pl:=by
  intro k;refine⟨_,k,?_⟩;unfold St;rw [if_neg (by omega),if_neg (by omega),if_pos n]
  have e:BK.ad ⟨look L,σ,nx,look pl⟩ t T z=⟨look ((t,.o (.ptr nx z.length 0 0))::L),(nx,.cells T z.length [z.map zC])::σ,nx+1,look (DN t pl)⟩:=by
    unfold BK.ad;rw [DM];congr 1;funext t';rw [Hi]
  have l : .tmp t∈op.operands:=by
    obtain⟨i,hi,b⟩:=lP.1 ht;have d:=ml hi;generalize op.operands[i]=x at *
    cases x with
    | tmp t' => have:t'=t:=by simpa using b
                rw [<-this];exact d
    | _=>cases b
  refine⟨t,T,z,l,j,?_⟩;rw [e]
  exact .inr ⟨m,λZ=>(h Z).mono λx σ' nx' hk=>by
    refine⟨λid a=>by simp at a,?_⟩;have p:BK.put ⟨(⟨look ((t,.o (.ptr nx z.length 0 0))::L),(nx,.cells T z.length [z.map zC])::σ,nx+1,look (DN t pl)⟩:BK).f,σ',nx',(⟨look ((t,.o (.ptr nx z.length 0 0))::L),(nx,.cells T z.length [z.map zC])::σ,nx+1,look (DN t pl)⟩:BK).pd⟩ none x=_:=RB
    rw [p];exact hk⟩
theorem eY{t:Tmp}{ts:TypeId}{y:Operand}{T:TypeId}{z:List Value}(a:look pl t=some (T,z))(b:Bo ops ⟨none,.store ts (.tmp t) y,ty,pos,af,g⟩ (look ((t,.o (.ptr nx z.length 0 0))::L))=some true)(d:c=5)
 (h:∀Z,Cq P TB Z ⟨none,.store ts (.tmp t) y,ty,pos,af,g⟩ (look ((t,.o (.ptr nx z.length 0 0))::L)) ((nx,.cells T z.length [z.map zC])::σ) (nx+1) (λ_ σ' nx'=>Gu P TB ops r K ((t,.o (.ptr nx z.length 0 0))::L) σ' nx' (DN t pl))):Br P TB ops ⟨none,.store ts (.tmp t) y,ty,pos,af,g⟩ i c r K L σ nx pl:=
 gy a (by simp [Op.operands]) b d h
theorem VY{a:Bool}(e:∀Z σ nx,A8 P TB Z ⟨some d,op,ty,pos,af,g⟩ (look L) σ nx (eB a))(f:Bo ops ⟨some d,op,ty,pos,af,g⟩ (look L)=some true)(j:(Nat.beq c 0 || Nat.beq c 2)=true)(h:∀b,a=b->Gu P TB ops r K ((d,eB b)::L) σ nx (DN d pl)):Br P TB ops ⟨some d,op,ty,pos,af,g⟩ i c r K L σ nx pl:=C8 e f j (h a rfl)
end
section
variable {P:Program}{TB:BA}{ops:Array Oper}{i c:Nat}{r:List (Nat×Nat)}{L:List (Nat×E)}{σ:Ab}{nx:Nat}{pl:List (Nat×(TypeId×List Value))}{K:BK->Prop}{d:Option Tmp}{ty:TypeId}{pos:String}{af:Array Edge}{g:Option (Nat×Bool)}
end
section
variable {P:Program}{TB:BA}{ops:Array Oper}{i c:Nat}{r:List (Nat×Nat)}{L:List (Nat×E)}{σ:Ab}{nx:Nat}{pl:List (Nat×(TypeId×List Value))}{K:BK->Prop}{d:Tmp}{ty:TypeId}{pos:String}{af:Array Edge}{g:Option (Nat×Bool)}{op:Op}
theorem yQ{md:Bool}[f:CB P]{q:Prop}{x:E}(b:Bo ops ⟨some d,op,ty,pos,af,g⟩ (look L)=some true)(e:(Nat.beq c 0 || Nat.beq c 2)=true)(h:YK f.T md (look L) op=some (q,x))(a:q)(hk:Gu P TB ops r K ((d,x)::L) σ nx (DN d pl)):Br P TB ops ⟨some d,op,ty,pos,af,g⟩ i c r K L σ nx pl:=
 C8 (λ_ _ _=>UY h a) b e hk
theorem yB[j:CB P]{a:Bool}(e:Bo ops ⟨some d,op,ty,pos,af,g⟩ (look L)=some true)(f:(Nat.beq c 0 || Nat.beq c 2)=true)(h:RG j.T (look L) op=some a)(hk:∀b,a=b->Gu P TB ops r K ((d,eB b)::L) σ nx (DN d pl)):Br P TB ops ⟨some d,op,ty,pos,af,g⟩ i c r K L σ nx pl:=
 VY (λ_ _ _=>RH h) e f hk
theorem yS[e:CB P]{x:E}(a:Bo ops ⟨some d,op,ty,pos,af,g⟩ (look L)=some true)(b:Nat.beq c 0=true)(h:LI e.T σ (look L) op=some x)(hk:Gu P TB ops r K ((d,x)::L) σ nx (DN d pl)):Br P TB ops ⟨some d,op,ty,pos,af,g⟩ i c r K L σ nx pl:=
 ax (λ_=>NH h) a b hk
theorem yW[d:CB P]{t:TypeId}{x y:Operand}{σ':Ab}(a:Bo ops ⟨none,.store t x y,ty,pos,af,g⟩ (look L)=some true)(b:c=1)(h:OX d.T σ (look L) t x y=some σ')(hk:Gu P TB ops r K L σ' nx pl):Br P TB ops ⟨none,.store t x y,ty,pos,af,g⟩ i c r K L σ nx pl:=
 NB (λ_=>NI h hk) a b
theorem yA[e:CB P]{t:Tmp}{ts:TypeId}{y:Operand}{T:TypeId}{z:List Value}{σ':Ab}(a:look pl t=some (T,z))(b:Bo ops ⟨none,.store ts (.tmp t) y,ty,pos,af,g⟩ (look ((t,.o (.ptr nx z.length 0 0))::L))=some true)(d:c=5)
 (h:OX e.T ((nx,.cells T z.length [z.map zC])::σ) (look ((t,.o (.ptr nx z.length 0 0))::L)) ts (.tmp t) y=some σ') (hk:Gu P TB ops r K ((t,.o (.ptr nx z.length 0 0))::L) σ' (nx+1) (DN t pl)):Br P TB ops ⟨none,.store ts (.tmp t) y,ty,pos,af,g⟩ i c r K L σ nx pl:=
 eY a b d λ_=>NI h hk
theorem yP[b:CB P]{T:TypeId}{z:List Value}(e:(IF b.T T).ze=some z)(a:z.all Od=true)(f:look L d=none)(g:c=3)(h:Gu P TB ops r K L σ nx ((d,(T,z))::pl)):Br P TB ops ⟨some d,.alloc T,ty,pos,af,none⟩ i c r K L σ nx pl:=
 haveI:=(Dr (P:=P) T b.ok).XE e
 gz a f g h
end
end Go.Am.R
namespace Go.Am
open Go
def eJ:Option TypeDesc->Bool
 | some (.func ..)=>true
 | _=>false
class gV (P:Program) (t:TypeId):Prop where
 out:eJ (P.underlying t)=true
section
variable {P:Program}{TB:BA}{Z:Ctx}{d:Option Tmp}{ty:TypeId}{pos:String}{af:Array Edge}{g:Option (Nat×Bool)}{f:Env}{σ:Ab}{nx:Nat}
end
def Nh(L:List (Nat×E)):List Nat->Option (List (Nat×E))
 | []=>some []
 | k::r=>match look L k,Nh L r with
  | some e,some l=>some ((k,e)::l)
  | _,_=>none
def UE(σ:Ab):List Nat->Option Ab
 | []=>some []
 | k::r=>match look σ k,UE σ r with
  | some e,some l=>some ((k,e)::l)
  | _,_=>none
section
variable {P:Program}{TB:BA}{Z:Ctx}{N:Nat}
theorem Ai.eQ{c:Code}{Q:Exit->Env->Ab->Nat->Prop}{L0 Lk:List (Nat×E)}{σ Sk:Ab}{nx:Nat}{α:Type}(ks is:List Nat)(hk:Nh L0 ks=some Lk)(hi:UE σ is=some Sk)(v:α->List (Nat×E))(s:α->Ab)(n:Nat)(μ:α->Nat)
 (x:α) (a:List Nat) (b:(∀i,i < Z.V.nx->a[i]? = some i)/\a.Nodup/\a.length=n) (d:Dl (nm a nx) (look L0) (v x++Lk)/\A2 (nm a nx) σ (s x++Sk))
 (round:∀x,Ai P TB Z N c (Kp (λf σ nx=>∃y,μ y < μ x/\∃l:List Nat,(∀i,i < Z.V.nx->l[i]? = some i)/\l.Nodup/\l.length=n/\Dl (nm l nx) f (v y++Lk)/\A2 (nm l nx) σ (s y++Sk)) Q) (look (v x++Lk)) (s x++Sk) n) :
 Ai P TB Z N (.loop c) Q (look L0) σ nx:=Ai.A7 (λx=>v x++Lk) (λx=>s x++Sk) n μ x a b d round
theorem aL{c:Code}{Q:Exit->Env->Ab->Nat->Prop}{L0 Lk:List (Nat×E)}{σ Sk:Ab}{nx:Nat}{α:Type}(ks is:List Nat)(hk:Nh L0 ks=some Lk)(hi:UE σ is=some Sk)(v:α->List (Nat×E))(s:α->Ab)(n:Nat)(μ:α->Nat)
 (x:α) {m:Nat} (a:Z.V.nx=m) (b:Nat.ble m n=true) (d:Dl (nm (List.range n) nx) (look L0) (v x++Lk)/\A2 (nm (List.range n) nx) σ (s x++Sk))
 (round:∀x,Ai P TB Z N c (Kp (λf σ nx=>∃y,μ y < μ x/\∃l:List Nat,(∀i,i < Z.V.nx->l[i]? = some i)/\l.Nodup/\l.length=n/\Dl (nm l nx) f (v y++Lk)/\A2 (nm l nx) σ (s y++Sk)) Q) (look (v x++Lk)) (s x++Sk) n) :
 Ai P TB Z N (.loop c) Q (look L0) σ nx:=Ai.eQ ks is hk hi v s n μ x (List.range n) (rg a b) d round
end
inductive FZ (σ:Ab):C->D->Prop
 | d {x:D}:FZ σ (.d x) x
 | fn {g:FuncId}:FZ σ (.fn g []) (.v (.func (.func g) #[] #[]))
 | arr {id k off len:Nat} {T:TypeId} {rows:List (List C)} {ds:List (List D)} {rs:Nat->List C} {cs:Nat->Nat->C}:look σ id=some (.cells T k rows)->off+len<=rows.length->ds.length=len->
  (∀i r',ds[i]? = some r'->rows[off+i]? = some (rs i)/\(rs i).length=r'.length)->(∀i j r' x,ds[i]? = some r'->r'[j]? = some x->(rs i)[j]? = some (cs i j))->
  (∀i j r' x,ds[i]? = some r'->r'[j]? = some x->FZ σ (cs i j) x)->FZ σ (.arr id k off len) (.l ds)
 | ptr {id k i j:Nat} {T:TypeId} {rows:List (List C)} {r:List C} {ds:List D} {cs:Nat->C}:look σ id=some (.cells T k rows)->rows[i]? = some r->(∀q x,ds[q]? = some x->r[j+q]? = some (cs q))->(∀q x,ds[q]? = some x->FZ σ (cs q) x)->FZ σ (.ptr id k i j) (.p ds)
 | sld {id:Nat} {T:TypeId} {l:List (Value×List Value)} {v:Value} {row:List Value}:look σ id=some (.sld T l)->(v,row)∈l->FZ σ (.d (.v v)) (.l (row.map λx=>[.v x]))
 | nl {b:Option Addr}:FZ σ (.d (.v (.slice b 0 0))) (.l [])
inductive Ef (σ:Ab):List C->List D->Prop
 | nil:Ef σ [] []
 | cons {c:C} {d:D} {cs:List C} {ds:List D}:FZ σ c d->Ef σ cs ds->Ef σ (c::cs) (d::ds)
theorem Ef.get{σ:Ab}{cs:List C}{ds:List D}(h:Ef σ cs ds):cs.length=ds.length/\∀(j:Nat) x,ds[j]? = some x->∃c,cs[j]? = some c/\FZ σ c x:=by
 induction h with
 | nil=>exact⟨rfl,λj x h=>by simp at h⟩
 | @cons c d cs ds e _ b=>
  refine⟨by simp [b.1],λj x a=>?_⟩
  cases j with
  | zero=>simp at a;subst a;exact⟨c,rfl,e⟩
  | succ j=>exact b.2 j x (by simpa using a)
theorem Ef.refl{σ:Ab}:∀(ds:List D),Ef σ (ds.map .d) ds
 | []=>.nil
 | d::ds=>.cons .d (Ef.refl ds)
theorem FZ.rows{σ:Ab}{id k len:Nat}{T:TypeId}{rows:List (List C)}{ds:List (List D)}(n:look σ id=some (.cells T k rows))(m:ds.length=len)(o:rows.length=len)(h:∀(i:Nat) (r':List D),ds[i]? = some r'->∃r,rows[i]? = some r/\Ef σ r r'):FZ σ (.arr id k 0 len) (.l ds):=by
 refine .arr (rs:=λi=>(rows[i]?).getD []) (cs:=λi j=>(((rows[i]?).getD [])[j]?).getD (.d (.l []))) n (by omega) m (λi r' hi=>?_) (λi j r' x hi e=>?_) (λi j r' x hi e=>?_)
 ·obtain⟨r,b,a⟩:=h i r' hi
  rw [jd,b];exact⟨rfl,a.get.1⟩
 ·obtain⟨r,b,a⟩:=h i r' hi
  obtain⟨c,f,g⟩:=a.get.2 j x e;simp [b,f]
 ·obtain⟨r,b,a⟩:=h i r' hi
  obtain⟨c,f,g⟩:=a.get.2 j x e;simp [b,f,g]
theorem FZ.full{σ:Ab}{id k len:Nat}{T:TypeId}{rows:List (List C)}{ds:List (List D)}(c:look σ id=some (.cells T k rows))(a:rows=ds.map (λr=>r.map .d))(b:rows.length=len):FZ σ (.arr id k 0 len) (.l ds):=by
 refine .rows c (by rw [<-b,a];simp) b λi r' hi=>⟨r'.map .d,?_,Ef.refl _⟩
 rw [a];simp [hi]
theorem FZ.box{σ:Ab}{id k:Nat}{T:TypeId}{r:List C}{ds:List D}(f:look σ id=some (.cells T k [r]))(h:Ef σ r ds):FZ σ (.ptr id k 0 0) (.p ds):=by
 refine .ptr (cs:=λq=>(r[q]?).getD (.d (.l []))) f rfl (λq x a=>?_) (λq x a=>?_)
 ·obtain⟨c,b,e⟩:=h.get.2 q x a
  rw [jd,b];rfl
 ·obtain⟨c,b,e⟩:=h.get.2 q x a
  simp [b,e]
inductive EZ (σ:Ab):E->E->Prop
 | AX {e:E}:e.FM=true->EZ σ e e
 | o {c:C} {d:D}:FZ σ c d->EZ σ (.o c) (.o (.d d))
 | a {cs:List C} {ds:List D}:Ef σ cs ds->EZ σ (.a cs) (.a (ds.map .d))
def W0(σ:Ab)(f:Env):List (Nat×E)->Prop
 | []=>True
 | (t,e')::L=>(∃e,f t=some e/\EZ σ e e')/\W0 σ f L
theorem W0.get{σ:Ab}{f:Env}:∀ {L:List (Nat×E)},W0 σ f L->∀t e',look L t=some e'->∃e,f t=some e/\EZ σ e e'
 | [],_,t,e,h=>by cases h
 | (k,x)::L,a,t,e,h=>by
  rw [AA] at h;by_cases hk:k=t
  ·rw [if_pos hk] at h;injection h with h;subst h;subst hk;exact a.1
  ·rw [if_neg hk] at h;exact W0.get a.2 t e h
def MI(V:View)(σ:Ab):View:={ V with I:=λb=>V.I b\/∃id o,look σ id=some o/\¬V.nl id/\EF V id o b }
theorem Mj{V:View}{σ:Ab}:Ext V (MI V σ):=⟨λ_ h=>.inl h,λ_ _=>rfl,iX _,λ_ _=>rfl,λ_ _=>rfl,λ_ _=>Iff.rfl,iX _⟩
section
variable {P:Program}{TB:BA}{Z:Ctx}{N:Nat}{σ:Ab}
theorem Jo.data{I:Nat->Prop}{w:World}{T:TypeId}{v:Value}{row:List Value}(h:Jo w T v row)(hI:∀b,IV v b->I b):CI I w (.l (row.map λx=>[.v x])) v:=by
 rcases h with ⟨rfl,rfl⟩|⟨b,cap,cur,rfl,p,q,o,n,g⟩
 ·exact .nil
 ·have m:row.length=(row.map λx=>[D.v x]).length:=by simp
  have f:∀(i:Nat) (r:List D) (j:Nat) (d:D),(row.map λx=>[D.v x])[i]? = some r->r[j]? = some d->j=0/\∃x,row[i]? = some x/\d=.v x:=λi r j d hi c=>by
   simp only [ge,d7] at hi;obtain⟨x,a,rfl⟩:=hi
   have e:j=0:=by have:=(am.1 c).1;simp at this;omega
   subst e;simp at c;exact⟨rfl,x,a,c.symm⟩
  rw [m];refine .l (k:=1) (vs:=λi _=>(row[i]?).getD undef) (hI b ⟨_,_,_,rfl⟩) (by simpa using o) n (λi r hi=>?_) (λi r j d hi c=>?_) (λi r j d hi c=>?_)
  ·simp only [ge,d7] at hi
   obtain⟨x,a,rfl⟩:=hi;rfl
  ·obtain⟨rfl,x,a,rfl⟩:=f i r j d hi c
   simp [World.cell?,p,a,(g i x a).1]
  ·obtain⟨rfl,x,a,rfl⟩:=f i r j d hi c
   simp only [a,lV];exact .v (g i x a).2
theorem FZ.rel{V:View}(hi:Inv TB Z V σ){c:C}{d:D}(h:FZ σ c d):∀ {v:Value},AL V c v->CI (MI V σ).I V.w d v:=by
 induction h with
 | d=>intro v t;cases t with|d h=>exact h.ext (V:=V) (V':=MI V σ) Mj
 | @sld id T l v row y M=>
  intro v' t;have J:v'=v:=AL.val t;subst J;have u:=hi.st.obj id _ y;exact(u.2.2 _ M).data λb hb=>.inr ⟨id,_,y,u.1,⟨_,M,hb⟩⟩
 | @nl b=>
  intro v' t;have J:v'=_:=AL.val t;subst J;cases b
  ·exact .nil
  ·exact .e (jF _)
 | fn =>
  intro v t
  cases t with
  | @fn f cap vs u _=>
   have:vs = #[]:=ko (by simpa using u);subst this;exact .v rfl
 | @arr id k off len T rows ds rs cs y R L u h2 _ H=>
  intro v t
  cases t with
  | nil Q P=>
   have:ds=[]:=i8.1 L;subst this;exact .nil
  | arr Q s P=>
   rcases hi.st.obj id _ y with ⟨z,_⟩|⟨_,cur,z,Y,X,S,N,A⟩
   ·exact absurd z s
   ·have a:∀(i:Nat) (r:List D) (j:Nat) (x:D),ds[i]? = some r->r[j]? = some x->∃v,cur[(off+i)*k+j]? = some v/\CI (MI V σ).I V.w x v:=λi r j x m F=>by
     obtain⟨v,g,n⟩:=A (off+i) (rs i) j (cs i j) (u i r m).1 (h2 i j r x m F);exact⟨v,g,H i j r x m F n⟩
    rw [<-L] at P |-;refine .l (b:=V.U id) (o:=off*k) (k:=k) (vs:=λi j=>cur.getD ((off+i)*k+j) undef) (.inr ⟨id,_,y,s,rfl⟩) (by omega) (by omega) (λi r m=>?_) (λi r j x m F=>?_) (λi r j x m F=>?_)
    ·have G:=u i r m
     rw [<-G.2];exact N _ (co G.1)
    ·obtain⟨v,g,_⟩:=a i r j x m F
     have e:off*k+i*k+j=(off+i)*k+j:=by rw [js]
     rw [e];simp [World.cell?,z,g]
    ·obtain⟨v,g,n⟩:=a i r j x m F
     have:cur.getD ((off+i)*k+j) undef=v:=by simp [g]
     simp only [this];exact n
 | @ptr id k i j T rows r ds cs y K u _ H=>
  intro v t
  cases t with
  | ptr Q s=>
   rcases hi.st.obj id _ y with ⟨z,_⟩|⟨_,cur,z,Y,X,S,N,A⟩
   ·exact absurd z s
   ·have a:∀(q:Nat) (x:D),ds[q]? = some x->∃v,cur[i*k+j+q]? = some v/\CI (MI V σ).I V.w x v:=λq x B=>by
     obtain⟨v,g,n⟩:=A i r (j+q) (cs q) K (u q x B);exact⟨v,by rw [jz];exact g,H q x B n⟩
    refine .p (b:=V.U id) (o:=i*k+j) (vs:=λq=>cur.getD (i*k+j+q) undef) (.inr ⟨id,_,y,s,rfl⟩) (λq x B=>?_) (λq x B=>?_)
    ·obtain⟨v,g,_⟩:=a q x B
     simp [World.cell?,z,g]
    ·obtain⟨v,g,n⟩:=a q x B
     have:cur.getD (i*k+j+q) undef=v:=by simp [g]
     simp only [this];exact n
theorem EZ.rel{V:View}(hi:Inv TB Z V σ){e e':E}(h:EZ σ e e'){v:Value}(b:Bq V e v):Bq (MI V σ) e' v:=by
 cases h with
 | AX=>exact b.ext Mj
 | o h=>exact AL.d (V:=MI V σ) (h.rel hi b)
 | @a cs ds h=>
  obtain⟨vs,rfl,m,l⟩:=b;refine⟨vs,rfl,by rw [m,h.get.1];simp,λj c v f b=>?_⟩;simp only [ge,d7] at f;obtain⟨x,g,rfl⟩:=f;obtain⟨c,k,i⟩:=h.get.2 j x g;exact AL.d (V:=MI V σ) (i.rel hi (l j c v k b))
theorem Ai.settle{c:Code}{Q:Exit->Env->Ab->Nat->Prop}{f:Env}{nx:Nat}(L:List (Nat×E))(k:W0 σ f L)(h:Ai P TB Z N c Q (look L) [] nx):Ai P TB Z N c Q f σ nx:=by
 intro V a d;refine h (MI V σ) a ⟨λt x e=>?_,λt x e=>?_,d.size,?_,d.nx,d.defers⟩
 ·obtain⟨y,j,n⟩:=k.get t x e
  exact n.rel d.inv (d.env t y j)
 ·obtain⟨y,j,_⟩:=k.get t x e
  exact d.lt t y j
 ·have hi:=d.inv
  refine⟨hi.os,hi.tape,hi.output,hi.old,?_,?_,hi.ext.trans Mj,Ht,λid o l=>(by cases l),λx e=>⟨.inl (hi.tabs x e).1,(hi.tabs x e).2⟩,hi.hid.same rfl (λ_ h=>.inl h) (λb hb=>hb.elim .inl λ⟨id,o,i,g,m⟩=>.inr ⟨id,o,i,g,m⟩) λb ⟨_,_,h,_⟩=>by cases h⟩
  ·rintro b (hb|⟨id,o,i,g,hb⟩)
   ·exact hi.iLt b hb
   ·exact(hi.st.obj id o i).blt g hb
  ·rintro b (hb|⟨id,o,i,g,hb⟩)
   ·exact hi.iNew b hb
   ·exact .inr (hi.live id o i g b hb)
theorem OK{ids:List Nat}{L0:List (Nat×E)}:∀ {ks:List Nat} {Lk:List (Nat×E)},Nh L0 ks=some Lk->Ej σ ids (look L0) Lk
 | [],Lk,h=>by injection h with h;subst h;trivial
 | k :: ks,Lk,h=>by
  unfold Nh at h;split at h
  ·rename_i e l b a
   injection h with h
   subst h;exact⟨⟨e,b,.AX⟩,OK a⟩
  ·cases h
theorem Ej.app{ids:List Nat}{f:Env}:∀ {L M:List (Nat×E)},Ej σ ids f L->Ej σ ids f M->Ej σ ids f (L++M)
 | [],_,_,h=>h
 | _::_,_,h,a=>⟨h.1,Ej.app h.2 a⟩
theorem Ai.ZJ{c:Code}{Q:Exit->Env->Ab->Nat->Prop}{L0 Lk:List (Nat×E)}{nx:Nat}(ids ks:List Nat)(hk:Nh L0 ks=some Lk)(L:List (Nat×E))(a:Ej σ ids (look L0) L)(h:Ai P TB Z N c Q (look (L++Lk)) (Cu ids σ) nx):Ai P TB Z N c Q (look L0) σ nx:=
 Ai.freeze ids (L++Lk) (a.app (OK hk)) h
section
variable {d:Option Tmp}{ty:TypeId}{pos:String}{af:Array Edge}{g:Option (Nat×Bool)}{f:Env}{nx:Nat}
theorem EA{t:TypeId}{x lo:Operand}{s:List UInt8}{m:Int}{k:IntKind}[ht:EP P t](a:ev f x=some (eT s))(b:ev f lo=some (eI k m))(e:0<=m)(c:m<=s.length):A8 P TB Z ⟨d,.slice t x (some lo) none none,ty,pos,af,g⟩ f σ nx (eT (s.drop m.toNat)):=by
 have h:=PY (P:=P) (TB:=TB) (Z:=Z) (d:=d) (ty:=ty) (pos:=pos) (af:=af) (g:=g) (σ:=σ) (nx:=nx) (t:=t) (x:=x) (lo:=some lo) (hi:=none) (l:=some (k,m)) (h:=none) a (by simp [ZC,b]) rfl e c (mB _)
 simpa [Lu,Lz] using h
theorem UT{t:TypeId}{x hi:Operand}{s:List UInt8}{m:Int}{k:IntKind}[ht:EP P t](a:ev f x=some (eT s))(b:ev f hi=some (eI k m))(e:0<=m)(c:m<=s.length):A8 P TB Z ⟨d,.slice t x none (some hi) none,ty,pos,af,g⟩ f σ nx (eT (s.take m.toNat)):=by
 have h:=PY (P:=P) (TB:=TB) (Z:=Z) (d:=d) (ty:=ty) (pos:=pos) (af:=af) (g:=g) (σ:=σ) (nx:=nx) (t:=t) (x:=x) (lo:=none) (hi:=some hi) (l:=none) (h:=some (k,m)) a rfl (by simp [ZC,b]) (mB _) e c
 simpa [Lu,Lz] using h
theorem MA{t e:TypeId}{b n:Nat}{x hi:Operand}{rows:List (List D)}{m:Int}{k:IntKind}[c:Cs P t e n b](a:ev f x=some (.o (.d (.l rows))))(j:ev f hi=some (eI k m))(i:∀r∈rows,r.length=n)(q:0<=m)(p:m<=rows.length):A8 P TB Z ⟨d,.slice t x none (some hi) none,ty,pos,af,g⟩ f σ nx (.o (.d (.l (rows.take m.toNat)))):=by
 have h:=aG (P:=P) (TB:=TB) (Z:=Z) (d:=d) (ty:=ty) (pos:=pos) (af:=af) (g:=g) (σ:=σ) (nx:=nx) (t:=t) (x:=x) (lo:=none) (hi:=some hi) (l:=none) (h:=some (k,m)) a rfl (by simp [ZC,j]) i (mB _) q p
 simpa [Lu,Lz] using h
end
end
end Go.Am
