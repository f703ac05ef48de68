/-
  Regions that draw, with new variables in any order: a variable that is laid and not yet written is 'pending'.
-/
import Derived.Test.YtdipaikojjjebaaGreatDoorPart11
set_option linter.all false
namespace Go.Am.R
open Go
structure BU where
 f:Env
 σ:Ac
 nx:Nat
 pd:Nat->Option (TypeId×List Value)
def BU.put(S:BU)(d:Option Tmp)(x:E):BU:=⟨BQ S.f d x,S.σ,S.nx,λt=>if d=some t then none else S.pd t⟩
def BU.Ia(S:BU)(d:Tmp)(q:TypeId×List Value):BU:=⟨S.f,S.σ,S.nx,λt=>if t=d then some q else S.pd t⟩
def BU.ad(S:BU)(d:Tmp)(T:TypeId)(z:List Value):BU:=⟨BQ S.f (some d) (.o (.ptr S.nx z.length 0 0)),(S.nx,.cells T z.length [z.map zC])::S.σ,S.nx+1,λt=>if t=d then none else S.pd t⟩
theorem BU.put_comm(S:BU){d d':Option Tmp}{x y:E}(h:∀t,d=some t->d'≠some t):(S.put d x).put d' y=(S.put d' y).put d x:=by
 unfold BU.put;rw[Nb h];congr 1;funext t;simp only;split<;>split<;>rfl
theorem BU.VJ(S:BU){d':Option Tmp}{d:Tmp}{q:TypeId×List Value}{y:E}(h:d'≠some d):(S.put d' y).Ia d q=(S.Ia d q).put d' y:=by
 unfold BU.put BU.Ia;simp only[BU.mk.injEq,true_and];funext t;by_cases e:t=d
 ·subst e;simp[h]
 ·simp[e]
theorem BU.cx(S:BU){d d':Tmp}{q q':TypeId×List Value}(h:d≠d'):(S.Ia d q).Ia d' q'=(S.Ia d' q').Ia d q:=by
 unfold BU.Ia;simp only[BU.mk.injEq,true_and];funext t;by_cases e:t=d
 ·subst e;simp[h]
 ·simp[e]
theorem BU.kT(S:BU){d':Option Tmp}{d:Tmp}{T:TypeId}{z:List Value}{y:E}(h:d'≠some d):(S.put d' y).ad d T z=(S.ad d T z).put d' y:=by
 unfold BU.put BU.ad;simp only;rw[Nb (d:=d') (d':=some d) (λt ht e=>h (by rw[ht,e]))];congr 1;funext t;by_cases e:t=d
 ·subst e;simp
 ·simp[e]
theorem BU.iB(S:BU){d' d:Tmp}{T:TypeId}{z:List Value}{q:TypeId×List Value}(h:d'≠d):(S.Ia d' q).ad d T z=(S.ad d T z).Ia d' q:=by
 unfold BU.Ia BU.ad;simp only[BU.mk.injEq,true_and];funext t;by_cases e:t=d
 ·subst e;simp[Ne.symm h]
 ·simp[e]
section
variable (P:Program)(TB:BJ)(ops:Array Oper)
def QC(c:Nat)(o:Oper)(S:BU)(x:E):Prop:=
 if c=2 then ∀U σ nx,A5 P TB U o S.f σ nx x else if c=0 then ∀U,A5 P TB U o S.f S.σ S.nx x else 10<=c/\∀U σ nx,look σ (c-10)=look S.σ (c-10)->A5 P TB U o S.f σ nx x
def Mv(c:Nat)(o:Oper)(S:BU)(u:BU->BU):Prop:=
 (c≠3/\BB ops o S.f=some false/\u=λS=>S.put o.dst (.t []))\/
 (c≠3/\BB ops o S.f=some true/\∃x,QC P TB c o S x/\u=λS=>S.put o.dst x)\/
 (c=3/\o.guard=none/\∃d T z,o.dst=some d/\o.op=.alloc T/\dn P T=some z/\z.all QN=true/\S.f d=none/\u=λS=>S.Ia d (T,z))
def iv(m:Nat)(o:Oper)(K:BU->Prop)(S:BU):Prop:=
 (BB ops o S.f=some false/\K (S.put o.dst (.t [])))\/(BB ops o S.f=some true/\∀U,Ck P TB U o S.f S.σ S.nx (λx σ' nx'=>Kept m S.σ σ'/\K (BU.put ⟨S.f,σ',nx',S.pd⟩ o.dst x)))
def St(c:Nat)(o:Oper)(K:BU->Prop)(S:BU):Prop:=
 if c=1 then iv P TB ops 0 o K S else
 if 1000<=c then iv P TB ops (c-1000) o K S else
 if c=5 then ∃d T z,.tmp d∈o.op.operands/\S.pd d=some (T,z)/\iv P TB ops 0 o K (S.ad d T z) else
 ∃u,Mv P TB ops c o S u/\K (u S)
def Lex:List (Nat×Nat)->(BU->Prop)->BU->Prop
 | [],K,S=>K S
 | (i,c)::r,K,S=>∃o,ops[i]?=some o/\St P TB ops c o (Lex r K) S
end
section
variable {P:Program}{TB:BJ}{ops:Array Oper}
theorem iv.mono{m:Nat}{o:Oper}{K K':BU->Prop}{S:BU}(h:∀S,K S->K' S)(d:iv P TB ops m o K S):iv P TB ops m o K' S:=by
 rcases d with ⟨b,a⟩|⟨b,a⟩
 ·exact .inl ⟨b,h _ a⟩
 ·exact .inr ⟨b,λU=>(a U).mono λ_ _ _ c=>⟨c.1,h _ c.2⟩⟩
theorem St.mono{c:Nat}{o:Oper}{K K':BU->Prop}{S:BU}(h:∀S,K S->K' S)(a:St P TB ops c o K S):St P TB ops c o K' S:=by
 unfold St at *;split
 ·rename_i e;rw[if_pos e]at a;exact a.mono h
 ·rename_i e;rw[if_neg e]at a
  split
  ·rename_i e;rw[if_pos e]at a;exact a.mono h
  ·rename_i e;rw[if_neg e]at a
   split
   ·rename_i g;rw[if_pos g]at a
    obtain⟨d,T,z,f,b,i⟩:=a;exact⟨d,T,z,f,b,i.mono h⟩
   ·rename_i g;rw[if_neg g]at a
    obtain⟨u,f,b⟩:=a;exact⟨u,f,h _ b⟩
def iQ(x y:Oper):Bool:=(x.looksAt ops).all λt=>!(y.looksAt ops).contains t
def LO(ci cj:Nat):Bool:=
 Nat.beq ci 2 || (Nat.beq ci 3 || ((Nat.beq ci 0 && (!Nat.beq cj 1 && (!Nat.beq cj 5 && Nat.ble cj 999))) || (Nat.ble 10 ci && (Nat.ble ci 999 && (!Nat.beq cj 1 && (!Nat.beq cj 5 && (Nat.ble cj 999 || (cj-1000).testBit (ci-10))))))))
theorem LP{ci cj:Nat}(h:LO ci cj=true):ci=2\/ci=3\/(ci=0/\cj≠1/\cj≠5/\cj<1000)\/(10<=ci/\ci<1000/\cj≠1/\cj≠5/\(cj<1000\/(cj-1000).testBit (ci-10)=true)):=by
 unfold LO at h
 have nb:∀a b:Nat,(!Nat.beq a b)=true->a≠b:=λa b h e=>by subst e;simp at h
 simp only[qW,d4,Nat.beq_eq,Nat.ble_eq]at h
 rcases h with h|h|⟨d,g,c,f⟩|⟨d,g,c,f,i⟩
 ·exact .inl h
 ·exact .inr (.inl h)
 ·exact .inr (.inr (.inl ⟨d,nb _ _ g,nb _ _ c,by omega⟩))
 ·exact .inr (.inr (.inr ⟨d,by omega,nb _ _ c,nb _ _ f,i.imp (λh=>by omega) id⟩))
def fI(ops:Array Oper)(i ci j cj:Nat):Bool:=
 waits ops i ops.size j || (match ops[i]?,ops[j]? with
  | some x,some y=>x.apart ops y && LO ci cj && (!Nat.beq cj 5 || iQ (ops:=ops) x y)
  | _,_=>false)
def TG(ops:Array Oper)(i c:Nat)(r:List (Nat×Nat)):Bool:=r.all λ(j,cj)=>fI ops i c j cj
def Ee(ops:Array Oper):List (Nat×Nat)->Bool
 | []=>true
 | (i,c)::r=>TG ops i c r && Ee ops r
theorem Mv.put{c:Nat}{o:Oper}{S:BU}{u:BU->BU}(h:Mv P TB ops c o S u){d:Option Tmp}{x:E}{σ:Ac}{nx:Nat}{pd:Nat->Option (TypeId×List Value)}(p:∀t,d=some t->t∉o.looksAt ops)(l:∀t,o.dst=some t->d≠some t)(r:c=0->σ=S.σ/\nx=S.nx)(s:10<=c->look σ (c-10)=look S.σ (c-10)) :
 Mv P TB ops c o (BU.put ⟨S.f,σ,nx,pd⟩ d x) u:=by
 have n:BB ops o (BU.put ⟨S.f,σ,nx,pd⟩ d x).f=BB ops o S.f:=HT p;have ag:∀t,.tmp t∈o.op.operands->S.f t=BQ S.f d x t:=λt ht=>(GN p t ht).symm
 rcases h with ⟨i,g,a⟩|⟨i,g,y,a,m⟩|⟨i,g,dd,T,z,a,m,B,A,w,v⟩
 ·exact .inl ⟨i,by rw[n];exact g,a⟩
 ·refine .inr (.inl ⟨i,by rw[n];exact g,y,?_,m⟩)
  unfold QC at a |-;by_cases e:c=2
  ·rw[if_pos e]at a |-
   exact λU σ nx=>(a U σ nx).congr ag
  ·rw [if_neg e]at a |-
   by_cases b:c=0
   ·rw[if_pos b]at a |-
    obtain⟨rfl,rfl⟩:=r b;exact λU=>(a U).congr ag
   ·rw[if_neg b]at a |-
    exact⟨a.1,λU j k q=>(a.2 U j k (q.trans (s a.1))).congr ag⟩
 ·refine .inr (.inr ⟨i,g,dd,T,z,a,m,B,A,?_,v⟩)
  show BQ S.f d x dd=none
  rw[DB (l dd a)];exact w
theorem Mv.pV{c:Nat}{o:Oper}{S:BU}{u:BU->BU}(h:Mv P TB ops c o S u):(∃x,u=λS=>S.put o.dst x)\/∃d q,o.dst=some d/\u=λS=>S.Ia d q:=by
 rcases h with ⟨_,_,a⟩|⟨_,_,y,_,e⟩|⟨_,_,dd,T,z,a,_,_,_,_,b⟩
 ·exact .inl ⟨_,a⟩
 ·exact .inl ⟨_,e⟩
 ·exact .inr ⟨dd,_,a,b⟩
theorem Mv.back{c:Nat}{o oi:Oper}{S:BU}{u v:BU->BU}(r:(∃x,u=λS=>S.put oi.dst x)\/∃d q,oi.dst=some d/\u=λS=>S.Ia d q)(h:Mv P TB ops c o (u S) v)(n:∀t,oi.dst=some t->t∉o.looksAt ops)(s:∀t,oi.dst=some t->o.dst≠some t):Mv P TB ops c o S v:=by
 rcases r with ⟨x,rfl⟩|⟨d,q,G,rfl⟩
 ·have m:BB ops o (S.put oi.dst x).f=BB ops o S.f:=HT n
  have ag:∀t,.tmp t∈o.op.operands->BQ S.f oi.dst x t=S.f t:=GN n
  rcases h with ⟨i,g,a⟩|⟨i,g,y,a,l⟩|⟨i,g,dd,T,z,a,l,F,B,A,w⟩
  ·exact .inl ⟨i,by rw[<-m];exact g,a⟩
  ·refine .inr (.inl ⟨i,by rw[<-m];exact g,y,?_,l⟩)
   unfold QC at a |-;by_cases e:c=2
   ·rw[if_pos e]at a |-;exact λU σ nx=>(a U σ nx).congr ag
   ·rw[if_neg e]at a |-
    by_cases b:c=0
    ·rw[if_pos b]at a |-;exact λU=>(a U).congr ag
    ·rw[if_neg b]at a |-;exact⟨a.1,λU j k p=>(a.2 U j k p).congr ag⟩
  ·refine .inr (.inr ⟨i,g,dd,T,z,a,l,F,B,?_,w⟩)
   have:BQ S.f oi.dst x dd=none:=A;rw[DB (λe=>s dd e a)]at this;exact this
 ·exact h
theorem WM{oi oj:Oper}{S:BU}{u v:BU->BU}(f:(∃x,u=λS=>S.put oi.dst x)\/∃d q,oi.dst=some d/\u=λS=>S.Ia d q)(c:(∃x,v=λS=>S.put oj.dst x)\/∃d q,oj.dst=some d/\v=λS=>S.Ia d q)(h:∀t,oi.dst=some t->oj.dst≠some t):v (u S)=u (v S):=by
 rcases f with ⟨x,rfl⟩|⟨d,q,b,rfl⟩<;>rcases c with ⟨y,rfl⟩|⟨d',q',a,rfl⟩
 ·exact S.put_comm h
 ·exact S.VJ λe=>h d' e a
 ·exact(S.VJ (h d b)).symm
 ·exact S.cx λe=>h d b (by rw[a,e])
theorem iv.swap{ci m:Nat}{oi oj:Oper}{S:BU}{u:BU->BU}{K:BU->Prop}(k:ci=2\/ci=3\/(10<=ci/\m.testBit (ci-10)=true))(l:oi.apart ops oj=true)(p:Mv P TB ops ci oi S u)(h:iv P TB ops m oj K (u S)):iv P TB ops m oj (λS'=>∃u,Mv P TB ops ci oi S' u/\K (u S')) S:=by
 obtain⟨v,z,w⟩:=Oper.apart_spec l;have b:=p.pV;have i:∀t,oi.dst=some t->oj.dst≠some t:=z;have g:∀(x:E) (σ:Ac) (nx:Nat),Kept m S.σ σ->Mv P TB ops ci oi (BU.put ⟨S.f,σ,nx,S.pd⟩ oj.dst x) u:=λx σ nx c=>p.put (λt ht=>w t ht) i (λe=>by omega) (λe=>c _ (by rcases k with n|n|n;omega;omega;exact n.2))
 have s:∀(x:E) (σ:Ac) (nx:Nat),BU.put ⟨(u S).f,σ,nx,(u S).pd⟩ oj.dst x=u (BU.put ⟨S.f,σ,nx,S.pd⟩ oj.dst x):=by
  intro x σ nx;have:=WM (S:=⟨S.f,σ,nx,S.pd⟩) b (.inl ⟨x,rfl⟩) i;rw[<-this]
  rcases b with ⟨y,rfl⟩|⟨d,q,_,rfl⟩<;>rfl
 have r:BB ops oj (u S).f=BB ops oj S.f:=by
  rcases b with ⟨y,rfl⟩|⟨d,q,_,rfl⟩
  ·exact HT v
  ·rfl
 have ag:∀t,.tmp t∈oj.op.operands->(u S).f t=S.f t:=by
  rcases b with ⟨y,rfl⟩|⟨d,q,_,rfl⟩
  ·exact GN v
  ·exact λ_ _=>rfl
 have a:(u S).σ=S.σ/\(u S).nx=S.nx:=by rcases b with ⟨y,rfl⟩|⟨d,q,_,rfl⟩<;>exact⟨rfl,rfl⟩
 rcases h with ⟨o,j⟩|⟨o,j⟩
 ·refine .inl ⟨by rw[<-r];exact o,u,g _ S.σ S.nx (λ_ _=>rfl),?_⟩
  have:=s (.t []) S.σ S.nx;rw[<-a.1,<-a.2]at this;have e:BU.put ⟨(u S).f,(u S).σ,(u S).nx,(u S).pd⟩ oj.dst (.t [])=(u S).put oj.dst (.t []):=rfl;rw[e]at this;rw[this,a.1,a.2]at j;exact j
 ·refine .inr ⟨by rw[<-r];exact o,λU=>?_⟩
  have:=(j U).congr ag;rw[a.1,a.2]at this
  exact this.mono λx σ' nx' hk=>by
   have c:Kept m S.σ σ':=hk.1;exact⟨c,u,g x σ' nx' c,by rw[<-s];exact hk.2⟩
theorem St.swap{ci cj:Nat}{oi oj:Oper}{S:BU}{u:BU->BU}{K:BU->Prop}(f:oi.apart ops oj=true)(I:LO ci cj=true)(b:(!Nat.beq cj 5 || iQ (ops:=ops) oi oj)=true)
 (k:Mv P TB ops ci oi S u) (h:St P TB ops cj oj K (u S)):St P TB ops cj oj (λS'=>∃u,Mv P TB ops ci oi S' u/\K (u S')) S:=by
 obtain⟨Q,Y,X⟩:=Oper.apart_spec f;have j:∀t,oi.dst=some t->oj.dst≠some t:=Y;have c:=k.pV;have H:=LP I;unfold St at *;by_cases V:cj=1
 ·rw[if_pos V]at h |-
  exact h.swap (by omega) f k
 ·rw [if_neg V]at h |-
  by_cases ck:1000<=cj
  ·rw[if_pos ck]at h |-
   refine h.swap ?_ f k
   rcases H with e|e|e|⟨Z,e2,e3,e4,R|R⟩
   ·exact .inl e
   ·exact .inr (.inl e)
   ·omega
   ·omega
   ·exact .inr (.inr ⟨Z,R⟩)
  rw[if_neg ck]at h |-;by_cases J:cj=5
  ·rw [if_pos J]at h |-
   obtain⟨d,T,z,r,p,m⟩:=h;have s:d∈oj.looksAt ops:=H0 r;have a:oi.dst≠some d:=λe=>Q d e s
   have F:d∉oi.looksAt ops:=by
    subst J;unfold iQ at b;simp only[uH,r5,ua,ge]at b;intro N;have:=b d N;simp[s]at this
   have n:S.pd d=some (T,z):=by
    rcases c with ⟨x,rfl⟩|⟨d',q,g,rfl⟩
    ·have:(if oi.dst=some d then none else S.pd d)=some (T,z):=p
     rwa[if_neg a]at this
    ·have:(if d=d' then some q else S.pd d)=some (T,z):=p
     rwa[if_neg (λe=>a (by rw[g,e]))]at this
   have i:(u S).ad d T z=u (S.ad d T z):=by
    rcases c with ⟨x,rfl⟩|⟨d',q,g,rfl⟩
    ·exact S.kT a
    ·exact S.iB λe=>a (by rw[g,e])
   have G:Mv P TB ops ci oi (S.ad d T z) u:=by
    have:=k.put (d:=some d) (x:=.o (.ptr S.nx z.length 0 0)) (σ:=(S.nx,.cells T z.length [z.map zC])::S.σ) (nx:=S.nx+1) (pd:=S.pd) (λt ht=>by injection ht with ht;subst ht;exact F) (λt ht e=>a (by rw[ht];exact e.symm)) (λe=>by omega) (λe=>by omega)
    rcases this with ⟨B,A,w⟩|⟨B,A,y,w,L⟩|⟨B,A,dd,T',z',w,L,a5,a6,a7,a8⟩
    ·exact .inl ⟨B,A,w⟩
    ·exact .inr (.inl ⟨B,A,y,w,L⟩)
    ·exact .inr (.inr ⟨B,A,dd,T',z',w,L,a5,a6,a7,a8⟩)
   rw[i]at m;exact⟨d,T,z,r,n,m.swap (by omega) f G⟩
  ·rw[if_neg J]at h |-
   obtain⟨v,M,hk⟩:=h;have l:=M.pV;refine⟨v,M.back c Q j,u,?_,by rw[<-WM c l j];exact hk⟩
   rcases l with ⟨x,rfl⟩|⟨d,q,N,rfl⟩
   ·exact k.put (σ:=S.σ) (nx:=S.nx) (pd:=S.pd) (λt ht=>X t ht) j (λ_=>⟨rfl,rfl⟩) (λ_=>rfl)
   ·exact k
end
section
variable {P:Program}{TB:BJ}{ops:Array Oper}
theorem Ga(K:BU->Prop):∀(r:List (Nat×Nat)) (listed:Array Bool) (S:BU),Gt ops listed->Bo ops r listed=true->Ee ops r=true->
 Lex P TB ops r K S->∀j,j∈Region.ready .any ops listed->∃t c s o,r=t++(j,c)::s/\ops[j]?=some o/\St P TB ops c o (Lex P TB ops (t++s) K) S
 | [],listed,_,_,m,_,_,j,p=>by have:=Me _ _ m j p;simp at this
 | (i, ci) :: r,listed,S,F,m,hk,h,j,p=>by
  obtain⟨oi,g,h⟩:=h;by_cases k:j=i
  ·subst k
   exact⟨[],ci,r,oi,rfl,g,h⟩
  ·simp only [Bo,d4]at m
   simp only[Ee,d4]at hk
   have hi:i∈Region.ready .any ops listed:=by simpa using m.1
   have y:j∈r.map (·.1):=Me r _ m.2 j (ready_mono p k);obtain⟨⟨j',cj⟩,n,rfl⟩:=d9.1 y;have l:=hk.1;unfold TG at l;rw[ge]at l
   have f:∀c',(j',c')∈r->∃oj,ops[j']?=some oj/\oi.apart ops oj=true/\LO ci c'=true/\(!Nat.beq c' 5 || iQ (ops:=ops) oi oj)=true:=by
    intro c' w;have a:=l _ w;simp only[fI]at a;rw[qW]at a
    rcases a with a|a
    ·exact absurd p (Oj F (WI (Qd hi)) a)
    ·rw [g]at a
     cases e:ops[j']? with
     | none=>rw[e]at a;cases a
     | some oj=>
      rw[e]at a;simp only[d4]at a;exact⟨oj,rfl,a.1.1,a.1.2,a.2⟩
   have d:ci≠1/\¬1000<=ci/\ci≠5:=by
    obtain⟨oj,_,_,J,_⟩:=f cj n;have:=LP J;omega
   have L:∃u,Mv P TB ops ci oi S u/\Lex P TB ops r K (u S):=by
    unfold St at h;rwa[if_neg d.1,if_neg d.2.1,if_neg d.2.2]at h
   obtain⟨u,G,H⟩:=L;obtain⟨t,c,s,oj,B,e,I⟩:=Ga K r (listed.setIfInBounds i true) _ (IB F hi) m.2 hk.2 H j' (ready_mono p k);obtain⟨oj',b,A,z,q⟩:=f c (by rw[B];simp);rw[e]at b
   injection b with b
   subst b;refine⟨(i,ci)::t,c,s,oj,by rw[B];rfl,e,?_⟩;refine(St.swap A z q G I).mono λS' ⟨u',v,x⟩=>?_;refine⟨oi,g,?_⟩;unfold St;rw[if_neg d.1,if_neg d.2.1,if_neg d.2.2];exact⟨u',v,x⟩
theorem Mb:∀(e a:List (Nat×Nat)) (x:Nat×Nat),Ee ops (e++x::a)=true->Ee ops (e++a)=true
 | [],a,(j,c),h=>by
  simp only[ud,Ee,d4]at h;exact h.2
 | (i,d)::e,a,x,h=>by
  simp only[su,Ee,d4]at h |-;refine⟨?_,Mb e a x h.2⟩;have f:=h.1;unfold TG at f |-;rw[ge]at f |-;intro y b;refine f y ?_
  rcases gc.1 b with b|b
  ·exact q6 _ b
  ·exact rr _ (rP _ b)
structure aV (U:Ctx) (V:View) (σ:Ac) (b:Nat) (T:TypeId) (z:List Value):Prop where
 cells:∃cur:Array Value,V.w.heap[b]?=some (.cells cur T (0,0))/\cur.toList=z
 ni:¬V.I b
 ns:∀id o,look σ id=some o->¬V.nl id->¬FR V id o b
 lo:U.V.w.heap.size<=b
 zok:z.all QN=true
theorem aV.lt{U:Ctx}{V:View}{σ:Ac}{b:Nat}{T:TypeId}{z:List Value}(h:aV U V σ b T z):b<V.w.heap.size:=by
 obtain⟨cur,a,_⟩:=h.cells;exact(qZ.1 a).1
theorem Inv.comp{U:Ctx}{V V':View}{σ σ':Ac}{Q:Xb}(h:Inv TB U V σ)(n:∀b,Q.J b->U.J b\/U.V.w.heap.size<=b\/U.F b)(m:∀b,Q.B b->U.V.w.heap.size<=b\/U.F b)(d:Inv TB (HQ V V σ Q) V' σ'):Inv TB U V' σ':=by
 have f:∀b,EF V σ b\/Q.B b->U.V.w.heap.size<=b\/U.F b:=by
  rintro b (⟨id,o,c,e,a⟩|hb)
  ·exact h.live id o c e b a
  ·exact m b hb
 refine⟨d.os.trans h.os,d.tape.trans h.tape,d.output.trans h.output,λb hb g=>?_,d.iLt,λb hb=>?_,h.ext.trans d.ext,d.st,λid o c e b hb=>?_,d.tabs,?_⟩
 ·have c:¬(EF V σ b\/Q.B b):=λl=>by rcases f b l with e|e;omega;exact g e
  exact(d.old b (qV hb h.ext.size) c).trans (h.old b hb g)
 ·rcases d.iNew b hb with c|c|c
  ·exact h.iNew b c
  ·exact .inr (.inl (pm h.ext.size c))
  ·exact .inr (f b c)
 ·rcases d.live id o c e b hb with a|a
  ·exact .inl (pm h.ext.size a)
  ·exact f _ a
 ·obtain⟨Q1,k,j,i⟩:=d.hid
  refine⟨Q1,k,λb hb=>?_,λb hb=>?_⟩
  ·rcases j b hb with a|a|a
   ·exact n b a
   ·exact .inr (.inl (pm h.ext.size a))
   ·exact .inr (f b a)
  ·rcases i b hb with a|a
   ·exact .inl (pm h.ext.size a)
   ·exact f b a
theorem aV.comp{U:Ctx}{V V':View}{σ σ':Ac}{b:Nat}{T:TypeId}{z:List Value}{Q:Xb}(hp:aV U V σ b T z)(g:¬Q.B b)(i:Inv TB (HQ V V σ Q) V' σ'):aV U V' σ' b T z:=by
 have h:=hp.lt
 have c:¬(EF V σ b\/Q.B b):=by
  rintro(⟨id,o,a,f,d⟩|hb)
  ·exact hp.ns id o a f d
  ·exact g hb
 refine⟨?_,λhI=>?_,λid o a f e=>?_,hp.lo,hp.zok⟩
 ·obtain⟨cur,a,f⟩:=hp.cells
  exact⟨cur,(i.old b h c).trans a,f⟩
 ·rcases i.iNew b hI with a|a|a
  ·exact hp.ni a
  ·have a:V.w.heap.size<=b:=a;omega
  ·exact c a
 ·rcases i.live id o a f b e with d|d
  ·have d:V.w.heap.size<=b:=d;omega
  ·exact c d
structure m8 (TB:BJ) (U:Ctx) (V:View) (S:BU) (a:Act) (Q:Xb):Prop where
 s:QT TB V S.σ Q
 j:∀b,Q.J b->U.J b\/U.V.w.heap.size<=b\/U.F b
 b:∀b,Q.B b->U.V.w.heap.size<=b\/U.F b
 p:∀d q b,S.pd d=some q->a.tmps[d]?=some (.pointer (some ⟨b,0,none⟩))->¬Q.B b
structure Ky (TB:BJ) (U:Ctx) (N:Nat) (V:View) (S:BU) (a:Act):Prop where
 st:CG TB U N V S.f S.σ S.nx a
 pd:∀d T z,S.pd d=some (T,z)->S.f d=none/\∃b,a.tmps[d]?=some (.pointer (some ⟨b,0,none⟩))/\aV U V S.σ b T z
 ne:∀d d' q q' b b',S.pd d=some q->S.pd d'=some q'->d≠d'->a.tmps[d]?=some (.pointer (some ⟨b,0,none⟩))->a.tmps[d']?=some (.pointer (some ⟨b',0,none⟩))->b≠b'
 sc:∃Q,m8 TB U V S a Q
variable {U:Ctx}{N:Nat}{V V':View}{S:BU}{a:Act}
theorem IQ{a:Act}{d:Option Tmp}{v:Value}{t:Nat}(h:d≠some t):(a.put d v).tmps[t]?=a.tmps[t]?:=by
 cases d with
 | none=>rfl
 | some d=>
  have:d≠t:=λe=>h (by rw[e]);simp[Act.put,sO this]
theorem Ky.put(h:Ky TB U N V S a){d:Option Tmp}{x:E}{v:Value}{σ':Ac}{nx':Nat}(M:∀t,d=some t->t<N)(e:Ext V V'){Q:Xb}(l:m8 TB U V S a Q)(hi:Inv TB (HQ V V S.σ Q) V' σ')(L:V'.nx=nx')(K:Bu V' x v):Ky TB U N V' (BU.put ⟨S.f,σ',nx',S.pd⟩ d x) (a.put d v):=by
 have hp:∀t q,(if d=some t then none else S.pd t)=some q->d≠some t/\S.pd t=some q:=λt q i=>by
  split at i
  ·cases i
  ·rename_i k;exact⟨k,i⟩
 refine⟨h.st.put M e (Inv.comp h.st.inv l.j l.b hi) L K,λt T z i=>?_,λt t' q q' b b' i B k hb r=>?_,?_⟩
 ·obtain⟨n,m⟩:=hp t _ i
  obtain⟨c,b,g,A⟩:=h.pd t T z m;refine⟨?_,b,by rw[IQ n];exact g,A.comp (l.p t _ b m g) hi⟩
  show BQ S.f d x t=none
  rw[DB n];exact c
 ·obtain⟨n,m⟩:=hp t _ i
  obtain⟨G,F⟩:=hp t' _ B;rw[IQ n]at hb;rw[IQ G]at r;exact h.ne t t' q q' b b' m F k hb r
 ·obtain⟨Q1,J,I,H⟩:=hi.hid
  refine⟨Q1,J,λb hb=>?_,λb hb=>?_,λt q b i hb P=>?_⟩
  ·rcases I b hb with c|c|c|c
   ·exact l.j b c
   ·exact .inr (.inl (pm h.st.inv.ext.size c))
   ·obtain⟨id,o,y,u,s⟩:=c;exact .inr (h.st.inv.live id o y u b s)
   ·exact .inr (l.b b c)
  ·rcases H b hb with c|c|c
   ·exact .inl (pm h.st.inv.ext.size c)
   ·obtain⟨id,o,y,u,s⟩:=c;exact h.st.inv.live id o y u b s
   ·exact l.b b c
  ·obtain⟨n,m⟩:=hp t _ i
   rw[IQ n]at hb;obtain⟨_,R,g,A⟩:=h.pd t q.1 q.2 m;rw[hb]at g
   injection g with g;injection g with g;injection g with g;injection g with g
   subst g
   rcases H b P with c|c|c
   ·have c:V.w.heap.size<=b:=c
    have:=A.lt;omega
   ·obtain⟨id,o,y,u,s⟩:=c;exact A.ns id o y u s
   ·exact l.p t _ b m hb c
theorem Inv.grow{σ:Ac}(h:Inv TB U V σ){w:World}(d:w.os=V.w.os)(ht:w.tape=V.w.tape)(i:w.output=V.w.output)(c:V.w.heap.size<=w.heap.size)(a:∀b,b<V.w.heap.size->w.heap[b]?=V.w.heap[b]?):Inv TB U { V with w:=w } σ/\Ext V { V with w:=w } := by
 have e:Ext V { V with w:=w } := ⟨λ_ h=>h,λb hb=>a b (h.iLt b hb),c,λ_ _=>rfl,λ_ _=>rfl,λ_ _=>Iff.rfl,lc _⟩
 refine⟨⟨d.trans h.os,ht.trans h.tape,i.trans h.output,λb hb k=>(a b (qV hb h.ext.size)).trans (h.old b hb k),λb hb=>qV (h.iLt b hb) c,h.iNew,h.ext.trans e,⟨λid o f=>?_,h.st.lt,h.st.free,h.st.inj⟩,h.live,λx g=>?_,h.hid.step (λ_ h=>h) e.heap c (λb hb _ _=>a b hb) (λ_ h=>.inl h) λb hb=>.inl (Jq e h.st.lt hb)⟩,e⟩
 ·exact(h.st.obj id o f).A0 e (h.st.lt id o f) λj b hb=>a _ ((h.st.obj id o f).blt j hb)
 ·have:=h.tabs x g
  exact⟨this.1,(a _ (h.iLt _ this.1)).trans this.2⟩
theorem Ky.alloc(h:Ky TB U N V S a){d:Tmp}{T:TypeId}{zv:Value}{z:List Value}(J:d<N)(G:S.f d=none)(I:zv.cells.toList=z)(B:z.all QN=true):Ky TB U N { V with w:=V.w.alloc (.cells zv.cells T) } (S.Ia d (T,z)) (a.put (some d) (.pointer (some ⟨V.w.heap.size,0,none⟩))):=by
 obtain⟨hi,x⟩:=Inv.grow h.st.inv (w:=V.w.alloc (.cells zv.cells T)) rfl rfl rfl (by simp) (λb hb=>A6 _ _ _ hb)
 have F:d<a.tmps.size:=by rw[h.st.size];exact J
 have k:(a.put (some d) (.pointer (some ⟨V.w.heap.size,0,none⟩))).tmps[d]?=some (.pointer (some ⟨V.w.heap.size,0,none⟩)):=by
  simp[Act.put,F]
 refine⟨⟨λt e ht=>?_,h.st.lt,by simp[Act.put,h.st.size],hi,h.st.nx,h.st.defers⟩,λt T' z' g=>?_,λt t' q q' b b' g i m hb c=>?_,?_⟩
 ·have ht:S.f t=some e:=ht
  have m:d≠t:=λe=>by subst e;rw[G]at ht;cases ht
  have:=(h.st.env t e ht).ext x
  simpa[Act.put,sO m]using this
 ·have g:(if t=d then some (T,z) else S.pd t)=some (T',z'):=g
  by_cases e:t=d
  ·subst e
   rw[if_pos rfl]at g
   injection g with g;injection g with A y
   subst A y;refine⟨G,_,k,⟨⟨zv.cells,BW _ _,I⟩,λhI=>?_,λid o v l e=>?_,?_,B⟩⟩
   ·exact Nat.lt_irrefl _ (h.st.inv.iLt _ hI)
   ·have n:=(h.st.inv.st.obj id o v).blt l e
    omega
   ·exact h.st.inv.ext.size
  ·rw[if_neg e]at g
   obtain⟨v,b,l,n⟩:=h.pd t T' z' g;refine⟨v,b,by rw[IQ (λe'=>e (by injection e' with e';exact e'.symm))];exact l,⟨?_,n.ni,n.ns,n.lo,n.zok⟩⟩;obtain⟨cur,L,K⟩:=n.cells;exact⟨cur,(A6 _ _ _ n.lt).trans L,K⟩
 ·have g:(if t=d then some (T,z) else S.pd t)=some q:=g
  have i:(if t'=d then some (T,z) else S.pd t')=some q':=i
  have old:∀t q b,t≠d->S.pd t=some q->(a.put (some d) (.pointer (some ⟨V.w.heap.size,0,none⟩))).tmps[t]?=some (.pointer (some ⟨b,0,none⟩))->a.tmps[t]?=some (.pointer (some ⟨b,0,none⟩))/\b<V.w.heap.size:=λt q b e g hb=>by
   rw[IQ (λe'=>e (by injection e' with e';exact e'.symm))]at hb;obtain⟨_,M,l,n⟩:=h.pd t q.1 q.2 g;rw[hb]at l
   injection l with l;injection l with l;injection l with l;injection l with l
   subst l;exact⟨hb,n.lt⟩
  by_cases e:t=d
  ·subst e
   rw[k]at hb
   injection hb with hb;injection hb with hb;injection hb with hb;injection hb with hb
   rw[if_neg (Ne.symm m)]at i;have:=(old t' q' b' (Ne.symm m) i c).2;omega
  ·rw [if_neg e]at g
   have v:=old t q b e g hb;by_cases e':t'=d
   ·subst e'
    rw[k]at c
    injection c with c;injection c with c;injection c with c;injection c with c
    omega
   ·rw[if_neg e']at i
    exact h.ne t t' q q' b b' g i m v.1 (old t' q' b' e' i c).1
 ·obtain⟨Q,u⟩:=h.sc
  refine⟨Q,u.s.step (λ_ h=>h) x.heap x.size (λb hb _ _=>A6 _ _ _ hb) (λ_ h=>.inl h) λb hb=>.inl (Jq x h.st.inv.st.lt hb),u.j,u.b,λt q b g hb H=>?_⟩;have g:(if t=d then some (T,z) else S.pd t)=some q:=g;by_cases e:t=d
  ·subst e
   rw[k]at hb
   injection hb with hb;injection hb with hb;injection hb with hb;injection hb with hb
   have:=u.s.r.blt H;omega
  ·rw[if_neg e]at g
   rw[IQ (λe'=>e (by injection e' with e';exact e'.symm))]at hb;exact u.p t q b g hb H
theorem Ky.ng(h:Ky TB U N V S a){d:Tmp}{T:TypeId}{z:List Value}(hd:d<N)(hq:S.pd d=some (T,z)):∃V',V'.w=V.w/\Ky TB U N V' (S.ad d T z) a:=by
 obtain⟨hf,b,hb,hp⟩:=h.pd d T z hq;obtain⟨cur,hcur,Z⟩:=hp.cells;have hi:=h.st.inv;have Y:=h.st.nx;have e:Ext V (Az V b 1 False V.w):=ES (lc _) λ_ _=>rfl
 have G:(Az V b 1 False V.w).ρ V.nx=b:=by simp[Az]
 have hrel:Da (Az V b 1 False V.w) (z.map zC) cur:=by
  refine⟨by rw[gt,<-Z];simp,λj c v hj hv=>?_⟩
  have hzj:z[j]?=some v:=by rw[<-Z,rY];exact hv
  rw[f6,hzj]at hj
  injection hj with hj
  subst hj;exact Lm (ge.1 hp.zok v (co hzj))
 have k:∀id o,look ((S.nx,O.cells T z.length [z.map zC])::S.σ) id=some o->(id=V.nx/\o=O.cells T z.length [z.map zC])\/(id≠V.nx/\look S.σ id=some o):=λid o y=>by
  rw[AG]at y;rw[<-Y]at y;by_cases I:V.nx=id
  ·rw[if_pos I]at y;injection y with y;exact .inl ⟨I.symm,y.symm⟩
  ·rw[if_neg I]at y;exact .inr ⟨Ne.symm I,y⟩
 have n:∀id,id<V.nx->((Az V b 1 False V.w).nl id↔V.nl id):=λid I=>e.nl id I;obtain⟨Q,L⟩:=h.sc
 have hsQ:QT TB (Az V b 1 False V.w) ((S.nx,O.cells T z.length [z.map zC])::S.σ) Q:=by
  refine⟨L.s.r,L.s.ji,L.s.bi,λb' ⟨id,o,y,K,l⟩ hB=>?_⟩
  rcases k id o y with ⟨rfl,rfl⟩|⟨M,B⟩
  ·have l:b'=_:=l
   rw[G]at l;subst l;exact L.p d _ _ hq hb hB
  ·have g:=hi.st.lt id o B
   exact L.s.ap b' ⟨id,o,B,λu=>K ((n id g).2 u),(AR e g).1 l⟩ hB
 have hinv:Inv TB U (Az V b 1 False V.w) ((S.nx,O.cells T z.length [z.map zC])::S.σ):=by
  refine⟨hi.os,hi.tape,hi.output,hi.old,hi.iLt,hi.iNew,hi.ext.trans e,⟨λid o y=>?_,λid o y=>?_,λid o y K b' l hI=>?_,λid id' o o' y hl' P K hn' b' A J=>?_⟩,λid o y K b' l=>?_,hi.tabs,⟨Q,hsQ,L.j,L.b⟩⟩
  ·rcases k id o y with ⟨rfl,rfl⟩|⟨M,B⟩
   ·refine .inr ⟨by simp[Az],cur,by rw[G];exact hcur,?_,by simp[Az],by simp[Az,maxLen],?_,?_⟩
    ·simp[Az,<-Z]
    ·intro r hr;simp at hr;subst hr;simp
    ·intro i r j c hi hj
     have M:=ak hrel i r j c hi hj;rw[gt]at M;exact M
   ·exact(hi.st.obj id o B).A0 e (hi.st.lt id o B) λ_ _ _=>rfl
  ·rcases k id o y with ⟨rfl,rfl⟩|⟨M,B⟩
   ·exact tG _
   ·exact sV (hi.st.lt id o B)
  ·rcases k id o y with ⟨rfl,rfl⟩|⟨M,B⟩
   ·have l:b'=_:=l
    rw[G]at l;subst l;exact hp.ni hI
   ·have g:=hi.st.lt id o B
    exact hi.st.free id o B (λu=>K ((n id g).2 u)) b' ((AR e g).1 l) hI
  ·rcases k id o y with ⟨rfl,rfl⟩|⟨M,B⟩<;>rcases k id' o' hl' with ⟨rfl,rfl⟩|⟨h1',R⟩
   ·exact absurd rfl P
   ·have g:=hi.st.lt id' o' R
    have A:b'=_:=A;rw[G]at A;subst A;exact hp.ns id' o' R (λu=>hn' ((n id' g).2 u)) ((AR e g).1 J)
   ·have g:=hi.st.lt id o B
    have J:b'=_:=J;rw[G]at J;subst J;exact hp.ns id o B (λu=>K ((n id g).2 u)) ((AR e g).1 A)
   ·have g:=hi.st.lt id o B
    have X:=hi.st.lt id' o' R;exact hi.st.inj id id' o o' B R P (λu=>K ((n id g).2 u)) (λu=>hn' ((n id' X).2 u)) b' ((AR e g).1 A) ((AR e X).1 J)
  ·rcases k id o y with ⟨rfl,rfl⟩|⟨M,B⟩
   ·have l:b'=_:=l
    rw[G]at l;subst l;exact .inl hp.lo
   ·have g:=hi.st.lt id o B
    exact hi.live id o B (λu=>K ((n id g).2 u)) b' ((AR e g).1 l)
 refine⟨Az V b 1 False V.w,rfl,⟨λt x ht=>?_,λt x ht=>?_,h.st.size,hinv,by show V.nx+1=S.nx+1;rw[Y],h.st.defers⟩,λt T' z' H=>?_,λt t' q q' b1 b1' m F P A hb1'=>?_,⟨Q,hsQ,L.j,L.b,λt q b1 m A=>?_⟩⟩
 ·by_cases et:t=d
  ·subst et
   have ht:BQ S.f (some t) (.o (.ptr S.nx z.length 0 0)) t=some x:=ht;simp only[BQ,if_true]at ht
   injection ht with ht
   subst ht
   have hg:a.tmps.getD t undef=.pointer (some ⟨b,0,none⟩):=by simp[hb]
   rw[hg,<-Y];exact OW
  ·have ht:BQ S.f (some d) (.o (.ptr S.nx z.length 0 0)) t=some x:=ht
   rw[DB (λe'=>et (by injection e' with e';exact e'.symm))]at ht;exact(h.st.env t x ht).ext e
 ·by_cases et:t=d
  ·subst et;exact hd
  ·have ht:BQ S.f (some d) (.o (.ptr S.nx z.length 0 0)) t=some x:=ht
   rw[DB (λe'=>et (by injection e' with e';exact e'.symm))]at ht;exact h.st.lt t x ht
 ·have H:(if t=d then none else S.pd t)=some (T',z'):=H
  by_cases et:t=d
  ·rw[if_pos et]at H;cases H
  ·rw [if_neg et]at H
   obtain⟨M,b2,B,h3⟩:=h.pd t T' z' H;refine⟨?_,b2,B,⟨h3.cells,h3.ni,λid o y K=>?_,h3.lo,h3.zok⟩⟩
   ·show BQ S.f (some d) _ t=none
    rw[DB (λe'=>et (by injection e' with e';exact e'.symm))];exact M
   ·rcases k id o y with ⟨rfl,rfl⟩|⟨h4,h5⟩
    ·intro u
     have u:b2=_:=u;rw[G]at u;exact h.ne d t _ _ b b2 hq H (Ne.symm et) hb B u.symm
    ·have g:=hi.st.lt id o h5
     exact λu=>h3.ns id o h5 (λu=>K ((n id g).2 u)) ((AR e g).1 u)
 ·have m:(if t=d then none else S.pd t)=some q:=m
  have F:(if t'=d then none else S.pd t')=some q':=F;by_cases et:t=d
  ·rw[if_pos et]at m;cases m
  ·by_cases et':t'=d
   ·rw[if_pos et']at F;cases F
   ·rw[if_neg et]at m;rw[if_neg et']at F
    exact h.ne t t' q q' b1 b1' m F P A hb1'
 ·have m:(if t=d then none else S.pd t)=some q:=m
  by_cases et:t=d
  ·rw[if_pos et]at m;cases m
  ·rw[if_neg et]at m
   exact L.p t q b1 m A
end
section
variable {P:Program}{TB:BJ}{ops:Array Oper}{U:Ctx}{N:Nat}
def Y0(TB:BJ)(U:Ctx)(N:Nat)(K:BU->Prop)(Q:Exit->Act->World->Prop):Prop:=∀V S a,Ky TB U N V S a->K S->Q .normal a V.w
theorem Qs{i m:Nat}{o:Oper}(n:ops[i]?=some o)(k:∀t,o.dst=some t->t<N){K:BU->Prop}{K':Act->World->Prop}{Q:Exit->Act->World->Prop}
 (l:∀V S a,Ky TB U N V S a->K S->K' a V.w) {V:View} {S:BU} {a:Act} (b:Ky TB U N V S a) (h:iv P TB ops m o K S):wpOp P ops Q i K' a V.w:=by
 have d:∀t e,S.f t=some e->t<a.tmps.size:=λt e p=>by rw[b.st.size];exact b.st.lt t e p
 obtain⟨Q0,j⟩:=b.sc
 have c:Good TB V S.σ S.nx Q0:=⟨b.st.inv.iLt,b.st.inv.st,b.st.inv.tabs,b.st.nx,j.s⟩
 unfold wpOp;simp only[n]
 rcases h with ⟨g,hk⟩|⟨g,hk⟩
 ·rw[It b.st.env d g]
  have q:Ky TB U N V (S.put o.dst (.t [])) (a.put o.dst undef):=b.put (σ':=S.σ) k (Ext.refl _) j c.inv b.st.nx (NH V)
  simpa using l _ _ _ q hk
 ·rw[It b.st.env d g]
  simp only[if_true];refine .inl (YP P (Oper.wp_mono ?_ (hk (HQ V V S.σ Q0) V a (b.st.env.op o) c.inv b.st.nx)));rintro a' w' ⟨V',v,x,σ',rfl,rfl,z,y,u,r⟩;exact l V' _ _ (b.put k z j y rfl u) r.2
theorem cR{d:Option Tmp}{ty:TypeId}{pos:String}{af:Array Edge}{g:Option (Nat×Bool)}{ρ:Operand->Value}{T:TypeId}{z:List Value}(c:dn P T=some z):∃zv:Value,zv.cells.toList=z/\∀w:World,(execOp ρ ⟨d,.alloc T,ty,pos,af,g⟩).run P w=.ok (.value (.pointer (some ⟨w.heap.size,0,none⟩))) (w.alloc (.cells zv.cells T)):=by
 obtain⟨i,zv,hi,b,a⟩:=HF c;exact⟨zv,a,λw=>by simp[execOp,Instr.alloc,zeroValue,typeInfo,hi,b,newVar,newRow,go_sem]⟩
theorem O2{i c:Nat}{o:Oper}(l:ops[i]?=some o)(n:∀t,o.dst=some t->t<N){K:BU->Prop}{K':Act->World->Prop}{Q:Exit->Act->World->Prop}
 (p:∀V S a,Ky TB U N V S a->K S->K' a V.w) {V:View} {S:BU} {a:Act} (j:Ky TB U N V S a) (h:St P TB ops c o K S):wpOp P ops Q i K' a V.w:=by
 unfold St at h;by_cases I:c=1
 ·rw[if_pos I]at h;exact Qs l n p j h
 ·rw [if_neg I]at h
  by_cases ck:1000<=c
  ·rw[if_pos ck]at h;exact Qs l n p j h
  rw[if_neg ck]at h;by_cases H:c=5
  ·rw [if_pos H]at h
   obtain⟨d,T,z,_,r,y⟩:=h
   have A:d<N:=by
    obtain⟨_,b,hb,_⟩:=j.pd d T z r;have:=(qZ.1 hb).1;rw[j.st.size]at this;exact this
   obtain⟨V',Y,k⟩:=j.ng A r;have:=Qs (Q:=Q) l n p k y;rwa[Y]at this
  ·rw [if_neg H]at h
   obtain⟨u,L,hk⟩:=h
   rcases L with ⟨F,s,rfl⟩|⟨F,s,x,f,rfl⟩|⟨F,s,d,T,z,f,B,X,R,M,rfl⟩
   ·exact Qs (m:=0) l n p j (.inl ⟨s,hk⟩)
   ·refine Qs (m:=0) l n p j (.inr ⟨s,λU=>A5.pv P TB U ?_ ⟨λ_ _=>rfl,hk⟩⟩)
    unfold QC at f;by_cases e:c=2
    ·rw[if_pos e]at f;exact f U S.σ S.nx
    ·rw[if_neg e]at f
     by_cases G:c=0
     ·rw[if_pos G]at f;exact f U
     ·rw[if_neg G]at f;exact f.2 U S.σ S.nx rfl
   ·unfold wpOp
    simp only[l]
    have J:Region.wanted o (yielded ops a.tmps)=true:=by unfold Region.wanted;rw[s]
    rw[J];simp only[if_true];refine .inl ?_;obtain⟨dst,op,ty,pos,af,g⟩:=o;simp only at f B;subst f B;obtain⟨zv,v,q⟩:=cR (P:=P) (d:=some d) (ty:=ty) (pos:=pos) (af:=af) (g:=g) (ρ:=a.eval) X;unfold Oper.wp;rw[q];have k:=j.alloc (T:=T) (zv:=zv) (n d rfl) M v R;exact p _ _ _ k hk
theorem WS{ops:Array Oper}(u:Hm N ops=true){K:BU->Prop}{Q:Exit->Act->World->Prop}(v:Y0 TB U N K Q):∀(n:Nat) (r:List (Nat×Nat)) (listed:Array Bool) (V:View) (S:BU) (a:Act),
 r.length=n->Gt ops listed->Bo ops r listed=true->Ee ops r=true->Ky TB U N V S a->Lex P TB ops r K S->wpAny P .any ops Q n listed a V.w
 | 0,r,listed,V,S,a,f,s,b,hk,m,h=>by
  have:r=[]:=pp.1 f;subst this;refine⟨?_,v V S a m h⟩
  simpa[Bo]using b
 | n + 1,r,listed,V,S,a,f,s,b,hk,m,h=>by
  refine⟨λe=>?_,λj q=>?_⟩
  ·cases r with
   | nil=>simp at f
   | cons x r=>
    obtain⟨i,c⟩:=x;simp only[Bo,d4]at b;have:=b.1;rw[e]at this;simp at this
  ·obtain⟨k,c,g,o,rfl,d,y⟩:=Ga K r listed S s b hk h j q
   refine O2 d (λt ht=>Xq u d ht) (λV' S' a' l p=>?_) m y;exact WS u v n (k++g) _ V' S' a' (by simp at f |-;omega) (IB s q) (P7 k g j c listed b q) (Mb k g _ hk) l p
variable {i c:Nat}{r:List (Nat×Nat)}{L:List (Nat×E)}{σ:Ac}{nx:Nat}{pl:List (Nat×(TypeId×List Value))}{K:BU->Prop}{Q:Exit->Env->Ac->Nat->Prop}
def HI(P:Program)(TB:BJ)(ops:Array Oper)(r:List (Nat×Nat))(K:BU->Prop)(L:List (Nat×E))(σ:Ac)(nx:Nat)(pl:List (Nat×(TypeId×List Value))):Prop:=Lex P TB ops r K ⟨look L,σ,nx,look pl⟩
theorem RD{id:Nat}(r:List (Nat×Nat))(p:P.follows .mixedOrders=true)(s:Hm N ops=true)(o:r.length=ops.size)(i:(Bo ops r (Array.replicate ops.size false) && Ee ops r)=true)
 (h:HI P TB ops r (λS=>Q .normal S.f S.σ S.nx) L σ nx []):Aj P TB U N (.region id ops true) Q (look L) σ nx:=by
 intro V a c;rw[d4]at i;refine wp_region_any p ?_;obtain⟨k,t⟩:=c.inv.drew
 have g:CG TB U N { V with w:={ V.w with drawn:=V.w.drawn+1 } } (look L) σ V.nx a:=⟨c.env.ext t,c.lt,c.size,k,rfl,c.defers⟩
 have j:=c.nx;subst j;exact WS s (λV S a c hk=>⟨V,S.f,S.σ,rfl,by rw[c.st.nx];exact hk,by rw[c.st.nx];exact c.st⟩) ops.size r _ { V with w:={ V.w with drawn:=V.w.drawn+1 } } _ a o (NO ops) i.1 i.2 ⟨g,λd T z e=>(by cases e),λd d' q q' b b' e=>(by cases e),let ⟨Q0,n,m,l⟩:=k.hid;⟨Q0,n,m,l,λd q b e=>(by cases e)⟩⟩ h
theorem Aa{K:BU->Prop}(h:K ⟨look L,σ,nx,look pl⟩):HI P TB ops [] K L σ nx pl:=h
theorem Rz(h:Q .normal (look L) σ nx):HI P TB ops [] (λS=>Q .normal S.f S.σ S.nx) L σ nx pl:=h
def EB(d:Nat):List (Nat×(TypeId×List Value))->List (Nat×(TypeId×List Value))
 | []=>[]
 | (k,x)::r=>bif Nat.beq k d then EB d r else (k,x)::EB d r
theorem II:∀(pl:List (Nat×(TypeId×List Value))) (d t:Nat),look (EB d pl) t=if t=d then none else look pl t
 | [],d,t=>by simp[EB,look]
 | (k, x)::r,d,t=>by
  simp only[EB];by_cases h:k=d
  ·subst h
   simp only[uH,cond_true];rw[II r k t,AG];by_cases a:t=k
   ·simp[a]
   ·rw[if_neg a,if_neg a,if_neg (Ne.symm a)]
  ·have:Nat.beq k d=false:=by
    cases hb:Nat.beq k d
    ·rfl
    ·exact absurd (i9 hb) h
   rw[this,cond_false,AG,AG,II r d t];by_cases a:t=d
   ·subst a;simp[h]
   ·simp[a]
theorem Mj{d:Tmp}{x:E}{σ':Ac}{nx':Nat}:BU.put ⟨look L,σ',nx',look pl⟩ (some d) x=⟨look ((d,x)::L),σ',nx',look (EB d pl)⟩:=by
 unfold BU.put;rw[Ez];congr 1;funext t;rw[II];by_cases h:t=d
 ·subst h;simp
 ·simp[h,Ne.symm h]
theorem VI{x:E}{σ':Ac}{nx':Nat}:BU.put ⟨look L,σ',nx',look pl⟩ none x=⟨look L,σ',nx',look pl⟩:=by
 unfold BU.put;congr 1
def Br(P:Program)(TB:BJ)(ops:Array Oper)(o:Oper)(i c:Nat)(r:List (Nat×Nat))(K:BU->Prop)(L:List (Nat×E))(σ:Ac)(nx:Nat)(pl:List (Nat×(TypeId×List Value))):Prop:=
 ops[i]?=some o->HI P TB ops ((i,c)::r) K L σ nx pl
theorem Al{o:Oper}(a:P4 ops.toList i=some o)(h:Br P TB ops o i c r K L σ nx pl):HI P TB ops ((i,c)::r) K L σ nx pl:=h (by rw[P5]at a;simpa using a)
variable {d:Tmp}{op:Op}{ty:TypeId}{pos:String}{af:Array Edge}{g:Option (Nat×Bool)}
theorem CX{x:E}(b:∀U σ nx,A5 P TB U ⟨some d,op,ty,pos,af,g⟩ (look L) σ nx x)(j:BB ops ⟨some d,op,ty,pos,af,g⟩ (look L)=some true)(e:(Nat.beq c 0 || Nat.beq c 2)=true)(h:HI P TB ops r K ((d,x)::L) σ nx (EB d pl)):Br P TB ops ⟨some d,op,ty,pos,af,g⟩ i c r K L σ nx pl:=by
 intro f;refine⟨_,f,?_⟩;unfold St
 have a:c=0\/c=2:=by
  simp only[qW,Nat.beq_eq]at e;exact e
 rw[if_neg (by omega),if_neg (by omega),if_neg (by omega)];refine⟨λS=>S.put (some d) x,.inr (.inl ⟨by omega,j,x,?_,rfl⟩),?_⟩
 ·unfold QC
  rcases a with a|a
  ·rw[if_neg (by omega),if_pos a];exact λU=>b U σ nx
  ·rw[if_pos a];exact b
 ·simp only
  rw[Mj];exact h
theorem jD{x:E}(a:∀U,A5 P TB U ⟨some d,op,ty,pos,af,g⟩ (look L) σ nx x)(e:BB ops ⟨some d,op,ty,pos,af,g⟩ (look L)=some true)(f:Nat.beq c 0=true)(h:HI P TB ops r K ((d,x)::L) σ nx (EB d pl)):Br P TB ops ⟨some d,op,ty,pos,af,g⟩ i c r K L σ nx pl:=by
 intro b;refine⟨_,b,?_⟩;unfold St
 have j:c=0:=by simpa using f
 rw[if_neg (by omega),if_neg (by omega),if_neg (by omega)];refine⟨λS=>S.put (some d) x,.inr (.inl ⟨by omega,e,x,?_,rfl⟩),?_⟩
 ·unfold QC;rw[if_neg (by omega),if_pos j];exact a
 ·simp only
  rw[Mj];exact h
theorem CW(h:∀U,Ck P TB U ⟨some d,op,ty,pos,af,g⟩ (look L) σ nx (λx σ' nx'=>Kept (c-1000) σ σ'/\HI P TB ops r K ((d,x)::L) σ' nx' (EB d pl)))(j:BB ops ⟨some d,op,ty,pos,af,g⟩ (look L)=some true)(a:Nat.ble 1000 c=true):Br P TB ops ⟨some d,op,ty,pos,af,g⟩ i c r K L σ nx pl:=by
 intro b;refine⟨_,b,?_⟩;unfold St;have a:=ce a;rw[if_neg (by omega),if_pos a]
 exact .inr ⟨j,λU=>(h U).mono λx σ' nx' hk=>by
  refine⟨hk.1,?_⟩;have e:BU.put ⟨(⟨look L,σ,nx,look pl⟩:BU).f,σ',nx',(⟨look L,σ,nx,look pl⟩:BU).pd⟩ (some d) x=_:=Mj
  rw[e];exact hk.2⟩
theorem Mi(h:∀U,Ck P TB U ⟨some d,op,ty,pos,af,g⟩ (look L) σ nx (λx σ' nx'=>HI P TB ops r K ((d,x)::L) σ' nx' (EB d pl)))(j:BB ops ⟨some d,op,ty,pos,af,g⟩ (look L)=some true)(k:c=1):Br P TB ops ⟨some d,op,ty,pos,af,g⟩ i c r K L σ nx pl:=by
 intro b;refine⟨_,b,?_⟩;unfold St;rw[if_pos k]
 exact .inr ⟨j,λU=>(h U).mono λx σ' nx' hk=>by
  refine⟨λid a=>by simp at a,?_⟩;have e:BU.put ⟨(⟨look L,σ,nx,look pl⟩:BU).f,σ',nx',(⟨look L,σ,nx,look pl⟩:BU).pd⟩ (some d) x=_:=Mj
  rw[e];exact hk⟩
theorem Gf(h:∀U,Ck P TB U ⟨none,op,ty,pos,af,g⟩ (look L) σ nx (λ_ σ' nx'=>HI P TB ops r K L σ' nx' pl))(d:BB ops ⟨none,op,ty,pos,af,g⟩ (look L)=some true)(j:c=1):Br P TB ops ⟨none,op,ty,pos,af,g⟩ i c r K L σ nx pl:=by
 intro b;refine⟨_,b,?_⟩;unfold St;rw[if_pos j]
 exact .inr ⟨d,λU=>(h U).mono λx σ' nx' hk=>by
  refine⟨λid a=>by simp at a,?_⟩;have e:BU.put ⟨(⟨look L,σ,nx,look pl⟩:BU).f,σ',nx',(⟨look L,σ,nx,look pl⟩:BU).pd⟩ none x=_:=VI
  rw[e];exact hk⟩
theorem pK{T:TypeId}{z:List Value}[b:BN P T z](a:z.all QN=true)(g:look L d=none)(j:c=3)(h:HI P TB ops r K L σ nx ((d,(T,z))::pl)):Br P TB ops ⟨some d,.alloc T,ty,pos,af,none⟩ i c r K L σ nx pl:=by
 intro f;refine⟨_,f,?_⟩;unfold St;rw[if_neg (by omega),if_neg (by omega),if_neg (by omega)];refine⟨λS=>S.Ia d (T,z),.inr (.inr ⟨j,rfl,d,T,z,rfl,rfl,b.out,a,g,rfl⟩),?_⟩
 have e:BU.Ia ⟨look L,σ,nx,look pl⟩ d (T,z)=⟨look L,σ,nx,look ((d,(T,z))::pl)⟩:=by
  unfold BU.Ia;congr 1;funext t;rw[AG];by_cases h:t=d
  ·subst h;simp
  ·simp[h,Ne.symm h]
 simp only;rw[e];exact h
theorem pJ{t : Tmp}{T:TypeId}{z:List Value}(hp:look pl t=some (T,z))(ht:(op.operands.any λx=>match x with|.tmp t'=>Nat.beq t' t|_=>false)=true)(l:BB ops ⟨none,op,ty,pos,af,g⟩ (look ((t,.o (.ptr nx z.length 0 0))::L))=some true)(m:c=5)
    (h:∀U,Ck P TB U ⟨none,op,ty,pos,af,g⟩ (look ((t,.o (.ptr nx z.length 0 0))::L)) ((nx,.cells T z.length [z.map zC])::σ) (nx+1) (λ_ σ' nx'=>HI P TB ops r K ((t,.o (.ptr nx z.length 0 0))::L) σ' nx' (EB t pl))):Br P TB ops ⟨none,op,ty,pos,af,g⟩ i c r K L σ nx pl:=by
  intro j;refine⟨_,j,?_⟩;unfold St;rw[if_neg (by omega),if_neg (by omega),if_pos m]
  have e:BU.ad ⟨look L,σ,nx,look pl⟩ t T z=⟨look ((t,.o (.ptr nx z.length 0 0))::L),(nx,.cells T z.length [z.map zC])::σ,nx+1,look (EB t pl)⟩:=by
    unfold BU.ad;rw[Ez];congr 1;funext t';rw[II]
  have k : .tmp t∈op.operands:=by
    obtain⟨i,hi,b⟩:=us.1 ht;have d:=uS hi;generalize op.operands[i]=x at *
    cases x with
    | tmp t' => have:t'=t:=by simpa using b
                rw[<-this];exact d
    | _=>cases b
  refine⟨t,T,z,k,hp,?_⟩;rw[e]
  exact .inr ⟨l,λU=>(h U).mono λx σ' nx' hk=>by
    refine⟨λid a=>by simp at a,?_⟩;have n:BU.put ⟨(⟨look ((t,.o (.ptr nx z.length 0 0))::L),(nx,.cells T z.length [z.map zC])::σ,nx+1,look (EB t pl)⟩:BU).f,σ',nx',(⟨look ((t,.o (.ptr nx z.length 0 0))::L),(nx,.cells T z.length [z.map zC])::σ,nx+1,look (EB t pl)⟩:BU).pd⟩ none x=_:=VI
    rw[n];exact hk⟩
theorem nU{t:Tmp}{ts:TypeId}{y:Operand}{T:TypeId}{z:List Value}(hp:look pl t=some (T,z))(a:BB ops ⟨none,.store ts (.tmp t) y,ty,pos,af,g⟩ (look ((t,.o (.ptr nx z.length 0 0))::L))=some true)(b:c=5)
 (h:∀U,Ck P TB U ⟨none,.store ts (.tmp t) y,ty,pos,af,g⟩ (look ((t,.o (.ptr nx z.length 0 0))::L)) ((nx,.cells T z.length [z.map zC])::σ) (nx+1) (λ_ σ' nx'=>HI P TB ops r K ((t,.o (.ptr nx z.length 0 0))::L) σ' nx' (EB t pl))):Br P TB ops ⟨none,.store ts (.tmp t) y,ty,pos,af,g⟩ i c r K L σ nx pl:=
 pJ hp (by simp[Op.operands]) a b h
theorem cy{a:Bool}(e:∀U σ nx,A5 P TB U ⟨some d,op,ty,pos,af,g⟩ (look L) σ nx (eB a))(f:BB ops ⟨some d,op,ty,pos,af,g⟩ (look L)=some true)(j:(Nat.beq c 0 || Nat.beq c 2)=true)(h:∀b,a=b->HI P TB ops r K ((d,eB b)::L) σ nx (EB d pl)):Br P TB ops ⟨some d,op,ty,pos,af,g⟩ i c r K L σ nx pl:=CX e f j (h a rfl)
end
section
variable {P:Program}{TB:BJ}{ops:Array Oper}{i c:Nat}{r:List (Nat×Nat)}{L:List (Nat×E)}{σ:Ac}{nx:Nat}{pl:List (Nat×(TypeId×List Value))}{K:BU->Prop}{d:Option Tmp}{ty:TypeId}{pos:String}{af:Array Edge}{g:Option (Nat×Bool)}
end
section
variable {P:Program}{TB:BJ}{ops:Array Oper}{i c:Nat}{r:List (Nat×Nat)}{L:List (Nat×E)}{σ:Ac}{nx:Nat}{pl:List (Nat×(TypeId×List Value))}{K:BU->Prop}{d:Tmp}{ty:TypeId}{pos:String}{af:Array Edge}{g:Option (Nat×Bool)}{op:Op}
theorem yQ{md:Bool}[f:C1 P]{q:Prop}{x:E}(b:BB ops ⟨some d,op,ty,pos,af,g⟩ (look L)=some true)(e:(Nat.beq c 0 || Nat.beq c 2)=true)(h:gn f.T md (look L) op=some (q,x))(a:q)(hk:HI P TB ops r K ((d,x)::L) σ nx (EB d pl)):Br P TB ops ⟨some d,op,ty,pos,af,g⟩ i c r K L σ nx pl:=
 CX (λ_ _ _=>aa h a) b e hk
theorem yB[j:C1 P]{a:Bool}(e:BB ops ⟨some d,op,ty,pos,af,g⟩ (look L)=some true)(f:(Nat.beq c 0 || Nat.beq c 2)=true)(h:VQ j.T (look L) op=some a)(hk:∀b,a=b->HI P TB ops r K ((d,eB b)::L) σ nx (EB d pl)):Br P TB ops ⟨some d,op,ty,pos,af,g⟩ i c r K L σ nx pl:=
 cy (λ_ _ _=>VR h) e f hk
theorem yS[e:C1 P]{x:E}(a:BB ops ⟨some d,op,ty,pos,af,g⟩ (look L)=some true)(b:Nat.beq c 0=true)(h:Oa e.T σ (look L) op=some x)(hk:HI P TB ops r K ((d,x)::L) σ nx (EB d pl)):Br P TB ops ⟨some d,op,ty,pos,af,g⟩ i c r K L σ nx pl:=
 jD (λ_=>Qe h) a b hk
theorem yW[d:C1 P]{t:TypeId}{x y:Operand}{σ':Ac}(a:BB ops ⟨none,.store t x y,ty,pos,af,g⟩ (look L)=some true)(b:c=1)(h:Sn d.T σ (look L) t x y=some σ')(hk:HI P TB ops r K L σ' nx pl):Br P TB ops ⟨none,.store t x y,ty,pos,af,g⟩ i c r K L σ nx pl:=
 Gf (λ_=>Qf h hk) a b
theorem yA[d:C1 P]{t:Tmp}{ts:TypeId}{y:Operand}{T:TypeId}{z:List Value}{σ':Ac}(hp:look pl t=some (T,z))(a:BB ops ⟨none,.store ts (.tmp t) y,ty,pos,af,g⟩ (look ((t,.o (.ptr nx z.length 0 0))::L))=some true)(b:c=5)
 (h:Sn d.T ((nx,.cells T z.length [z.map zC])::σ) (look ((t,.o (.ptr nx z.length 0 0))::L)) ts (.tmp t) y=some σ') (hk:HI P TB ops r K ((t,.o (.ptr nx z.length 0 0))::L) σ' (nx+1) (EB t pl)):Br P TB ops ⟨none,.store ts (.tmp t) y,ty,pos,af,g⟩ i c r K L σ nx pl:=
 nU hp a b λ_=>Qf h hk
theorem yP[b:C1 P]{T:TypeId}{z:List Value}(e:(KB b.T T).ze=some z)(a:z.all QN=true)(f:look L d=none)(g:c=3)(h:HI P TB ops r K L σ nx ((d,(T,z))::pl)):Br P TB ops ⟨some d,.alloc T,ty,pos,af,none⟩ i c r K L σ nx pl:=
 haveI:=(D0 (P:=P) T b.ok).ez e
 pK a f g h
end
end Go.Am.R
namespace Go.Am
open Go
section
variable {P:Program}{TB:BJ}{U:Ctx}{d:Option Tmp}{ty:TypeId}{pos:String}{af:Array Edge}{g:Option (Nat×Bool)}{f:Env}{σ:Ac}{nx:Nat}
variable {K:E->Ac->Nat->Prop}
theorem run_build{t:TypeId}{fl:List (Nat×Nat)}{parts:Array (Nat×Operand)}{ρ:Operand->Value}{V:View}{i:TypeInfo}{zv:Value}{cells:Array Value}(hi:P.info? t=some i)(m:i.zero=some zv)(k:nC P t=some fl)
 (r:Instr.fill (fl[·]?) zv.cells (parts.toList.map λ(i,x)=>(i,ρ x))=some cells):(Instr.build t (parts.map λ(i,x)=>(i,ρ x))).run P V.w=.ok (.agg cells) V.w:=by
 have a:(parts.map λ(i,x)=>(i,ρ x)).toList=parts.toList.map λ(i,x)=>(i,ρ x):=by simp
 unfold nC at k;split at k
 ·rename_i fs u
  have z:∀(l:List Field) (ll:List (Nat×Nat)),(l.mapM λf=>(P.info? f.type).map λi=>(f.offset,i.size))=some ll->∀w,((l.mapM λf=>do pure (f.offset,<-sizeOf f.type)):Sem (List (Nat×Nat))).run P w=.ok ll w:=by
   intro l
   induction l with
   | nil=>intro ll h w;simp at h;subst h;simp[go_sem]
   | cons y l s=>
    intro ll h w;simp only[tC,uL,qY,d7]at h;obtain⟨p,⟨ii,d,rfl⟩,ll',B,A⟩:=h;simp at A;subst A
    have v:(sizeOf y.type).run P w=.ok ii.size w:=by simp[sizeOf,typeInfo,d,go_sem]
    have ihh:=s ll' B w;simp only[bind_pure_comp]at ihh;simp only[tC,pu,v,lm,bind_pure_comp,tS,ihh]
  have o:=z fs.toList fl k V.w
  have b:(zeroValue t).run P V.w=.ok zv V.w:=by simp[zeroValue,typeInfo,hi,m,go_sem]
  have ha:((fs.mapM λf=>do pure (f.offset,<-sizeOf f.type)):Sem (Array (Nat×Nat))).run P V.w=.ok fl.toArray V.w:=by
   rw[ue,tS,o];rfl
  rw[<-a]at r;simp only[Instr.build,pu,b,lm,run_underlying u,ha];simp only[sf];rw[r];rfl
 ·rename_i n e u
  simp only[d7]at k;obtain⟨ii,d,rfl⟩:=k
  have b:(zeroValue t).run P V.w=.ok zv V.w:=by simp[zeroValue,typeInfo,hi,m,go_sem]
  have v:(sizeOf e).run P V.w=.ok ii.size V.w:=by simp[sizeOf,typeInfo,d,go_sem]
  have g:∀(ps:List (Nat×Value)) (c c':Array Value),Instr.fill (λi=>((List.range n).map λj=>(j*ii.size,ii.size))[i]?) c ps=some c'->Instr.fill (λi=>some (i*ii.size,ii.size)) c ps=some c':=by
   intro ps
   induction ps with
   | nil=>intro c c' h;simpa[Instr.fill]using h
   | cons p ps s=>
    intro c c' h;obtain⟨i',v'⟩:=p;unfold Instr.fill at h |-;by_cases q:i'<n
    ·simp only [f6,tL q,rM]at h
     simp only at h |-;split at h
     ·cases h
     ·rename_i hno
      rw[if_neg hno];exact s _ _ (by simpa only[f6]using h)
    ·simp[q]at h
  rw[<-a]at r;simp only[Instr.build,pu,b,lm,run_underlying u,v];rw[g _ _ _ r];rfl
 ·cases k
theorem Gd{t:TypeId}{z:List Value}{fl:List (Nat×Nat)}{parts:Array (Nat×Operand)}{es:List E}{qs:List (Nat×List C)}[F:BN P t z][I:EJ P t fl](p k e:Nat)(hp:z[p]?=some (.slice none 0 0))(B:KS f (parts.toList.map (·.2))=some es)(H:Ge fl parts.toList es=some qs)
 (s:z.all QN=true) (u:(qs.all λx=>Nat.ble (x.1+x.2.length) z.length)=true) (L:K (.a (BM qs ((z.map zC).set p (.arr nx k 0 0)))) ((nx,.cells e k [])::σ) (nx+1)):Ck P TB U ⟨d,.build t parts,ty,pos,af,g⟩ f σ nx K:=
 DC λV ρ S R Q=>by
  subst Q;obtain⟨i,zv,hi,o,l⟩:=HF F.out;obtain⟨y,n⟩:=R.alloc (c:=0) (nl:=True) (w:=V.w) (ob:=.cells e k []) rfl rfl rfl rfl (lc _) (λ_ _=>rfl) (.inl ⟨by simp[Az],rfl⟩);have A:=Dk (V:=Az V V.w.heap.size 0 True V.w) (ρ:=ρ) parts.toList es qs (λx r e J=>(S.get (by simp only[Op.operands];simpa using r) J).ext n) B H
  have q:Da (Az V V.w.heap.size 0 True V.w) ((z.map zC).set p (.arr V.nx k 0 0)) zv.cells:=by
   refine⟨by rw[rx,gt,<-l];simp,λj c v h G=>?_⟩
   have b:z[j]?=some v:=by rw[<-l,rY];exact G
   by_cases m:p=j
   ·subst m
    rw[hp]at b
    injection b with b
    subst b;rw[rS (by rw[gt];exact(am.1 hp).1)]at h
    injection h with h
    subst h;exact AP.nil (by simp[Az]) (by simp[Az])
   ·rw[rT m,f6,b]at h
    injection h with h
    subst h;exact Lm (ge.1 s v (co b))
  obtain⟨cells,N,M⟩:=GR _ _ _ _ A q (λx r=>by rw[rx,gt];exact Jo _ _ u x r);have hb:=run_build (P:=P) (ρ:=ρ) (parts:=parts) (V:=V) hi o I.out N;refine⟨.agg cells,_,_,_,?_,n,y,(show Bu _ (.a _) _ from ⟨cells,rfl,M⟩),L⟩
  show ((do let v <-Instr.build t (parts.map λ(i,x)=>(i,ρ x));pure (Go.Next.value v):Sem Go.Next)).run P V.w=_
  simp only[pu,hb,lm];rfl
end
section
variable {P:Program}{TB:BJ}
def nc(t:Tmp)(ids:List Nat)(post:E->Ac->Nat->Prop):Exit->Env->Ac->Nat->Prop
 | .ret,f,σ,nx|.normal,f,σ,nx=>∃id k i T rows r x,f t=some (.o (.ptr id k i 0))/\look σ id=some (.cells T k rows)/\rows[i]?=some r/\FE σ ids (.a r) x/\post x (CS ids σ) nx
 | _,_,_,_=>False
theorem gD{fn:Func}{V:View}{U:Ctx}{f:Env}{a:Act}{σ:Ac}{t:Tmp}{T':TypeId}{n:Nat}{id k i:Nat}{T:TypeId}{rows:List (List C)}{r:List C}[A:Fa P T' true n](H:n=k)(s:fn.results = #[.cell t T'])(J:Fh V f a.tmps)(hi:Inv TB U V σ)(ht:f t=some (.o (.ptr id k i 0)))(G:look σ id=some (.cells T k rows))(z:rows[i]?=some r) :
 ∃v,(results fn a.tmps).run P V.w=.ok v V.w/\Bu V (.a r) v:=by
 have F:=J t _ ht;subst H
 have e:∀w,(results fn a.tmps).run P w=((do loadVar T' (<-asAddr (a.tmps.getD t undef))):Sem Value).run P w:=λw=>by
  simp[results,s,-Array.getD_eq_getD_getElem?,go_sem]
 generalize N:a.tmps.getD t undef=M at F e
 cases F with
 | ptr I x=>
  rcases hi.st.obj id _ G with ⟨y,_⟩|⟨_,cur,y,S,R,Q,L,K⟩
  ·exact absurd y x
  ·have u:=L r (co z)
   rw[tY]at e
   have g:∀q,q<n->∃v,cur[i*n+q]?=some v/\AP V (r[q]?.getD (.d (.l []))) v:=λq j=>by
    have m:q<r.length:=by omega
    obtain⟨v,b,h⟩:=K i r q r[q] z (d6 m);exact⟨v,b,by rw[d6 m];exact h⟩
   refine⟨.agg ((List.range n).map λq=>cur.getD (i*n+q) undef).toArray,?_,_,rfl,by simp[u],?_⟩
   ·have:(loadCells ⟨V.ρ id,i*n,none⟩ n).run P V.w=.ok ((List.range n).map λq=>cur.getD (i*n+q) undef).toArray V.w:=run_loadCells V.w _ n _ λq j=>by
     rw[BO];obtain⟨v,b,_⟩:=g q j
     have:cur.getD (i*n+q) undef=v:=by simp[b]
     rw[this];simp[World.cell?,y,b]
    unfold loadCells at this;rw[e];simp[asAddr,loadVar,(BR A.out V.w).1,(BR A.out V.w).2,this,go_sem]
   ·intro q c v B p
    have j:q<n:=by have:=(am.1 B).1;omega
    obtain⟨v',b,h⟩:=g q j;rw[B]at h
    have:v=v':=by simpa[j,b]using p.symm
    rw[this];exact h
theorem iS{V:View}{U:Ctx}{σ:Ac}(hi:Inv TB U V σ)(ids:List Nat):Inv TB U (Oy V σ ids) (CS ids σ):=by
 have h:CG TB U 0 V (λ_=>none) σ V.nx { tmps:=#[],defers:=[] } := ⟨λt e h=>(by cases h),λt e h=>(by cases h),rfl,hi,rfl,rfl⟩
 exact(h.freeze ids [] trivial).inv
theorem Spec.qL {g:FuncId} {fn:Func} {c:Code} {σ:Ac} {nx:Nat} {args:List E} {post:E->Ac->Nat->Prop} (t:Tmp) (T':TypeId) (n:Nat) (ids:List Nat) [L:Fa P T' true n] (B:P.funcs[g]?=some fn) (hb:fn.body=some c) (j:(fn.name == "runtime.NumGoroutine")=false) (u:fn.results = #[.cell t T'])
 (p:args.length<=fn.ntmps) (h:∀U:Ctx,U.V.nx=nx->Aj P TB U fn.ntmps c (λe f σ nx=>nc t ids post e f σ nx/\∀id k i,f t=some (.o (.ptr id k i 0))->k=n) (look (Cw 0 args)) σ nx):Spec P TB g σ nx args post:=by
 refine⟨⟨fn,B,j,by rw[hb];rfl⟩,?_⟩;intro V vs S z ha;refine calls_of_wp B hb ?_
 have K:vs.size<=fn.ntmps:=by rw[ha.1];exact p
 have H:CG TB (HQ V V σ S) fn.ntmps V (look (Cw 0 args)) σ nx { tmps:=vs++Array.replicate (fn.ntmps-vs.size) undef,defers:=[] } := by
  refine⟨?_,?_,by simp;omega,z.inv,z.nx,rfl⟩
  ·intro t e s
   obtain⟨_,d⟩:=CN args 0 t e s
   have d:args[t]?=some e:=by simpa using d
   have m:t<vs.size:=by rw[ha.1];exact(am.1 d).1
   have A:=ha.2 t e vs[t] d (qU m)
   simpa[ru m,m]using A
  ·intro t e s
   obtain⟨_,d⟩:=CN args 0 t e s
   have d:args[t]?=some e:=by simpa using d
   have:=(am.1 d).1;omega
 refine wp_mono (h (HQ V V σ S) z.nx V _ H) ?_;rintro e a' w' ⟨V',f',σ',rfl,⟨q,y⟩,b⟩
 have fin:(∃id k i T rows r x,f' t=some (.o (.ptr id k i 0))/\look σ' id=some (.cells T k rows)/\rows[i]?=some r/\FE σ' ids (.a r) x/\post x (CS ids σ') V'.nx)->∃v,(results fn a'.tmps).run P V'.w=.ok v V'.w/\∃V'' v' x σ'',Ending.returned v=.returned v'/\V''.w=V'.w/\Inv TB (HQ V V σ S) V'' σ''/\Bu V'' x v'/\post x σ'' V''.nx:=by
  rintro⟨id,k,i,T,rows,r,x,F,d,A,J,I⟩;obtain⟨v,G,s⟩:=gD (P:=P) (y id k i F).symm u b.env b.inv F d A;exact⟨v,G,Oy V' σ' ids,v,x,_,rfl,rfl,iS b.inv ids,J.rel b.inv s,I⟩
 cases e with
 | normal=>exact⟨b.defers,fin q⟩
 | ret=>exact⟨b.defers,fin q⟩
 | exit id=>exact q.elim
 | goto l=>exact q.elim
 | panic ch=>exact q.elim
 | outgrown=>exact q.elim
end
def nK:Option TypeDesc->Bool
 | some (.func ..)=>true
 | _=>false
class p7 (P:Program) (t:TypeId):Prop where
 out:nK (P.underlying t)=true
section
variable {P:Program}{TB:BJ}{U:Ctx}{d:Option Tmp}{ty:TypeId}{pos:String}{af:Array Edge}{g:Option (Nat×Bool)}{f:Env}{σ:Ac}{nx:Nat}
end
def PG(L:List (Nat×E)):List Nat->Option (List (Nat×E))
 | []=>some []
 | k::r=>match look L k,PG L r with
  | some e,some l=>some ((k,e)::l)
  | _,_=>none
def Zw(σ:Ac):List Nat->Option Ac
 | []=>some []
 | k::r=>match look σ k,Zw σ r with
  | some e,some l=>some ((k,e)::l)
  | _,_=>none
section
variable {P:Program}{TB:BJ}{U:Ctx}{N:Nat}
theorem Aj.nP{c:Code}{Q:Exit->Env->Ac->Nat->Prop}{L0 Lk:List (Nat×E)}{σ Sk:Ac}{nx:Nat}{α:Type}(ks is:List Nat)(hk:PG L0 ks=some Lk)(hi:Zw σ is=some Sk)(v:α->List (Nat×E))(s:α->Ac)(n:Nat)(μ:α->Nat)
 (x:α) (a:List Nat) (b:(∀i,i<U.V.nx->a[i]?=some i)/\a.Nodup/\a.length=n) (d:DU (nm a nx) (look L0) (v x++Lk)/\A7 (nm a nx) σ (s x++Sk))
 (round:∀x,Aj P TB U N c (MB (λf σ nx=>∃y,μ y<μ x/\∃l:List Nat,(∀i,i<U.V.nx->l[i]?=some i)/\l.Nodup/\l.length=n/\DU (nm l nx) f (v y++Lk)/\A7 (nm l nx) σ (s y++Sk)) Q) (look (v x++Lk)) (s x++Sk) n) :
 Aj P TB U N (.loop c) Q (look L0) σ nx:=Aj.Be (λx=>v x++Lk) (λx=>s x++Sk) n μ x a b d round
theorem aL{c:Code}{Q:Exit->Env->Ac->Nat->Prop}{L0 Lk:List (Nat×E)}{σ Sk:Ac}{nx:Nat}{α:Type}(ks is:List Nat)(hk:PG L0 ks=some Lk)(hi:Zw σ is=some Sk)(v:α->List (Nat×E))(s:α->Ac)(n:Nat)(μ:α->Nat)
 (x:α) {m:Nat} (a:U.V.nx=m) (b:Nat.ble m n=true) (d:DU (nm (List.range n) nx) (look L0) (v x++Lk)/\A7 (nm (List.range n) nx) σ (s x++Sk))
 (round:∀x,Aj P TB U N c (MB (λf σ nx=>∃y,μ y<μ x/\∃l:List Nat,(∀i,i<U.V.nx->l[i]?=some i)/\l.Nodup/\l.length=n/\DU (nm l nx) f (v y++Lk)/\A7 (nm l nx) σ (s y++Sk)) Q) (look (v x++Lk)) (s x++Sk) n) :
 Aj P TB U N (.loop c) Q (look L0) σ nx:=Aj.nP ks is hk hi v s n μ x (List.range n) (rg a b) d round
end
end Go.Am
