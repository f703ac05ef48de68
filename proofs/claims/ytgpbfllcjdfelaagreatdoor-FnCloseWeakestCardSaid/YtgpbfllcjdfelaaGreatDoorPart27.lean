/-
  An automaton without the states to which no word leads, plainly.
-/
import Derived.Test.YtgpbfllcjdfelaaGreatDoorPart25
import Derived.Test.YtgpbfllcjdfelaaGreatDoorPart23
import Derived.Test.YtgpbfllcjdfelaaGreatDoorPart24
set_option linter.all false
namespace Go.Am
set_option linter.unusedVariables false
theorem EP{U:Type}{l:List U}{k:Nat}{x d:U}(h:l[k]? = some x):l.getD k d=x:=by rw [kC,h];rfl
def fA(a:AY)(q l:Int):Int:=Bj a q.toNat l
def Fy(a:AY)(q:Int):Bool:=a.ac.getD q.toNat false
def PR(a:AY):AY:=match Oa a.nx.length (fA a) (Ac a.al) 0 with
 | some p=>⟨a.al,p.2,p.1.map (Fy a)⟩
 | none=>⟨a.al,[],[]⟩
theorem C1{a:AY}(h:Iz a){q:Nat}(f:q < a.nx.length){l:Int}(j:0<=l)(i:l < 6):0<=Bj a q l/\Bj a q l < a.nx.length:=by
 obtain⟨row,e,g,d⟩:=h.2 q f;unfold Bj;split
 ·rename_i hb
  have b:(Ay a.al l.toNat).length < row.length:=by rw [g];exact GS (by omega) hb
  obtain⟨y,c⟩:=get_some b;have:=d _ y c
  simpa [List.getD,e,c] using this
 ·omega
theorem OT{a:AY}:∀(w:List Int) (q:Int),(∀l∈w,l∈Ac a.al)->PK (fA a) q w=AI a q (DZ w)
 | [],q,_=>rfl
 | l::w,q,h=>by
  have c:=Au (h l (by simp));have e:AI a q (DZ (l::w))=AI a (Bj a q.toNat (((lb l).toNat:Int) - 97)) (DZ w):=rfl;rw [e,Ff c.1 (by omega)];exact OT w _ λm b=>h m (by simp [b])
theorem OE{s l:Int}(h:l∈Ac s):(Ac s)[(Ay s l.toNat).length]? = some l:=by
 obtain⟨k,hk⟩:=lL.1 h;rw [Es hk];exact hk
theorem Tw{a:AY}(h:Iz a)(n:1<=a.nx.length):∃nd rows,Oa a.nx.length (fA a) (Ac a.al) 0=some (nd,rows)/\Vk (fA a) (Ac a.al) 0 nd rows/\nd.length<=a.nx.length/\(∀q∈nd,0<=q/\q < a.nx.length)/\PR a=⟨a.al,rows,nd.map (Fy a)⟩:=by
 have d:∀q l:Int,0<=q/\q < ((a.nx.length:Nat):Int)->l∈Ac a.al->0<=fA a q l/\fA a q l < ((a.nx.length:Nat):Int):=λq l b c=>by
  have c:=Au c;exact C1 h (q:=q.toNat) (by omega) c.1 (by omega)
 obtain⟨⟨nd,rows⟩,hp⟩:=VY (lim:=a.nx.length) (f:=fA a) (ls:=Ac a.al) (s:=0) d (by omega);obtain⟨e,k,_⟩:=Pu n hp;refine⟨nd,rows,hp,e,k,λq b=>?_,by unfold PR;rw [hp]⟩;obtain⟨w,j,rfl⟩:=e.rc q b
 have key:∀(w:List Int) (q:Int),(∀l∈w,l∈Ac a.al)->0<=q/\q < ((a.nx.length:Nat):Int)->0<=PK (fA a) q w/\PK (fA a) q w < ((a.nx.length:Nat):Int):=λw=>by
  induction w with
  | nil=>exact λq _ b=>b
  | cons l w g=>exact λq hw b=>g _ (λm i=>hw m (by simp [i])) (d q l b (hw l (by simp)))
 exact key w 0 j (by omega)
theorem dU{a:AY}{nd:List Int}{rows:List (List Int)}(h:Vk (fA a) (Ac a.al) 0 nd rows){ac:List Bool}{i:Nat}{q l:Int}(hi:nd[i]? = some q)(b:l∈Ac a.al):Bj ⟨a.al,rows,ac⟩ i l=((nd.idxOf (Bj a q.toNat l):Nat):Int):=by
 have c:=h.row i q hi;have hb:=Au b;unfold Bj;rw [if_pos hb.2.2]
 show (rows.getD i []).getD _ 0=_
 rw [kC,kC,c,lN,d9,OE b,lu,lN];rfl
theorem aQ{nd:List Int}{x:Int}(h:x∈nd):nd[nd.idxOf x]? = some x:=by
 rw [d7 (lD.2 h),mF]
theorem Jt{a:AY}{nd:List Int}{rows:List (List Int)}(h:Vk (fA a) (Ac a.al) 0 nd rows){ac:List Bool}:∀(w:W) {i:Nat} {q:Int},AD (A2 a.al) w->nd[i]? = some q->∃j:Nat,AI ⟨a.al,rows,ac⟩ i w=j/\nd[j]? = some (AI a q w)
 | [],i,q,_,hi=>⟨i,rfl,hi⟩
 | c :: w,i,q,hw,hi=>by
  obtain⟨l,b,rfl⟩:=d8.1 (hw c (by simp));have hb:=Au b;have e:=dU h (ac:=ac) hi b;have f:=h.cl q (co hi) l b;obtain⟨j,m,k⟩:=Jt h (ac:=ac) w (λd g=>hw d (by simp [g])) (aQ f);refine⟨j,?_,?_⟩
  ·show AI _ (Bj _ ((i:Int).toNat) (((lb l).toNat:Int) - 97)) w=_
   rw [Ff hb.1 (by omega),f6,e];exact m
  ·show nd[j]? = some (AI a (Bj a q.toNat (((lb l).toNat:Int) - 97)) w)
   rw [Ff hb.1 (by omega)];exact k
theorem ft{a:AY}(h:Iz a)(f:1<=a.nx.length){w:W}(hw:AD (A2 a.al) w):LA (PR a) w=LA a w:=by
 obtain⟨nd,rows,_,c,_,_,e⟩:=Tw h f;obtain⟨j,b,d⟩:=Jt c (ac:=nd.map (Fy a)) w hw c.st;rw [e];unfold LA;have b:AI ⟨a.al,rows,nd.map (Fy a)⟩ 0 w=(j:Int):=b;rw [b]
 show (nd.map (Fy a)).getD ((j:Int).toNat) false=_
 rw [f6,kC,d9,d];rfl
theorem iz(a:AY):(PR a).al=a.al:=by
 unfold PR;split<;>rfl
theorem kv{a:AY}(h:Iz a)(s:1<=a.nx.length):Iz (PR a)/\1<=(PR a).nx.length/\(PR a).nx.length<=a.nx.length/\(PR a).ac.length=(PR a).nx.length/\∀i,i < (PR a).nx.length->∃w,AD (A2 a.al) w/\AI (PR a) 0 w=(i:Nat):=by
 obtain⟨nd,rows,_,c,A,z,e⟩:=Tw h s;have u:=c.len;have o:=(am.1 c.st).1;have t:=h.1;rw [e];refine⟨⟨?_,λq g=>?_⟩,?_,?_,?_,λi hi=>?_⟩
 ·show rows.length<=64;omega
 ·have g:q < rows.length:=g
  obtain⟨x,d⟩:=get_some (l:=nd) (k:=q) (by omega);refine⟨_,c.row q x d,by simp,λk y b=>?_⟩;rw [d9] at b
  cases hk:(Ac a.al)[k]? with
  | none=>rw [hk] at b;cases b
  | some l=>
   rw [hk] at b
   injection b with b
   have b:((nd.idxOf (fA a x l):Nat):Int)=y:=b;have p:=c.cl x (co d) l (co hk);have:=lD.2 p
   show 0<=y/\y < ((rows.length:Nat):Int)
   omega
 ·show 1<=rows.length;omega
 ·show rows.length<=_;omega
 ·show (nd.map (Fy a)).length=rows.length;rw [gc];omega
 ·have hi:i < rows.length:=hi
  obtain⟨x,d⟩:=get_some (l:=nd) (k:=i) (by omega);obtain⟨w,f,n⟩:=c.rc x (co d);rw [OT w 0 f] at n;obtain⟨j,r,m⟩:=Jt c (ac:=nd.map (Fy a)) (DZ w) (Tx f) c.st;rw [n,<-d] at m;refine⟨DZ w,Tx f,r.trans ?_⟩;have v:=(mO (by omega) c.nodup).1 (m.symm);omega
theorem ZB{n:Int}{row:List Int}{k:Nat}(b:row.length=k)(h:∀(i:Nat) y,row[i]? = some y->0<=y/\y < n):Ef k n row=true:=by
 unfold Ef;rw [d5,f7];refine⟨by simp [b],λx a=>?_⟩;obtain⟨i,hi⟩:=lL.1 a;have:=h i x hi;unfold Oc;exact decide_eq_true this
theorem iI{a:AY}(h:Iz a)(j:1<=a.nx.length)(i:a.nx.length<=12)(hal:BO a.al=true)(e:a.ac.length=a.nx.length):AL a=true:=by
 unfold AL;rw [hal,decide_eq_true (⟨j,i⟩:1<=a.nx.length/\a.nx.length<=12),decide_eq_true e];simp only [lX];rw [f7];intro row d;obtain⟨q,c⟩:=lL.1 d;obtain⟨row',b,g,f⟩:=h.2 q (am.1 c).1
 rw [c] at b;injection b with b;subst b
 exact ZB g f
def Hy(a:AY)(cs:List Int)(q:Nat):List Int:=cs.getD q 0::(a.nx.getD q []).map λx=>cs.getD x.toNat 0
def Cj(a:AY)(cs:List Int):List (List Int):=(List.range a.nx.length).map (Hy a cs)
def Vw(a:AY):Nat->List Int->Nat->List (List Int)
 | 0,cs,_=>Cj a cs
 | k+1,cs,n=>if (uq (Cj a cs)).length=n then Cj a cs else Vw a k (Ec (Cj a cs)) (uq (Cj a cs)).length
def GN(a:AY):List Int:=a.ac.map λb=>if b then 1 else 0
def Ev(a:AY):List (List Int):=Vw a (a.nx.length+1) (GN a) 0
def NS(a:AY):List Int:=Ec (Ev a)
def Sg(a:AY)(q r:Int):Prop:=∀w,AD (A2 a.al) w->Fy a (AI a q w)=Fy a (AI a r w)
theorem Ei(a:AY)(cs:List Int):(Cj a cs).length=a.nx.length:=by simp [Cj]
theorem Bs{a:AY}{cs:List Int}{q:Nat}(h:q < a.nx.length):(Cj a cs)[q]? = some (Hy a cs q):=by simp [Cj,h]
theorem Tk{a:AY}(h:Iz a){q:Nat}(e:q < a.nx.length):a.nx[q]? = some ((Ac a.al).map (Bj a q)):=by
 obtain⟨row,d,g,_⟩:=h.2 q e;rw [d];congr 1;apply lG;intro i;rw [d9]
 cases b:(Ac a.al)[i]? with
 | none=>
  have:=l3.1 b;rw [kE (by omega)];rfl
 | some l=>
  have hb:=Au (co b);have f:=(am.1 b).1;obtain⟨y,c⟩:=get_some (l:=row) (k:=i) (by omega);rw [c,lu];congr 1;unfold Bj;rw [if_pos hb.2.2,Es b,kC,kC,d,lN,c];rfl
theorem LG{a:AY}(h:Iz a){cs:List Int}{q:Nat}(b:q < a.nx.length):Hy a cs q=cs.getD q 0::(Ac a.al).map λl=>cs.getD (Bj a q l).toNat 0:=by
 unfold Hy;rw [EP (Tk h b),lK];rfl
theorem Sg.step{a:AY}{q r:Int}(h:Sg a q r){l:Int}(d:l∈Ac a.al):Sg a (Bj a q.toNat l) (Bj a r.toNat l):=λw hw=>by
 have hb:=Au d
 have f:=h (lb l::w) (λc b=>by
  rcases kw.1 b with rfl|b
  ·exact d8.2 ⟨l,d,rfl⟩
  ·exact hw c b)
 have e:∀p:Int,AI a p (lb l::w)=AI a (Bj a p.toNat l) w:=λp=>by
  show AI a (Bj a p.toNat (((lb l).toNat:Int) - 97)) w=_
  rw [Ff hb.1 (by omega)]
 rw [e,e] at f;exact f
structure cO (a:AY) (ks:List (List Int)):Prop where
 len:ks.length=a.nx.length
 ac:∀q r:Nat,q < a.nx.length->r < a.nx.length->ks[q]? = ks[r]?->Fy a q=Fy a r
 go:∀q r:Nat,q < a.nx.length->r < a.nx.length->ks[q]? = ks[r]?->∀l∈Ac a.al,ks[(Bj a q l).toNat]? = ks[(Bj a r l).toNat]?
 res:∀q r:Nat,q < a.nx.length->r < a.nx.length->Sg a q r->ks[q]? = ks[r]?
theorem cF{a:AY}{cs:List Int}(h:cs.length=a.nx.length):(Cj a cs).map (λk=>k.headD 0)=cs:=by
 apply lG;intro i;rw [d9];by_cases hi:i < a.nx.length
 ·rw [Bs hi,lu]
  show some (cs.getD i 0)=_
  obtain⟨y,b⟩:=get_some (l:=cs) (k:=i) (by omega);rw [kC,b];rfl
 ·rw [kE (by rw [Ei];omega),kE (by omega)];rfl
theorem HE{U:Type}[DecidableEq U]{l:List U}{q:Nat}{x:U}(h:l[q]? = some x):(Ec l).getD q 0=Dn l x:=by
 unfold Ec;rw [kC,d9,h];rfl
theorem Ub{a:AY}(h:Iz a)(z:1<=a.nx.length):∀(k:Nat) {cs:List Int} {n:Nat},cs.length=a.nx.length->
 (∀q r:Nat,q < a.nx.length->r < a.nx.length->Sg a q r->cs.getD q 0=cs.getD r 0)->
 (∀q r:Nat,q < a.nx.length->r < a.nx.length->cs.getD q 0=cs.getD r 0->Fy a q=Fy a r)->
 (n=0\/n=(uq cs).length)->a.nx.length+1<=k+n->cO a (Vw a k cs n)
 | 0,cs,n,t,_,_,w,hk=>by
  have:=HM cs;omega
 | k + 1,cs,n,t,v,p,w,hk=>by
  have o:=cF (a:=a) t
  have d:∀q:Nat,q < a.nx.length->∀l∈Ac a.al,(Bj a q l).toNat < a.nx.length:=λq b l g=>by
   have hb:=Au g;have:=C1 h b hb.1 (by omega);omega
  have i:∀q r:Nat,q < a.nx.length->r < a.nx.length->Sg a q r->Hy a cs q=Hy a cs r:=λq r b c j=>by
   rw [LG h b,LG h c,v q r b c j];congr 1;refine lz λl g=>v _ _ (d q b l g) (d r c l g) ?_;have hb:=Au g;have B:=C1 h b hb.1 (by omega);have A:=C1 h c hb.1 (by omega);have:=j.step g;rw [f6,f6] at this;rw [show (((Bj a q l).toNat:Nat):Int)=Bj a q l by omega,show (((Bj a r l).toNat:Nat):Int)=Bj a r l by omega];exact this
  have u:1<=(uq (Cj a cs)).length:=by
   have:Hy a cs 0∈uq (Cj a cs):=Dc.2 (co (Bs (by omega)));exact List.length_pos_of_mem this
  have m:=TC (λk:List Int=>k.headD 0) (Cj a cs);rw [o] at m;unfold Vw;split
  ·rename_i x
   have y:(uq cs).length=(uq (Cj a cs)).length:=by omega
   have s:∀q r:Nat,q < a.nx.length->r < a.nx.length->cs.getD q 0=cs.getD r 0->Hy a cs q=Hy a cs r:=λq r b c e=>
    eW (f:=λk:List Int=>k.headD 0) (l:=Cj a cs) (by rw [o];omega) (co (Bs b)) (co (Bs c)) e
   refine⟨Ei _ _,λq r b c e=>?_,λq r b c e l g=>?_,λq r b c e=>?_⟩
   ·rw [Bs b,Bs c] at e
    injection e with e
    refine p q r b c ?_;unfold Hy at e;injection e
   ·rw [Bs b,Bs c] at e
    injection e with e
    rw [LG h b,LG h c] at e
    injection e with _ e
    rw [Bs (d q b l g),Bs (d r c l g)];congr 1;exact s _ _ (d q b l g) (d r c l g) (ma.1 e l g)
   ·rw [Bs b,Bs c,i q r b c e]
  ·rename_i x
   refine Ub h z k (by simp [Ec,Ei]) (λq r b c e=>?_) (λq r b c e=>?_) (.inr (Vi _).symm) (by omega)
   ·rw [HE (Bs b),HE (Bs c),i q r b c e]
   ·rw [HE (Bs b),HE (Bs c)] at e
    have e:=MO (co (Bs b)) e;refine p q r b c ?_;unfold Hy at e;injection e
theorem JY{a:AY}(h:Iz a)(j:1<=a.nx.length)(i:a.ac.length=a.nx.length):cO a (Ev a):=by
 have f:∀q:Nat,q < a.nx.length->(GN a).getD q 0=if Fy a q then 1 else 0:=λq d=>by
  obtain⟨b,hb⟩:=get_some (l:=a.ac) (k:=q) (by omega);unfold GN Fy;rw [kC,d9,hb,f6,kC,hb];rfl
 refine Ub h j _ (by simp [GN,i]) (λq r d g e=>?_) (λq r d g e=>?_) (.inl rfl) (by omega)
 ·have e:Fy a q=Fy a r:=e [] (λc m=>by cases m)
  rw [f q d,f r g,e]
 ·rw [f q d,f r g] at e
  cases j:Fy a q<;>cases n:Fy a r<;>rw [j,n] at e<;>first|rfl|cases e
theorem cO.run{a:AY}(g:Iz a){ks:List (List Int)}(h:cO a ks):∀(w:W) (q r:Nat),q < a.nx.length->r < a.nx.length->ks[q]? = ks[r]?->AD (A2 a.al) w->Fy a (AI a q w)=Fy a (AI a r w)
 | [],q,r,f,b,e,_=>h.ac q r f b e
 | c::w,q,r,f,b,e,hw=>by
  obtain⟨l,j,rfl⟩:=d8.1 (hw c (by simp));have hb:=Au j;have n:=C1 g f hb.1 (by omega);have m:=C1 g b hb.1 (by omega);have i:=cO.run g h w (Bj a q l).toNat (Bj a r l).toNat (by omega) (by omega) (h.go q r f b e l j) λd k=>hw d (by simp [k]);rw [show (((Bj a q l).toNat:Nat):Int)=Bj a q l by omega,show (((Bj a r l).toNat:Nat):Int)=Bj a r l by omega] at i
  show Fy a (AI a (Bj a ((q:Int).toNat) (((lb l).toNat:Int) - 97)) w)=Fy a (AI a (Bj a ((r:Int).toNat) (((lb l).toNat:Int) - 97)) w)
  rw [Ff hb.1 (by omega),f6,f6];exact i
theorem cO.iff{a:AY}(d:Iz a){ks:List (List Int)}(h:cO a ks){q r:Nat}(c:q < a.nx.length)(b:r < a.nx.length):ks[q]? = ks[r]?↔Sg a q r:=
 ⟨λe w hw=>h.run d w q r c b e hw,h.res q r c b⟩
def FM(a:AY)(q:Int):Int:=(NS a).getD q.toNat 0
def Cf(a:AY)(k:Nat):AY:=⟨a.al,(Bl (Ev a) k).map λq=>(a.nx.getD q []).map (FM a),(Bl (Ev a) k).map λq=>a.ac.getD q false⟩
def Dp(a:AY):AY:=Cf a a.nx.length
def CP(a:AY):AY:=PR (Dp a)
structure Gg (a:AY):Prop where
 b:Iz a
 n1:1<=a.nx.length
 ac:a.ac.length=a.nx.length
theorem FJ{a:AY}(h:AL a=true):Gg a:=by
 have:=Ax h;exact⟨TY h,this.2.1,this.2.2.2⟩
theorem Gg.dE{a:AY}(h:Gg a):∀(w:W) {q:Int},AD (A2 a.al) w->0<=q/\q < ((a.nx.length:Nat):Int)->0<=AI a q w/\AI a q w < ((a.nx.length:Nat):Int)
 | [],q,_,d=>d
 | c::w,q,hw,d=>by
  have e:=GW (hw c (by simp));exact Gg.dE h w (λx f=>hw x (by simp [f])) (C1 h.b (q:=q.toNat) (by omega) e.1 e.2)
theorem FF(a:AY)(w:W):LA a w=Fy a (AI a 0 w):=rfl
section
variable {a:AY}(h:Gg a)
include h
theorem Hr{q:Nat}(f:q < a.nx.length):∃x,(Ev a)[q]? = some x/\FM a q=Dn (Ev a) x/\0<=FM a q/\FM a q < ((Dp a).nx.length:Nat):=by
 have d:=JY h.b h.n1 h.ac;obtain⟨x,c⟩:=get_some (l:=Ev a) (k:=q) (by have:=d.len;omega)
 have e:FM a q=Dn (Ev a) x:=by unfold FM NS;rw [f6];exact HE c
 have i:=LM (co c)
 have g:(Dp a).nx.length=(uq (Ev a)).length:=by
  unfold Dp Cf;simp only [gc];rw [CQ,kD (by have:=d.len;omega)]
 exact⟨x,c,e,by omega,by omega⟩
theorem Pb{q r:Nat}(f:q < a.nx.length)(d:r < a.nx.length):FM a q=FM a r↔Sg a q r:=by
 have i:=JY h.b h.n1 h.ac;obtain⟨x,c,e,_⟩:=Hr h f;obtain⟨y,g,j,_⟩:=Hr h d;rw [<-i.iff h.b f d,e,j,c,g];exact⟨λk=>by rw [MO (co c) k],λk=>by injection k with k;rw [k]⟩
theorem Qn:FM a 0=0:=by
 have c:=h.n1;obtain⟨x,b,e,_⟩:=Hr h (q:=0) (by omega);have:=(LK b).2 (by simp [uq,uniq]);have e:FM a 0=Dn (Ev a) x:=e;rw [e,this];rfl
theorem Zr{q:Nat}(g:q < a.nx.length):∃r:Nat,r < a.nx.length/\(Bl (Ev a) a.nx.length)[(FM a q).toNat]? = some r/\Sg a q r:=by
 have j:=JY h.b h.n1 h.ac;obtain⟨x,d,e,p,o⟩:=Hr h g
 have i:(Dp a).nx.length=(Bl (Ev a) a.nx.length).length:=by simp [Dp,Cf]
 obtain⟨r,f⟩:=get_some (l:=Bl (Ev a) a.nx.length) (k:=(FM a q).toNat) (by omega);obtain⟨m,y,n,c⟩:=En _ _ _ _ f;rw [kD (by have:=j.len;omega)] at c;rw [e,MN (co d)] at c
 injection c with c
 subst c;exact⟨r,m,f,(j.iff h.b g m).1 (d.trans n.symm)⟩
theorem UM{i:Nat}(hi:i < (Dp a).nx.length):∃r:Nat,r < a.nx.length/\FM a r=i:=by
 have n:=JY h.b h.n1 h.ac
 have d:(Dp a).nx.length=(Bl (Ev a) a.nx.length).length:=by simp [Dp,Cf]
 obtain⟨r,m⟩:=get_some (l:=Bl (Ev a) a.nx.length) (k:=i) (by omega);obtain⟨g,y,c,f⟩:=En _ _ _ _ m;rw [kD (by have:=n.len;omega)] at f;obtain⟨x,j,e,_⟩:=Hr h g
 rw [j] at c;injection c with c;subst c
 refine⟨r,g,?_⟩;rw [e];exact Uu f
theorem eD:Gg (Dp a)/\(Dp a).nx.length<=a.nx.length:=by
 have n:=JY h.b h.n1 h.ac;have hb:=h.b
 have m:(Dp a).nx.length=(uq (Ev a)).length:=by
  unfold Dp Cf;simp only [gc];rw [CQ,kD (by have:=n.len;omega)]
 have z:=HM (Ev a);have w:=n.len;have v:=h.n1;obtain⟨x,u,e,B,A⟩:=Hr h (q:=0) (by omega);refine⟨⟨⟨by have:=hb.1;omega,λq f=>?_⟩,by omega,by simp [Dp,Cf]⟩,by omega⟩;have f:q < ((Bl (Ev a) a.nx.length).map λq=>(a.nx.getD q []).map (FM a)).length:=f;rw [gc] at f;obtain⟨r,j⟩:=get_some f;obtain⟨s,_⟩:=En _ _ _ _ j;have d:=Tk hb s;refine⟨((Ac a.al).map (Bj a r)).map (FM a),?_,by simp;rfl,λk y c=>?_⟩
 ·show ((Bl (Ev a) a.nx.length).map _)[q]? = _
  rw [d9,j,lu,EP d]
 ·rw [d9,d9] at c
  cases i:(Ac a.al)[k]? with
  | none=>rw [i] at c;cases c
  | some l=>
   rw [i] at c
   injection c with c
   have g:=Au (co i);have t:=C1 hb s g.1 (by omega);obtain⟨_,_,_,p,o⟩:=Hr h (q:=(Bj a r l).toNat) (by omega);rw [show (((Bj a r l).toNat:Nat):Int)=Bj a r l by omega] at p o;subst c;exact⟨p,o⟩
theorem Zn{q:Nat}(g:q < a.nx.length){l:Int}(f:l∈Ac a.al):Bj (Dp a) (FM a q).toNat l=FM a (Bj a q l):=by
 obtain⟨r,j,m,k⟩:=Zr h g;have c:=Au f;have d:=Tk h.b j
 have e:Bj (Dp a) (FM a q).toNat l=FM a (Bj a r l):=by
  unfold Bj;rw [show Eg (Dp a).al l.toNat=true from c.2.2,c.2.2,if_pos rfl,if_pos rfl]
  show (((Bl (Ev a) a.nx.length).map λq=>(a.nx.getD q []).map (FM a)).getD _ []).getD _ 0=_
  rw [kC,kC,d9,m,lu,lN,d9,EP d]
  show Option.getD (Option.map (FM a) ((Ac a.al).map (Bj a r))[(Ay a.al l.toNat).length]?) 0=FM a (((Ac a.al).map (Bj a r)).getD (Ay a.al l.toNat).length 0)
  rw [kC,d9,OE f];rfl
 rw [e];have o:=C1 h.b g c.1 (by omega);have n:=C1 h.b j c.1 (by omega);have i:=k.step f;rw [f6,f6] at i
 have:=(Pb h (q:=(Bj a r l).toNat) (r:=(Bj a q l).toNat) (by omega) (by omega)).2 (by
  rw [show (((Bj a r l).toNat:Nat):Int)=Bj a r l by omega,show (((Bj a q l).toNat:Nat):Int)=Bj a q l by omega]
  exact λw hw=>(i w hw).symm)
 rw [show (((Bj a r l).toNat:Nat):Int)=Bj a r l by omega,show (((Bj a q l).toNat:Nat):Int)=Bj a q l by omega] at this;exact this
theorem Zm{q:Nat}(b:q < a.nx.length):Fy (Dp a) (FM a q)=Fy a q:=by
 obtain⟨r,i,g,f⟩:=Zr h b;have e:Fy a q=Fy a r:=f [] (λc d=>by cases d);rw [e];unfold Fy
 show ((Bl (Ev a) a.nx.length).map λq=>a.ac.getD q false).getD _ false=_
 rw [kC,d9,g,f6];rfl
theorem UJ:∀(w:W) {q:Nat},q < a.nx.length->AD (A2 a.al) w->AI (Dp a) (FM a q) w=FM a (AI a q w)
 | [],q,_,_=>rfl
 | c::w,q,g,hw=>by
  obtain⟨l,i,rfl⟩:=d8.1 (hw c (by simp));have e:=Au i;have k:=C1 h.b g e.1 (by omega);have f:=UJ w (q:=(Bj a q l).toNat) (by omega) λd j=>hw d (by simp [j]);rw [show (((Bj a q l).toNat:Nat):Int)=Bj a q l by omega] at f
  show AI (Dp a) (Bj (Dp a) (FM a q).toNat (((lb l).toNat:Int) - 97)) w=FM a (AI a (Bj a ((q:Int).toNat) (((lb l).toNat:Int) - 97)) w)
  rw [Ff e.1 (by omega),f6,Zn h g i];exact f
theorem PH{q:Nat}(b:q < a.nx.length){w:W}(hw:AD (A2 a.al) w):Fy (Dp a) (AI (Dp a) (FM a q) w)=Fy a (AI a q w):=by
 have:=h.dE w (q:=(q:Int)) hw (by omega);rw [UJ h w b hw];have e:=Zm h (q:=(AI a q w).toNat) (by omega);rwa [show (((AI a q w).toNat:Nat):Int)=AI a q w by omega] at e
theorem eE{w:W}(hw:AD (A2 a.al) w):LA (Dp a) w=LA a w:=by
 have b:=h.n1;have:=PH h (q:=0) (by omega) hw;rw [show (((0:Nat):Int))=0 from rfl,Qn h] at this;exact this
theorem eF{i j:Nat}(hi:i < (Dp a).nx.length)(e:j < (Dp a).nx.length)(c:Sg (Dp a) i j):i=j:=by
 obtain⟨q,d,g⟩:=UM h hi;obtain⟨r,b,f⟩:=UM h e;rw [<-g,<-f] at c
 have:=(Pb h d b).2 λw hw=>by
  have:=c w hw;rwa [PH h d hw,PH h b hw] at this
 omega
end
structure fv (a m:AY):Prop where
 al:m.al=a.al
 g:Gg m
 n2:m.nx.length<=a.nx.length
 lang:∀w,AD (A2 a.al) w->LA m w=LA a w
 rc:∀i:Nat,i < m.nx.length->∃w,AD (A2 a.al) w/\AI m 0 w=i
 ds:∀i j:Nat,i < m.nx.length->j < m.nx.length->Sg m i j->i=j
theorem iA{a:AY}(h:Gg a)(t:∀i j:Nat,i < a.nx.length->j < a.nx.length->Sg a i j->i=j){i j:Nat}(hi:i < (PR a).nx.length)(f:j < (PR a).nx.length)(n:Sg (PR a) i j):i=j:=by
 obtain⟨nd,rows,_,g,B,o,e⟩:=Tw h.b h.n1;have A:=g.len;rw [e] at hi f n;have hi:i < rows.length:=hi;have f:j < rows.length:=f;obtain⟨x,d⟩:=get_some (l:=nd) (k:=i) (by omega);obtain⟨y,c⟩:=get_some (l:=nd) (k:=j) (by omega)
 have key:∀ {k:Nat} {z:Int},nd[k]? = some z->∀ {w:W},AD (A2 a.al) w->Fy ⟨a.al,rows,nd.map (Fy a)⟩ (AI ⟨a.al,rows,nd.map (Fy a)⟩ k w)=Fy a (AI a z w):=λ{k z} p {w} hw=>by
  obtain⟨m,v,u⟩:=Jt g (ac:=nd.map (Fy a)) w hw p;rw [v]
  show (nd.map (Fy a)).getD ((m:Int).toNat) false=_
  rw [f6,kC,d9,u];rfl
 have s:=o x (co d);have q:=o y (co c)
 have r:=t x.toNat y.toNat (by omega) (by omega) λw hw=>by
  have:=n w hw;rw [key d hw,key c hw] at this;rw [show ((x.toNat:Nat):Int)=x by omega,show ((y.toNat:Nat):Int)=y by omega];exact this
 obtain rfl:x=y:=by omega
 exact(mO (by omega) g.nodup).1 (d.trans c.symm)
theorem Kp{a:AY}(h:Gg a):fv a (CP a):=by
 obtain⟨c,n⟩:=eD h;obtain⟨l,k,m,g,f⟩:=kv c.b c.n1;unfold CP;exact⟨iz _,⟨l,k,g⟩,by omega,λw hw=>by rw [ft c.b c.n1 hw];exact eE h hw,f,λi j hi e d=>iA c (λi j hi e d=>eF h hi e d) hi e d⟩
theorem canon{a x:AY}(h:Gg a)(J:Gg x)(hal:x.al=a.al)(lang:∀w,AD (A2 a.al) w->LA x w=LA a w)(rc:∀i:Nat,i < x.nx.length->∃w,AD (A2 a.al) w/\AI x 0 w=i)(ds:∀i j:Nat,i < x.nx.length->j < x.nx.length->Sg x i j->i=j):PR x=CP a:=by
 obtain⟨P,g2⟩:=eD h;have hn1:=h.n1;have B:=J.n1
 obtain⟨wd,d⟩:∃wd:Int->W,∀i:Int,0<=i/\i < ((x.nx.length:Nat):Int)->AD (A2 a.al) (wd i)/\AI x 0 (wd i)=i:=by
  refine⟨λi=>if hi:0<=i/\i < ((x.nx.length:Nat):Int) then Classical.choose (rc i.toNat (by omega)) else [],λi hi=>?_⟩;have:=mV (rc i.toNat (by omega));simp only [hi,and_self,dite_true];exact⟨this.1,by rw [this.2];omega⟩
 have k:∀ {w:W},AD (A2 a.al) w->0<=AI a 0 w/\AI a 0 w < ((a.nx.length:Nat):Int):=λhw=>h.dE _ hw (by omega)
 have H:∀ {u v:W},AD (A2 a.al) u->AD (A2 a.al) v->AD (A2 a.al) (u++v):=λhu hv c n=>by
  rcases em.1 n with n|n
  ·exact hu c n
  ·exact hv c n
 have t:∀ {p q:Int},(0<=p/\p < ((a.nx.length:Nat):Int))->(0<=q/\q < ((a.nx.length:Nat):Int))->(FM a p=FM a q↔Sg a p q):=λ{p q} hp F=>by
  have:=Pb h (q:=p.toNat) (r:=q.toNat) (by omega) (by omega);rwa [show ((p.toNat:Nat):Int)=p by omega,show ((q.toNat:Nat):Int)=q by omega] at this
 have m:∀ {i:Int} {w:W},(0<=i/\i < ((x.nx.length:Nat):Int))->AD (A2 a.al) w->Fy a (AI a (AI a 0 (wd i)) w)=Fy x (AI x i w):=λ{i w} hi hw=>by
  obtain⟨A,I⟩:=d i hi;have:=lang (wd i++w) (H A hw);rw [FF,FF,Cg,Cg,I] at this;exact this.symm
 have K:Ac x.al=Ac a.al:=by rw [hal]
 have M:∀q l:Int,(0<=q/\q < ((x.nx.length:Nat):Int))->l∈Ac a.al->0<=fA x q l/\fA x q l < ((x.nx.length:Nat):Int):=λq l F z=>by
  have o:=Au z;exact C1 J.b (q:=q.toNat) (by omega) o.1 (by omega)
 have iso:=YJ (lim:=x.nx.length+(Dp a).nx.length) (f:=fA x) (g:=fA (Dp a)) (ls:=Ac a.al) (R:=λi=>0<=i/\i < ((x.nx.length:Nat):Int)) (φ:=λi=>FM a (AI a 0 (wd i))) (s:=0)
  (λi j hi T e=>by
   have e2:=(t (k (d i hi).1) (k (d j T).1)).1 e
   have:=ds i.toNat j.toNat (by omega) (by omega) λw hw=>by
    rw [hal] at hw;rw [show ((i.toNat:Nat):Int)=i by omega,show ((j.toNat:Nat):Int)=j by omega,<-m hi hw,<-m T hw];exact e2 w hw
   omega)
  (λq l F z=>by
   have o:=Au z;have A:=M q l F z;refine⟨A,?_⟩;have I:=k (d q F).1;have X:=Zn h (q:=(AI a 0 (wd q)).toNat) (by omega) z;rw [show (((AI a 0 (wd q)).toNat:Nat):Int)=AI a 0 (wd q) by omega] at X
   show _=Bj (Dp a) (FM a (AI a 0 (wd q))).toNat l
   rw [X];have h4:=C1 h.b (q:=(AI a 0 (wd q)).toNat) (by omega) o.1 (by omega);refine(t (k (d _ A).1) h4).2 λw hw=>?_;rw [m A hw]
   have N:AD (A2 a.al) (lb l::w):=λc n=>by
    rcases kw.1 n with rfl|n
    ·exact d8.2 ⟨l,z,rfl⟩
    ·exact hw c n
   have V:=m F N
   have e:∀(y:AY) (p:Int),AI y p (lb l::w)=AI y (Bj y p.toNat l) w:=λy p=>by
    show AI y (Bj y p.toNat (((lb l).toNat:Int) - 97)) w=_
    rw [Ff o.1 (by omega)]
   rw [e,e] at V
   exact V.symm)
  (show (0:Int)<=0/\(0:Int) < ((x.nx.length:Nat):Int) by omega)
 have e0:FM a (AI a 0 (wd 0))=0:=by
  refine Eq.trans ?_ (Qn h)
  have Y:(0:Int)<=0/\(0:Int) < ((x.nx.length:Nat):Int):=by omega
  refine(t (q:=0) (k (d 0 Y).1) (by omega)).2 λw hw=>?_;rw [m Y hw];exact lang w hw
 simp only [e0] at iso;obtain⟨nd,rows,Q,n2,n3,n4,n5⟩:=Tw J.b B;obtain⟨nd',rows',S,m2,m3,m4,m5⟩:=Tw P.b P.n1;rw [K] at Q;have L:Ac (Dp a).al=Ac a.al:=rfl;rw [L] at S;obtain⟨_,_,Z⟩:=Pu B Q;obtain⟨_,_,m6⟩:=Pu P.n1 S;rw [Z _ (by omega),m6 _ (by omega)] at iso;simp only [lu,Option.some.injEq,Prod.mk.injEq] at iso;obtain⟨i1,i2⟩:=iso;unfold CP;rw [n5,m5,i1,i2,lK]
 have e:nd.map (Fy x)=nd.map (Fy (Dp a)∘λi=>FM a (AI a 0 (wd i))):=lz λi hi=>by
  have G:=n4 i hi;have A:=k (d i G).1;have I:=Zm h (q:=(AI a 0 (wd i)).toNat) (by omega);rw [show (((AI a 0 (wd i)).toNat:Nat):Int)=AI a 0 (wd i) by omega] at I
  show Fy x i=Fy (Dp a) (FM a (AI a 0 (wd i)))
  rw [I];exact(m G (w:=[]) (λc n=>by cases n)).symm
 rw [e]
 show (⟨x.al,_,_⟩:AY)=⟨a.al,_,_⟩
 rw [hal]
theorem eQ{x:AY}(c:Gg x)(rc:∀i:Nat,i < x.nx.length->∃w,AD (A2 x.al) w/\AI x 0 w=i):(PR x).nx.length=x.nx.length:=by
 obtain⟨nd,rows,o,a,n,k,f⟩:=Tw c.b c.n1;have p:=a.len
 have key:∀i:Nat,i < x.nx.length->(i:Int)∈nd:=λi hi=>by
  obtain⟨w,hw,e⟩:=rc i hi;obtain⟨j,q,d⟩:=Jt a (ac:=[]) w hw a.st;rw [e] at d;exact co d
 have := Em (l:=(List.range x.nx.length).map Int.ofNat) (m:=nd) (by
  unfold List.Nodup;rw [lF]
  exact List.nodup_range.imp λh e=>h (by injection e)) λy g=>by
   obtain⟨i,hi,rfl⟩:=d8.1 g;exact key i (kB.1 hi)
 rw [f]
 show rows.length=_
 simp at this;omega
def DM(n:Nat):W:=if n < 10 then [UInt8.ofNat (48+n)] else [UInt8.ofNat (48+n / 10),UInt8.ofNat (48+n % 10)]
def DE(l:List Int):W:=l.flatMap λx=>44::DM x.toNat
def Sz:List Int->W
 | []=>[]
 | c::l=>DM c.toNat++DE l
theorem Qr:((List.range 100).all λn=>(List.range 100).all λm=>decide (DM n=DM m->n=m) && !(DM n).contains 44)=true:=by decide +kernel
theorem Qq{n m:Nat}(b:n < 100)(c:m < 100)(h:DM n=DM m):n=m:=by
 have a:=f7.1 (f7.1 Qr n (kB.2 b)) m (kB.2 c);rw [d5] at a;exact of_decide_eq_true a.1 h
theorem Lz{n:Nat}(a:n < 100):(44:UInt8)∉DM n:=λh=>by
 have c:=f7.1 (f7.1 Qr n (kB.2 a)) n (kB.2 a);rw [d5] at c;have b:=c.2;simp at b;exact b h
theorem Sq{c:UInt8}:∀ {u v x y:W},c∉u->c∉v->(x=[]\/∃z,x=c::z)->(y=[]\/∃z,y=c::z)->u++x=v++y->u=v/\x=y
 | [],[],x,y,_,_,_,_,h=>⟨rfl,h⟩
 | [],d::v,x,y,_,f,b,_,h=>by
  exfalso;have h:x=d::(v++y):=h
  rcases b with rfl|⟨z,rfl⟩
  ·cases h
  ·injection h with h _
   exact f (by rw [h];simp)
 | d :: u,[],x,y,g,_,_,a,h=>by
  exfalso;have h:d::(u++x)=y:=h
  rcases a with rfl|⟨z,rfl⟩
  ·cases h
  ·injection h with h _
   exact g (by rw [h];simp)
 | d::u,e::v,x,y,g,f,b,a,h=>by
  have h:d::(u++x)=e::(v++y):=h
  injection h with m l
  obtain⟨k,j⟩:=Sq (λi=>g (by simp [i])) (λi=>f (by simp [i])) b a l;exact⟨by rw [m,k],j⟩
theorem Ii(l:List Int):DE l=[]\/∃z,DE l=44::z:=by
 cases l with
 | nil=>exact .inl rfl
 | cons x l=>exact .inr ⟨_,rfl⟩
theorem OW:∀ {l m:List Int},(∀x∈l,0<=x/\x < 100)->(∀x∈m,0<=x/\x < 100)->DE l=DE m->l=m
 | [],[],_,_,_=>rfl
 | [],_::_,_,_,h=>by cases h
 | _::_,[],_,_,h=>by cases h
 | x::l,y::m,c,b,h=>by
  have h:44::(DM x.toNat++DE l)=44::(DM y.toNat++DE m):=h
  injection h with _ h
  have g:=c x (by simp);have f:=b y (by simp);obtain⟨e,d⟩:=Sq (Lz (by omega)) (Lz (by omega)) (Ii l) (Ii m) h;have:=Qq (by omega) (by omega) e;rw [show x=y by omega,OW (λz a=>c z (by simp [a])) (λz a=>b z (by simp [a])) d]
theorem XY{k k':List Int}(hk:∀x∈k,0<=x/\x < 100)(a:∀x∈k',0<=x/\x < 100)(f:k≠[])(e:k'≠[])(h:Sz k=Sz k'):k=k':=by
 cases k with
 | nil=>exact absurd rfl f
 | cons x l=>
  cases k' with
  | nil=>exact absurd rfl e
  | cons y m=>
   have i:=hk x (by simp);have g:=a y (by simp);obtain⟨d,c⟩:=Sq (Lz (by omega)) (Lz (by omega)) (Ii l) (Ii m) h;have:=Qq (by omega) (by omega) d;rw [show x=y by omega,OW (λz b=>hk z (by simp [b])) (λz b=>a z (by simp [b])) c]
section
variable {U β:Type}[DecidableEq U][DecidableEq β]
theorem NG{f:U->β}:∀(l u:List U),(∀x y,x∈u++l->y∈u++l->f x=f y->x=y)->uniq (u.map f) (l.map f)=(uniq u l).map f
 | [],u,_=>rfl
 | x :: l,u,h=>by
  have d:f x∈u.map f↔x∈u:=by
   constructor
   ·intro a
    obtain⟨y,b,e⟩:=d8.1 a;rwa [<-h y x (by simp [b]) (by simp) e]
   ·intro a;exact d8.2 ⟨x,a,rfl⟩
  show uniq (if f x∈u.map f then u.map f else u.map f++[f x]) (l.map f)=(uniq (if x∈u then u else u++[x]) l).map f
  by_cases a:x∈u
  ·rw [if_pos (d.2 a),if_pos a]
   exact NG l u λy z b c=>h y z (by
    rcases em.1 b with h|h<;>simp [h]) (by
    rcases em.1 c with h|h<;>simp [h])
  ·rw [if_neg (λe=>a (d.1 e)),if_neg a]
   have e:u.map f++[f x]=(u++[x]).map f:=by simp
   rw [e];exact NG l (u++[x]) λy z b c=>h y z (by simpa [or_assoc] using b) (by simpa [or_assoc] using c)
theorem ZU{f:U->β}{l:List U}(h:∀x y,x∈l->y∈l->f x=f y->x=y):uq (l.map f)=(uq l).map f:=by
 have:=NG l [] (f:=f) (by simpa using h);exact this
theorem YI{f:U->β}{l:List U}(h:∀x y,x∈l->y∈l->f x=f y->x=y){x:U}(a:x∈l):Dn (l.map f) (f x)=Dn l x:=by
 have c:=MN a
 have b:(uq (l.map f))[(Dn l x).toNat]? = some (f x):=by rw [ZU h,d9,c];rfl
 have:=Uu b;have d:=LM a;omega
theorem YK{f:U->β}{l:List U}(h:∀x y,x∈l->y∈l->f x=f y->x=y):Ec (l.map f)=Ec l:=by
 unfold Ec;rw [lK];exact lz λx a=>YI h a
end
end Go.Am
namespace Go.Am
open Go Go.Proofs
set_option maxHeartbeats 1000000
set_option maxRecDepth 4000
attribute [local irreducible] AU BZ Lex Br Aj Spec
variable {TB:Bp}
def fT(o:Option (List Int×List (List Int))):E:=match o with
 | some p=>.t [(false,[.d (EK p.1)]),(false,[.d (Da p.2)]),(false,[.d (bD true)])]
 | none=>.t [(false,[.d (.l [])]),(false,[.d (.l [])]),(false,[.d (bD false)])]
theorem QY{lim:Nat}{f:Int->Int->Int}{ls:List Int}{s0:Int}{g:FuncId}{caps:List C}{R:Int->Prop}(h1:1<=lim/\lim<=64)(hll:ls.length<=6)(hs:R s0)(hR:∀q l,R q->l∈ls->R (f q l))
 (hg:∀q l,R q->l∈ls->Pure Tryz.prog TB g ([eI .i64 q,eI .i64 l]++caps.map .o) (eI .i64 (f q l))) (hc:C.CA caps=true) (c:∀r,C.BH r caps=caps) :
 Pure Tryz.prog TB 111 [eI .i64 s0,AW ls,eI .i64 lim,.o (.fn g caps)] (fT (Oa lim f ls s0)):=by
 unfold Oa;generalize X:Gl lim f ls lim [s0] []=A;refine eG Tryz.func111 rfl (by kernel_rfl) rfl ?_;intro Γ e;(repeat first|refine tX rfl ?_ |refine aU rfl ?_ |refine Aa ?_);(refine pW rfl ?_ rfl (by rfl);refine Bg rfl rfl rfl rfl (by simp [eC]) (by rfl) (by rfl) (by rfl) (by rfl) ?_);(repeat first|refine tX rfl ?_ |refine aU rfl ?_ |refine Aa ?_);(refine pW rfl ?_ rfl (by rfl);refine HZ ?_);(repeat first|refine tA rfl ?_);(refine Ag rfl ?_;refine Fo ?_ rfl (by rfl);refine dM (YF (l:=[]) rfl rfl rfl rfl rfl ?_));(repeat first|refine tM rfl ?_ |refine aU rfl ?_ |refine Aa ?_);(refine pW rfl ?_ rfl (by rfl);refine Js 1 53 ?_);(repeat first|refine tM rfl ?_ |refine aU rfl ?_ |refine Aa ?_);refine aB ?_;refine aL (U:={z:List Int×List (List Int) // Gl lim f ls (lim - z.2.length) z.1 z.2=A/\z.2.length<=z.1.length/\1<=z.1.length/\z.1.length<=lim/\∀q∈z.1,R q}) [1,2,3,12] [] rfl rfl (λs=>[(11,.o (.arr 0 1 0 s.1.1.length)),(13,.o (.arr 2 1 0 s.1.2.length)),(14,eI .i64 s.1.2.length)]) (λs=>[(0,.cells 3 1 (s.1.1.map AE)),(1,.mp (IQ (SV s.1.1))),(2,.cells 53 1 (s.1.2.map λr=>[.d (EK r)]))]) 3 (λs=>lim - s.1.2.length) (⟨⟨[s0],[]⟩,by simpa using X,by simp,by simp,by simpa using h1.1,by simpa using hs⟩) e rfl (by (simp[cX,zC,e,c,eC,BC,Af,SV])) ?_;rintro⟨⟨nd,rows⟩,u,G,H,F,w⟩;(try dsimp only[cA,cB]);have u:Gl lim f ls (lim - rows.length) nd rows=A:=u;have G:rows.length<=nd.length:=G;have H:1<=nd.length:=H;have F:nd.length<=lim:=F;have w:∀q∈nd,R q:=w;by_cases N:rows.length < nd.length
 ·obtain⟨q,M⟩:=get_some N
  obtain⟨k,hk⟩:∃k,lim - rows.length=k+1:=⟨lim - rows.length - 1,by omega⟩
  rw [hk] at u;simp only [Gl,M] at u;generalize T:Fj lim f q nd [] ls=B at u;have L:=w q (co M);(repeat first|refine tA rfl ?_ |refine s2 rfl λ_ b=>?_ |refine aU rfl ?_ |refine Aa ?_)
  ((refine aC rfl ?_ ?_<;>rintro⟨⟩);all_goals try(exfalso;(simp only[oZ] at *;omega)))
  refine aK ?_;refine aS (aB ?_);(repeat first|refine aU rfl ?_);(refine pW rfl ?_ rfl (by rfl);refine Js 1 3 ?_);(repeat first|refine sN rfl ?_ |refine tM rfl ?_ |refine aU rfl ?_ |refine Aa ?_);refine aB ?_;refine aL (U:={z:(List Int×List Int)×Nat // z.2<=ls.length/\Fj lim f q z.1.1 z.1.2 (ls.drop z.2)=B/\z.1.2.length=z.2/\nd.length<=z.1.1.length/\z.1.1.length<=lim/\(∀q∈z.1.1,R q)/\z.1.1[rows.length]? = some q}) [1,2,3,12,13,14,32,33] [2] rfl rfl (λs=>[(11,.o (.arr 0 1 0 s.1.1.1.length)),(15,.o (.arr 3 1 0 s.1.2)),(34,eI .i64 s.1.2)]) (λs=>[(0,.cells 3 1 (s.1.1.1.map AE)),(1,.mp (IQ (SV s.1.1.1))),(3,.cells 3 1 (s.1.1.2.map AE))]) 4 (λs=>ls.length - s.1.2) (⟨⟨⟨nd,[]⟩,0⟩,by simp,T,rfl,i7 _,F,w,M⟩) e rfl (by (simp[cX,zC,e,c,eC,BC,Af,Jn])) ?_;rintro⟨⟨⟨a,row⟩,j⟩,Y,i,m,x,v,t,n⟩;(try dsimp only[cA,cB]);have Y:j<=ls.length:=Y;have i:Fj lim f q a row (ls.drop j)=B:=i;have m:row.length=j:=m;have x:nd.length<=a.length:=x;have v:a.length<=lim:=v;have t:∀q∈a,R q:=t;have n:a[rows.length]? = some q:=n;by_cases Q:j < ls.length
  ·obtain⟨l,P⟩:=get_some Q
   have hl':=get_map (g:=CN) P;have I:=co P;have hf:=hg q l L I;have S:=hR q l L I
   have hq':(a.map AE)[0+((rows.length:Nat):Int).toNat]? = some (AE q):=by rw [kG,f6];simp [n]
   rw [CX P] at i;simp only [Fj] at i;have p:=Vz a (f q l);generalize f q l=y at *;(repeat first|refine s2 rfl λ_ b=>?_ |refine aU rfl ?_ |refine Aa ?_)
   ((refine aC rfl ?_ ?_<;>rintro⟨⟩);all_goals try(exfalso;(simp only[oZ] at *;omega)))
   refine aK ?_;refine aS (aB ?_);(repeat first|((first|refine sA rfl ?_ ?_|refine s4 rfl ‹_› rfl ?_ ?_);first|exact tI|omega)|(refine Ag rfl ?_;refine gA rfl ?_;first| refine gS (λ_ _=>Bu rfl rfl (by simp [E.Bz,C.Bz,C.CA,hc]) hf rfl) ?_) |refine aU rfl ?_ |refine Aa ?_);by_cases J:y∈a
   ·rw [if_pos J] at i p
    (repeat first|refine tA rfl ?_ |refine s2 rfl λ_ b=>?_|(refine Ag rfl ?_;refine gA rfl ?_;first| refine gQ (Zh p rfl rfl rfl) rfl ?_) |refine aU rfl ?_ |refine Aa ?_)
    ((refine aC rfl ?_ ?_<;>rintro⟨⟩);all_goals try (simp at b;done))
    refine aK ?_;(repeat first|refine tA rfl ?_ |refine aU rfl ?_);(refine pW rfl ?_ rfl (by rfl);refine Aw rfl rfl rfl (by first| (simp;done)|(simp;(omega))) rfl (by intro r c;simp at c;subst c;rfl) (by rfl) (ce rfl) (by simp;omega) ?_);(repeat first|(refine sA rfl ?_ ?_;first|exact tI|omega) |refine aU rfl ?_ |refine Aa ?_);refine⟨⟨⟨⟨a,row++[((a.idxOf y:Nat):Int)]⟩,j+1⟩,by dsimp only;omega,i,by simp [m],x,v,t,n⟩,by dsimp only;(omega),[0,1,2,4],?_⟩;simp[cX,zC,e,c,Jn]
   ·rw [if_neg J] at i p
    (repeat first|refine tA rfl ?_ |refine s2 rfl λ_ b=>?_|(refine Ag rfl ?_;refine gA rfl ?_;first| refine gQ (Zg p rfl rfl rfl) rfl ?_) |refine aU rfl ?_ |refine Aa ?_)
    ((refine aC rfl ?_ ?_<;>rintro⟨⟩);all_goals try (simp at b;done))
    by_cases K:a.length=lim
    ·rw [if_pos K] at i
     subst i;(repeat first|refine tA rfl ?_ |refine s2 rfl λ_ b=>?_ |refine aU rfl ?_ |refine Aa ?_)
     ((refine aC rfl ?_ ?_<;>rintro⟨⟩);all_goals try(exfalso;(simp only[oZ] at *;omega)))
     (repeat first|refine tA rfl ?_ |refine aU rfl ?_ |refine Aa ?_);have u:none=A:=u;subst u;exact aR ⟨_,rfl,rfl⟩
    ·rw [if_neg K] at i
     (repeat first|refine tA rfl ?_ |refine s2 rfl λ_ b=>?_ |refine aU rfl ?_ |refine Aa ?_)
     ((refine aC rfl ?_ ?_<;>rintro⟨⟩);all_goals try(exfalso;(simp only[oZ] at *;omega)))
     refine aK ?_;(repeat first|refine tA rfl ?_ |refine aU rfl ?_ |refine Aa ?_);(refine Ag rfl ?_;refine Fo ?_ rfl (by rfl);refine YF rfl rfl rfl rfl p ?_);rw [<-Uq];(repeat first|refine tA rfl ?_ |refine aU rfl ?_ |refine Aa ?_);(refine pW rfl ?_ rfl (by rfl);refine Aw rfl rfl rfl (by first| (simp;done)|(simp;(omega))) rfl (by intro r c;simp at c;subst c;rfl) (by rfl) (ce rfl) (by simp;omega) ?_);(repeat first|refine tA rfl ?_ |refine aU rfl ?_ |refine Aa ?_);(refine pW rfl ?_ rfl (by rfl);refine Aw rfl rfl rfl (by first| (simp;done)|(simp;(omega))) rfl (by intro r c;simp at c;subst c;rfl) (by rfl) (ce rfl) (by simp;omega) ?_);(repeat first|(refine sA rfl ?_ ?_;first|exact tI|omega) |refine aU rfl ?_ |refine Aa ?_);refine⟨⟨⟨⟨a++[y],row++[(a.length:Int)]⟩,j+1⟩,by dsimp only;omega,i,by simp [m],by simp;omega,by simp;omega,λz Z=>by rcases em.1 Z with h|h;exact t z h;simp at h;subst h;exact S,by rw [f9 (by omega)];exact n⟩,by dsimp only;(omega),[4,1,2,5],?_⟩;simp[cX,zC,e,c,Jn]
  ·obtain rfl:j=ls.length:=by omega
   rw [nL] at i;simp only [Fj] at i;subst i;simp only at u;(repeat first|refine s2 rfl λ_ b=>?_ |refine aU rfl ?_ |refine Aa ?_)
   ((refine aC rfl ?_ ?_<;>rintro⟨⟩);all_goals try(exfalso;(simp only[oZ] at *;omega)))
   refine aE ?_;refine Aj.EO [3] [1,2,3,11,12,13,14] rfl [(15,AW row)] ⟨⟨_,rfl,.o (.full (by simp) rfl (by simp [d4]) (by simpa using m))⟩,trivial⟩ ?_;(try dsimp only[cA,cB]);(repeat first|refine tA rfl ?_ |refine aU rfl ?_);(refine pW rfl ?_ rfl (by rfl);refine Aw rfl rfl rfl (by first| (simp;done)|(simp;(omega))) rfl (by intro r c;simp at c;subst c;rfl) (by rfl) (ce rfl) (by simp;omega) ?_);(repeat first|(refine sA rfl ?_ ?_;first|exact tI|omega) |refine aU rfl ?_ |refine Aa ?_);refine⟨⟨⟨a,rows++[row]⟩,by show Gl lim f ls (lim - (rows++[row]).length) a _=A;rw [lf,List.length_singleton,show lim - (rows.length+1)=k by omega];exact u,by simp;omega,by dsimp only;omega,v,t⟩,by dsimp only;((simp only[oZ] at *;omega)),[0,1,4],?_⟩;simp[cX,zC,e,c,Jn]
 ·have V:A=some (nd,rows):=by
   rw [<-u]
   cases lim - rows.length with
   | zero=>rfl
   | succ k=>simp only [Gl];rw [kE (by omega)]
  subst V;(repeat first|refine tA rfl ?_ |refine s2 rfl λ_ b=>?_ |refine aU rfl ?_ |refine Aa ?_)
  ((refine aC rfl ?_ ?_<;>rintro⟨⟩);all_goals try(exfalso;(simp only[oZ] at *;omega)))
  refine aE ?_;refine Aj.settle [(11,AW nd),(13,JZ rows)] ⟨⟨_,rfl,.o (.full rfl (by simp [d4]) (by simp))⟩,⟨_,rfl,.o (.full rfl (by simp [d4]) (by simp))⟩,trivial⟩ ?_;(repeat first|refine tA rfl ?_ |refine aU rfl ?_ |refine Aa ?_);(subst_vars;exact aR ⟨_,rfl,rfl⟩)
end Go.Am
namespace Go.Am
open Go
set_option linter.unusedVariables false
structure P0 (a:AY) (cs:List Int) (n k:Nat):Prop where
 len:cs.length=a.nx.length
 rng:∀x∈cs,0<=x/\x < 100
 cnt:n=0\/n=(uq cs).length
 fuel:a.nx.length<=k+n
 eq:Vw a (k+1) cs n=Ev a
def KX(a:AY)(cs:List Int):List W:=(Cj a cs).map Sz
theorem VJ{a:AY}{cs:List Int}{q:Nat}(h:q < a.nx.length):(KX a cs)[q]? = some (Sz (Hy a cs q)):=by
 unfold KX;rw [d9,Bs h];rfl
theorem VK(a:AY)(cs:List Int):(KX a cs).length=a.nx.length:=by simp [KX,Ei]
theorem QA{cs:List Int}(h:∀x∈cs,0<=x/\x < 100)(i:Nat):0<=cs.getD i 0/\cs.getD i 0 < 100:=by
 rw [kC]
 cases a:cs[i]? with
 | none=>exact⟨nF _,by show (0:Int) < 100;omega⟩
 | some x=>exact h x (co a)
theorem QH{a:AY}{cs:List Int}(h:∀x∈cs,0<=x/\x < 100)(q:Nat):∀x∈Hy a cs q,0<=x/\x < 100:=λx b=>by
 unfold Hy at b
 rcases kw.1 b with rfl|b
 ·exact QA h q
 ·obtain⟨y,_,rfl⟩:=d8.1 b
  exact QA h _
theorem QI{a:AY}{cs:List Int}(h:∀x∈cs,0<=x/\x < 100):∀x y,x∈Cj a cs->y∈Cj a cs->Sz x=Sz y->x=y:=λx y c b e=>by
 obtain⟨q,_,rfl⟩:=d8.1 c;obtain⟨r,_,rfl⟩:=d8.1 b;exact XY (QH h q) (QH h r) (by simp [Hy]) (by simp [Hy]) e
theorem SA{a:AY}{cs:List Int}(h:∀x∈cs,0<=x/\x < 100):Ec (KX a cs)=Ec (Cj a cs):=YK (QI h)
theorem X0{a:AY}{cs:List Int}(h:∀x∈cs,0<=x/\x < 100):(uq (KX a cs)).length=(uq (Cj a cs)).length:=by
 unfold KX;rw [ZU (QI h),gc]
theorem YL{a:AY}(h:a.nx.length<=64)(cs:List Int):∀x∈Ec (Cj a cs),0<=x/\x < 100:=λx c=>by
 obtain⟨y,b,rfl⟩:=d8.1 c;have e:=LM b;have d:=HM (Cj a cs);rw [Ei] at d;omega
theorem P0.zero{a:AY}(h:Gg a):P0 a (GN a) 0 a.nx.length:=
 ⟨by simp [GN,h.ac],λx c=>by
  obtain⟨b,_,rfl⟩:=d8.1 c;cases b
  ·exact⟨nF _,by show (0:Int) < 100;omega⟩
  ·exact⟨by show (0:Int)<=1;omega,by show (1:Int) < 100;omega⟩,.inl rfl,by omega,rfl⟩
theorem P0.step{a:AY}(h:Gg a){cs:List Int}{n k:Nat}(hi:P0 a cs n k) :
 ((uq (Cj a cs)).length=n/\NS a=Ec (Cj a cs))\/((uq (Cj a cs)).length≠n/\1<=k/\P0 a (Ec (Cj a cs)) (uq (Cj a cs)).length (k - 1)):=by
 have hb:=h.b.1;have g:=h.n1;have d:=hi.eq;have c:=TC (λk:List Int=>k.headD 0) (Cj a cs);rw [cF hi.len] at c;have i:=HM (Cj a cs);rw [Ei] at i;unfold Vw at d;by_cases e:(uq (Cj a cs)).length=n
 ·rw [if_pos e] at d
  exact .inl ⟨e,by unfold NS;rw [d]⟩
 ·rw [if_neg e] at d
  have j:=hi.fuel;have f:=hi.cnt
  have hk:1<=k:=by omega
  refine .inr ⟨e,hk,by simp [Ec,Ei],YL hb cs,.inr (Vi _).symm,?_,?_⟩
  ·rcases f with f|f<;>omega
  ·rw [show k - 1+1=k by omega];exact d
theorem VC(u:List W)(x:W):(x∈u->BT (SV u) x=some ((jr u x:Nat):Int))/\(x∉u->BT (SV u) x=none):=by
 rw [VB];unfold fY;exact⟨λh=>if_pos h,λh=>if_neg h⟩
theorem bn{l:List W}{k:Nat}{x:W}(h:l[k]? = some x):(x∈uq (l.take k)->Dn l x=((jr (uq (l.take k)) x:Nat):Int))/\(x∉uq (l.take k)->Dn l x=(uq (l.take k)).length):=
 ⟨λa=>((LK h).1 a).1,(LK h).2⟩
theorem OR{U:Type}[DecidableEq U]{l:List U}{k:Nat}{x:U}(h:l[k]? = some x):(x∈uq (l.take k)->Bl l (k+1)=Bl l k)/\(x∉uq (l.take k)->Bl l (k+1)=Bl l k++[k]):=by
 constructor
 ·intro a
  simp only [Bl,h,if_pos a]
 ·intro a
  simp only [Bl,h,if_neg a]
theorem WH(l:List Int)(x:Int):DE (l++[x])=DE l++(44::DM x.toNat):=by simp [DE]
theorem Mm(n:Nat):(DM n).length<=2:=by unfold DM;split<;>simp
theorem WI(l:List Int):(DE l).length<=3*l.length:=by
 induction l with
 | nil=>simp [DE]
 | cons x l a=>
  have:=Mm x.toNat
  have e:DE (x::l)=44::DM x.toNat++DE l:=by simp [DE]
  rw [e];simp;omega
theorem XZ(a:AY)(cs:List Int)(q:Nat):Sz (Hy a cs q)=DM (cs.getD q 0).toNat++DE ((a.nx.getD q []).map λx=>cs.getD x.toNat 0):=rfl
theorem Tf{a:AY}(h:Gg a){k:Nat}(hk:k < a.nx.length) :
 (FM a k < ((Cf a k).nx.length:Nat)/\Cf a (k+1)=Cf a k)\/(¬FM a k < ((Cf a k).nx.length:Nat)/\Cf a (k+1)=⟨a.al,(Cf a k).nx++[(a.nx.getD k []).map (FM a)],(Cf a k).ac++[a.ac.getD k false]⟩):=by
 obtain⟨x,d,e,_⟩:=Hr h hk
 have b:(Cf a k).nx.length=(uq ((Ev a).take k)).length:=by simp [Cf,CQ]
 obtain⟨g,f⟩:=LK d;by_cases c:x∈uq ((Ev a).take k)
 ·refine .inl ⟨by rw [e,b];exact(g c).2,?_⟩
  unfold Cf;rw [(OR d).1 c]
 ·refine .inr ⟨by rw [e,b,f c];omega,?_⟩
  unfold Cf;rw [(OR d).2 c];simp
theorem Ww(a:AY):∀k,(Cf a k).nx.length<=k:=λk=>by
 have:(Cf a k).nx.length=(uq ((Ev a).take k)).length:=by simp [Cf,CQ]
 have b:=HM ((Ev a).take k);simp at b;omega
theorem Rw(a:AY)(k:Nat):(Cf a k).ac.length=(Cf a k).nx.length:=by simp [Cf]
theorem Xy{a:AY}(h:Gg a):(NS a).length=a.nx.length:=by
 have:=(JY h.b h.n1 h.ac).len;simp [NS,Ec,this]
end Go.Am
namespace Go.Am
open Go Go.Proofs
set_option maxHeartbeats 1000000
set_option maxRecDepth 4000
attribute [local irreducible] AU BZ Lex Br Aj Spec
variable {TB:Bp}
theorem UH{P:Program}{Γ:Ctx}{d:Option Tmp}{ty:TypeId}{pos:String}{af:Array Edge}{g:Option (Nat×Bool)}{f:Env}{σ:Ab}{nx:Nat}{t:TypeId}{x lo hi:Operand}{s z out:W}{a b:Int}{k k':IntKind}[ht:CK P t](i:ev f x=some (eT s))(j:ev f lo=some (eI k a))(m:ev f hi=some (eI k' b))(c:s=z)(h:(0<=a/\a<=b/\b<=z.length)/\(z.take b.toNat).drop a.toNat=out) :
 AU P TB Γ ⟨d,.slice t x (some lo) (some hi) none,ty,pos,af,g⟩ f σ nx (eT out):=by
 subst c;have n:=LU (P:=P) (TB:=TB) (Γ:=Γ) (d:=d) (ty:=ty) (pos:=pos) (af:=af) (g:=g) (σ:=σ) (nx:=nx) (t:=t) (x:=x) (lo:=some lo) (hi:=some hi) (l:=some (k,a)) (h:=some (k',b)) i (by simp [WR,j]) (by simp [WR,m]) h.1.1 h.1.2.1 h.1.2.2;have e:(s.take (JQ s.length (some (k',b))).toNat).drop (JS (some (k,a))).toNat=out:=h.2;rwa [e] at n
def iK:W:=[48,49,50,51,52,53,54,55,56,57,97,98,99,100,101,102,103,104,105,106,107,108,109,110,111,112,113,114,115,116,117,118,119,120,121,122]
def fR:W:=(List.range 100).flatMap λn=>[UInt8.ofNat (48+n / 10),UInt8.ofNat (48+n % 10)]
theorem az:((List.range 10).all λn=>decide ((iK.take (n+1)).drop n=DM n))=true:=by decide +kernel
theorem aD:((List.range 100).all λn=>decide (n < 10) || decide ((fR.take (n*2+2)).drop (n*2)=DM n))=true:=by decide +kernel
theorem aA:fR.length=200:=by decide +kernel
theorem dj{n:Int}(h:0<=n/\n < 10):(0<=n/\n<=n+1/\n+1<=iK.length)/\(iK.take (n+1).toNat).drop n.toNat=DM n.toNat:=by
 refine⟨⟨h.1,by omega,by show n+1<=36;omega⟩,?_⟩;have:=f7.1 az n.toNat (kB.2 (by omega));rw [show (n+1).toNat=n.toNat+1 by omega];exact of_decide_eq_true this
theorem dk{n:Int}(h:10<=n/\n < 100):(0<=n*2/\n*2<=n*2+2/\n*2+2<=fR.length)/\(fR.take (n*2+2).toNat).drop (n*2).toNat=DM n.toNat:=by
 refine⟨⟨by omega,by omega,by rw [aA];omega⟩,?_⟩;have:=f7.1 aD n.toNat (kB.2 (by omega));rw [kR,decide_eq_true_eq,decide_eq_true_eq] at this;rw [show (n*2+2).toNat=n.toNat*2+2 by omega,show (n*2).toNat=n.toNat*2 by omega]
 rcases this with a|a
 ·omega
 ·exact a
theorem ZK(n:Int)(h:0<=n/\n < 100):Pure Tryz.prog TB 289 [eI .i64 n] (eT (DM n.toNat)):=by
 refine eG Tryz.func289 rfl (by kernel_rfl) rfl ?_;intro Γ b;(repeat first |refine sN rfl ?_ |((first|refine sA rfl ?_ ?_|refine s4 rfl ‹_› rfl ?_ ?_);first|exact tI|omega|simp only[oZ] at *;omega) |refine s2 rfl λ_ a=>?_ |refine s3 rfl ?_ ?_<;>rintro rfl |refine aU rfl ?_ |refine Aa ?_);(refine aC rfl ?_ ?_<;>rintro⟨⟩)
 ·have d:=dj (n:=n) (by first|omega|simp only[oZ] at *;omega)
  (repeat first |refine sN rfl ?_ |((first|refine sA rfl ?_ ?_|refine s4 rfl ‹_› rfl ?_ ?_);first|exact tI|omega|simp only[oZ] at *;omega) |refine s2 rfl λ_ a=>?_|(refine Ag rfl ?_;refine gA rfl ?_;first|refine gS (λ_ _=>UH (z:=iK) rfl rfl rfl (by decide +kernel) d) ?_) |refine s3 rfl ?_ ?_<;>rintro rfl |refine aU rfl ?_ |refine Aa ?_);(subst_vars;exact aR ⟨_,rfl,rfl⟩)
 refine aK ?_;have c:=dk (n:=n) (by first|omega|simp only[oZ] at *;omega);(repeat first |refine sN rfl ?_ |((first|refine sA rfl ?_ ?_|refine s4 rfl ‹_› rfl ?_ ?_);first|exact tI|omega|simp only[oZ] at *;omega) |refine s2 rfl λ_ a=>?_|(refine Ag rfl ?_;refine gA rfl ?_;first|refine gS (λ_ _=>UH (z:=fR) rfl rfl rfl (by decide +kernel) c) ?_) |refine s3 rfl ?_ ?_<;>rintro rfl |refine aU rfl ?_ |refine Aa ?_);(subst_vars;exact aR ⟨_,rfl,rfl⟩)
theorem Pg(n:Int)(h:0<=n/\n < 100):Pure Tryz.prog TB 274 [eI .i64 n,eI .i64 10] (eT (DM n.toNat)):=by
 refine eG Tryz.func274 rfl (by kernel_rfl) rfl ?_;intro Γ b;have e:=ZK (TB:=TB) n h;(repeat first |refine sN rfl ?_ |((first|refine sA rfl ?_ ?_|refine s4 rfl ‹_› rfl ?_ ?_);first|exact tI|omega|simp only[oZ] at *;omega) |refine s2 rfl λ_ a=>?_ |refine s3 rfl ?_ ?_<;>rintro rfl |refine aU rfl ?_ |refine Aa ?_)
 ((refine aC rfl ?_ ?_<;>rintro⟨⟩);all_goals try (simp at a;done))
 (repeat' first |refine sN rfl ?_ |((first|refine sA rfl ?_ ?_|refine s4 rfl ‹_› rfl ?_ ?_);first|exact tI|omega|simp only[oZ] at *;omega) |refine s2 rfl λ_ a=>?_ |refine sP rfl (e) rfl ?_ |refine s3 rfl ?_ ?_<;>rintro rfl |refine aU rfl ?_ |refine Aa ?_|(refine aC rfl ?_ ?_<;>rintro⟨⟩))
 all_goals first|(exfalso;first|omega|simp only[oZ] at *;omega;done)|skip
 all_goals (repeat first |refine sN rfl ?_ |((first|refine sA rfl ?_ ?_|refine s4 rfl ‹_› rfl ?_ ?_);first|exact tI|omega|simp only[oZ] at *;omega) |refine s2 rfl λ_ a=>?_ |refine sP rfl (e) rfl ?_ |refine s3 rfl ?_ ?_<;>rintro rfl |refine aU rfl ?_ |refine Aa ?_)
 all_goals (subst_vars;exact aR ⟨_,rfl,rfl⟩)
theorem XW(n:Int)(h:0<=n/\n < 100):Pure Tryz.prog TB 225 [eI .i64 n] (eT (DM n.toNat)):=by
 refine eG Tryz.func225 rfl (by kernel_rfl) rfl ?_;intro Γ a;(repeat first |refine sN rfl ?_ |((first|refine sA rfl ?_ ?_|refine s4 rfl ‹_› rfl ?_ ?_);first|exact tI|omega|simp only[oZ] at *;omega) |refine s2 rfl λ_ b=>?_ |refine sP rfl (Pg n h) rfl ?_ |refine s3 rfl ?_ ?_<;>rintro rfl |refine aU rfl ?_ |refine Aa ?_);(subst_vars;exact aR ⟨_,rfl,rfl⟩)
theorem Uj(n:Int)(h:0<=n/\n < 100):Pure Tryz.prog TB 160 [eI .i64 n] (eT (DM n.toNat)):=by
 refine eG Tryz.func160 rfl (by kernel_rfl) rfl ?_;intro Γ a;(repeat first |refine sN rfl ?_ |((first|refine sA rfl ?_ ?_|refine s4 rfl ‹_› rfl ?_ ?_);first|exact tI|omega|simp only[oZ] at *;omega) |refine s2 rfl λ_ b=>?_ |refine sP rfl (XW n h) rfl ?_ |refine s3 rfl ?_ ?_<;>rintro rfl |refine aU rfl ?_ |refine Aa ?_);(subst_vars;exact aR ⟨_,rfl,rfl⟩)
end Go.Am
