/-
  The program's search, as plain data.
-/
import Derived.Test.YtdipaikojjjebaaGreatDoorPart18
set_option linter.all false
namespace Go.Am
open Go
structure MN where
 p:Int
 l:Int
 ns:List Int
structure ea where
 seen:List Bool
 fresh:List Int
 found:Bool
def sn(seen:List Bool)(n:Int):Bool:=seen.getD n.toNat false
def Tz(goal:Int->Bool)(st:ea)(n:Int):ea:=if sn st.seen n then st else ⟨st.seen.set n.toNat true,st.fresh++[n],st.found || goal n⟩
def RG(goal:Int->Bool)(seen:List Bool)(nodes:List Int):ea:=nodes.foldl (Tz goal) ⟨seen,[],false⟩
theorem fN{seen:List Bool}{n m:Int}(a:0<=n/\n.toNat<seen.length)(b:0<=m):sn (seen.set n.toNat true) m=(sn seen m || decide (m=n)):=by
 unfold sn;by_cases h:m=n
 ·subst h;simp[List.getD,a.2]
 ·have:n.toNat≠m.toNat:=by omega
  simp[List.getD,ml this,h]
theorem count_set{seen:List Bool}{k:Nat}(h:seen[k]?=some false):(seen.set k true).count true=seen.count true+1:=by
 induction seen generalizing k with
 | nil=>simp at h
 | cons a l b=>
  cases k with
  | zero=>simp at h;subst h;simp
  | succ k=>
   have:=b (k:=k) (by simpa using h);simp only[List.set_cons_succ,List.count_cons,this];omega
structure gd (goal:Int->Bool) (N:Nat) (seen:List Bool) (nodes:List Int) (st:ea):Prop where
 len:st.seen.length=N
 snI:∀n:Int,0<=n->(sn st.seen n=true↔sn seen n=true\/n∈nodes)
 fr:∀n:Int,n∈st.fresh↔n∈nodes/\sn seen n=false
 nd:st.fresh.Nodup
 fd:st.found=st.fresh.any goal
 cnt:st.seen.count true=seen.count true+st.fresh.length
theorem UP{goal:Int->Bool}{N:Nat}{seen:List Bool}{nodes:List Int}(hs:seen.length=N)(j:∀n∈nodes,0<=n/\n<N):gd goal N seen nodes (RG goal seen nodes):=by
 have key : ∀ (l done:List Int) (st:ea),(∀n∈l,0<=n/\n<N)->(∀n∈done,0<=n)->gd goal N seen done st->gd goal N seen (done++l) (l.foldl (Tz goal) st):=by
  intro l
  induction l with
  | nil=>intro done st _ _ h;simpa using h
  | cons a l p=>
   intro done st o r h;have ha:=o a (by simp);rw[nW,show done++a::l=(done++[a])++l by simp];refine p (done++[a]) _ (λn j=>o n (by simp[j])) (λn j=>by rcases f6.1 j with f|f;exact r n f;simp at f;omega) ?_;have m:=h.len
   have g:∀n:Int,n∈done++[a]↔n∈done\/n=a:=λn=>by simp
   unfold Tz;by_cases b:sn st.seen a=true
   ·rw [if_pos b]
    have f:=(h.snI a ha.1).1 b;refine⟨h.len,λn i=>?_,λn=>?_,h.nd,h.fd,h.cnt⟩
    ·rw[h.snI n i,g]
     constructor
     ·rintro(c|c);exact .inl c;exact .inr (.inl c)
     ·rintro(c|c|rfl);exact .inl c;exact .inr c;exact f
    ·rw [h.fr n,g]
     constructor
     ·rintro⟨c,d⟩;exact⟨.inl c,d⟩
     ·rintro⟨c|rfl,d⟩
      ·exact⟨c,d⟩
      ·rcases f with f|f
       ·rw[f]at d;cases d
       ·exact⟨f,d⟩
   ·rw [if_neg b]
    have f:sn seen a=false/\a∉done:=by
     have c:¬(sn seen a=true\/a∈done):=λd=>b ((h.snI a ha.1).2 d);exact⟨by simpa using λd=>c (.inl d),λd=>c (.inr d)⟩
    have hk:st.seen[a.toNat]?=some false:=by
     unfold sn at b
     have:a.toNat<st.seen.length:=by omega
     simp[List.getD,this]at b;rw[d5 this,b]
    refine⟨by simpa using h.len,λn i=>?_,λn=>?_,?_,?_,?_⟩
    ·rw[fN ⟨ha.1,by omega⟩ i,g,lT,h.snI n i];simp;grind
    ·simp only[f6,o4,h.fr n]
     grind
    ·refine nJ.2 ⟨h.nd,by simp,λx q y k=>?_⟩
     simp at k;subst k;intro e;subst e;exact f.2 ((h.fr x).1 q).1
    ·simp[List.any_append,h.fd]
    ·rw[count_set hk,h.cnt];simp;omega
 have:=key nodes [] ⟨seen,[],false⟩ j (by simp) ⟨hs,λn _=>by simp,λn=>by simp,.nil,rfl,by simp⟩
 simpa[RG]using this
theorem PI:∀ {a b c:List Int},TC a b->TC b c->TC a c
 | [],_,_,h,_=>h.elim
 | _::_,[],_,h,_=>h.elim
 | _::_,_::_,[],_,h=>h.elim
 | x::a,y::b,z::c,h,k=>by
  simp only[TC] at *
  rcases h with h|⟨h,d⟩<;>rcases k with k|⟨k,k'⟩
  ·exact .inl (by omega)
  ·exact .inl (by omega)
  ·exact .inl (by omega)
  ·exact .inr ⟨by omega,PI d k'⟩
theorem QH:∀ {a:List Int},¬TC a a
 | [],h=>h
 | x::a,h=>by rcases h with h|⟨_,h⟩;omega;exact QH h
theorem FA{a b c:List Int}(h:slt a b)(k:slt b c):slt a c:=by
 unfold slt at *
 rcases h with h|⟨h,d⟩<;>rcases k with k|⟨k,k'⟩
 ·exact .inl (by omega)
 ·exact .inl (by omega)
 ·exact .inl (by omega)
 ·exact .inr ⟨by omega,PI d k'⟩
theorem KE{a:List Int}:¬slt a a:=by
 rintro(h|⟨_,h⟩);omega;exact QH h
theorem Tf(a b:List Int):slt a b\/a=b\/slt b a:=by
 rcases ol a.length b.length with h|h|h
 ·exact .inl (.inl h)
 ·rcases QI h with c|c|c
  ·exact .inl (.inr ⟨h,c⟩)
  ·exact .inr (.inl c)
  ·exact .inr (.inr (.inr ⟨h.symm,c⟩))
 ·exact .inr (.inr (.inl h))
theorem WA{a b:List Int}{l m:Int}(h:slt a b):slt (a++[l]) (b++[m]):=by
 rcases h with h|⟨h,c⟩
 ·exact .inl (by simp;omega)
 ·exact .inr ⟨by simp;omega,(J7 h).2 (.inl c)⟩
theorem aW{a:List Int}{l m:Int}(h:l<m):slt (a++[l]) (a++[m]):=.inr ⟨by simp,(J7 rfl).2 (.inr ⟨rfl,h⟩)⟩
theorem aY{a b:List Int}{l m:Int}:slt (a++[l]) (b++[m])->slt a b\/a=b/\l<m:=by
 intro h
 rcases Tf a b with c|c|c
 ·exact .inl c
 ·subst c
  rcases h with h|⟨h,e⟩
  ·simp at h
  ·rcases(J7 rfl).1 e with d|d
   ·exact absurd d QH
   ·exact .inr d
 ·exact absurd (FA h (WA c)) KE
theorem aX{a:List Int}{l:Int}:slt a (a++[l]):=.inl (by simp)
structure FI (g:Gr) (seen:List Bool) (steps:List MN) (ws:List (List Int)) (i j:Nat):Prop where
 slen:seen.length=g.N
 wlen:ws.length=steps.length
 chain:∀(t:Nat) s,steps[t]?=some s->(s.p = -1/\ws[t]?=some [])\/∃(q:Nat) (w:List Int),s.p=(q:Int)/\q<t/\ws[q]?=some w/\ws[t]?=some (w++[s.l])/\s.l∈g.ls
 rch:∀(t:Nat) s w,steps[t]?=some s->ws[t]?=some w->∀n∈s.ns,reach g w g.s0 n
 ov:∀w∈ws,over g w
 min:∀(t:Nat) s w,steps[t]?=some s->ws[t]?=some w->∀n∈s.ns,∀u,over g u->slt u w->¬reach g u g.s0 n
 ord:ws.Pairwise slt
 par:∀w∈ws,w=[]\/∃(p:Nat) (v:List Int) (l:Int),ws[p]?=some v/\w=v++[l]/\l∈g.ls/\(p<i\/p=i/\∃j',j'<j/\g.ls[j']?=some l)
 snI:∀n:Int,0<=n->(sn seen n=true↔∃s∈steps,n∈s.ns)
 done:∀(t:Nat) s,steps[t]?=some s->∀l,(t<i/\l∈g.ls\/t=i/\∃j',j'<j/\g.ls[j']?=some l)->∀n∈s.ns,∀y∈g.succ n l,sn seen y=true
 nogoal:∀s∈steps,∀n∈s.ns,g.goal n=false
 inn:∀s∈steps,∀n∈s.ns,0<=n/\n<g.N
 start:sn seen g.s0=true
 cnt:steps.length<=seen.count true
 le:i<=steps.length
 nd:∀s∈steps,s.ns.Nodup
theorem FI.il{g:Gr}{seen:List Bool}{steps:List MN}{ws:List (List Int)}{i j:Nat}(h:FI g seen steps ws i j):steps.length<=g.N:=by
 have b:=h.cnt;have a:seen.count true<=seen.length:=List.count_le_length;rw[h.slen]at a;omega
theorem FI.dJ{g:Gr}(hg:KZ g){seen:List Bool}{steps:List MN}{ws:List (List Int)}{i j:Nat}(h:FI g seen steps ws i j){wi:List Int}{lj:Int}(I:ws[i]?=some wi)(N:g.ls[j]?=some lj) :
 ∀(n:Nat) (u:List Int),u.length=n->over g u->slt u (wi++[lj])->∀x,reach g u g.s0 x->sn seen x=true:=by
 intro n
 induction n with
 | zero=>
  intro u B _ _ x p;have:u=[]:=lL.1 B;subst this;have p:g.s0=x:=p;rw[<-p];exact h.start
 | succ n K=>
  intro u B M w x p
  have q:u≠[]:=λe=>by subst e;simp at B
  obtain⟨v,l,rfl⟩:∃v l,u=v++[l]:=⟨u.dropLast,u.getLast q,(oY q).symm⟩
  obtain⟨m,H,F⟩:=FU.1 p;obtain⟨k,J⟩:=IL.1 M;have G:=K v (by simpa using B) k (FA aX w) m H;have r:=Fb hg k hg.s0 H;obtain⟨s,hs,c⟩:=(h.snI m r.1).1 G;obtain⟨t,ht⟩:=nS hs;obtain⟨wt,a⟩:∃wt,ws[t]?=some wt:=get_some (by have:=(am.1 ht).1;rw[h.wlen];exact this);have y:¬slt v wt:=λd=>h.min t s wt ht a m c v k d H;have f:=aY w
  have L:t<=i:=by
   rcases l5 i t with d|d
   ·exfalso
    obtain⟨T,S⟩:=am.1 I;obtain⟨R,Q⟩:=am.1 a;have A:=(lN.1 h.ord) i t T R d;rw[S,Q]at A
    rcases Tf v wt with o|o|o
    ·exact y o
    ·subst o
     rcases f with b|⟨b,_⟩
     ·exact KE (FA A b)
     ·subst b;exact KE A
    ·rcases f with b|⟨b,_⟩
     ·exact KE (FA (FA A o) b)
     ·subst b;exact KE (FA A o)
   ·exact d
  refine h.done t s ht l ?_ m c x F
  rcases l5 t i with d|d
  ·exact .inl ⟨d,J⟩
  ·have:t=i:=by omega
   subst this;rw[I]at a
   injection a with a
   subst a
   rcases f with b|⟨b,P⟩
   ·exact absurd b y
   ·obtain⟨j',z⟩:=nS J
    exact .inr ⟨rfl,j',eW hg.srt z N P,z⟩
theorem CQ.found{g:Gr}(hg:KZ g){seen:List Bool}{steps:List MN}{ws:List (List Int)}{i j:Nat}(h:FI g seen steps ws i j){wi:List Int}{lj:Int}(d:ws[i]?=some wi)(o:g.ls[j]?=some lj){n x:Int}{s:MN}(hs:steps[i]?=some s)(q:n∈s.ns)(p:x∈g.succ n lj)(k:g.goal x=true):CQ g (some (wi++[lj])):=by
 have r:=co o;refine⟨IL.2 ⟨h.ov wi (co d),r⟩,⟨x,FU.2 ⟨n,h.rch i s wi hs d n q,p⟩,k⟩,λu m t f=>?_⟩;obtain⟨y,l,a⟩:=t;have b:=h.dJ hg d o u.length u rfl m f y l;obtain⟨s',e,c⟩:=(h.snI y (Fb hg m hg.s0 l).1).1 b;rw[h.nogoal s' e y c]at a;cases a
theorem CQ.lf{g:Gr}(hg:KZ g){seen:List Bool}{steps:List MN}{ws:List (List Int)}(h:FI g seen steps ws steps.length 0):CQ g none:=by
 have key:∀(n:Nat) (u:List Int),u.length=n->over g u->∀x,reach g u g.s0 x->sn seen x=true:=by
  intro n
  induction n with
  | zero=>
   intro u b _ x a;have:u=[]:=lL.1 b;subst this;have a:g.s0=x:=a;rw[<-a];exact h.start
  | succ n r=>
   intro u b w x a
   have d:u≠[]:=λe=>by subst e;simp at b
   obtain⟨v,l,rfl⟩:∃v l,u=v++[l]:=⟨u.dropLast,u.getLast d,(oY d).symm⟩
   obtain⟨m,q,o⟩:=FU.1 a;obtain⟨f,y⟩:=IL.1 w;have p:=r v (by simpa using b) f m q;obtain⟨s,hs,i⟩:=(h.snI m (Fb hg f hg.s0 q).1).1 p;obtain⟨t,ht⟩:=nS hs;exact h.done t s ht l (.inl ⟨(am.1 ht).1,y⟩) m i x o
 rintro u b ⟨x,a,j⟩;have k:=key u.length u rfl b x a;obtain⟨s,hs,c⟩:=(h.snI x (Fb hg b hg.s0 a).1).1 k;rw[h.nogoal s hs x c]at j;cases j
theorem FI.iy{g:Gr}{seen:List Bool}{steps:List MN}{ws:List (List Int)}{i:Nat}(h:FI g seen steps ws i g.ls.length)(hi:i<steps.length):FI g seen steps ws (i+1) 0:=by
 refine⟨h.slen,h.wlen,h.chain,h.rch,h.ov,h.min,h.ord,λw f=>?_,h.snI,λt s hs l j=>?_,h.nogoal,h.inn,h.start,h.cnt,by omega,h.nd⟩
 ·rcases h.par w f with b|⟨p,v,l,b,d,c,e⟩
  ·exact .inl b
  ·exact .inr ⟨p,v,l,b,d,c,.inl (by rcases e with e|⟨e,_⟩<;>omega)⟩
 ·refine h.done t s hs l ?_
  rcases j with ⟨b,d⟩|⟨_,j',b,_⟩
  ·rcases l5 t i with c|c
   ·exact .inl ⟨c,d⟩
   ·obtain⟨j',a⟩:=nS d
    exact .inr ⟨by omega,j',(am.1 a).1,a⟩
  ·omega
def EC(steps:List MN)(p l:Int)(fresh:List Int):List MN:=if fresh=[] then steps else steps++[⟨p,l,fresh⟩]
def kt(ws:List (List Int))(w fresh:List Int):List (List Int):=if fresh=[] then ws else ws++[w]
structure Chain (ls:List Int) (steps:List MN) (ws:List (List Int)):Prop where
 wlen:ws.length=steps.length
 chain:∀(t:Nat) s,steps[t]?=some s->(s.p = -1/\ws[t]?=some [])\/∃(q:Nat) (w:List Int),s.p=(q:Int)/\q<t/\ws[q]?=some w/\ws[t]?=some (w++[s.l])/\s.l∈ls
theorem Ge{α:Type}{l:List α}{x y:α}{t:Nat}(h:(l++[x])[t]?=some y):l[t]?=some y\/t=l.length/\y=x:=by
 rcases l5 t l.length with a|a
 ·rw[d9 a]at h;exact .inl h
 ·rw[f9 a]at h
  have b:=(am.1 h).1;simp at b
  have:t=l.length:=by omega
  subst this;simp at h;exact .inr ⟨rfl,h.symm⟩
theorem IC{α:Type}{l:List α}{x y:α}{t:Nat}(h:l[t]?=some y):(l++[x])[t]?=some y:=by
 rw[d9 (am.1 h).1];exact h
theorem Chain.app{ls:List Int}{steps:List MN}{ws:List (List Int)}(h:Chain ls steps ws){i:Nat}{wi:List Int}{l:Int}{ns:List Int}(d:ws[i]?=some wi)(e:l∈ls):Chain ls (steps++[⟨i,l,ns⟩]) (ws++[wi++[l]]):=by
 have hi:=(am.1 d).1;refine⟨by simp[h.wlen],λt s hs=>?_⟩
 rcases Ge hs with b|⟨b,a⟩
 ·rcases h.chain t s b with ⟨a,c⟩|⟨q,w,a,c,j,g,f⟩
  ·exact .inl ⟨a,IC c⟩
  ·exact .inr ⟨q,w,a,c,IC j,IC g,f⟩
 ·subst a
  refine .inr ⟨i,wi,rfl,?_,IC d,?_,e⟩
  ·rw[b,<-h.wlen];exact hi
  ·rw[b,<-h.wlen];simp
theorem FI.WM{g:Gr}{seen:List Bool}{steps:List MN}{ws:List (List Int)}{i j:Nat}(h:FI g seen steps ws i j):Chain g.ls steps ws:=⟨h.wlen,h.chain⟩
theorem FI.visit{g:Gr}(hg:KZ g){seen:List Bool}{steps:List MN}{ws:List (List Int)}{i j:Nat}(h:FI g seen steps ws i j){wi:List Int}{lj:Int}(K:ws[i]?=some wi)(T:g.ls[j]?=some lj){s:MN}(hs:steps[i]?=some s)
 {R:List Int} (hR:∀y,y∈R↔∃n∈s.ns,y∈g.succ n lj) {st:ea} (z:gd g.goal g.N seen R st) (hf:st.found=false):FI g st.seen (EC steps i lj st.fresh) (kt ws (wi++[lj]) st.fresh) i (j+1):=by
 have Z:=co T
 have X:∀y∈R,0<=y/\y<g.N:=λy J=>by
  obtain⟨n,e,J⟩:=(hR y).1 J;exact hg.inn n (h.inn s (co hs) n e) lj Z y J
 have q:∀n:Int,0<=n->sn seen n=true->sn st.seen n=true:=λn e hx=>(z.snI n e).2 (.inl hx)
 have Q:∀n∈st.fresh,g.goal n=false:=λn e=>by
  have:=z.fd;rw[hf]at this;have o:=List.any_eq_false.1 this.symm n e
  simpa using o
 have L:∀w∈ws,w=[]\/∃(p:Nat) (v:List Int) (l:Int),ws[p]?=some v/\w=v++[l]/\l∈g.ls/\(p<i\/p=i/\∃j',j'<j+1/\g.ls[j']?=some l):=λw K=>by
  rcases h.par w K with c|⟨p,v,l,c,o,f,k⟩
  ·exact .inl c
  ·refine .inr ⟨p,v,l,c,o,f,?_⟩
   rcases k with k|⟨k,j',h5,h6⟩
   ·exact .inl k
   ·exact .inr ⟨k,j',by omega,h6⟩
 have I:∀(t:Nat) s',steps[t]?=some s'->∀l,(t<i/\l∈g.ls\/t=i/\∃j',j'<j+1/\g.ls[j']?=some l)->∀n∈s'.ns,∀y∈g.succ n l,sn st.seen y=true:=by
  intro t s' d l H n e y J
  have B:0<=y/\y<g.N:=by
   refine hg.inn n (h.inn s' (co d) n e) l ?_ y J
   rcases H with ⟨_,c⟩|⟨_,j',_,c⟩
   ·exact c
   ·exact co c
  rcases H with c|⟨c,j',o,f⟩
  ·exact q y B.1 (h.done t s' d l (.inl c) n e y J)
  ·subst c
   rcases n9.1 o with k|k
   ·exact q y B.1 (h.done t s' d l (.inr ⟨rfl,j',k,f⟩) n e y J)
   ·subst k
    rw[T]at f
    injection f with f
    subst f;rw[hs]at d
    injection d with d
    subst d;exact(z.snI y B.1).2 (.inr ((hR y).2 ⟨n,e,J⟩))
 unfold EC kt;by_cases r:st.fresh=[]
 ·rw [if_pos r,if_pos r]
  have M:∀n:Int,0<=n->(sn st.seen n=true↔sn seen n=true):=λn e=>by
   rw[z.snI n e];refine⟨λc=>?_,.inl⟩
   rcases c with c|c
   ·exact c
   ·rcases Bool.eq_false_or_eq_true (sn seen n) with o|o
    ·exact o
    ·have:=(z.fr n).2 ⟨c,o⟩
     rw[r]at this;cases this
  refine⟨z.len,h.wlen,h.chain,h.rch,h.ov,h.min,h.ord,L,λn e=>by rw[M n e];exact h.snI n e,I,h.nogoal,h.inn,q _ hg.s0.1 h.start,?_,h.le,h.nd⟩;rw[z.cnt,r];exact h.cnt
 ·rw [if_neg r,if_neg r]
  have U:=h.WM.app (ns:=st.fresh) K Z;have x:∀n∈st.fresh,n∈R/\sn seen n=false:=λn e=>(z.fr n).1 e
  have V:∀w∈ws,slt w (wi++[lj]):=by
   intro w F
   rcases h.par w F with rfl|⟨p,v,l,c,rfl,f,k⟩
   ·exact .inl (by simp)
   ·rcases k with k|⟨k,j',h5,h6⟩
    ·obtain⟨a1,a2⟩:=am.1 c
     obtain⟨b1,b2⟩:=am.1 K;have Y:=(lN.1 h.ord) p i a1 b1 k;rw[a2,b2]at Y;exact WA Y
    ·subst k
     rw[K]at c
     injection c with c
     subst c;obtain⟨a1,a2⟩:=am.1 h6;obtain⟨b1,b2⟩:=am.1 T;have Y:=(lN.1 hg.srt) j' j a1 b1 h5;rw[a2,b2]at Y;exact aW Y
  have P:∀n∈st.fresh,∃m∈s.ns,n∈g.succ m lj:=λn e=>(hR n).1 (x n e).1;refine⟨z.len,U.wlen,U.chain,λt s' w d G n e=>?_,λw F=>?_,λt s' w d G n e u hu S hr=>?_,?_,λw F=>?_,λn e=>?_,λt s' d l H n e y J=>?_,λs' d n e=>?_,λs' d n e=>?_,q _ hg.s0.1 h.start,?_,?_,λs' d=>?_⟩
  ·rcases Ge d with c|⟨c,o⟩
   ·rcases Ge G with f|⟨f,k⟩
    ·exact h.rch t s' w c f n e
    ·have:=(am.1 c).1
     rw[h.wlen]at f;omega
   ·subst o
    rcases Ge G with f|⟨f,k⟩
    ·have:=(am.1 f).1
     rw[h.wlen]at this;omega
    ·subst k
     obtain⟨m,hm,hnm⟩:=P n e;exact FU.2 ⟨m,h.rch i s wi hs K m hm,hnm⟩
  ·rcases f6.1 F with c|c
   ·exact h.ov w c
   ·simp at c;subst c
    exact IL.2 ⟨h.ov wi (co K),Z⟩
  ·rcases Ge d with c|⟨c,o⟩
   ·rcases Ge G with f|⟨f,k⟩
    ·exact h.min t s' w c f n e u hu S hr
    ·have:=(am.1 c).1
     rw[h.wlen]at f;omega
   ·subst o
    rcases Ge G with f|⟨f,k⟩
    ·have:=(am.1 f).1
     rw[h.wlen]at this;omega
    ·subst k
     have:=h.dJ hg K T u.length u rfl hu S n hr;rw[(x n e).2]at this;cases this
  ·refine m8.2 ⟨h.ord,by simp,λa ha b hb=>?_⟩
   simp at hb;subst hb;exact V a ha
  ·rcases f6.1 F with c|c
   ·rcases L w c with o|⟨p,v,l,o,f,k,h5⟩
    ·exact .inl o
    ·exact .inr ⟨p,v,l,IC o,f,k,h5⟩
   ·simp at c;subst c
    exact .inr ⟨i,wi,lj,IC K,rfl,Z,.inr ⟨rfl,j,by omega,T⟩⟩
  ·rw [z.snI n e,h.snI n e]
   constructor
   ·rintro(⟨s',d,A⟩|hnR)
    ·exact⟨s',lP _ d,A⟩
    ·rcases Bool.eq_false_or_eq_true (sn seen n) with o|o
     ·obtain⟨s',d,A⟩:=(h.snI n e).1 o
      exact⟨s',lP _ d,A⟩
     ·exact⟨⟨i,lj,st.fresh⟩,lX _ (by simp),(z.fr n).2 ⟨hnR,o⟩⟩
   ·rintro⟨s',d,A⟩
    rcases f6.1 d with c|c
    ·exact .inl ⟨s',c,A⟩
    ·simp at c;subst c
     exact .inr (x n A).1
  ·rcases Ge d with c|⟨c,o⟩
   ·exact I t s' c l H n e y J
   ·have:=(am.1 hs).1
    rcases H with ⟨f,_⟩|⟨f,_⟩<;>omega
  ·rcases f6.1 d with c|c
   ·exact h.nogoal s' c n e
   ·simp at c;subst c;exact Q n e
  ·rcases f6.1 d with c|c
   ·exact h.inn s' c n e
   ·simp at c;subst c;exact X n (x n e).1
  ·have c:=z.cnt
   have o:=h.cnt;have f:0<st.fresh.length:=oX.2 r;simp;omega
  ·have:=h.le;simp;omega
  ·rcases f6.1 d with c|c
   ·exact h.nd s' c
   ·simp at c;subst c;exact z.nd
theorem FI.init{g:Gr}(hg:KZ g){st:ea}(i:gd g.goal g.N (List.replicate g.N false) [g.s0] st)(p:st.found=false):st.fresh=[g.s0]/\FI g st.seen [⟨-1,0,[g.s0]⟩] [[]] 0 0:=by
 have hno:∀n,sn (List.replicate g.N false) n=false:=λn=>by
  unfold sn;by_cases h:n.toNat<g.N<;>simp[List.getD,h]
 have c:∀n,n∈st.fresh↔n=g.s0:=λn=>by rw[i.fr n];simp[hno]
 have j:st.fresh=[g.s0]:=by
  have f:=i.nd;generalize st.fresh=l at c f
  cases l with
  | nil=>have:=(c g.s0).2 rfl;cases this
  | cons a l=>
   have ha:=(c a).1 (by simp);subst ha
   cases l with
   | nil=>rfl
   | cons b l=>
    have hb:=(c b).1 (by simp);subst hb;simp at f
 refine⟨j,?_⟩
 have k:g.goal g.s0=false:=by
  have:=i.fd;rw[p,j]at this
  simpa using this.symm
 have one:∀(t:Nat) (s:MN),[(⟨-1,0,[g.s0]⟩:MN)][t]?=some s->t=0/\s=⟨-1,0,[g.s0]⟩:=λt s h=>by
  cases t with
  | zero=>simp at h;exact⟨rfl,h.symm⟩
  | succ t=>simp at h
 have one':∀(t:Nat) (w:List Int),[([]:List Int)][t]?=some w->w=[]:=λt w h=>by
  cases t with
  | zero=>exact(Option.some.inj h).symm
  | succ t=>simp at h
 refine⟨i.len,rfl,λt s hs=>?_,λt s w hs e n d=>?_,λw e=>?_,λt s w hs e n d u _ m=>?_,by simp,λw e=>by simp at e;exact .inl e,λn d=>?_,λt s hs l o n d y q=>?_,λs hs n d=>?_,λs hs n d=>?_,?_,?_,by simp,λs hs=>?_⟩
 ·obtain⟨rfl,rfl⟩:=one t s hs;exact .inl ⟨rfl,rfl⟩
 ·obtain⟨rfl,rfl⟩:=one t s hs
  have:=one' 0 w e;subst this;simp at d;subst d;exact(rfl:g.s0=g.s0)
 ·simp at e;subst e;exact λl o=>(by cases o)
 ·have:=one' t w e
  subst this
  rcases m with f|⟨_,f⟩
  ·simp at f
  ·cases u<;>exact f.elim
 ·rw[i.snI n d];simp[hno]
 ·rcases o with ⟨f,_⟩|⟨_,j',f,_⟩<;>omega
 ·simp at hs;subst hs;simp at d;subst d;exact k
 ·simp at hs;subst hs;simp at d;subst d;exact hg.s0
 ·exact(i.snI _ hg.s0.1).2 (.inr (by simp))
 ·rw[i.cnt,j];simp
 ·simp at hs;subst hs;simp
theorem CQ.start{g:Gr}(h:g.goal g.s0=true):CQ g (some []):=
 ⟨λl c=>(by cases c),⟨g.s0,rfl,h⟩,λu _ _ a=>by rcases a with b|⟨_,b⟩;(simp at b);(cases u<;>exact b.elim)⟩
end Go.Am
namespace Go.Am
open Go Go.Proofs
set_option maxHeartbeats 1000000
set_option maxRecDepth 4000
attribute [local irreducible] A1 Cr Lex Bs Aj Spec
variable {TB:BA}
def EB(bs:List UInt8)(k i:Nat):UInt8:=if i<k\/bs.length<=i+k then bs.getD (bs.length-1-i) 0 else bs.getD i 0
theorem fK(bs:List UInt8):(BF bs.length λi=>Fo (EB bs 0 i))=bs.map Fo:=by
 apply nf;intro i;by_cases hi:i<bs.length
 ·rw[Dz (g:=λi=>Fo (EB bs 0 i)) hi]
  unfold EB;rw[if_neg (by omega)];simp[List.getD,hi]
 ·rw[lV (by simp[BF];omega),lV (by simp;omega)]
theorem aD(bs:List UInt8){k:Nat}(hk:bs.length<=2*k+1):(BF bs.length λi=>Fo (EB bs k i))=bs.reverse.map Fo:=by
 apply nf;intro i;by_cases hi:i<bs.length
 ·rw [Dz (g:=λi=>Fo (EB bs k i)) hi]
  unfold EB
  have b:bs.reverse[i]?=some (bs.getD (bs.length-1-i) 0):=by
   rw[List.getElem?_reverse hi]
   have:bs.length-1-i<bs.length:=by omega
   simp[List.getD,this]
  rw[io,b];by_cases a:i<k\/bs.length<=i+k
  ·rw[if_pos a];rfl
  ·rw[if_neg a]
   have:bs.length-1-i=i:=by omega
   rw[this];rfl
 ·rw[lV (by simp[BF];omega),lV (by simp;omega)]
theorem VZ(r:Nat->Nat)(l:List UInt8):(l.map Fo).map (C.Ch r)=l.map Fo:=by
 rw[mu];exact nh λc _=>rfl
theorem GW(r:Nat->Nat)(c:UInt8):C.Ch r (Fo c)=Fo c:=rfl
theorem Oq(r:Nat->Nat)(n:Nat)(H:Nat->UInt8):(BF n λi=>Fo (H i)).map (C.Ch r)=BF n λi=>Fo (H i):=by
 unfold BF;rw[mu];exact nh λi _=>rfl
theorem JZ{n q:Nat}{H:Nat->UInt8}(h:q<n):(BF n λi=>Fo (H i))[0+((q:Nat):Int).toNat]?=some (Fo (H q)):=by
 rw[lH,i7];exact Dz (g:=λi=>Fo (H i)) h
theorem Nd{n q:Nat}{H:Nat->UInt8}{c d:UInt8}:(BF n λi=>Fo (H i)).set (0+((q:Nat):Int).toNat) (Ae (Fo d) 0 (eC (eI .u8 (c.toNat:Nat))))=BF n λi=>Fo (if i=q then c else H i):=by
 rw[lH,i7];have e:Ae (Fo d) 0 (eC (eI .u8 (c.toNat:Nat)))=Fo c:=rfl;rw[e,LM];refine CZ λi _=>?_;by_cases h:i=q<;>simp[h]
theorem Ux(bs:List UInt8)(hb:bs.length<=1099511627776):Spec Tryz.prog TB 206 [(0,.cells 5 1 (bs.map Fo))] 1 [.o (.arr 0 1 0 bs.length)] (λx σ nx=>x=.t []/\nx=1/\σ=[(0,.cells 5 1 (bs.reverse.map Fo))]):=by
 refine eN Tryz.func206 rfl (by kernel_rfl) rfl ?_;intro Γ b;(repeat first|(refine sM rfl ?_ ?_;first|exact tI|omega)|refine aU rfl ?_|apply Aa);apply aB;refine Aj.BC (α:={k:Nat // k<=bs.length}) (λ⟨k,hk⟩=>[(0,.o (.arr 0 1 0 bs.length)),(2,eI .i64 k),(3,eI .i64 ((bs.length:Int)-1-k))]) (λ⟨k,hk⟩=>[(0,.cells 5 1 (BF bs.length λi=>Fo (EB bs k i)))]) 1 (λ⟨k,hk⟩=>bs.length-k) (⟨0,by omega⟩) [0] (GX b rfl rfl) (by (simp[cX,zC,b,Oq,fK,GW])) ?_;rintro⟨k,hk⟩;(try dsimp only);(repeat first|refine tM rfl ?_|refine s2 rfl λ_ B=>?_|refine aU rfl ?_|apply Aa);(refine aC rfl ?_ ?_<;>rintro⟨⟩)
 ·have u:2*k+1<bs.length:=by (simp only[oZ] at *;omega)
  obtain⟨m,F⟩:∃m:Nat,m=bs.length-1-k:=⟨_,rfl⟩
  have A:(bs.length:Int)-1-k=((m:Nat):Int):=by omega
  have l:EB bs k k=bs.getD k 0:=by unfold EB;rw[if_neg (by omega)]
  have h:EB bs k m=bs.getD m 0:=by unfold EB;rw[if_neg (by omega)]
  have w:=JZ (H:=EB bs k) (q:=k) (n:=bs.length) (by omega);have v:=JZ (H:=EB bs k) (q:=m) (n:=bs.length) (by omega);have e:=Nd (n:=bs.length) (q:=k) (H:=EB bs k) (c:=EB bs k m) (d:=EB bs k k);have a:=JZ (H:=λi=>if i=k then EB bs k m else EB bs k i) (q:=m) (n:=bs.length) (by omega);have f:=Nd (n:=bs.length) (q:=m) (H:=λi=>if i=k then EB bs k m else EB bs k i) (c:=EB bs k k) (d:=EB bs k m)
  have g:m≠k:=by omega
  rw[if_neg g]at a
  have y:(BF bs.length λi=>Fo (if i=m then EB bs k k else if i=k then EB bs k m else EB bs k i))=BF bs.length λi=>Fo (EB bs (k+1) i):=CZ λi hi=>by
   congr 1;by_cases s:i=m
   ·subst s;rw[if_pos rfl,l];unfold EB;rw[if_pos (by omega)];congr 1;omega
   ·rw [if_neg s]
    by_cases r:i=k
    ·subst r;rw[if_pos rfl,h];unfold EB;rw[if_pos (by omega)];congr 1
    ·rw[if_neg r];unfold EB
     by_cases p:i<k\/bs.length<=i+k
     ·rw[if_pos p,if_pos (by omega)]
     ·rw[if_neg p,if_neg (by omega)]
  rw[<-e]at a;rw[A];apply aK;refine aS (aB ?_);refine rG (lh [13,15] [2,3]) (by kernel_rfl) ?_;(repeat first|(refine sM rfl ?_ ?_;first|exact tI|omega)|refine t4 rfl ‹_› rfl ?_|refine aU rfl ?_|apply Aa);refine⟨⟨k+1,by omega⟩,by dsimp only;(omega),[0],?_⟩;rw[e,f,y]
  have z:(m:Int)-1=bs.length-1-(k+1):=by omega
  simp[cX,zC,b,Oq,z]
 ·have j:bs.length<=2*k+1:=by (simp only[oZ] at *;omega)
  rw[aD bs j];exact aE ⟨_,rfl,rfl,rfl,rfl⟩
abbrev dT(s:MN):List D:=[iD s.p,iD s.l,HH s.ns]
abbrev OE(s:MN):List C:=[.d (iD s.p),.d (iD s.l),.d (HH s.ns)]
abbrev bf(l:List MN):D:=.l (l.map dT)
theorem Xs{l:Int}(e:0<=l)(c:l<6):Fo (UInt8.ofNat (97+l.toNat))=[.d (.v (.int .u8 (97+l)))]:=by
 have b:(97+l.toNat)%256=97+l.toNat:=lZ (by omega)
 have a:(97+l:Int)=((97+l.toNat:Nat):Int):=by omega
 simp[Fo,b,a]
theorem dD(o:List Int):(DD o).reverse=DD o.reverse:=by simp[DD]
theorem SE{ls:List Int}{steps:List MN}{ws:List (List Int)}(h:Chain ls steps ws)(I:∀l∈ls,0<=l/\l<6){w:List Int}(n:1<=steps.length/\steps.length<=2097152)(N:ws[steps.length-1]?=some w):Pure Tryz.prog TB 155 [.o (.d (bf steps))] (eT (DD w)):=by
 refine eN Tryz.func155 rfl (by kernel_rfl) rfl ?_;intro Γ a;(repeat first|refine tM rfl ?_|refine aU rfl ?_|apply Aa);(refine pW rfl ?_ rfl (by rfl);refine Gl 1 5 ?_);(repeat first|refine sN rfl ?_|(refine sM rfl ?_ ?_;first|exact tI|omega)|refine aU rfl ?_|apply Aa);apply aB;refine Aj.BC (α:={x:Nat×List Int // x.1+x.2.length<steps.length/\∃v,ws[x.1]?=some v/\w=v++x.2.reverse}) (λ⟨⟨i,o⟩,z⟩=>[(0,.o (.d (bf steps))),(3,.o (.arr 0 1 0 o.length)),(4,eI .i64 i)]) (λ⟨⟨i,o⟩,z⟩=>[(0,.cells 5 1 ((DD o).map Fo))]) 1 (λ⟨⟨i,o⟩,z⟩=>i) (⟨(steps.length-1,[]),by simp;omega,w,N,by simp⟩) [0] (GX a rfl rfl) (by (simp[cX,zC,a,DD,Int.ofNat_sub,n.1])) ?_;rintro⟨⟨i,o⟩,z⟩;(try dsimp only);obtain⟨hi,v,B,b⟩:=z;simp only at hi B b;obtain⟨s,hs⟩:=get_some (l:=steps) (k:=i) (by omega);have Q:=get_map (g:=dT) hs;have t:=h.chain i s hs
 have G:(DD o).length=o.length:=by simp[DD]
 (repeat first|refine tM rfl ?_|(refine s4 rfl ‹_› rfl ?_ ?_;omega)|refine s2 rfl λ_ U=>?_|refine aU rfl ?_|apply Aa);(refine aC rfl ?_ ?_<;>rintro⟨⟩)
 ·obtain⟨q,u,S,R,H,y,T⟩:∃(q:Nat) (u:List Int),s.p=(q:Int)/\q<i/\ws[q]?=some u/\ws[i]?=some (u++[s.l])/\s.l∈ls:=by
   rcases t with ⟨e,_⟩|e
   ·exfalso;(simp only[oZ] at *;omega)
   ·exact e
  have c:=I _ T;rw[B]at y
  injection y with y
  have J:=Xs c.1 c.2
  have F:DD (o++[s.l])=DD o++[UInt8.ofNat (97+s.l.toNat)]:=by simp[DD]
  have j:(DD (o++[s.l])).map Fo=(DD o).map Fo++[[.d (.v (.int .u8 (97+s.l)))]]:=by rw[F,mE,mP,J];rfl
  apply aK;refine aS (aB ?_);(repeat first|refine tA rfl ?_|(refine s4 rfl ‹_› rfl ?_ ?_;omega)|refine sP rfl (ET s.l c.1 (by omega)) rfl ?_|refine aU rfl ?_);(refine pW rfl ?_ rfl (by rfl);refine Al rfl rfl rfl (by first|(simp;done)|(simp;(omega))) rfl (by intro r K;simp at K;subst K;rfl) (by rfl) (ce rfl) (by simp;omega) ?_);(repeat first|refine tX rfl ?_|(refine s4 rfl ‹_› rfl ?_ ?_;omega)|refine aU rfl ?_|apply Aa);refine⟨⟨(q,o++[s.l]),by simp;omega,u,H,by rw[b,y];simp⟩,by dsimp only;omega,[1],?_⟩;dsimp only;rw[j];simp[cX,zC,a,S,GW]
 ·have A:v=[]:=by
   rcases t with ⟨_,e⟩|⟨q,u,e,_⟩
   ·rw[B]at e;injection e
   ·exfalso;(simp only[oZ] at *;omega)
  subst A
  have f:w=o.reverse:=by rw[b];rfl
  have m:=Ux (TB:=TB) (DD o) (by omega);rw[G,dD,<-f]at m;apply aE;(repeat first|refine tM rfl ?_|refine aU rfl ?_);(refine pW rfl ?_ rfl (by rfl);refine Af [0] rfl rfl m ⟨rfl,by simp,by simp⟩ rfl (by simp[cX,zC,a,GW]) ?_;rintro V L M ⟨rfl,rfl,rfl⟩ _)
  have P:(DD w).length=o.length:=by rw[f];simp[DD]
  (repeat first|refine tM rfl ?_|(refine Ag rfl ?_;refine gA rfl ?_;first|refine gQ (Rq (DD w) rfl rfl (by simp;omega) (by rw[mD,VZ,lF (by simp;omega)])) (by rfl) ?_)|refine aU rfl ?_|apply Aa);refine aR ⟨_,rfl,rfl⟩
theorem ef(p:Nat->Prop):(∀i,i<5->p i)↔p 0/\p 1/\p 2/\p 3/\p 4:=by
 constructor
 ·intro h;exact⟨h 0 (by omega),h 1 (by omega),h 2 (by omega),h 3 (by omega),h 4 (by omega)⟩
 ·rintro⟨e,d,c,b,a⟩ i hi
  have:i=0\/i=1\/i=2\/i=3\/i=4:=by omega
  rcases this with rfl|rfl|rfl|rfl|rfl<;>assumption
theorem bu{goal:Int->Bool}{seen:List Bool}{nodes:List Int}{k:Nat}{x:Int}(h:nodes[k]?=some x):RG goal seen (nodes.take (k+1))=Tz goal (RG goal seen (nodes.take k)) x:=by
 unfold RG;rw[NH h]
theorem Tc{l:List Bool}{n:Int}:(l.map AN).set (0+n.toNat) (Ae (AN false) 0 (eC (eB true)))=(l.set n.toNat true).map AN:=by
 simp[Ae,eC,mM]
abbrev Fg(N:Nat)(gG:FuncId)(capsG:List C)(seen:List Bool)(q:Nat)(steps:List MN):Ab:=
 [(0,.cells 27 1 [[.arr 1 1 0 N]]),(1,.cells 4 1 (seen.map AN)),(2,.cells 124 1 [[.fn gG capsG]]),(3,.cells 191 1 [[.arr q 3 0 steps.length]]),(q,.cells 193 3 (steps.map OE))]
theorem Tx{goal:Int->Bool}{gG:FuncId}{capsG:List C}{N:Nat}(M:∀n:Int,0<=n/\n<N->Pure Tryz.prog TB gG ([eI .i64 n]++capsG.map .o) (eB (goal n)))(G:C.C7 capsG=true)(d:∀r,C.Ch r capsG=capsG)
 (seen:List Bool) (steps:List MN) (p l:Int) (nodes:List Int) (hs:seen.length=N) (S:N<=1048576) (Q:steps.length<=1048576) (u:∀n∈nodes,0<=n/\n<N) :
 Spec Tryz.prog TB 154 (Fg N gG capsG seen 4 steps) 5 [eI .i64 p,eI .i64 l,AX nodes,.o (.ptr 0 1 0 0),.o (.ptr 2 1 0 0),.o (.ptr 3 1 0 0)]
  (λx σ nx=>x=eB (RG goal seen nodes).found/\∃q,(q=4/\nx=5\/q=5/\nx=6)/\σ=Fg N gG capsG (RG goal seen nodes).seen q (EC steps p l (RG goal seen nodes).fresh)):=by
 have s:∀k,gd goal N seen (nodes.take k) (RG goal seen (nodes.take k)):=λk=>UP hs λn F=>u n (ma F);refine eN Tryz.func154 rfl (by kernel_rfl) rfl ?_;intro Γ a;refine Aj.bound 2 rfl λK=>?_;have R:=K _ .refl;rw[f7]at R;(repeat first|refine tM rfl ?_|refine aU rfl ?_|apply Aa);(refine pW rfl ?_ rfl (by rfl);refine Gl 1 3 ?_);(repeat first|refine sN rfl ?_|refine tM rfl ?_|refine aU rfl ?_|apply Aa);apply aB;refine Aj.BC (α:={k:Nat // k<=nodes.length}) (λ⟨k,hk⟩=>[(0,eI .i64 p),(1,eI .i64 l),(3,.o (.ptr 0 1 0 0)),(4,.o (.ptr 2 1 0 0)),(5,.o (.ptr 3 1 0 0)),(10,.o (.arr 5 1 0 (RG goal seen (nodes.take k)).fresh.length)),(11,eB (RG goal seen (nodes.take k)).found),(14,AX nodes),(15,eI .i64 nodes.length),(16,eI .i64 k)]) (λ⟨k,hk⟩=>Fg N gG capsG (RG goal seen (nodes.take k)).seen 4 steps++[(5,.cells 3 1 ((RG goal seen (nodes.take k)).fresh.map A8))]) 6 (λ⟨k,hk⟩=>nodes.length-k) (⟨0,by omega⟩) [0,1,2,3,4,5] (GX a rfl rfl) (by (simp[cX,zC,a,Fg,RG,d])) ?_;rintro⟨k,hk⟩;(try dsimp only);have i:=s k;have c:=λx=>bu (goal:=goal) (seen:=seen) (nodes:=nodes) (k:=k) (x:=x);generalize L:RG goal seen (nodes.take k)=v at *;(repeat first|refine s2 rfl λ_ f=>?_|refine aU rfl ?_|apply Aa);(refine aC rfl ?_ ?_<;>rintro⟨⟩)
 ·obtain⟨x,z⟩:=get_some (l:=nodes) (k:=k) (by (simp only[oZ] at *;omega))
  have P:=get_map (g:=DJ) z;have m:=u x (co z);have c:=c x z;have A:=i.len;obtain⟨b,hb⟩:=get_some (l:=v.seen) (k:=x.toNat) (by omega)
  have J:(v.seen.map AN)[0+x.toNat]?=some (AN b):=by simp[hb]
  have B:sn v.seen x=b:=by simp[sn,List.getD,hb]
  have h:v.fresh.length<=N:=by
   refine EP _ _ i.nd λy w=>u y (ma ((i.fr y).1 w).1)
  unfold Tz at c;rw[B]at c;obtain⟨vse,vfr,vfd⟩:=v;simp only at c A hb J h;apply aK;refine aS (aB ?_);(repeat first|((first|refine sM rfl ?_ ?_|refine s4 rfl ‹_› rfl ?_ ?_);first|exact tI|omega)|refine s2 rfl λ_ f=>?_|refine aU rfl ?_|apply Aa);(refine aC rfl ?_ ?_<;>rintro⟨⟩)
  ·have I:b=false:=by simpa using f
   subst I;rw[if_neg (by simp)]at c;(repeat first|(refine sA rfl ?_ ?_;first|exact tI|omega)|refine t4 rfl ‹_› rfl ?_|refine aU rfl ?_|apply Aa);(refine pW rfl ?_ rfl (by rfl);refine Al rfl rfl rfl (by first|(simp;done)|(simp;(omega))) rfl (by intro r t;simp at t;subst t;rfl) (by rfl) (ce rfl) (by simp;omega) ?_);(repeat first|(refine sX rfl ?_ ?_;first|exact tI|simp only[oZ] at *;omega)|refine s3 rfl ?_ ?_<;>rintro rfl|refine aU rfl ?_|apply Aa);(repeat first|(refine sC rfl (M x m) ?_;intro _ f)|(refine Ag rfl ?_;refine gA rfl ?_;first|refine gQ (Ro rfl rfl rfl rfl) (by rfl) ?_))
   ·refine⟨⟨k+1,by (simp only[oZ] at *;omega)⟩,by dsimp only;((simp only[oZ] at *;omega)),[0,1,2,3,4,6],?_⟩
    rw[Tc];simp[cX,zC,a,c,Fg,d,ef]
   ·(repeat first|(refine sA rfl ?_ ?_;first|exact tI|simp only[oZ] at *;omega)|(refine Ag rfl ?_;refine gA rfl ?_;first|(refine gB (λ_ _=>Be rfl rfl (by simp[E.BY,C.BY,G]) (M x m) rfl) ?_;intro _ f))|refine aU rfl ?_|apply Aa)
    refine⟨⟨k+1,by (simp only[oZ] at *;omega)⟩,by dsimp only;((simp only[oZ] at *;omega)),[0,1,2,3,4,6],?_⟩;rw[Tc];simp[cX,zC,a,c,Fg,d,ef,f]
  ·have H:b=true:=by simpa using f
   subst H;rw[if_pos rfl]at c;apply aK;(repeat first|(refine sM rfl ?_ ?_;first|exact tI|simp only[oZ] at *;omega)|refine aU rfl ?_|apply Aa);refine⟨⟨k+1,by (simp only[oZ] at *;omega)⟩,by dsimp only;((simp only[oZ] at *;omega)),[0,1,2,3,4,5],?_⟩;simp[cX,zC,a,c,Fg,d,ef]
 ·obtain rfl:k=nodes.length:=by (simp only[oZ] at *;omega)
  rw[jp]at L;subst L;apply aE
  have h:(RG goal seen nodes).fresh.length<=N:=by
   have i:=s nodes.length;rw[jp]at i;refine EP _ _ i.nd λy w=>u y ((i.fr y).1 w).1
  generalize RG goal seen nodes=vv at *;obtain⟨vse,vfr,vfd⟩:=vv;have h:vfr.length<=N:=h;(repeat first|refine tM rfl ?_|refine s2 rfl λ_ f=>?_|refine aU rfl ?_|apply Aa);(refine aC rfl ?_ ?_<;>rintro⟨⟩)
  ·have j:vfr≠[]:=λe=>by rw[e]at f;simp at f
   refine Aj.freeze [5] [(0,eI .i64 p),(1,eI .i64 l),(5,.o (.ptr 3 1 0 0)),(10,AX vfr),(11,eB vfd)] ⟨⟨_,rfl,.AR⟩,⟨_,rfl,.AR⟩,⟨_,rfl,.AR⟩,⟨_,rfl,.o (.full (by simp) rfl (by simp[d7]) (by simp))⟩,⟨_,rfl,.AR⟩,trivial⟩ ?_;(repeat first|refine tA rfl ?_|(refine Ag rfl ?_;refine gA rfl ?_;first|refine gS (λ_ _=>AP rfl rfl (by rfl) (by rfl)) ?_)|refine aU rfl ?_);(refine pW rfl ?_ rfl (by rfl);refine Al rfl rfl rfl (by first|(simp;done)|(simp;(omega))) rfl (by intro r t;simp at t;subst t;rfl) (by rfl) (ce rfl) (by simp;omega) ?_);(repeat first|refine tX rfl ?_|refine aU rfl ?_|apply Aa);refine Aj.names [0,1,2,3,4,6] [(9,eB vfd)] (Fg N gG capsG vse 5 (EC steps p l vfr)) (by rw[a];decide) (by decide) (by simp[cX,zC,a]) (by simp[cX,zC,a,Fg,d,EC,j,BW,Ae,eC]) ?_;refine aR ⟨_,rfl,rfl,5,.inr ⟨rfl,rfl⟩,rfl⟩
  ·have j:vfr=[]:=lL.1 (by (simp only[oZ] at *;omega))
   subst j;apply aK;(repeat first|refine tM rfl ?_|refine aU rfl ?_|apply Aa);refine Aj.names [0,1,2,3,4] [(9,eB vfd)] (Fg N gG capsG vse 4 steps) (by rw[a];decide) (by decide) (by simp[cX,zC,a]) (by simp[cX,zC,a,Fg,d]) ?_;refine aR ⟨_,rfl,rfl,4,.inl ⟨rfl,rfl⟩,by simp[EC]⟩
theorem Zv{P:Program}{Γ:Ctx}{d:Option Tmp}{ty:TypeId}{pos:String}{af:Array Edge}{g:Option (Nat×Bool)}{f:Env}{σ:Ab}{nx:Nat}{K:E->Ab->Nat->Prop}{T:TypeId}(k e:Nat)[r:BM P T [.slice none 0 0]]
 (u:K (.o (.ptr (nx+1) 1 0 0)) ((nx+1,.cells T 1 [[.arr nx k 0 0]])::(nx,.cells e k [])::σ) (nx+2)):Cr P TB Γ ⟨d,.alloc T,ty,pos,af,g⟩ f σ nx K:=
 Dp λV ρ z y x=>by
  subst x;obtain⟨i,zv,hi,b,a⟩:=HD r.out
  have h:zv.cells = #[.slice none 0 0]:=by have:=congrArg List.toArray a;simpa using this
  obtain⟨m,p⟩:=y.alloc (c:=0) (nl:=True) (w:=V.w) (ob:=.cells e k []) rfl rfl rfl rfl (i9 _) (λ_ _=>rfl) (.inl ⟨by simp[Au],rfl⟩)
  have t:C1 (Au V V.w.heap.size 0 True V.w) [.arr V.nx k 0 0] zv.cells:=by
   rw[h];refine⟨rfl,λj c v l q=>?_⟩
   match j with
   | 0=>simp at l q;subst l q;exact AF.nil (by simp[Au]) (by simp[Au])
   | j+1=>simp at l
  obtain⟨n,s⟩:=Qq m (T:=T) t;refine⟨.pointer (some ⟨V.w.heap.size,0,none⟩),_,_,_,?_,p.trans s,n,?_,u⟩
  ·simp[execOp,Instr.alloc,zeroValue,typeInfo,hi,b,newVar,newRow,Au,go_sem]
  ·exact Nb
theorem PZ(r:Nat->Nat):∀(l m:List E),Ey r (l++m)=Ey r l++Ey r m
 | [],m=>rfl
 | e::l,m=>by simp[Ey,PZ r l m]
theorem On(r:Nat->Nat):∀(l:List C),Ey r (l.map .o)=(C.Ch r l).map .o
 | []=>rfl
 | c::l=>by simp[Ey,C.Ch,E.A3,On r l]
def Yx(P:Program)(TB:BA)(T:TypeId)(g:Gr)(gN:FuncId)(capsN:List C):Prop:=
 ∀(node l:Int) (outs:List Int),0<=node/\node<g.N->l∈g.ls->outs.length<=1099511627776->
  Spec P TB gN [(0,.cells T 1 (outs.map A8))] 1 ([eI .i64 node,eI .i64 l,.o (.arr 0 1 0 outs.length)]++capsN.map .o) (λx σ nx=>x=.o (.arr 1 1 0 (outs++g.succ node l).length)/\nx=2/\σ=[(1,.cells T 1 ((outs++g.succ node l).map A8))])
theorem Hn{g:Gr}(hg:KZ g)(hN:g.N<=1048576)(U:∀l∈g.ls,0<=l/\l<6)(hll:g.ls.length<=6)(hsl:∀(node l:Int),0<=node/\node<g.N->l∈g.ls->(g.succ node l).length<=g.N)
 {gN gG:FuncId} {capsN capsG:List C} (hNx:Yx Tryz.prog TB 3 g gN capsN) (hG:∀n:Int,0<=n/\n<g.N->Pure Tryz.prog TB gG ([eI .i64 n]++capsG.map .o) (eB (g.goal n)))
 (Z:C.C7 capsG=true) (d:∀r,C.Ch r capsG=capsG) (h:∀r,C.Ch r capsN=capsN) {r:Option (List Int)} (hr:CQ g r) :
 Pure Tryz.prog TB 95 [eI .i64 g.N,AX [g.s0],AX g.ls,.o (.fn gN capsN),.o (.fn gG capsG)] (Nx r):=by
 refine eN Tryz.func95 rfl (by kernel_rfl) rfl ?_;intro Γ b;(repeat first|refine aU rfl ?_);(refine pW rfl ?_ rfl (by rfl);refine CY rfl rfl ?_);(repeat first|refine tM rfl ?_|refine aU rfl ?_|apply Aa);(refine pW rfl ?_ rfl (by rfl);refine Un rfl rfl (by rfl) (by rfl) (ce rfl) (by omega) (by omega) (by omega) ?_)
 iterate 4 (first|refine tM rfl ?_|refine aU rfl ?_|apply Aa)
 (refine pW rfl ?_ rfl (by rfl);refine Zv 3 193 ?_);(repeat first|refine tM rfl ?_|refine aU rfl ?_|apply Aa);have J:=UP (goal:=g.goal) (N:=g.N) (seen:=List.replicate g.N false) (nodes:=[g.s0]) (by simp) (by intro n u;simp at u;subst u;exact hg.s0);have A:=Tx (TB:=TB) hG Z d (List.replicate g.N false) [] (-1) 0 [g.s0] (by simp) hN (by simp) (by intro n u;simp at u;subst u;exact hg.s0);(refine pW rfl ?_ rfl (by rfl);refine Af [2,1,0,4,3] rfl rfl A ⟨rfl,by decide,by decide⟩ rfl (by simp[cX,zC,b,Fg,d,Ae,eC]) ?_;rintro x0 Q S ⟨rfl,q,K,rfl⟩ _);generalize hV:RG g.goal (List.replicate g.N false) [g.s0]=v at *;obtain⟨vse,vfr,vfd⟩:=v;simp only;apply Aa;refine Aj.names [2,1,0,4,if q=4 then 3 else 5] [(2,AX g.ls),(3,.o (.fn gN capsN)),(12,.o (.ptr 0 1 0 0)),(13,.o (.ptr 3 1 0 0)),(14,.o (.fn 154 [.ptr 0 1 0 0,.ptr 2 1 0 0,.ptr 3 1 0 0])),(26,eB vfd)] (Fg g.N gG capsG vse 4 (EC [] (-1) 0 vfr)) (by simp[b]) (by rcases K with ⟨rfl,rfl⟩|⟨rfl,rfl⟩<;>decide)
  (by rcases K with ⟨rfl,rfl⟩|⟨rfl,rfl⟩<;>simp[cX,zC,b,h,eC]) (by rcases K with ⟨rfl,rfl⟩|⟨rfl,rfl⟩<;>simp[cX,zC,b,Fg,d,Ab.A3,BW,HO,eC]) ?_
 (refine aC rfl ?_ ?_<;>rintro⟨⟩)
 ·-- the start is a goal
  have hgs:g.goal g.s0=true:=by
   have h1:vfr.any g.goal=true:=J.fd.symm;obtain⟨x,I,M⟩:=po.1 h1;have h2:=((J.fr x).1 I).1;simp at h2;subst h2;exact M
  have B:=CQ.unique hr (CQ.start hgs);subst B;(repeat first|refine tM rfl ?_|refine aU rfl ?_|apply Aa);refine aR ⟨_,rfl,rfl⟩
 apply aK;obtain⟨Y,hF0⟩:=FI.init hg J rfl;simp only at Y hF0;rw[Y];(repeat first|refine tM rfl ?_|refine aU rfl ?_|apply Aa);apply aB;refine Aj.BC (α:={x:Nat×List Bool×List MN×List (List Int) // FI g x.2.1 x.2.2.1 x.2.2.2 x.1 0}) (λ⟨⟨i,seen,steps,ws⟩,f⟩=>[(2,AX g.ls),(3,.o (.fn gN capsN)),(12,.o (.ptr 0 1 0 0)),(13,.o (.ptr 3 1 0 0)),(14,.o (.fn 154 [.ptr 0 1 0 0,.ptr 2 1 0 0,.ptr 3 1 0 0])),(15,eI .i64 i)]) (λ⟨⟨i,seen,steps,ws⟩,f⟩=>Fg g.N gG capsG seen 4 steps) 5 (λ⟨⟨i,seen,steps,ws⟩,f⟩=>g.N-i) (⟨(0,vse,[⟨-1,0,[g.s0]⟩],[[]]),hF0⟩) [0,1,2,3,4] (GX b rfl rfl) (by (simp[cX,zC,b,Fg,d,h,EC])) ?_;rintro⟨⟨i,seen,steps,ws⟩,f⟩;(try dsimp only);simp only at f;have V:=f.il;(repeat first|refine tM rfl ?_|refine s2 rfl λ_ _hb=>?_|refine aU rfl ?_|apply Aa);(refine aC rfl ?_ ?_<;>rintro⟨⟩)
 ·have hi : i<steps.length:=by (simp only[oZ] at *;omega)
  obtain⟨s,hs⟩:=get_some hi;have T:(steps.map OE)[0+((i:Nat):Int).toNat]?=some (OE s):=NJ hs;obtain⟨wi,z⟩:∃wi,ws[i]?=some wi:=get_some (by rw[f.wlen];exact hi);apply aK;refine aS (aB ?_);(repeat first|refine sN rfl ?_|refine tM rfl ?_|refine aU rfl ?_|apply Aa);apply aB;refine Aj.BC (α:={x:Nat×List Bool×List MN×List (List Int) // x.1<=g.ls.length/\FI g x.2.1 x.2.2.1 x.2.2.2 i x.1/\i<x.2.2.1.length}) (λ⟨⟨j,c,st2,t⟩,hP⟩=>[(2,AX g.ls),(3,.o (.fn gN capsN)),(12,.o (.ptr 0 1 0 0)),(13,.o (.ptr 3 1 0 0)),(14,.o (.fn 154 [.ptr 0 1 0 0,.ptr 2 1 0 0,.ptr 3 1 0 0])),(15,eI .i64 i),(33,AX g.ls),(34,eI .i64 g.ls.length),(35,eI .i64 j)]) (λ⟨⟨j,c,st2,t⟩,hP⟩=>Fg g.N gG capsG c 4 st2) 5 (λ⟨⟨j,c,st2,t⟩,hP⟩=>g.ls.length-j) (⟨(0,seen,steps,ws),by simp,f,hi⟩) [0,1,2,3,4] (GX b rfl rfl) (by (simp[cX,zC,b,Fg,d,h])) ?_;rintro⟨⟨j,c,st2,t⟩,hP⟩;(try dsimp only);clear hs T z f V hi;obtain⟨hj,f,hi⟩:=hP;simp only at hj f hi;have V:=f.il;(repeat first|refine s2 rfl λ_ _hb=>?_|refine aU rfl ?_|apply Aa);(refine aC rfl ?_ ?_<;>rintro⟨⟩)
  ·have X:j<g.ls.length:=by (simp only[oZ] at *;omega)
   obtain⟨l,hl⟩:=get_some (l:=g.ls) (k:=j) X;have hl':=get_map (g:=DJ) hl;have F:=co hl;have hlb:=U l F;obtain⟨s,hs⟩:=get_some hi;have T:(st2.map OE)[0+((i:Nat):Int).toNat]?=some (OE s):=NJ hs;obtain⟨wi,z⟩:∃wi,t[i]?=some wi:=get_some (by rw[f.wlen];exact hi);have p:=f.inn s (co hs);have hsnd:=EP _ _ (f.nd s (co hs)) p;apply aK;refine aS (aB ?_);(repeat first|refine tM rfl ?_|(refine s4 rfl ‹_› rfl ?_ ?_;omega)|refine aU rfl ?_|apply Aa);(refine pW rfl ?_ rfl (by rfl);refine Gl 1 3 ?_);(repeat first|refine sN rfl ?_|(refine sM rfl ?_ ?_;first|exact tI|omega)|refine t4 rfl ‹_› rfl ?_|refine aU rfl ?_|apply Aa);apply aB;refine Aj.BC (α:={m:Nat // m<=s.ns.length}) (λ⟨m,hm⟩=>[(2,AX g.ls),(3,.o (.fn gN capsN)),(12,.o (.ptr 0 1 0 0)),(13,.o (.ptr 3 1 0 0)),(14,.o (.fn 154 [.ptr 0 1 0 0,.ptr 2 1 0 0,.ptr 3 1 0 0])),(15,eI .i64 i),(33,AX g.ls),(34,eI .i64 g.ls.length),(35,eI .i64 j),(17,eI .i64 l),(18,.o (.arr 5 1 0 ((s.ns.take m).flatMap λn=>g.succ n l).length)),(43,AX s.ns),(44,eI .i64 s.ns.length),(45,eI .i64 m)]) (λ⟨m,hm⟩=>Fg g.N gG capsG c 4 st2++[(5,.cells 3 1 (((s.ns.take m).flatMap λn=>g.succ n l).map A8))]) 6 (λ⟨m,hm⟩=>s.ns.length-m) (⟨0,by omega⟩) [0,1,2,3,4,5] (GX b rfl rfl) (by (simp[cX,zC,b,Fg,d,h])) ?_;rintro⟨m,hm⟩;(try dsimp only);(repeat first|refine s2 rfl λ_ _hb=>?_|refine aU rfl ?_|apply Aa);(refine aC rfl ?_ ?_<;>rintro⟨⟩)
   ·obtain⟨n,u⟩:=get_some (l:=s.ns) (k:=m) (by (simp only[oZ] at *;omega))
    have hn':=get_map (g:=DJ) u;have hnb:=p n (co u)
    have hfm:(s.ns.take (m+1)).flatMap (λn=>g.succ n l)=(s.ns.take m).flatMap (λn=>g.succ n l)++g.succ n l:=by
     rw[gt,u];simp
    have hol:((s.ns.take m).flatMap λn=>g.succ n l).length<=1099511627776:=by
     have h2:=NF (s.ns.take m) (λn=>g.succ n l) 1048576 (λx I=>by have:=hsl x l (p x (ma I)) F;omega)
     have h3:(s.ns.take m).length<=1048576:=by simp;omega
     omega
    have hnx:=hNx n l _ hnb F hol;generalize (s.ns.take m).flatMap (λn=>g.succ n l)=pre at *;apply aK;refine aS (aB ?_);(repeat first|refine tM rfl ?_|(refine s4 rfl ‹_› rfl ?_ ?_;omega)|refine aU rfl ?_|apply Aa);(refine pW rfl ?_ rfl (by rfl);refine Af [5] rfl rfl hnx ⟨rfl,by decide,by decide⟩ (by rw[PZ,On,h];rfl) (by simp[cX,zC,b]) ?_;rintro x0 Q S ⟨rfl,rfl,rfl⟩ _);(repeat first|(refine sM rfl ?_ ?_;first|exact tI|omega)|refine aU rfl ?_|apply Aa);refine⟨⟨m+1,by (simp only[oZ] at *;omega)⟩,by dsimp only;((simp only[oZ] at *;omega)),[0,1,2,3,4,6],?_⟩;simp[cX,zC,b,Fg,d,h,Ab.A3,BW,HO,hfm]
   ·obtain rfl:m=s.ns.length:=by (simp only[oZ] at *;omega)
    rw[jp];have hR:∀y,y∈s.ns.flatMap (λn=>g.succ n l)↔∃n∈s.ns,y∈g.succ n l:=λy=>mL;generalize s.ns.flatMap (λn=>g.succ n l)=R at *
    have H:∀y∈R,0<=y/\y<g.N:=λy hy=>by
     obtain⟨n,u,hy⟩:=(hR y).1 hy;exact hg.inn n (p n u) l F y hy
    have hv:=UP (goal:=g.goal) f.slen H;have A:=Tx (TB:=TB) hG Z d c st2 i l R f.slen hN (by omega) H;generalize hV2:RG g.goal c R=v2 at *;apply aE;refine Aj.freeze [5] [(2,AX g.ls),(3,.o (.fn gN capsN)),(12,.o (.ptr 0 1 0 0)),(13,.o (.ptr 3 1 0 0)),(14,.o (.fn 154 [.ptr 0 1 0 0,.ptr 2 1 0 0,.ptr 3 1 0 0])),(15,eI .i64 i),(33,AX g.ls),(34,eI .i64 g.ls.length),(35,eI .i64 j),(17,eI .i64 l),(18,AX R)] ⟨⟨_,rfl,.AR⟩,⟨_,rfl,.AR⟩,⟨_,rfl,.AR⟩,⟨_,rfl,.AR⟩,⟨_,rfl,.AR⟩,⟨_,rfl,.AR⟩,⟨_,rfl,.AR⟩,⟨_,rfl,.AR⟩,⟨_,rfl,.AR⟩,⟨_,rfl,.AR⟩,⟨_,rfl,.o (.full (by simp) rfl (by simp[d7]) (by simp))⟩,trivial⟩ ?_;(repeat first|refine tM rfl ?_|refine aU rfl ?_);(refine pW rfl ?_ rfl (by rfl);refine Af [0,1,2,3,4] rfl rfl A ⟨rfl,by decide,by decide⟩ rfl (by simp[cX,zC,b,Fg,d,BW]) ?_;rintro x0 Q S ⟨rfl,q,K,rfl⟩ _);obtain⟨vse,vfr,vfd⟩:=v2;simp only;apply Aa;refine Aj.names [0,1,2,3,if q=4 then 4 else 6] [(2,AX g.ls),(3,.o (.fn gN capsN)),(12,.o (.ptr 0 1 0 0)),(13,.o (.ptr 3 1 0 0)),(14,.o (.fn 154 [.ptr 0 1 0 0,.ptr 2 1 0 0,.ptr 3 1 0 0])),(15,eI .i64 i),(33,AX g.ls),(34,eI .i64 g.ls.length),(35,eI .i64 j),(59,eB vfd)] (Fg g.N gG capsG vse 4 (EC st2 i l vfr)) (by simp[b]) (by rcases K with ⟨rfl,rfl⟩|⟨rfl,rfl⟩<;>decide)
     (by rcases K with ⟨rfl,rfl⟩|⟨rfl,rfl⟩<;>simp[cX,zC,b,h]) (by rcases K with ⟨rfl,rfl⟩|⟨rfl,rfl⟩<;>simp[cX,zC,b,Fg,d,Ab.A3,BW,HO]) ?_
    (refine aC rfl ?_ ?_<;>rintro⟨⟩)
    ·obtain⟨x,I,M⟩:∃x∈vfr,g.goal x=true:=by
      have h1:vfr.any g.goal=true:=hv.fd.symm;exact po.1 h1
     have hxR:=((hv.fr x).1 I).1;obtain⟨n,u,hxn⟩:=(hR x).1 hxR;have G:=CQ.found hg f z hl hs u hxn M;have B:=CQ.unique hr G;subst B
     have hne:vfr≠[]:=λe=>by rw[e]at I;cases I
     have hsv:EC st2 i l vfr=st2++[⟨i,l,vfr⟩]:=by unfold EC;rw[if_neg hne]
     rw[hsv];have hch:=f.WM.app (ns:=vfr) z F;have hpw:=SE (TB:=TB) hch U (w:=wi++[l]) (by simp;omega) (by simp[f.wlen]);generalize hst3:st2++[⟨(i:Int),l,vfr⟩]=st3 at *;(repeat first|refine tM rfl ?_|(refine Ag rfl ?_;refine gA rfl ?_;first|refine gQ (Kx rfl rfl ((.cons (.o (.full rfl (by simp[d7]) (by simp))) .nil)) (hpw) rfl) rfl ?_)|refine aU rfl ?_|apply Aa);refine aR ⟨_,rfl,rfl⟩
    ·have P:=f.visit hg z hl hs hR hv rfl
     have L:i<(EC st2 i l vfr).length:=by unfold EC;split<;>(try simp)<;>omega
     apply aK;(repeat first|(refine sM rfl ?_ ?_;first|exact tI|omega)|refine aU rfl ?_|apply Aa);refine⟨⟨(j+1,vse,EC st2 i l vfr,kt t (wi++[l]) vfr),X,P,L⟩,by dsimp only;omega,[0,1,2,3,4],?_⟩;simp[cX,zC,b,Fg,d,h]
  ·obtain rfl:j=g.ls.length:=by (simp only[oZ] at *;omega)
   have P:=f.iy hi;apply aE;(repeat first|(refine sM rfl ?_ ?_;first|exact tI|omega)|refine aU rfl ?_|apply Aa);refine⟨⟨(i+1,c,st2,t),P⟩,by dsimp only;omega,[0,1,2,3,4],?_⟩;simp[cX,zC,b,Fg,d,h]
 ·have hle:=f.le
  obtain rfl:i=steps.length:=by (simp only[oZ] at *;omega)
  have G:=CQ.lf hg f;have B:=CQ.unique hr G;subst B;apply aE;(repeat first|refine tM rfl ?_|refine aU rfl ?_|apply Aa);refine aR ⟨_,rfl,rfl⟩
def Fc(a p:A5)(node letter:Int):Int:=CN a (node / p.nx.length%a.nx.length).toNat letter*p.nx.length+CN p (node%p.nx.length).toNat letter
def Iq(l:List Sys)(a p:A5)(node letter:Int):List Int:=(Ea (l.map (·.st)) (Xc l (node / p.nx.length / a.nx.length) letter)).map λo=>o*a.nx.length*p.nx.length+Fc a p node letter
def Mi(a p:A5)(node:Int):Bool:=a.ac.getD (node / p.nx.length%a.nx.length).toNat false && !p.ac.getD (node%p.nx.length).toNat false
def gI(l:List Sys)(a p:A5)(ls:List Int):Gr:=⟨(Az (l.map (·.st))*a.nx.length*p.nx.length).toNat,Iq l a p,Mi a p,ls,0⟩
theorem KH{a:A5}{q:Nat}(h:q<a.nx.length):(FY a)[q]?=some (Uy λl=>CN a q l):=Dz (g:=λq=>Uy λl=>CN a q l) h
theorem Im{h:Nat->Int}{l:Int}(d:0<=l)(c:l<6):((Uy h).drop (l.toNat*1))[0]?=some (iD (h l.toNat)):=by
 rw[lY]
 have b:l.toNat*1+0=l.toNat:=by omega
 have a:l.toNat<6:=by omega
 rw[b];simp[Uy,a]
theorem aT{outs low:List Int}{h:Int->Int}{k:Nat}{x:Int}(a:low[k]?=some x):(outs++((low.take k).map h++low.drop k)).set (outs.length+k) (h x)=outs++((low.take (k+1)).map h++low.drop (k+1)):=by
 have hk:=(am.1 a).1;rw[List.set_append_right _ _ (by omega),List.set_append_right _ _ (by simp;omega)];congr 1
 have e:outs.length+k-outs.length-((low.take k).map h).length=0:=by simp;omega
 rw[e,BE a,gt,a];simp
theorem Ce{a:A5}(h:AJ a=true):1<=a.nx.length/\a.nx.length<=12:=by have:=AS h;omega
theorem Ik{l:List Sys}(h:∀s∈l,Ay s=true)(c:l.length<=3):1<=Az (l.map (·.st))/\Az (l.map (·.st))<=4096:=by
 have a:∀z∈l.map (·.st),1<=z/\z<=16:=by
  intro z b;obtain⟨s,hs,rfl⟩:=d8.1 b;have:=AE (h s hs);omega
 have e:=Ij _ a
 have d:(16:Int) ^ (l.map (·.st)).length<=4096:=by
  have:(l.map (·.st)).length<=3:=by simp;omega
  generalize (l.map (·.st)).length=n at this
  have:n=0\/n=1\/n=2\/n=3:=by omega
  rcases this with rfl|rfl|rfl|rfl<;>decide
 omega
theorem SQ{a p:A5}(ha:AJ a=true)(b:AJ p=true){node letter:Int}(g:0<=node)(d:0<=letter)(c:letter<6):0<=Fc a p node letter/\Fc a p node letter<a.nx.length*p.nx.length:=by
 have o:=Ce ha;have l:=Ce b
 have k:0<=node / p.nx.length%a.nx.length/\node / p.nx.length%a.nx.length<a.nx.length:=⟨ms _ (by omega),mh _ (by omega)⟩
 have j:0<=node%p.nx.length/\node%p.nx.length<p.nx.length:=⟨ms _ (by omega),mh _ (by omega)⟩
 have f:=Eo ha (q:=(node / p.nx.length%a.nx.length).toNat) (by omega) d c;have i:=Eo b (q:=(node%p.nx.length).toNat) (by omega) d c;unfold Fc;generalize CN a _ letter=x at *;generalize CN p _ letter=y at *;generalize (a.nx.length:Int)=n at *;generalize (p.nx.length:Int)=m at *;have h:0<=x*m:=mf f.1 (by omega);have e:(x+1)*m<=n*m:=mr (by omega) (by omega);rw[nn]at e;omega
theorem Sz[CG TB]{l:List Sys}{a p:A5}(h:∀s∈l,Ay s=true)(L:l.length<=3)(ha:AJ a=true)(H:AJ p=true)(node letter:Int)(c:0<=node)(Z:node<=1048576)(f:0<=letter)(d:letter<6)(outs:List Int)(I:outs.length<=1099511627776) :
 Spec Tryz.prog TB 162 [(0,.cells 3 1 (outs.map A8))] 1 [eI .i64 node,eI .i64 letter,.o (.arr 0 1 0 outs.length),.o (.ip [.l (FY a)]),.o (.ip [iD p.nx.length]),.o (.ip [iD a.nx.length]),.o (.ip [.l (FY p)]),.o (.ip (FQ l))]
  (λx σ nx=>x=.o (.arr 1 1 0 (outs++Iq l a p node letter).length)/\nx=2/\σ=[(1,.cells 3 1 ((outs++Iq l a p node letter).map A8))]):=by
 have han:=Ce ha;have Y:=Ce H;have B:=SQ ha H c f d;have t:0<=node / p.nx.length:=mS c (by omega);have V:node / p.nx.length<=node:=nA _ c;have G:0<=node / p.nx.length / a.nx.length:=mS t (by omega);have U:node / p.nx.length / a.nx.length<=node / p.nx.length:=nA _ t
 have h4:0<=node / p.nx.length%a.nx.length/\node / p.nx.length%a.nx.length<a.nx.length:=⟨ms _ (by omega),mh _ (by omega)⟩
 have h5:0<=node%p.nx.length/\node%p.nx.length<p.nx.length:=⟨ms _ (by omega),mh _ (by omega)⟩
 have h6:=Eo ha (q:=(node / p.nx.length%a.nx.length).toNat) (by omega) f d;have h7:=Eo H (q:=(node%p.nx.length).toNat) (by omega) f d;have T:=KH (a:=a) (q:=(node / p.nx.length%a.nx.length).toNat) (by omega);have S:=KH (a:=p) (q:=(node%p.nx.length).toNat) (by omega);have r:=Im (h:=λl=>CN a (node / p.nx.length%a.nx.length).toNat l) f d;have n:=Im (h:=λl=>CN p (node%p.nx.length).toNat l) f d
 have el:((letter.toNat:Nat):Int)=letter:=by omega
 have h8:0<=CN a (node / p.nx.length%a.nx.length).toNat letter*p.nx.length/\CN a (node / p.nx.length%a.nx.length).toNat letter*p.nx.length<=144:=⟨mf h6.1 (by omega),by
  have:CN a (node / p.nx.length%a.nx.length).toNat letter*p.nx.length<=12*12:=l4 (by omega) (by omega) (by omega) (by omega)
  omega⟩
 simp only[el]at r n;have J:=cP (TB:=TB) l h L (node / p.nx.length / a.nx.length) letter G (by omega) f d outs I;have v:=QJ (Qu h L f d (node / p.nx.length / a.nx.length));have X:=Ik h L;have F:CN a (node / p.nx.length%a.nx.length).toNat letter*p.nx.length+CN p (node%p.nx.length).toNat letter=Fc a p node letter:=rfl;unfold Iq;generalize Ea (l.map (·.st)) (Xc l (node / p.nx.length / a.nx.length) letter)=low at *;refine eN Tryz.func162 rfl (by kernel_rfl) rfl ?_;intro Γ b;(repeat first|refine tA rfl ?_|refine aU rfl ?_|apply Aa);refine rG (Hf []) (by kernel_rfl) ?_;(repeat first|(refine sA rfl ?_ ?_;first|exact tI|omega)|(refine s4 rfl ‹_› rfl ?_ ?_;omega)|(refine Ag rfl ?_;refine gA rfl ?_;first|refine gS (λ_ _=>Dy rfl r) ?_|refine gS (λ_ _=>Dy rfl n) ?_)|refine aU rfl ?_|apply Aa);rw[F];refine rG (Hf [8]) (by kernel_rfl) ?_;(repeat first|(refine sA rfl ?_ ?_;first|exact tI|omega));(refine pW rfl ?_ rfl (by rfl);refine Af [0] rfl rfl J ⟨rfl,by decide,by decide⟩ rfl (by simp[cX,zC,b]) ?_;rintro x0 Q R ⟨rfl,rfl,rfl⟩ _);(repeat first|refine tA rfl ?_|refine aU rfl ?_|apply Aa);apply aB
 have K:∀k,((outs++((low.take k).map (λo=>o*a.nx.length*p.nx.length+Fc a p node letter)++low.drop k)).length)=outs.length+low.length:=by intro k;simp;omega
 refine Aj.BC (α:={k:Nat // k<=low.length}) (λ⟨k,hk⟩=>[(2,.o (.arr 1 1 0 (outs.length+low.length))),(4,.o (.ip [iD p.nx.length])),(5,.o (.ip [iD a.nx.length])),(12,eI .i64 (Fc a p node letter)),(14,eI .i64 ((outs.length+k:Nat):Int))]) (λ⟨k,hk⟩=>[(1,.cells 3 1 ((outs++((low.take k).map (λo=>o*a.nx.length*p.nx.length+Fc a p node letter)++low.drop k)).map A8))]) 2 (λ⟨k,hk⟩=>low.length-k) (⟨0,by omega⟩) [0,1] (GX b rfl rfl) (by (simp[cX,zC,b,Ab.A3,BW,HO])) ?_;rintro⟨k,hk⟩;(try dsimp only);(repeat first|refine tM rfl ?_|refine s2 rfl λ_ _hb=>?_|refine aU rfl ?_|apply Aa);(refine aC rfl ?_ ?_<;>rintro⟨⟩)
 ·have w:k<low.length:=by (simp only[oZ] at *;omega)
  obtain⟨x,A⟩:=get_some (l:=low) (k:=k) w;have z:=v.1 x (co A);have m:=aT (outs:=outs) (h:=λo=>o*a.nx.length*p.nx.length+Fc a p node letter) A
  have N:(outs++((low.take k).map (λo=>o*a.nx.length*p.nx.length+Fc a p node letter)++low.drop k))[outs.length+k]?=some x:=by
   rw[f9 (by omega),f9 (by simp;omega),BE A]
   have e:outs.length+k-outs.length-((low.take k).map (λo=>o*a.nx.length*p.nx.length+Fc a p node letter)).length=0:=by simp;omega
   rw[e];rfl
  have P:=NJ (g:=A8) N
  have u:0<=x*a.nx.length/\x*a.nx.length<=49152:=⟨mf z.1 (by omega),by
   have:x*a.nx.length<=4096*12:=l4 (by omega) (by omega) (by omega) (by omega)
   omega⟩
  have hm2:0<=x*a.nx.length*p.nx.length/\x*a.nx.length*p.nx.length<=589824:=⟨mf u.1 (by omega),by
   have:x*a.nx.length*p.nx.length<=49152*12:=l4 u.2 (by omega) (by omega) (by omega)
   omega⟩
  have hm3:(a.nx.length:Int)*p.nx.length<=144:=by
   have:(a.nx.length:Int)*p.nx.length<=12*12:=l4 (by omega) (by omega) (by omega) (by omega);omega
  have hlk:=K k
  have M:((outs.length+k:Nat):Int)+1=((outs.length+(k+1):Nat):Int):=by omega
  have j:=aQ (l:=outs++((low.take k).map (λo=>o*a.nx.length*p.nx.length+Fc a p node letter)++low.drop k)) (k:=outs.length+k) (x:=x) (y:=x*a.nx.length*p.nx.length+Fc a p node letter);rw[m]at j;generalize outs++((low.take k).map (λo=>o*a.nx.length*p.nx.length+Fc a p node letter)++low.drop k)=cur at *;apply aK;refine aS (aB ?_);refine rG (Hf [13]) (by kernel_rfl) ?_;(repeat first|(refine sM rfl ?_ ?_;first|exact tI|omega)|refine t4 rfl ‹_› rfl ?_|refine aU rfl ?_|apply Aa);refine⟨⟨k+1,w⟩,by dsimp only;omega,[0,1],?_⟩;rw[j,M];simp[cX,zC,b]
 ·obtain rfl:k=low.length:=by (simp only[oZ] at *;omega)
  rw[jp,oH,mq];apply aE;(repeat first|refine tM rfl ?_|refine aU rfl ?_|apply Aa);refine Aj.names [0,1] [(11,.o (.arr 1 1 0 (outs.length+low.length)))] [(1,.cells 3 1 ((outs++low.map λo=>o*a.nx.length*p.nx.length+Fc a p node letter).map A8))] (by intro i hi;rw[b]at hi;obtain rfl:i=0:=(by omega);rfl) (by simp) (by simp[cX,zC,b]) (by simp[cX,zC,b]) ?_;refine aR ⟨_,rfl,by simp,rfl,rfl⟩
end Go.Am
