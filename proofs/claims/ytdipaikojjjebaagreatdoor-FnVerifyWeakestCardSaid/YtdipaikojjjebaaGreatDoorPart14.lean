/-
  The program's search, as plain data: visits.
-/
import Derived.Test.YtdipaikojjjebaaGreatDoorPart10
import Derived.Test.YtdipaikojjjebaaGreatDoorPart9
set_option linter.all false
namespace Go.Am
open Go
def Fs(steps:List Ps)(p l:Int)(fresh:List Int):List Ps:=if fresh=[] then steps else steps++[⟨p,l,fresh⟩]
def sS(ws:List (List Int))(w fresh:List Int):List (List Int):=if fresh=[] then ws else ws++[w]
structure Chain (ls:List Int) (steps:List Ps) (ws:List (List Int)):Prop where
 wlen:ws.length=steps.length
 chain:∀(t:Nat) s,steps[t]?=some s->(s.p = -1/\ws[t]?=some [])\/∃(q:Nat) (w:List Int),s.p=(q:Int)/\q<t/\ws[q]?=some w/\ws[t]?=some (w++[s.l])/\s.l∈ls
theorem HH{α:Type}{l:List α}{x y:α}{t:Nat}(h:(l++[x])[t]?=some y):l[t]?=some y\/t=l.length/\y=x:=by
 rcases uo t l.length with a|a
 .rw[gc a]at h;exact .inl h
 .rw[i7 a]at h
  have b:=(am.1 h).1;simp at b
  have:t=l.length:=by omega
  subst this;simp at h;exact .inr ⟨rfl,h.symm⟩
theorem Kw{α:Type}{l:List α}{x y:α}{t:Nat}(h:l[t]?=some y):(l++[x])[t]?=some y:=by
 rw[gc (am.1 h).1];exact h
theorem Chain.app{ls:List Int}{steps:List Ps}{ws:List (List Int)}(h:Chain ls steps ws){i:Nat}{wi:List Int}{l:Int}{ns:List Int}(d:ws[i]?=some wi)(f:l∈ls):Chain ls (steps++[⟨i,l,ns⟩]) (ws++[wi++[l]]):=by
 have hi:=(am.1 d).1;refine⟨by simp[h.wlen],λt s e=>?_⟩
 rcases HH e with b|⟨b,a⟩
 .rcases h.chain t s b with ⟨a,c⟩|⟨q,w,a,c,k,j,g⟩
  .exact .inl ⟨a,Kw c⟩
  .exact .inr ⟨q,w,a,c,Kw k,Kw j,g⟩
 .subst a
  refine .inr ⟨i,wi,rfl,?_,Kw d,?_,f⟩
  .rw[b,<-h.wlen];exact hi
  .rw[b,<-h.wlen];simp
theorem FI.cW{g:Gr}{seen:List Bool}{steps:List Ps}{ws:List (List Int)}{i j:Nat}(h:FI g seen steps ws i j):Chain g.ls steps ws:=⟨h.wlen,h.chain⟩
theorem FI.visit{g:Gr}(Q:JD g){seen:List Bool}{steps:List Ps}{ws:List (List Int)}{i j:Nat}(h:FI g seen steps ws i j){wi:List Int}{lj:Int}(K:ws[i]?=some wi)(U:g.ls[j]?=some lj){s:Ps}(hs:steps[i]?=some s)
 {R:List Int} (hR:∀y,y∈R↔∃n∈s.ns,y∈g.succ n lj) {st:nr} (z:pD g.goal g.N seen R st) (hf:st.found=false):FI g st.seen (Fs steps i lj st.fresh) (sS ws (wi++[lj]) st.fresh) i (j+1):=by
 have hl:=ce U
 have Y:∀y∈R,0<=y/\y<g.N:=λy J=>by
  obtain⟨n,e,J⟩:=(hR y).1 J;exact Q.inn n (h.inn s (ce hs) n e) lj hl y J
 have q:∀n:Int,0<=n->sn seen n=true->sn st.seen n=true:=λn e hx=>(z.snI n e).2 (.inl hx)
 have S:∀n∈st.fresh,g.goal n=false:=λn e=>by
  have:=z.fd;rw[hf]at this;have o:=List.any_eq_false.1 this.symm n e
  simpa using o
 have L:∀w∈ws,w=[]\/∃(p:Nat) (v:List Int) (l:Int),ws[p]?=some v/\w=v++[l]/\l∈g.ls/\(p<i\/p=i/\∃j',j'<j+1/\g.ls[j']?=some l):=λw K=>by
  rcases h.par w K with c|⟨p,v,l,c,o,f,k⟩
  .exact .inl c
  .refine .inr ⟨p,v,l,c,o,f,?_⟩
   rcases k with k|⟨k,j',h5,h6⟩
   .exact .inl k
   .exact .inr ⟨k,j',by omega,h6⟩
 have I:∀(t:Nat) s',steps[t]?=some s'->∀l,(t<i/\l∈g.ls\/t=i/\∃j',j'<j+1/\g.ls[j']?=some l)->∀n∈s'.ns,∀y∈g.succ n l,sn st.seen y=true:=by
  intro t s' d l H n e y J
  have B:0<=y/\y<g.N:=by
   refine Q.inn n (h.inn s' (ce d) n e) l ?_ y J
   rcases H with ⟨_,c⟩|⟨_,j',_,c⟩
   .exact c
   .exact ce c
  rcases H with c|⟨c,j',o,f⟩
  .exact q y B.1 (h.done t s' d l (.inl c) n e y J)
  .subst c
   rcases wl.1 o with k|k
   .exact q y B.1 (h.done t s' d l (.inr ⟨rfl,j',k,f⟩) n e y J)
   .subst k
    rw[U]at f
    injection f with f
    subst f;rw[hs]at d
    injection d with d
    subst d;exact(z.snI y B.1).2 (.inr ((hR y).2 ⟨n,e,J⟩))
 unfold Fs sS;by_cases r:st.fresh=[]
 .rw [if_pos r,if_pos r]
  have M:∀n:Int,0<=n->(sn st.seen n=true↔sn seen n=true):=λn e=>by
   rw[z.snI n e];refine⟨λc=>?_,.inl⟩
   rcases c with c|c
   .exact c
   .rcases Bool.eq_false_or_eq_true (sn seen n) with o|o
    .exact o
    .have:=(z.fr n).2 ⟨c,o⟩
     rw[r]at this;cases this
  refine⟨z.len,h.wlen,h.chain,h.rch,h.ov,h.min,h.ord,L,λn e=>by rw[M n e];exact h.snI n e,I,h.nogoal,h.inn,q _ Q.s0.1 h.start,?_,h.le,h.nd⟩;rw[z.cnt,r];exact h.cnt
 .rw [if_neg r,if_neg r]
  have V:=h.cW.app (ns:=st.fresh) K hl;have x:∀n∈st.fresh,n∈R/\sn seen n=false:=λn e=>(z.fr n).1 e
  have X:∀w∈ws,slt w (wi++[lj]):=by
   intro w F
   rcases h.par w F with rfl|⟨p,v,l,c,rfl,f,k⟩
   .exact .inl (by simp)
   .rcases k with k|⟨k,j',h5,h6⟩
    .obtain⟨a1,a2⟩:=am.1 c
     obtain⟨b1,b2⟩:=am.1 K;have Z:=(ro.1 h.ord) p i a1 b1 k;rw[a2,b2]at Z;exact cM Z
    .subst k
     rw[K]at c
     injection c with c
     subst c;obtain⟨a1,a2⟩:=am.1 h6;obtain⟨b1,b2⟩:=am.1 U;have Z:=(ro.1 Q.srt) j' j a1 b1 h5;rw[a2,b2]at Z;exact jS Z
  have P:∀n∈st.fresh,∃m∈s.ns,n∈g.succ m lj:=λn e=>(hR n).1 (x n e).1;refine⟨z.len,V.wlen,V.chain,λt s' w d G n e=>?_,λw F=>?_,λt s' w d G n e u hu T hr=>?_,?_,λw F=>?_,λn e=>?_,λt s' d l H n e y J=>?_,λs' d n e=>?_,λs' d n e=>?_,q _ Q.s0.1 h.start,?_,?_,λs' d=>?_⟩
  .rcases HH d with c|⟨c,o⟩
   .rcases HH G with f|⟨f,k⟩
    .exact h.rch t s' w c f n e
    .have:=(am.1 c).1
     rw[h.wlen]at f;omega
   .subst o
    rcases HH G with f|⟨f,k⟩
    .have:=(am.1 f).1
     rw[h.wlen]at this;omega
    .subst k
     obtain⟨m,hm,hnm⟩:=P n e;exact EK.2 ⟨m,h.rch i s wi hs K m hm,hnm⟩
  .rcases f7.1 F with c|c
   .exact h.ov w c
   .simp at c;subst c
    exact G0.2 ⟨h.ov wi (ce K),hl⟩
  .rcases HH d with c|⟨c,o⟩
   .rcases HH G with f|⟨f,k⟩
    .exact h.min t s' w c f n e u hu T hr
    .have:=(am.1 c).1
     rw[h.wlen]at f;omega
   .subst o
    rcases HH G with f|⟨f,k⟩
    .have:=(am.1 f).1
     rw[h.wlen]at this;omega
    .subst k
     have:=h.mN Q K U u.length u rfl hu T n hr;rw[(x n e).2]at this;cases this
  .refine vI.2 ⟨h.ord,by simp,λa ha b hb=>?_⟩
   simp at hb;subst hb;exact X a ha
  .rcases f7.1 F with c|c
   .rcases L w c with o|⟨p,v,l,o,f,k,h5⟩
    .exact .inl o
    .exact .inr ⟨p,v,l,Kw o,f,k,h5⟩
   .simp at c;subst c
    exact .inr ⟨i,wi,lj,Kw K,rfl,hl,.inr ⟨rfl,j,by omega,U⟩⟩
  .rw [z.snI n e,h.snI n e]
   constructor
   .rintro(⟨s',d,A⟩|hnR)
    .exact⟨s',rx _ d,A⟩
    .rcases Bool.eq_false_or_eq_true (sn seen n) with o|o
     .obtain⟨s',d,A⟩:=(h.snI n e).1 o
      exact⟨s',rx _ d,A⟩
     .exact⟨⟨i,lj,st.fresh⟩,ur _ (by simp),(z.fr n).2 ⟨hnR,o⟩⟩
   .rintro⟨s',d,A⟩
    rcases f7.1 d with c|c
    .exact .inl ⟨s',c,A⟩
    .simp at c;subst c
     exact .inr (x n A).1
  .rcases HH d with c|⟨c,o⟩
   .exact I t s' c l H n e y J
   .have:=(am.1 hs).1
    rcases H with ⟨f,_⟩|⟨f,_⟩<;>omega
  .rcases f7.1 d with c|c
   .exact h.nogoal s' c n e
   .simp at c;subst c;exact S n e
  .rcases f7.1 d with c|c
   .exact h.inn s' c n e
   .simp at c;subst c;exact Y n (x n e).1
  .have c:=z.cnt
   have o:=h.cnt;have f:0<st.fresh.length:=xo.2 r;simp;omega
  .have:=h.le;simp;omega
  .rcases f7.1 d with c|c
   .exact h.nd s' c
   .simp at c;subst c;exact z.nd
theorem FI.init{g:Gr}(q:JD g){st:nr}(j:pD g.goal g.N (List.replicate g.N false) [g.s0] st)(r:st.found=false):st.fresh=[g.s0]/\FI g st.seen [⟨-1,0,[g.s0]⟩] [[]] 0 0:=by
 have hno:∀n,sn (List.replicate g.N false) n=false:=λn=>by
  unfold sn;by_cases h:n.toNat<g.N<;>simp[List.getD,h]
 have d:∀n,n∈st.fresh↔n=g.s0:=λn=>by rw[j.fr n];simp[hno]
 have k:st.fresh=[g.s0]:=by
  have i:=j.nd;generalize st.fresh=l at d i
  cases l with
  | nil=>have:=(d g.s0).2 rfl;cases this
  | cons a l=>
   have ha:=(d a).1 (by simp);subst ha
   cases l with
   | nil=>rfl
   | cons b l=>
    have hb:=(d b).1 (by simp);subst hb;simp at i
 refine⟨k,?_⟩
 have m:g.goal g.s0=false:=by
  have:=j.fd;rw[r,k]at this
  simpa using this.symm
 have one:∀(t:Nat) (s:Ps),[(⟨-1,0,[g.s0]⟩:Ps)][t]?=some s->t=0/\s=⟨-1,0,[g.s0]⟩:=λt s h=>by
  cases t with
  | zero=>simp at h;exact⟨rfl,h.symm⟩
  | succ t=>simp at h
 have one':∀(t:Nat) (w:List Int),[([]:List Int)][t]?=some w->w=[]:=λt w h=>by
  cases t with
  | zero=>exact(Option.some.inj h).symm
  | succ t=>simp at h
 refine⟨j.len,rfl,λt s c=>?_,λt s w c f n e=>?_,λw f=>?_,λt s w c f n e u _ o=>?_,by simp,λw f=>by simp at f;exact .inl f,λn e=>?_,λt s c l p n e y v=>?_,λs c n e=>?_,λs c n e=>?_,?_,?_,by simp,λs c=>?_⟩
 .obtain⟨rfl,rfl⟩:=one t s c;exact .inl ⟨rfl,rfl⟩
 .obtain⟨rfl,rfl⟩:=one t s c
  have:=one' 0 w f;subst this;simp at e;subst e;exact(rfl:g.s0=g.s0)
 .simp at f;subst f;exact λl p=>(by cases p)
 .have:=one' t w f
  subst this
  rcases o with i|⟨_,i⟩
  .simp at i
  .cases u<;>exact i.elim
 .rw[j.snI n e];simp[hno]
 .rcases p with ⟨i,_⟩|⟨_,j',i,_⟩<;>omega
 .simp at c;subst c;simp at e;subst e;exact m
 .simp at c;subst c;simp at e;subst e;exact q.s0
 .exact(j.snI _ q.s0.1).2 (.inr (by simp))
 .rw[j.cnt,k];simp
 .simp at c;subst c;simp
theorem CG.start{g:Gr}(h:g.goal g.s0=true):CG g (some []):=
 ⟨λl c=>(by cases c),⟨g.s0,rfl,h⟩,λu _ _ a=>by rcases a with b|⟨_,b⟩;(simp at b);(cases u<;>exact b.elim)⟩
end Go.Am
namespace Go.Am
open Go Go.Proofs
set_option maxHeartbeats 1000000
set_option maxRecDepth 4000
attribute [local irreducible] A5 CQ Lex BC Al Spec
variable {TB:BB}
def Fp(bs:List UInt8)(k i:Nat):UInt8:=if i<k\/bs.length<=i+k then bs.getD (bs.length-1-i) 0 else bs.getD i 0
theorem o7(bs:List UInt8):(BH bs.length λi=>Gp (Fp bs 0 i))=bs.map Gp:=by
 apply uV;intro i;by_cases hi:i<bs.length
 .rw[DZ (g:=λi=>Gp (Fp bs 0 i)) hi]
  unfold Fp;rw[if_neg (by omega)];simp[List.getD,hi]
 .rw[ms (by simp[BH];omega),ms (by simp;omega)]
theorem jG(bs:List UInt8){k:Nat}(hk:bs.length<=2*k+1):(BH bs.length λi=>Gp (Fp bs k i))=bs.reverse.map Gp:=by
 apply uV;intro i;by_cases hi:i<bs.length
 .rw [DZ (g:=λi=>Gp (Fp bs k i)) hi]
  unfold Fp
  have b:bs.reverse[i]?=some (bs.getD (bs.length-1-i) 0):=by
   rw[List.getElem?_reverse hi]
   have:bs.length-1-i<bs.length:=by omega
   simp[List.getD,this]
  rw[f9,b];by_cases a:i<k\/bs.length<=i+k
  .rw[if_pos a];rfl
  .rw[if_neg a]
   have:bs.length-1-i=i:=by omega
   rw[this];rfl
 .rw[ms (by simp[BH];omega),ms (by simp;omega)]
theorem Vs(r:Nat->Nat)(l:List UInt8):(l.map Gp).map (C.Ch r)=l.map Gp:=by
 rw[uG];exact uA λc _=>rfl
theorem GD(r:Nat->Nat)(c:UInt8):C.Ch r (Gp c)=Gp c:=rfl
theorem Ok(r:Nat->Nat)(n:Nat)(H:Nat->UInt8):(BH n λi=>Gp (H i)).map (C.Ch r)=BH n λi=>Gp (H i):=by
 unfold BH;rw[uG];exact uA λi _=>rfl
theorem Mw{n q:Nat}{H:Nat->UInt8}(h:q<n):(BH n λi=>Gp (H i))[0+((q:Nat):Int).toNat]?=some (Gp (H q)):=by
 rw[lm,f6];exact DZ (g:=λi=>Gp (H i)) h
theorem PX{n q:Nat}{H:Nat->UInt8}{c d:UInt8}:(BH n λi=>Gp (H i)).set (0+((q:Nat):Int).toNat) (Ae (Gp d) 0 (eC (eI .u8 (c.toNat:Nat))))=BH n λi=>Gp (if i=q then c else H i):=by
 rw[lm,f6];have e:Ae (Gp d) 0 (eC (eI .u8 (c.toNat:Nat)))=Gp c:=rfl;rw[e,Ol];refine Dd λi _=>?_;by_cases h:i=q<;>simp[h]
theorem ZP(bs:List UInt8)(hb:bs.length<=1099511627776):Spec Tryz.prog TB 206 [(0,.cells 5 1 (bs.map Gp))] 1 [.o (.arr 0 1 0 bs.length)] (λx σ nx=>x=.t []/\nx=1/\σ=[(0,.cells 5 1 (bs.reverse.map Gp))]):=by
 refine eN Tryz.func206 rfl (by kernel_rfl) rfl ?_;intro Γ b;(repeat first|(refine sM rfl ?_ ?_;first|exact tI|omega)|refine aU rfl ?_|apply Aa);apply aB;refine Al.A0 (α:={k:Nat // k<=bs.length}) (λ⟨k,hk⟩=>[(0,.o (.arr 0 1 0 bs.length)),(2,eI .i64 k),(3,eI .i64 ((bs.length:Int)-1-k))]) (λ⟨k,hk⟩=>[(0,.cells 5 1 (BH bs.length λi=>Gp (Fp bs k i)))]) 1 (λ⟨k,hk⟩=>bs.length-k) (⟨0,by omega⟩) [0] (CC b rfl rfl) (by (simp[cX,zC,b,Ok,o7,GD])) ?_;rintro⟨k,hk⟩;(try dsimp only);(repeat first|refine tM rfl ?_|refine s2 rfl λ_ B=>?_|refine aU rfl ?_|apply Aa);(refine aC rfl ?_ ?_<;>rintro⟨⟩)
 .have u:2*k+1<bs.length:=by (simp only[oZ] at *;omega)
  obtain⟨m,F⟩:∃m:Nat,m=bs.length-1-k:=⟨_,rfl⟩
  have A:(bs.length:Int)-1-k=((m:Nat):Int):=by omega
  have l:Fp bs k k=bs.getD k 0:=by unfold Fp;rw[if_neg (by omega)]
  have h:Fp bs k m=bs.getD m 0:=by unfold Fp;rw[if_neg (by omega)]
  have w:=Mw (H:=Fp bs k) (q:=k) (n:=bs.length) (by omega);have v:=Mw (H:=Fp bs k) (q:=m) (n:=bs.length) (by omega);have e:=PX (n:=bs.length) (q:=k) (H:=Fp bs k) (c:=Fp bs k m) (d:=Fp bs k k);have a:=Mw (H:=λi=>if i=k then Fp bs k m else Fp bs k i) (q:=m) (n:=bs.length) (by omega);have f:=PX (n:=bs.length) (q:=m) (H:=λi=>if i=k then Fp bs k m else Fp bs k i) (c:=Fp bs k k) (d:=Fp bs k m)
  have g:m≠k:=by omega
  rw[if_neg g]at a
  have y:(BH bs.length λi=>Gp (if i=m then Fp bs k k else if i=k then Fp bs k m else Fp bs k i))=BH bs.length λi=>Gp (Fp bs (k+1) i):=Dd λi hi=>by
   congr 1;by_cases s:i=m
   .subst s;rw[if_pos rfl,l];unfold Fp;rw[if_pos (by omega)];congr 1;omega
   .rw [if_neg s]
    by_cases r:i=k
    .subst r;rw[if_pos rfl,h];unfold Fp;rw[if_pos (by omega)];congr 1
    .rw[if_neg r];unfold Fp
     by_cases p:i<k\/bs.length<=i+k
     .rw[if_pos p,if_pos (by omega)]
     .rw[if_neg p,if_neg (by omega)]
  rw[<-e]at a;rw[A];apply aK;refine aS (aB ?_);refine rG (tS [13,15] [2,3]) (by kernel_rfl) ?_;(repeat first|(refine sM rfl ?_ ?_;first|exact tI|omega)|refine t4 rfl ‹_› rfl ?_|refine aU rfl ?_|apply Aa);refine⟨⟨k+1,by omega⟩,by dsimp only;(omega),[0],?_⟩;rw[e,f,y]
  have z:(m:Int)-1=bs.length-1-(k+1):=by omega
  simp[cX,zC,b,Ok,z]
 .have j:bs.length<=2*k+1:=by (simp only[oZ] at *;omega)
  rw[jG bs j];exact aE ⟨_,rfl,rfl,rfl,rfl⟩
abbrev ng(s:Ps):List D:=[iD s.p,iD s.l,Ed s.ns]
abbrev RI(s:Ps):List C:=[.d (iD s.p),.d (iD s.l),.d (Ed s.ns)]
abbrev jY(l:List Ps):D:=.l (l.map ng)
theorem dX{l:Int}(e:0<=l)(c:l<6):Gp (UInt8.ofNat (97+l.toNat))=[.d (.v (.int .u8 (97+l)))]:=by
 have b:(97+l.toNat)%256=97+l.toNat:=us (by omega)
 have a:(97+l:Int)=((97+l.toNat:Nat):Int):=by omega
 simp[Gp,b,a]
theorem mD(o:List Int):(Dt o).reverse=Dt o.reverse:=by simp[Dt]
theorem XB{ls:List Int}{steps:List Ps}{ws:List (List Int)}(h:Chain ls steps ws)(H:∀l∈ls,0<=l/\l<6){w:List Int}(n:1<=steps.length/\steps.length<=2097152)(M:ws[steps.length-1]?=some w):Pure Tryz.prog TB 155 [.o (.d (jY steps))] (eT (Dt w)):=by
 refine eN Tryz.func155 rfl (by kernel_rfl) rfl ?_;intro Γ a;(repeat first|refine tM rfl ?_|refine aU rfl ?_|apply Aa);(refine pW rfl ?_ rfl (by rfl);refine Fh 1 5 ?_);(repeat first|refine sN rfl ?_|(refine sM rfl ?_ ?_;first|exact tI|omega)|refine aU rfl ?_|apply Aa);apply aB;refine Al.A0 (α:={x:Nat×List Int // x.1+x.2.length<steps.length/\∃v,ws[x.1]?=some v/\w=v++x.2.reverse}) (λ⟨⟨i,o⟩,y⟩=>[(0,.o (.d (jY steps))),(3,.o (.arr 0 1 0 o.length)),(4,eI .i64 i)]) (λ⟨⟨i,o⟩,y⟩=>[(0,.cells 5 1 ((Dt o).map Gp))]) 1 (λ⟨⟨i,o⟩,y⟩=>i) (⟨(steps.length-1,[]),by simp;omega,w,M,by simp⟩) [0] (CC a rfl rfl) (by (simp[cX,zC,a,Dt,Int.ofNat_sub,n.1])) ?_;rintro⟨⟨i,o⟩,y⟩;(try dsimp only);obtain⟨hi,v,A,b⟩:=y;simp only at hi A b;obtain⟨s,J⟩:=get_some (l:=steps) (k:=i) (by omega);have P:=get_map (g:=ng) J;have r:=h.chain i s J
 have F:(Dt o).length=o.length:=by simp[Dt]
 (repeat first|refine tM rfl ?_|(refine s4 rfl ‹_› rfl ?_ ?_;omega)|refine s2 rfl λ_ T=>?_|refine aU rfl ?_|apply Aa);(refine aC rfl ?_ ?_<;>rintro⟨⟩)
 .obtain⟨q,u,R,Q,G,t,S⟩:∃(q:Nat) (u:List Int),s.p=(q:Int)/\q<i/\ws[q]?=some u/\ws[i]?=some (u++[s.l])/\s.l∈ls:=by
   rcases r with ⟨e,_⟩|e
   .exfalso;(simp only[oZ] at *;omega)
   .exact e
  have c:=H _ S;rw[A]at t
  injection t with t
  have I:=dX c.1 c.2
  have B:Dt (o++[s.l])=Dt o++[UInt8.ofNat (97+s.l.toNat)]:=by simp[Dt]
  have j:(Dt (o++[s.l])).map Gp=(Dt o).map Gp++[[.d (.v (.int .u8 (97+s.l)))]]:=by rw[B,uz,uS,I];rfl
  apply aK;refine aS (aB ?_);(repeat first|refine tA rfl ?_|(refine s4 rfl ‹_› rfl ?_ ?_;omega)|refine sP rfl (Gi s.l c.1 (by omega)) rfl ?_|refine aU rfl ?_);(refine pA rfl (by first|(simp;done)|(simp;(first|omega|simp only[oZ] at *;omega))) (by simp;omega) ?_);(repeat first|refine tX rfl ?_|(refine s4 rfl ‹_› rfl ?_ ?_;omega)|refine aU rfl ?_|apply Aa);refine⟨⟨(q,o++[s.l]),by simp;omega,u,G,by rw[b,t];simp⟩,by dsimp only;omega,[1],?_⟩;dsimp only;rw[j];simp[cX,zC,a,R,GD]
 .have z:v=[]:=by
   rcases r with ⟨_,e⟩|⟨q,u,e,_⟩
   .rw[A]at e;injection e
   .exfalso;(simp only[oZ] at *;omega)
  subst z
  have f:w=o.reverse:=by rw[b];rfl
  have m:=ZP (TB:=TB) (Dt o) (by omega);rw[F,mD,<-f]at m;apply aE;(repeat first|refine tM rfl ?_|refine aU rfl ?_);(refine pW rfl ?_ rfl (by rfl);refine BE [0] rfl rfl m ⟨rfl,by simp,by simp⟩ rfl (by simp[cX,zC,a,GD]) ?_;rintro U K L ⟨rfl,rfl,rfl⟩ _)
  have N:(Dt w).length=o.length:=by rw[f];simp[Dt]
  (repeat first|refine tM rfl ?_|(refine Ai rfl ?_;refine gA rfl ?_;first|refine gQ (PV (Dt w) rfl rfl (by simp;omega) (by rw[uR,Vs,i8 (by simp;omega)])) (by rfl) ?_)|refine aU rfl ?_|apply Aa);refine aR ⟨_,rfl,rfl⟩
theorem nw(p:Nat->Prop):(∀i,i<5->p i)↔p 0/\p 1/\p 2/\p 3/\p 4:=by
 constructor
 .intro h;exact⟨h 0 (by omega),h 1 (by omega),h 2 (by omega),h 3 (by omega),h 4 (by omega)⟩
 .rintro⟨e,d,c,b,a⟩ i hi
  have:i=0\/i=1\/i=2\/i=3\/i=4:=by omega
  rcases this with rfl|rfl|rfl|rfl|rfl<;>assumption
theorem ko{goal:Int->Bool}{seen:List Bool}{nodes:List Int}{k:Nat}{x:Int}(h:nodes[k]?=some x):VG goal seen (nodes.take (k+1))=YD goal (VG goal seen (nodes.take k)) x:=by
 unfold VG;rw[Hp h]
theorem XZ{l:List Bool}{n:Int}:(l.map AO).set (0+n.toNat) (Ae (AO false) 0 (eC (eB true)))=(l.set n.toNat true).map AO:=by
 simp[Ae,eC,vd]
abbrev GH(N:Nat)(gG:FuncId)(capsG:List C)(seen:List Bool)(q:Nat)(steps:List Ps):Ac:=
 [(0,.cells 27 1 [[.arr 1 1 0 N]]),(1,.cells 4 1 (seen.map AO)),(2,.cells 124 1 [[.fn gG capsG]]),(3,.cells 191 1 [[.arr q 3 0 steps.length]]),(q,.cells 193 3 (steps.map RI))]
theorem YC{goal:Int->Bool}{gG:FuncId}{capsG:List C}{N:Nat}(L:∀n:Int,0<=n/\n<N->Pure Tryz.prog TB gG ([eI .i64 n]++capsG.map .o) (eB (goal n)))(F:C.Db capsG=true)(d:∀r,C.Ch r capsG=capsG)
 (seen:List Bool) (steps:List Ps) (p l:Int) (nodes:List Int) (Q:seen.length=N) (S:N<=1048576) (P:steps.length<=1048576) (t:∀n∈nodes,0<=n/\n<N) :
 Spec Tryz.prog TB 154 (GH N gG capsG seen 4 steps) 5 [eI .i64 p,eI .i64 l,Aj nodes,.o (.ptr 0 1 0 0),.o (.ptr 2 1 0 0),.o (.ptr 3 1 0 0)]
  (λx σ nx=>x=eB (VG goal seen nodes).found/\∃q,(q=4/\nx=5\/q=5/\nx=6)/\σ=GH N gG capsG (VG goal seen nodes).seen q (Fs steps p l (VG goal seen nodes).fresh)):=by
 have s:∀k,pD goal N seen (nodes.take k) (VG goal seen (nodes.take k)):=λk=>az Q λn B=>t n (t7 B);refine eN Tryz.func154 rfl (by kernel_rfl) rfl ?_;intro Γ a;refine Al.bound 2 rfl λJ=>?_;have R:=J _ .refl;rw[io]at R;(repeat first|refine tM rfl ?_|refine aU rfl ?_|apply Aa);(refine pW rfl ?_ rfl (by rfl);refine Fh 1 3 ?_);(repeat first|refine sN rfl ?_|refine tM rfl ?_|refine aU rfl ?_|apply Aa);apply aB;refine Al.A0 (α:={k:Nat // k<=nodes.length}) (λ⟨k,hk⟩=>[(0,eI .i64 p),(1,eI .i64 l),(3,.o (.ptr 0 1 0 0)),(4,.o (.ptr 2 1 0 0)),(5,.o (.ptr 3 1 0 0)),(10,.o (.arr 5 1 0 (VG goal seen (nodes.take k)).fresh.length)),(11,eB (VG goal seen (nodes.take k)).found),(14,Aj nodes),(15,eI .i64 nodes.length),(16,eI .i64 k)]) (λ⟨k,hk⟩=>GH N gG capsG (VG goal seen (nodes.take k)).seen 4 steps++[(5,.cells 3 1 ((VG goal seen (nodes.take k)).fresh.map Au))]) 6 (λ⟨k,hk⟩=>nodes.length-k) (⟨0,by omega⟩) [0,1,2,3,4,5] (CC a rfl rfl) (by (simp[cX,zC,a,GH,VG,d])) ?_;rintro⟨k,hk⟩;(try dsimp only);have i:=s k;have c:=λx=>ko (goal:=goal) (seen:=seen) (nodes:=nodes) (k:=k) (x:=x);generalize K:VG goal seen (nodes.take k)=v at *;(repeat first|refine s2 rfl λ_ f=>?_|refine aU rfl ?_|apply Aa);(refine aC rfl ?_ ?_<;>rintro⟨⟩)
 .obtain⟨x,w⟩:=get_some (l:=nodes) (k:=k) (by (simp only[oZ] at *;omega))
  have M:=get_map (g:=A9) w;have m:=t x (ce w);have c:=c x w;have z:=i.len;obtain⟨b,hb⟩:=get_some (l:=v.seen) (k:=x.toNat) (by omega)
  have I:(v.seen.map AO)[0+x.toNat]?=some (AO b):=by simp[hb]
  have A:sn v.seen x=b:=by simp[sn,List.getD,hb]
  have h:v.fresh.length<=N:=by
   refine GZ _ _ i.nd λy u=>t y (t7 ((i.fr y).1 u).1)
  unfold YD at c;rw[A]at c;obtain⟨vse,vfr,vfd⟩:=v;simp only at c z hb I h;apply aK;refine aS (aB ?_);(repeat first|((first|refine sM rfl ?_ ?_|refine s4 rfl ‹_› rfl ?_ ?_);first|exact tI|omega)|refine s2 rfl λ_ f=>?_|refine aU rfl ?_|apply Aa);(refine aC rfl ?_ ?_<;>rintro⟨⟩)
  .have H:b=false:=by simpa using f
   subst H;rw[if_neg (by simp)]at c;(repeat first|(refine sA rfl ?_ ?_;first|exact tI|omega)|refine t4 rfl ‹_› rfl ?_|refine aU rfl ?_|apply Aa);(refine pA rfl (by simp) (by simp;omega) ?_);(repeat first|(refine sX rfl ?_ ?_;first|exact tI|simp only[oZ] at *;omega)|refine s3 rfl ?_ ?_<;>rintro rfl|refine aU rfl ?_|apply Aa);(repeat first|(refine sC rfl (L x m) ?_;intro _ f)|(refine Ai rfl ?_;refine gA rfl ?_;first|refine gQ (Vm rfl rfl rfl rfl) (by rfl) ?_))
   .refine⟨⟨k+1,by (simp only[oZ] at *;omega)⟩,by dsimp only;((simp only[oZ] at *;omega)),[0,1,2,3,4,6],?_⟩
    rw[XZ];simp[cX,zC,a,c,GH,d,nw]
   ·(repeat first|(refine sA rfl ?_ ?_;first|exact tI|simp only[oZ] at *;omega)|(refine Ai rfl ?_;refine gA rfl ?_;first|(refine gB (λ_ _=>Bo rfl rfl (by simp[E.Cg,C.Cg,F]) (L x m) rfl) ?_;intro _ f))|refine aU rfl ?_|apply Aa)
    refine⟨⟨k+1,by (simp only[oZ] at *;omega)⟩,by dsimp only;((simp only[oZ] at *;omega)),[0,1,2,3,4,6],?_⟩;rw[XZ];simp[cX,zC,a,c,GH,d,nw,f]
  .have G:b=true:=by simpa using f
   subst G;rw[if_pos rfl]at c;apply aK;(repeat first|(refine sM rfl ?_ ?_;first|exact tI|simp only[oZ] at *;omega)|refine aU rfl ?_|apply Aa);refine⟨⟨k+1,by (simp only[oZ] at *;omega)⟩,by dsimp only;((simp only[oZ] at *;omega)),[0,1,2,3,4,5],?_⟩;simp[cX,zC,a,c,GH,d,nw]
 .obtain rfl:k=nodes.length:=by (simp only[oZ] at *;omega)
  rw[i9]at K;subst K;apply aE
  have h:(VG goal seen nodes).fresh.length<=N:=by
   have i:=s nodes.length;rw[i9]at i;refine GZ _ _ i.nd λy u=>t y ((i.fr y).1 u).1
  generalize VG goal seen nodes=vv at *;obtain⟨vse,vfr,vfd⟩:=vv;have h:vfr.length<=N:=h;(repeat first|refine tM rfl ?_|refine s2 rfl λ_ f=>?_|refine aU rfl ?_|apply Aa);(refine aC rfl ?_ ?_<;>rintro⟨⟩)
  .have j:vfr≠[]:=λe=>by rw[e]at f;simp at f
   refine Al.freeze [5] [(0,eI .i64 p),(1,eI .i64 l),(5,.o (.ptr 3 1 0 0)),(10,Aj vfr),(11,eB vfd)] ⟨⟨_,rfl,.AM⟩,⟨_,rfl,.AM⟩,⟨_,rfl,.AM⟩,⟨_,rfl,.o (.full (by simp) rfl (by simp[d6]) (by simp))⟩,⟨_,rfl,.AM⟩,trivial⟩ ?_;(repeat first|refine tA rfl ?_|refine sV rfl rfl (by rfl) (by rfl) ?_|refine aU rfl ?_);(refine pA rfl (by simp) (by simp;omega) ?_);(repeat first|refine tX rfl ?_|refine aU rfl ?_|apply Aa);refine Al.names [0,1,2,3,4,6] [(9,eB vfd)] (GH N gG capsG vse 5 (Fs steps p l vfr)) (by rw[a];decide) (by decide) (by simp[cX,zC,a]) (by simp[cX,zC,a,GH,d,Fs,j,BR,Ae,eC]) ?_;refine aR ⟨_,rfl,rfl,5,.inr ⟨rfl,rfl⟩,rfl⟩
  .have j:vfr=[]:=pi.1 (by (simp only[oZ] at *;omega))
   subst j;apply aK;(repeat first|refine tM rfl ?_|refine aU rfl ?_|apply Aa);refine Al.names [0,1,2,3,4] [(9,eB vfd)] (GH N gG capsG vse 4 steps) (by rw[a];decide) (by decide) (by simp[cX,zC,a]) (by simp[cX,zC,a,GH,d]) ?_;refine aR ⟨_,rfl,rfl,4,.inl ⟨rfl,rfl⟩,by simp[Fs]⟩
theorem iE{P:Program}{Γ:Ctx}{d:Option Tmp}{ty:TypeId}{pos:String}{af:Array Edge}{g:Option (Nat×Bool)}{f:Env}{σ:Ac}{nx:Nat}{K:E->Ac->Nat->Prop}{T:TypeId}(k e:Nat)[r:BP P T [.slice none 0 0]]
 (u:K (.o (.ptr (nx+1) 1 0 0)) ((nx+1,.cells T 1 [[.arr nx k 0 0]])::(nx,.cells e k [])::σ) (nx+2)):CQ P TB Γ ⟨d,.alloc T,ty,pos,af,g⟩ f σ nx K:=
 DM λV ρ z y x=>by
  subst x;obtain⟨i,zv,hi,b,a⟩:=Ie r.out
  have h:zv.cells = #[.slice none 0 0]:=by have:=congrArg List.toArray a;simpa using this
  obtain⟨m,p⟩:=y.alloc (c:=0) (nl:=True) (w:=V.w) (ob:=.cells e k []) rfl rfl rfl rfl (jp _) (λ_ _=>rfl) (.inl ⟨by simp[Aw],rfl⟩)
  have t:Df (Aw V V.w.heap.size 0 True V.w) [.arr V.nx k 0 0] zv.cells:=by
   rw[h];refine⟨rfl,λj c v l q=>?_⟩
   match j with
   | 0=>simp at l q;subst l q;exact AD.nil (by simp[Aw]) (by simp[Aw])
   | j+1=>simp at l
  obtain⟨n,s⟩:=Ul m (T:=T) t;refine⟨.pointer (some ⟨V.w.heap.size,0,none⟩),_,_,_,?_,p.trans s,n,?_,u⟩
  .simp[execOp,Instr.alloc,zeroValue,typeInfo,hi,b,newVar,newRow,Aw,go_sem]
  .exact PR
theorem TP(r:Nat->Nat):∀(l m:List E),Ep r (l++m)=Ep r l++Ep r m
 | [],m=>rfl
 | e::l,m=>by simp[Ep,TP r l m]
theorem Ru(r:Nat->Nat):∀(l:List C),Ep r (l.map .o)=(C.Ch r l).map .o
 | []=>rfl
 | c::l=>by simp[Ep,C.Ch,E.A6,Ru r l]
def nn(P:Program)(TB:BB)(T:TypeId)(g:Gr)(gN:FuncId)(capsN:List C):Prop:=
 ∀(node l:Int) (outs:List Int),0<=node/\node<g.N->l∈g.ls->outs.length<=1099511627776->
  Spec P TB gN [(0,.cells T 1 (outs.map Au))] 1 ([eI .i64 node,eI .i64 l,.o (.arr 0 1 0 outs.length)]++capsN.map .o) (λx σ nx=>x=.o (.arr 1 1 0 (outs++g.succ node l).length)/\nx=2/\σ=[(1,.cells T 1 ((outs++g.succ node l).map Au))])
theorem Mt{g:Gr}(Q:JD g)(hN:g.N<=1048576)(X:∀l∈g.ls,0<=l/\l<6)(hll:g.ls.length<=6)(hsl:∀(node l:Int),0<=node/\node<g.N->l∈g.ls->(g.succ node l).length<=g.N)
 {gN gG:FuncId} {capsN capsG:List C} (hNx:nn Tryz.prog TB 3 g gN capsN) (hG:∀n:Int,0<=n/\n<g.N->Pure Tryz.prog TB gG ([eI .i64 n]++capsG.map .o) (eB (g.goal n)))
 (hcG:C.Db capsG=true) (d:∀r,C.Ch r capsG=capsG) (h:∀r,C.Ch r capsN=capsN) {r:Option (List Int)} (hr:CG g r) :
 Pure Tryz.prog TB 95 [eI .i64 g.N,Aj [g.s0],Aj g.ls,.o (.fn gN capsN),.o (.fn gG capsG)] (Mr r):=by
 refine eN Tryz.func95 rfl (by kernel_rfl) rfl ?_;intro Γ b;(repeat first|refine aU rfl ?_);(refine pB rfl ?_);(repeat first|refine tM rfl ?_|refine aU rfl ?_|apply Aa);(refine pW rfl ?_ rfl (by rfl);refine Jg rfl rfl (by rfl) (by rfl) (co rfl) (by omega) (by omega) (by omega) ?_)
 iterate 4 (first|refine tM rfl ?_|refine aU rfl ?_|apply Aa)
 (refine pW rfl ?_ rfl (by rfl);refine iE 3 193 ?_);(repeat first|refine tM rfl ?_|refine aU rfl ?_|apply Aa);have K:=az (goal:=g.goal) (N:=g.N) (seen:=List.replicate g.N false) (nodes:=[g.s0]) (by simp) (by intro n u;simp at u;subst u;exact Q.s0);have A:=YC (TB:=TB) hG hcG d (List.replicate g.N false) [] (-1) 0 [g.s0] (by simp) hN (by simp) (by intro n u;simp at u;subst u;exact Q.s0);(refine pW rfl ?_ rfl (by rfl);refine BE [2,1,0,4,3] rfl rfl A ⟨rfl,by decide,by decide⟩ rfl (by simp[cX,zC,b,GH,d,Ae,eC]) ?_;rintro x0 T U ⟨rfl,q,L,rfl⟩ _);generalize hV:VG g.goal (List.replicate g.N false) [g.s0]=v at *;obtain⟨vse,vfr,vfd⟩:=v;simp only;apply Aa;refine Al.names [2,1,0,4,if q=4 then 3 else 5] [(2,Aj g.ls),(3,.o (.fn gN capsN)),(12,.o (.ptr 0 1 0 0)),(13,.o (.ptr 3 1 0 0)),(14,.o (.fn 154 [.ptr 0 1 0 0,.ptr 2 1 0 0,.ptr 3 1 0 0])),(26,eB vfd)] (GH g.N gG capsG vse 4 (Fs [] (-1) 0 vfr)) (by simp[b]) (by rcases L with ⟨rfl,rfl⟩|⟨rfl,rfl⟩<;>decide)
  (by rcases L with ⟨rfl,rfl⟩|⟨rfl,rfl⟩<;>simp[cX,zC,b,h,eC]) (by rcases L with ⟨rfl,rfl⟩|⟨rfl,rfl⟩<;>simp[cX,zC,b,GH,d,Ac.A6,BR,Ih,eC]) ?_
 (refine aC rfl ?_ ?_<;>rintro⟨⟩)
 ·-- the start is a goal
  have hgs:g.goal g.s0=true:=by
   have h1:vfr.any g.goal=true:=K.fd.symm;obtain⟨x,J,P⟩:=vR.1 h1;have h2:=((K.fr x).1 J).1;simp at h2;subst h2;exact P
  have B:=CG.unique hr (CG.start hgs);subst B;(repeat first|refine tM rfl ?_|refine aU rfl ?_|apply Aa);refine aR ⟨_,rfl,rfl⟩
 apply aK;obtain⟨hfr,hF0⟩:=FI.init Q K rfl;simp only at hfr hF0;rw[hfr];(repeat first|refine tM rfl ?_|refine aU rfl ?_|apply Aa);apply aB;refine Al.A0 (α:={x:Nat×List Bool×List Ps×List (List Int) // FI g x.2.1 x.2.2.1 x.2.2.2 x.1 0}) (λ⟨⟨i,seen,steps,ws⟩,f⟩=>[(2,Aj g.ls),(3,.o (.fn gN capsN)),(12,.o (.ptr 0 1 0 0)),(13,.o (.ptr 3 1 0 0)),(14,.o (.fn 154 [.ptr 0 1 0 0,.ptr 2 1 0 0,.ptr 3 1 0 0])),(15,eI .i64 i)]) (λ⟨⟨i,seen,steps,ws⟩,f⟩=>GH g.N gG capsG seen 4 steps) 5 (λ⟨⟨i,seen,steps,ws⟩,f⟩=>g.N-i) (⟨(0,vse,[⟨-1,0,[g.s0]⟩],[[]]),hF0⟩) [0,1,2,3,4] (CC b rfl rfl) (by (simp[cX,zC,b,GH,d,h,Fs])) ?_;rintro⟨⟨i,seen,steps,ws⟩,f⟩;(try dsimp only);simp only at f;have Y:=f.qu;(repeat first|refine tM rfl ?_|refine s2 rfl λ_ _hb=>?_|refine aU rfl ?_|apply Aa);(refine aC rfl ?_ ?_<;>rintro⟨⟩)
 .have hi : i<steps.length:=by (simp only[oZ] at *;omega)
  obtain⟨s,H⟩:=get_some hi;have V:(steps.map RI)[0+((i:Nat):Int).toNat]?=some (RI s):=Iv H;obtain⟨wi,z⟩:∃wi,ws[i]?=some wi:=get_some (by rw[f.wlen];exact hi);apply aK;refine aS (aB ?_);(repeat first|refine sN rfl ?_|refine tM rfl ?_|refine aU rfl ?_|apply Aa);apply aB;refine Al.A0 (α:={x:Nat×List Bool×List Ps×List (List Int) // x.1<=g.ls.length/\FI g x.2.1 x.2.2.1 x.2.2.2 i x.1/\i<x.2.2.1.length}) (λ⟨⟨j,c,st2,t⟩,hP⟩=>[(2,Aj g.ls),(3,.o (.fn gN capsN)),(12,.o (.ptr 0 1 0 0)),(13,.o (.ptr 3 1 0 0)),(14,.o (.fn 154 [.ptr 0 1 0 0,.ptr 2 1 0 0,.ptr 3 1 0 0])),(15,eI .i64 i),(33,Aj g.ls),(34,eI .i64 g.ls.length),(35,eI .i64 j)]) (λ⟨⟨j,c,st2,t⟩,hP⟩=>GH g.N gG capsG c 4 st2) 5 (λ⟨⟨j,c,st2,t⟩,hP⟩=>g.ls.length-j) (⟨(0,seen,steps,ws),by simp,f,hi⟩) [0,1,2,3,4] (CC b rfl rfl) (by (simp[cX,zC,b,GH,d,h])) ?_;rintro⟨⟨j,c,st2,t⟩,hP⟩;(try dsimp only);clear H V z f Y hi;obtain⟨hj,f,hi⟩:=hP;simp only at hj f hi;have Y:=f.qu;(repeat first|refine s2 rfl λ_ _hb=>?_|refine aU rfl ?_|apply Aa);(refine aC rfl ?_ ?_<;>rintro⟨⟩)
  .have Z:j<g.ls.length:=by (simp only[oZ] at *;omega)
   obtain⟨l,hl⟩:=get_some (l:=g.ls) (k:=j) Z;have hl':=get_map (g:=A9) hl;have F:=ce hl;have hlb:=X l F;obtain⟨s,H⟩:=get_some hi;have V:(st2.map RI)[0+((i:Nat):Int).toNat]?=some (RI s):=Iv H;obtain⟨wi,z⟩:∃wi,t[i]?=some wi:=get_some (by rw[f.wlen];exact hi);have p:=f.inn s (ce H);have hsnd:=GZ _ _ (f.nd s (ce H)) p;apply aK;refine aS (aB ?_);(repeat first|refine tM rfl ?_|(refine s4 rfl ‹_› rfl ?_ ?_;omega)|refine aU rfl ?_|apply Aa);(refine pW rfl ?_ rfl (by rfl);refine Fh 1 3 ?_);(repeat first|refine sN rfl ?_|(refine sM rfl ?_ ?_;first|exact tI|omega)|refine t4 rfl ‹_› rfl ?_|refine aU rfl ?_|apply Aa);apply aB;refine Al.A0 (α:={m:Nat // m<=s.ns.length}) (λ⟨m,hm⟩=>[(2,Aj g.ls),(3,.o (.fn gN capsN)),(12,.o (.ptr 0 1 0 0)),(13,.o (.ptr 3 1 0 0)),(14,.o (.fn 154 [.ptr 0 1 0 0,.ptr 2 1 0 0,.ptr 3 1 0 0])),(15,eI .i64 i),(33,Aj g.ls),(34,eI .i64 g.ls.length),(35,eI .i64 j),(17,eI .i64 l),(18,.o (.arr 5 1 0 ((s.ns.take m).flatMap λn=>g.succ n l).length)),(43,Aj s.ns),(44,eI .i64 s.ns.length),(45,eI .i64 m)]) (λ⟨m,hm⟩=>GH g.N gG capsG c 4 st2++[(5,.cells 3 1 (((s.ns.take m).flatMap λn=>g.succ n l).map Au))]) 6 (λ⟨m,hm⟩=>s.ns.length-m) (⟨0,by omega⟩) [0,1,2,3,4,5] (CC b rfl rfl) (by (simp[cX,zC,b,GH,d,h])) ?_;rintro⟨m,hm⟩;(try dsimp only);(repeat first|refine s2 rfl λ_ _hb=>?_|refine aU rfl ?_|apply Aa);(refine aC rfl ?_ ?_<;>rintro⟨⟩)
   .obtain⟨n,u⟩:=get_some (l:=s.ns) (k:=m) (by (simp only[oZ] at *;omega))
    have hn':=get_map (g:=A9) u;have hnb:=p n (ce u)
    have hfm:(s.ns.take (m+1)).flatMap (λn=>g.succ n l)=(s.ns.take m).flatMap (λn=>g.succ n l)++g.succ n l:=by
     rw[d9,u];simp
    have hol:((s.ns.take m).flatMap λn=>g.succ n l).length<=1099511627776:=by
     have h2:=Mu (s.ns.take m) (λn=>g.succ n l) 1048576 (λx J=>by have:=hsl x l (p x (t7 J)) F;omega)
     have h3:(s.ns.take m).length<=1048576:=by simp;omega
     omega
    have hnx:=hNx n l _ hnb F hol;generalize (s.ns.take m).flatMap (λn=>g.succ n l)=pre at *;apply aK;refine aS (aB ?_);(repeat first|refine tM rfl ?_|(refine s4 rfl ‹_› rfl ?_ ?_;omega)|refine aU rfl ?_|apply Aa);(refine pW rfl ?_ rfl (by rfl);refine BE [5] rfl rfl hnx ⟨rfl,by decide,by decide⟩ (by rw[TP,Ru,h];rfl) (by simp[cX,zC,b]) ?_;rintro x0 T U ⟨rfl,rfl,rfl⟩ _);(repeat first|(refine sM rfl ?_ ?_;first|exact tI|omega)|refine aU rfl ?_|apply Aa);refine⟨⟨m+1,by (simp only[oZ] at *;omega)⟩,by dsimp only;((simp only[oZ] at *;omega)),[0,1,2,3,4,6],?_⟩;simp[cX,zC,b,GH,d,h,Ac.A6,BR,Ih,hfm]
   .obtain rfl:m=s.ns.length:=by (simp only[oZ] at *;omega)
    rw[i9];have hR:∀y,y∈s.ns.flatMap (λn=>g.succ n l)↔∃n∈s.ns,y∈g.succ n l:=λy=>vl;generalize s.ns.flatMap (λn=>g.succ n l)=R at *
    have I:∀y∈R,0<=y/\y<g.N:=λy hy=>by
     obtain⟨n,u,hy⟩:=(hR y).1 hy;exact Q.inn n (p n u) l F y hy
    have hv:=az (goal:=g.goal) f.slen I;have A:=YC (TB:=TB) hG hcG d c st2 i l R f.slen hN (by omega) I;generalize hV2:VG g.goal c R=v2 at *;apply aE;refine Al.freeze [5] [(2,Aj g.ls),(3,.o (.fn gN capsN)),(12,.o (.ptr 0 1 0 0)),(13,.o (.ptr 3 1 0 0)),(14,.o (.fn 154 [.ptr 0 1 0 0,.ptr 2 1 0 0,.ptr 3 1 0 0])),(15,eI .i64 i),(33,Aj g.ls),(34,eI .i64 g.ls.length),(35,eI .i64 j),(17,eI .i64 l),(18,Aj R)] ⟨⟨_,rfl,.AM⟩,⟨_,rfl,.AM⟩,⟨_,rfl,.AM⟩,⟨_,rfl,.AM⟩,⟨_,rfl,.AM⟩,⟨_,rfl,.AM⟩,⟨_,rfl,.AM⟩,⟨_,rfl,.AM⟩,⟨_,rfl,.AM⟩,⟨_,rfl,.AM⟩,⟨_,rfl,.o (.full (by simp) rfl (by simp[d6]) (by simp))⟩,trivial⟩ ?_;(repeat first|refine tM rfl ?_|refine aU rfl ?_);(refine pW rfl ?_ rfl (by rfl);refine BE [0,1,2,3,4] rfl rfl A ⟨rfl,by decide,by decide⟩ rfl (by simp[cX,zC,b,GH,d,BR]) ?_;rintro x0 T U ⟨rfl,q,L,rfl⟩ _);obtain⟨vse,vfr,vfd⟩:=v2;simp only;apply Aa;refine Al.names [0,1,2,3,if q=4 then 4 else 6] [(2,Aj g.ls),(3,.o (.fn gN capsN)),(12,.o (.ptr 0 1 0 0)),(13,.o (.ptr 3 1 0 0)),(14,.o (.fn 154 [.ptr 0 1 0 0,.ptr 2 1 0 0,.ptr 3 1 0 0])),(15,eI .i64 i),(33,Aj g.ls),(34,eI .i64 g.ls.length),(35,eI .i64 j),(59,eB vfd)] (GH g.N gG capsG vse 4 (Fs st2 i l vfr)) (by simp[b]) (by rcases L with ⟨rfl,rfl⟩|⟨rfl,rfl⟩<;>decide)
     (by rcases L with ⟨rfl,rfl⟩|⟨rfl,rfl⟩<;>simp[cX,zC,b,h]) (by rcases L with ⟨rfl,rfl⟩|⟨rfl,rfl⟩<;>simp[cX,zC,b,GH,d,Ac.A6,BR,Ih]) ?_
    (refine aC rfl ?_ ?_<;>rintro⟨⟩)
    .obtain⟨x,J,P⟩:∃x∈vfr,g.goal x=true:=by
      have h1:vfr.any g.goal=true:=hv.fd.symm;exact vR.1 h1
     have hxR:=((hv.fr x).1 J).1;obtain⟨n,u,hxn⟩:=(hR x).1 hxR;have G:=CG.found Q f z hl H u hxn P;have B:=CG.unique hr G;subst B
     have hne:vfr≠[]:=λe=>by rw[e]at J;cases J
     have hsv:Fs st2 i l vfr=st2++[⟨i,l,vfr⟩]:=by unfold Fs;rw[if_neg hne]
     rw[hsv];have hch:=f.cW.app (ns:=vfr) z F;have hpw:=XB (TB:=TB) hch X (w:=wi++[l]) (by simp;omega) (by simp[f.wlen]);generalize hst3:st2++[⟨(i:Int),l,vfr⟩]=st3 at *;(repeat first|refine tM rfl ?_|(refine Ai rfl ?_;refine gA rfl ?_;first|refine gQ (Jj rfl rfl ((.cons (.o (.full rfl (by simp[d6]) (by simp))) .nil)) (hpw) rfl) rfl ?_)|refine aU rfl ?_|apply Aa);refine aR ⟨_,rfl,rfl⟩
    .have S:=f.visit Q z hl H hR hv rfl
     have M:i<(Fs st2 i l vfr).length:=by unfold Fs;split<;>(try simp)<;>omega
     apply aK;(repeat first|(refine sM rfl ?_ ?_;first|exact tI|omega)|refine aU rfl ?_|apply Aa);refine⟨⟨(j+1,vse,Fs st2 i l vfr,sS t (wi++[l]) vfr),Z,S,M⟩,by dsimp only;omega,[0,1,2,3,4],?_⟩;simp[cX,zC,b,GH,d,h]
  .obtain rfl:j=g.ls.length:=by (simp only[oZ] at *;omega)
   have S:=f.qB hi;apply aE;(repeat first|(refine sM rfl ?_ ?_;first|exact tI|omega)|refine aU rfl ?_|apply Aa);refine⟨⟨(i+1,c,st2,t),S⟩,by dsimp only;omega,[0,1,2,3,4],?_⟩;simp[cX,zC,b,GH,d,h]
 .have hle:=f.le
  obtain rfl:i=steps.length:=by (simp only[oZ] at *;omega)
  have G:=CG.tR Q f;have B:=CG.unique hr G;subst B;apply aE;(repeat first|refine tM rfl ?_|refine aU rfl ?_|apply Aa);refine aR ⟨_,rfl,rfl⟩
def GF(a p:AI)(node letter:Int):Int:=Bn a (node / p.nx.length%a.nx.length).toNat letter*p.nx.length+Bn p (node%p.nx.length).toNat letter
def Kn(l:List Sys)(a p:AI)(node letter:Int):List Int:=(EG (l.map (·.st)) (dq l (node / p.nx.length / a.nx.length) letter)).map λo=>o*a.nx.length*p.nx.length+GF a p node letter
def OJ(a p:AI)(node:Int):Bool:=a.ac.getD (node / p.nx.length%a.nx.length).toNat false && !p.ac.getD (node%p.nx.length).toNat false
def gI(l:List Sys)(a p:AI)(ls:List Int):Gr:=⟨(Av (l.map (·.st))*a.nx.length*p.nx.length).toNat,Kn l a p,OJ a p,ls,0⟩
theorem KP{a:AI}{q:Nat}(h:q<a.nx.length):(Gd a)[q]?=some (ZQ λl=>Bn a q l):=DZ (g:=λq=>ZQ λl=>Bn a q l) h
theorem IL{h:Nat->Int}{l:Int}(d:0<=l)(c:l<6):((ZQ h).drop (l.toNat*1))[0]?=some (iD (h l.toNat)):=by
 rw[ul]
 have b:l.toNat*1+0=l.toNat:=by omega
 have a:l.toNat<6:=by omega
 rw[b];simp[ZQ,a]
theorem jQ{outs low:List Int}{h:Int->Int}{k:Nat}{x:Int}(a:low[k]?=some x):(outs++((low.take k).map h++low.drop k)).set (outs.length+k) (h x)=outs++((low.take (k+1)).map h++low.drop (k+1)):=by
 have hk:=(am.1 a).1;rw[vX _ _ (by omega),vX _ _ (by simp;omega)];congr 1
 have e:outs.length+k-outs.length-((low.take k).map h).length=0:=by simp;omega
 rw[e,Bm a,d9,a];simp
theorem Cu{a:AI}(h:AJ a=true):1<=a.nx.length/\a.nx.length<=12:=by have:=AB h;omega
theorem J7{l:List Sys}(h:∀s∈l,AP s=true)(d:l.length<=3):1<=Av (l.map (·.st))/\Av (l.map (·.st))<=4096:=by
 have a:∀z∈l.map (·.st),1<=z/\z<=16:=by
  intro z b;obtain⟨s,c,rfl⟩:=d8.1 b;have:=AL (h s c);omega
 have f:=II _ a
 have e:(16:Int) ^ (l.map (·.st)).length<=4096:=by
  have:(l.map (·.st)).length<=3:=by simp;omega
  generalize (l.map (·.st)).length=n at this
  have:n=0\/n=1\/n=2\/n=3:=by omega
  rcases this with rfl|rfl|rfl|rfl<;>decide
 omega
theorem XQ{a p:AI}(ha:AJ a=true)(hp:AJ p=true){node letter:Int}(f:0<=node)(c:0<=letter)(b:letter<6):0<=GF a p node letter/\GF a p node letter<a.nx.length*p.nx.length:=by
 have l:=Cu ha;have k:=Cu hp
 have j:0<=node / p.nx.length%a.nx.length/\node / p.nx.length%a.nx.length<a.nx.length:=⟨uY _ (by omega),uQ _ (by omega)⟩
 have i:0<=node%p.nx.length/\node%p.nx.length<p.nx.length:=⟨uY _ (by omega),uQ _ (by omega)⟩
 have e:=Dz ha (q:=(node / p.nx.length%a.nx.length).toNat) (by omega) c b;have h:=Dz hp (q:=(node%p.nx.length).toNat) (by omega) c b;unfold GF;generalize Bn a _ letter=x at *;generalize Bn p _ letter=y at *;generalize (a.nx.length:Int)=n at *;generalize (p.nx.length:Int)=m at *;have g:0<=x*m:=uK e.1 (by omega);have d:(x+1)*m<=n*m:=vn (by omega) (by omega);rw[v9]at d;omega
theorem Xv[Dy TB]{l:List Sys}{a p:AI}(h:∀s∈l,AP s=true)(K:l.length<=3)(ha:AJ a=true)(hp:AJ p=true)(node letter:Int)(c:0<=node)(Y:node<=1048576)(f:0<=letter)(d:letter<6)(outs:List Int)(H:outs.length<=1099511627776) :
 Spec Tryz.prog TB 162 [(0,.cells 3 1 (outs.map Au))] 1 [eI .i64 node,eI .i64 letter,.o (.arr 0 1 0 outs.length),.o (.ip [.l (Gd a)]),.o (.ip [iD p.nx.length]),.o (.ip [iD a.nx.length]),.o (.ip [.l (Gd p)]),.o (.ip (Hy l))]
  (λx σ nx=>x=.o (.arr 1 1 0 (outs++Kn l a p node letter).length)/\nx=2/\σ=[(1,.cells 3 1 ((outs++Kn l a p node letter).map Au))]):=by
 have han:=Cu ha;have X:=Cu hp;have B:=XQ ha hp c f d;have t:0<=node / p.nx.length:=vW c (by omega);have U:node / p.nx.length<=node:=vP _ c;have G:0<=node / p.nx.length / a.nx.length:=vW t (by omega);have T:node / p.nx.length / a.nx.length<=node / p.nx.length:=vP _ t
 have h4:0<=node / p.nx.length%a.nx.length/\node / p.nx.length%a.nx.length<a.nx.length:=⟨uY _ (by omega),uQ _ (by omega)⟩
 have h5:0<=node%p.nx.length/\node%p.nx.length<p.nx.length:=⟨uY _ (by omega),uQ _ (by omega)⟩
 have h6:=Dz ha (q:=(node / p.nx.length%a.nx.length).toNat) (by omega) f d;have h7:=Dz hp (q:=(node%p.nx.length).toNat) (by omega) f d;have S:=KP (a:=a) (q:=(node / p.nx.length%a.nx.length).toNat) (by omega);have R:=KP (a:=p) (q:=(node%p.nx.length).toNat) (by omega);have r:=IL (h:=λl=>Bn a (node / p.nx.length%a.nx.length).toNat l) f d;have n:=IL (h:=λl=>Bn p (node%p.nx.length).toNat l) f d
 have el:((letter.toNat:Nat):Int)=letter:=by omega
 have h8:0<=Bn a (node / p.nx.length%a.nx.length).toNat letter*p.nx.length/\Bn a (node / p.nx.length%a.nx.length).toNat letter*p.nx.length<=144:=⟨uK h6.1 (by omega),by
  have:Bn a (node / p.nx.length%a.nx.length).toNat letter*p.nx.length<=12*12:=uF (by omega) (by omega) (by omega) (by omega)
  omega⟩
 simp only[el]at r n;have I:=lK (TB:=TB) l h K (node / p.nx.length / a.nx.length) letter G (by omega) f d outs H;have v:=UI (Us h K f d (node / p.nx.length / a.nx.length));have V:=J7 h K;have F:Bn a (node / p.nx.length%a.nx.length).toNat letter*p.nx.length+Bn p (node%p.nx.length).toNat letter=GF a p node letter:=rfl;unfold Kn;generalize EG (l.map (·.st)) (dq l (node / p.nx.length / a.nx.length) letter)=low at *;refine eN Tryz.func162 rfl (by kernel_rfl) rfl ?_;intro Γ b;(repeat first|refine tA rfl ?_|refine aU rfl ?_|apply Aa);refine rG (GI []) (by kernel_rfl) ?_;(repeat first|(refine sA rfl ?_ ?_;first|exact tI|omega)|(refine s4 rfl ‹_› rfl ?_ ?_;omega)|(refine Ai rfl ?_;refine gA rfl ?_;first|refine gS (λ_ _=>DY rfl r) ?_|refine gS (λ_ _=>DY rfl n) ?_)|refine aU rfl ?_|apply Aa);rw[F];refine rG (GI [8]) (by kernel_rfl) ?_;(repeat first|(refine sA rfl ?_ ?_;first|exact tI|omega));(refine pW rfl ?_ rfl (by rfl);refine BE [0] rfl rfl I ⟨rfl,by decide,by decide⟩ rfl (by simp[cX,zC,b]) ?_;rintro x0 P Q ⟨rfl,rfl,rfl⟩ _);(repeat first|refine tA rfl ?_|refine aU rfl ?_|apply Aa);apply aB
 have J:∀k,((outs++((low.take k).map (λo=>o*a.nx.length*p.nx.length+GF a p node letter)++low.drop k)).length)=outs.length+low.length:=by intro k;simp;omega
 refine Al.A0 (α:={k:Nat // k<=low.length}) (λ⟨k,hk⟩=>[(2,.o (.arr 1 1 0 (outs.length+low.length))),(4,.o (.ip [iD p.nx.length])),(5,.o (.ip [iD a.nx.length])),(12,eI .i64 (GF a p node letter)),(14,eI .i64 ((outs.length+k:Nat):Int))]) (λ⟨k,hk⟩=>[(1,.cells 3 1 ((outs++((low.take k).map (λo=>o*a.nx.length*p.nx.length+GF a p node letter)++low.drop k)).map Au))]) 2 (λ⟨k,hk⟩=>low.length-k) (⟨0,by omega⟩) [0,1] (CC b rfl rfl) (by (simp[cX,zC,b,Ac.A6,BR,Ih])) ?_;rintro⟨k,hk⟩;(try dsimp only);(repeat first|refine tM rfl ?_|refine s2 rfl λ_ _hb=>?_|refine aU rfl ?_|apply Aa);(refine aC rfl ?_ ?_<;>rintro⟨⟩)
 .have w:k<low.length:=by (simp only[oZ] at *;omega)
  obtain⟨x,A⟩:=get_some (l:=low) (k:=k) w;have z:=v.1 x (ce A);have m:=jQ (outs:=outs) (h:=λo=>o*a.nx.length*p.nx.length+GF a p node letter) A
  have M:(outs++((low.take k).map (λo=>o*a.nx.length*p.nx.length+GF a p node letter)++low.drop k))[outs.length+k]?=some x:=by
   rw[i7 (by omega),i7 (by simp;omega),Bm A]
   have e:outs.length+k-outs.length-((low.take k).map (λo=>o*a.nx.length*p.nx.length+GF a p node letter)).length=0:=by simp;omega
   rw[e];rfl
  have N:=Iv (g:=Au) M
  have u:0<=x*a.nx.length/\x*a.nx.length<=49152:=⟨uK z.1 (by omega),by
   have:x*a.nx.length<=4096*12:=uF (by omega) (by omega) (by omega) (by omega)
   omega⟩
  have hm2:0<=x*a.nx.length*p.nx.length/\x*a.nx.length*p.nx.length<=589824:=⟨uK u.1 (by omega),by
   have:x*a.nx.length*p.nx.length<=49152*12:=uF u.2 (by omega) (by omega) (by omega)
   omega⟩
  have Z:(a.nx.length:Int)*p.nx.length<=144:=by
   have:(a.nx.length:Int)*p.nx.length<=12*12:=uF (by omega) (by omega) (by omega) (by omega);omega
  have hlk:=J k
  have L:((outs.length+k:Nat):Int)+1=((outs.length+(k+1):Nat):Int):=by omega
  have j:=IP (l:=outs++((low.take k).map (λo=>o*a.nx.length*p.nx.length+GF a p node letter)++low.drop k)) (k:=outs.length+k) (x:=x) (y:=x*a.nx.length*p.nx.length+GF a p node letter);rw[m]at j;generalize outs++((low.take k).map (λo=>o*a.nx.length*p.nx.length+GF a p node letter)++low.drop k)=cur at *;apply aK;refine aS (aB ?_);refine rG (GI [13]) (by kernel_rfl) ?_;(repeat first|(refine sM rfl ?_ ?_;first|exact tI|omega)|refine t4 rfl ‹_› rfl ?_|refine aU rfl ?_|apply Aa);refine⟨⟨k+1,w⟩,by dsimp only;omega,[0,1],?_⟩;rw[j,L];simp[cX,zC,b]
 .obtain rfl:k=low.length:=by (simp only[oZ] at *;omega)
  rw[i9,vC,uv];apply aE;(repeat first|refine tM rfl ?_|refine aU rfl ?_|apply Aa);refine Al.names [0,1] [(11,.o (.arr 1 1 0 (outs.length+low.length)))] [(1,.cells 3 1 ((outs++low.map λo=>o*a.nx.length*p.nx.length+GF a p node letter).map Au))] (by intro i hi;rw[b]at hi;obtain rfl:i=0:=(by omega);rfl) (by simp) (by simp[cX,zC,b]) (by simp[cX,zC,b]) ?_;refine aR ⟨_,rfl,by simp,rfl,rfl⟩
theorem Ui(s:Sys):Pure Tryz.prog TB 105 [BD s] (eB (!AP s)):=by
 refine eN Tryz.func105 rfl (by kernel_rfl) rfl ?_;intro Γ b;(repeat' first|refine tA rfl ?_|refine s2 rfl λ_ a=>?_|(refine sC rfl (Cf s) ?_;intro _ a)|refine aV rfl ?_|apply Aa|(refine aC rfl ?_ ?_<;>rintro⟨⟩)|refine aR ⟨_,rfl,?_⟩)
 all_goals (show E.o _=E.o _;congr;grind)
def YV:List Sys->Int->Int
 | [],_=>-1
 | s::l,k=>if AP s then YV l (k+1) else k
theorem Wu:∀(l:List Sys) (k:Int),0<=k->(decide (0<=YV l k) = !l.all AP)
 | [],_,_=>rfl
 | s::l,k,h=>by
  unfold YV;by_cases a:AP s=true
  .rw[if_pos a,Wu l (k+1) (by omega)];simp[a]
  .rw[if_neg a];simp[a,h]
theorem UD(l:List Sys):Pure Tryz.prog TB 166 [Hn l,.o (.fn 105 [])] (eI .i64 (YV l 0)):=by
 refine eN Tryz.func166 rfl (by kernel_rfl) rfl ?_;intro Γ a;refine Al.bound 0 rfl λb=>?_;have f:=b (l.map AU) .refl;(repeat' first|refine sN rfl ?_|refine tA rfl ?_|refine aV rfl ?_|apply Aa|(refine aC rfl ?_ ?_<;>rintro⟨⟩)|refine aR ⟨_,rfl,?_⟩);refine Al.A0 (α:={k:Nat // k<=l.length/\YV l 0=YV (l.drop k) k}) (λ⟨k,hk,ha⟩=>[(0,Hn l),(1,.o (.fn 105 [])),(7,eI .i64 l.length),(8,eI .i64 k)]) (λ⟨k,hk,ha⟩=>[]) 0 (λ⟨k,hk,ha⟩=>l.length-k) (⟨0,by omega,rfl⟩) [] (CC a rfl rfl) (by (simp[cX,zC,a])) ?_;rintro⟨k,hk,ha⟩;(try dsimp only);(repeat first|refine s2 rfl λ_ c=>?_|refine aU rfl ?_|apply Aa);(refine aC rfl ?_ ?_<;>rintro⟨⟩)
 .obtain⟨x,d⟩:=get_some (l:=l) (k:=k) (by (simp only[oZ] at *;omega))
  have e:=get_map (g:=AU) d;rw[Bm d,YV]at ha;(repeat' first|(refine sA rfl ?_ ?_;first|exact tI|simp only[oZ] at *;omega)|(refine s4 rfl ‹_› rfl ?_ ?_;omega)|(refine sC rfl (Ui x) ?_;intro _ c)|refine aV rfl ?_|apply Aa|(refine aC rfl ?_ ?_<;>rintro⟨⟩)|refine aR ⟨_,rfl,?_⟩)
  .rw[if_neg (by grind)]at ha
   show E.o _=E.o _;rw[ha]
  .rw[if_pos (by grind)]at ha
   refine⟨⟨k+1,by (simp only[oZ] at *;omega),by rw[ha];rfl⟩,by dsimp only;((simp only[oZ] at *;omega)),[],?_⟩;simp[cX,zC,a]
 ·(repeat' first|refine tA rfl ?_|refine aV rfl ?_|apply Aa|(refine aC rfl ?_ ?_<;>rintro⟨⟩)|refine aR ⟨_,rfl,?_⟩)
  rw[vm (by (simp only[oZ] at *;omega))]at ha
  show E.o _=E.o _;rw[ha];rfl
theorem Ph(l:List Sys):Pure Tryz.prog TB 104 [Hn l,.o (.fn 105 [])] (eB (!l.all AP)):=by
 have hb:=Wu l 0 (by omega);refine eN Tryz.func104 rfl (by kernel_rfl) rfl ?_;intro Γ a;(repeat' first|refine tA rfl ?_|refine s2 rfl λ_ b=>?_|refine sP rfl (UD l) rfl ?_|refine aV rfl ?_|apply Aa|(refine aC rfl ?_ ?_<;>rintro⟨⟩)|refine aR ⟨_,rfl,?_⟩)
 all_goals (show E.o _=E.o _;congr;grind)
theorem JI(l:List Sys):Pure Tryz.prog TB 43 [Hn l] (eB (AZ l)):=by
 refine eN Tryz.func43 rfl (by kernel_rfl) rfl ?_;intro Γ b;(repeat' first|refine sN rfl ?_|refine tA rfl ?_|refine s2 rfl λ_ a=>?_|(refine sC rfl (Ph l) ?_;intro _ a)|refine s3 rfl ?_ ?_<;>rintro rfl|refine aV rfl ?_|apply Aa|(refine aC rfl ?_ ?_<;>rintro⟨⟩)|refine aR ⟨_,rfl,?_⟩)
 all_goals (show E.o _=E.o _;congr;unfold AZ;grind)
theorem Gw(l:List Sys):Pure Tryz.prog TB 161 [Hn l] (eI .i64 (Bu l)):=by
 refine eN Tryz.func161 rfl (by kernel_rfl) rfl ?_;intro Γ a;refine Al.bound 0 rfl λe=>?_;have i:=e (l.map AU) .refl;(repeat' first|refine sN rfl ?_|refine tA rfl ?_|refine s2 rfl λ_ b=>?_|(refine sC rfl (JI l) ?_;intro _ b)|refine aV rfl ?_|apply Aa|(refine aC rfl ?_ ?_<;>rintro⟨⟩)|refine aR ⟨_,rfl,?_⟩)
 all_goals try (show E.o _=E.o _;congr;unfold Bu;rw[if_neg (by grind)])
 have d:AZ l=true:=by grind
 refine Al.A0 (α:={k:Nat // k<=l.length}) (λ⟨k,hk⟩=>[(3,eI .i64 (Ia (l.take k) 0)),(9,Hn l),(10,eI .i64 l.length),(11,eI .i64 k)]) (λ⟨k,hk⟩=>[]) 0 (λ⟨k,hk⟩=>l.length-k) (⟨0,by omega⟩) [] (CC a rfl rfl) (by (repeat' first|exact tI|rfl|refine And.intro ?_ ?_)) ?_;rintro⟨k,hk⟩;(try dsimp only);(repeat first|refine s2 rfl λ_ b=>?_|refine aU rfl ?_|apply Aa);(refine aC rfl ?_ ?_<;>rintro⟨⟩)
 .obtain⟨x,f⟩:=get_some (l:=l) (k:=k) (by (simp only[oZ] at *;omega))
  have h:=get_map (g:=AU) f
  have c:Ia (l.take (k+1)) 0=GY .i64 (Ia (l.take k) 0) x.al:=by unfold Ia;rw[Hp f]
  (repeat' first|(refine sA rfl ?_ ?_;first|exact tI|simp only[oZ] at *;omega)|(refine s4 rfl ‹_› rfl ?_ ?_;omega)|refine aV rfl ?_|apply Aa|(refine aC rfl ?_ ?_<;>rintro⟨⟩)|refine aR ⟨_,rfl,?_⟩);refine⟨⟨k+1,by (simp only[oZ] at *;omega)⟩,by dsimp only;((simp only[oZ] at *;omega)),[],?_⟩;simp[cX,zC,a,c]
 ·(repeat' first|refine tA rfl ?_|refine aV rfl ?_|apply Aa|(refine aC rfl ?_ ?_<;>rintro⟨⟩)|refine aR ⟨_,rfl,?_⟩)
  rw[i8 (by (simp only[oZ] at *;omega))]
  show E.o _=E.o _;congr;unfold Bu;rw[if_pos d]
theorem WR{a p:AI}(ha:AJ a=true)(hp:AJ p=true)(node:Int)(d:0<=node)(m:node<=1048576):Pure Tryz.prog TB 164 [eI .i64 node,.o (.ip [.p (AT a)]),.o (.ip [iD p.nx.length]),.o (.ip [iD a.nx.length]),.o (.ip (AT p))] (eB (OJ a p node)):=by
 have s:=Cu ha;have i:=Cu hp;have t:=AB ha;have j:=AB hp;have h:0<=node / p.nx.length:=vW d (by omega);have g:node / p.nx.length<=node:=vP _ d
 have w:0<=node / p.nx.length%a.nx.length/\node / p.nx.length%a.nx.length<a.nx.length:=⟨uY _ (by omega),uQ _ (by omega)⟩
 have v:0<=node%p.nx.length/\node%p.nx.length<p.nx.length:=⟨uY _ (by omega),uQ _ (by omega)⟩
 obtain⟨b,hb⟩:=get_some (l:=a.ac) (k:=(node / p.nx.length%a.nx.length).toNat) (by omega);obtain⟨c,e⟩:=get_some (l:=p.ac) (k:=(node%p.nx.length).toNat) (by omega)
 have r:(a.ac.map Iq)[(node / p.nx.length%a.nx.length).toNat]?=some (Iq b):=by simp[hb]
 have q:(p.ac.map Iq)[(node%p.nx.length).toNat]?=some (Iq c):=by simp[e]
 have n:OJ a p node=(b && !c):=by simp[OJ,List.getD,hb,e]
 rw[n];refine eN Tryz.func164 rfl (by kernel_rfl) rfl ?_;intro Γ f;(repeat' first|(refine sA rfl ?_ ?_;first|exact tI|omega)|(refine s4 rfl ‹_› rfl ?_ ?_;omega)|refine s2 rfl λ_ u=>?_|refine s3 rfl ?_ ?_<;>rintro rfl|refine aV rfl ?_|apply Aa|refine rE (by kernel_rfl) ?_|(refine aC rfl ?_ ?_<;>rintro⟨⟩)|refine aR ⟨_,rfl,?_⟩)
 all_goals (show E.o _=E.o _;first|rfl|(congr;grind))
theorem Yu(a:AI):(Gd a).length=a.nx.length:=by simp[Gd,BH]
def Pf:AI:=⟨0,[[]],[true]⟩
theorem kI:AJ Pf=true:=by decide
theorem nV{l:List Sys}{a p:AI}{ls:List Int}(h:∀s∈l,AP s=true)(c:l.length<=3)(ha:AJ a=true)(hp:AJ p=true):((gI l a p ls).N:Int)=Av (l.map (·.st))*a.nx.length*p.nx.length/\1<=(gI l a p ls).N/\(gI l a p ls).N<=1048576:=by
 have b:=J7 h c;have k:=Cu ha;have j:=Cu hp;have i:(gI l a p ls).N=(Av (l.map (·.st))*a.nx.length*p.nx.length).toNat:=rfl;have g:Av (l.map (·.st))*a.nx.length<=4096*12:=uF b.2 (by omega) (by omega) (by omega);have f:1*1<=Av (l.map (·.st))*a.nx.length:=uF b.1 (by omega) (by omega) (by omega);have e:Av (l.map (·.st))*a.nx.length*p.nx.length<=49152*12:=uF (by omega) (by omega) (by omega) (by omega);have d:1*1<=Av (l.map (·.st))*a.nx.length*p.nx.length:=uF (by omega) (by omega) (by omega) (by omega);omega
theorem RL{l:List Sys}{a p:AI}(h:∀s∈l,AP s=true)(c:l.length<=3)(ha:AJ a=true)(hp:AJ p=true){node letter:Int}(k:0<=node)(g:0<=letter)(f:letter<6):(∀y∈Kn l a p node letter,0<=y/\y<Av (l.map (·.st))*a.nx.length*p.nx.length)/\((Kn l a p node letter).length:Int)<=Av (l.map (·.st)):=by
 have n:=UI (Us h c g f (node / p.nx.length / a.nx.length));have w:=J7 h c;have v:=Cu ha;have u:=Cu hp;have t:=XQ ha hp k g f;refine⟨λy i=>?_,by unfold Kn;simp;omega⟩;obtain⟨o,j,rfl⟩:=d8.1 i;have m:=n.1 o j;have e:∀o:Int,o*a.nx.length*p.nx.length=o*(a.nx.length*p.nx.length):=λo=>vN _ _ _;rw[e,e];have d:0<=(a.nx.length:Int)*p.nx.length:=uK (by omega) (by omega);generalize (a.nx.length:Int)*p.nx.length=q at *;have r:0<=o*q:=uK m.1 d;have b:(o+1)*q<=Av (l.map (·.st))*q:=vn (by omega) d;rw[v9]at b;omega
theorem mS{l:List Sys}{a p:AI}{x:Int}(h:∀s∈l,AP s=true)(b:l.length<=3)(ha:AJ a=true)(hp:AJ p=true):JD (gI l a p (Ab x)):=by
 have g:=nV (ls:=Ab x) h b ha hp;refine⟨?_,λy d m e z c=>?_,Fg _ _⟩
 .show 0<=(0:Int)/\(0:Int)<_
  omega
 .have f:=Af e
  have i:=(RL h b ha hp d.1 f.1 (by omega)).1 z c;omega
theorem Qs[Dy TB](l:List Sys)(a p:AI)(h:AZ l=true)(ha:AJ a=true)(hp:AJ p=true) :
 Pure Tryz.prog TB 103 [Hn l,.o (.ip (AT a)),Bp p] (Mr (DH (gI l a p (Ab (GY .i64 (Bu l) a.al))))):=by
 have c:=h;unfold AZ at c;simp only[d4,decide_eq_true_eq,ge]at c;obtain⟨⟨u,d⟩,b⟩:=c;have k:=nV (ls:=Ab (GY .i64 (Bu l) a.al)) b d ha hp;have v:=mS (x:=GY .i64 (Bu l) a.al) b d ha hp;have g:=J7 b d;have w:=Cu ha;have q:=Cu hp;have i:Pure Tryz.prog TB 95 [eI .i64 (Av (l.map (·.st))*a.nx.length*p.nx.length),Aj [0],Aj (Ab (GY .i64 (Bu l) a.al)),.o (.fn 162 [.ip [.l (Gd a)],.ip [iD p.nx.length],.ip [iD a.nx.length],.ip [.l (Gd p)],.ip (Hy l)]),.o (.fn 164 [.ip [.p (AT a)],.ip [iD p.nx.length],.ip [iD a.nx.length],.ip (AT p)])]
  (Mr (DH (gI l a p (Ab (GY .i64 (Bu l) a.al))))):=by
  rw[<-k.1];refine Mt v k.2.2 (λx e=>by have:=Af e;omega) (AA _ 6) (λnode x f e=>?_) (λnode x outs f e s=>?_) (λn f=>?_) rfl (λr=>rfl) (λr=>rfl) (DJ _)
  .have j:=Af e
   have y:=(RL b d ha hp f.1 j.1 (by omega)).2;have B:Av (l.map (·.st))*1<=Av (l.map (·.st))*a.nx.length:=uB (by omega) (by omega);have A:Av (l.map (·.st))*a.nx.length*1<=Av (l.map (·.st))*a.nx.length*p.nx.length:=uB (by omega) (by omega);have z:(((gI l a p (Ab (GY .i64 (Bu l) a.al))).succ node x).length:Int)<=Av (l.map (·.st)):=y;omega
  .have j:=Af e
   exact Xv b d ha hp node x f.1 (by omega) j.1 (by omega) outs s
  .exact WR ha hp n f.1 (by omega)
 have t:0<=Av (l.map (·.st))*a.nx.length/\Av (l.map (·.st))*a.nx.length<=49152:=⟨uK (by omega) (by omega),by
  have:Av (l.map (·.st))*a.nx.length<=4096*12:=uF g.2 (by omega) (by omega) (by omega)
  omega⟩
 refine eN Tryz.func103 rfl (by kernel_rfl) rfl ?_;intro Γ m;(repeat first|refine aU rfl ?_);(refine Ai rfl ?_;refine CJ (λ_ _=>C9 rfl rfl rfl) rfl ?_);(refine Ai rfl ?_;refine CJ (λ_ _=>C9 rfl rfl rfl) rfl ?_);(repeat first|refine tM rfl ?_|refine sP rfl (OR l b d) rfl ?_|refine sP rfl (Gw l) rfl ?_|refine aU rfl ?_|apply Aa);(refine aC rfl ?_ ?_<;>rintro⟨⟩);apply aK;apply aS;refine R.SL [(0,2),(1,2),(2,2),(3,2),(4,2),(5,2),(6,3),(7,3),(8,5),(9,5)] mixed (by kernel_rfl) rfl (by kernel_rfl) ?_;(repeat ((refine R.Ai rfl ?_;first|(refine R.yQ (md:=false) rfl rfl rfl ?_ ?_;exact tI)|refine R.yP rfl rfl rfl rfl ?_|refine R.yA rfl rfl rfl rfl ?_|refine R.CJ (λ_ _ _=>Bo rfl rfl rfl (Gc a ha) rfl) rfl rfl ?_|refine R.CJ (λ_ _ _=>Bo rfl rfl rfl (Gc p hp) rfl) rfl rfl ?_ )));refine R.SF ?_;apply aS;refine Al.freeze [0,1,2] [(4,.o (.ip [.p (AT a)])),(5,.o (.ip (AT p))),(8,.o (.ip (Hy l))),(9,eI .i64 (Bu l)),(10,.o (.ip [.l (Gd a)])),(11,.o (.ip [.l (Gd p)]))] ⟨⟨_,rfl,.AM⟩,⟨_,rfl,.AM⟩,⟨_,rfl,.o (.ptr (by simp) rfl rfl rfl)⟩,⟨_,rfl,.AM⟩,⟨_,rfl,.o (.ptr (by simp) rfl rfl rfl)⟩,⟨_,rfl,.o (.ptr (by simp) rfl rfl rfl)⟩,trivial⟩ ?_;refine R.SL [(0,2),(1,2),(2,2),(3,2),(4,3),(5,3),(6,5),(7,5)] mixed (by kernel_rfl) rfl (by kernel_rfl) ?_;(repeat ((refine R.Ai rfl ?_;first|(refine R.yQ (md:=false) rfl rfl rfl ?_ ?_;exact tI)|refine R.yP rfl rfl rfl rfl ?_|refine R.yA rfl rfl rfl rfl ?_ )));refine R.SF ?_;apply aS;simp only[Yu];refine Al.freeze [3,4] [(4,.o (.ip [.p (AT a)])),(5,.o (.ip (AT p))),(8,.o (.ip (Hy l))),(9,eI .i64 (Bu l)),(10,.o (.ip [.l (Gd a)])),(11,.o (.ip [.l (Gd p)])),(12,.o (.ip [iD a.nx.length])),(13,.o (.ip [iD p.nx.length]))] ⟨⟨_,rfl,.AM⟩,⟨_,rfl,.AM⟩,⟨_,rfl,.AM⟩,⟨_,rfl,.AM⟩,⟨_,rfl,.AM⟩,⟨_,rfl,.AM⟩,⟨_,rfl,.o (.ptr (by simp) rfl rfl rfl)⟩,⟨_,rfl,.o (.ptr (by simp) rfl rfl rfl)⟩,trivial⟩ ?_;(repeat first|refine tA rfl ?_|refine aU rfl ?_|apply Aa);refine rG (GI []) (by kernel_rfl) ?_;(repeat first|(refine sA rfl ?_ ?_;first|exact tI|omega)|refine sP rfl (cL l b d) rfl ?_|refine sP rfl (Cq _) rfl ?_|refine sP rfl (i) rfl ?_|apply Aa);refine aR ⟨_,rfl,rfl⟩
theorem Pk[Dy TB](l:List Sys)(p:AI)(h:AZ l=true)(hp:AJ p=true) :
 Pure Tryz.prog TB 103 [Hn l,.o (.d (.v (.pointer none))),Bp p] (Mr (DH (gI l Pf p (Ab (GY .i64 (Bu l) Pf.al))))):=by
 obtain⟨a,f⟩:∃a,a=Pf:=⟨_,rfl⟩
 have ha:AJ a=true:=by rw[f];exact kI
 rw [<-f];have c:=h;unfold AZ at c;simp only[d4,decide_eq_true_eq,ge]at c;obtain⟨⟨y,e⟩,b⟩:=c;have q:=nV (ls:=Ab (GY .i64 (Bu l) a.al)) b e ha hp;have z:=mS (x:=GY .i64 (Bu l) a.al) b e ha hp;have j:=J7 b e;have A:=Cu ha;have t:=Cu hp;have k:Pure Tryz.prog TB 95 [eI .i64 (Av (l.map (·.st))*a.nx.length*p.nx.length),Aj [0],Aj (Ab (GY .i64 (Bu l) a.al)),.o (.fn 162 [.ip [.l (Gd a)],.ip [iD p.nx.length],.ip [iD a.nx.length],.ip [.l (Gd p)],.ip (Hy l)]),.o (.fn 164 [.ip [.p (AT a)],.ip [iD p.nx.length],.ip [iD a.nx.length],.ip (AT p)])]
  (Mr (DH (gI l a p (Ab (GY .i64 (Bu l) a.al))))):=by
  rw[<-q.1];refine Mt z q.2.2 (λx g=>by have:=Af g;omega) (AA _ 6) (λnode x i g=>?_) (λnode x outs i g u=>?_) (λn i=>?_) rfl (λr=>rfl) (λr=>rfl) (DJ _)
  .have m:=Af g
   have B:=(RL b e ha hp i.1 m.1 (by omega)).2;have H:Av (l.map (·.st))*1<=Av (l.map (·.st))*a.nx.length:=uB (by omega) (by omega);have G:Av (l.map (·.st))*a.nx.length*1<=Av (l.map (·.st))*a.nx.length*p.nx.length:=uB (by omega) (by omega);have F:(((gI l a p (Ab (GY .i64 (Bu l) a.al))).succ node x).length:Int)<=Av (l.map (·.st)):=B;omega
  .have m:=Af g
   exact Xv b e ha hp node x i.1 (by omega) m.1 (by omega) outs u
  .exact WR ha hp n i.1 (by omega)
 have w:0<=Av (l.map (·.st))*a.nx.length/\Av (l.map (·.st))*a.nx.length<=49152:=⟨uK (by omega) (by omega),by
  have:Av (l.map (·.st))*a.nx.length<=4096*12:=uF j.2 (by omega) (by omega) (by omega)
  omega⟩
 refine eN Tryz.func103 rfl (by kernel_rfl) rfl ?_;intro Γ s;(repeat first|refine aU rfl ?_);(refine pB rfl ?_);(refine Ai rfl ?_;refine CJ (λ_ _=>C9 rfl rfl rfl) rfl ?_);(repeat first|refine tM rfl ?_|refine sP rfl (OR l b e) rfl ?_|refine sP rfl (Gw l) rfl ?_|refine aU rfl ?_|apply Aa);(refine aC rfl ?_ ?_<;>rintro⟨⟩);(repeat first|refine tA rfl ?_|refine sV rfl rfl (by rfl) (by rfl) ?_|refine aU rfl ?_|apply Aa);refine Al.freeze [0,1] [(4,.o (.ip [.p (AT a)])),(5,.o (.ip (AT p))),(8,.o (.ip (Hy l))),(9,eI .i64 (Bu l))] ⟨⟨_,rfl,.o (.ptr (by simp) rfl rfl (by rw[f];rfl))⟩,⟨_,rfl,.AM⟩,⟨_,rfl,.o (.ptr (by simp) rfl rfl rfl)⟩,⟨_,rfl,.AM⟩,trivial⟩ ?_;refine R.SL [(0,2),(1,2),(2,2),(3,2),(4,2),(5,2),(6,3),(7,3),(8,5),(9,5)] mixed (by kernel_rfl) rfl (by kernel_rfl) ?_;(repeat ((refine R.Ai rfl ?_;first|(refine R.yQ (md:=false) rfl rfl rfl ?_ ?_;exact tI)|refine R.yP rfl rfl rfl rfl ?_|refine R.yA rfl rfl rfl rfl ?_|refine R.CJ (λ_ _ _=>Bo rfl rfl rfl (Gc a ha) rfl) rfl rfl ?_|refine R.CJ (λ_ _ _=>Bo rfl rfl rfl (Gc p hp) rfl) rfl rfl ?_ )));refine R.SF ?_;apply aS;refine Al.freeze [2,3] [(4,.o (.ip [.p (AT a)])),(5,.o (.ip (AT p))),(8,.o (.ip (Hy l))),(9,eI .i64 (Bu l)),(10,.o (.ip [.l (Gd a)])),(11,.o (.ip [.l (Gd p)]))] ⟨⟨_,rfl,.AM⟩,⟨_,rfl,.AM⟩,⟨_,rfl,.AM⟩,⟨_,rfl,.AM⟩,⟨_,rfl,.o (.ptr (by simp) rfl rfl rfl)⟩,⟨_,rfl,.o (.ptr (by simp) rfl rfl rfl)⟩,trivial⟩ ?_;refine R.SL [(0,2),(1,2),(2,2),(3,2),(4,3),(5,3),(6,5),(7,5)] mixed (by kernel_rfl) rfl (by kernel_rfl) ?_;(repeat ((refine R.Ai rfl ?_;first|(refine R.yQ (md:=false) rfl rfl rfl ?_ ?_;exact tI)|refine R.yP rfl rfl rfl rfl ?_|refine R.yA rfl rfl rfl rfl ?_ )));refine R.SF ?_;apply aS;simp only[Yu];refine Al.freeze [4,5] [(4,.o (.ip [.p (AT a)])),(5,.o (.ip (AT p))),(8,.o (.ip (Hy l))),(9,eI .i64 (Bu l)),(10,.o (.ip [.l (Gd a)])),(11,.o (.ip [.l (Gd p)])),(12,.o (.ip [iD a.nx.length])),(13,.o (.ip [iD p.nx.length]))] ⟨⟨_,rfl,.AM⟩,⟨_,rfl,.AM⟩,⟨_,rfl,.AM⟩,⟨_,rfl,.AM⟩,⟨_,rfl,.AM⟩,⟨_,rfl,.AM⟩,⟨_,rfl,.o (.ptr (by simp) rfl rfl rfl)⟩,⟨_,rfl,.o (.ptr (by simp) rfl rfl rfl)⟩,trivial⟩ ?_;(repeat first|refine tA rfl ?_|refine aU rfl ?_|apply Aa);refine rG (GI []) (by kernel_rfl) ?_;(repeat first|(refine sA rfl ?_ ?_;first|exact tI|omega)|refine sP rfl (cL l b e) rfl ?_|refine sP rfl (Cq _) rfl ?_|refine sP rfl (k) rfl ?_|apply Aa);refine aR ⟨_,rfl,rfl⟩
abbrev fp(n:UInt8):List D:=[.v (.int .u8 n.toNat)]
abbrev c6(l:List UInt8):D:=.l (l.map fp)
abbrev Cr(b:List UInt8)(p:Int):O:=.cells 98 2 [[.d (c6 b),.d (iD p)]]
theorem gP{a b:Nat}(ha:a<2 ^ 62)(hb:b<2 ^ 62):Zc .i64 a b=((a ^^^ b:Nat):Int):=by
 unfold Zc
 have d:(BitVec.ofInt IntKind.i64.bits (a:Int)).toNat=a:=by
  rw[BitVec.toNat_ofInt];have:IntKind.i64.bits=64:=rfl;rw[this];omega
 have c:(BitVec.ofInt IntKind.i64.bits (b:Int)).toNat=b:=by
  rw[BitVec.toNat_ofInt];have:IntKind.i64.bits=64:=rfl;rw[this];omega
 rw[BitVec.toNat_xor,d,c];have e:a ^^^ b<2 ^ 62:=Nat.xor_lt_two_pow ha hb;exact IntWalk.i64_in _ (by omega)
theorem k9{x y:Int}(d:0<=x/\x<4611686018427387904)(c:0<=y/\y<4611686018427387904):0<=Zc .i64 x y/\Zc .i64 x y<4611686018427387904:=by
 obtain⟨a,rfl⟩:∃a:Nat,x=a:=⟨x.toNat,by omega⟩
 obtain⟨b,rfl⟩:∃b:Nat,y=b:=⟨y.toNat,by omega⟩
 rw[gP (by omega) (by omega)];have e:a ^^^ b<2 ^ 62:=Nat.xor_lt_two_pow (by omega) (by omega);omega
theorem Zj(b:List UInt8)(hb:b.length<=9223372036854775807):∃b':List UInt8,b'.length<=2000/\AE Tryz.prog TB 28 0 [] 0 [.o (.d (c6 b))] (λx σ nx=>x=.o (.ptr 0 2 0 0)/\σ=[(0,Cr b' 0)]/\nx=1):=by
 by_cases h:b.length<=2000
 .refine⟨b,h,?_⟩
  refine AE.PM (m:=0) (co rfl) Tryz.func28 rfl (by kernel_rfl) (co rfl) ?_;intro Γ c;(repeat first|refine sN rfl ?_|refine tX rfl ?_|refine s2 rfl λ_ a=>?_|refine aU rfl ?_|apply Aa)
  ((refine aC rfl ?_ ?_<;>rintro⟨⟩);all_goals try (simp at a;done))
  .exfalso;(simp only[oZ] at *;omega)
  apply aK;(repeat first|refine tX rfl ?_|refine sV rfl rfl (by rfl) (by rfl) ?_|refine aU rfl ?_);(refine pB rfl ?_);(repeat first|refine tX rfl ?_|apply Aa);refine aR ⟨_,rfl,rfl,rfl,rfl⟩
 .refine⟨b.take 2000,by simp;omega,?_⟩
  have e:(b.map fp).take (2000:Int).toNat=(b.take 2000).map fp:=by simp[xt]
  refine AE.PM (m:=0) (co rfl) Tryz.func28 rfl (by kernel_rfl) (co rfl) ?_;intro Γ c;(repeat first|refine sN rfl ?_|refine tX rfl ?_|refine s2 rfl λ_ a=>?_|refine aU rfl ?_|apply Aa)
  ((refine aC rfl ?_ ?_<;>rintro⟨⟩);all_goals try (simp at a;done))
  ·(repeat first|refine tX rfl ?_|(refine Ai rfl ?_;refine gA rfl ?_;first|refine gS (λ_ _=>PU rfl rfl (by simp) (by omega) (by simp;omega)) ?_)|refine aU rfl ?_|apply Aa)
   rw[e];(repeat first|refine sV rfl rfl (by rfl) (by rfl) ?_);(refine pB rfl ?_);(repeat first|refine tX rfl ?_|apply Aa);refine aR ⟨_,rfl,rfl,rfl,rfl⟩
  .exfalso;(simp only[oZ] at *;omega)
theorem Bi(b:List UInt8)(hb:b.length<=2000)(p n:Int)(J:0<=p/\p<1000000000):∃k:Int,0<=k/\(k=0\/k<n)/\Spec Tryz.prog TB 46 [(0,Cr b p)] 1 [.o (.ptr 0 2 0 0),eI .i64 n] (λx σ nx=>x=eI .i64 k/\σ=[(0,Cr b (p+1))]/\nx=1):=by
 by_cases H:n<1\/b.length=0
 .refine⟨0,by omega,.inl rfl,?_⟩
  refine eR Tryz.func46 rfl (by kernel_rfl) rfl ?_;intro Γ a;(repeat' first|refine sN rfl ?_|(refine sA rfl ?_ ?_;first|exact tI|omega|simp only[oZ] at *;omega)|refine s2 rfl λ_ e=>?_|refine s3 rfl ?_ ?_<;>rintro rfl|refine aV rfl ?_|apply Aa|refine rE (by kernel_rfl) ?_|(refine aC rfl ?_ ?_<;>rintro⟨⟩)|refine aR ⟨_,rfl,?_⟩)
  all_goals first
   | (exfalso;(simp only[oZ] at *;omega);done)
   | refine⟨[0],eI .i64 0,[(0,Cr b (p+1))],iB rfl,rfl,by (simp[cX,zC,a]),rfl,rfl,rfl⟩
 have I:0<b.length:=by omega
 have m:0<n:=by omega
 by_cases hp:p<b.length
 .obtain⟨c,j⟩:=get_some (l:=b) (k:=(p+1-1).toNat) (by omega)
  have i:=get_map (g:=fp) j;have h:=c.toNat_lt;refine⟨(c.toNat:Int)%n,uY _ (by omega),.inr (uQ _ m),?_⟩;refine eR Tryz.func46 rfl (by kernel_rfl) rfl ?_;intro Γ a;(repeat' first|refine sN rfl ?_|(refine sA rfl ?_ ?_;first|exact tI|omega)|(refine s4 rfl ‹_› rfl ?_ ?_;omega)|refine s2 rfl λ_ e=>?_|refine s3 rfl ?_ ?_<;>rintro rfl|refine aV rfl ?_|apply Aa|refine rE (by kernel_rfl) ?_|(refine aC rfl ?_ ?_<;>rintro⟨⟩)|refine aR ⟨_,rfl,?_⟩)
  all_goals first
   | (exfalso;(simp only[oZ] at *;omega);done)
   | refine⟨[0],_,[(0,Cr b (p+1))],iB rfl,rfl,by (simp[cX,zC,a]),rfl,rfl,rfl⟩
 .have f:(0:Int)<b.length:=by omega
  have G:=uY (p+1-1) (show (b.length:Int)≠0 by omega);have F:=uQ (p+1-1) f;have B:=uY ((p+1-1)*7+3) (show (b.length:Int)≠0 by omega);have A:=uQ ((p+1-1)*7+3) f;obtain⟨c,j⟩:=get_some (l:=b) (k:=((p+1-1)%(b.length:Int)).toNat) (by omega);have i:=get_map (g:=fp) j;have h:=c.toNat_lt;obtain⟨d,t⟩:=get_some (l:=b) (k:=(((p+1-1)*7+3)%(b.length:Int)).toNat) (by omega);have s:=get_map (g:=fp) t;have r:=d.toNat_lt;have z:0<=(p+1-1) / (b.length:Int):=vW (by omega) (by omega);have w:(p+1-1) / (b.length:Int)<=p+1-1:=vP _ (by omega)
  obtain⟨x,q⟩:∃x,x=(c.toNat:Int)*131+(d.toNat:Int)*1117+(p+1-1)*29+(p+1-1) / (b.length:Int)*53:=⟨_,rfl⟩
  have v:0<=x/\x<1000000000000:=by omega
  have u:=k9 (x:=x) (y:=x / 64) (by omega) (by omega);refine⟨Zc .i64 x (x / 64)%n,uY _ (by omega),.inr (uQ _ m),?_⟩;refine eR Tryz.func46 rfl (by kernel_rfl) rfl ?_;intro Γ a;(repeat' first|refine sN rfl ?_|(refine sA rfl ?_ ?_;first|exact tI|omega)|(refine s4 rfl ‹_› rfl ?_ ?_;omega)|(refine s2 rfl λ_ e=>?_;try (simp only[uW,uX]at e;subst e))|(refine Ai rfl ?_;refine gA rfl ?_;first|refine gS (λ_ _=>q8 rfl rfl rfl) ?_)|refine s3 rfl ?_ ?_<;>rintro rfl|refine aU rfl ?_|apply Aa|refine rE (by kernel_rfl) ?_|(refine aC rfl ?_ ?_<;>rintro⟨⟩)|apply aK|refine aR ⟨_,rfl,?_⟩|(rw[<-q]))
  all_goals first
   | (exfalso;(simp only[oZ] at *;omega);done)
   | refine⟨[0],_,[(0,Cr b (p+1))],iB rfl,rfl,by (simp[cX,zC,a]),rfl,rfl,rfl⟩
theorem Di(b:List UInt8)(hb:b.length<=2000)(p:Int)(j:0<=p/\p<1000000000)(l:List Int)(r:0<l.length)(i:l.length<1000000):∃k∈l,Spec Tryz.prog TB 88 [(0,Cr b p)] 1 [.o (.ptr 0 2 0 0),Aj l] (λx σ nx=>x=eI .i64 k/\σ=[(0,Cr b (p+1))]/\nx=1):=by
 obtain⟨k,q,n,h⟩:=Bi (TB:=TB) b hb p l.length j;obtain⟨x,c⟩:=get_some (l:=l) (k:=k.toNat) (by omega);have f:=get_map (g:=A9) c;refine⟨x,ce c,?_⟩;refine eR Tryz.func88 rfl (by kernel_rfl) rfl ?_;intro Γ a;(repeat first|refine sN rfl ?_|refine tA rfl ?_|refine aU rfl ?_|apply Aa);(refine pC [0] rfl (h) rfl rfl (by simp[cX,zC,a]) ?_;rintro m d e ⟨rfl,rfl,rfl⟩ _);(repeat first|refine tA rfl ?_|(refine s4 rfl ‹_› rfl ?_ ?_;omega)|apply Aa);refine aR ⟨_,rfl,?_⟩;refine⟨[0],_,[(0,Cr b (p+1))],iB rfl,rfl,by (simp[cX,zC,a]),rfl,rfl,rfl⟩
theorem qD(b:List UInt8)(hb:b.length<=2000)(p:Int)(j:0<=p/\p<1000000000)(l:List W)(r:0<l.length)(i:l.length<1000000):∃k∈l,Spec Tryz.prog TB 109 [(0,Cr b p)] 1 [.o (.ptr 0 2 0 0),BQ l] (λx σ nx=>x=eT k/\σ=[(0,Cr b (p+1))]/\nx=1):=by
 obtain⟨k,q,n,h⟩:=Bi (TB:=TB) b hb p l.length j;obtain⟨x,c⟩:=get_some (l:=l) (k:=k.toNat) (by omega);have f:=get_map (g:=CU) c;refine⟨x,ce c,?_⟩;refine eR Tryz.func109 rfl (by kernel_rfl) rfl ?_;intro Γ a;(repeat first|refine sN rfl ?_|refine tA rfl ?_|refine aU rfl ?_|apply Aa);(refine pC [0] rfl (h) rfl rfl (by simp[cX,zC,a]) ?_;rintro m d e ⟨rfl,rfl,rfl⟩ _);(repeat first|refine tA rfl ?_|(refine s4 rfl ‹_› rfl ?_ ?_;omega)|apply Aa);refine aR ⟨_,rfl,?_⟩;refine⟨[0],_,[(0,Cr b (p+1))],iB rfl,rfl,by (simp[cX,zC,a]),rfl,rfl,rfl⟩
abbrev Y8(al:Int)(i j:Nat)(n m:Nat):E:=.a [.d (iD al),.arr i 1 0 n,.arr j 1 0 m]
def VP(b:List UInt8)(al p n:Int)(x:E)(σ:Ac)(nx:Nat):Prop:=∃(p':Int) (l:JF) (ac:List Bool),(p<=p'/\p'<=p+7*n)/\(l.length:Int)=n/\ac.length=l.length/\(∀x∈l,x.2.length=(Ab al).length)/\
 x=Y8 al 1 2 l.length ac.length/\σ=[(0,Cr b p'),(1,.cells 63 1 (AN l)),(2,.cells 4 1 (ac.map AO)),(3,.sld 3 (sI l))]/\nx=4
theorem ON(b:List UInt8)(hb:b.length<=2000)(p:Int)(P:0<=p/\p<900000000)(al n:Int)(N:0<=n/\n<1000):AE Tryz.prog TB 107 1 [(0,Cr b p)] 1 [.o (.ptr 0 2 0 0),eI .i64 al,eI .i64 n] (VP b al p n):=by
 have J:(Ab al).length<=6:=AA al 6;refine AE.A6 (AE.PM (m:=1) (co rfl) Tryz.func107 rfl (by kernel_rfl) (co rfl) ?_);intro Γ a;(repeat first|refine tA rfl ?_|refine aU rfl ?_|apply Aa);(refine pW rfl ?_ rfl (by rfl);refine IB 1 1 63 2 1 4 rfl rfl (by decide) rfl rfl (by rfl) (by rfl) ?_);(repeat first|refine sN rfl ?_|refine tA rfl ?_|refine sP rfl (Cp al) rfl ?_|refine aU rfl ?_|apply Aa);apply aB;refine Al.jR 3 ?_;refine aL (α:={s:Nat×Int×JF×List Bool // (s.1:Int)<=n/\(p<=s.2.1/\s.2.1<=p+7*s.1)/\s.2.2.1.length=s.1/\s.2.2.2.length=s.1/\∀x∈s.2.2.1,x.2.length=(Ab al).length}) [0,2,6,7,8] [1] rfl rfl (λs=>[(9,eI .i64 s.1.1)]) (λs=>[(0,Cr b s.1.2.1),(2,.cells 63 1 (AN s.1.2.2.1)),(3,.cells 4 1 (s.1.2.2.2.map AO)),(4,.cells 29 3 [[.d (iD al),.arr 2 1 0 s.1.2.2.1.length,.arr 3 1 0 s.1.2.2.2.length]]),(5,.sld 3 (sI s.1.2.2.1))]) 6 (λs=>n.toNat-s.1.1) (⟨⟨0,p,[],[]⟩,by simp;omega⟩) a rfl (by (simp[cX,zC,a]<;>rfl)) ?_;rintro⟨⟨k,q,l,ac⟩,hk,B,F,h,y⟩;(try dsimp only[cA,cB]);have hk:(k:Int)<=n:=hk;have B:p<=q/\q<=p+7*k:=B;have F:l.length=k:=F;have h:ac.length=k:=h;(repeat first|refine tM rfl ?_|refine s2 rfl λ_ e=>?_|refine aU rfl ?_|apply Aa)
 ((refine aC rfl ?_ ?_<;>rintro⟨⟩);all_goals try (simp at e;done))
 .have I:(k:Int)<n:=by (simp only[oZ] at *;omega)
  apply aK;refine aS (aB ?_);(repeat first|refine aU rfl ?_);(refine pB rfl ?_);(repeat first|refine tX rfl ?_|refine aU rfl ?_|apply Aa);apply aB;refine aL (α:={s:Nat×Int×List Int // s.1<=(Ab al).length/\(q<=s.2.1/\s.2.1<=q+s.1)/\s.2.2.length=s.1}) [0,2,6,7,8,9] [1,2,3,4,5] rfl rfl (λs=>[(10,.o (.arr 6 1 0 s.1.2.2.length)),(11,eI .i64 s.1.1)]) (λs=>[(0,Cr b s.1.2.1),(6,.cells 3 1 (s.1.2.2.map Au))]) 7 (λs=>(Ab al).length-s.1.1) (⟨⟨0,q,[]⟩,by simp⟩) a rfl (by (simp[cX,zC,a,XK])) ?_;rintro⟨⟨j,u,xs⟩,G,z,f⟩;(try dsimp only[cA,cB]);have G:j<=(Ab al).length:=G;have z:q<=u/\u<=q+j:=z;have f:xs.length=j:=f;(repeat first|refine tM rfl ?_|refine s2 rfl λ_ e=>?_|refine aU rfl ?_|apply Aa)
  ((refine aC rfl ?_ ?_<;>rintro⟨⟩);all_goals try (simp at e;done))
  .obtain⟨c,M,L,hp⟩:=Bi (TB:=TB) b hb u n (by omega)
   apply aK;refine aS (aB ?_);(repeat first|refine tA rfl ?_|refine aU rfl ?_);(refine pC [0] rfl (hp) rfl rfl (by simp[cX,zC,a]) ?_;rintro H i t ⟨rfl,rfl,rfl⟩ _);(repeat first|refine tA rfl ?_);(refine pA rfl (by simp) (by simp;omega) ?_);(repeat first|(refine sA rfl ?_ ?_;first|exact tI|omega)|refine aU rfl ?_|apply Aa);refine⟨⟨⟨j+1,u+1,xs++[c]⟩,by simp;(simp only[oZ] at *;omega)⟩,by dsimp only;((simp only[oZ] at *;omega)),[0,1,2,3,4,5,7],?_⟩;(simp[cX,zC,a,cN]<;>rfl)
  .obtain rfl:j=(Ab al).length:=by (simp only[oZ] at *;omega)
   obtain⟨c,M,L,hp⟩:=Bi (TB:=TB) b hb u 3 (by omega);apply aE;(repeat first|refine tX rfl ?_|refine aU rfl ?_);(refine pB rfl ?_);(refine pW rfl ?_ rfl (by rfl);refine BY rfl rfl rfl (CO _) rfl (by intro r A;simp at A;subst A;rfl) (by rfl) (co rfl) (by simp;omega) ?_);(repeat first|refine tX rfl ?_|apply Aa);refine Al.Vi 8 6 5 l xs rfl rfl rfl λv=>?_;refine rG (Nz [(1,14),(3,1016),(6,1),(8,1)]) (by kernel_rfl) ?_;(repeat first|refine tA rfl ?_);(refine Ai rfl ?_;refine C8 ?_ rfl ⟨rfl,rfl⟩;refine BE [0] rfl rfl (hp) ⟨rfl,by decide,by decide⟩ rfl (by simp[cX,zC,a,cN]) ?_;rintro H i t ⟨rfl,rfl,rfl⟩ _;refine⟨FA 4 rfl rfl,?_⟩);(repeat first|refine tA rfl ?_|refine s2 rfl λ_ e=>?_);(refine pA rfl (by simp) (by simp;omega) ?_);(repeat first|(refine sA rfl ?_ ?_;first|exact tI|omega)|refine aU rfl ?_|apply Aa);subst e
   have w:∀x∈l++[(v,xs)],x.2.length=(Ab al).length:=λx g=>by
    rcases f7.1 g with g|g
    .exact y x g
    .simp at g;subst g;exact f
   refine⟨⟨⟨k+1,u+1,l++[(v,xs)],ac++[decide (c > 0)]⟩,by dsimp only;omega,by dsimp only;omega,by simp;omega,by simp;omega,w⟩,by dsimp only;(omega),[0,1,8,9,4,5],?_⟩;(simp[cX,zC,a,cN]<;>rfl)
 .have K:(k:Int)=n:=by (simp only[oZ] at *;omega)
  apply aE;(repeat first|refine tA rfl ?_|refine aU rfl ?_|apply Aa);refine aR ⟨_,rfl,[0,2,3,5],Y8 al 1 2 l.length ac.length,[(0,Cr b q),(1,.cells 63 1 (AN l)),(2,.cells 4 1 (ac.map AO)),(3,.sld 3 (sI l))],iB rfl,rfl,by (simp[cX,zC,a,cN]),q,l,ac,by omega,by omega,by omega,y,rfl,rfl,rfl⟩
theorem N8(b:List UInt8)(hb:b.length<=2000)(p:Int)(N:0<=p/\p<900000000)(al n:Int)(R:1<=n/\n<1000):AE Tryz.prog TB 106 1 [(0,Cr b p)] 1 [.o (.ptr 0 2 0 0),eI .i64 al,eI .i64 n] (VP b al p n):=by
 have I:(Ab al).length<=6:=AA al 6;refine AE.A6 (AE.PM (m:=1) (co rfl) Tryz.func106 rfl (by kernel_rfl) (co rfl) ?_);intro Γ a;(repeat first|refine tA rfl ?_|refine aU rfl ?_|apply Aa);(refine pK [0] 1 rfl (ON b hb p N al n (by omega)) rfl rfl (by simp[cX,zC,a]) ?_;rintro P G H ⟨q,l,ac,Q,S,J,B,rfl,rfl,rfl⟩ _);(repeat first|refine tA rfl ?_|refine aU rfl ?_|apply Aa);apply aB;refine aL (α:={s:Nat×List Bool // (s.1:Int)<=n/\s.2.length=l.length}) [2,6,7] [1] rfl rfl (λs=>[(8,eI .i64 s.1.1)]) (λs=>[(0,Cr b q),(2,.cells 63 1 (AN l)),(4,.sld 3 (sI l)),(3,.cells 4 1 (s.1.2.map AO)),(5,.cells 29 3 [[.d (iD al),.arr 2 1 0 l.length,.arr 3 1 0 s.1.2.length]])]) 6 (λs=>n.toNat-s.1.1) (⟨⟨0,ac⟩,by simp;omega⟩) a rfl (by (simp[cX,zC,a,cN])) ?_;rintro⟨⟨k,bc⟩,hk,i⟩;(try dsimp only[cA,cB]);have hk:(k:Int)<=n:=hk;have i:bc.length=l.length:=i;(repeat first|refine tM rfl ?_|refine s2 rfl λ_ e=>?_|refine aU rfl ?_|apply Aa)
 ((refine aC rfl ?_ ?_<;>rintro⟨⟩);all_goals try (simp at e;done))
 .have w:(k:Int)<n:=by (simp only[oZ] at *;omega)
  obtain⟨c,A⟩:=get_some (l:=bc) (k:=0+(k:Int).toNat) (by omega);have z:=get_map (g:=AO) A;apply aK;refine aS (aB ?_);(repeat first|(refine sA rfl ?_ ?_;first|exact tI|omega)|refine t4 rfl ‹_› rfl ?_|refine s2 rfl λ_ e=>?_|refine aU rfl ?_|apply Aa);subst e;refine⟨⟨⟨k+1,bc.set k (decide ((k:Int)<n-1))⟩,by dsimp only;omega,by simp;omega⟩,by dsimp only;(omega),[0,1,2,3,4,5],?_⟩;(simp[cX,zC,a,cN,vd,Ae,eC]<;>rfl)
 obtain⟨K,M⟩:∃K:Nat,(K:Int)=n-1:=⟨(n-1).toNat,by omega⟩
 obtain⟨y,t⟩:=get_some (l:=l) (k:=K) (by omega);apply aE;(repeat first|refine tA rfl ?_|refine aU rfl ?_|apply Aa);apply aB;refine Al.pc 2 4 l K y t rfl rfl ?_;have r:y.2.length=(Ab al).length:=B y (ce t)
 have L:((AN l).set K [.arr 6 1 0 y.2.length])[0+(n-1).toNat]?=some [.arr 6 1 0 y.2.length]:=by
  rw[<-M,lm,f6,uM (by rw[CO];omega)]
 refine aL (α:={s:Nat×List Int // s.1<=y.2.length/\s.2.length=y.2.length}) [2,6,7] [0,1,2,3,4,5] rfl rfl (λs=>[(9,eI .i64 s.1.1)]) (λs=>[(6,.cells 3 1 (s.1.2.map Au))]) 7 (λs=>y.2.length-s.1.1) (⟨⟨0,y.2⟩,by simp⟩) a rfl (by (simp[cX,zC,a,cN])) ?_;rintro⟨⟨j,ys⟩,F,f⟩;(try dsimp only[cA,cB]);have F:j<=y.2.length:=F;have f:ys.length=y.2.length:=f;(repeat first|(refine sA rfl ?_ ?_;first|exact tI|omega)|refine t4 rfl ‹_› rfl ?_|refine s2 rfl λ_ e=>?_|refine aU rfl ?_|apply Aa)
 ((refine aC rfl ?_ ?_<;>rintro⟨⟩);all_goals try (simp at e;done))
 .have w:j<y.2.length:=by (simp only[oZ] at *;omega)
  obtain⟨c,A⟩:=get_some (l:=ys) (k:=0+(j:Int).toNat) (by omega);have z:=get_map (g:=Au) A;apply aK;refine aS (aB ?_);(repeat first|(refine sA rfl ?_ ?_;first|exact tI|omega)|refine t4 rfl ‹_› rfl ?_|refine aU rfl ?_|apply Aa);refine⟨⟨⟨j+1,ys.set j (n-1)⟩,by dsimp only;omega,by simp;omega⟩,by dsimp only;(omega),[0,1,2,3,4,5,6],?_⟩;(simp[cX,zC,a,cN,vd,Ae,eC]<;>rfl)
 apply aE;refine Al.putAt 2 6 4 l K y t ys (by rw[f];rfl) rfl rfl λv=>?_;(repeat first|refine tA rfl ?_|refine aU rfl ?_|apply Aa)
 have u:∀x∈l.set K (v,ys),x.2.length=(Ab al).length:=λx h=>by
  rcases List.mem_or_eq_of_mem_set h with h|h
  .exact B x h
  .subst h;exact f.trans r
 refine aR ⟨_,rfl,[0,2,3,4],Y8 al 1 2 (l.set K (v,ys)).length bc.length,[(0,Cr b q),(1,.cells 63 1 (AN (l.set K (v,ys)))),(2,.cells 4 1 (bc.map AO)),(3,.sld 3 (sI (l.set K (v,ys))))],iB rfl,by rw[uw];rfl,by (simp[cX,zC,a,cN]),q,l.set K (v,ys),bc,by omega,by rw[uw];omega,by rw[uw];omega,u,rfl,rfl,rfl⟩
structure LX (m:Nat) (a:AI):Prop where
 nx:a.nx.length<=m
 ac:a.ac.length<=m
 row:∀r∈a.nx,r.length<=m
def Ma(b:List UInt8)(p w:Int)(Q:AI->Prop)(x:E)(σ:Ac)(nx:Nat):Prop:=∃(p':Int) (a:AI),(p<=p'/\p'<=p+w)/\Q a/\x=Bp a/\σ=[(0,Cr b p')]/\nx=1
theorem UY{al:Int}{l:JF}{ac:List Bool}{n:Int}{m:Nat}(h:(l.length:Int)=n)(g:ac.length=l.length)(d:∀x∈l,x.2.length=(Ab al).length)(e:n<=m)(f:6<=m):LX m ⟨al,l.map (·.2),ac⟩:=by
 have c:(Ab al).length<=6:=AA al 6;refine⟨by simp;omega,by simp;omega,λr b=>?_⟩;obtain⟨x,a,rfl⟩:=d8.1 b;have:=d x a;omega
theorem Tx(b:List UInt8)(hb:b.length<=2000)(p:Int)(F:0<=p/\p<800000000)(al:Int):Spec Tryz.prog TB 45 [(0,Cr b p)] 1 [.o (.ptr 0 2 0 0),eI .i64 al] (Ma b p 50 (λa=>a.al=al/\LX 6 a)):=by
 obtain⟨c,H,G,hp⟩:=Bi (TB:=TB) b hb p 2 (by omega);obtain⟨k,v,x⟩:=Di (TB:=TB) b hb (p+1) (by omega) [3,2,4,1] (by decide) (by decide);obtain⟨j,t,w⟩:=Di (TB:=TB) b hb (p+1) (by omega) [2,3,1,4,5] (by decide) (by decide)
 have u:1<=k/\k<=5:=by simp at v;omega
 have r:1<=j/\j<=5:=by simp at t;omega
 have A:=N8 (TB:=TB) b hb (p+1+1) (by omega) al k (by omega);have z:=ON (TB:=TB) b hb (p+1+1) (by omega) al j (by omega);refine eR Tryz.func45 rfl (by kernel_rfl) rfl ?_;intro Γ e;(repeat first|refine tA rfl ?_|refine aU rfl ?_|apply Aa);(refine pC [0] rfl (hp) rfl rfl (by simp[cX,zC,e]) ?_;rintro i f g ⟨rfl,rfl,rfl⟩ _);(repeat first|refine s2 rfl λ_ B=>?_|apply Aa);(refine aC rfl ?_ ?_<;>rintro⟨⟩)
 ·(repeat first|refine tA rfl ?_|refine aU rfl ?_)
  (refine pC [0] rfl (x) rfl rfl (by simp[cX,zC,e]) ?_;rintro i f g ⟨rfl,rfl,rfl⟩ _);(refine pK [0] 1 rfl (A) rfl rfl (by simp[cX,zC,e,cN]) ?_;rintro i f g ⟨q,l,ac,y,n,h,m,rfl,rfl,rfl⟩ _);(repeat first|refine tA rfl ?_|apply Aa);refine Al.AQ [4] [] rfl rfl [] [(0,Cr b q),(1,.cells 29 3 [[.d (iD al),.arr 2 1 0 l.length,.arr 3 1 0 ac.length]]),(2,.cells 63 1 (AN l)),(3,.cells 4 1 (ac.map AO)),(4,.sld 3 (sI l))] [0,1,2,3,4] (rl e rfl) (by (simp[cX,zC,e,cN])) ?_;(try dsimp only[cA,cB]);refine Al.Bb [1,2,3,4] [(4,.o (.ip (AT ⟨al,l.map (·.2),ac⟩)))] ⟨⟨_,rfl,.inr (.o (.box rfl (.cons .d (.cons (.fD (s:=4) rfl rfl) (.cons (.full rfl (by simp[d6]) (by simp)) .nil)))))⟩,trivial⟩ ?_;refine aR ⟨_,rfl,[0],Bp ⟨al,l.map (·.2),ac⟩,[(0,Cr b q)],iB rfl,rfl,by (simp[cX,zC,e,cN]),q,_,by omega,⟨rfl,UY n h m (by omega) (by omega)⟩,rfl,rfl,rfl⟩
 .apply aK
  (repeat first|refine tA rfl ?_|refine aU rfl ?_);(refine pC [0] rfl (w) rfl rfl (by simp[cX,zC,e]) ?_;rintro i f g ⟨rfl,rfl,rfl⟩ _);(refine pK [0] 1 rfl (z) rfl rfl (by simp[cX,zC,e,cN]) ?_;rintro i f g ⟨q,l,ac,y,n,h,m,rfl,rfl,rfl⟩ _);(repeat first|refine tA rfl ?_|apply Aa);refine Al.AQ [4] [] rfl rfl [] [(0,Cr b q),(1,.cells 29 3 [[.d (iD al),.arr 2 1 0 l.length,.arr 3 1 0 ac.length]]),(2,.cells 63 1 (AN l)),(3,.cells 4 1 (ac.map AO)),(4,.sld 3 (sI l))] [0,1,2,3,4] (rl e rfl) (by (simp[cX,zC,e,cN])) ?_;(try dsimp only[cA,cB]);refine Al.Bb [1,2,3,4] [(4,.o (.ip (AT ⟨al,l.map (·.2),ac⟩)))] ⟨⟨_,rfl,.inr (.o (.box rfl (.cons .d (.cons (.fD (s:=4) rfl rfl) (.cons (.full rfl (by simp[d6]) (by simp)) .nil)))))⟩,trivial⟩ ?_;refine aR ⟨_,rfl,[0],Bp ⟨al,l.map (·.2),ac⟩,[(0,Cr b q)],iB rfl,rfl,by (simp[cX,zC,e,cN]),q,_,by omega,⟨rfl,UY n h m (by omega) (by omega)⟩,rfl,rfl,rfl⟩
def LY(a:AI)(x:E)(σ:Ac)(nx:Nat):Prop:=∃l:JF,l.map (·.2)=a.nx/\
 x=Y8 a.al 0 1 l.length a.ac.length/\σ=[(0,.cells 63 1 (AN l)),(1,.cells 4 1 (a.ac.map AO)),(2,.sld 3 (sI l))]/\nx=3
theorem Ky(a:AI)(ha:LX 1000000 a):AE Tryz.prog TB 79 0 [] 0 [Bp a] (LY a):=by
 have q:=ha.nx;have p:=ha.ac;refine AE.A6 (AE.PM (m:=0) (co rfl) Tryz.func79 rfl (by kernel_rfl) (co rfl) ?_);intro Γ b;(repeat first|refine tA rfl ?_|refine aU rfl ?_|apply Aa);refine R.SL [(0,2),(1,2),(3,2),(4,2),(7,3),(2,1),(5,1),(6,1),(8,5)] mixed (by kernel_rfl) rfl (by kernel_rfl) ?_;(repeat ((refine R.Ai rfl ?_;first|(refine R.yQ (md:=false) rfl rfl rfl ?_ ?_;exact tI)|refine R.yP rfl rfl rfl rfl ?_ )));(refine R.Ai rfl ?_;refine R.Lc (λ_=>?_) rfl rfl;refine En rfl rfl rfl rfl (by simp) (by rfl) (by rfl) (by rfl) (by rfl) ?_);(refine R.Ai rfl ?_;refine R.Lc (λ_=>?_) rfl rfl;refine BY rfl rfl rfl (by simp) rfl (by intro r c;simp only[uG,d8]at c;obtain⟨_,_,rfl⟩:=c;rfl) (by rfl) (co rfl) (by simp;omega) ?_);(refine R.Ai rfl ?_;refine R.Lc (λ_=>?_) rfl rfl;refine Hv 1 1 63 rfl rfl rfl (by rfl) (by rfl) ?_);(repeat ((refine R.Ai rfl ?_;first|refine R.yA rfl rfl rfl rfl ?_ )));refine R.SF ?_;apply aS;(repeat first|refine tA rfl ?_|refine aU rfl ?_|apply Aa);apply aB;refine Al.jR 3 ?_;refine aL (α:={s:Nat×JF // s.1<=a.nx.length/\s.2.map (·.2)=a.nx.take s.1}) [1,2,3] [] rfl rfl (λs=>[(4,eI .i64 s.1.1)]) (λs=>[(0,.cells 29 3 [[.d (iD 0),.d (.l []),.d (.l [])]]),(2,.cells 4 1 (a.ac.map AO)),(3,.cells 63 1 (AN s.1.2)),(4,.cells 29 3 [[.d (iD a.al),.arr 3 1 0 s.1.2.length,.arr 2 1 0 a.ac.length]]),(5,.sld 3 (sI s.1.2))]) 6 (λs=>a.nx.length-s.1.1) (⟨⟨0,[]⟩,by simp⟩) b rfl (by (simp[cX,zC,b,cN,Bl,Ae,eC]<;>rfl)) ?_;rintro⟨⟨k,l⟩,hk,f⟩;(try dsimp only[cA,cB]);have hk:k<=a.nx.length:=hk;have f:l.map (·.2)=a.nx.take k:=f
 have e:l.length=k:=by have:=congrArg List.length f;simp at this;omega
 (repeat first|refine sN rfl ?_|refine tA rfl ?_|refine s2 rfl λ_ n=>?_|refine aU rfl ?_|apply Aa)
 ((refine aC rfl ?_ ?_<;>rintro⟨⟩);all_goals try (simp at n;done))
 .have i:k<a.nx.length:=by (simp only[oZ] at *;omega)
  obtain⟨r,h⟩:=get_some (l:=a.nx) (k:=k) i;have o:=get_map (g:=Ek) h;have c:=ha.row r (ce h);apply aK;refine aS (aB ?_);refine rG ⟨GK [(1,14),(2,1016),(8,1016),(9,1016),(10,1),(12,1)],fB [0,1,3,4,5,6,7,2,8,9,10,11,12]⟩ (by kernel_rfl) ?_;(repeat first|refine tX rfl ?_|(refine s4 rfl ‹_› rfl ?_ ?_;omega));(refine Ai rfl ?_;refine C8 ?_ rfl ⟨rfl,rfl⟩;refine En rfl rfl rfl rfl (by simp) (by rfl) (by rfl) (by rfl) (by rfl) ?_;refine⟨FA 4 rfl rfl,?_⟩);(refine Ai rfl ?_;refine C8 ?_ rfl ⟨rfl,rfl⟩;refine BY rfl rfl rfl (by simp) rfl (by intro r c;simp only[uG,d8]at c;obtain⟨_,_,rfl⟩:=c;rfl) (by rfl) (co rfl) (by simp;omega) ?_;refine⟨FA 4 rfl rfl,?_⟩);(refine Ai rfl ?_;refine C8 ?_ rfl ⟨rfl,rfl⟩;refine En rfl rfl rfl rfl (by simp[eC]) (by rfl) (by rfl) (by rfl) (by rfl) ?_;refine⟨FA 4 rfl rfl,?_⟩);(refine pW rfl ?_ rfl (by rfl);refine BY rfl rfl rfl (CO _) rfl (by intro r c;simp at c;subst c;rfl) (by rfl) (co rfl) (by simp;omega) ?_);(repeat first|refine tA rfl ?_);apply Aa;refine Al.AQ [1,2,3,4] [] rfl rfl [] [(0,.cells 29 3 [[.d (iD 0),.d (.l []),.d (.l [])]]),(1,.cells 3 1 (r.map Au)),(2,.cells 4 1 (a.ac.map AO)),(3,.cells 63 1 (AN l++[[.arr 1 1 0 r.length]])),(4,.cells 29 3 [[.d (iD a.al),.arr 3 1 0 (l.length+1),.arr 2 1 0 a.ac.length]]),(5,.sld 3 (sI l))] [0,7,2,9,4,5] (rl b rfl) (by (simp[cX,zC,b,cN,Bl,Ae,eC])) ?_;(try dsimp only[cA,cB]);refine Al.Vi 3 1 5 l r rfl rfl rfl λv=>?_;(repeat first|(refine sA rfl ?_ ?_;first|exact tI|omega)|refine aU rfl ?_|apply Aa);refine⟨⟨⟨k+1,l++[(v,r)]⟩,by dsimp only;omega,by dsimp only;rw[uz,f,d9,h];rfl⟩,by dsimp only;(omega),[0,1,2,3,4,5],?_⟩;(simp[cX,zC,b,cN]<;>rfl)
 have j:k=a.nx.length:=by (simp only[oZ] at *;omega)
 apply aE;(repeat first|refine tA rfl ?_|refine aU rfl ?_|apply Aa)
 have e:l.map (·.2)=a.nx:=by rw[f,j,i9]
 refine aR ⟨_,rfl,[3,2,5],Y8 a.al 0 1 l.length a.ac.length,[(0,.cells 63 1 (AN l)),(1,.cells 4 1 (a.ac.map AO)),(2,.sld 3 (sI l))],iB rfl,rfl,by (simp[cX,zC,b,cN]),l,e,rfl,rfl,rfl⟩
theorem CA(x:Value×List Int)(l:JF):AN (x::l)=[.d (.v x.1)]::AN l:=rfl
theorem cO{σ:Ac}{id k len:Nat}{T:TypeId}{rows:List (List C)}(h:look σ id=some (.cells T k rows))(a:rows.length=len):HU σ k (.o (.arr id k 0 len))=some rows:=by
 unfold HU;subst a;have hb:Nat.ble rows.length rows.length=true:=wE (jp _);simp[h,hb]
theorem nF{m:Nat}{al:Int}{l1 l2:JF}{y:Value×List Int}{ac:List Bool}(f:(l1++y::l2).length<=m)(e:ac.length<=m)(b:∀x∈l1++l2,x.2.length<=m)(d:y.2.length<=m):LX m ⟨al,(l1++y::l2).map (·.2),ac⟩:=by
 refine⟨by simpa using f,e,λr c=>?_⟩;obtain⟨x,a,rfl⟩:=d8.1 c
 rcases f7.1 a with a|a
 .exact b x (rx _ a)
 .rcases lc.1 a with rfl|a
  .exact d
  .exact b x (ur _ a)
theorem Xg(b:List UInt8)(hb:b.length<=2000)(p:Int)(h0:0<=p/\p<900000000)(a:AI)(m:Nat)(ha:LX m a)(hm:m<=100000):Spec Tryz.prog TB 47 [(0,Cr b p)] 1 [.o (.ptr 0 2 0 0),Bp a] (Ma b p 5 (λa'=>a'.al=a.al/\LX (m+1) a')):=by
 have ha1:=ha.nx;have ha2:=ha.ac;have N:=ha.row;obtain⟨c,c0,c1,hc⟩:=Bi (TB:=TB) b hb (p+1) 4 (by omega);refine eR Tryz.func47 rfl (by kernel_rfl) rfl ?_;intro Γ t;(repeat first|refine tA rfl ?_|refine aU rfl ?_|apply Aa);(refine pK [] 0 rfl (Ky a ⟨by omega,by omega,λr J=>by have:=N r J;omega⟩) rfl rfl (by simp[cX,zC,t,cN]) ?_;rintro R H I ⟨l,hl,rfl,rfl,rfl⟩ _);(repeat first|refine tA rfl ?_);apply Aa
 have hb0:LX (m+1) ⟨a.al,l.map (·.2),a.ac⟩:=by rw[hl];exact⟨by show a.nx.length<=_;omega,by show a.ac.length<=_;omega,λr J=>by have:=N r J;omega⟩
 have hll:l.length=a.nx.length:=by rw[<-hl];simp
 refine Al.AQ [0,4,5] [] rfl rfl [] [(0,Cr b p),(1,.cells 29 3 [[.d (iD 0),.d (.l []),.d (.l [])]]),(2,.cells 63 1 (AN l)),(3,.cells 4 1 (a.ac.map AO)),(4,.sld 3 (sI l)),(5,.cells 29 3 [[.d (iD a.al),.arr 2 1 0 l.length,.arr 3 1 0 a.ac.length]])] [0,1,2,3,4,5] (rl t rfl) (by (simp[cX,zC,t,cN])) ?_;(try dsimp only[cA,cB]);(repeat first|refine tA rfl ?_|refine s2 rfl λ_ F=>?_|refine aU rfl ?_|apply Aa);(refine aC rfl ?_ ?_<;>rintro⟨⟩)
 ·(repeat first|refine tA rfl ?_|refine aU rfl ?_|apply Aa)
  refine Al.AQ [4] [] rfl rfl [] [(0,Cr b p),(1,.cells 29 3 [[.d (iD a.al),.arr 2 1 0 l.length,.arr 3 1 0 a.ac.length]]),(2,.cells 63 1 (AN l)),(3,.cells 4 1 (a.ac.map AO)),(4,.sld 3 (sI l))] [0,1,2,3,4] (rl t rfl) (by (simp[cX,zC,t,cN])) ?_;(try dsimp only[cA,cB]);refine Al.Bb [1,2,3,4] [(4,.o (.ip (AT ⟨a.al,l.map (·.2),a.ac⟩)))] ⟨⟨_,rfl,.inr (.o (.box rfl (.cons .d (.cons (.fD (s:=4) rfl rfl) (.cons (.full rfl (by simp[d6]) (by simp)) .nil)))))⟩,trivial⟩ ?_;refine aR ⟨_,rfl,[0],Bp ⟨a.al,l.map (·.2),a.ac⟩,[(0,Cr b p)],iB rfl,rfl,by (simp[cX,zC,t,cN]),p,⟨a.al,l.map (·.2),a.ac⟩,by omega,⟨rfl,hb0⟩,rfl,rfl,rfl⟩
 apply aK
 have hne:¬(l.length=0):=by (simp only[oZ] at *;omega)
 obtain⟨k,k0,k1,hk⟩:=Bi (TB:=TB) b hb p l.length (by omega);obtain⟨y,hy⟩:=get_some (l:=l) (k:=k.toNat) (by omega);obtain⟨M,L⟩:=QU hy;generalize l.take k.toNat=l1 at M L;generalize l.drop (k.toNat+1)=l2 at M;subst M;have X:∀x∈l1++y::l2,x.2.length<=m:=λx A=>N x.2 (by rw[<-hl];exact d8.2 ⟨x,A,rfl⟩);have V:∀x∈l1++l2,x.2.length<=m:=λx A=>X x (by rcases f7.1 A with A|A;exact rx _ A;exact ur _ (ui _ A))
 have u:∀x∈l1++l2,x.2.length<=m+1:=λx A=>by have:=V x A;omega
 have z:=X y (by simp)
 have B:(l1++y::l2).length<=m:=by omega
 obtain⟨G,xs⟩:=y;have hxsm:xs.length<=m:=z;(repeat first|refine tA rfl ?_|refine aU rfl ?_);(refine pC [0] rfl (hk) rfl rfl (by simp[cX,zC,t,cN]) ?_;rintro R H I ⟨rfl,rfl,rfl⟩ _);(repeat first|refine tA rfl ?_|refine aU rfl ?_|apply Aa);(refine pC [0] rfl (hc) rfl rfl (by simp[cX,zC,t,cN]) ?_;rintro R H I ⟨rfl,rfl,rfl⟩ _);apply Aa;refine Al.AQ [0,4,5,6,7,20] [] rfl rfl [] [(0,Cr b (p+1+1)),(1,.cells 29 3 [[.d (iD 0),.d (.l []),.d (.l [])]]),(2,.cells 63 1 (AN l1++[.d (.v G)]::AN l2)),(3,.cells 4 1 (a.ac.map AO)),(4,.sld 3 (sI (l1++(G,xs)::l2))),(5,.cells 29 3 [[.d (iD a.al),.arr 2 1 0 (l1++(G,xs)::l2).length,.arr 3 1 0 a.ac.length]])] [0,1,2,3,4,5] (rl t rfl) (by (simp[cX,zC,t,cN,Bc]<;>rfl)) ?_;(try dsimp only[cA,cB]);refine Al.take 2 4 (AN l1) (AN l2) G xs l1 l2 rfl rfl ?_
 have hrow:(AN l1++[.arr 6 1 0 xs.length]::AN l2)[0+k.toNat]?=some [.arr 6 1 0 xs.length]:=by rw[lm];exact MZ L
 apply rO (P:=Tryz.prog) (TB:=TB) (Γ:=Γ) (C:=λi:Int×List Int×List Bool×JF=>(p<=i.1/\i.1<=p+5)/\i.2.2.1.length<=m+1/\(∀x∈l1++i.2.2.2,x.2.length<=m+1)/\i.2.1.length<=m+1/\(l1++(G,xs)::i.2.2.2).length<=m+1) (f:=λ_=>[(4,.o (.ptr 1 3 0 0)),(5,.o (.ptr 5 3 0 0))]) (s:=λi=>[(0,Cr b i.1),(1,.cells 29 3 [[.d (iD 0),.d (.l []),.d (.l [])]]),(2,.cells 63 1 (AN l1++[.arr 6 1 0 i.2.1.length]::AN i.2.2.2)),(3,.cells 4 1 (i.2.2.1.map AO)),(4,.sld 3 (sI (l1++i.2.2.2))),(5,.cells 29 3 [[.d (iD a.al),.arr 2 1 0 (l1++(G,xs)::i.2.2.2).length,.arr 3 1 0 i.2.2.1.length]]),(6,.cells 3 1 (i.2.1.map Au))]) (n:=7)
 case hk =>
  intro fk;apply aB;(repeat first|refine tA rfl ?_|refine s2 rfl λ_ F=>?_|refine aU rfl ?_|apply Aa);(refine aC rfl ?_ ?_<;>rintro⟨⟩)
  ·(repeat first|refine tA rfl ?_|refine s2 rfl λ_ F=>?_|refine aU rfl ?_|apply Aa)
   (refine aC rfl ?_ ?_<;>rintro⟨⟩)
   .obtain⟨e,Z⟩:=get_some (l:=a.ac) (k:=0+k.toNat) (by (simp only[oZ] at *;omega))
    have Y:=get_map (g:=AO) Z;refine rG (GI [10]) (by kernel_rfl) ?_;(repeat first|(refine sA rfl ?_ ?_;first|exact tI|simp only[oZ] at *;omega)|refine t4 rfl ‹_› rfl ?_|refine s2 rfl λ_ F=>?_);apply Aa;subst F;exact fk (p+1+1,xs,a.ac.set k.toNat (!e),l2) [0,1,2,3,4,5,6] ⟨by dsimp only;omega,by first|(dsimp only;omega)|(simp;omega),u,by have Q:xs.length<=m:=z;simp;omega,by simp at B |-;omega⟩ (CC t rfl rfl) (by (simp[cX,zC,t,cN,Bc,vd,Ae,eC]))
   .apply aK
    exact fk (p+1+1,xs,a.ac,l2) [0,1,2,3,4,5,6] ⟨by dsimp only;omega,by first|(dsimp only;omega)|(simp;omega),u,by have Q:xs.length<=m:=z;simp;omega,by simp at B |-;omega⟩ (CC t rfl rfl) (by (simp[cX,zC,t,cN,Bc]))
  ·(repeat first|refine tA rfl ?_|refine s2 rfl λ_ F=>?_|refine aU rfl ?_|apply Aa)
   (refine aC rfl ?_ ?_<;>rintro⟨⟩)
   ·(repeat first|(refine sA rfl ?_ ?_;first|exact tI|omega)|refine t4 rfl ‹_› rfl ?_|refine s2 rfl λ_ F=>?_|refine aU rfl ?_|apply Aa)
    (refine aC rfl ?_ ?_<;>rintro⟨⟩)
    .have T:0<xs.length:=by (simp only[oZ] at *;omega)
     obtain⟨j,j0,j1,hj⟩:=Bi (TB:=TB) b hb (p+1+1) xs.length (by omega);obtain⟨w,w0,w1,hw⟩:=Bi (TB:=TB) b hb (p+1+1+1) (l1++(G,xs)::l2).length (by omega);obtain⟨e,Z⟩:=get_some (l:=xs) (k:=0+j.toNat) (by omega);have Y:=get_map (g:=Au) Z;refine rG ⟨GK [(1,15),(4,12),(7,15),(10,12),(12,1036),(15,1036),(17,1)],fB [0,1,2,3,4,5,6,7,8,9,10,11,13,14,12,15,16,17]⟩ (by kernel_rfl) ?_;(repeat first|(refine sA rfl ?_ ?_;first|exact tI|omega)|refine t4 rfl ‹_› rfl ?_);(refine Ai rfl ?_;refine C8 ?_ rfl ⟨rfl,rfl⟩;refine BE [0] rfl rfl (hj) ⟨rfl,by decide,by decide⟩ rfl (by simp[cX,zC,t,cN]) ?_;rintro R H I ⟨rfl,rfl,rfl⟩ _;refine⟨Lf 5 2 rfl rfl rfl,?_⟩);(refine Ai rfl ?_;refine C8 ?_ rfl ⟨rfl,rfl⟩;refine BE [0] rfl rfl (hw) ⟨rfl,by decide,by decide⟩ rfl (by simp[cX,zC,t,cN]) ?_;rintro R H I ⟨rfl,rfl,rfl⟩ _;refine⟨Lf 5 2 rfl rfl rfl,?_⟩);(repeat first|(refine sA rfl ?_ ?_;omega)|refine t4 rfl ‹_› rfl ?_);apply Aa;exact fk (p+1+1+1+1,xs.set j.toNat w,a.ac,l2) [0,1,2,3,4,5,6] ⟨by dsimp only;omega,by first|(dsimp only;omega)|(simp;omega),u,by have Q:xs.length<=m:=z;simp;omega,by simp at B |-;omega⟩ (CC t rfl rfl) (by (simp[cX,zC,t,cN,Bc,vd,Ae,eC]))
    .apply aK
     exact fk (p+1+1,xs,a.ac,l2) [0,1,2,3,4,5,6] ⟨by dsimp only;omega,by first|(dsimp only;omega)|(simp;omega),u,by have Q:xs.length<=m:=z;simp;omega,by simp at B |-;omega⟩ (CC t rfl rfl) (by (simp[cX,zC,t,cN,Bc]))
   ·(repeat first|refine tA rfl ?_|refine s2 rfl λ_ F=>?_|refine aU rfl ?_|apply Aa)
    (refine aC rfl ?_ ?_<;>rintro⟨⟩)
    ·(repeat' first|(refine sA rfl ?_ ?_;first|exact tI|omega)|refine t4 rfl ‹_› rfl ?_|refine s2 rfl λ_ F=>?_|refine s3 rfl ?_ ?_<;>rintro rfl|refine aU rfl ?_|apply Aa|(refine aC rfl ?_ ?_<;>rintro⟨⟩))
     any_goals (apply aK;exact fk (p+1+1,xs,a.ac,l2) [0,1,2,3,4,5,6] ⟨by dsimp only;omega,by first|(dsimp only;omega)|(simp;omega),u,by have Q:xs.length<=m:=z;simp;omega,by simp at B |-;omega⟩ (CC t rfl rfl) (by (simp[cX,zC,t,cN,Bc])))
     have T:0<xs.length:=by (simp only[oZ] at *;omega)
     obtain⟨e,Z⟩:=get_some (l:=a.ac) (k:=0+k.toNat) (by (simp only[oZ] at *;omega));have Y:=get_map (g:=AO) Z;obtain⟨R,hx0⟩:=get_some (l:=xs) (k:=0+(0:Int).toNat) (by omega);have hx0':=get_map (g:=Au) hx0;(try apply aS);refine rG ⟨GK [(1,15),(4,15),(7,12),(2,1036),(8,1036),(9,1036),(10,1),(12,1)],fB [0,1,3,4,5,6,7,2,8,9,10,11,12]⟩ (by kernel_rfl) ?_;(repeat first|(refine sX rfl ?_ ?_;first|exact tI|omega)|refine t4 rfl ‹_› rfl ?_);(refine Ai rfl ?_;refine C8 ?_ rfl ⟨rfl,rfl⟩;refine En rfl rfl rfl rfl (by simp) (by rfl) (by rfl) (by rfl) (by rfl) ?_;refine⟨Lf 5 2 rfl rfl rfl,?_⟩);(refine Ai rfl ?_;refine C8 ?_ rfl ⟨rfl,rfl⟩;refine BY rfl rfl rfl (by simp) (cO rfl (by simp)) (by intro r J;simp at J;obtain⟨_,_,rfl⟩:=J;rfl) (by rfl) (co rfl) (by simp;omega) ?_;refine⟨Lf 5 2 rfl rfl rfl,?_⟩);(refine Ai rfl ?_;refine C8 ?_ rfl ⟨rfl,rfl⟩;refine En rfl rfl rfl rfl (by simp[eC]) (by rfl) (by rfl) (by rfl) (by rfl) ?_;refine⟨Lf 5 2 rfl rfl rfl,?_⟩);(refine pW rfl ?_ rfl (by rfl);refine BY rfl rfl rfl (by simp[CO]) rfl (by intro r J;simp at J;subst J;rfl) (by rfl) (co rfl) (by simp at B |-;omega) ?_);(repeat first|refine tA rfl ?_);apply Aa;refine Al.AQ [0,4,5,6,7] [] rfl rfl [] [(0,Cr b (p+1+1)),(1,.cells 29 3 [[.d (iD 0),.d (.l []),.d (.l [])]]),(2,.cells 63 1 ((AN l1++[.arr 6 1 0 xs.length]::AN l2)++[[.arr 7 1 0 xs.length]])),(3,.cells 4 1 (a.ac.map AO)),(4,.sld 3 (sI (l1++l2))),(5,.cells 29 3 [[.d (iD a.al),.arr 2 1 0 ((l1++(G,xs)::l2).length+1),.arr 3 1 0 a.ac.length]]),(6,.cells 3 1 (xs.map Au)),(7,.cells 3 1 (xs.map Au))] [0,1,10,3,4,5,6,8] (rl t rfl) (by (simp[cX,zC,t,cN,Bc,Ae,eC,CO])) ?_;(try dsimp only[cA,cB]);refine Al.put 2 7 4 (AN l1++[.arr 6 1 0 xs.length]::AN l2) [] xs (l1++l2) [] rfl rfl (by rw[uv];rfl) λS=>?_;refine Al.AQ [0,4,5,6,7] [] rfl rfl [] [(0,Cr b (p+1+1)),(1,.cells 29 3 [[.d (iD 0),.d (.l []),.d (.l [])]]),(2,.cells 63 1 (AN l1++[.arr 6 1 0 xs.length]::AN (l2++[(S,xs)]))),(3,.cells 4 1 (a.ac.map AO)),(4,.sld 3 (sI (l1++(l2++[(S,xs)])))),(5,.cells 29 3 [[.d (iD a.al),.arr 2 1 0 ((l1++(G,xs)::l2).length+1),.arr 3 1 0 a.ac.length]]),(6,.cells 3 1 (xs.map Au))] [0,1,2,3,4,5,6] (rl t rfl) (by (simp[cX,zC,t,cN,Bc,vY]<;>rfl)) ?_;(try dsimp only[cA,cB])
     have U:∀x∈l1++(l2++[(S,xs)]),x.2.length<=m+1:=λx A=>by
      rw[<-vY]at A
      rcases f7.1 A with A|A
      .exact u x A
      .simp at A;subst A;show xs.length<=_;omega
     apply aS;refine rG (GI [8,10]) (by kernel_rfl) ?_
     have hrow2:(AN l1++[.arr 6 1 0 xs.length]::AN (l2++[(S,xs)]))[0+k.toNat]?=some [.arr 6 1 0 xs.length]:=by rw[lm];exact MZ L
     (repeat first|(refine sA rfl ?_ ?_;first|exact tI|simp only[oZ] at *;omega)|refine t4 rfl ‹_› rfl ?_);(refine pA rfl (by simp) (by simp;omega) ?_);(repeat first|refine tA rfl ?_);apply Aa;refine tu (by kernel_rfl) ?_;(repeat first|(refine sA rfl ?_ ?_;first|exact tI|omega)|refine t4 rfl ‹_› rfl ?_);apply Aa;exact fk (p+1+1,xs.set 0 (l1++(G,xs)::l2).length,a.ac++[e],(l2++[(S,xs)])) [0,1,2,7,4,5,6] ⟨by dsimp only;omega,by first|(dsimp only;omega)|(simp;omega),U,by have Q:xs.length<=m:=z;simp;omega,by simp at B |-;omega⟩ (CC t rfl rfl) (by (simp[cX,zC,t,cN,Bc,vd,Ae,eC,vY]<;>rfl))
    .apply aK
     exact fk (p+1+1,xs,a.ac,l2) [0,1,2,3,4,5,6] ⟨by dsimp only;omega,by first|(dsimp only;omega)|(simp;omega),u,by have Q:xs.length<=m:=z;simp;omega,by simp at B |-;omega⟩ (CC t rfl rfl) (by (simp[cX,zC,t,cN,Bc]))
 case h=>
  intro⟨q,zs,ac,K⟩ ⟨hq,g1,g2,g3,g4⟩;dsimp only at hq g1 g2 g3 g4 |-;refine Al.put 2 6 4 (AN l1) (AN K) zs l1 K rfl rfl rfl λv=>?_;(repeat first|refine tA rfl ?_|refine aU rfl ?_|apply Aa);refine Al.AQ [4] [] rfl rfl [] [(0,Cr b q),(1,.cells 29 3 [[.d (iD a.al),.arr 2 1 0 (l1++(v,zs)::K).length,.arr 3 1 0 ac.length]]),(2,.cells 63 1 (AN (l1++(v,zs)::K))),(3,.cells 4 1 (ac.map AO)),(4,.sld 3 (sI (l1++(v,zs)::K)))] [0,1,2,3,4] (rl t rfl) (by (simp[cX,zC,t,cN,Bc,CA])) ?_;(try dsimp only[cA,cB]);refine Al.Bb [1,2,3,4] [(4,.o (.ip (AT ⟨a.al,(l1++(v,zs)::K).map (·.2),ac⟩)))] ⟨⟨_,rfl,.inr (.o (.box rfl (.cons .d (.cons (.fD (s:=4) rfl rfl) (.cons (.full rfl (by simp[d6]) (by simp)) .nil)))))⟩,trivial⟩ ?_;exact aR ⟨_,rfl,[0],Bp ⟨a.al,(l1++(v,zs)::K).map (·.2),ac⟩,[(0,Cr b q)],iB rfl,rfl,by (simp[cX,zC,t,cN]),q,⟨a.al,(l1++(v,zs)::K).map (·.2),ac⟩,by omega,⟨rfl,nF (by simpa using g4) g1 g2 g3⟩,rfl,rfl,rfl⟩
end Go.Am
namespace Go.Am
open Go
theorem HT{g g':Gr}(d:JD g)(c:g.ls=g'.ls)(e:∀x:Int,0<=x/\x<g.N->∀l∈g.ls,g.succ x l=g'.succ x l):∀ {w:List Int} {a x:Int},over g w->(0<=a/\a<g.N)->(reach g w a x↔reach g' w a x)
 | [],a,x,_,_=>Iff.rfl
 | l :: w,a,x,f,ha=>by
  have j:=f l (by simp);simp only[reach,<-e a ha l j];constructor
  .rintro⟨y,b,h⟩
   exact⟨y,b,(HT d c e (λm i=>f m (by simp[i])) (d.inn a ha l j y b)).1 h⟩
  .rintro⟨y,b,h⟩
   exact⟨y,b,(HT d c e (λm i=>f m (by simp[i])) (d.inn a ha l j y b)).2 h⟩
theorem CG.congr{g g':Gr}(c:JD g)(d:g.ls=g'.ls)(q:g.s0=g'.s0)(m:∀x:Int,0<=x/\x<g.N->∀l∈g.ls,g.succ x l=g'.succ x l)(i:∀x:Int,0<=x/\x<g.N->g.goal x=g'.goal x){r:Option (List Int)}(h:CG g r):CG g' r:=by
 have b:∀w,over g' w↔over g w:=λw=>by unfold over;rw[d]
 have k:∀w,over g w->(Sy g' w↔Sy g w):=λw j=>by
  unfold Sy;rw[<-q];constructor
  .rintro⟨x,a,e⟩
   have a:=(HT c d m j c.s0).2 a;exact⟨x,a,by rw[i x (DN c j c.s0 a)];exact e⟩
  .rintro⟨x,a,e⟩
   exact⟨x,(HT c d m j c.s0).1 a,by rw[<-i x (DN c j c.s0 a)];exact e⟩
 cases r with
 | none=>exact λu f a=>h u ((b u).1 f) ((k u ((b u).1 f)).1 a)
 | some w=>
  obtain⟨n,p,o⟩:=h;exact⟨(b w).2 n,(k w n).2 p,λu f a=>o u ((b u).1 f) ((k u ((b u).1 f)).1 a)⟩
theorem ie{zs ws:List Int}{cs ds:List (List Int)}(h:Gm zs cs):EG (zs++ws) (cs++ds)=(EG zs cs).flatMap λo=>(EG ws ds).map λr=>o*Av ws+r:=by
 induction h with
 | nil=>simp[EG]
 | @cons z c zs cs _ _ _ a=>
  simp only[vk,EG,a];rw[List.flatMap_assoc];congr 1;funext q;rw[List.map_flatMap,List.flatMap_map];congr 1;funext o;rw[uG];congr 1;funext r;simp only[d6,Oh];rw[v9,vN];omega
theorem X6(l:List Sys)(aus:List AI)(st:List Int)(ls kd gl:Int):Ag ⟨l,aus,st,ls,kd,gl⟩=l.map (·.st)++aus.map (λa=>(a.nx.length:Int)):=rfl
theorem MP{l:List Sys}{aus:List AI}{st:List Int}{ls kd gl:Int}(b:Eb ⟨l,aus,st,ls,kd,gl⟩){node letter:Int}(f:0<=letter)(d:letter<6) :
 FW ⟨l,aus,st,ls,kd,gl⟩ (Ag ⟨l,aus,st,ls,kd,gl⟩) (BA (Ag ⟨l,aus,st,ls,kd,gl⟩) node) letter =
  (EG (l.map (·.st)) (dq l (node / Av (aus.map λa=>(a.nx.length:Int))) letter)).flatMap λo=>(EG (aus.map λa=>(a.nx.length:Int)) (aus.zipWith (λa q=>[Bn a q.toNat letter]) (BA (aus.map λa=>(a.nx.length:Int)) node))).map λr=>o*Av (aus.map λa=>(a.nx.length:Int))+r:=by
 have hp:∀w∈aus.map (λa=>(a.nx.length:Int)),0<w:=λw g=>by
  obtain⟨a,ha,rfl⟩:=d8.1 g;have:=AB (b.au a ha);omega
 unfold FW;rw[TC (I0 b (Mq b node) f d),X6,Qm _ _ _ hp];have c:=Us b.ps b.np f d (node / Av (aus.map λa=>(a.nx.length:Int)))
 have e:Ls ⟨l,aus,st,ls,kd,gl⟩ (BA (l.map (·.st)) (node / Av (aus.map λa=>(a.nx.length:Int)))++BA (aus.map λa=>(a.nx.length:Int)) node) letter=dq l (node / Av (aus.map λa=>(a.nx.length:Int))) letter++aus.zipWith (λa q=>[Bn a q.toNat letter]) (BA (aus.map λa=>(a.nx.length:Int)) node):=by
  unfold Ls dq
  have h:(BA (l.map (·.st)) (node / Av (aus.map λa=>(a.nx.length:Int)))).length=l.length:=by rw[Mp];simp
  simp only;rw[List.drop_append_of_le_length (by omega),vm (by omega),wN];congr 1;rw[GX,List.take_append_of_le_length (by omega),i8 (by omega)]
 rw[e,ie c]
theorem NP:∀(zs:List Int) (k:Nat),DE zs (List.replicate k 0) 0=0
 | [],k=>by simp[DE]
 | z::zs,0=>by simp[DE]
 | z::zs,k+1=>by
  rw[vO];simp only[DE,Int.zero_mul,Int.add_zero];exact NP zs k
theorem WT{a:Int}(ha:A2 a=true):GY .i64 0 a=a/\GY .i64 a 0=a:=by
 unfold A2 at ha;simp only[decide_eq_true_eq]at ha;have d:=MA (a:=0) (b:=a.toNat) (by omega) (by omega);have c:=MA (a:=a.toNat) (b:=0) (by omega) (by omega)
 have e:((a.toNat:Nat):Int)=a:=by omega
 rw[e]at d c;have f:(((0:Nat)):Int)=0:=rfl;rw[f]at d c;rw[Nat.zero_or]at d;rw[Nat.or_zero]at c;exact⟨by rw[d.1];exact e,by rw[c.1];exact e⟩
theorem ZI{l:List Sys}(h:AZ l=true):A2 (Bu l)=true:=by
 unfold Bu;rw[if_pos h];unfold AZ at h;rw[d4]at h;exact J6 h.2 rfl
theorem iI{s:Sys}{a p:AI}(h:C1 s a p=true):DH (gI [s] a p (Ab (GY .i64 (Bu [s]) a.al)))=DH (Ev (Ef s a p)):=by
 obtain⟨j,hk,d⟩:=PH h;have c:=h;unfold C1 at c;simp only[d4]at c;obtain⟨⟨i,ha⟩,hp⟩:=c;have n:=Cu ha;have m:=Cu hp
 have b:Bu [s]=s.al:=by
  have:AZ [s]=true:=by simp[AZ,i]
  unfold Bu;rw[if_pos this];exact(WT (AL i).1).1
 refine VW (CG.congr (Qv j d) ?_ ?_ (λx k l f=>?_) (λx k=>?_) (DJ _))
 .show Ab (GY .i64 s.al a.al)=Ab (GY .i64 (Bu [s]) a.al)
  rw[b]
 .exact NP (Ag (Ef s a p)) 3
 .have f:=Af (show l∈AF (GY .i64 s.al a.al) 6 from f)
  show FW (Ef s a p) (Ag (Ef s a p)) (BA (Ag (Ef s a p)) x) l=Kn [s] a p x l
  have e:=MP (l:=[s]) (aus:=[a,p]) (st:=[0,0,0]) (ls:=GY .i64 s.al a.al) (kd:=2) (gl:=0) j (node:=x) f.1 (by omega);refine Eq.trans e ?_;unfold Kn GF;simp only[uS,xH,Av,Int.mul_one,BA,List.zipWith_cons_cons,List.zipWith_nil_left,EG,wA,List.flatMap_nil,uv,Int.ediv_one,Int.add_zero]
  have g:x / p.nx.length / a.nx.length=x / (a.nx.length*p.nx.length):=by rw[wo (by omega),wj]
  rw[g,List.map_eq_flatMap];congr 1;funext o;rw[vN]
 .show CS (Ef s a p) (BA (Ag (Ef s a p)) x) (Ga (Ef s a p) x.toNat)=OJ a p x
  unfold CS eu OJ;simp[Ef,Ag,BA,Av,List.getD]
theorem iH{l:List Sys}{p:AI}(h:(AZ l && AJ p)=true):DH (gI l Pf p (Ab (GY .i64 (Bu l) Pf.al)))=DH (Ev (C0 l p)):=by
 obtain⟨g,hk,c⟩:=PG h;rw[d4]at h;obtain⟨r,hp⟩:=h;have n:=Cu hp;refine VW (CG.congr (Qv g c) ?_ ?_ (λx j m d=>?_) (λx j=>?_) (DJ _))
 .show Ab (Bu l)=Ab (GY .i64 (Bu l) 0)
  rw[(WT (ZI r)).2]
 .exact NP (Ag (C0 l p)) (l.length+1)
 .have d:=Af (show m∈AF (Bu l) 6 from d)
  show FW (C0 l p) (Ag (C0 l p)) (BA (Ag (C0 l p)) x) m=Kn l Pf p x m
  have e:=MP (l:=l) (aus:=[p]) (st:=List.replicate (l.length+1) 0) (ls:=Bu l) (kd:=3) (gl:=0) g (node:=x) d.1 (by omega);refine Eq.trans e ?_
  have f:∀q:Nat,Bn Pf q m=q:=λq=>by
   have:AS 0 m.toNat=false:=by
    have u:m=0\/m=1\/m=2\/m=3\/m=4\/m=5:=by omega
    rcases u with rfl|rfl|rfl|rfl|rfl|rfl<;>decide
   unfold Bn;rw[if_neg]
   show ¬AS 0 m.toNat=true
   rw[this];simp
  have b:((Pf.nx.length:Nat):Int)=1:=rfl;unfold Kn GF;rw[f,b];simp only[uS,xH,Av,Int.mul_one,BA,List.zipWith_cons_cons,List.zipWith_nil_left,EG,wA,List.flatMap_nil,uv,Int.ediv_one,Int.add_zero,Int.emod_one];generalize EG (l.map (·.st)) (dq l (x / p.nx.length) m)=LL;rw[List.map_eq_flatMap];congr 1;funext o;simp
 .show CS (C0 l p) (BA (Ag (C0 l p)) x) (Ga (C0 l p) x.toNat)=OJ Pf p x
  have b:((Pf.nx.length:Nat):Int)=1:=rfl;have t:=Qm (l.map (·.st)) [(p.nx.length:Int)] x (by intro w k;simp at k;omega);have i:Ag (C0 l p)=l.map (·.st)++[(p.nx.length:Int)]:=rfl
  have a:(BA (l.map (·.st)) (x / Av [(p.nx.length:Int)])).length=l.length:=by rw[Mp];simp
  rw[i,t];generalize BA (l.map (·.st)) (x / Av [(p.nx.length:Int)])=dd at a
  have s:(dd++BA [(p.nx.length:Int)] x).getD (l.length+0) 0=x%p.nx.length:=by
   rw[List.getD,wF,i7 (by omega),a];simp[BA,Av]
  unfold CS eu OJ;rw[b];have z:(C0 l p).kd=3:=rfl;have y:(C0 l p).ps=l:=rfl;have v:(C0 l p).au=[p]:=rfl;rw[z,y,v,s];simp[Pf,List.getD]
theorem My{a b:Nat}(ha:a<2 ^ 62)(hb:b<2 ^ 62):GL .i64 a b=((a &&& b:Nat):Int):=by
 have d:a &&& b<=a:=xl;unfold GL
 have c:(BitVec.ofInt IntKind.i64.bits (a:Int) &&& BitVec.ofInt IntKind.i64.bits (b:Int)).toNat=a &&& b:=by
  have e:IntKind.i64.bits=64:=rfl;rw[e];simp only[BitVec.toNat_and,BitVec.ofInt_natCast,BitVec.toNat_ofNat];rw[us (by omega),us (by omega)]
 rw[c];exact IntWalk.i64_in _ (by omega)
theorem gH(s n:Nat):((s:Nat):Int).fdiv (2 ^ n)=((s / 2 ^ n:Nat):Int):=by
 have h:(0:Int)<=2 ^ n:=Int.le_of_lt (Int.pow_pos (by omega));rw[Int.fdiv_eq_ediv_of_nonneg _ h]
 push_cast
 rfl
theorem Dq{s n:Nat}(d:s<2 ^ 62)(f:n<64):AS (s:Nat) n=s.testBit n:=by
 unfold AS
 have e:min n 64=n:=by omega
 rw[e,gH];have g:s / 2 ^ n<=s:=Nat.div_le_self _ _;have c:=My (a:=s / 2 ^ n) (b:=1) (by omega) (by omega);rw[show ((1:Nat):Int)=1 from rfl]at c;rw[c,xe,Nat.and_one_is_mod];congr 1;rw[eq_iff_iff];omega
theorem mu{s a:Nat}:s &&& a=s↔∀n,s.testBit n=true->a.testBit n=true:=by
 constructor
 .intro h n c
  have:=congrArg (·.testBit n) h;simp only[wy,c,uj]at this;exact this
 .intro h
  apply vr;intro n;rw[wy];cases b:s.testBit n
  .rfl
  .rw[h n b];rfl
abbrev Wd:=List UInt8
def GR(c:UInt8):Bool:=decide (97<=c.toNat/\c.toNat<103)
def EN(w:Wd):Bool:=decide (w.length<=50000) && w.all GR
def LR(w:Wd):Nat:=w.foldl (λs c=>s ||| 2 ^ (c.toNat-97)) 0
def Jc(al:Int)(c:UInt8):Bool:=GR c && AS al (c.toNat-97)
def within(w:Wd)(al:Int):Bool:=decide (w.length<=50000) && (A2 al && w.all (Jc al))
theorem WK(n:Nat):∀(w:Wd) (s:Nat),(w.foldl (λs c=>s ||| 2 ^ (c.toNat-97)) s).testBit n=(s.testBit n || w.any λc=>decide (c.toNat-97=n))
 | [],s=>by simp
 | c::w,s=>by
  rw[vf,WK n w,vq,vA,List.any_cons,Bool.or_assoc]
theorem XY(w:Wd)(n:Nat):(LR w).testBit n=w.any λc=>decide (c.toNat-97=n):=by
 unfold LR;rw[WK];simp
theorem Vv:∀ {w:Wd} {s:Nat},w.all GR=true->s<64->w.foldl (λs c=>s ||| 2 ^ (c.toNat-97)) s<64
 | [],s,_,a=>a
 | c::w,s,h,a=>by
  simp only[List.all_cons,d4]at h;rw[vf];refine Vv h.2 ?_;have b:=h.1;unfold GR at b;simp only[decide_eq_true_eq]at b;have d:2 ^ (c.toNat-97)<2 ^ 6:=v7 (by omega) (by omega);exact vM (n:=6) a d
theorem mf{w:Wd}{al:Int}(f:w.all GR=true)(ha:A2 al=true):decide (GL .i64 (LR w:Nat) al=(LR w:Nat))=w.all (Jc al):=by
 have k:LR w<64:=Vv f (by omega);unfold A2 at ha;simp only[decide_eq_true_eq]at ha
 obtain⟨a,rfl⟩:∃a:Nat,al=a:=⟨al.toNat,by omega⟩
 rw[My (by omega) (by omega)];rw[vw,decide_eq_true_eq,ge]
 have j:((LR w &&& a:Nat):Int)=(LR w:Nat)↔LR w &&& a=LR w:=by omega
 rw[j,mu];rw[ge]at f;constructor
 .intro h c e
  have b:=f c e;unfold Jc;rw[b,uj];unfold GR at b;simp only[decide_eq_true_eq]at b;rw[Dq (by omega) (by omega)];refine h _ ?_;rw[XY,vR];exact⟨c,e,by simp⟩
 .intro h n i
  rw[XY,vR]at i;obtain⟨c,e,d⟩:=i;simp only[decide_eq_true_eq]at d;have b:=f c e;have g:=h c e;unfold Jc at g;rw[b,uj]at g;unfold GR at b;simp only[decide_eq_true_eq]at b;rw[Dq (by omega) (by omega),d]at g;exact g
theorem aA{w:Wd}{al:Int}(h:w.all (Jc al)=true):w.all GR=true:=by
 rw[ge] at *;intro c a;have:=h c a;unfold Jc at this;simp only[d4]at this;exact this.1
end Go.Am
namespace Go.Am
open Go Go.Proofs
set_option maxHeartbeats 1000000
set_option maxRecDepth 4000
attribute [local irreducible] A5 CQ Lex BC Al Spec
variable {TB:BB}
theorem Fz[Dy TB](l:List Sys)(p:AI):Pure Tryz.prog TB 42 [Hn l,Bp p] (Mr (BU l p)):=by
 by_cases c:(AZ l && AJ p)=true
 .have b:BU l p=DH (Ev (C0 l p)):=by unfold BU;rw[if_pos c]
  rw[b,<-iH c];rw[d4]at c;have e:=Pk (TB:=TB) l p c.1 c.2;refine eN Tryz.func42 rfl (by kernel_rfl) rfl ?_;intro Γ d;(repeat' first|refine tA rfl ?_|refine s2 rfl λ_ a=>?_|(refine sC rfl (JI l) ?_;intro _ a)|(refine sC rfl (Be p) ?_;intro _ a)|refine sP rfl (e) rfl ?_|refine s3 rfl ?_ ?_<;>rintro rfl|refine aV rfl ?_|apply Aa|(refine aC rfl ?_ ?_<;>rintro⟨⟩)|refine aR ⟨_,rfl,?_⟩)
  all_goals first
   | rfl
   | (exfalso;grind;done)
 .have b:BU l p=none:=by unfold BU;rw[if_neg c]
  rw[b];refine eN Tryz.func42 rfl (by kernel_rfl) rfl ?_;intro Γ d;(repeat' first|refine tA rfl ?_|refine s2 rfl λ_ a=>?_|(refine sC rfl (JI l) ?_;intro _ a)|(refine sC rfl (Be p) ?_;intro _ a)|refine s3 rfl ?_ ?_<;>rintro rfl|refine aV rfl ?_|apply Aa|(refine aC rfl ?_ ?_<;>rintro⟨⟩)|refine aR ⟨_,rfl,?_⟩)
  all_goals first
   | rfl
   | (exfalso;grind;done)
theorem Jy[Dy TB](s:Sys)(a p:AI):Pure Tryz.prog TB 69 [BD s,Bp a,Bp p] (Mr (DS s a p)):=by
 by_cases c:C1 s a p=true
 .have d:DS s a p=DH (Ev (Ef s a p)):=by unfold DS;rw[if_pos c]
  rw[d,<-iI c];unfold C1 at c;simp only[d4]at c;have f:=Qs (TB:=TB) [s] a p (by simp[AZ,c.1.1]) c.1.2 c.2;refine eN Tryz.func69 rfl (by kernel_rfl) rfl ?_;intro Γ e;(repeat' first|refine tA rfl ?_|refine s2 rfl λ_ b=>?_|(refine sC rfl (Cf s) ?_;intro _ b)|(refine sC rfl (Be a) ?_;intro _ b)|(refine sC rfl (Be p) ?_;intro _ b)|refine sP rfl (f) rfl ?_|refine s3 rfl ?_ ?_<;>rintro rfl|refine aV rfl ?_|apply Aa|(refine aC rfl ?_ ?_<;>rintro⟨⟩)|refine aR ⟨_,rfl,?_⟩)
  all_goals first
   | rfl
   | (exfalso;grind;done)
 .have d:DS s a p=none:=by unfold DS;rw[if_neg c]
  rw[d];refine eN Tryz.func69 rfl (by kernel_rfl) rfl ?_;intro Γ e;(repeat' first|refine tA rfl ?_|refine s2 rfl λ_ b=>?_|(refine sC rfl (Cf s) ?_;intro _ b)|(refine sC rfl (Be a) ?_;intro _ b)|(refine sC rfl (Be p) ?_;intro _ b)|refine s3 rfl ?_ ?_<;>rintro rfl|refine aV rfl ?_|apply Aa|(refine aC rfl ?_ ?_<;>rintro⟨⟩)|refine aR ⟨_,rfl,?_⟩)
  all_goals first
   | rfl
   | (exfalso;unfold C1 at c;grind;done)
theorem Lw(s:Sys)(p:AI)(t:Sys):Pure Tryz.prog TB 39 [BD s,Bp p,BD t] (eI .i64 (Bj s p t)):=by
 refine eN Tryz.func39 rfl (by kernel_rfl) rfl ?_;intro Γ b;(repeat' first|refine tA rfl ?_|refine s2 rfl λ_ a=>?_|(refine sC rfl (Cf s) ?_;intro _ a)|(refine sC rfl (Be p) ?_;intro _ a)|(refine sC rfl (Cf t) ?_;intro _ a)|refine s3 rfl ?_ ?_<;>rintro rfl|refine aV rfl ?_|apply Aa|(refine aC rfl ?_ ?_<;>rintro⟨⟩)|refine aR ⟨_,rfl,?_⟩)
 all_goals (show E.o _=E.o _;congr;unfold Bj;grind)
def HZ{α:Type}(l:List α)(z:α)(k:Nat):List α:=l.take k++List.replicate (l.length-k) z
theorem im{α:Type}(l:List α)(z:α):HZ l z 0=List.replicate l.length z:=by simp[HZ]
theorem Xp{α:Type}(l:List α)(z:α):HZ l z l.length=l:=by simp[HZ]
theorem Xq{α:Type}{l:List α}{z:α}{k:Nat}(h:k<l.length):(HZ l z k)[0+((k:Nat):Int).toNat]?=some z:=by
 rw[lm,f6];unfold HZ;rw[i7 (by simp;omega)]
 have:0<l.length-k:=by omega
 have e:k-(l.take k).length=0:=by simp;omega
 rw[e,wX,if_pos this]
theorem Xr{α:Type}{l:List α}{z x:α}{k:Nat}(h:l[k]?=some x):(HZ l z k).set (0+((k:Nat):Int).toNat) x=HZ l z (k+1):=by
 have hk:=(am.1 h).1;rw[lm,f6];unfold HZ;rw[vX _ _ (by simp;omega)]
 have b:k-(l.take k).length=0:=by simp;omega
 have a:l.length-k=(l.length-(k+1))+1:=by omega
 rw[b,a,vO,xq,d9,h];simp
theorem iq{l:List (List C)}{z:List C}{k:Nat}{r:Nat->Nat}(c:∀x∈l,C.Ch r x=x)(a:C.Ch r z=z):(HZ l z k).map (C.Ch r)=HZ l z k:=by
 unfold HZ;rw[uz,List.map_replicate,a];congr 1;refine(uA λx b=>?_).trans (List.map_id _);exact c x (t7 b)
abbrev Ys(t:AW):List D:=[BZ t.rows,BZ t.cols]
abbrev Ej(t:AW):E:=.a [.d (BZ t.rows),.d (BZ t.cols)]
abbrev JO(al:Int)(c:C):E:=.a [.d (iD al),c]
mutual
theorem Fo:∀(c:C),c.Cg=true->∀r,c.A6 r=c
 | .d x,_,r=>rfl
 | .fn g cap,h,r=>by
  simp only[C.Cg]at h;simp only[C.A6,Rv cap h r]
 | .arr ..,h,_=>by cases h
 | .ptr ..,h,_=>by cases h
 | .mp ..,h,_=>by cases h
 | .mv g l,h,r=>by
  simp only[C.Cg]at h;simp only[C.A6,Rv l h r]
theorem Rv:∀(l:List C),C.Db l=true->∀r,C.Ch r l=l
 | [],_,r=>rfl
 | c::l,h,r=>by
  simp only[C.Db,d4]at h;simp only[C.Ch,Fo c h.1 r,Rv l h.2 r]
end
structure KU (P:Program) (TB:BB) (c:C) (L:W->Bool) (ok:W->Prop):Prop where
 Cg:c.Cg=true
 ask:∀ {Γ:Ctx} {d:Option Tmp} {ty:TypeId} {pos:String} {af:Array Edge} {g:Option (Nat×Bool)} {f:Env} {σ:Ac} {nx:Nat} {x a:Operand} {tys:Array TypeId} {w:W},
  ev f x=some (.o c)->ev f a=some (eT w)->ok w->A5 P TB Γ ⟨d,.call ⟨.value x,#[a],tys⟩,ty,pos,af,g⟩ f σ nx (eB (L w))
def Xt(L:W->Bool)(cols:List W)(w:W)(k:Nat)(i:Nat):UInt8:=if i<k then TE (L (w++cols.getD i [])) else 0
theorem Zz(L:W->Bool)(cols:List W)(w:W):(BH cols.length λi=>Gp (Xt L cols w cols.length i))=(marks L cols w).map Gp:=by
 apply uV;intro i;by_cases h:i<cols.length
 .rw[DZ h]
  simp[marks,Xt,h]
 .rw[ms (by simp[BH];omega),ms (by simp[marks];omega)]
theorem sg:Gp 0=[C.d (D.v (Value.int IntKind.u8 0))]:=rfl
theorem qy(L:W->Bool)(cols:List W)(w:W)(n:Nat):(BH n λi=>Gp (Xt L cols w 0 i))=List.replicate n (Gp 0):=by
 apply uV;intro i;by_cases h:i<n
 .rw[DZ h];simp[Xt,h]
 .rw[ms (by simp[BH];omega),ms (by simp;omega)]
theorem iv{L:W->Bool}{cols:List W}{w x:W}{k:Nat}(b:cols[k]?=some x):(BH cols.length λi=>Gp (if i=k then TE (L (w++x)) else Xt L cols w k i))=BH cols.length λi=>Gp (Xt L cols w (k+1) i):=by
 refine Dd λi _=>?_;congr 1;unfold Xt;by_cases h:i=k
 .subst h
  rw[if_pos rfl,if_pos (by omega)];simp[b]
 .rw[if_neg h]
  by_cases a:i<k
  .rw[if_pos a,if_pos (by omega)]
  .rw[if_neg a,if_neg (by omega)]
theorem ME{c:C}{L:W->Bool}{ok:W->Prop}(B:KU Tryz.prog TB c L ok)(al:Int)(t:AW)(w:W)(I:t.cols.length<=1048576)(hk:∀x∈t.cols,ok (w++x))(hb:∀x∈t.cols,w.length+x.length<=1048576) :
 Pure Tryz.prog TB 132 [JO al c,Ej t,eT w] (eT (marks L t.cols w)):=by
 have y:=Fo c B.Cg;refine eN Tryz.func132 rfl (by kernel_rfl) rfl ?_;intro Γ b;(repeat first|refine aU rfl ?_);(refine pB rfl ?_);(refine Ai rfl ?_;refine CJ (λ_ _=>C9 rfl rfl rfl) rfl ?_);(repeat first|refine sN rfl ?_|refine tM rfl ?_|refine aU rfl ?_|apply Aa);(refine pW rfl ?_ rfl (by rfl);refine Jg rfl rfl (by rfl) (by rfl) (co rfl) (by omega) (by omega) (by omega) ?_);(repeat first|refine sN rfl ?_|refine tM rfl ?_|refine aU rfl ?_|apply Aa);apply aB;refine Al.A0 (α:={k:Nat // k<=t.cols.length}) (λ⟨k,j⟩=>[(2,eT w),(3,.o (.ptr 0 2 0 0)),(7,.o (.arr 1 1 0 t.cols.length)),(15,.o (.d (BZ t.cols))),(16,eI .i64 t.cols.length),(17,eI .i64 k)]) (λ⟨k,j⟩=>[(1,.cells 5 1 (BH t.cols.length λi=>Gp (Xt L t.cols w k i))),(0,.cells 102 2 [[.d (iD al),c]])]) 2 (λ⟨k,j⟩=>t.cols.length-k) (⟨0,by omega⟩) [0,1] (CC b rfl rfl) (by (simp[cX,zC,b,Ok,y,qy,eC,GD,sg])) ?_;rintro⟨k,j⟩;(try dsimp only);(repeat first|refine s2 rfl λ_ r=>?_|refine aU rfl ?_|apply Aa);(refine aC rfl ?_ ?_<;>rintro⟨⟩)
 .have f:k<t.cols.length:=by (simp only[oZ] at *;omega)
  obtain⟨x,u⟩:=get_some (l:=t.cols) (k:=k) f;have G:=get_map (g:=CU) u;have s:=ce u;have F:=hb x s;have z:=hk x s;have J:=Mw (H:=Xt L t.cols w k) (q:=k) (n:=t.cols.length) f;have e:(BH t.cols.length λi=>Gp (Xt L t.cols w k i)).set (0+((k:Nat):Int).toNat) (Ae (Gp (Xt L t.cols w k k)) 0 (eC (eI .u8 45)))=BH t.cols.length λi=>Gp (if i=k then 45 else Xt L t.cols w k i):=PX (c:=45);have A:=Mw (H:=λi=>if i=k then 45 else Xt L t.cols w k i) (q:=k) (n:=t.cols.length) f;rw[<-e]at A
  have v:(BH t.cols.length λi=>Gp (if i=k then 45 else Xt L t.cols w k i)).set (0+((k:Nat):Int).toNat) (Ae (Gp (if k=k then 45 else Xt L t.cols w k k)) 0 (eC (eI .u8 43)))=BH t.cols.length λi=>Gp (if i=k then 43 else Xt L t.cols w k i):=by
   refine(PX (H:=λi=>if i=k then 45 else Xt L t.cols w k i) (c:=43)).trans ?_;refine Dd λi _=>?_;by_cases h:i=k<;>simp[h]
  have a:=iv (L:=L) (w:=w) u;apply aK;refine aS (aB ?_);(repeat first|((first|refine sM rfl ?_ ?_|refine s4 rfl ‹_› rfl ?_ ?_);first|exact tI|omega)|(refine Ai rfl ?_;refine gA rfl ?_;first|(refine gB (λ_ _=>B.ask rfl rfl z) ?_;intro _ r))|refine aU rfl ?_|apply Aa);(refine aC rfl ?_ ?_<;>rintro⟨⟩)
  ·(repeat first|(refine sM rfl ?_ ?_;first|exact tI|omega)|refine t4 rfl ‹_› rfl ?_|refine aU rfl ?_|apply Aa)
   refine⟨⟨k+1,by omega⟩,by dsimp only;(omega),[0,1],?_⟩;rw[e,v];rw[r]at a;have p:TE true=43:=rfl;have m:TE false=45:=rfl;simp only[p,m]at a;simp[cX,zC,b,Ok,y,a]
  .apply aK
   (repeat first|(refine sM rfl ?_ ?_;first|exact tI|omega)|refine aU rfl ?_|apply Aa);refine⟨⟨k+1,by omega⟩,by dsimp only;(omega),[0,1],?_⟩;rw[e];rw[r]at a;have p:TE true=43:=rfl;have m:TE false=45:=rfl;simp only[p,m]at a;simp[cX,zC,b,Ok,y,a]
 .obtain rfl:k=t.cols.length:=by (simp only[oZ] at *;omega)
  rw[Zz];apply aE;(repeat first|refine tM rfl ?_|(refine Ai rfl ?_;refine gA rfl ?_;first|refine gQ (PV (marks L t.cols w) rfl rfl (by simp[marks]) (by rw[uR,i8 (by simp[marks])])) (by rfl) ?_)|refine aU rfl ?_|apply Aa);refine aR ⟨_,rfl,rfl⟩
def BW(L:W->Bool)(t:AW):Nat->List (W×Int)
 | 0=>[]
 | k+1=>if (Cz (BW L t k) (marks L t.cols (t.rows.getD k []))).isSome then BW L t k else BW L t k++[(marks L t.cols (t.rows.getD k []),(k:Int))]
structure fG (ok:W->Prop) (t:AW):Prop where
 ok:∀w∈t.rows,∀x∈t.cols,ok (w++x)
 rb:∀w∈t.rows,w.length<=65536
 cb:∀x∈t.cols,x.length<=65536
 rl:t.rows.length<=4096
 cl:t.cols.length<=4096
theorem Ib{c:C}{L:W->Bool}{ok:W->Prop}(r:KU Tryz.prog TB c L ok)(al:Int)(t:AW)(ht:fG ok t) :
 Spec Tryz.prog TB 131 [] 0 [JO al c,Ej t] (λx σ nx=>x=.o (.mp 0)/\nx=1/\σ=[(0,.mp (GM (BW L t t.rows.length)))]):=by
 have n:=Fo c r.Cg;have w:=ht.rl;refine eN Tryz.func131 rfl (by kernel_rfl) rfl ?_;intro Γ b;(repeat first|refine aU rfl ?_);(refine pB rfl ?_);(refine Ai rfl ?_;refine CJ (λ_ _=>C9 rfl rfl rfl) rfl ?_);(repeat first|refine tM rfl ?_|refine aU rfl ?_|apply Aa);(refine pW rfl ?_ rfl (by rfl);refine IC ?_);(repeat first|refine sN rfl ?_|refine tM rfl ?_|refine aU rfl ?_|apply Aa);apply aB;refine Al.A0 (α:={k:Nat // k<=t.rows.length}) (λ⟨k,e⟩=>[(2,.o (.ptr 0 2 0 0)),(3,.o (.ip (Ys t))),(5,.o (.mp 1)),(13,.o (.d (BZ t.rows))),(14,eI .i64 t.rows.length),(15,eI .i64 k)]) (λ⟨k,e⟩=>[(1,.mp (GM (BW L t k))),(0,.cells 102 2 [[.d (iD al),c]])]) 2 (λ⟨k,e⟩=>t.rows.length-k) (⟨0,by omega⟩) [0,1] (CC b rfl rfl) (by (simp[cX,zC,b,n,eC,BW,GM])) ?_;rintro⟨k,e⟩;(try dsimp only);(repeat first|refine s2 rfl λ_ f=>?_|refine aU rfl ?_|apply Aa);(refine aC rfl ?_ ?_<;>rintro⟨⟩)
 .have p:k<t.rows.length:=by (simp only[oZ] at *;omega)
  obtain⟨x,m⟩:=get_some (l:=t.rows) (k:=k) p;have v:=get_map (g:=CU) m;have h:=ce m;have u:=ht.rb x h;have z:=ME r al t x (by have:=ht.cl;omega) (ht.ok x h) (λy s=>by have:=ht.cb y s;omega)
  have q:t.rows.getD k []=x:=by simp[m]
  have a:BW L t (k+1)=if (Cz (BW L t k) (marks L t.cols x)).isSome then BW L t k else BW L t k++[(marks L t.cols x,(k:Int))]:=by
   rw[BW,q]
  apply aK;refine aS (aB ?_);(repeat first|refine tM rfl ?_|(refine s4 rfl ‹_› rfl ?_ ?_;omega)|refine s2 rfl λ_ f=>?_|(refine Ai rfl ?_;refine gA rfl ?_;first|refine gS (λ_ _=>Bo rfl rfl (by simp[E.Cg,C.Db,C.Cg,r.Cg]) z rfl) ?_|refine gQ (Vn rfl rfl rfl) (by rfl) ?_)|refine aU rfl ?_|apply Aa);(refine aC rfl ?_ ?_<;>rintro⟨⟩)
  .have j:Cz (BW L t k) (marks L t.cols x)=none:=by simpa using f
   rw[j]at a;(repeat first|refine tM rfl ?_|refine aU rfl ?_);(refine Ai rfl ?_;refine FB ?_ rfl (by rfl);refine mW rfl rfl rfl rfl j ?_);(repeat first|(refine sM rfl ?_ ?_;first|exact tI|omega)|refine aU rfl ?_|apply Aa);refine⟨⟨k+1,by omega⟩,by dsimp only;(omega),[0,1],?_⟩;simp[cX,zC,b,n,a]
  .have j:(Cz (BW L t k) (marks L t.cols x)).isSome=true:=by simpa using f
   rw[if_pos j]at a;apply aK;(repeat first|(refine sM rfl ?_ ?_;first|exact tI|omega)|refine aU rfl ?_|apply Aa);refine⟨⟨k+1,by omega⟩,by dsimp only;(omega),[0,1],?_⟩;simp[cX,zC,b,n,a]
 .obtain rfl:k=t.rows.length:=by (simp only[oZ] at *;omega)
  apply aE;(repeat first|refine tM rfl ?_|refine aU rfl ?_|apply Aa);refine Al.names [1] [(4,.o (.mp 0))] [(0,.mp (GM (BW L t t.rows.length)))] (by intro i hi;rw[b]at hi;omega) (by simp) (by simp[cX,zC,b]) (by simp[cX,zC,b]) ?_;refine aR ⟨_,rfl,rfl,rfl,rfl⟩
theorem dE(l:List (W×Int))(p:W×Int)(s:W):Cz (l++[p]) s=(Cz l s).or (if p.1=s then some p.2 else none):=by
 unfold Cz;rw[xC]
 cases h:l.find? (λp=>decide (p.1=s)) with
 | some q=>simp
 | none=>by_cases hp:p.1=s<;>simp[hp]
theorem Ry{L:W->Bool}{t:AW}{k:Nat}(h:k<t.rows.length):(AH L t)[k]?=some (marks L t.cols (t.rows.getD k [])):=by
 simp[AH,h]
theorem TJ(L:W->Bool)(t:AW):∀k,k<=t.rows.length->∀s,Cz (BW L t k) s=if s∈(AH L t).take k then some (((AH L t).idxOf s:Nat):Int) else none
 | 0,_,s=>by simp[BW,Cz]
 | k + 1, hk, s=>by
  have d:=TJ L t k (by omega);have f:=Ry (L:=L) (t:=t) (k:=k) (by omega);generalize marks L t.cols (t.rows.getD k [])=x at *
  have i:BW L t (k+1)=if (Cz (BW L t k) x).isSome then BW L t k else BW L t k++[(x,(k:Int))]:=by
   have c:=Ry (L:=L) (t:=t) (k:=k) (by omega);rw[f]at c
   injection c with c
   rw[BW,<-c]
  have a:∀s,s∈(AH L t).take (k+1)↔s∈(AH L t).take k\/s=x:=λs=>by
   rw[d9,f];simp
  rw[i];by_cases g:x∈(AH L t).take k
  .rw [if_pos (by rw[d x,if_pos g];rfl),d s]
   by_cases b:s∈(AH L t).take k
   .rw[if_pos b,if_pos ((a s).2 (.inl b))]
   .rw[if_neg b,if_neg]
    intro h
    rcases(a s).1 h with h|h
    .exact b h
    .subst h;exact b g
  .rw [if_neg (by rw[d x,if_neg g];simp),dE,d s]
   by_cases b:s∈(AH L t).take k
   .rw[if_pos b,if_pos ((a s).2 (.inl b))];rfl
   .rw [if_neg b]
    by_cases m:x=s
    .subst m
     rw[if_pos ((a x).2 (.inr rfl))]
     have l:(AH L t).idxOf x=k:=by
      have n:k<(AH L t).length:=(am.1 f).1
      have e:AH L t=(AH L t).take k++x::(AH L t).drop (k+1):=by
       rw[<-Bm f,uE]
      rw[e,vu,if_neg g,wJ];simp;omega
     simp[l]
    .have j:s∉(AH L t).take (k+1):=λh=>by
      rcases(a s).1 h with h|h
      .exact b h
      .exact m h.symm
     rw[if_neg j];simp[m]
theorem Xz{L:W->Bool}{t:AW}{s:W}:Cz (BW L t t.rows.length) s=if s∈AH L t then some (((AH L t).idxOf s:Nat):Int) else none:=by
 have h:=TJ L t t.rows.length (jp _) s;have e:(AH L t).take t.rows.length=AH L t:=i8 (by simp[AH]);rwa[e]at h
theorem bU{L:W->Bool}{ls:List UInt8}{t:AW}{k j:Nat}{r:W}{l:UInt8}(e:t.rows[k]?=some r)(f:ls[j]?=some l)(n:∀w∈CT ls (t.rows.take k),marks L t.cols w∈AH L t)(m:∀x∈ls.take j,marks L t.cols (r++[x])∈AH L t)
 (i:marks L t.cols (r++[l])∉AH L t):A7 L ls t=some (r++[l]):=by
 have q:t.rows=t.rows.take k++r::t.rows.drop (k+1):=by
  rw[<-Bm e,uE]
 have p:ls=ls.take j++l::ls.drop (j+1):=by
  rw[<-Bm f,uE]
 have o:CT ls t.rows=CT ls (t.rows.take k)++((ls.take j).map (λx=>r++[x])++(r++[l])::((ls.drop (j+1)).map (λx=>r++[x])++CT ls (t.rows.drop (k+1)))):=by
  have h:CT ls t.rows=CT ls (t.rows.take k++r::t.rows.drop (k+1)):=congrArg _ q;rw[h];unfold CT;rw[List.flatMap_append,wA];have g:ls.map (λx=>r++[x])=(ls.take j++l::ls.drop (j+1)).map (λx=>r++[x]):=congrArg _ p;rw[g];simp
 unfold A7;rw[o,xC,xC]
 have c:(CT ls (t.rows.take k)).find? (λw=>!(AH L t).contains (marks L t.cols w))=none:=vU.2 λw a=>by simpa using n w a
 have b:((ls.take j).map (λx=>r++[x])).find? (λw=>!(AH L t).contains (marks L t.cols w))=none:=vU.2 λw a=>by
  obtain⟨x,d,rfl⟩:=d8.1 a
  simpa using m x d
 rw[c,b];simp[i]
def lb(l:Int):UInt8:=UInt8.ofNat (97+l.toNat)
def AR(al:Int):List UInt8:=(Ab al).map lb
def dr(o:Option W):E:=match o with
 | some w=>.t [(false,[.d (tD w)]),(false,[.d (bD true)])]
 | none=>.t [(false,[.d (tD [])]),(false,[.d (bD false)])]
theorem ic{l:Int}(a:0<=l):UInt8.ofNat (97+l).toNat=lb l:=by
 unfold lb;congr 1;omega
theorem WJ{L:W->Bool}{t:AW}{s:W}:(Cz (BW L t t.rows.length) s).isSome=true↔s∈AH L t:=by
 rw[Xz];by_cases h:s∈AH L t<;>simp[h]
theorem QQ{ls:List UInt8}{t:AW}{k:Nat}{r:W}(h:t.rows[k]?=some r):CT ls (t.rows.take (k+1))=CT ls (t.rows.take k)++ls.map λl=>r++[l]:=by
 unfold CT;rw[d9,h];simp
theorem Uz{c:C}{L:W->Bool}{ok:W->Prop}(G:KU Tryz.prog TB c L ok)(al:Int)(t:AW)(ht:fG ok t)(T:∀w∈t.rows,∀l∈AR al,∀x∈t.cols,ok (w++[l]++x)) :
 Pure Tryz.prog TB 179 [JO al c,Ej t] (dr (A7 L (AR al) t)):=by
 have v:=Fo c G.Cg;have S:=ht.rl;have V:(Ab al).length<=6:=AA al 6;refine eN Tryz.func179 rfl (by kernel_rfl) rfl ?_;intro Γ b;(repeat first|refine aU rfl ?_);(refine pB rfl ?_);(refine Ai rfl ?_;refine CJ (λ_ _=>C9 rfl rfl rfl) rfl ?_);(repeat first|refine tM rfl ?_|refine aU rfl ?_|apply Aa);(refine pW rfl ?_ rfl (by rfl);refine BE [] rfl rfl (Ib G al t ht) ⟨rfl,by simp,by simp⟩ (by simp[Ep,E.A6,C.Ch,C.A6,v,eC]) trivial ?_;rintro Y M N ⟨rfl,rfl,rfl⟩ _);(repeat first|refine sN rfl ?_|refine tM rfl ?_|refine aU rfl ?_|apply Aa);apply aB;refine Al.A0 (α:={k:Nat // k<=t.rows.length/\∀w∈CT (AR al) (t.rows.take k),marks L t.cols w∈AH L t}) (λ⟨k,p,e⟩=>[(2,.o (.ptr 0 2 0 0)),(3,.o (.ip (Ys t))),(6,.o (.mp 1)),(18,.o (.d (BZ t.rows))),(19,eI .i64 t.rows.length),(20,eI .i64 k)]) (λ⟨k,p,e⟩=>[(1,.mp (GM (BW L t t.rows.length))),(0,.cells 102 2 [[.d (iD al),c]])]) 2 (λ⟨k,p,e⟩=>t.rows.length-k) (⟨0,by omega,by simp[CT]⟩) [0,1] (CC b rfl rfl) (by (simp[cX,zC,b,v,eC,Ac.A6,BR,Ih])) ?_;rintro⟨k,p,e⟩;(try dsimp only);(repeat first|refine s2 rfl λ_ i=>?_|refine aU rfl ?_|apply Aa);(refine aC rfl ?_ ?_<;>rintro⟨⟩)
 .have I:k<t.rows.length:=by (simp only[oZ] at *;omega)
  obtain⟨r,a⟩:=get_some (l:=t.rows) (k:=k) I;have R:=get_map (g:=CU) a;have u:=ce a;have Q:=ht.rb r u;apply aK;refine aS (aB ?_);(repeat first|refine sN rfl ?_|refine tM rfl ?_|(refine s4 rfl ‹_› rfl ?_ ?_;omega)|refine sP rfl (Cq al) rfl ?_|refine aU rfl ?_|apply Aa);apply aB;refine Al.A0 (α:={j:Nat // j<=(Ab al).length/\∀x∈(AR al).take j,marks L t.cols (r++[x])∈AH L t}) (λ⟨j,q,f⟩=>[(2,.o (.ptr 0 2 0 0)),(3,.o (.ip (Ys t))),(6,.o (.mp 1)),(18,.o (.d (BZ t.rows))),(19,eI .i64 t.rows.length),(20,eI .i64 k),(8,eT r),(26,Aj (Ab al)),(27,eI .i64 (Ab al).length),(28,eI .i64 j)]) (λ⟨j,q,f⟩=>[(1,.mp (GM (BW L t t.rows.length))),(0,.cells 102 2 [[.d (iD al),c]])]) 2 (λ⟨j,q,f⟩=>(Ab al).length-j) (⟨0,by omega,by simp⟩) [0,1] (CC b rfl rfl) (by (simp[cX,zC,b,v])) ?_;rintro⟨j,q,f⟩;(try dsimp only);(repeat first|refine s2 rfl λ_ i=>?_|refine aU rfl ?_|apply Aa);(refine aC rfl ?_ ?_<;>rintro⟨⟩)
  .have B:j<(Ab al).length:=by (simp only[oZ] at *;omega)
   obtain⟨l,K⟩:=get_some (l:=Ab al) (k:=j) B;have X:=get_map (g:=A9) K;have z:=Af (ce K)
   have n:(AR al)[j]?=some (lb l):=by simp[AR,K]
   have J:=ce n;have U:=ME G al t (r++[lb l]) (by have:=ht.cl;omega) (λx a=>T r u _ J x a) (λy P=>by have:=ht.cb y P;simp;omega);apply aK;refine aS (aB ?_);(repeat first|(refine sM rfl ?_ ?_;first|exact tI|omega|simp only[oZ] at *;omega)|(refine s4 rfl ‹_› rfl ?_ ?_;omega)|refine sP rfl (Gi l z.1 (by omega)) rfl ?_|(refine Ai rfl ?_;refine gA rfl ?_;first|refine gS (λ_ _=>ZN rfl (by omega) (by omega)) ?_)|refine aU rfl ?_|apply Aa);rw[ic z.1];(repeat first|refine tM rfl ?_|refine s2 rfl λ_ i=>?_|(refine Ai rfl ?_;refine gA rfl ?_;first|refine gS (λ_ _=>Bo rfl rfl (by simp[E.Cg,C.Db,C.Cg,G.Cg]) U rfl) ?_|refine gQ (Vn rfl rfl rfl) (by rfl) ?_)|refine aU rfl ?_|apply Aa);(refine aC rfl ?_ ?_<;>rintro⟨⟩)
   .have hno:marks L t.cols (r++[lb l])∉AH L t:=λh=>by
     rw[WJ.2 h]at i;cases i
    (repeat first|refine tM rfl ?_|refine aU rfl ?_|apply Aa);refine aR ⟨_,rfl,?_⟩;rw[bU a n e f hno];rfl
   .have s:marks L t.cols (r++[lb l])∈AH L t:=WJ.1 (by simpa using i)
    have F:∀x∈(AR al).take (j+1),marks L t.cols (r++[x])∈AH L t:=λx a=>by
     rw[d9,n]at a
     rcases f7.1 a with a|a
     .exact f x a
     .simp at a;subst a;exact s
    apply aK;(repeat first|(refine sM rfl ?_ ?_;first|exact tI|omega)|refine aU rfl ?_|apply Aa);refine⟨⟨j+1,by omega,F⟩,by dsimp only;(omega),[0,1],?_⟩;simp[cX,zC,b,v]
  .obtain rfl:j=(Ab al).length:=by (simp only[oZ] at *;omega)
   have A:∀w∈CT (AR al) (t.rows.take (k+1)),marks L t.cols w∈AH L t:=λw m=>by
    rw[QQ a]at m
    rcases f7.1 m with m|m
    .exact e w m
    .obtain⟨x,H,rfl⟩:=d8.1 m
     exact f x (by rw[i8 (by simp[AR])];exact H)
   apply aE;(repeat first|(refine sM rfl ?_ ?_;first|exact tI|omega)|refine aU rfl ?_|apply Aa);refine⟨⟨k+1,by omega,A⟩,by dsimp only;(omega),[0,1],?_⟩;simp[cX,zC,b,v]
 .obtain rfl:k=t.rows.length:=by (simp only[oZ] at *;omega)
  have hno:A7 L (AR al) t=none:=vU.2 λw m=>by
   have:=e w (by rw[i9];exact m)
   simpa using this
  apply aE;(repeat first|refine tM rfl ?_|refine aU rfl ?_|apply Aa);refine aR ⟨_,rfl,?_⟩;rw[hno];rfl
theorem Mn(l:List W)(h:l.length<=1048576):Spec Tryz.prog TB 178 [] 0 [BQ l] (λx σ nx=>x=.o (.arr 0 1 0 l.length)/\nx=1/\σ=[(0,.cells 9 1 (l.map Er))]):=by
 refine eN Tryz.func178 rfl (by kernel_rfl) rfl ?_;intro Γ b;(repeat first|refine aU rfl ?_);(refine Ai rfl ?_;refine CJ (λ_ _=>CM rfl) rfl ?_);(repeat first|refine tM rfl ?_|refine aU rfl ?_|apply Aa);(refine pW rfl ?_ rfl (by rfl);refine MK rfl ?_;intro e c);(repeat first|apply Aa);(refine aC rfl ?_ ?_<;>rintro⟨⟩)
 .obtain rfl:l=[]:=by simpa using c rfl
  (repeat first|refine aU rfl ?_);(refine pW rfl ?_ rfl (by rfl);refine Fh 1 9 ?_);(repeat first|apply Aa);refine aR ⟨_,rfl,rfl,rfl,rfl⟩
 .apply aK
  (repeat first|refine aU rfl ?_);(refine pB rfl ?_);(repeat first|refine tM rfl ?_);(refine pW rfl ?_ rfl (by rfl);refine BY rfl rfl rfl (by first|(simp;done)|(simp;(omega))) rfl (by intro r d;simp at d;obtain⟨a,_,rfl⟩:=d;rfl) (by rfl) (co rfl) (by simp;omega) ?_);(repeat first|refine tM rfl ?_|apply Aa);refine Al.names [1] [(2,.o (.arr 0 1 0 l.length))] [(0,.cells 9 1 (l.map Er))] (by intro i hi;rw[b]at hi;omega) (by simp) (by simp[cX,zC,b]) (by simp[cX,zC,b]) ?_;refine aR ⟨_,rfl,rfl,rfl,rfl⟩
theorem gX(l:List W)(s:W):Pure Tryz.prog TB 213 [BQ l,eT s] (eI .i64 (if s∈l then (l.idxOf s:Int) else -1)):=by
 refine eN Tryz.func213 rfl (by kernel_rfl) rfl ?_;intro Γ a;refine Al.bound 0 rfl λj=>?_;have o:=j (l.map CU) .refl;(repeat first|refine sN rfl ?_|refine tM rfl ?_|refine aU rfl ?_|apply Aa);apply aB;refine Al.A0 (α:={k:Nat // k<=l.length/\s∉l.take k}) (λ⟨k,hk,b⟩=>[(0,BQ l),(1,eT s),(7,eI .i64 l.length),(8,eI .i64 k)]) (λ⟨k,hk,b⟩=>[]) 0 (λ⟨k,hk,b⟩=>l.length-k) (⟨0,by omega,by simp⟩) [] (CC a rfl rfl) (by (simp[cX,zC,a])) ?_;rintro⟨k,hk,b⟩;(try dsimp only);(repeat first|refine s2 rfl λ_ c=>?_|refine aU rfl ?_|apply Aa);(refine aC rfl ?_ ?_<;>rintro⟨⟩)
 .have h:k<l.length:=by (simp only[oZ] at *;omega)
  obtain⟨x,d⟩:=get_some (l:=l) (k:=k) h;have m:=get_map (g:=CU) d;apply aK;refine aS (aB ?_);(repeat first|refine tM rfl ?_|(refine s4 rfl ‹_› rfl ?_ ?_;omega)|refine s2 rfl λ_ c=>?_|refine aU rfl ?_|apply Aa);(refine aC rfl ?_ ?_<;>rintro⟨⟩)
  .have i:s=x:=by (simp only[oZ] at *;omega)
   subst i;(repeat first|refine tM rfl ?_|refine aU rfl ?_|apply Aa);refine aR ⟨_,rfl,?_⟩;have n:s∈l:=ce d
   have hi:l.idxOf s=k:=by
    have e:l=l.take k++s::l.drop (k+1):=by rw[<-Bm d,uE]
    rw[e,vu,if_neg b,wJ];simp;omega
   rw[if_pos n,hi]
  .have i:¬s=x:=by simpa using c
   have f:s∉l.take (k+1):=by
    rw[d9,d];simp[b,i]
   apply aK;(repeat first|(refine sM rfl ?_ ?_;first|exact tI|simp only[oZ] at *;omega)|refine aU rfl ?_|apply Aa);refine⟨⟨k+1,by omega,f⟩,by dsimp only;(omega),[],?_⟩;simp[cX,zC,a]
 .obtain rfl:k=l.length:=by (simp only[oZ] at *;omega)
  rw[i9]at b;apply aE;(repeat first|refine tM rfl ?_|refine aU rfl ?_|apply Aa);refine aR ⟨_,rfl,?_⟩;rw[if_neg b]
theorem OG(l:List W)(s:W):Pure Tryz.prog TB 180 [BQ l,eT s] (eB (decide (s∈l))):=by
 refine eN Tryz.func180 rfl (by kernel_rfl) rfl ?_;intro Γ b;(repeat' first|refine tA rfl ?_|refine s2 rfl λ_ a=>?_|refine sP rfl (gX l s) rfl ?_|refine aV rfl ?_|apply Aa|(refine aC rfl ?_ ?_<;>rintro⟨⟩)|refine aR ⟨_,rfl,?_⟩)
 all_goals (show E.o _=E.o _;congr;subst a;by_cases h:s∈l<;>simp[h])
def FM(t:AW)(col:W):Option AW:=if t.cols.length=20\/col∈t.cols then none else some ⟨t.rows,t.cols++[col]⟩
def Jq(o:Option AW):E:=match o with
 | some t=>.t [(true,[.d (BZ t.rows),.d (BZ t.cols)]),(false,[.d (bD true)])]
 | none=>.t [(true,[.d (.l []),.d (.l [])]),(false,[.d (bD false)])]
theorem Uf(t:AW)(col:W)(p:t.rows.length<=4096)(n:t.cols.length<=4096):Pure Tryz.prog TB 135 [Ej t,eT col] (Jq (FM t col)):=by
 have k:=Mn (TB:=TB) t.rows (by omega);have j:=Mn (TB:=TB) t.cols (by omega);refine AE.Ic (AE.ofM 2 (jp _) Tryz.func135 rfl rfl (by kernel_rfl) (co rfl) ?_);intro Γ a;(repeat first|refine aU rfl ?_);(refine Ai rfl ?_;refine CJ (λ_ _=>C9 rfl rfl rfl) rfl ?_);(repeat first|refine sN rfl ?_|refine tM rfl ?_|refine s2 rfl λ_ b=>?_|(refine sC rfl (OG t.cols col) ?_;intro _ b)|refine s3 rfl ?_ ?_<;>rintro rfl|refine aU rfl ?_|apply Aa)
 ·(refine aC rfl ?_ ?_<;>rintro⟨⟩)
  have c:FM t col=none:=by unfold FM;rw[if_pos (.inl (by (simp only[oZ] at *;omega)))]
  (repeat first|refine tM rfl ?_|refine sV rfl rfl (by rfl) (by rfl) ?_|refine aU rfl ?_|apply Aa);refine Al.freeze [0] [(4,.o (.ip [.l [],.l []])),(5,eB false)] ⟨⟨_,rfl,.o (.ptr (by simp) rfl rfl rfl)⟩,⟨_,rfl,.AM⟩,trivial⟩ ?_;refine aR ⟨_,rfl,?_⟩;rw[c];rfl
 (repeat first|refine tM rfl ?_|(refine sC rfl (OG t.cols col) ?_;intro _ b)|apply Aa);(refine aC rfl ?_ ?_<;>rintro⟨⟩)
 .have c:FM t col=none:=by unfold FM;rw[if_pos (.inr (by (simp only[oZ] at *;omega)))]
  (repeat first|refine tM rfl ?_|refine sV rfl rfl (by rfl) (by rfl) ?_|refine aU rfl ?_|apply Aa);refine Al.freeze [0] [(4,.o (.ip [.l [],.l []])),(5,eB false)] ⟨⟨_,rfl,.o (.ptr (by simp) rfl rfl rfl)⟩,⟨_,rfl,.AM⟩,trivial⟩ ?_;refine aR ⟨_,rfl,?_⟩;rw[c];rfl
 .apply aK
  apply aS;refine rG (tg [0,1,3,4,6,7,2,5,8,9,10,11] [2,5,8,10] [0,1,3,4,6,7]) (by kernel_rfl) ?_;(repeat first|refine tA rfl ?_);(refine pW rfl ?_ rfl (by rfl);refine BE [] rfl rfl k ⟨rfl,by simp,by simp⟩ rfl trivial ?_;rintro m e f ⟨rfl,rfl,rfl⟩ _);(refine pW rfl ?_ rfl (by rfl);refine BE [] rfl rfl j ⟨rfl,by simp,by simp⟩ rfl trivial ?_;rintro m e f ⟨rfl,rfl,rfl⟩ _);(refine pA rfl (by simp) (by simp;omega) ?_);(repeat first|refine tA rfl ?_|refine sV rfl rfl (by rfl) (by rfl) ?_|apply Aa)
  have g:col∉t.cols:=by simpa using b
  have c:FM t col=some ⟨t.rows,t.cols++[col]⟩:=by
   unfold FM;rw[if_neg];rintro(h|h)
   ·(simp only[oZ] at *;omega)
   .exact g h
  refine Al.names [0,1,3] [(4,.o (.ptr 0 2 0 0)),(5,eB true)] [(0,.cells 109 2 [[.arr 1 1 0 t.rows.length,.arr 2 1 0 (t.cols.length+1)]]),(1,.cells 9 1 (t.rows.map Er)),(2,.cells 9 1 ((t.cols++[col]).map Er))] (by intro i hi;rw[a]at hi;omega) (by simp) (by simp[cX,zC,a,Ih]) (by simp[cX,zC,a,Ih,Ac.A6,BR,Bl,eC,Ae]) ?_;refine Al.Pz [1,2] [(4,.o (.ptr 0 2 0 0)),(5,eB true)] [(0,.cells 109 2 [[.d (BZ t.rows),.d (BZ (t.cols++[col]))]])] ⟨⟨_,rfl,.AM⟩,⟨_,rfl,.AM⟩,trivial⟩ ⟨⟨_,rfl,by simp,.cons (.full (by simp) rfl (by simp[d6]) (by simp)) (.cons (.full (by simp) rfl (by simp[d6]) (by simp)) .nil)⟩,trivial⟩ ?_;refine Al.freeze [0] [(4,.o (.ip [BZ t.rows,BZ (t.cols++[col])])),(5,eB true)] ⟨⟨_,rfl,.o (.ptr (by simp) rfl rfl rfl)⟩,⟨_,rfl,.AM⟩,trivial⟩ ?_;refine aR ⟨_,rfl,?_⟩;rw[c];rfl
structure HE (al:Int) (b:Nat) (t:AW):Prop where
 onR:∀w∈t.rows,Ax (AR al) w/\w.length<=b
 onC:∀x∈t.cols,Ax (AR al) x/\x.length<=20000
 rl:t.rows.length<=12
 cl:t.cols.length<=20
def Ud(ok:W->Prop)(al:Int):Prop:=∀w,Ax (AR al) w->w.length<=50000->ok w
def OD(ls:List UInt8)(t:AW)(v:W):Prop:=∃r∈t.rows,∃m:W,(m=[]\/∃l∈ls,m=[l])/\∃x:W,(x=[]\/x∈t.cols)/\v=r++m++x
def JC(ok:W->Prop)(ls:List UInt8)(t:AW):Prop:=∀v,OD ls t v->ok v
def Ff(L:W->Bool)(ls:List UInt8):Nat->AW->List AW
 | 0,t=>[t]
 | n+1,t=>t::match A7 L ls t with
  | none=>[]
  | some w=>if t.rows.length=12 then [] else Ff L ls n ⟨t.rows++[w],t.cols⟩
theorem Zb{L:W->Bool}{ls:List UInt8}{n:Nat}{t:AW}:t∈Ff L ls n t:=by cases n<;>simp[Ff]
theorem HE.nA{ok:W->Prop}{al:Int}{b:Nat}{t:AW}(h:HE al b t)(d:JC ok (AR al) t)(hb:b<=20100):fG ok t/\∀w∈t.rows,∀l∈AR al,∀x∈t.cols,ok (w++[l]++x):=
  ⟨⟨λw c x a=>d _ ⟨w,c,[],.inl rfl,x,.inr a,by simp⟩,λw c=>by have:=(h.onR w c).2;omega,λx a=>by have:=(h.onC x a).2;omega,by have:=h.rl;omega,by have:=h.cl;omega⟩,
   λw c l e x a=>d _ ⟨w,c,[l],.inr ⟨l,e,rfl⟩,x,.inr a,rfl⟩⟩
theorem HE.on{ok:W->Prop}{al:Int}{b:Nat}{t:AW}(h:HE al b t)(i:Ud ok al)(hb:b<=20100):JC ok (AR al) t:=by
 rintro v ⟨r,e,m,f,x,d,rfl⟩;have n:=h.onR r e
 have k:Ax (AR al) m/\m.length<=1:=by
  rcases f with rfl|⟨l,g,rfl⟩
  .exact⟨λc a=>by simp at a,by simp⟩
  .exact⟨λc a=>by simp at a;subst a;exact g,by simp⟩
 have j:Ax (AR al) x/\x.length<=20000:=by
  rcases d with rfl|d
  .exact⟨λc a=>by simp at a,by simp⟩
  .exact h.onC x d
 refine i _ (λc a=>?_) (by simp;omega);simp only[f7]at a
 rcases a with (a|a)|a
 .exact n.1 c a
 .exact k.1 c a
 .exact j.1 c a
theorem HE.push{L:W->Bool}{al:Int}{b:Nat}{t:AW}{w:W}(h:HE al b t)(g:A7 L (AR al) t=some w)(i:t.rows.length<12):HE al (b+1) ⟨t.rows++[w],t.cols⟩:=by
 obtain⟨⟨r,f,l,e,rfl⟩,_⟩:=Jh g;refine⟨λu a=>?_,h.onC,by simp;omega,h.cl⟩
 rcases f7.1 a with a|a
 .have:=h.onR u a;exact⟨this.1,by omega⟩
 .simp at a
  subst a;have:=h.onR r f;refine⟨λc d=>?_,by simp;omega⟩
  rcases f7.1 d with d|d
  .exact this.1 c d
  .simp at d;subst d;exact e
theorem HE.grow{L:W->Bool}{al:Int}:∀ {n b:Nat} {t y:AW},HE al b t->y∈Ff L (AR al) n t->HE al (b+n) y
 | 0,b,t,y,h,a=>by simp[Ff]at a;subst a;exact h
 | n + 1, b,t,y,h,a=>by
  have f:∀ {b':Nat} {z:AW},b'<=b+(n+1)->HE al b' z->HE al (b+(n+1)) z:=λhb c=>⟨λw e=>⟨(c.onR w e).1,l3 (c.onR w e).2 hb⟩,c.onC,c.rl,c.cl⟩
  unfold Ff at a
  rcases lc.1 a with rfl|a
  .exact f (by omega) h
  .cases d:A7 L (AR al) t with
   | none=>rw[d]at a;simp at a
   | some w=>
    rw[d]at a;dsimp only at a;split at a
    .simp at a
    .have:=h.rl
     exact f (by omega) (HE.grow (h.push d (by omega)) a)
theorem HE.tn{L:W->Bool}{ok:W->Prop}{al:Int}{b:Nat}{t:AW}(h:HE al b t)(c:Ud ok al)(hb:b<=20000):∀y∈Ff L (AR al) 13 t,JC ok (AR al) y:=λy a=>(h.grow a).on c (by omega)
theorem JJ{c:C}{L:W->Bool}{ok:W->Prop}(J:KU Tryz.prog TB c L ok)(al:Int)(t:AW)(X:∀y∈Ff L (AR al) 13 t,JC ok (AR al) y)(ht:HE al 20000 t) :
 Pure Tryz.prog TB 130 [JO al c,Ej t] (Jq (Bd L (AR al) 13 t)):=by
 have N:=Fo c J.Cg;have V:=ht.rl;have Y:=ht.cl;have I:=Mn (TB:=TB) t.rows (by omega);have H:=Mn (TB:=TB) t.cols (by omega);refine AE.Ic (AE.ofM 2 (jp _) Tryz.func130 rfl rfl (by kernel_rfl) (co rfl) ?_);intro Γ b;(repeat first|refine aU rfl ?_);(refine pB rfl ?_);(refine Ai rfl ?_;refine CJ (λ_ _=>C9 rfl rfl rfl) rfl ?_);(repeat first|refine tM rfl ?_|refine aU rfl ?_|apply Aa);refine R.SL [(7,3),(0,2),(1,2),(3,2),(4,2),(2,1),(5,1),(6,0),(8,5)] mixed (by kernel_rfl) rfl (by kernel_rfl) ?_;(repeat ((refine R.Ai rfl ?_;first|(refine R.yQ (md:=false) rfl rfl rfl ?_ ?_;exact tI)|refine R.yP rfl rfl rfl rfl ?_ )));(refine R.Ai rfl ?_;refine R.Lc (λ_=>?_) rfl rfl;refine BE [] rfl rfl I ⟨rfl,by simp,by simp⟩ rfl trivial ?_;rintro P B F ⟨rfl,rfl,rfl⟩ _);(refine R.Ai rfl ?_;refine R.Lc (λ_=>?_) rfl rfl;refine BE [] rfl rfl H ⟨rfl,by simp,by simp⟩ rfl trivial ?_;rintro P B F ⟨rfl,rfl,rfl⟩ _);(repeat ((refine R.Ai rfl ?_;first|refine R.yA rfl rfl rfl rfl ?_|refine R.CJ (λ_ _ _=>MX rfl rfl (by rfl) (by rfl)) rfl rfl ?_ )));refine R.SF ?_;apply aB
 have Q:∀x:AW,A7 L (AR al) x=none\/∃w,A7 L (AR al) x=some w:=λx=>by cases A7 L (AR al) x<;>simp
 refine Al.A0 (α:={p:Nat×AW // p.1<=13/\13<=p.1+p.2.rows.length/\HE al (20000+p.2.rows.length) p.2/\Bd L (AR al) 13 t=Bd L (AR al) p.1 p.2/\∀y∈Ff L (AR al) p.1 p.2,JC ok (AR al) y}) (λ⟨⟨m,u⟩,A,f,j,q,e⟩=>[(2,.o (.ptr 0 2 0 0)),(4,.o (.ptr 1 2 0 0)),(6,.o (.ptr 4 2 0 0))]) (λ⟨⟨m,u⟩,A,f,j,q,e⟩=>[(0,.cells 102 2 [[.d (iD al),c]]),(1,.cells 109 2 [[.d (.l []),.d (.l [])]]),(2,.cells 9 1 (u.rows.map Er)),(3,.cells 9 1 (u.cols.map Er)),(4,.cells 109 2 [[.arr 2 1 0 u.rows.length,.arr 3 1 0 u.cols.length]])]) 5 (λ⟨⟨m,u⟩,A,f,j,q,e⟩=>m) (⟨(13,t),by simp,by simp,⟨λw M=>⟨(ht.onR w M).1,by have:=(ht.onR w M).2;omega⟩,ht.onC,ht.rl,ht.cl⟩,rfl,X⟩) [0,1,2,3,4] (CC b rfl rfl) (by (simp[cX,zC,b,N,eC,Ac.A6,BR,Ih,Bl,Ae])) ?_;rintro⟨⟨m,u⟩,A,f,j,q,e⟩;(try dsimp only);dsimp only at A f j q e
 have s:∀l:List W,((l.map Er).drop 0).take l.length=(l.map CU).map (λr=>r.map C.d):=λl=>by rw[uR,i8 (by simp)];simp[d6]
 have T:=j.rl;have U:=j.cl;have n:=j.nA (e u Zb) (by omega);have g:=Uz (TB:=TB) J al u n.1 n.2
 have z:nk [(0,.cells 102 2 [[.d (iD al),c]]),(1,.cells 109 2 [[.d (.l []),.d (.l [])]]),(2,.cells 9 1 (u.rows.map Er)),(3,.cells 9 1 (u.cols.map Er)),(4,.cells 109 2 [[.arr 2 1 0 u.rows.length,.arr 3 1 0 u.cols.length]])] [.a [.d (iD al),c],.a [.arr 2 1 0 u.rows.length,.arr 3 1 0 u.cols.length]] [JO al c,Ej u]:=
  .cons (.cons (.pure rfl) (.cons (.pure J.Cg) .nil)) (.cons (.cons (.arr rfl (by simp) (s _)) (.cons (.arr rfl (by simp) (s _)) .nil)) .nil)
 apply aB
 rcases Q u with k|⟨w,k⟩
 .rw [k]at g
  (repeat first|refine tM rfl ?_|refine s2 rfl λ_ h=>?_|(refine Ai rfl ?_;refine gA rfl ?_;first|refine gQ (Jj rfl rfl (z) (g) rfl) rfl ?_)|refine aU rfl ?_|apply Aa);(refine aC rfl ?_ ?_<;>rintro⟨⟩)
  ·(repeat first|refine tM rfl ?_|refine aU rfl ?_|apply Aa)
   have v:Bd L (AR al) 13 t=some u:=by
    rw[q]
    obtain⟨m',rfl⟩:∃m',m=m'+1:=⟨m-1,by omega⟩
    simp[Bd,k]
   refine Al.names [1,2,3] [(4,.o (.ptr 0 2 0 0)),(5,eB true)] [(0,.cells 109 2 [[.arr 1 1 0 u.rows.length,.arr 2 1 0 u.cols.length]]),(1,.cells 9 1 (u.rows.map Er)),(2,.cells 9 1 (u.cols.map Er))] (by intro i hi;rw[b]at hi;omega) (by simp) (by simp[cX,zC,b,Ih]) (by simp[cX,zC,b,Ih,Ac.A6,BR,Bl,eC,Ae]) ?_;refine Al.Pz [1,2] [(4,.o (.ptr 0 2 0 0)),(5,eB true)] [(0,.cells 109 2 [[.d (BZ u.rows),.d (BZ u.cols)]])] ⟨⟨_,rfl,.AM⟩,⟨_,rfl,.AM⟩,trivial⟩ ⟨⟨_,rfl,by simp,.cons (.full (by simp) rfl (by simp[d6]) (by simp)) (.cons (.full (by simp) rfl (by simp[d6]) (by simp)) .nil)⟩,trivial⟩ ?_;refine Al.freeze [0] [(4,.o (.ip [BZ u.rows,BZ u.cols])),(5,eB true)] ⟨⟨_,rfl,.o (.ptr (by simp) rfl rfl rfl)⟩,⟨_,rfl,.AM⟩,trivial⟩ ?_;refine aR ⟨_,rfl,?_⟩;rw[v];rfl
  .simp at h
 .rw [k]at g
  (repeat first|refine tM rfl ?_|refine s2 rfl λ_ h=>?_|(refine Ai rfl ?_;refine gA rfl ?_;first|refine gQ (Jj rfl rfl (z) (g) rfl) rfl ?_)|refine aU rfl ?_|apply Aa);(refine aC rfl ?_ ?_<;>rintro⟨⟩)
  .simp at h
  .apply aK
   (repeat first|refine tM rfl ?_|refine s2 rfl λ_ h=>?_|refine aU rfl ?_|apply Aa);(refine aC rfl ?_ ?_<;>rintro⟨⟩)
   ·(repeat first|refine tM rfl ?_|refine sV rfl rfl (by rfl) (by rfl) ?_|refine aU rfl ?_|apply Aa)
    have v:Bd L (AR al) 13 t=none:=by
     have K:u.rows.length=12:=by (simp only[oZ] at *;omega)
     rw[q]
     obtain⟨m',rfl⟩:∃m',m=m'+1:=⟨m-1,by omega⟩
     simp[Bd,k,K]
    refine Al.freeze [1] [(4,.o (.ip [.l [],.l []])),(5,eB false)] ⟨⟨_,rfl,.o (.ptr (by simp) rfl rfl rfl)⟩,⟨_,rfl,.AM⟩,trivial⟩ ?_;refine aR ⟨_,rfl,?_⟩;rw[v];rfl
   .apply aK
    have G:u.rows.length<12:=by (simp only[oZ] at *;omega)
    obtain⟨m',rfl⟩:∃m',m=m'+1:=⟨m-1,by omega⟩
    have v:Bd L (AR al) 13 t=Bd L (AR al) m' ⟨u.rows++[w],u.cols⟩:=by
     rw[q]
     conv=>lhs;unfold Bd
     rw[k];dsimp only;rw[if_neg (by omega)]
    have hp:=j.push k G;(repeat first|refine tA rfl ?_|refine aU rfl ?_);(refine pA rfl (by simp) (by simp;omega) ?_);(repeat first|refine tM rfl ?_|apply Aa);refine⟨⟨⟨m',⟨u.rows++[w],u.cols⟩⟩,by dsimp only;omega,by simp;omega,by simpa[uu]using hp,v,λy S=>e y (by unfold Ff;rw[k];dsimp only;rw[if_neg (by omega)];exact ui _ S)⟩,by dsimp only;(omega),[0,1,5,3,4],?_⟩;simp[cX,zC,b,N,eC,Ac.A6,BR,Ih,Bl,Ae]
def Br:AW:=⟨[[]],[[]]⟩
theorem KM(al:Int):HE al 20000 Br:=by
 refine⟨λw a=>?_,λw a=>?_,by decide,by decide⟩<;>(simp[Br]at a;subst a;exact⟨λc b=>by simp at b,by simp⟩)
theorem UQ{c:C}{L:W->Bool}{ok:W->Prop}(b:KU Tryz.prog TB c L ok)(al:Int)(e:∀y∈Ff L (AR al) 13 Br,JC ok (AR al) y) :
 Pure Tryz.prog TB 67 [JO al c] (Jq (Bd L (AR al) 13 Br)):=by
 have f:=Fo c b.Cg;have h:=JJ b al Br e (KM al);refine AE.Ic (AE.ofM 2 (jp _) Tryz.func67 rfl rfl (by kernel_rfl) (co rfl) ?_);intro Γ d;generalize Bd L (AR al) 13 Br=o at h |-;(repeat first|refine aU rfl ?_);(refine pB rfl ?_);(repeat first|refine tM rfl ?_|refine aU rfl ?_|apply Aa)
 have a:([JO al c,Ej Br].all E.Cg && C.Db [])=true:=by simp[JO,Ej,E.Cg,C.Db,C.Cg,b.Cg]
 cases o with
 | none=>
  (repeat first|refine tA rfl ?_|refine sV rfl rfl (by rfl) (by rfl) ?_|(refine Ai rfl ?_;refine gA rfl ?_;first|refine gS (λ_ _=>Bo rfl rfl a h rfl) ?_)|apply Aa);refine Al.freeze [1] [(2,.o (.ip [.l [],.l []])),(3,eB false)] ⟨⟨_,rfl,.o (.ptr (by simp) rfl rfl rfl)⟩,⟨_,rfl,.AM⟩,trivial⟩ ?_;refine aR ⟨_,rfl,?_⟩;rfl
 | some u=>
  (repeat first|refine tA rfl ?_|refine sV rfl rfl (by rfl) (by rfl) ?_|(refine Ai rfl ?_;refine gA rfl ?_;first|refine gS (λ_ _=>Bo rfl rfl a h rfl) ?_)|apply Aa);refine Al.freeze [1] [(2,.o (.ip [BZ u.rows,BZ u.cols])),(3,eB true)] ⟨⟨_,rfl,.o (.ptr (by simp) rfl rfl rfl)⟩,⟨_,rfl,.AM⟩,trivial⟩ ?_;refine aR ⟨_,rfl,?_⟩;rfl
def AV(L:W->Bool)(al:Int)(t:AW):AI:=⟨al,t.rows.map λr=>(Ab al).map λl=>((Dh L t (r++[lb l]):Nat):Int),t.rows.map L⟩
theorem Xl{L:W->Bool}{al:Int}{t:AW}(b:A7 L (AR al) t=none){r:W}(a:r∈t.rows){l:Int}(d:l∈Ab al) :
 (Cz (BW L t t.rows.length) (marks L t.cols (r++[lb l]))).getD 0=((Dh L t (r++[lb l]):Nat):Int):=by
 have c:marks L t.cols (r++[lb l])∈AH L t:=by
  have:=vU.1 b (r++[lb l]) (by
   unfold CT
   exact vl.2 ⟨r,a,d8.2 ⟨lb l,d8.2 ⟨l,d,rfl⟩,rfl⟩⟩)
  simpa using this
 rw[Xz,if_pos c];rfl
theorem Sp{c:C}{L:W->Bool}{ok:W->Prop}(u:KU Tryz.prog TB c L ok)(al:Int)(t:AW)(J:JC ok (AR al) t)(ht:HE al 20012 t)(S:A7 L (AR al) t=none) :
 Pure Tryz.prog TB 68 [JO al c,Ej t] (Bp (AV L al t)):=by
 have p:=Fo c u.Cg;have Q:=ht.rl;have Y:=ht.cl;have V:(Ab al).length<=6:=AA al 6;have f:=ht.nA J (by omega)
 have T:(AV L al t).nx.length=t.rows.length:=by simp[AV]
 have hal:(AV L al t).ac.length=t.rows.length:=by simp[AV]
 refine AE.Ic (AE.ofM 3 (jp _) Tryz.func68 rfl rfl (by kernel_rfl) (co rfl) ?_);intro Γ a;(repeat first|refine aU rfl ?_);(refine pB rfl ?_);(refine Ai rfl ?_;refine CJ (λ_ _=>C9 rfl rfl rfl) rfl ?_);(repeat first|refine tA rfl ?_|refine aU rfl ?_|apply Aa);(refine pW rfl ?_ rfl (by rfl);refine BE [] rfl rfl (Ib u al t f.1) ⟨rfl,by simp,by simp⟩ (by simp[Ep,E.A6,C.Ch,C.A6,p,eC]) trivial ?_;rintro Z K M ⟨rfl,rfl,rfl⟩ _);(repeat first|refine tA rfl ?_|refine aU rfl ?_|apply Aa);(refine pW rfl ?_ rfl (by rfl);refine IB 1 1 63 2 1 4 rfl rfl (by decide) rfl rfl (by rfl) (by rfl) ?_);(repeat first|refine sN rfl ?_|refine tA rfl ?_|refine aU rfl ?_|apply Aa);apply aB;refine Al.A0 (α:={k:Nat // k<=t.rows.length}) (λ⟨k,i⟩=>[(2,.o (.ptr 0 2 0 0)),(3,.o (.ip (Ys t))),(4,.o (.ptr 1 3 0 0)),(5,.o (.mp 2)),(6,.o (.ptr 3 3 0 0)),(19,.o (.d (BZ t.rows))),(20,eI .i64 t.rows.length),(21,eI .i64 k)]) (λ⟨k,i⟩=>[(0,.cells 102 2 [[.d (iD al),c]]),(1,.cells 29 3 [[.d (iD 0),.d (.l []),.d (.l [])]]),(2,.mp (GM (BW L t t.rows.length))),(3,.cells 29 3 [[.d (iD al),.arr 4 1 0 k,.arr 5 1 0 k]]),(4,.cells 63 1 (((AV L al t).nx.take k).map λr=>[.d (Ed r)])),(5,.cells 4 1 (((AV L al t).ac.take k).map λb=>[.d (bD b)]))]) 6 (λ⟨k,i⟩=>t.rows.length-k) (⟨0,by omega⟩) [0,1,2,5,3,4] (CC a rfl rfl) (by (simp[cX,zC,a,p,eC,Ac.A6,BR,Ih,Bl,Ae])) ?_;rintro⟨k,i⟩;(try dsimp only);(repeat first|refine s2 rfl λ_ I=>?_|refine aU rfl ?_|apply Aa);(refine aC rfl ?_ ?_<;>rintro⟨⟩)
 .have B:k<t.rows.length:=by (simp only[oZ] at *;omega)
  obtain⟨r,n⟩:=get_some (l:=t.rows) (k:=k) B;have P:=get_map (g:=CU) n;have e:=ce n;apply aK;refine aS (aB ?_);(repeat first|refine tM rfl ?_|(refine s4 rfl ‹_› rfl ?_ ?_;omega)|refine aU rfl ?_|apply Aa);(refine pW rfl ?_ rfl (by rfl);refine Fh 1 3 ?_);(repeat first|refine sN rfl ?_|refine tM rfl ?_|refine sP rfl (Cq al) rfl ?_|refine aU rfl ?_|apply Aa);apply aB;refine Al.A0 (α:={j:Nat // j<=(Ab al).length}) (λ⟨j,m⟩=>[(2,.o (.ptr 0 2 0 0)),(3,.o (.ip (Ys t))),(4,.o (.ptr 1 3 0 0)),(5,.o (.mp 2)),(6,.o (.ptr 3 3 0 0)),(19,.o (.d (BZ t.rows))),(20,eI .i64 t.rows.length),(21,eI .i64 k),(8,eT r),(9,.o (.arr 6 1 0 j)),(27,Aj (Ab al)),(28,eI .i64 (Ab al).length),(29,eI .i64 j)]) (λ⟨j,m⟩=>[(0,.cells 102 2 [[.d (iD al),c]]),(1,.cells 29 3 [[.d (iD 0),.d (.l []),.d (.l [])]]),(2,.mp (GM (BW L t t.rows.length))),(3,.cells 29 3 [[.d (iD al),.arr 4 1 0 k,.arr 5 1 0 k]]),(4,.cells 63 1 (((AV L al t).nx.take k).map λr=>[.d (Ed r)])),(5,.cells 4 1 (((AV L al t).ac.take k).map λb=>[.d (bD b)])),(6,.cells 3 1 (((Ab al).take j).map λl=>[.d (iD ((Dh L t (r++[lb l]):Nat):Int))]))]) 7 (λ⟨j,m⟩=>(Ab al).length-j) (⟨0,by omega⟩) [0,1,2,3,4,5,6] (CC a rfl rfl) (by (simp[cX,zC,a,p,eC,Ac.A6,BR,Ih])) ?_;rintro⟨j,m⟩;(try dsimp only);(repeat first|refine s2 rfl λ_ I=>?_|refine aU rfl ?_|apply Aa);(refine aC rfl ?_ ?_<;>rintro⟨⟩)
  .have s:j<(Ab al).length:=by (simp only[oZ] at *;omega)
   obtain⟨l,G⟩:=get_some (l:=Ab al) (k:=j) s;have X:=get_map (g:=A9) G;have h:=ce G;have q:=Af h;have R:=ht.onR r e;have U:=ME (TB:=TB) u al t (r++[lb l]) (by omega) (λx n=>f.2 r e _ (d8.2 ⟨l,h,rfl⟩) x n) (λy N=>by have:=(ht.onC y N).2;simp;omega);have F:=Xl S e h;apply aK;refine aS (aB ?_);(repeat first|refine tA rfl ?_|(refine s4 rfl ‹_› rfl ?_ ?_;omega)|refine aU rfl ?_|apply Aa);refine rG (GI [13]) (by kernel_rfl) ?_;(repeat first|(refine sA rfl ?_ ?_;first|exact tI|omega|simp only[oZ] at *;omega)|refine sP rfl (Gi l q.1 (by omega)) rfl ?_|(refine Ai rfl ?_;refine gA rfl ?_;first|refine gS (λ_ _=>ZN rfl (by omega) (by omega)) ?_));rw[ic q.1];(repeat first|(refine Ai rfl ?_;refine gA rfl ?_;first|refine gS (λ_ _=>Bo rfl rfl (by simp[E.Cg,C.Db,C.Cg,u.Cg]) U rfl) ?_|refine gQ (ca rfl rfl rfl) (by rfl) ?_));(repeat first|refine tA rfl ?_);(refine pA rfl (by first|(simp;done)|(simp;(first|omega|simp only[oZ] at *;omega))) (by simp;omega) ?_);(repeat first|(refine sA rfl ?_ ?_;first|exact tI|omega)|refine aU rfl ?_|apply Aa);rw[F];refine⟨⟨j+1,by omega⟩,by dsimp only;(omega),[0,1,2,3,4,5,7],?_⟩;simp[cX,zC,a,p,d9,G]
  .obtain rfl:j=(Ab al).length:=by (simp only[oZ] at *;omega)
   have z:=J r ⟨r,e,[],.inl rfl,[],.inl rfl,by simp⟩
   have A:(AV L al t).nx.take (k+1)=(AV L al t).nx.take k++[(Ab al).map λl=>((Dh L t (r++[lb l]):Nat):Int)]:=by
    rw[d9];simp[AV,n]
   have H:(AV L al t).ac.take (k+1)=(AV L al t).ac.take k++[L r]:=by
    rw[d9];simp[AV,n]
   apply aE;rw[i9];refine Al.HN [6] [2,3,4,5,6,8,19,20,21] rfl [(9,Aj ((Ab al).map λl=>((Dh L t (r++[lb l]):Nat):Int)))] ⟨⟨_,rfl,.o (.full (by simp) rfl (by simp[d6]) (by simp))⟩,trivial⟩ ?_;(try dsimp only[cA,cB]);(repeat first|refine tA rfl ?_|refine aU rfl ?_);(refine pA rfl (by first|(simp;done)|(simp;(first|omega|simp only[oZ] at *;omega))) (by simp;omega) ?_);(repeat first|refine tA rfl ?_|apply Aa);refine rG (GI [7,9]) (by kernel_rfl) ?_;(repeat first|refine tA rfl ?_|(refine Ai rfl ?_;refine gA rfl ?_;first|refine gS (λ_ _=>u.ask rfl rfl z) ?_));(refine pA rfl (by first|(simp;done)|(simp;(first|omega|simp only[oZ] at *;omega))) (by simp;omega) ?_);(repeat first|(refine sA rfl ?_ ?_;first|exact tI|omega)|refine aU rfl ?_|apply Aa);refine⟨⟨k+1,by omega⟩,by dsimp only;(omega),[0,1,2,3,7,8],?_⟩;simp[cX,zC,a,p,eC,Ac.A6,BR,Ih,Bl,Ae,A,H]
 .obtain rfl:k=t.rows.length:=by (simp only[oZ] at *;omega)
  have w:(AV L al t).nx.take t.rows.length=(AV L al t).nx:=i8 (by simp[AV]);have v:(AV L al t).ac.take t.rows.length=(AV L al t).ac:=i8 (by simp[AV]);rw[w,v];apply aE;(repeat first|refine tM rfl ?_|refine aU rfl ?_|apply Aa);refine Al.settle [(4,.o (.ip [iD al,Ce (AV L al t).nx,EP (AV L al t).ac]))] ⟨⟨_,rfl,.o (.box rfl (.cons .d (.cons (.full rfl (by simp[d6]) (by simp[AV])) (.cons (.full rfl (by simp[d6]) (by simp[AV])) .nil))))⟩,trivial⟩ ?_;refine aR ⟨_,rfl,rfl⟩
end Go.Am
namespace Go.Am
def Bk(a:AI):Int->W->Int
 | q,[]=>q
 | q,c::w=>Bk a (Bn a q.toNat ((c.toNat:Int)-97)) w
def LA(a:AI)(w:W):Bool:=a.ac.getD (Bk a 0 w).toNat false
theorem IN(a:AI):∀(u w:W) (q:Int),Bk a q (u++w)=Bk a (Bk a q u) w
 | [],_,_=>rfl
 | c::u,w,q=>IN a u w _
theorem FU{l:Int}(b:0<=l)(a:l<6):((lb l).toNat:Int)-97=l:=by
 unfold lb
 have:(97+l.toNat)%256=97+l.toNat:=by omega
 simp[this];omega
theorem HQ{al:Int}{c:UInt8}(h:c∈AR al):0<=(c.toNat:Int)-97/\(c.toNat:Int)-97<6:=by
 obtain⟨l,a,rfl⟩:=d8.1 h;have b:=Af a;rw[FU b.1 (by omega)];omega
theorem KI{a:AI}(ha:AJ a=true){al:Int}:∀(w:W) (q:Int),Ax (AR al) w->0<=q/\q<a.nx.length->0<=Bk a q w/\Bk a q w<a.nx.length
 | [],q,_,d=>d
 | c::w,q,b,d=>by
  have e:=HQ (b c (by simp));have g:=Dz ha (q:=q.toNat) (by omega) e.1 e.2;exact KI ha w _ (λx f=>b x (by simp[f])) g
def nT{a:AI}(ha:AJ a=true)(al:Int):Fin (LA a) (AR al) a.nx.length where
 st w:=(Bk a 0 w).toNat
 lt w b:=by
  have e:=AB ha;have:=KI ha w 0 b (by omega);omega
 same u w v c b f h:=by
  have e:=AB ha;have i:=KI ha u 0 c (by omega);have g:=KI ha w 0 b (by omega)
  have d:Bk a 0 u=Bk a 0 w:=by omega
  unfold LA;rw[IN,IN,d]
theorem PE{al:Int}{l:Int}(h:l∈Ab al):lb l∈AR al:=d8.2 ⟨l,h,rfl⟩
theorem Pt{L:W->Bool}{al:Int}{t:AW}(hal:A2 al=true)(h:Cb L (AR al) t)(b:t.rows.length<=12):AJ (AV L al t)=true:=by
 have j:0<t.rows.length:=(am.1 h.r0).1;unfold AJ;simp only[d4,decide_eq_true_eq,ge];refine⟨⟨⟨hal,by simp[AV];omega⟩,by simp[AV]⟩,λrow a=>?_⟩;simp only[AV,d8]at a;obtain⟨r,b,rfl⟩:=a;unfold FD;simp only[d4,decide_eq_true_eq,ge];refine⟨by simp[AV],λy c=>?_⟩;obtain⟨l,d,rfl⟩:=d8.1 c;obtain⟨i,hi,e⟩:=um b;obtain⟨r',g,_⟩:=h.idx (i:=i) (r:=r) (by rw[d5 hi,e]) (PE d);have f:=(am.1 g).1;unfold SQ;simp[AV];exact f
theorem Mx{L:W->Bool}{al:Int}{t:AW}{q:Nat}{c:UInt8}(e:q<t.rows.length)(g:c∈AR al):Bn (AV L al t) q ((c.toNat:Int)-97)=((Dh L t (t.rows.getD q []++[c]):Nat):Int):=by
 obtain⟨l,a,rfl⟩:=d8.1 g;have d:=Af a;rw[FU d.1 (by omega)];obtain⟨k,hk,f⟩:=um a
 have b:(AF al 6)[k]?=some l:=by rw[d5 hk,f]
 have m:=Gj b;unfold Bn;have j:AS (AV L al t).al l.toNat=true:=d.2.2;rw[if_pos j];have i:(AF (AV L al t).al l.toNat).length=k:=m;rw[i]
 have h:(AV L al t).nx.getD q []=(Ab al).map λl=>((Dh L t (t.rows.getD q []++[lb l]):Nat):Int):=by
  simp[AV,List.getD,e]
 rw[h];simp[List.getD,b]
theorem TS{L:W->Bool}{al:Int}{t:AW}(h:Cb L (AR al) t):∀(w:W) (q:Nat),Ax (AR al) w->q<t.rows.length->Bk (AV L al t) q w=((runM L t q w:Nat):Int)
 | [],q,_,_=>rfl
 | c::w,q,a,b=>by
  have f:t.rows[q]?=some t.rows[q]:=d5 b;have d:=a c (by simp);obtain⟨_,j,_⟩:=h.idx f d
  have i:t.rows.getD q []=t.rows[q]:=by simp[f]
  have e:=(am.1 j).1
  show Bk (AV L al t) (Bn (AV L al t) ((q:Int)).toNat ((c.toNat:Int)-97)) w=_
  rw[f6,Mx b d];rw[<-i]at e;exact TS h w _ (λx g=>a x (by simp[g])) e
theorem Pr{L:W->Bool}{al:Int}{t:AW}(h:Cb L (AR al) t){w:W}(a:Ax (AR al) w):LA (AV L al t) w=Lm L t w:=by
 have c:0<t.rows.length:=(am.1 h.r0).1;have d:=h.run w 0 a c;unfold LA Lm;have b:=TS h w 0 a c;rw[show ((0:Nat):Int)=0 from rfl]at b;rw[b,f6];simp[AV,List.getD,d]
end Go.Am
namespace Go.Am
open Go Go.Proofs
set_option maxHeartbeats 1000000
set_option maxRecDepth 4000
attribute [local irreducible] A5 CQ Lex BC Al Spec
variable {TB:BB}
theorem HP(w:W)(i:Nat)(c:UInt8)(e:w[((i:Nat):Int).toNat]?=some c)(d:0<=(c.toNat:Int)-97/\(c.toNat:Int)-97<6):Pure Tryz.prog TB 128 [eT w,eI .i64 i] (eI .i64 ((c.toNat:Int)-97)):=by
 refine eN Tryz.func128 rfl (by kernel_rfl) rfl ?_;intro Γ a;(repeat' first|(refine sA rfl ?_ ?_;first|exact tI|omega)|(refine s4 rfl ‹_› rfl ?_ ?_;omega)|refine s2 rfl λ_ b=>?_|refine s3 rfl ?_ ?_<;>rintro rfl|refine aV rfl ?_|apply Aa|(refine aC rfl ?_ ?_<;>rintro⟨⟩)|refine aR ⟨_,rfl,?_⟩)
 all_goals first
  | rfl
  | (exfalso;grind)
abbrev kg(kn:Bool)(p:AI)(s:Sys)(q:AI)(al:Int):List D:=[bD kn,iD p.al,Ce p.nx,EP p.ac,iD s.al,iD s.st,EC s.es,iD q.al,Ce q.nx,EP q.ac,iD al]
theorem KD{ls:List UInt8}{w:W}(h:Ax ls w)(k:Nat):Ax ls (w.take k):=λc a=>h c (t7 a)
theorem lM{ls:List UInt8}{w:W}(h:Ax ls w)(k:Nat):Ax ls (w.drop k):=λc a=>h c (vp a)
theorem eQ{p:AI}{w:W}{k:Nat}{c:UInt8}(a:w[k]?=some c)(q:Int):Bk p q (w.take (k+1))=Bn p (Bk p q (w.take k)).toNat ((c.toNat:Int)-97):=by
 rw[d9,a,IN];rfl
theorem On{L:W->Bool}{t:AW}{w:W}{k:Nat}{c:UInt8}(a:w[k]?=some c)(q:Nat):runM L t q (w.take (k+1))=Dh L t (t.rows.getD (runM L t q (w.take k)) []++[c]):=by
 rw[d9,a,XU];rfl
def CD(L:W->Bool)(t:AW)(w:W):Option W:=if Lm L t w=L w then none else splitAt L t (L w) 0 w
theorem Nh{L:W->Bool}{t:AW}{b:Bool}{w:W}{k q:Nat}{c:UInt8}(a:w[k]?=some c):splitAt L t b q (w.drop k)=if L (t.rows.getD (Dh L t (t.rows.getD q []++[c])) []++w.drop (k+1))≠b then some (w.drop (k+1)) else splitAt L t b (Dh L t (t.rows.getD q []++[c])) (w.drop (k+1)):=by
 rw[Bm a,splitAt]
def bf(t:AW)(w v:W):Prop:=∃r,(r=[]\/r∈t.rows)/\∃k:Nat,v=r++w.drop k
theorem SO{c:C}{L:W->Bool}{ok:W->Prop}(I:KU Tryz.prog TB c L ok)(al:Int)(t:AW)(hf:JC ok (AR al) t)(ht:HE al 20012 t)(hal:A2 al=true)(n:Cb L (AR al) t)(ho:A7 L (AR al) t=none)(w:W)(H:∀v,bf t w v->ok v)(z:Ax (AR al) w)(hwl:w.length<=20000) :
 Pure Tryz.prog TB 134 [JO al c,Ej t,eT w] (dr (CD L t w)):=by
 have M:=Fo c I.Cg;have Q:=ht.rl;have U:=Sp (TB:=TB) I al t hf ht ho;have J:=Pt hal n Q;have N:=Gc (TB:=TB) (AV L al t) J
 have hnl:(AV L al t).nx.length=t.rows.length:=by simp[AV]
 have V:0<t.rows.length:=(am.1 n.r0).1;have B:=H w ⟨[],.inl rfl,0,rfl⟩
 have S:([JO al c,Ej t].all E.Cg && C.Db [])=true:=by simp[E.Cg,C.Db,C.Cg,I.Cg]
 refine eN Tryz.func134 rfl (by kernel_rfl) rfl ?_;intro Γ e;(repeat first|refine aU rfl ?_);(refine pB rfl ?_);(refine Ai rfl ?_;refine CJ (λ_ _=>C9 rfl rfl rfl) rfl ?_);(repeat first|refine tA rfl ?_|refine aU rfl ?_|apply Aa);(repeat first|refine tA rfl ?_|(refine Ai rfl ?_;refine gA rfl ?_;first|refine gS (λ_ _=>Bo rfl rfl S U rfl) ?_)|refine aU rfl ?_|apply Aa);(repeat first|refine tA rfl ?_|refine sP rfl (N) rfl ?_|refine aU rfl ?_|apply Aa);apply aB;refine aL (α:={k:Nat // k<=w.length}) [2,3,4,8,9,20] [0,1] rfl rfl (λ⟨k,hk⟩=>[(10,eI .i64 (runM L t 0 (w.take k):Nat)),(21,eI .i64 k)]) (λ⟨k,hk⟩=>[]) 2 (λ⟨k,hk⟩=>w.length-k) (⟨0,by omega⟩) e rfl (by (simp[cX,zC,e,M]<;>rfl)) ?_;rintro⟨k,hk⟩;(try dsimp only[cA,cB]);have r:=n.run (w.take k) 0 (KD z k) V;by_cases u:k<w.length
 .obtain⟨o,d⟩:=get_some u
  have y:w[((k:Nat):Int).toNat]?=some o:=by simpa using d
  have m:=z o (ce d);have j:=HQ m;have x:=HP (TB:=TB) w k o y j;have ta:=KP (a:=AV L al t) (q:=(((runM L t 0 (w.take k):Nat):Int)).toNat) (by omega)
  have el:((((o.toNat:Int)-97).toNat:Nat):Int)=(o.toNat:Int)-97:=by omega
  have ra:=IL (h:=λl=>Bn (AV L al t) (((runM L t 0 (w.take k):Nat):Int)).toNat l) j.1 (by omega);simp only[el]at ra;have f:=Mx (L:=L) (al:=al) (t:=t) (q:=runM L t 0 (w.take k)) r m;have p:=On (L:=L) (t:=t) d 0;rw[<-p]at f;rw[f6,f]at ra;(repeat first|refine s2 rfl λ_ b=>?_|refine aU rfl ?_|apply Aa);(refine aC rfl ?_ ?_<;>rintro⟨⟩)
  ·(repeat' first|(refine sA rfl ?_ ?_;first|exact tI|omega)|(refine s4 rfl ‹_› rfl ?_ ?_;omega)|refine sP rfl (x) rfl ?_|(refine Ai rfl ?_;refine gA rfl ?_;first|refine gS (λ_ _=>DY rfl ra) ?_)|refine aV rfl ?_|apply Aa|refine rE (by kernel_rfl) ?_|(refine aC rfl ?_ ?_<;>rintro⟨⟩)|refine aR ⟨_,rfl,?_⟩)
   refine⟨⟨k+1,by omega⟩,by dsimp only;(omega),[0,1],?_⟩;simp[cX,zC,e,M]
  .exfalso;(simp only[oZ] at *;omega)
 .obtain rfl : k=w.length:=by omega
  rw[i9] at *;(repeat first|refine s2 rfl λ_ b=>?_|refine aU rfl ?_|apply Aa);(refine aC rfl ?_ ?_<;>rintro⟨⟩)
  .exfalso;(simp only[oZ] at *;omega)
  .apply aE
   have Z:((AV L al t).ac.map Iq)[(((runM L t 0 w:Nat):Int)).toNat]?=some (Iq (Lm L t w)):=by
    unfold Lm;simp[AV,List.getD,r]
   (repeat first|refine tA rfl ?_|(refine s4 rfl ‹_› rfl ?_ ?_;omega)|refine s2 rfl λ_ b=>?_|(refine Ai rfl ?_;refine gA rfl ?_;first|refine gS (λ_ _=>I.ask rfl rfl B) ?_)|refine aU rfl ?_|apply Aa);(refine aC rfl ?_ ?_<;>rintro⟨⟩)
   .have hn:CD L t w=none:=by unfold CD;rw[if_pos (by simpa using b)]
    (repeat first|refine tA rfl ?_|refine aU rfl ?_|apply Aa);refine aR ⟨_,rfl,?_⟩;rw[hn];rfl
   .have P:CD L t w=splitAt L t (L w) 0 w:=by unfold CD;rw[if_neg (by simpa using b)]
    rw[P];apply aK;(repeat first|refine tA rfl ?_|refine aU rfl ?_|apply Aa);apply aB;refine aL (α:={k:Nat // k<=w.length/\splitAt L t (L w) 0 w=splitAt L t (L w) (runM L t 0 (w.take k)) (w.drop k)}) [2,3,4,9,12,45] [0] rfl rfl (λ⟨k,hk,i⟩=>[(10,eI .i64 (runM L t 0 (w.take k):Nat)),(46,eI .i64 k)]) (λ⟨k,hk,i⟩=>[]) 1 (λ⟨k,hk,i⟩=>w.length-k) (⟨0,by omega,rfl⟩) e rfl (by (simp[cX,zC,e,M]<;>rfl)) ?_;rintro⟨k,hk,i⟩;(try dsimp only[cA,cB]);have r:=n.run (w.take k) 0 (KD z k) V;by_cases u:k<w.length
    .obtain⟨o,d⟩:=get_some u
     have y:w[((k:Nat):Int).toNat]?=some o:=by simpa using d
     have m:=z o (ce d);have j:=HQ m;have x:=HP (TB:=TB) w k o y j;have ta:=KP (a:=AV L al t) (q:=(((runM L t 0 (w.take k):Nat):Int)).toNat) (by omega)
     have el:((((o.toNat:Int)-97).toNat:Nat):Int)=(o.toNat:Int)-97:=by omega
     have ra:=IL (h:=λl=>Bn (AV L al t) (((runM L t 0 (w.take k):Nat):Int)).toNat l) j.1 (by omega);simp only[el]at ra;have f:=Mx (L:=L) (al:=al) (t:=t) (q:=runM L t 0 (w.take k)) r m;have p:=On (L:=L) (t:=t) d 0;have A:=n.run (w.take (k+1)) 0 (KD z (k+1)) V;rw[Nh d,<-p]at i;rw[<-p]at f;rw[f6,f]at ra;generalize R:runM L t 0 (w.take (k+1))=X at *;obtain⟨K,s⟩:=get_some (l:=t.rows) (k:=X) A;have Y:=get_map (g:=CU) s
     have T:t.rows.getD X []=K:=by simp[List.getD,s]
     rw[T]at i;have hrb:=ht.onR K (ce s);have hdl:(w.drop (k+1)).length=w.length-(k+1):=xJ;have F:=H (K++w.drop (k+1)) ⟨K,.inr (ce s),k+1,rfl⟩
     have G:(((k:Nat):Int)+1).toNat=k+1:=by omega
     (repeat first|refine s2 rfl λ_ b=>?_|refine aU rfl ?_|apply Aa);(refine aC rfl ?_ ?_<;>rintro⟨⟩)
     .apply aK
      refine aS (aB ?_);(repeat first|(refine sA rfl ?_ ?_;first|exact tI|omega)|(refine s4 rfl ‹_› rfl ?_ ?_;omega)|refine sP rfl (x) rfl ?_|(refine Ai rfl ?_;refine gA rfl ?_;first|refine gS (λ_ _=>DY rfl ra) ?_)|refine aU rfl ?_|apply Aa|refine rE (by kernel_rfl) ?_);(repeat first|(refine Ai rfl ?_;refine gA rfl ?_;first|refine gS (λ_ _=>Ex rfl rfl (by omega) (by omega)) ?_));rw[G];(repeat first|(refine sA rfl ?_ ?_;first|exact tI|omega)|refine s2 rfl λ_ b=>?_|(refine Ai rfl ?_;refine gA rfl ?_;first|refine gS (λ_ _=>I.ask rfl rfl F) ?_)|apply Aa);(refine aC rfl ?_ ?_<;>rintro⟨⟩)
      .rw[if_pos (by simpa using b)]at i
       (repeat first|(refine sA rfl ?_ ?_;first|exact tI|omega)|(refine Ai rfl ?_;refine gA rfl ?_;first|refine gS (λ_ _=>Ex rfl rfl (by omega) (by omega)) ?_)|refine aU rfl ?_|apply Aa);refine aR ⟨_,rfl,?_⟩;rw[G,i];rfl
      .rw[if_neg (by simpa using b)]at i
       apply aK;(repeat first|(refine sA rfl ?_ ?_;first|exact tI|omega)|refine aU rfl ?_|apply Aa);subst R;refine⟨⟨k+1,by omega,i⟩,by dsimp only;(omega),[0],?_⟩;simp[cX,zC,e,M]
     .exfalso;(simp only[oZ] at *;omega)
    .obtain rfl:k=w.length:=by omega
     rw[vC]at i;(repeat first|refine s2 rfl λ_ b=>?_|refine aU rfl ?_|apply Aa);(refine aC rfl ?_ ?_<;>rintro⟨⟩)
     .exfalso;(simp only[oZ] at *;omega)
     .apply aE
      (repeat first|refine tA rfl ?_|refine aU rfl ?_|apply Aa);refine aR ⟨_,rfl,?_⟩;rw[i];rfl
theorem HE.ua{ok:W->Prop}{al:Int}{t:AW}(ht:HE al 20012 t)(f:Ud ok al){w:W}(e:Ax (AR al) w)(d:w.length<=20000):∀v,bf t w v->ok v:=by
 rintro v ⟨r,b,k,rfl⟩
 have g:Ax (AR al) r/\r.length<=20012:=by
  rcases b with rfl|b
  .exact⟨λc a=>by simp at a,by simp⟩
  .exact ht.onR r b
 refine f _ (λc a=>?_) (by simp;omega)
 rcases f7.1 a with a|a
 .exact g.1 c a
 .exact lM e _ c a
def HB(L:W->Bool)(ls:List UInt8)(t:AW)(w:W):Option AW:=(CD L t w).bind λv=>(FM t v).bind λu=>Bd L ls 13 u
theorem O3{L:W->Bool}{t:AW}{b:Bool}:∀ {w:W} {q:Nat} {v:W},splitAt L t b q w=some v->∃p,p≠[]/\w=p++v
 | [],q,v,h=>by simp[splitAt]at h
 | c::w,q,v,h=>by
  unfold splitAt at h;split at h
  .injection h with h;subst h;exact⟨[c],by simp,rfl⟩
  .obtain⟨p,_,a⟩:=O3 h;exact⟨c::p,by simp,by rw[a];rfl⟩
theorem Jo{L:W->Bool}{t:AW}{w v:W}(h:CD L t w=some v):∃p,p≠[]/\w=p++v:=by
 unfold CD at h;split at h
 .cases h
 .exact O3 h
theorem HE.mono{al:Int}{b b':Nat}{t:AW}(h:HE al b t)(hb:b<=b'):HE al b' t:=⟨λw a=>⟨(h.onR w a).1,l3 (h.onR w a).2 hb⟩,h.onC,h.rl,h.cl⟩
theorem Ue{al:Int}{b:Nat}{t u:AW}{v:W}(h:HE al b t)(c:Ax (AR al) v)(f:v.length<=20000)(ha:FM t v=some u):HE al b u:=by
 unfold FM at ha;split at ha
 .cases ha
 .rename_i d
  injection ha with ha
  subst ha;refine⟨h.onR,λx a=>?_,h.rl,?_⟩
  .rcases f7.1 a with a|a
   .exact h.onC x a
   .simp at a;subst a;exact⟨c,f⟩
  .have:=h.cl
   have g:t.cols.length≠20:=λe=>d (.inl e);simp;omega
def aZ(L:W->Bool)(ls:List UInt8)(t:AW)(w v:W):Prop:=OD ls t v\/bf t w v\/∃x,CD L t w=some x/\∃u,FM t x=some u/\∃y∈Ff L ls 13 u,OD ls y v
theorem SC{c:C}{L:W->Bool}{ok:W->Prop}(k:KU Tryz.prog TB c L ok)(al:Int)(t:AW)(ht:HE al 20000 t)(hal:A2 al=true)(B:Cb L (AR al) t)(K:A7 L (AR al) t=none)(w:W)(A:∀v,aZ L (AR al) t w v->ok v)(F:Ax (AR al) w)(m:w.length<=20000) :
 Pure Tryz.prog TB 72 [JO al c,Ej t,eT w] (Jq (HB L (AR al) t w)):=by
 have M:=Fo c k.Cg
 have b:([JO al c,Ej t,eT w].all E.Cg && C.Db [])=true:=by simp[E.Cg,C.Db,C.Cg,k.Cg]
 have e:=SO (TB:=TB) k al t (λv q=>A v (.inl q)) (ht.mono (by omega)) hal B K w (λv q=>A v (.inr (.inl q))) F m;have J:=ht.rl;have G:=ht.cl
 rcases j:CD L t w with _|v
 .have s:HB L (AR al) t w=none:=by unfold HB;rw[j];rfl
  rw[s];rw[j]at e;refine AE.Ic (AE.ofM 2 (jp _) Tryz.func72 rfl rfl (by kernel_rfl) (co rfl) ?_);intro Γ i;(repeat first|refine aU rfl ?_);(refine pB rfl ?_);(refine pB rfl ?_);(repeat first|refine tA rfl ?_|refine aU rfl ?_|apply Aa);(repeat first|refine tA rfl ?_|refine s2 rfl λ_ a=>?_|(refine Ai rfl ?_;refine gA rfl ?_;first|refine gS (λ_ _=>Bo rfl rfl b e rfl) ?_)|refine aU rfl ?_|apply Aa)
  ((refine aC rfl ?_ ?_<;>rintro⟨⟩);all_goals try (simp at a;done))
  (repeat first|refine tA rfl ?_|refine sV rfl rfl (by rfl) (by rfl) ?_|refine aU rfl ?_|apply Aa);refine Al.settle [(6,.o (.ip [.l [],.l []])),(7,eB false)] ⟨⟨_,rfl,.o (.box rfl (.cons .d (.cons .d .nil)))⟩,⟨_,rfl,.o .d⟩,trivial⟩ ?_;refine aR ⟨_,rfl,rfl⟩
 .have r:=Jo j
  have n:Ax (AR al) v/\v.length<=20000:=by
   obtain⟨p,_,rfl⟩:=r;exact⟨λc k=>F c (by simp[k]),by simp at m;omega⟩
  have f:=Uf (TB:=TB) t v (by omega) (by omega);rw[j]at e
  rcases ha:FM t v with _|u
  .have s:HB L (AR al) t w=none:=by unfold HB;rw[j];simp[ha]
   rw[s];rw[ha]at f;refine AE.Ic (AE.ofM 2 (jp _) Tryz.func72 rfl rfl (by kernel_rfl) (co rfl) ?_);intro Γ i;(repeat first|refine aU rfl ?_);(refine pB rfl ?_);(refine pB rfl ?_);(repeat first|refine tA rfl ?_|refine aU rfl ?_|apply Aa);(repeat first|refine tA rfl ?_|refine s2 rfl λ_ a=>?_|(refine Ai rfl ?_;refine gA rfl ?_;first|refine gS (λ_ _=>Bo rfl rfl b e rfl) ?_)|refine aU rfl ?_|apply Aa)
   ((refine aC rfl ?_ ?_<;>rintro⟨⟩);all_goals try (simp at a;done))
   apply aK;(repeat first|refine tA rfl ?_|refine s2 rfl λ_ a=>?_|refine sP rfl (f) rfl ?_|refine aU rfl ?_|apply Aa)
   ((refine aC rfl ?_ ?_<;>rintro⟨⟩);all_goals try (simp at a;done))
   (repeat first|refine tA rfl ?_|refine sV rfl rfl (by rfl) (by rfl) ?_|refine aU rfl ?_|apply Aa);refine Al.settle [(6,.o (.ip [.l [],.l []])),(7,eB false)] ⟨⟨_,rfl,.o (.box rfl (.cons .d (.cons .d .nil)))⟩,⟨_,rfl,.o .d⟩,trivial⟩ ?_;refine aR ⟨_,rfl,rfl⟩
  .have I:=Ue ht n.1 n.2 ha
   have g:=JJ (TB:=TB) k al u (λy H v q=>A v (.inr (.inr ⟨_,j,_,ha,y,H,q⟩))) I
   have h:([JO al c,Ej u].all E.Cg && C.Db [])=true:=by simp[E.Cg,C.Db,C.Cg,k.Cg]
   have s:HB L (AR al) t w=Bd L (AR al) 13 u:=by unfold HB;rw[j];simp[ha]
   rw[s];rw[ha]at f
   rcases z:Bd L (AR al) 13 u with _|x
   .rw[z]at g
    refine AE.Ic (AE.ofM 2 (jp _) Tryz.func72 rfl rfl (by kernel_rfl) (co rfl) ?_);intro Γ i;(repeat first|refine aU rfl ?_);(refine pB rfl ?_);(refine pB rfl ?_);(repeat first|refine tA rfl ?_|refine aU rfl ?_|apply Aa);(repeat first|refine tA rfl ?_|refine s2 rfl λ_ a=>?_|(refine Ai rfl ?_;refine gA rfl ?_;first|refine gS (λ_ _=>Bo rfl rfl b e rfl) ?_)|refine aU rfl ?_|apply Aa)
    ((refine aC rfl ?_ ?_<;>rintro⟨⟩);all_goals try (simp at a;done))
    apply aK;(repeat first|refine tA rfl ?_|refine s2 rfl λ_ a=>?_|refine sP rfl (f) rfl ?_|refine aU rfl ?_|apply Aa)
    ((refine aC rfl ?_ ?_<;>rintro⟨⟩);all_goals try (simp at a;done))
    apply aK;(repeat first|refine tA rfl ?_|(refine Ai rfl ?_;refine gA rfl ?_;first|refine gS (λ_ _=>Bo rfl rfl h g rfl) ?_)|refine aU rfl ?_|apply Aa);refine Al.settle [(6,.o (.ip [.l [],.l []])),(7,eB false)] ⟨⟨_,rfl,.o (.box rfl (.cons .d (.cons .d .nil)))⟩,⟨_,rfl,.o .d⟩,trivial⟩ ?_;refine aR ⟨_,rfl,rfl⟩
   .rw[z]at g
    refine AE.Ic (AE.ofM 2 (jp _) Tryz.func72 rfl rfl (by kernel_rfl) (co rfl) ?_);intro Γ i;(repeat first|refine aU rfl ?_);(refine pB rfl ?_);(refine pB rfl ?_);(repeat first|refine tA rfl ?_|refine aU rfl ?_|apply Aa);(repeat first|refine tA rfl ?_|refine s2 rfl λ_ a=>?_|(refine Ai rfl ?_;refine gA rfl ?_;first|refine gS (λ_ _=>Bo rfl rfl b e rfl) ?_)|refine aU rfl ?_|apply Aa)
    ((refine aC rfl ?_ ?_<;>rintro⟨⟩);all_goals try (simp at a;done))
    apply aK;(repeat first|refine tA rfl ?_|refine s2 rfl λ_ a=>?_|refine sP rfl (f) rfl ?_|refine aU rfl ?_|apply Aa)
    ((refine aC rfl ?_ ?_<;>rintro⟨⟩);all_goals try (simp at a;done))
    apply aK;(repeat first|refine tA rfl ?_|(refine Ai rfl ?_;refine gA rfl ?_;first|refine gS (λ_ _=>Bo rfl rfl h g rfl) ?_)|refine aU rfl ?_|apply Aa);refine Al.settle [(6,.o (.ip [BZ x.rows,BZ x.cols])),(7,eB true)] ⟨⟨_,rfl,.o (.box rfl (.cons .d (.cons .d .nil)))⟩,⟨_,rfl,.o .d⟩,trivial⟩ ?_;refine aR ⟨_,rfl,rfl⟩
end Go.Am
namespace Go.Am
open Go
theorem KH{g:Gr}:∀ {u v:List Int} {a x:Int},reach g (u++v) a x↔∃y,reach g u a y/\reach g v y x
 | [],v,a,x=>⟨λh=>⟨a,rfl,h⟩,λ⟨y,c,b⟩=>by cases c;exact b⟩
 | l :: u,v,a,x=>by
  simp only[vk,reach];constructor
  .rintro⟨y,d,h⟩
   obtain⟨z,c,b⟩:=KH.1 h;exact⟨z,⟨y,d,c⟩,b⟩
  .rintro⟨z,⟨y,d,c⟩,b⟩
   exact⟨y,d,KH.2 ⟨z,c,b⟩⟩
theorem oM(n:Nat)(f:Nat->Int)(h:∀i,i<=n->0<=f i/\f i<n):∃i j,i<j/\j<=n/\f i=f j:=by
 apply Classical.byContradiction;intro hno
 have g:((List.range (n+1)).map λi=>(f i).toNat).Nodup:=by
  unfold List.Nodup;rw[uU];refine List.pairwise_lt_range.imp_of_mem λ{a b} ha hb c k=>hno ⟨a,b,c,?_,?_⟩
  .have:=mt.1 hb;omega
  .have d:=h a (by have:=mt.1 ha;omega)
   have l:=h b (by have:=mt.1 hb;omega);omega
 have d:=MQ n _ g λx e=>by
  obtain⟨i,hi,rfl⟩:=d8.1 e;have:=h i (by have:=mt.1 hi;omega);omega
 simp at d;omega
theorem CG.short{g:Gr}(n:JD g){w:List Int}(h:CG g (some w)):w.length<g.N:=by
 obtain⟨e,⟨x,o,c⟩,r⟩:=h;apply Classical.byContradiction;intro m;have b:∀k,∃y,reach g (w.take k) g.s0 y/\reach g (w.drop k) y x:=λk=>KH.1 (by rw[uE];exact o);obtain⟨f,d⟩:=Classical.axiomOfChoice b;obtain⟨i,j,p,s,q⟩:=oM g.N f λi _=>DN n (λl a=>e l (t7 a)) n.s0 (d i).1;refine r (w.take i++w.drop j) (λl a=>?_) ⟨x,KH.2 ⟨f i,(d i).1,q▸(d j).2⟩,c⟩ (.inl ?_)
 .rcases f7.1 a with a|a
  .exact e l (t7 a)
  .exact e l (vp a)
 .simp;omega
theorem Oy{al:Int}:∀ {w:List Int},(∀l∈w,l∈Ab al)->Ax (AR al) (Dt w):=λ{w} h c b=>by
 obtain⟨l,a,rfl⟩:=d8.1 b;exact PE (h l a)
theorem Ov(L:W->Bool)(ls:List UInt8):TOk L ls Br:=by
 refine⟨rfl,rfl,λi w hi d=>?_,λw a=>?_,λw a=>?_,by simp[AH,Br],by simp[Br]⟩
 .have:=(am.1 hi).1
  simp[Br]at this;omega
 .simp[Br]at a;subst a;exact λc b=>(by cases b)
 .simp[Br]at a;subst a;exact λc b=>(by cases b)
theorem TOk.short{L:W->Bool}{ls:List UInt8}{t:AW}(h:TOk L ls t):∀(i:Nat) w,t.rows[i]?=some w->w.length<=i:=by
 intro i
 induction i using Nat.strongRecOn with
 | _ i c=>
  intro w a
  rcases uP i with b|b
  .subst b
   rw[h.r0]at a
   injection a with a
   subst a;simp
  .obtain⟨f,j,d,e⟩:=h.pre i w a b
   have:=c j d _ e;simp at this;omega
end Go.Am
namespace Go.Am
open Go Go.Proofs
set_option maxHeartbeats 1000000
set_option maxRecDepth 4000
attribute [local irreducible] A5 CQ Lex BC Al Spec
variable {TB:BB}
abbrev tB(kn:Bool)(p:AI)(s:Sys)(q:AI)(al:Int):E:=.a ((kg kn p s q al).map .d)
theorem Jd(w:W)(i:Nat)(c:UInt8)(b:w[((i:Nat):Int).toNat]?=some c):Pure Tryz.prog TB 188 [eT w,eI .i64 i] (eI .i64 ((c.toNat:Int)-97)):=by
 have hb:=c.toNat_lt;refine eN Tryz.func188 rfl (by kernel_rfl) rfl ?_;intro Γ a;(repeat' first|(refine sA rfl ?_ ?_;first|exact tI|omega)|(refine s4 rfl ‹_› rfl ?_ ?_;omega)|refine aV rfl ?_|apply Aa|(refine aC rfl ?_ ?_<;>rintro⟨⟩)|refine aR ⟨_,rfl,?_⟩);rfl
theorem Xf(n:Int)(a:0<=n)(c:n<16):Pure Tryz.prog TB 137 [eI .i64 n] (eI .i64 ((2 ^ n.toNat:Nat):Int)):=by
 refine eN Tryz.func137 rfl (by kernel_rfl) rfl ?_;intro Γ b;(repeat' first|(refine sA rfl ?_ ?_;first|exact tI|omega)|(refine Ai rfl ?_;refine gA rfl ?_;first|refine gS (λ_ _=>jt rfl rfl a (cK a c)) ?_)|refine aV rfl ?_|apply Aa|(refine aC rfl ?_ ?_<;>rintro⟨⟩)|refine aR ⟨_,rfl,?_⟩);rfl
theorem Gq{c:UInt8}:GR c=decide (0<=(c.toNat:Int)-97/\(c.toNat:Int)-97<6):=by
 unfold GR;rw[vw,decide_eq_true_eq,decide_eq_true_eq];omega
theorem Nv(w:W)(p:w.length<=1099511627776):Pure Tryz.prog TB 187 [eT w] (eB (EN w)):=by
 by_cases n:w.length<=50000
 .have g : EN w=w.all GR:=by unfold EN;simp[n]
  rw[g];refine eN Tryz.func187 rfl (by kernel_rfl) rfl ?_;intro Γ d;(repeat first|refine tA rfl ?_|refine s2 rfl λ_ b=>?_|refine aU rfl ?_|apply Aa);(refine aC rfl ?_ ?_<;>rintro⟨⟩)
  .exfalso;(simp only[oZ] at *;omega)
  apply aK;(repeat first|refine tA rfl ?_|refine aU rfl ?_|apply Aa);apply aB;refine aL (α:={k:Nat // k<=w.length/\(w.take k).all GR=true}) [0] [] rfl rfl (λ⟨k,hk,ha⟩=>[(3,eI .i64 k)]) (λ⟨k,hk,ha⟩=>[]) 0 (λ⟨k,hk,ha⟩=>w.length-k) (⟨0,by omega,rfl⟩) d rfl (by (simp[cX,zC,d])) ?_;rintro⟨k,hk,ha⟩;(try dsimp only[cA,cB]);by_cases j:k<w.length
  .obtain⟨c,m⟩:=get_some j
   have l:w[((k:Nat):Int).toNat]?=some c:=by simpa using m
   have h:=Jd (TB:=TB) w k c l;have i:=Gq (c:=c);by_cases a:GR c=true
   .have e:=Hl m ha a
    rw[i]at a;simp only[decide_eq_true_eq]at a;(repeat first|refine tA rfl ?_|refine s2 rfl λ_ b=>?_|refine aU rfl ?_|apply Aa);(refine aC rfl ?_ ?_<;>rintro⟨⟩)
    ·(repeat' first|(refine sA rfl ?_ ?_;first|exact tI|omega)|refine s2 rfl λ_ b=>?_|refine sP rfl (h) rfl ?_|refine s3 rfl ?_ ?_<;>rintro rfl|refine aV rfl ?_|apply Aa|(refine aC rfl ?_ ?_<;>rintro⟨⟩)|refine aR ⟨_,rfl,?_⟩)
     .exfalso;(simp only[oZ] at *;omega)
     .exfalso;(simp only[oZ] at *;omega)
     .refine⟨⟨k+1,by omega,e⟩,by dsimp only;(omega),[],?_⟩
      simp[cX,zC,d]
    .exfalso;(simp only[oZ] at *;omega)
   .have e:=IY m (f:=GR) (by simpa using a)
    rw[i]at a;simp only[decide_eq_true_eq]at a;(repeat first|refine tA rfl ?_|refine s2 rfl λ_ b=>?_|refine aU rfl ?_|apply Aa);(refine aC rfl ?_ ?_<;>rintro⟨⟩)
    ·(repeat' first|(refine sA rfl ?_ ?_;first|exact tI|omega)|refine s2 rfl λ_ b=>?_|refine sP rfl (h) rfl ?_|refine s3 rfl ?_ ?_<;>rintro rfl|refine aV rfl ?_|apply Aa|(refine aC rfl ?_ ?_<;>rintro⟨⟩)|refine aR ⟨_,rfl,?_⟩)
     .rw[e]
     .rw[e]
     .exfalso;(simp only[oZ] at *;omega)
    .exfalso;(simp only[oZ] at *;omega)
  .have o:=Hk ha (show w.length<=k by omega)
   (repeat first|refine tA rfl ?_|refine s2 rfl λ_ b=>?_|refine aU rfl ?_|apply Aa);(refine aC rfl ?_ ?_<;>rintro⟨⟩)
   .exfalso;(simp only[oZ] at *;omega)
   ·(repeat' first|refine tA rfl ?_|refine aV rfl ?_|apply Aa|(refine aC rfl ?_ ?_<;>rintro⟨⟩)|refine aR ⟨_,rfl,?_⟩)
    rw[o]
 .have g:EN w=false:=by unfold EN;simp[n]
  rw[g];refine eN Tryz.func187 rfl (by kernel_rfl) rfl ?_;intro Γ d;(repeat first|refine tA rfl ?_|refine s2 rfl λ_ b=>?_|refine aU rfl ?_|apply Aa);(refine aC rfl ?_ ?_<;>rintro⟨⟩)
  ·(repeat' first|refine tA rfl ?_|refine aV rfl ?_|apply Aa|(refine aC rfl ?_ ?_<;>rintro⟨⟩)|refine aR ⟨_,rfl,?_⟩)
   rfl
  .exfalso;(simp only[oZ] at *;omega)
abbrev td(n:Int)(b:Bool):E:=.t [(false,[.d (iD n)]),(false,[.d (bD b)])]
theorem eZ{w:W}{k:Nat}{c:UInt8}(a:w[k]?=some c):LR (w.take (k+1))=LR (w.take k) ||| 2 ^ (c.toNat-97):=by
 unfold LR;rw[d9,a];simp
theorem So(w:W)(s:w.length<=1099511627776):Pure Tryz.prog TB 215 [eT w] (if EN w then td (LR w:Nat) true else td 0 false):=by
 have f:=Nv (TB:=TB) w s;by_cases e:EN w=true
 .have a:=e
  unfold EN at a;simp only[d4,decide_eq_true_eq]at a;rw[if_pos e];refine eN Tryz.func215 rfl (by kernel_rfl) rfl ?_;intro Γ d;(repeat first|refine tA rfl ?_|refine s2 rfl λ_ b=>?_|(refine sC rfl (f) ?_;intro _ b)|refine aU rfl ?_|apply Aa);(refine aC rfl ?_ ?_<;>rintro⟨⟩)
  .exfalso;simp at *;grind
  apply aK;(repeat first|refine tA rfl ?_|refine aU rfl ?_|apply Aa);apply aB;refine aL (α:={k:Nat // k<=w.length}) [0] [] rfl rfl (λ⟨k,hk⟩=>[(4,eI .i64 (LR (w.take k):Nat)),(5,eI .i64 k)]) (λ⟨k,hk⟩=>[]) 0 (λ⟨k,hk⟩=>w.length-k) (⟨0,by omega⟩) d rfl (by (simp[cX,zC,d]<;>rfl)) ?_;rintro⟨k,hk⟩;(try dsimp only[cA,cB]);by_cases m:k<w.length
  .obtain⟨c,p⟩:=get_some m
   have o:w[((k:Nat):Int).toNat]?=some c:=by simpa using p
   have n:=Jd (TB:=TB) w k c o;have h:=(ge.1 a.2) c (ce p);rw[Gq,decide_eq_true_eq]at h;have i:=Xf (TB:=TB) ((c.toNat:Int)-97) h.1 (by omega);have j:=eZ p;have l:LR (w.take k)<64:=Vv (by rw[ge];exact λx r=>(ge.1 a.2) x (t7 r)) (by omega)
   have ht:((c.toNat:Int)-97).toNat=c.toNat-97:=by omega
   have q:2 ^ (c.toNat-97)<2 ^ 6:=v7 (by omega) (by omega);have g:=(MA l q).1;rw[<-j]at g;rw[ht]at i;(repeat first|refine tA rfl ?_|refine s2 rfl λ_ b=>?_|refine aU rfl ?_|apply Aa);(refine aC rfl ?_ ?_<;>rintro⟨⟩)
   ·(repeat' first|(refine sA rfl ?_ ?_;first|exact tI|omega)|refine sP rfl (n) rfl ?_|refine sP rfl (i) rfl ?_|refine aV rfl ?_|apply Aa|(refine aC rfl ?_ ?_<;>rintro⟨⟩)|refine aR ⟨_,rfl,?_⟩)
    rw[g];refine⟨⟨k+1,by omega⟩,by dsimp only;(omega),[],?_⟩;simp[cX,zC,d]
   .exfalso;(simp only[oZ] at *;omega)
  .obtain rfl:k=w.length:=by omega
   rw[i9];(repeat first|refine tA rfl ?_|refine s2 rfl λ_ b=>?_|refine aU rfl ?_|apply Aa);(refine aC rfl ?_ ?_<;>rintro⟨⟩)
   .exfalso;(simp only[oZ] at *;omega)
   ·(repeat' first|refine tA rfl ?_|refine aV rfl ?_|apply Aa|(refine aC rfl ?_ ?_<;>rintro⟨⟩)|refine aR ⟨_,rfl,?_⟩)
    rfl
 .rw [if_neg e]
  refine eN Tryz.func215 rfl (by kernel_rfl) rfl ?_;intro Γ d;(repeat first|refine tA rfl ?_|refine s2 rfl λ_ b=>?_|(refine sC rfl (f) ?_;intro _ b)|refine aU rfl ?_|apply Aa);(refine aC rfl ?_ ?_<;>rintro⟨⟩)
  ·(repeat' first|refine tA rfl ?_|refine aV rfl ?_|apply Aa|(refine aC rfl ?_ ?_<;>rintro⟨⟩)|refine aR ⟨_,rfl,?_⟩)
   rfl
  .exfalso;simp at *;grind
theorem Et(w:W)(al:Int)(i:w.length<=1099511627776):Pure Tryz.prog TB 189 [eT w,eI .i64 al] (eB (within w al)):=by
 have d:=So (TB:=TB) w i;have g:=Dw (TB:=TB) al;by_cases a:EN w=true
 .rw [if_pos a]at d
  unfold EN at a;simp only[d4,decide_eq_true_eq]at a
  have f:within w al=(A2 al && w.all (Jc al)):=by unfold within;simp[a.1]
  rw[f];refine eN Tryz.func189 rfl (by kernel_rfl) rfl ?_;intro Γ e;(repeat' first|refine tA rfl ?_|refine s2 rfl λ_ c=>?_|refine sP rfl (d) rfl ?_|(refine sC rfl (g) ?_;intro _ c)|refine s3 rfl ?_ ?_<;>rintro rfl|refine aV rfl ?_|apply Aa|(refine aC rfl ?_ ?_<;>rintro⟨⟩)|refine aR ⟨_,rfl,?_⟩)
  all_goals first
   | (show E.o _=E.o _;congr;grind)
   | (rename_i ha b;rw[mf a.2 ha]at c;show E.o _=E.o _;rw[ha,c];rfl)
 .rw [if_neg a]at d
  have f:within w al=false:=by
   rw[xD];intro h;unfold within at h;simp only[d4,decide_eq_true_eq]at h;exact a (by unfold EN;simp[h.1,aA h.2.2])
  rw[f];refine eN Tryz.func189 rfl (by kernel_rfl) rfl ?_;intro Γ e;(repeat' first|refine tA rfl ?_|refine sP rfl (d) rfl ?_|(refine sC rfl (g) ?_;intro _ c)|refine aV rfl ?_|apply Aa|(refine aC rfl ?_ ?_<;>rintro⟨⟩)|refine aR ⟨_,rfl,?_⟩)
  all_goals rfl
theorem EM{w:W}{al:Int}(h:within w al=true):Ax (AR al) w:=by
 unfold within at h;simp only[d4,decide_eq_true_eq]at h;intro c b;have a:=(ge.1 h.2.2) c b;unfold Jc GR at a;simp only[d4,decide_eq_true_eq]at a;refine d8.2 ⟨((c.toNat-97:Nat):Int),El.2 ⟨by omega,a.2⟩,?_⟩;unfold lb
 have e:97+((c.toNat-97:Nat):Int).toNat=c.toNat:=by omega
 rw[e];simp
theorem Ht{w:W}{al:Int}(h:Ax (AR al) w)(d:w.length<=50000)(ha:A2 al=true):within w al=true:=by
 unfold within;simp only[d4,decide_eq_true_eq];refine⟨d,ha,ge.2 λc f=>?_⟩;obtain⟨l,b,rfl⟩:=d8.1 (h c f);have a:=Af b;have g:=FU a.1 (by omega);unfold Jc GR;simp only[d4,decide_eq_true_eq]
 have e:(lb l).toNat-97=l.toNat:=by omega
 rw[e];exact⟨by omega,a.2.2⟩
theorem ia{p:AI}(hp:AJ p=true)(w:W)(m:Ax (AR p.al) w)(q:w.length<=1099511627776):Pure Tryz.prog TB 226 [Bp p,eI .i64 0,eT w] (eI .i64 (Bk p 0 w)):=by
 have n:=AB hp;refine eN Tryz.func226 rfl (by kernel_rfl) rfl ?_;intro Γ a;(repeat first|refine tA rfl ?_|refine aU rfl ?_|apply Aa);apply aB;refine aL (α:={k:Nat // k<=w.length}) [2,3] [] rfl rfl (λ⟨k,hk⟩=>[(1,eI .i64 (Bk p 0 (w.take k))),(7,eI .i64 k)]) (λ⟨k,hk⟩=>[]) 0 (λ⟨k,hk⟩=>w.length-k) (⟨0,by omega⟩) a rfl (by (simp[cX,zC,a]<;>rfl)) ?_;rintro⟨k,hk⟩;(try dsimp only[cA,cB]);have o:=KI hp (w.take k) 0 (KD m k) (by omega);by_cases g:k<w.length
 .obtain⟨c,j⟩:=get_some g
  have i:w[((k:Nat):Int).toNat]?=some c:=by simpa using j
  have d:=HQ (m c (ce j));have h:=Jd (TB:=TB) w k c i;have b:=Kz (TB:=TB) p hp (Bk p 0 (w.take k)).toNat (by omega) ((c.toNat:Int)-97) d.1 d.2
  have e:(((Bk p 0 (w.take k)).toNat:Nat):Int)=Bk p 0 (w.take k):=by omega
  rw[e]at b;have f:=eQ (p:=p) j 0;rw[<-f]at b;(repeat first|refine tA rfl ?_|refine s2 rfl λ_ l=>?_|refine aU rfl ?_|apply Aa);(refine aC rfl ?_ ?_<;>rintro⟨⟩)
  ·(repeat' first|(refine sA rfl ?_ ?_;first|exact tI|omega)|refine sP rfl (h) rfl ?_|refine sP rfl (b) rfl ?_|refine aV rfl ?_|apply Aa|refine rE (by kernel_rfl) ?_|(refine aC rfl ?_ ?_<;>rintro⟨⟩)|refine aR ⟨_,rfl,?_⟩)
   refine⟨⟨k+1,by omega⟩,by dsimp only;(omega),[],?_⟩;simp[cX,zC,a]
  .exfalso;(simp only[oZ] at *;omega)
 .obtain rfl:k=w.length:=by omega
  rw[i9];(repeat first|refine tA rfl ?_|refine s2 rfl λ_ l=>?_|refine aU rfl ?_|apply Aa);(refine aC rfl ?_ ?_<;>rintro⟨⟩)
  .exfalso;(simp only[oZ] at *;omega)
  ·(repeat' first|refine tA rfl ?_|refine aV rfl ?_|apply Aa|(refine aC rfl ?_ ?_<;>rintro⟨⟩)|refine aR ⟨_,rfl,?_⟩)
   rfl
def GW(p:AI)(w:W):Int:=if AJ p && within w p.al then Bk p 0 w else -1
def Sl(p:AI)(w:W):Bool:=AJ p && (within w p.al && LA p w)
theorem SS(p:AI)(w:W)(e:w.length<=1099511627776):Pure Tryz.prog TB 221 [Bp p,eT w] (eI .i64 (GW p w)):=by
 have g:=Bg (TB:=TB) p;have f:=Et (TB:=TB) w p.al e;by_cases b:(AJ p && within w p.al)=true
 .have d:GW p w=Bk p 0 w:=by unfold GW;rw[if_pos b]
  rw[d];rw[d4]at b;have h:=ia (TB:=TB) b.1 w (EM b.2) e;refine eN Tryz.func221 rfl (by kernel_rfl) rfl ?_;intro Γ c;(repeat' first|refine tA rfl ?_|refine s2 rfl λ_ a=>?_|(refine sC rfl (g) ?_;intro _ a)|(refine sC rfl (f) ?_;intro _ a)|refine sP rfl (h) rfl ?_|refine s3 rfl ?_ ?_<;>rintro rfl|refine aV rfl ?_|apply Aa|(refine aC rfl ?_ ?_<;>rintro⟨⟩)|refine aR ⟨_,rfl,?_⟩)
  all_goals first
   | rfl
   | (exfalso;grind;done)
 .have d:GW p w = -1:=by unfold GW;rw[if_neg b]
  rw[d];refine eN Tryz.func221 rfl (by kernel_rfl) rfl ?_;intro Γ c;(repeat' first|refine tA rfl ?_|refine s2 rfl λ_ a=>?_|(refine sC rfl (g) ?_;intro _ a)|(refine sC rfl (f) ?_;intro _ a)|refine s3 rfl ?_ ?_<;>rintro rfl|refine aV rfl ?_|apply Aa|(refine aC rfl ?_ ?_<;>rintro⟨⟩)|refine aR ⟨_,rfl,?_⟩)
  all_goals first
   | rfl
   | (exfalso;grind;done)
theorem P8(p:AI)(w:W)(h:w.length<=1099511627776):Pure Tryz.prog TB 201 [Bp p,eT w] (eB (Sl p w)):=by
 have c:=SS (TB:=TB) p w h;by_cases a:(AJ p && within w p.al)=true
 .have e:GW p w=Bk p 0 w:=by unfold GW;rw[if_pos a]
  rw[e]at c;rw[d4]at a;have g:=AB a.1;have j:=KI a.1 w 0 (EM a.2) (by omega);obtain⟨b,hb⟩:=get_some (l:=p.ac) (k:=(Bk p 0 w).toNat) (by omega)
  have i:(p.ac.map Iq)[(Bk p 0 w).toNat]?=some (Iq b):=by simp[hb]
  have ha:Sl p w=b:=by unfold Sl LA;simp[a.1,a.2,List.getD,hb]
  rw[ha];refine eN Tryz.func201 rfl (by kernel_rfl) rfl ?_;intro Γ d;(repeat' first|refine tA rfl ?_|(refine s4 rfl ‹_› rfl ?_ ?_;omega)|refine s2 rfl λ_ f=>?_|refine sP rfl (c) rfl ?_|refine s3 rfl ?_ ?_<;>rintro rfl|refine aV rfl ?_|apply Aa|(refine aC rfl ?_ ?_<;>rintro⟨⟩)|refine aR ⟨_,rfl,?_⟩)
  all_goals first
   | rfl
   | (exfalso;(simp only[oZ] at *;omega))
 .have e:GW p w = -1:=by unfold GW;rw[if_neg a]
  rw[e]at c
  have ha:Sl p w=false:=by unfold Sl;grind
  rw[ha];refine eN Tryz.func201 rfl (by kernel_rfl) rfl ?_;intro Γ d;(repeat' first|refine tA rfl ?_|refine s2 rfl λ_ f=>?_|refine sP rfl (c) rfl ?_|refine s3 rfl ?_ ?_<;>rintro rfl|refine aV rfl ?_|apply Aa|(refine aC rfl ?_ ?_<;>rintro⟨⟩)|refine aR ⟨_,rfl,?_⟩)
  all_goals first
   | rfl
   | (exfalso;(simp only[oZ] at *;omega))
structure EO where
 kn:Bool
 p:AI
 s:Sys
 q:AI
 al:Int
abbrev EY(t:EO):E:=tB t.kn t.p t.s t.q t.al
structure Ll (P:Program) (TB:BB) (gA gQ:FuncId) (t:EO) (al:Int) (A:W->Bool):Prop where
 alph:Pure P TB gA [EY t] (eI .i64 al)
 ask:∀w:W,w.length<=1099511627776->Pure P TB gQ [EY t,eT w] (eB (A w))
structure YH (t:AW):Prop where
 rl:t.rows.length<=4194304
 cl:t.cols.length<=4194304
 rb:∀w∈t.rows,w.length<=4194304
 cb:∀w∈t.cols,w.length<=4194304
theorem JS(l:List W)(s:W)(n:l.length<=1099511627776):Pure Tryz.prog TB 203 [BQ l,eT s] (eB (decide (s∈l))):=by
 refine eN Tryz.func203 rfl (by kernel_rfl) rfl ?_;intro Γ b;(repeat first|refine tA rfl ?_|refine aU rfl ?_|apply Aa);apply aB;refine aL (α:={k:Nat // k<=l.length/\s∉l.take k}) [0,1] [] rfl rfl (λ⟨k,hk,c⟩=>[(5,eI .i64 k)]) (λ⟨k,hk,c⟩=>[]) 0 (λ⟨k,hk,c⟩=>l.length-k) (⟨0,by omega,by simp⟩) b rfl (by (simp[cX,zC,b])) ?_;rintro⟨k,hk,c⟩;(try dsimp only[cA,cB]);by_cases i:k<l.length
 .obtain⟨x,e⟩:=get_some i
  have j:=get_map (g:=CU) e;by_cases d:x=s
  .have m:s∈l:=d▸ce e
   (repeat first|refine sN rfl ?_|refine tA rfl ?_|refine s2 rfl λ_ a=>?_|refine aU rfl ?_|apply Aa);(refine aC rfl ?_ ?_<;>rintro⟨⟩)
   ·(repeat' first|(refine sA rfl ?_ ?_;first|exact tI|omega)|(refine s4 rfl ‹_› rfl ?_ ?_;omega)|refine s2 rfl λ_ a=>?_|refine aV rfl ?_|apply Aa|(refine aC rfl ?_ ?_<;>rintro⟨⟩)|refine aR ⟨_,rfl,?_⟩)
    .simp[m]
    .exfalso;simp[d]at a
   .exfalso;(simp only[oZ] at *;omega)
  .have f:s∉l.take (k+1):=by
    rw[d9,e];intro h
    rcases f7.1 h with h|h
    .exact c h
    .simp at h;exact d h.symm
   (repeat first|refine sN rfl ?_|refine tA rfl ?_|refine s2 rfl λ_ a=>?_|refine aU rfl ?_|apply Aa);(refine aC rfl ?_ ?_<;>rintro⟨⟩)
   ·(repeat' first|(refine sA rfl ?_ ?_;first|exact tI|omega)|(refine s4 rfl ‹_› rfl ?_ ?_;omega)|refine s2 rfl λ_ a=>?_|refine aV rfl ?_|apply Aa|(refine aC rfl ?_ ?_<;>rintro⟨⟩)|refine aR ⟨_,rfl,?_⟩)
    .exfalso;simp[d]at a
    .refine⟨⟨k+1,by omega,f⟩,by dsimp only;(omega),[],?_⟩
     simp[cX,zC,b]
   .exfalso;(simp only[oZ] at *;omega)
 .rw [i8 (by omega)]at c
  (repeat first|refine sN rfl ?_|refine tA rfl ?_|refine s2 rfl λ_ a=>?_|refine aU rfl ?_|apply Aa);(refine aC rfl ?_ ?_<;>rintro⟨⟩)
  .exfalso;(simp only[oZ] at *;omega)
  ·(repeat' first|refine tA rfl ?_|refine aV rfl ?_|apply Aa|(refine aC rfl ?_ ?_<;>rintro⟨⟩)|refine aR ⟨_,rfl,?_⟩)
   simp[c]
theorem ZB{A:W->Bool}{cols:List W}{w c:W}{k:Nat}(a:cols[k]?=some c):marks A (cols.take (k+1)) w=marks A (cols.take k) w++[TE (A (w++c))]:=by
 unfold marks;rw[d9,a];simp
theorem eb{A:W->Bool}{cols:List W}{w:W}:(marks A cols w).length=cols.length:=by simp[marks]
theorem N0{t:EO}{al:Int}{A:W->Bool}(l:Ll Tryz.prog TB 140 186 t al A)(cols:List W)(w:W)(n:cols.length<=4194304)(m:w.length<=4194305)(hb:∀x∈cols,x.length<=4194304) :
 Pure Tryz.prog TB 143 [EY t,BQ cols,eT w] (eT (marks A cols w)):=by
 refine eN Tryz.func143 rfl (by kernel_rfl) rfl ?_;intro Γ a;(repeat first|refine tA rfl ?_|refine aU rfl ?_|apply Aa);apply aB;refine aL (α:={k:Nat // k<=cols.length}) [1,2,3] [] rfl rfl (λ⟨k,hk⟩=>[(7,eT (marks A (cols.take k) w)),(8,eI .i64 k)]) (λ⟨k,hk⟩=>[]) 0 (λ⟨k,hk⟩=>cols.length-k) (⟨0,by omega⟩) a rfl (by (simp[cX,zC,a]<;>rfl)) ?_;rintro⟨k,hk⟩;(try dsimp only[cA,cB])
 have j:(marks A (cols.take k) w).length<=4194304:=by rw[eb,vo];omega
 by_cases e:k<cols.length
 .obtain⟨x,d⟩:=get_some e
  have h:=get_map (g:=CU) d;have f:=hb x (ce d);have i:=l.ask (w++x) (by simp;omega);have b:=ZB (A:=A) (w:=w) d;(repeat first|refine sN rfl ?_|refine tA rfl ?_|refine s2 rfl λ_ c=>?_|refine aU rfl ?_|apply Aa);(refine aC rfl ?_ ?_<;>rintro⟨⟩)
  .apply aK
   refine aS (aB ?_);(repeat first|(refine sA rfl ?_ ?_;first|exact tI|omega)|(refine s4 rfl ‹_› rfl ?_ ?_;omega)|(refine sC rfl (i) ?_;intro _ c)|refine aU rfl ?_|apply Aa|refine rE (by kernel_rfl) ?_);(refine aC rfl ?_ ?_<;>rintro⟨⟩)
   .rw[c]at b
    (repeat first|(refine sA rfl ?_ ?_;first|exact tI|omega|simp only[oZ] at *;omega)|refine aU rfl ?_|apply Aa);refine⟨⟨k+1,by omega⟩,by dsimp only;(omega),[],?_⟩;simp[cX,zC,a,b,TE]
   .rw[c]at b
    (repeat first|(refine sA rfl ?_ ?_;first|exact tI|omega|simp only[oZ] at *;omega)|refine aU rfl ?_|apply Aa);refine⟨⟨k+1,by omega⟩,by dsimp only;(omega),[],?_⟩;simp[cX,zC,a,b,TE]
  .exfalso;(simp only[oZ] at *;omega)
 .obtain rfl:k=cols.length:=by omega
  rw[i9];(repeat first|refine sN rfl ?_|refine tA rfl ?_|refine s2 rfl λ_ c=>?_|refine aU rfl ?_|apply Aa);(refine aC rfl ?_ ?_<;>rintro⟨⟩)
  .exfalso;(simp only[oZ] at *;omega)
  ·(repeat' first|refine tA rfl ?_|refine aV rfl ?_|apply Aa|(refine aC rfl ?_ ?_<;>rintro⟨⟩)|refine aR ⟨_,rfl,?_⟩)
   rfl
end Go.Am
