/-
  The program's search, as plain data: visits.
-/
import Derived.Test.YtgpbfllcjdfelaaGreatDoorPart10
import Derived.Test.YtgpbfllcjdfelaaGreatDoorPart9
set_option linter.all false
namespace Go.Am
open Go
def Fh(steps:List OH)(p l:Int)(fresh:List Int):List OH:=if fresh=[] then steps else steps++[⟨p,l,fresh⟩]
def ow(ws:List (List Int))(w fresh:List Int):List (List Int):=if fresh=[] then ws else ws++[w]
structure Chain (ls:List Int) (steps:List OH) (ws:List (List Int)):Prop where
 wlen:ws.length=steps.length
 chain:∀(t:Nat) s,steps[t]?=some s->(s.p = -1/\ws[t]?=some [])\/∃(q:Nat) (w:List Int),s.p=(q:Int)/\q<t/\ws[q]?=some w/\ws[t]?=some (w++[s.l])/\s.l∈ls
theorem Ht{α:Type}{l:List α}{x y:α}{t:Nat}(h:(l++[x])[t]?=some y):l[t]?=some y\/t=l.length/\y=x:=by
 rcases pT t l.length with a|a
 ·rw[em a]at h;exact .inl h
 ·rw[f7 a]at h
  have b:=(ce.1 h).1;simp at b
  have:t=l.length:=by omega
  subst this;simp at h;exact .inr ⟨rfl,h.symm⟩
theorem JX{α:Type}{l:List α}{x y:α}{t:Nat}(h:l[t]?=some y):(l++[x])[t]?=some y:=by
 rw[em (ce.1 h).1];exact h
theorem Chain.app{ls:List Int}{steps:List OH}{ws:List (List Int)}(h:Chain ls steps ws){i:Nat}{wi:List Int}{l:Int}{ns:List Int}(d:ws[i]?=some wi)(f:l∈ls):Chain ls (steps++[⟨i,l,ns⟩]) (ws++[wi++[l]]):=by
 have hi:=(ce.1 d).1;refine⟨by simp[h.wlen],λt s e=>?_⟩
 rcases Ht e with b|⟨b,a⟩
 ·rcases h.chain t s b with ⟨a,c⟩|⟨q,w,a,c,k,j,g⟩
  ·exact .inl ⟨a,JX c⟩
  ·exact .inr ⟨q,w,a,c,JX k,JX j,g⟩
 ·subst a
  refine .inr ⟨i,wi,rfl,?_,JX d,?_,f⟩
  ·rw[b,<-h.wlen];exact hi
  ·rw[b,<-h.wlen];simp
theorem FI.ZX{g:Gr}{seen:List Bool}{steps:List OH}{ws:List (List Int)}{i j:Nat}(h:FI g seen steps ws i j):Chain g.ls steps ws:=⟨h.wlen,h.chain⟩
theorem FI.visit{g:Gr}(Q:Jc g){seen:List Bool}{steps:List OH}{ws:List (List Int)}{i j:Nat}(h:FI g seen steps ws i j){wi:List Int}{lj:Int}(K:ws[i]?=some wi)(U:g.ls[j]?=some lj){s:OH}(hs:steps[i]?=some s)
 {R:List Int} (hR:∀y,y∈R↔∃n∈s.ns,y∈g.succ n lj) {st:jH} (z:lC g.goal g.N seen R st) (hf:st.found=false):FI g st.seen (Fh steps i lj st.fresh) (ow ws (wi++[lj]) st.fresh) i (j+1):=by
 have hl:=co U
 have Y:∀y∈R,0<=y/\y<g.N:=λy J=>by
  obtain⟨n,e,J⟩:=(hR y).1 J;exact Q.inn n (h.inn s (co hs) n e) lj hl y J
 have q:∀n:Int,0<=n->sn seen n=true->sn st.seen n=true:=λn e hx=>(z.snI n e).2 (.inl hx)
 have S:∀n∈st.fresh,g.goal n=false:=λn e=>by
  have:=z.fd;rw[hf]at this;have o:=List.any_eq_false.1 this.symm n e
  simpa using o
 have L:∀w∈ws,w=[]\/∃(p:Nat) (v:List Int) (l:Int),ws[p]?=some v/\w=v++[l]/\l∈g.ls/\(p<i\/p=i/\∃j',j'<j+1/\g.ls[j']?=some l):=λw K=>by
  rcases h.par w K with c|⟨p,v,l,c,o,f,k⟩
  ·exact .inl c
  ·refine .inr ⟨p,v,l,c,o,f,?_⟩
   rcases k with k|⟨k,j',h5,h6⟩
   ·exact .inl k
   ·exact .inr ⟨k,j',by omega,h6⟩
 have I:∀(t:Nat) s',steps[t]?=some s'->∀l,(t<i/\l∈g.ls\/t=i/\∃j',j'<j+1/\g.ls[j']?=some l)->∀n∈s'.ns,∀y∈g.succ n l,sn st.seen y=true:=by
  intro t s' d l H n e y J
  have B:0<=y/\y<g.N:=by
   refine Q.inn n (h.inn s' (co d) n e) l ?_ y J
   rcases H with ⟨_,c⟩|⟨_,j',_,c⟩
   ·exact c
   ·exact co c
  rcases H with c|⟨c,j',o,f⟩
  ·exact q y B.1 (h.done t s' d l (.inl c) n e y J)
  ·subst c
   rcases rP.1 o with k|k
   ·exact q y B.1 (h.done t s' d l (.inr ⟨rfl,j',k,f⟩) n e y J)
   ·subst k
    rw[U]at f
    injection f with f
    subst f;rw[hs]at d
    injection d with d
    subst d;exact(z.snI y B.1).2 (.inr ((hR y).2 ⟨n,e,J⟩))
 unfold Fh ow;by_cases r:st.fresh=[]
 ·rw [if_pos r,if_pos r]
  have M:∀n:Int,0<=n->(sn st.seen n=true↔sn seen n=true):=λn e=>by
   rw[z.snI n e];refine⟨λc=>?_,.inl⟩
   rcases c with c|c
   ·exact c
   ·rcases Bool.eq_false_or_eq_true (sn seen n) with o|o
    ·exact o
    ·have:=(z.fr n).2 ⟨c,o⟩
     rw[r]at this;cases this
  refine⟨z.len,h.wlen,h.chain,h.rch,h.ov,h.min,h.ord,L,λn e=>by rw[M n e];exact h.snI n e,I,h.nogoal,h.inn,q _ Q.s0.1 h.start,?_,h.le,h.nd⟩;rw[z.cnt,r];exact h.cnt
 ·rw [if_neg r,if_neg r]
  have V:=h.ZX.app (ns:=st.fresh) K hl;have x:∀n∈st.fresh,n∈R/\sn seen n=false:=λn e=>(z.fr n).1 e
  have X:∀w∈ws,slt w (wi++[lj]):=by
   intro w F
   rcases h.par w F with rfl|⟨p,v,l,c,rfl,f,k⟩
   ·exact .inl (by simp)
   ·rcases k with k|⟨k,j',h5,h6⟩
    ·obtain⟨a1,a2⟩:=ce.1 c
     obtain⟨b1,b2⟩:=ce.1 K;have h7:=(pH.1 h.ord) p i a1 b1 k;rw[a2,b2]at h7;exact ZO h7
    ·subst k
     rw[K]at c
     injection c with c
     subst c;obtain⟨a1,a2⟩:=ce.1 h6;obtain⟨b1,b2⟩:=ce.1 U;have h7:=(pH.1 Q.srt) j' j a1 b1 h5;rw[a2,b2]at h7;exact fO h7
  have P:∀n∈st.fresh,∃m∈s.ns,n∈g.succ m lj:=λn e=>(hR n).1 (x n e).1;refine⟨z.len,V.wlen,V.chain,λt s' w d G n e=>?_,λw F=>?_,λt s' w d G n e u hu T hr=>?_,?_,λw F=>?_,λn e=>?_,λt s' d l H n e y J=>?_,λs' d n e=>?_,λs' d n e=>?_,q _ Q.s0.1 h.start,?_,?_,λs' d=>?_⟩
  ·rcases Ht d with c|⟨c,o⟩
   ·rcases Ht G with f|⟨f,k⟩
    ·exact h.rch t s' w c f n e
    ·have:=(ce.1 c).1
     rw[h.wlen]at f;omega
   ·subst o
    rcases Ht G with f|⟨f,k⟩
    ·have:=(ce.1 f).1
     rw[h.wlen]at this;omega
    ·subst k
     obtain⟨m,hm,hnm⟩:=P n e;exact EE.2 ⟨m,h.rch i s wi hs K m hm,hnm⟩
  ·rcases d9.1 F with c|c
   ·exact h.ov w c
   ·simp at c;subst c
    exact GF.2 ⟨h.ov wi (co K),hl⟩
  ·rcases Ht d with c|⟨c,o⟩
   ·rcases Ht G with f|⟨f,k⟩
    ·exact h.min t s' w c f n e u hu T hr
    ·have:=(ce.1 c).1
     rw[h.wlen]at f;omega
   ·subst o
    rcases Ht G with f|⟨f,k⟩
    ·have:=(ce.1 f).1
     rw[h.wlen]at this;omega
    ·subst k
     have:=h.jq Q K U u.length u rfl hu T n hr;rw[(x n e).2]at this;cases this
  ·refine q9.2 ⟨h.ord,by simp,λa ha b hb=>?_⟩
   simp at hb;subst hb;exact X a ha
  ·rcases d9.1 F with c|c
   ·rcases L w c with o|⟨p,v,l,o,f,k,h5⟩
    ·exact .inl o
    ·exact .inr ⟨p,v,l,JX o,f,k,h5⟩
   ·simp at c;subst c
    exact .inr ⟨i,wi,lj,JX K,rfl,hl,.inr ⟨rfl,j,by omega,U⟩⟩
  ·rw [z.snI n e,h.snI n e]
   constructor
   ·rintro(⟨s',d,A⟩|hnR)
    ·exact⟨s',pJ _ d,A⟩
    ·rcases Bool.eq_false_or_eq_true (sn seen n) with o|o
     ·obtain⟨s',d,A⟩:=(h.snI n e).1 o
      exact⟨s',pJ _ d,A⟩
     ·exact⟨⟨i,lj,st.fresh⟩,pS _ (by simp),(z.fr n).2 ⟨hnR,o⟩⟩
   ·rintro⟨s',d,A⟩
    rcases d9.1 d with c|c
    ·exact .inl ⟨s',c,A⟩
    ·simp at c;subst c
     exact .inr (x n A).1
  ·rcases Ht d with c|⟨c,o⟩
   ·exact I t s' c l H n e y J
   ·have:=(ce.1 hs).1
    rcases H with ⟨f,_⟩|⟨f,_⟩<;>omega
  ·rcases d9.1 d with c|c
   ·exact h.nogoal s' c n e
   ·simp at c;subst c;exact S n e
  ·rcases d9.1 d with c|c
   ·exact h.inn s' c n e
   ·simp at c;subst c;exact Y n (x n e).1
  ·have c:=z.cnt
   have o:=h.cnt;have f:0<st.fresh.length:=s9.2 r;simp;omega
  ·have:=h.le;simp;omega
  ·rcases d9.1 d with c|c
   ·exact h.nd s' c
   ·simp at c;subst c;exact z.nd
theorem FI.init{g:Gr}(q:Jc g){st:jH}(j:lC g.goal g.N (List.replicate g.N false) [g.s0] st)(r:st.found=false):st.fresh=[g.s0]/\FI g st.seen [⟨-1,0,[g.s0]⟩] [[]] 0 0:=by
 have hno:∀n,sn (List.replicate g.N false) n=false:=λn=>by
  unfold sn;by_cases h:n.toNat<g.N<;>simp[List.getD,h]
 have d:∀n,n∈st.fresh↔n=g.s0:=λn=>by rw[j.fr n];simp[hno]
 have k:st.fresh=[g.s0]:=by
  have i:=j.nd;generalize st.fresh=l at d i
  cases l with
  | nil=>have:=(d g.s0).2 rfl;cases this
  | cons a l=>
   have ha:=(d a).1 (by simp);subst ha
   cases l with
   | nil=>rfl
   | cons b l=>
    have hb:=(d b).1 (by simp);subst hb;simp at i
 refine⟨k,?_⟩
 have m:g.goal g.s0=false:=by
  have:=j.fd;rw[r,k]at this
  simpa using this.symm
 have one:∀(t:Nat) (s:OH),[(⟨-1,0,[g.s0]⟩:OH)][t]?=some s->t=0/\s=⟨-1,0,[g.s0]⟩:=λt s h=>by
  cases t with
  | zero=>simp at h;exact⟨rfl,h.symm⟩
  | succ t=>simp at h
 have one':∀(t:Nat) (w:List Int),[([]:List Int)][t]?=some w->w=[]:=λt w h=>by
  cases t with
  | zero=>exact(Option.some.inj h).symm
  | succ t=>simp at h
 refine⟨j.len,rfl,λt s c=>?_,λt s w c f n e=>?_,λw f=>?_,λt s w c f n e u _ o=>?_,by simp,λw f=>by simp at f;exact .inl f,λn e=>?_,λt s c l p n e y v=>?_,λs c n e=>?_,λs c n e=>?_,?_,?_,by simp,λs c=>?_⟩
 ·obtain⟨rfl,rfl⟩:=one t s c;exact .inl ⟨rfl,rfl⟩
 ·obtain⟨rfl,rfl⟩:=one t s c
  have:=one' 0 w f;subst this;simp at e;subst e;exact(rfl:g.s0=g.s0)
 ·simp at f;subst f;exact λl p=>(by cases p)
 ·have:=one' t w f
  subst this
  rcases o with i|⟨_,i⟩
  ·simp at i
  ·cases u<;>exact i.elim
 ·rw[j.snI n e];simp[hno]
 ·rcases p with ⟨i,_⟩|⟨_,j',i,_⟩<;>omega
 ·simp at c;subst c;simp at e;subst e;exact m
 ·simp at c;subst c;simp at e;subst e;exact q.s0
 ·exact(j.snI _ q.s0.1).2 (.inr (by simp))
 ·rw[j.cnt,k];simp
 ·simp at c;subst c;simp
theorem CC.start{g:Gr}(h:g.goal g.s0=true):CC g (some []):=
 ⟨λl c=>(by cases c),⟨g.s0,rfl,h⟩,λu _ _ a=>by rcases a with b|⟨_,b⟩;(simp at b);(cases u<;>exact b.elim)⟩
end Go.Am
namespace Go.Am
open Go Go.Proofs
set_option maxHeartbeats 1000000
set_option maxRecDepth 4000
attribute [local irreducible] A9 CY Lex BV Ak Spec
variable {TB:BR}
def Fg(bs:List UInt8)(k i:Nat):UInt8:=if i<k\/bs.length<=i+k then bs.getD (bs.length-1-i) 0 else bs.getD i 0
theorem k8(bs:List UInt8):(BK bs.length λi=>FP (Fg bs 0 i))=bs.map FP:=by
 apply qy;intro i;by_cases hi:i<bs.length
 ·rw[DY (g:=λi=>FP (Fg bs 0 i)) hi]
  unfold Fg;rw[if_neg (by omega)];simp[List.getD,hi]
 ·rw[ol (by simp[BK];omega),ol (by simp;omega)]
theorem fD(bs:List UInt8){k:Nat}(hk:bs.length<=2*k+1):(BK bs.length λi=>FP (Fg bs k i))=bs.reverse.map FP:=by
 apply qy;intro i;by_cases hi:i<bs.length
 ·rw [DY (g:=λi=>FP (Fg bs k i)) hi]
  unfold Fg
  have b:bs.reverse[i]?=some (bs.getD (bs.length-1-i) 0):=by
   rw[List.getElem?_reverse hi]
   have:bs.length-1-i<bs.length:=by omega
   simp[List.getD,this]
  rw[i8,b];by_cases a:i<k\/bs.length<=i+k
  ·rw[if_pos a];rfl
  ·rw[if_neg a]
   have:bs.length-1-i=i:=by omega
   rw[this];rfl
 ·rw[ol (by simp[BK];omega),ol (by simp;omega)]
theorem T8(r:Nat->Nat)(l:List UInt8):(l.map FP).map (C.Cp r)=l.map FP:=by
 rw[qt];exact qM λc _=>rfl
theorem Ge(r:Nat->Nat)(c:UInt8):C.Cp r (FP c)=FP c:=rfl
theorem NG(r:Nat->Nat)(n:Nat)(H:Nat->UInt8):(BK n λi=>FP (H i)).map (C.Cp r)=BK n λi=>FP (H i):=by
 unfold BK;rw[qt];exact qM λi _=>rfl
theorem LR{n q:Nat}{H:Nat->UInt8}(h:q<n):(BK n λi=>FP (H i))[0+((q:Nat):Int).toNat]?=some (FP (H q)):=by
 rw[ms,f9];exact DY (g:=λi=>FP (H i)) h
theorem O5{n q:Nat}{H:Nat->UInt8}{c d:UInt8}:(BK n λi=>FP (H i)).set (0+((q:Nat):Int).toNat) (Ae (FP d) 0 (eC (eI .u8 (c.toNat:Nat))))=BK n λi=>FP (if i=q then c else H i):=by
 rw[ms,f9];have e:Ae (FP d) 0 (eC (eI .u8 (c.toNat:Nat)))=FP c:=rfl;rw[e,NH];refine Di λi _=>?_;by_cases h:i=q<;>simp[h]
theorem XS(bs:List UInt8)(hb:bs.length<=1099511627776):Spec Tryz.prog TB 271 [(0,.cells 5 1 (bs.map FP))] 1 [.o (.arr 0 1 0 bs.length)] (λx σ nx=>x=.t []/\nx=1/\σ=[(0,.cells 5 1 (bs.reverse.map FP))]):=by
 refine eN Tryz.func271 rfl (by kernel_rfl) rfl ?_;intro Z b;(repeat first|(refine sM rfl ?_ ?_;first|exact tI|omega)|refine aU rfl ?_|apply Aa);apply aB;refine Ak.A5 (α:={k:Nat // k<=bs.length}) (λ⟨k,hk⟩=>[(0,.o (.arr 0 1 0 bs.length)),(2,eI .i64 k),(3,eI .i64 ((bs.length:Int)-1-k))]) (λ⟨k,hk⟩=>[(0,.cells 5 1 (BK bs.length λi=>FP (Fg bs k i)))]) 1 (λ⟨k,hk⟩=>bs.length-k) (⟨0,by omega⟩) [0] (Ei b rfl rfl) (by (simp[cX,zC,b,NG,k8,Ge])) ?_;rintro⟨k,hk⟩;(try dsimp only);(repeat first|refine tM rfl ?_|refine s2 rfl λ_ B=>?_|refine aU rfl ?_|apply Aa);(refine aC rfl ?_ ?_<;>rintro⟨⟩)
 ·have u:2*k+1<bs.length:=by (simp only[oZ] at *;omega)
  obtain⟨m,F⟩:∃m:Nat,m=bs.length-1-k:=⟨_,rfl⟩
  have A:(bs.length:Int)-1-k=((m:Nat):Int):=by omega
  have l:Fg bs k k=bs.getD k 0:=by unfold Fg;rw[if_neg (by omega)]
  have h:Fg bs k m=bs.getD m 0:=by unfold Fg;rw[if_neg (by omega)]
  have w:=LR (H:=Fg bs k) (q:=k) (n:=bs.length) (by omega);have v:=LR (H:=Fg bs k) (q:=m) (n:=bs.length) (by omega);have e:=O5 (n:=bs.length) (q:=k) (H:=Fg bs k) (c:=Fg bs k m) (d:=Fg bs k k);have a:=LR (H:=λi=>if i=k then Fg bs k m else Fg bs k i) (q:=m) (n:=bs.length) (by omega);have f:=O5 (n:=bs.length) (q:=m) (H:=λi=>if i=k then Fg bs k m else Fg bs k i) (c:=Fg bs k k) (d:=Fg bs k m)
  have g:m≠k:=by omega
  rw[if_neg g]at a
  have y:(BK bs.length λi=>FP (if i=m then Fg bs k k else if i=k then Fg bs k m else Fg bs k i))=BK bs.length λi=>FP (Fg bs (k+1) i):=Di λi hi=>by
   congr 1;by_cases s:i=m
   ·subst s;rw[if_pos rfl,l];unfold Fg;rw[if_pos (by omega)];congr 1;omega
   ·rw [if_neg s]
    by_cases r:i=k
    ·subst r;rw[if_pos rfl,h];unfold Fg;rw[if_pos (by omega)];congr 1
    ·rw[if_neg r];unfold Fg
     by_cases p:i<k\/bs.length<=i+k
     ·rw[if_pos p,if_pos (by omega)]
     ·rw[if_neg p,if_neg (by omega)]
  rw[<-e]at a;rw[A];apply aK;refine aS (aB ?_);refine rG (pg [13,15] [2,3]) (by kernel_rfl) ?_;(repeat first|(refine sM rfl ?_ ?_;first|exact tI|omega)|refine t4 rfl ‹_› rfl ?_|refine aU rfl ?_|apply Aa);refine⟨⟨k+1,by omega⟩,by dsimp only;(omega),[0],?_⟩;rw[e,f,y]
  have z:(m:Int)-1=bs.length-1-(k+1):=by omega
  simp[cX,zC,b,NG,z]
 ·have j:bs.length<=2*k+1:=by (simp only[oZ] at *;omega)
  rw[fD bs j];exact aE ⟨_,rfl,rfl,rfl,rfl⟩
abbrev jD(s:OH):List D:=[iD s.p,iD s.l,EO s.ns]
abbrev Qu(s:OH):List C:=[.d (iD s.p),.d (iD s.l),.d (EO s.ns)]
abbrev fU(l:List OH):D:=.l (l.map jD)
theorem bt{l:Int}(e:0<=l)(c:l<6):FP (UInt8.ofNat (97+l.toNat))=[.d (.v (.int .u8 (97+l)))]:=by
 have b:(97+l.toNat)%256=97+l.toNat:=pU (by omega)
 have a:(97+l:Int)=((97+l.toNat:Nat):Int):=by omega
 simp[FP,b,a]
theorem jg(o:List Int):(Dg o).reverse=Dg o.reverse:=by simp[Dg]
theorem VG{ls:List Int}{steps:List OH}{ws:List (List Int)}(h:Chain ls steps ws)(I:∀l∈ls,0<=l/\l<6){w:List Int}(n:1<=steps.length/\steps.length<=2097152)(P:ws[steps.length-1]?=some w):Pure Tryz.prog TB 215 [.o (.d (fU steps))] (eT (Dg w)):=by
 refine eN Tryz.func215 rfl (by kernel_rfl) rfl ?_;intro Z a;(repeat first|refine tM rfl ?_|refine aU rfl ?_|apply Aa);(refine pW rfl ?_ rfl (by rfl);refine Gu 1 5 ?_);(repeat first|refine sN rfl ?_|(refine sM rfl ?_ ?_;first|exact tI|omega)|refine aU rfl ?_|apply Aa);apply aB;refine Ak.A5 (α:={x:Nat×List Int // x.1+x.2.length<steps.length/\∃v,ws[x.1]?=some v/\w=v++x.2.reverse}) (λ⟨⟨i,o⟩,z⟩=>[(0,.o (.d (fU steps))),(3,.o (.arr 0 1 0 o.length)),(4,eI .i64 i)]) (λ⟨⟨i,o⟩,z⟩=>[(0,.cells 5 1 ((Dg o).map FP))]) 1 (λ⟨⟨i,o⟩,z⟩=>i) (⟨(steps.length-1,[]),by simp;omega,w,P,by simp⟩) [0] (Ei a rfl rfl) (by (simp[cX,zC,a,Dg,Int.ofNat_sub,n.1])) ?_;rintro⟨⟨i,o⟩,z⟩;(try dsimp only);obtain⟨hi,v,B,b⟩:=z;simp only at hi B b;obtain⟨s,K⟩:=get_some (l:=steps) (k:=i) (by omega);have R:=get_map (g:=jD) K;have t:=h.chain i s K
 have G:(Dg o).length=o.length:=by simp[Dg]
 (repeat first|refine tM rfl ?_|(refine s4 rfl ‹_› rfl ?_ ?_;omega)|refine s2 rfl λ_ V=>?_|refine aU rfl ?_|apply Aa);(refine aC rfl ?_ ?_<;>rintro⟨⟩)
 ·obtain⟨q,u,T,S,H,y,U⟩:∃(q:Nat) (u:List Int),s.p=(q:Int)/\q<i/\ws[q]?=some u/\ws[i]?=some (u++[s.l])/\s.l∈ls:=by
   rcases t with ⟨e,_⟩|e
   ·exfalso;(simp only[oZ] at *;omega)
   ·exact e
  have c:=I _ U;rw[B]at y
  injection y with y
  have J:=bt c.1 c.2
  have F:Dg (o++[s.l])=Dg o++[UInt8.ofNat (97+s.l.toNat)]:=by simp[Dg]
  have j:(Dg (o++[s.l])).map FP=(Dg o).map FP++[[.d (.v (.int .u8 (97+s.l)))]]:=by rw[F,qe,qz,J];rfl
  apply aK;refine aS (aB ?_);(repeat first|refine tA rfl ?_|(refine s4 rfl ‹_› rfl ?_ ?_;omega)|refine sP rfl (FH s.l c.1 (by omega)) rfl ?_|refine aU rfl ?_);(refine pW rfl ?_ rfl (by rfl);refine Au rfl rfl rfl (by first|(simp;done)|(simp;(omega))) rfl (by intro r L;simp at L;subst L;rfl) (by rfl) (am rfl) (by simp;omega) ?_);(repeat first|refine tX rfl ?_|(refine s4 rfl ‹_› rfl ?_ ?_;omega)|refine aU rfl ?_|apply Aa);refine⟨⟨(q,o++[s.l]),by simp;omega,u,H,by rw[b,y];simp⟩,by dsimp only;omega,[1],?_⟩;dsimp only;rw[j];simp[cX,zC,a,T,Ge]
 ·have A:v=[]:=by
   rcases t with ⟨_,e⟩|⟨q,u,e,_⟩
   ·rw[B]at e;injection e
   ·exfalso;(simp only[oZ] at *;omega)
  subst A
  have f:w=o.reverse:=by rw[b];rfl
  have m:=XS (TB:=TB) (Dg o) (by omega);rw[G,jg,<-f]at m;apply aE;(repeat first|refine tM rfl ?_|refine aU rfl ?_);(refine pW rfl ?_ rfl (by rfl);refine Aj [0] rfl rfl m ⟨rfl,by simp,by simp⟩ rfl (by simp[cX,zC,a,Ge]) ?_;rintro X M N ⟨rfl,rfl,rfl⟩ _)
  have Q:(Dg w).length=o.length:=by rw[f];simp[Dg]
  (repeat first|refine tM rfl ?_|(refine Af rfl ?_;refine gA rfl ?_;first|refine gQ (O2 (Dg w) rfl rfl (by simp;omega) (by rw[qm,T8,ge (by simp;omega)])) (by rfl) ?_)|refine aU rfl ?_|apply Aa);refine aR ⟨_,rfl,rfl⟩
theorem jK(p:Nat->Prop):(∀i,i<5->p i)↔p 0/\p 1/\p 2/\p 3/\p 4:=by
 constructor
 ·intro h;exact⟨h 0 (by omega),h 1 (by omega),h 2 (by omega),h 3 (by omega),h 4 (by omega)⟩
 ·rintro⟨e,d,c,b,a⟩ i hi
  have:i=0\/i=1\/i=2\/i=3\/i=4:=by omega
  rcases this with rfl|rfl|rfl|rfl|rfl<;>assumption
theorem gf{goal:Int->Bool}{seen:List Bool}{nodes:List Int}{k:Nat}{x:Int}(h:nodes[k]?=some x):Ul goal seen (nodes.take (k+1))=WH goal (Ul goal seen (nodes.take k)) x:=by
 unfold Ul;rw[GW h]
theorem VX{l:List Bool}{n:Int}:(l.map AF).set (0+n.toNat) (Ae (AF false) 0 (eC (eB true)))=(l.set n.toNat true).map AF:=by
 simp[Ae,eC,qC]
abbrev Gj(N:Nat)(gG:FuncId)(capsG:List C)(seen:List Bool)(q:Nat)(steps:List OH):Ab:=
 [(0,.cells 27 1 [[.arr 1 1 0 N]]),(1,.cells 4 1 (seen.map AF)),(2,.cells 154 1 [[.fn gG capsG]]),(3,.cells 216 1 [[.arr q 3 0 steps.length]]),(q,.cells 218 3 (steps.map Qu))]
theorem WG{goal:Int->Bool}{gG:FuncId}{capsG:List C}{N:Nat}(M:∀n:Int,0<=n/\n<N->Pure Tryz.prog TB gG ([eI .i64 n]++capsG.map .o) (eB (goal n)))(G:C.C1 capsG=true)(d:∀r,C.Cp r capsG=capsG)
 (seen:List Bool) (steps:List OH) (p l:Int) (nodes:List Int) (R:seen.length=N) (T:N<=1048576) (Q:steps.length<=1048576) (u:∀n∈nodes,0<=n/\n<N) :
 Spec Tryz.prog TB 214 (Gj N gG capsG seen 4 steps) 5 [eI .i64 p,eI .i64 l,Al nodes,.o (.ptr 0 1 0 0),.o (.ptr 2 1 0 0),.o (.ptr 3 1 0 0)]
  (λx σ nx=>x=eB (Ul goal seen nodes).found/\∃q,(q=4/\nx=5\/q=5/\nx=6)/\σ=Gj N gG capsG (Ul goal seen nodes).seen q (Fh steps p l (Ul goal seen nodes).fresh)):=by
 have s:∀k,lC goal N seen (nodes.take k) (Ul goal seen (nodes.take k)):=λk=>YC R λn F=>u n (pL F);refine eN Tryz.func214 rfl (by kernel_rfl) rfl ?_;intro Z a;refine Ak.bound 2 rfl λK=>?_;have S:=K _ .refl;rw[gt]at S;(repeat first|refine tM rfl ?_|refine aU rfl ?_|apply Aa);(refine pW rfl ?_ rfl (by rfl);refine Gu 1 3 ?_);(repeat first|refine sN rfl ?_|refine tM rfl ?_|refine aU rfl ?_|apply Aa);apply aB;refine Ak.A5 (α:={k:Nat // k<=nodes.length}) (λ⟨k,hk⟩=>[(0,eI .i64 p),(1,eI .i64 l),(3,.o (.ptr 0 1 0 0)),(4,.o (.ptr 2 1 0 0)),(5,.o (.ptr 3 1 0 0)),(10,.o (.arr 5 1 0 (Ul goal seen (nodes.take k)).fresh.length)),(11,eB (Ul goal seen (nodes.take k)).found),(14,Al nodes),(15,eI .i64 nodes.length),(16,eI .i64 k)]) (λ⟨k,hk⟩=>Gj N gG capsG (Ul goal seen (nodes.take k)).seen 4 steps++[(5,.cells 3 1 ((Ul goal seen (nodes.take k)).fresh.map AE))]) 6 (λ⟨k,hk⟩=>nodes.length-k) (⟨0,by omega⟩) [0,1,2,3,4,5] (Ei a rfl rfl) (by (simp[cX,zC,a,Gj,Ul,d])) ?_;rintro⟨k,hk⟩;(try dsimp only);have i:=s k;have c:=λx=>gf (goal:=goal) (seen:=seen) (nodes:=nodes) (k:=k) (x:=x);generalize L:Ul goal seen (nodes.take k)=v at *;(repeat first|refine s2 rfl λ_ f=>?_|refine aU rfl ?_|apply Aa);(refine aC rfl ?_ ?_<;>rintro⟨⟩)
 ·obtain⟨x,z⟩:=get_some (l:=nodes) (k:=k) (by (simp only[oZ] at *;omega))
  have P:=get_map (g:=Bw) z;have m:=u x (co z);have c:=c x z;have A:=i.len;obtain⟨b,hb⟩:=get_some (l:=v.seen) (k:=x.toNat) (by omega)
  have J:(v.seen.map AF)[0+x.toNat]?=some (AF b):=by simp[hb]
  have B:sn v.seen x=b:=by simp[sn,List.getD,hb]
  have h:v.fresh.length<=N:=by
   refine GD _ _ i.nd λy w=>u y (pL ((i.fr y).1 w).1)
  unfold WH at c;rw[B]at c;obtain⟨vse,vfr,vfd⟩:=v;simp only at c A hb J h;apply aK;refine aS (aB ?_);(repeat first|((first|refine sM rfl ?_ ?_|refine s4 rfl ‹_› rfl ?_ ?_);first|exact tI|omega)|refine s2 rfl λ_ f=>?_|refine aU rfl ?_|apply Aa);(refine aC rfl ?_ ?_<;>rintro⟨⟩)
  ·have I:b=false:=by simpa using f
   subst I;rw[if_neg (by simp)]at c;(repeat first|(refine sA rfl ?_ ?_;first|exact tI|omega)|refine t4 rfl ‹_› rfl ?_|refine aU rfl ?_|apply Aa);(refine pW rfl ?_ rfl (by rfl);refine Au rfl rfl rfl (by first|(simp;done)|(simp;(omega))) rfl (by intro r t;simp at t;subst t;rfl) (by rfl) (am rfl) (by simp;omega) ?_);(repeat first|(refine sX rfl ?_ ?_;first|exact tI|simp only[oZ] at *;omega)|refine s3 rfl ?_ ?_<;>rintro rfl|refine aU rfl ?_|apply Aa);(repeat first|(refine sC rfl (M x m) ?_;intro _ f)|(refine Af rfl ?_;refine gA rfl ?_;first|refine gQ (TV rfl rfl rfl rfl) (by rfl) ?_))
   ·refine⟨⟨k+1,by (simp only[oZ] at *;omega)⟩,by dsimp only;((simp only[oZ] at *;omega)),[0,1,2,3,4,6],?_⟩
    rw[VX];simp[cX,zC,a,c,Gj,d,jK]
   ·(repeat first|(refine sA rfl ?_ ?_;first|exact tI|simp only[oZ] at *;omega)|(refine Af rfl ?_;refine gA rfl ?_;first|(refine gB (λ_ _=>A8 rfl rfl (by simp[E.BT,C.BT,G]) (M x m) rfl) ?_;intro _ f))|refine aU rfl ?_|apply Aa)
    refine⟨⟨k+1,by (simp only[oZ] at *;omega)⟩,by dsimp only;((simp only[oZ] at *;omega)),[0,1,2,3,4,6],?_⟩;rw[VX];simp[cX,zC,a,c,Gj,d,jK,f]
  ·have H:b=true:=by simpa using f
   subst H;rw[if_pos rfl]at c;apply aK;(repeat first|(refine sM rfl ?_ ?_;first|exact tI|simp only[oZ] at *;omega)|refine aU rfl ?_|apply Aa);refine⟨⟨k+1,by (simp only[oZ] at *;omega)⟩,by dsimp only;((simp only[oZ] at *;omega)),[0,1,2,3,4,5],?_⟩;simp[cX,zC,a,c,Gj,d,jK]
 ·obtain rfl:k=nodes.length:=by (simp only[oZ] at *;omega)
  rw[io]at L;subst L;apply aE
  have h:(Ul goal seen nodes).fresh.length<=N:=by
   have i:=s nodes.length;rw[io]at i;refine GD _ _ i.nd λy w=>u y ((i.fr y).1 w).1
  generalize Ul goal seen nodes=vv at *;obtain⟨vse,vfr,vfd⟩:=vv;have h:vfr.length<=N:=h;(repeat first|refine tM rfl ?_|refine s2 rfl λ_ f=>?_|refine aU rfl ?_|apply Aa);(refine aC rfl ?_ ?_<;>rintro⟨⟩)
  ·have j:vfr≠[]:=λe=>by rw[e]at f;simp at f
   refine Ak.freeze [5] [(0,eI .i64 p),(1,eI .i64 l),(5,.o (.ptr 3 1 0 0)),(10,Al vfr),(11,eB vfd)] ⟨⟨_,rfl,.AO⟩,⟨_,rfl,.AO⟩,⟨_,rfl,.AO⟩,⟨_,rfl,.o (.full (by simp) rfl (by simp[d5]) (by simp))⟩,⟨_,rfl,.AO⟩,trivial⟩ ?_;(repeat first|refine tA rfl ?_|(refine Af rfl ?_;refine gA rfl ?_;first|refine gS (λ_ _=>AA rfl rfl (by rfl) (by rfl)) ?_)|refine aU rfl ?_);(refine pW rfl ?_ rfl (by rfl);refine Au rfl rfl rfl (by first|(simp;done)|(simp;(omega))) rfl (by intro r t;simp at t;subst t;rfl) (by rfl) (am rfl) (by simp;omega) ?_);(repeat first|refine tX rfl ?_|refine aU rfl ?_|apply Aa);refine Ak.names [0,1,2,3,4,6] [(9,eB vfd)] (Gj N gG capsG vse 5 (Fh steps p l vfr)) (by rw[a];decide) (by decide) (by simp[cX,zC,a]) (by simp[cX,zC,a,Gj,d,Fh,j,Ce,Ae,eC]) ?_;refine aR ⟨_,rfl,rfl,5,.inr ⟨rfl,rfl⟩,rfl⟩
  ·have j:vfr=[]:=pi.1 (by (simp only[oZ] at *;omega))
   subst j;apply aK;(repeat first|refine tM rfl ?_|refine aU rfl ?_|apply Aa);refine Ak.names [0,1,2,3,4] [(9,eB vfd)] (Gj N gG capsG vse 4 steps) (by rw[a];decide) (by decide) (by simp[cX,zC,a]) (by simp[cX,zC,a,Gj,d]) ?_;refine aR ⟨_,rfl,rfl,4,.inl ⟨rfl,rfl⟩,by simp[Fh]⟩
theorem er{P:Program}{Z:Ctx}{d:Option Tmp}{ty:TypeId}{pos:String}{af:Array Edge}{g:Option (Nat×Bool)}{f:Env}{σ:Ab}{nx:Nat}{K:E->Ab->Nat->Prop}{T:TypeId}(k e:Nat)[r:BQ P T [.slice none 0 0]]
 (u:K (.o (.ptr (nx+1) 1 0 0)) ((nx+1,.cells T 1 [[.arr nx k 0 0]])::(nx,.cells e k [])::σ) (nx+2)):CY P TB Z ⟨d,.alloc T,ty,pos,af,g⟩ f σ nx K:=
 DO λV ρ z y x=>by
  subst x;obtain⟨i,zv,hi,b,a⟩:=HM r.out
  have h:zv.cells = #[.slice none 0 0]:=by have:=congrArg List.toArray a;simpa using this
  obtain⟨m,p⟩:=y.alloc (c:=0) (nl:=True) (w:=V.w) (ob:=.cells e k []) rfl rfl rfl rfl (i9 _) (λ_ _=>rfl) (.inl ⟨by simp[Ax],rfl⟩)
  have t:Dk (Ax V V.w.heap.size 0 True V.w) [.arr V.nx k 0 0] zv.cells:=by
   rw[h];refine⟨rfl,λj c v l q=>?_⟩
   match j with
   | 0=>simp at l q;subst l q;exact AJ.nil (by simp[Ax]) (by simp[Ax])
   | j+1=>simp at l
  obtain⟨n,s⟩:=Td m (T:=T) t;refine⟨.pointer (some ⟨V.w.heap.size,0,none⟩),_,_,_,?_,p.trans s,n,?_,u⟩
  ·simp[execOp,Instr.alloc,zeroValue,typeInfo,hi,b,newVar,newRow,Ax,go_sem]
  ·exact OY
theorem Sw(r:Nat->Nat):∀(l m:List E),EU r (l++m)=EU r l++EU r m
 | [],m=>rfl
 | e::l,m=>by simp[EU,Sw r l m]
theorem Qg(r:Nat->Nat):∀(l:List C),EU r (l.map .o)=(C.Cp r l).map .o
 | []=>rfl
 | c::l=>by simp[EU,C.Cp,E.Bd,Qg r l]
def cS(P:Program)(TB:BR)(T:TypeId)(g:Gr)(gN:FuncId)(capsN:List C):Prop:=
 ∀(node l:Int) (outs:List Int),0<=node/\node<g.N->l∈g.ls->outs.length<=1099511627776->
  Spec P TB gN [(0,.cells T 1 (outs.map AE))] 1 ([eI .i64 node,eI .i64 l,.o (.arr 0 1 0 outs.length)]++capsN.map .o) (λx σ nx=>x=.o (.arr 1 1 0 (outs++g.succ node l).length)/\nx=2/\σ=[(1,.cells T 1 ((outs++g.succ node l).map AE))])
theorem ID{g:Gr}(Q:Jc g)(hN:g.N<=1048576)(X:∀l∈g.ls,0<=l/\l<6)(hll:g.ls.length<=6)(hsl:∀(node l:Int),0<=node/\node<g.N->l∈g.ls->(g.succ node l).length<=g.N)
 {gN gG:FuncId} {capsN capsG:List C} (hNx:cS Tryz.prog TB 3 g gN capsN) (hG:∀n:Int,0<=n/\n<g.N->Pure Tryz.prog TB gG ([eI .i64 n]++capsG.map .o) (eB (g.goal n)))
 (hcG:C.C1 capsG=true) (d:∀r,C.Cp r capsG=capsG) (h:∀r,C.Cp r capsN=capsN) {r:Option (List Int)} (hr:CC g r) :
 Pure Tryz.prog TB 135 [eI .i64 g.N,Al [g.s0],Al g.ls,.o (.fn gN capsN),.o (.fn gG capsG)] (KS r):=by
 refine eN Tryz.func135 rfl (by kernel_rfl) rfl ?_;intro Z b;(repeat first|refine aU rfl ?_);(refine pW rfl ?_ rfl (by rfl);refine C4 rfl rfl ?_);(repeat first|refine tM rfl ?_|refine aU rfl ?_|apply Aa);(refine pW rfl ?_ rfl (by rfl);refine Li rfl rfl (by rfl) (by rfl) (am rfl) (by omega) (by omega) (by omega) ?_)
 iterate 4 (first|refine tM rfl ?_|refine aU rfl ?_|apply Aa)
 (refine pW rfl ?_ rfl (by rfl);refine er 3 218 ?_);(repeat first|refine tM rfl ?_|refine aU rfl ?_|apply Aa);have K:=YC (goal:=g.goal) (N:=g.N) (seen:=List.replicate g.N false) (nodes:=[g.s0]) (by simp) (by intro n u;simp at u;subst u;exact Q.s0);have A:=WG (TB:=TB) hG hcG d (List.replicate g.N false) [] (-1) 0 [g.s0] (by simp) hN (by simp) (by intro n u;simp at u;subst u;exact Q.s0);(refine pW rfl ?_ rfl (by rfl);refine Aj [2,1,0,4,3] rfl rfl A ⟨rfl,by decide,by decide⟩ rfl (by simp[cX,zC,b,Gj,d,Ae,eC]) ?_;rintro x0 T U ⟨rfl,q,L,rfl⟩ _);generalize hV:Ul g.goal (List.replicate g.N false) [g.s0]=v at *;obtain⟨vse,vfr,vfd⟩:=v;simp only;apply Aa;refine Ak.names [2,1,0,4,if q=4 then 3 else 5] [(2,Al g.ls),(3,.o (.fn gN capsN)),(12,.o (.ptr 0 1 0 0)),(13,.o (.ptr 3 1 0 0)),(14,.o (.fn 214 [.ptr 0 1 0 0,.ptr 2 1 0 0,.ptr 3 1 0 0])),(26,eB vfd)] (Gj g.N gG capsG vse 4 (Fh [] (-1) 0 vfr)) (by simp[b]) (by rcases L with ⟨rfl,rfl⟩|⟨rfl,rfl⟩<;>decide)
  (by rcases L with ⟨rfl,rfl⟩|⟨rfl,rfl⟩<;>simp[cX,zC,b,h,eC]) (by rcases L with ⟨rfl,rfl⟩|⟨rfl,rfl⟩<;>simp[cX,zC,b,Gj,d,Ab.Bd,Ce,I8,eC]) ?_
 (refine aC rfl ?_ ?_<;>rintro⟨⟩)
 ·-- the start is a goal
  have hgs:g.goal g.s0=true:=by
   have h1:vfr.any g.goal=true:=K.fd.symm;obtain⟨x,J,P⟩:=rt.1 h1;have h2:=((K.fr x).1 J).1;simp at h2;subst h2;exact P
  have B:=CC.unique hr (CC.start hgs);subst B;(repeat first|refine tM rfl ?_|refine aU rfl ?_|apply Aa);refine aR ⟨_,rfl,rfl⟩
 apply aK;obtain⟨hfr,hF0⟩:=FI.init Q K rfl;simp only at hfr hF0;rw[hfr];(repeat first|refine tM rfl ?_|refine aU rfl ?_|apply Aa);apply aB;refine Ak.A5 (α:={x:Nat×List Bool×List OH×List (List Int) // FI g x.2.1 x.2.2.1 x.2.2.2 x.1 0}) (λ⟨⟨i,seen,steps,ws⟩,f⟩=>[(2,Al g.ls),(3,.o (.fn gN capsN)),(12,.o (.ptr 0 1 0 0)),(13,.o (.ptr 3 1 0 0)),(14,.o (.fn 214 [.ptr 0 1 0 0,.ptr 2 1 0 0,.ptr 3 1 0 0])),(15,eI .i64 i)]) (λ⟨⟨i,seen,steps,ws⟩,f⟩=>Gj g.N gG capsG seen 4 steps) 5 (λ⟨⟨i,seen,steps,ws⟩,f⟩=>g.N-i) (⟨(0,vse,[⟨-1,0,[g.s0]⟩],[[]]),hF0⟩) [0,1,2,3,4] (Ei b rfl rfl) (by (simp[cX,zC,b,Gj,d,h,Fh])) ?_;rintro⟨⟨i,seen,steps,ws⟩,f⟩;(try dsimp only);simp only at f;have Y:=f.mc;(repeat first|refine tM rfl ?_|refine s2 rfl λ_ _hb=>?_|refine aU rfl ?_|apply Aa);(refine aC rfl ?_ ?_<;>rintro⟨⟩)
 ·have hi : i<steps.length:=by (simp only[oZ] at *;omega)
  obtain⟨s,H⟩:=get_some hi;have V:(steps.map Qu)[0+((i:Nat):Int).toNat]?=some (Qu s):=HY H;obtain⟨wi,z⟩:∃wi,ws[i]?=some wi:=get_some (by rw[f.wlen];exact hi);apply aK;refine aS (aB ?_);(repeat first|refine sN rfl ?_|refine tM rfl ?_|refine aU rfl ?_|apply Aa);apply aB;refine Ak.A5 (α:={x:Nat×List Bool×List OH×List (List Int) // x.1<=g.ls.length/\FI g x.2.1 x.2.2.1 x.2.2.2 i x.1/\i<x.2.2.1.length}) (λ⟨⟨j,c,st2,t⟩,hP⟩=>[(2,Al g.ls),(3,.o (.fn gN capsN)),(12,.o (.ptr 0 1 0 0)),(13,.o (.ptr 3 1 0 0)),(14,.o (.fn 214 [.ptr 0 1 0 0,.ptr 2 1 0 0,.ptr 3 1 0 0])),(15,eI .i64 i),(33,Al g.ls),(34,eI .i64 g.ls.length),(35,eI .i64 j)]) (λ⟨⟨j,c,st2,t⟩,hP⟩=>Gj g.N gG capsG c 4 st2) 5 (λ⟨⟨j,c,st2,t⟩,hP⟩=>g.ls.length-j) (⟨(0,seen,steps,ws),by simp,f,hi⟩) [0,1,2,3,4] (Ei b rfl rfl) (by (simp[cX,zC,b,Gj,d,h])) ?_;rintro⟨⟨j,c,st2,t⟩,hP⟩;(try dsimp only);clear H V z f Y hi;obtain⟨hj,f,hi⟩:=hP;simp only at hj f hi;have Y:=f.mc;(repeat first|refine s2 rfl λ_ _hb=>?_|refine aU rfl ?_|apply Aa);(refine aC rfl ?_ ?_<;>rintro⟨⟩)
  ·have hjl:j<g.ls.length:=by (simp only[oZ] at *;omega)
   obtain⟨l,hl⟩:=get_some (l:=g.ls) (k:=j) hjl;have hl':=get_map (g:=Bw) hl;have F:=co hl;have hlb:=X l F;obtain⟨s,H⟩:=get_some hi;have V:(st2.map Qu)[0+((i:Nat):Int).toNat]?=some (Qu s):=HY H;obtain⟨wi,z⟩:∃wi,t[i]?=some wi:=get_some (by rw[f.wlen];exact hi);have p:=f.inn s (co H);have hsnd:=GD _ _ (f.nd s (co H)) p;apply aK;refine aS (aB ?_);(repeat first|refine tM rfl ?_|(refine s4 rfl ‹_› rfl ?_ ?_;omega)|refine aU rfl ?_|apply Aa);(refine pW rfl ?_ rfl (by rfl);refine Gu 1 3 ?_);(repeat first|refine sN rfl ?_|(refine sM rfl ?_ ?_;first|exact tI|omega)|refine t4 rfl ‹_› rfl ?_|refine aU rfl ?_|apply Aa);apply aB;refine Ak.A5 (α:={m:Nat // m<=s.ns.length}) (λ⟨m,hm⟩=>[(2,Al g.ls),(3,.o (.fn gN capsN)),(12,.o (.ptr 0 1 0 0)),(13,.o (.ptr 3 1 0 0)),(14,.o (.fn 214 [.ptr 0 1 0 0,.ptr 2 1 0 0,.ptr 3 1 0 0])),(15,eI .i64 i),(33,Al g.ls),(34,eI .i64 g.ls.length),(35,eI .i64 j),(17,eI .i64 l),(18,.o (.arr 5 1 0 ((s.ns.take m).flatMap λn=>g.succ n l).length)),(43,Al s.ns),(44,eI .i64 s.ns.length),(45,eI .i64 m)]) (λ⟨m,hm⟩=>Gj g.N gG capsG c 4 st2++[(5,.cells 3 1 (((s.ns.take m).flatMap λn=>g.succ n l).map AE))]) 6 (λ⟨m,hm⟩=>s.ns.length-m) (⟨0,by omega⟩) [0,1,2,3,4,5] (Ei b rfl rfl) (by (simp[cX,zC,b,Gj,d,h])) ?_;rintro⟨m,hm⟩;(try dsimp only);(repeat first|refine s2 rfl λ_ _hb=>?_|refine aU rfl ?_|apply Aa);(refine aC rfl ?_ ?_<;>rintro⟨⟩)
   ·obtain⟨n,u⟩:=get_some (l:=s.ns) (k:=m) (by (simp only[oZ] at *;omega))
    have hn':=get_map (g:=Bw) u;have hnb:=p n (co u)
    have hfm:(s.ns.take (m+1)).flatMap (λn=>g.succ n l)=(s.ns.take m).flatMap (λn=>g.succ n l)++g.succ n l:=by
     rw[f6,u];simp
    have hol:((s.ns.take m).flatMap λn=>g.succ n l).length<=1099511627776:=by
     have h2:=LQ (s.ns.take m) (λn=>g.succ n l) 1048576 (λx J=>by have:=hsl x l (p x (pL J)) F;omega)
     have h3:(s.ns.take m).length<=1048576:=by simp;omega
     omega
    have hnx:=hNx n l _ hnb F hol;generalize (s.ns.take m).flatMap (λn=>g.succ n l)=pre at *;apply aK;refine aS (aB ?_);(repeat first|refine tM rfl ?_|(refine s4 rfl ‹_› rfl ?_ ?_;omega)|refine aU rfl ?_|apply Aa);(refine pW rfl ?_ rfl (by rfl);refine Aj [5] rfl rfl hnx ⟨rfl,by decide,by decide⟩ (by rw[Sw,Qg,h];rfl) (by simp[cX,zC,b]) ?_;rintro x0 T U ⟨rfl,rfl,rfl⟩ _);(repeat first|(refine sM rfl ?_ ?_;first|exact tI|omega)|refine aU rfl ?_|apply Aa);refine⟨⟨m+1,by (simp only[oZ] at *;omega)⟩,by dsimp only;((simp only[oZ] at *;omega)),[0,1,2,3,4,6],?_⟩;simp[cX,zC,b,Gj,d,h,Ab.Bd,Ce,I8,hfm]
   ·obtain rfl:m=s.ns.length:=by (simp only[oZ] at *;omega)
    rw[io];have hR:∀y,y∈s.ns.flatMap (λn=>g.succ n l)↔∃n∈s.ns,y∈g.succ n l:=λy=>qJ;generalize s.ns.flatMap (λn=>g.succ n l)=R at *
    have I:∀y∈R,0<=y/\y<g.N:=λy hy=>by
     obtain⟨n,u,hy⟩:=(hR y).1 hy;exact Q.inn n (p n u) l F y hy
    have hv:=YC (goal:=g.goal) f.slen I;have A:=WG (TB:=TB) hG hcG d c st2 i l R f.slen hN (by omega) I;generalize hV2:Ul g.goal c R=v2 at *;apply aE;refine Ak.freeze [5] [(2,Al g.ls),(3,.o (.fn gN capsN)),(12,.o (.ptr 0 1 0 0)),(13,.o (.ptr 3 1 0 0)),(14,.o (.fn 214 [.ptr 0 1 0 0,.ptr 2 1 0 0,.ptr 3 1 0 0])),(15,eI .i64 i),(33,Al g.ls),(34,eI .i64 g.ls.length),(35,eI .i64 j),(17,eI .i64 l),(18,Al R)] ⟨⟨_,rfl,.AO⟩,⟨_,rfl,.AO⟩,⟨_,rfl,.AO⟩,⟨_,rfl,.AO⟩,⟨_,rfl,.AO⟩,⟨_,rfl,.AO⟩,⟨_,rfl,.AO⟩,⟨_,rfl,.AO⟩,⟨_,rfl,.AO⟩,⟨_,rfl,.AO⟩,⟨_,rfl,.o (.full (by simp) rfl (by simp[d5]) (by simp))⟩,trivial⟩ ?_;(repeat first|refine tM rfl ?_|refine aU rfl ?_);(refine pW rfl ?_ rfl (by rfl);refine Aj [0,1,2,3,4] rfl rfl A ⟨rfl,by decide,by decide⟩ rfl (by simp[cX,zC,b,Gj,d,Ce]) ?_;rintro x0 T U ⟨rfl,q,L,rfl⟩ _);obtain⟨vse,vfr,vfd⟩:=v2;simp only;apply Aa;refine Ak.names [0,1,2,3,if q=4 then 4 else 6] [(2,Al g.ls),(3,.o (.fn gN capsN)),(12,.o (.ptr 0 1 0 0)),(13,.o (.ptr 3 1 0 0)),(14,.o (.fn 214 [.ptr 0 1 0 0,.ptr 2 1 0 0,.ptr 3 1 0 0])),(15,eI .i64 i),(33,Al g.ls),(34,eI .i64 g.ls.length),(35,eI .i64 j),(59,eB vfd)] (Gj g.N gG capsG vse 4 (Fh st2 i l vfr)) (by simp[b]) (by rcases L with ⟨rfl,rfl⟩|⟨rfl,rfl⟩<;>decide)
     (by rcases L with ⟨rfl,rfl⟩|⟨rfl,rfl⟩<;>simp[cX,zC,b,h]) (by rcases L with ⟨rfl,rfl⟩|⟨rfl,rfl⟩<;>simp[cX,zC,b,Gj,d,Ab.Bd,Ce,I8]) ?_
    (refine aC rfl ?_ ?_<;>rintro⟨⟩)
    ·obtain⟨x,J,P⟩:∃x∈vfr,g.goal x=true:=by
      have h1:vfr.any g.goal=true:=hv.fd.symm;exact rt.1 h1
     have hxR:=((hv.fr x).1 J).1;obtain⟨n,u,hxn⟩:=(hR x).1 hxR;have G:=CC.found Q f z hl H u hxn P;have B:=CC.unique hr G;subst B
     have hne:vfr≠[]:=λe=>by rw[e]at J;cases J
     have hsv:Fh st2 i l vfr=st2++[⟨i,l,vfr⟩]:=by unfold Fh;rw[if_neg hne]
     rw[hsv];have hch:=f.ZX.app (ns:=vfr) z F;have hpw:=VG (TB:=TB) hch X (w:=wi++[l]) (by simp;omega) (by simp[f.wlen]);generalize hst3:st2++[⟨(i:Int),l,vfr⟩]=st3 at *;(repeat first|refine tM rfl ?_|(refine Af rfl ?_;refine gA rfl ?_;first|refine gQ (IQ rfl rfl ((.cons (.o (.full rfl (by simp[d5]) (by simp))) .nil)) (hpw) rfl) rfl ?_)|refine aU rfl ?_|apply Aa);refine aR ⟨_,rfl,rfl⟩
    ·have S:=f.visit Q z hl H hR hv rfl
     have M:i<(Fh st2 i l vfr).length:=by unfold Fh;split<;>(try simp)<;>omega
     apply aK;(repeat first|(refine sM rfl ?_ ?_;first|exact tI|omega)|refine aU rfl ?_|apply Aa);refine⟨⟨(j+1,vse,Fh st2 i l vfr,ow t (wi++[l]) vfr),hjl,S,M⟩,by dsimp only;omega,[0,1,2,3,4],?_⟩;simp[cX,zC,b,Gj,d,h]
  ·obtain rfl:j=g.ls.length:=by (simp only[oZ] at *;omega)
   have S:=f.mn hi;apply aE;(repeat first|(refine sM rfl ?_ ?_;first|exact tI|omega)|refine aU rfl ?_|apply Aa);refine⟨⟨(i+1,c,st2,t),S⟩,by dsimp only;omega,[0,1,2,3,4],?_⟩;simp[cX,zC,b,Gj,d,h]
 ·have hle:=f.le
  obtain rfl:i=steps.length:=by (simp only[oZ] at *;omega)
  have G:=CC.pf Q f;have B:=CC.unique hr G;subst B;apply aE;(repeat first|refine tM rfl ?_|refine aU rfl ?_|apply Aa);refine aR ⟨_,rfl,rfl⟩
def Gf(a p:AV)(node letter:Int):Int:=BS a (node / p.nx.length%a.nx.length).toNat letter*p.nx.length+BS p (node%p.nx.length).toNat letter
def JO(l:List Sys)(a p:AV)(node letter:Int):List Int:=(EC (l.map (·.st)) (aA l (node / p.nx.length / a.nx.length) letter)).map λo=>o*a.nx.length*p.nx.length+Gf a p node letter
def N7(a p:AV)(node:Int):Bool:=a.ac.getD (node / p.nx.length%a.nx.length).toNat false && !p.ac.getD (node%p.nx.length).toNat false
def gI(l:List Sys)(a p:AV)(ls:List Int):Gr:=⟨(Aw (l.map (·.st))*a.nx.length*p.nx.length).toNat,JO l a p,N7 a p,ls,0⟩
theorem IY{a:AV}{q:Nat}(h:q<a.nx.length):(EG a)[q]?=some (XT λl=>BS a q l):=DY (g:=λq=>XT λl=>BS a q l) h
theorem Hi{h:Nat->Int}{l:Int}(d:0<=l)(c:l<6):((XT h).drop (l.toNat*1))[0]?=some (iD (h l.toNat)):=by
 rw[pQ]
 have b:l.toNat*1+0=l.toNat:=by omega
 have a:l.toNat<6:=by omega
 rw[b];simp[XT,a]
theorem fN{outs low:List Int}{h:Int->Int}{k:Nat}{x:Int}(a:low[k]?=some x):(outs++((low.take k).map h++low.drop k)).set (outs.length+k) (h x)=outs++((low.take (k+1)).map h++low.drop (k+1)):=by
 have hk:=(ce.1 a).1;rw[r7 _ _ (by omega),r7 _ _ (by simp;omega)];congr 1
 have e:outs.length+k-outs.length-((low.take k).map h).length=0:=by simp;omega
 rw[e,BB a,f6,a];simp
theorem Cs{a:AV}(h:AT a=true):1<=a.nx.length/\a.nx.length<=12:=by have:=AP h;omega
theorem JH{l:List Sys}(h:∀s∈l,AW s=true)(d:l.length<=3):1<=Aw (l.map (·.st))/\Aw (l.map (·.st))<=4096:=by
 have a:∀z∈l.map (·.st),1<=z/\z<=16:=by
  intro z b;obtain⟨s,c,rfl⟩:=d8.1 b;have:=AU (h s c);omega
 have f:=Ii _ a
 have e:(16:Int) ^ (l.map (·.st)).length<=4096:=by
  have:(l.map (·.st)).length<=3:=by simp;omega
  generalize (l.map (·.st)).length=n at this
  have:n=0\/n=1\/n=2\/n=3:=by omega
  rcases this with rfl|rfl|rfl|rfl<;>decide
 omega
theorem VQ{a p:AV}(ha:AT a=true)(b:AT p=true){node letter:Int}(g:0<=node)(d:0<=letter)(c:letter<6):0<=Gf a p node letter/\Gf a p node letter<a.nx.length*p.nx.length:=by
 have o:=Cs ha;have l:=Cs b
 have k:0<=node / p.nx.length%a.nx.length/\node / p.nx.length%a.nx.length<a.nx.length:=⟨qx _ (by omega),ql _ (by omega)⟩
 have j:0<=node%p.nx.length/\node%p.nx.length<p.nx.length:=⟨qx _ (by omega),ql _ (by omega)⟩
 have f:=Dz ha (q:=(node / p.nx.length%a.nx.length).toNat) (by omega) d c;have i:=Dz b (q:=(node%p.nx.length).toNat) (by omega) d c;unfold Gf;generalize BS a _ letter=x at *;generalize BS p _ letter=y at *;generalize (a.nx.length:Int)=n at *;generalize (p.nx.length:Int)=m at *;have h:0<=x*m:=qf f.1 (by omega);have e:(x+1)*m<=n*m:=qN (by omega) (by omega);rw[rI]at e;omega
theorem VA[Dp TB]{l:List Sys}{a p:AV}(h:∀s∈l,AW s=true)(L:l.length<=3)(ha:AT a=true)(H:AT p=true)(node letter:Int)(c:0<=node)(hn1:node<=1048576)(f:0<=letter)(d:letter<6)(outs:List Int)(I:outs.length<=1099511627776) :
 Spec Tryz.prog TB 260 [(0,.cells 3 1 (outs.map AE))] 1 [eI .i64 node,eI .i64 letter,.o (.arr 0 1 0 outs.length),.o (.ip [.l (EG a)]),.o (.ip [iD p.nx.length]),.o (.ip [iD a.nx.length]),.o (.ip [.l (EG p)]),.o (.ip (Hf l))]
  (λx σ nx=>x=.o (.arr 1 1 0 (outs++JO l a p node letter).length)/\nx=2/\σ=[(1,.cells 3 1 ((outs++JO l a p node letter).map AE))]):=by
 have han:=Cs ha;have Y:=Cs H;have B:=VQ ha H c f d;have t:0<=node / p.nx.length:=rz c (by omega);have V:node / p.nx.length<=node:=rr _ c;have G:0<=node / p.nx.length / a.nx.length:=rz t (by omega);have U:node / p.nx.length / a.nx.length<=node / p.nx.length:=rr _ t
 have h4:0<=node / p.nx.length%a.nx.length/\node / p.nx.length%a.nx.length<a.nx.length:=⟨qx _ (by omega),ql _ (by omega)⟩
 have h5:0<=node%p.nx.length/\node%p.nx.length<p.nx.length:=⟨qx _ (by omega),ql _ (by omega)⟩
 have h6:=Dz ha (q:=(node / p.nx.length%a.nx.length).toNat) (by omega) f d;have h7:=Dz H (q:=(node%p.nx.length).toNat) (by omega) f d;have T:=IY (a:=a) (q:=(node / p.nx.length%a.nx.length).toNat) (by omega);have S:=IY (a:=p) (q:=(node%p.nx.length).toNat) (by omega);have r:=Hi (h:=λl=>BS a (node / p.nx.length%a.nx.length).toNat l) f d;have n:=Hi (h:=λl=>BS p (node%p.nx.length).toNat l) f d
 have el:((letter.toNat:Nat):Int)=letter:=by omega
 have h8:0<=BS a (node / p.nx.length%a.nx.length).toNat letter*p.nx.length/\BS a (node / p.nx.length%a.nx.length).toNat letter*p.nx.length<=144:=⟨qf h6.1 (by omega),by
  have:BS a (node / p.nx.length%a.nx.length).toNat letter*p.nx.length<=12*12:=qb (by omega) (by omega) (by omega) (by omega)
  omega⟩
 simp only[el]at r n;have J:=iw (TB:=TB) l h L (node / p.nx.length / a.nx.length) letter G (by omega) f d outs I;have v:=Tw (Th h L f d (node / p.nx.length / a.nx.length));have X:=JH h L;have F:BS a (node / p.nx.length%a.nx.length).toNat letter*p.nx.length+BS p (node%p.nx.length).toNat letter=Gf a p node letter:=rfl;unfold JO;generalize EC (l.map (·.st)) (aA l (node / p.nx.length / a.nx.length) letter)=low at *;refine eN Tryz.func260 rfl (by kernel_rfl) rfl ?_;intro Z b;(repeat first|refine tA rfl ?_|refine aU rfl ?_|apply Aa);refine rG (Gk []) (by kernel_rfl) ?_;(repeat first|(refine sA rfl ?_ ?_;first|exact tI|omega)|(refine s4 rfl ‹_› rfl ?_ ?_;omega)|(refine Af rfl ?_;refine gA rfl ?_;first|refine gS (λ_ _=>Dy rfl r) ?_|refine gS (λ_ _=>Dy rfl n) ?_)|refine aU rfl ?_|apply Aa);rw[F];refine rG (Gk [8]) (by kernel_rfl) ?_;(repeat first|(refine sA rfl ?_ ?_;first|exact tI|omega));(refine pW rfl ?_ rfl (by rfl);refine Aj [0] rfl rfl J ⟨rfl,by decide,by decide⟩ rfl (by simp[cX,zC,b]) ?_;rintro x0 Q R ⟨rfl,rfl,rfl⟩ _);(repeat first|refine tA rfl ?_|refine aU rfl ?_|apply Aa);apply aB
 have K:∀k,((outs++((low.take k).map (λo=>o*a.nx.length*p.nx.length+Gf a p node letter)++low.drop k)).length)=outs.length+low.length:=by intro k;simp;omega
 refine Ak.A5 (α:={k:Nat // k<=low.length}) (λ⟨k,hk⟩=>[(2,.o (.arr 1 1 0 (outs.length+low.length))),(4,.o (.ip [iD p.nx.length])),(5,.o (.ip [iD a.nx.length])),(12,eI .i64 (Gf a p node letter)),(14,eI .i64 ((outs.length+k:Nat):Int))]) (λ⟨k,hk⟩=>[(1,.cells 3 1 ((outs++((low.take k).map (λo=>o*a.nx.length*p.nx.length+Gf a p node letter)++low.drop k)).map AE))]) 2 (λ⟨k,hk⟩=>low.length-k) (⟨0,by omega⟩) [0,1] (Ei b rfl rfl) (by (simp[cX,zC,b,Ab.Bd,Ce,I8])) ?_;rintro⟨k,hk⟩;(try dsimp only);(repeat first|refine tM rfl ?_|refine s2 rfl λ_ _hb=>?_|refine aU rfl ?_|apply Aa);(refine aC rfl ?_ ?_<;>rintro⟨⟩)
 ·have w:k<low.length:=by (simp only[oZ] at *;omega)
  obtain⟨x,A⟩:=get_some (l:=low) (k:=k) w;have z:=v.1 x (co A);have m:=fN (outs:=outs) (h:=λo=>o*a.nx.length*p.nx.length+Gf a p node letter) A
  have N:(outs++((low.take k).map (λo=>o*a.nx.length*p.nx.length+Gf a p node letter)++low.drop k))[outs.length+k]?=some x:=by
   rw[f7 (by omega),f7 (by simp;omega),BB A]
   have e:outs.length+k-outs.length-((low.take k).map (λo=>o*a.nx.length*p.nx.length+Gf a p node letter)).length=0:=by simp;omega
   rw[e];rfl
  have P:=HY (g:=AE) N
  have u:0<=x*a.nx.length/\x*a.nx.length<=49152:=⟨qf z.1 (by omega),by
   have:x*a.nx.length<=4096*12:=qb (by omega) (by omega) (by omega) (by omega)
   omega⟩
  have hm2:0<=x*a.nx.length*p.nx.length/\x*a.nx.length*p.nx.length<=589824:=⟨qf u.1 (by omega),by
   have:x*a.nx.length*p.nx.length<=49152*12:=qb u.2 (by omega) (by omega) (by omega)
   omega⟩
  have hm3:(a.nx.length:Int)*p.nx.length<=144:=by
   have:(a.nx.length:Int)*p.nx.length<=12*12:=qb (by omega) (by omega) (by omega) (by omega);omega
  have hlk:=K k
  have M:((outs.length+k:Nat):Int)+1=((outs.length+(k+1):Nat):Int):=by omega
  have j:=Il (l:=outs++((low.take k).map (λo=>o*a.nx.length*p.nx.length+Gf a p node letter)++low.drop k)) (k:=outs.length+k) (x:=x) (y:=x*a.nx.length*p.nx.length+Gf a p node letter);rw[m]at j;generalize outs++((low.take k).map (λo=>o*a.nx.length*p.nx.length+Gf a p node letter)++low.drop k)=cur at *;apply aK;refine aS (aB ?_);refine rG (Gk [13]) (by kernel_rfl) ?_;(repeat first|(refine sM rfl ?_ ?_;first|exact tI|omega)|refine t4 rfl ‹_› rfl ?_|refine aU rfl ?_|apply Aa);refine⟨⟨k+1,w⟩,by dsimp only;omega,[0,1],?_⟩;rw[j,M];simp[cX,zC,b]
 ·obtain rfl:k=low.length:=by (simp only[oZ] at *;omega)
  rw[io,rv,pX];apply aE;(repeat first|refine tM rfl ?_|refine aU rfl ?_|apply Aa);refine Ak.names [0,1] [(11,.o (.arr 1 1 0 (outs.length+low.length)))] [(1,.cells 3 1 ((outs++low.map λo=>o*a.nx.length*p.nx.length+Gf a p node letter).map AE))] (by intro i hi;rw[b]at hi;obtain rfl:i=0:=(by omega);rfl) (by simp) (by simp[cX,zC,b]) (by simp[cX,zC,b]) ?_;refine aR ⟨_,rfl,by simp,rfl,rfl⟩
theorem SW(s:Sys):Pure Tryz.prog TB 265 [Bl s] (eB (!AW s)):=by
 refine eN Tryz.func265 rfl (by kernel_rfl) rfl ?_;intro Z b;(repeat' first|refine tA rfl ?_|refine s2 rfl λ_ a=>?_|(refine sC rfl (Cg s) ?_;intro _ a)|refine aU rfl ?_|apply Aa|(refine aC rfl ?_ ?_<;>rintro⟨⟩)|apply aK|apply aE|apply aB|refine aR ⟨_,rfl,?_⟩)
 all_goals (show E.o _=E.o _;congr;grind)
def WZ:List Sys->Int->Int
 | [],_=>-1
 | s::l,k=>if AW s then WZ l (k+1) else k
theorem UF:∀(l:List Sys) (k:Int),0<=k->(decide (0<=WZ l k) = !l.all AW)
 | [],_,_=>rfl
 | s::l,k,h=>by
  unfold WZ;by_cases a:AW s=true
  ·rw[if_pos a,UF l (k+1) (by omega)];simp[a]
  ·rw[if_neg a];simp[a,h]
theorem Tr(l:List Sys):Pure Tryz.prog TB 287 [GU l,.o (.fn 265 [])] (eI .i64 (WZ l 0)):=by
 refine eN Tryz.func287 rfl (by kernel_rfl) rfl ?_;intro Z a;refine Ak.bound 0 rfl λb=>?_;have f:=b (l.map AI) .refl;(repeat' first|refine sN rfl ?_|refine tA rfl ?_|refine aU rfl ?_|apply Aa|(refine aC rfl ?_ ?_<;>rintro⟨⟩)|apply aK|apply aE|apply aB|refine aR ⟨_,rfl,?_⟩);refine Ak.A5 (α:={k:Nat // k<=l.length/\WZ l 0=WZ (l.drop k) k}) (λ⟨k,hk,ha⟩=>[(0,GU l),(1,.o (.fn 265 [])),(7,eI .i64 l.length),(8,eI .i64 k)]) (λ⟨k,hk,ha⟩=>[]) 0 (λ⟨k,hk,ha⟩=>l.length-k) (⟨0,by omega,rfl⟩) [] (Ei a rfl rfl) (by (simp[cX,zC,a])) ?_;rintro⟨k,hk,ha⟩;(try dsimp only);(repeat first|refine s2 rfl λ_ c=>?_|refine aU rfl ?_|apply Aa);(refine aC rfl ?_ ?_<;>rintro⟨⟩)
 ·obtain⟨x,d⟩:=get_some (l:=l) (k:=k) (by (simp only[oZ] at *;omega))
  have e:=get_map (g:=AI) d;rw[BB d,WZ]at ha;(repeat' first|(refine sA rfl ?_ ?_;first|exact tI|simp only[oZ] at *;omega)|(refine s4 rfl ‹_› rfl ?_ ?_;omega)|(refine sC rfl (SW x) ?_;intro _ c)|refine aU rfl ?_|apply Aa|(refine aC rfl ?_ ?_<;>rintro⟨⟩)|apply aK|apply aE|apply aB|refine aR ⟨_,rfl,?_⟩)
  ·rw[if_neg (by grind)]at ha
   show E.o _=E.o _;rw[ha]
  ·rw[if_pos (by grind)]at ha
   refine⟨⟨k+1,by (simp only[oZ] at *;omega),by rw[ha];rfl⟩,by dsimp only;((simp only[oZ] at *;omega)),[],?_⟩;simp[cX,zC,a]
 ·(repeat' first|refine tA rfl ?_|refine aU rfl ?_|apply Aa|(refine aC rfl ?_ ?_<;>rintro⟨⟩)|apply aK|apply aE|apply aB|refine aR ⟨_,rfl,?_⟩)
  rw[qK (by (simp only[oZ] at *;omega))]at ha
  show E.o _=E.o _;rw[ha];rfl
theorem Oz(l:List Sys):Pure Tryz.prog TB 264 [GU l,.o (.fn 265 [])] (eB (!l.all AW)):=by
 have hb:=UF l 0 (by omega);refine eN Tryz.func264 rfl (by kernel_rfl) rfl ?_;intro Z a;(repeat' first|refine tA rfl ?_|refine s2 rfl λ_ b=>?_|refine sP rfl (Tr l) rfl ?_|refine aU rfl ?_|apply Aa|(refine aC rfl ?_ ?_<;>rintro⟨⟩)|apply aK|apply aE|apply aB|refine aR ⟨_,rfl,?_⟩)
 all_goals (show E.o _=E.o _;congr;grind)
theorem Jo(l:List Sys):Pure Tryz.prog TB 201 [GU l] (eB (Bc l)):=by
 refine eN Tryz.func201 rfl (by kernel_rfl) rfl ?_;intro Z b;(repeat' first|refine sN rfl ?_|refine tA rfl ?_|refine s2 rfl λ_ a=>?_|(refine sC rfl (Oz l) ?_;intro _ a)|refine s3 rfl ?_ ?_<;>rintro rfl|refine aU rfl ?_|apply Aa|(refine aC rfl ?_ ?_<;>rintro⟨⟩)|apply aK|apply aE|apply aB|refine aR ⟨_,rfl,?_⟩)
 all_goals (show E.o _=E.o _;congr;unfold Bc;grind)
theorem FW(l:List Sys):Pure Tryz.prog TB 259 [GU l] (eI .i64 (BD l)):=by
 refine eN Tryz.func259 rfl (by kernel_rfl) rfl ?_;intro Z a;refine Ak.bound 0 rfl λe=>?_;have i:=e (l.map AI) .refl;(repeat' first|refine sN rfl ?_|refine tA rfl ?_|refine s2 rfl λ_ b=>?_|(refine sC rfl (Jo l) ?_;intro _ b)|refine aU rfl ?_|apply Aa|(refine aC rfl ?_ ?_<;>rintro⟨⟩)|apply aK|apply aE|apply aB|refine aR ⟨_,rfl,?_⟩)
 all_goals try (show E.o _=E.o _;congr;unfold BD;rw[if_neg (by grind)])
 have d:Bc l=true:=by grind
 refine Ak.A5 (α:={k:Nat // k<=l.length}) (λ⟨k,hk⟩=>[(3,eI .i64 (HJ (l.take k) 0)),(9,GU l),(10,eI .i64 l.length),(11,eI .i64 k)]) (λ⟨k,hk⟩=>[]) 0 (λ⟨k,hk⟩=>l.length-k) (⟨0,by omega⟩) [] (Ei a rfl rfl) (by (repeat' first|exact tI|rfl|refine And.intro ?_ ?_)) ?_;rintro⟨k,hk⟩;(try dsimp only);(repeat first|refine s2 rfl λ_ b=>?_|refine aU rfl ?_|apply Aa);(refine aC rfl ?_ ?_<;>rintro⟨⟩)
 ·obtain⟨x,f⟩:=get_some (l:=l) (k:=k) (by (simp only[oZ] at *;omega))
  have h:=get_map (g:=AI) f
  have c:HJ (l.take (k+1)) 0=GY .i64 (HJ (l.take k) 0) x.al:=by unfold HJ;rw[GW f]
  (repeat' first|(refine sA rfl ?_ ?_;first|exact tI|simp only[oZ] at *;omega)|(refine s4 rfl ‹_› rfl ?_ ?_;omega)|refine aU rfl ?_|apply Aa|(refine aC rfl ?_ ?_<;>rintro⟨⟩)|apply aK|apply aE|apply aB|refine aR ⟨_,rfl,?_⟩);refine⟨⟨k+1,by (simp only[oZ] at *;omega)⟩,by dsimp only;((simp only[oZ] at *;omega)),[],?_⟩;simp[cX,zC,a,c]
 ·(repeat' first|refine tA rfl ?_|refine aU rfl ?_|apply Aa|(refine aC rfl ?_ ?_<;>rintro⟨⟩)|apply aK|apply aE|apply aB|refine aR ⟨_,rfl,?_⟩)
  rw[ge (by (simp only[oZ] at *;omega))]
  show E.o _=E.o _;congr;unfold BD;rw[if_pos d]
theorem UX{a p:AV}(ha:AT a=true)(e:AT p=true)(node:Int)(d:0<=node)(n:node<=1048576):Pure Tryz.prog TB 262 [eI .i64 node,.o (.ip [.p (AL a)]),.o (.ip [iD p.nx.length]),.o (.ip [iD a.nx.length]),.o (.ip (AL p))] (eB (N7 a p node)):=by
 have t:=Cs ha;have j:=Cs e;have u:=AP ha;have m:=AP e;have i:0<=node / p.nx.length:=rz d (by omega);have h:node / p.nx.length<=node:=rr _ d
 have x:0<=node / p.nx.length%a.nx.length/\node / p.nx.length%a.nx.length<a.nx.length:=⟨qx _ (by omega),ql _ (by omega)⟩
 have w:0<=node%p.nx.length/\node%p.nx.length<p.nx.length:=⟨qx _ (by omega),ql _ (by omega)⟩
 obtain⟨b,hb⟩:=get_some (l:=a.ac) (k:=(node / p.nx.length%a.nx.length).toNat) (by omega);obtain⟨c,f⟩:=get_some (l:=p.ac) (k:=(node%p.nx.length).toNat) (by omega)
 have s:(a.ac.map HU)[(node / p.nx.length%a.nx.length).toNat]?=some (HU b):=by simp[hb]
 have r:(p.ac.map HU)[(node%p.nx.length).toNat]?=some (HU c):=by simp[f]
 have q:N7 a p node=(b && !c):=by simp[N7,List.getD,hb,f]
 rw[q];refine eN Tryz.func262 rfl (by kernel_rfl) rfl ?_;intro Z g;(repeat' first|(refine sA rfl ?_ ?_;first|exact tI|omega)|(refine s4 rfl ‹_› rfl ?_ ?_;omega)|refine s2 rfl λ_ v=>?_|refine s3 rfl ?_ ?_<;>rintro rfl|refine aU rfl ?_|apply Aa|refine rE (by kernel_rfl) ?_|(refine aC rfl ?_ ?_<;>rintro⟨⟩)|apply aK|apply aE|apply aB|refine aR ⟨_,rfl,?_⟩)
 all_goals (show E.o _=E.o _;first|rfl|(congr;grind))
theorem Wz(a:AV):(EG a).length=a.nx.length:=by simp[EG,BK]
def Ox:AV:=⟨0,[[]],[true]⟩
theorem gy:AT Ox=true:=by decide
theorem kg{l:List Sys}{a p:AV}{ls:List Int}(h:∀s∈l,AW s=true)(d:l.length<=3)(ha:AT a=true)(c:AT p=true):((gI l a p ls).N:Int)=Aw (l.map (·.st))*a.nx.length*p.nx.length/\1<=(gI l a p ls).N/\(gI l a p ls).N<=1048576:=by
 have b:=JH h d;have m:=Cs ha;have k:=Cs c;have j:(gI l a p ls).N=(Aw (l.map (·.st))*a.nx.length*p.nx.length).toNat:=rfl;have i:Aw (l.map (·.st))*a.nx.length<=4096*12:=qb b.2 (by omega) (by omega) (by omega);have g:1*1<=Aw (l.map (·.st))*a.nx.length:=qb b.1 (by omega) (by omega) (by omega);have f:Aw (l.map (·.st))*a.nx.length*p.nx.length<=49152*12:=qb (by omega) (by omega) (by omega) (by omega);have e:1*1<=Aw (l.map (·.st))*a.nx.length*p.nx.length:=qb (by omega) (by omega) (by omega) (by omega);omega
theorem Qw{l:List Sys}{a p:AV}(h:∀s∈l,AW s=true)(d:l.length<=3)(ha:AT a=true)(c:AT p=true){node letter:Int}(m:0<=node)(i:0<=letter)(g:letter<6):(∀y∈JO l a p node letter,0<=y/\y<Aw (l.map (·.st))*a.nx.length*p.nx.length)/\((JO l a p node letter).length:Int)<=Aw (l.map (·.st)):=by
 have r:=Tw (Th h d i g (node / p.nx.length / a.nx.length));have x:=JH h d;have w:=Cs ha;have v:=Cs c;have u:=VQ ha c m i g;refine⟨λy j=>?_,by unfold JO;simp;omega⟩;obtain⟨o,k,rfl⟩:=d8.1 j;have n:=r.1 o k;have e:∀o:Int,o*a.nx.length*p.nx.length=o*(a.nx.length*p.nx.length):=λo=>rn _ _ _;rw[e,e];have f:0<=(a.nx.length:Int)*p.nx.length:=qf (by omega) (by omega);generalize (a.nx.length:Int)*p.nx.length=q at *;have t:0<=o*q:=qf n.1 f;have b:(o+1)*q<=Aw (l.map (·.st))*q:=qN (by omega) f;rw[rI]at b;omega
theorem jw{l:List Sys}{a p:AV}{x:Int}(h:∀s∈l,AW s=true)(c:l.length<=3)(ha:AT a=true)(b:AT p=true):Jc (gI l a p (Ac x)):=by
 have i:=kg (ls:=Ac x) h c ha b;refine⟨?_,λy e m f z d=>?_,DN _ _⟩
 ·show 0<=(0:Int)/\(0:Int)<_
  omega
 ·have g:=Ai f
  have j:=(Qw h c ha b e.1 g.1 (by omega)).1 z d;omega
theorem Py[Dp TB](l:List Sys)(a p:AV)(h:Bc l=true)(ha:AT a=true)(d:AT p=true) :
 Pure Tryz.prog TB 200 [GU l,.o (.ip (AL a)),AX p] (KS (Dh (gI l a p (Ac (GY .i64 (BD l) a.al))))):=by
 have c:=h;unfold Bc at c;simp only[d4,decide_eq_true_eq,gc]at c;obtain⟨⟨v,e⟩,b⟩:=c;have m:=kg (ls:=Ac (GY .i64 (BD l) a.al)) b e ha d;have w:=jw (x:=GY .i64 (BD l) a.al) b e ha d;have i:=JH b e;have y:=Cs ha;have s:=Cs d;have j:Pure Tryz.prog TB 135 [eI .i64 (Aw (l.map (·.st))*a.nx.length*p.nx.length),Al [0],Al (Ac (GY .i64 (BD l) a.al)),.o (.fn 260 [.ip [.l (EG a)],.ip [iD p.nx.length],.ip [iD a.nx.length],.ip [.l (EG p)],.ip (Hf l)]),.o (.fn 262 [.ip [.p (AL a)],.ip [iD p.nx.length],.ip [iD a.nx.length],.ip (AL p)])]
  (KS (Dh (gI l a p (Ac (GY .i64 (BD l) a.al))))):=by
  rw[<-m.1];refine ID w m.2.2 (λx f=>by have:=Ai f;omega) (AH _ 6) (λnode x g f=>?_) (λnode x outs g f t=>?_) (λn g=>?_) rfl (λr=>rfl) (λr=>rfl) (C8 _)
  ·have k:=Ai f
   have z:=(Qw b e ha d g.1 k.1 (by omega)).2;have F:Aw (l.map (·.st))*1<=Aw (l.map (·.st))*a.nx.length:=p7 (by omega) (by omega);have B:Aw (l.map (·.st))*a.nx.length*1<=Aw (l.map (·.st))*a.nx.length*p.nx.length:=p7 (by omega) (by omega);have A:(((gI l a p (Ac (GY .i64 (BD l) a.al))).succ node x).length:Int)<=Aw (l.map (·.st)):=z;omega
  ·have k:=Ai f
   exact VA b e ha d node x g.1 (by omega) k.1 (by omega) outs t
  ·exact UX ha d n g.1 (by omega)
 have u:0<=Aw (l.map (·.st))*a.nx.length/\Aw (l.map (·.st))*a.nx.length<=49152:=⟨qf (by omega) (by omega),by
  have:Aw (l.map (·.st))*a.nx.length<=4096*12:=qb i.2 (by omega) (by omega) (by omega)
  omega⟩
 refine eN Tryz.func200 rfl (by kernel_rfl) rfl ?_;intro Z q;(repeat first|refine aU rfl ?_);(refine Af rfl ?_;refine CG (λ_ _=>De rfl rfl rfl) rfl ?_);(refine Af rfl ?_;refine CG (λ_ _=>De rfl rfl rfl) rfl ?_);(repeat first|refine tM rfl ?_|refine sP rfl (Of l b e) rfl ?_|refine sP rfl (FW l) rfl ?_|refine aU rfl ?_|apply Aa);(refine aC rfl ?_ ?_<;>rintro⟨⟩);apply aK;apply aS;refine R.Rz [(0,2),(1,2),(2,2),(3,2),(4,2),(5,2),(6,3),(7,3),(8,5),(9,5)] mixed (by kernel_rfl) rfl (by kernel_rfl) ?_;(repeat ((refine R.Af rfl ?_;first|(refine R.yQ (md:=false) rfl rfl rfl ?_ ?_;exact tI)|refine R.yP rfl rfl rfl rfl ?_|refine R.yA rfl rfl rfl rfl ?_|refine R.CG (λ_ _ _=>A8 rfl rfl rfl (FB a ha) rfl) rfl rfl ?_|refine R.CG (λ_ _ _=>A8 rfl rfl rfl (FB p d) rfl) rfl rfl ?_ )));refine R.Rt ?_;apply aS;refine Ak.freeze [0,1,2] [(4,.o (.ip [.p (AL a)])),(5,.o (.ip (AL p))),(8,.o (.ip (Hf l))),(9,eI .i64 (BD l)),(10,.o (.ip [.l (EG a)])),(11,.o (.ip [.l (EG p)]))] ⟨⟨_,rfl,.AO⟩,⟨_,rfl,.AO⟩,⟨_,rfl,.o (.ptr (by simp) rfl rfl rfl)⟩,⟨_,rfl,.AO⟩,⟨_,rfl,.o (.ptr (by simp) rfl rfl rfl)⟩,⟨_,rfl,.o (.ptr (by simp) rfl rfl rfl)⟩,trivial⟩ ?_;refine R.Rz [(0,2),(1,2),(2,2),(3,2),(4,3),(5,3),(6,5),(7,5)] mixed (by kernel_rfl) rfl (by kernel_rfl) ?_;(repeat ((refine R.Af rfl ?_;first|(refine R.yQ (md:=false) rfl rfl rfl ?_ ?_;exact tI)|refine R.yP rfl rfl rfl rfl ?_|refine R.yA rfl rfl rfl rfl ?_ )));refine R.Rt ?_;apply aS;simp only[Wz];refine Ak.freeze [3,4] [(4,.o (.ip [.p (AL a)])),(5,.o (.ip (AL p))),(8,.o (.ip (Hf l))),(9,eI .i64 (BD l)),(10,.o (.ip [.l (EG a)])),(11,.o (.ip [.l (EG p)])),(12,.o (.ip [iD a.nx.length])),(13,.o (.ip [iD p.nx.length]))] ⟨⟨_,rfl,.AO⟩,⟨_,rfl,.AO⟩,⟨_,rfl,.AO⟩,⟨_,rfl,.AO⟩,⟨_,rfl,.AO⟩,⟨_,rfl,.AO⟩,⟨_,rfl,.o (.ptr (by simp) rfl rfl rfl)⟩,⟨_,rfl,.o (.ptr (by simp) rfl rfl rfl)⟩,trivial⟩ ?_;(repeat first|refine tA rfl ?_|refine aU rfl ?_|apply Aa);refine rG (Gk []) (by kernel_rfl) ?_;(repeat first|(refine sA rfl ?_ ?_;first|exact tI|omega)|refine sP rfl (ZN l b e) rfl ?_|refine sP rfl (Cn _) rfl ?_|refine sP rfl (j) rfl ?_|apply Aa);refine aR ⟨_,rfl,rfl⟩
theorem OA[Dp TB](l:List Sys)(p:AV)(h:Bc l=true)(e:AT p=true) :
 Pure Tryz.prog TB 200 [GU l,.o (.d (.v (.pointer none))),AX p] (KS (Dh (gI l Ox p (Ac (GY .i64 (BD l) Ox.al))))):=by
 obtain⟨a,g⟩:∃a,a=Ox:=⟨_,rfl⟩
 have ha:AT a=true:=by rw[g];exact gy
 rw [<-g];have c:=h;unfold Bc at c;simp only[d4,decide_eq_true_eq,gc]at c;obtain⟨⟨z,f⟩,b⟩:=c;have s:=kg (ls:=Ac (GY .i64 (BD l) a.al)) b f ha e;have A:=jw (x:=GY .i64 (BD l) a.al) b f ha e;have k:=JH b f;have B:=Cs ha;have u:=Cs e;have m:Pure Tryz.prog TB 135 [eI .i64 (Aw (l.map (·.st))*a.nx.length*p.nx.length),Al [0],Al (Ac (GY .i64 (BD l) a.al)),.o (.fn 260 [.ip [.l (EG a)],.ip [iD p.nx.length],.ip [iD a.nx.length],.ip [.l (EG p)],.ip (Hf l)]),.o (.fn 262 [.ip [.p (AL a)],.ip [iD p.nx.length],.ip [iD a.nx.length],.ip (AL p)])]
  (KS (Dh (gI l a p (Ac (GY .i64 (BD l) a.al))))):=by
  rw[<-s.1];refine ID A s.2.2 (λx i=>by have:=Ai i;omega) (AH _ 6) (λnode x j i=>?_) (λnode x outs j i w=>?_) (λn j=>?_) rfl (λr=>rfl) (λr=>rfl) (C8 _)
  ·have q:=Ai i
   have F:=(Qw b f ha e j.1 q.1 (by omega)).2;have I:Aw (l.map (·.st))*1<=Aw (l.map (·.st))*a.nx.length:=p7 (by omega) (by omega);have H:Aw (l.map (·.st))*a.nx.length*1<=Aw (l.map (·.st))*a.nx.length*p.nx.length:=p7 (by omega) (by omega);have G:(((gI l a p (Ac (GY .i64 (BD l) a.al))).succ node x).length:Int)<=Aw (l.map (·.st)):=F;omega
  ·have q:=Ai i
   exact VA b f ha e node x j.1 (by omega) q.1 (by omega) outs w
  ·exact UX ha e n j.1 (by omega)
 have y:0<=Aw (l.map (·.st))*a.nx.length/\Aw (l.map (·.st))*a.nx.length<=49152:=⟨qf (by omega) (by omega),by
  have:Aw (l.map (·.st))*a.nx.length<=4096*12:=qb k.2 (by omega) (by omega) (by omega)
  omega⟩
 refine eN Tryz.func200 rfl (by kernel_rfl) rfl ?_;intro Z t;(repeat first|refine aU rfl ?_);(refine pW rfl ?_ rfl (by rfl);refine C4 rfl rfl ?_);(refine Af rfl ?_;refine CG (λ_ _=>De rfl rfl rfl) rfl ?_);(repeat first|refine tM rfl ?_|refine sP rfl (Of l b f) rfl ?_|refine sP rfl (FW l) rfl ?_|refine aU rfl ?_|apply Aa);(refine aC rfl ?_ ?_<;>rintro⟨⟩);(repeat first|refine tA rfl ?_|(refine Af rfl ?_;refine gA rfl ?_;first|refine gS (λ_ _=>AA rfl rfl (by rfl) (by rfl)) ?_)|refine aU rfl ?_|apply Aa);refine Ak.freeze [0,1] [(4,.o (.ip [.p (AL a)])),(5,.o (.ip (AL p))),(8,.o (.ip (Hf l))),(9,eI .i64 (BD l))] ⟨⟨_,rfl,.o (.ptr (by simp) rfl rfl (by rw[g];rfl))⟩,⟨_,rfl,.AO⟩,⟨_,rfl,.o (.ptr (by simp) rfl rfl rfl)⟩,⟨_,rfl,.AO⟩,trivial⟩ ?_;refine R.Rz [(0,2),(1,2),(2,2),(3,2),(4,2),(5,2),(6,3),(7,3),(8,5),(9,5)] mixed (by kernel_rfl) rfl (by kernel_rfl) ?_;(repeat ((refine R.Af rfl ?_;first|(refine R.yQ (md:=false) rfl rfl rfl ?_ ?_;exact tI)|refine R.yP rfl rfl rfl rfl ?_|refine R.yA rfl rfl rfl rfl ?_|refine R.CG (λ_ _ _=>A8 rfl rfl rfl (FB a ha) rfl) rfl rfl ?_|refine R.CG (λ_ _ _=>A8 rfl rfl rfl (FB p e) rfl) rfl rfl ?_ )));refine R.Rt ?_;apply aS;refine Ak.freeze [2,3] [(4,.o (.ip [.p (AL a)])),(5,.o (.ip (AL p))),(8,.o (.ip (Hf l))),(9,eI .i64 (BD l)),(10,.o (.ip [.l (EG a)])),(11,.o (.ip [.l (EG p)]))] ⟨⟨_,rfl,.AO⟩,⟨_,rfl,.AO⟩,⟨_,rfl,.AO⟩,⟨_,rfl,.AO⟩,⟨_,rfl,.o (.ptr (by simp) rfl rfl rfl)⟩,⟨_,rfl,.o (.ptr (by simp) rfl rfl rfl)⟩,trivial⟩ ?_;refine R.Rz [(0,2),(1,2),(2,2),(3,2),(4,3),(5,3),(6,5),(7,5)] mixed (by kernel_rfl) rfl (by kernel_rfl) ?_;(repeat ((refine R.Af rfl ?_;first|(refine R.yQ (md:=false) rfl rfl rfl ?_ ?_;exact tI)|refine R.yP rfl rfl rfl rfl ?_|refine R.yA rfl rfl rfl rfl ?_ )));refine R.Rt ?_;apply aS;simp only[Wz];refine Ak.freeze [4,5] [(4,.o (.ip [.p (AL a)])),(5,.o (.ip (AL p))),(8,.o (.ip (Hf l))),(9,eI .i64 (BD l)),(10,.o (.ip [.l (EG a)])),(11,.o (.ip [.l (EG p)])),(12,.o (.ip [iD a.nx.length])),(13,.o (.ip [iD p.nx.length]))] ⟨⟨_,rfl,.AO⟩,⟨_,rfl,.AO⟩,⟨_,rfl,.AO⟩,⟨_,rfl,.AO⟩,⟨_,rfl,.AO⟩,⟨_,rfl,.AO⟩,⟨_,rfl,.o (.ptr (by simp) rfl rfl rfl)⟩,⟨_,rfl,.o (.ptr (by simp) rfl rfl rfl)⟩,trivial⟩ ?_;(repeat first|refine tA rfl ?_|refine aU rfl ?_|apply Aa);refine rG (Gk []) (by kernel_rfl) ?_;(repeat first|(refine sA rfl ?_ ?_;first|exact tI|omega)|refine sP rfl (ZN l b f) rfl ?_|refine sP rfl (Cn _) rfl ?_|refine sP rfl (m) rfl ?_|apply Aa);refine aR ⟨_,rfl,rfl⟩
abbrev cr(n:UInt8):List D:=[.v (.int .u8 n.toNat)]
abbrev ZZ(l:List UInt8):D:=.l (l.map cr)
abbrev Bt(b:List UInt8)(p:Int):O:=.cells 137 2 [[.d (ZZ b),.d (iD p)]]
theorem dL{a b:Nat}(ha:a<2 ^ 62)(hb:b<2 ^ 62):Xl .i64 a b=((a ^^^ b:Nat):Int):=by
 unfold Xl
 have d:(BitVec.ofInt IntKind.i64.bits (a:Int)).toNat=a:=by
  rw[BitVec.toNat_ofInt];have:IntKind.i64.bits=64:=rfl;rw[this];omega
 have c:(BitVec.ofInt IntKind.i64.bits (b:Int)).toNat=b:=by
  rw[BitVec.toNat_ofInt];have:IntKind.i64.bits=64:=rfl;rw[this];omega
 rw[BitVec.toNat_xor,d,c];have e:a ^^^ b<2 ^ 62:=Nat.xor_lt_two_pow ha hb;exact IntWalk.i64_in _ (by omega)
theorem gT{x y:Int}(d:0<=x/\x<4611686018427387904)(c:0<=y/\y<4611686018427387904):0<=Xl .i64 x y/\Xl .i64 x y<4611686018427387904:=by
 obtain⟨a,rfl⟩:∃a:Nat,x=a:=⟨x.toNat,by omega⟩
 obtain⟨b,rfl⟩:∃b:Nat,y=b:=⟨y.toNat,by omega⟩
 rw[dL (by omega) (by omega)];have e:a ^^^ b<2 ^ 62:=Nat.xor_lt_two_pow (by omega) (by omega);omega
theorem Xr(b:List UInt8)(hb:b.length<=9223372036854775807):∃b':List UInt8,b'.length<=2000/\AK Tryz.prog TB 49 0 [] 0 [.o (.d (ZZ b))] (λx σ nx=>x=.o (.ptr 0 2 0 0)/\σ=[(0,Bt b' 0)]/\nx=1):=by
 by_cases h:b.length<=2000
 ·refine⟨b,h,?_⟩
  refine AK.OU (m:=0) (am rfl) Tryz.func49 rfl (by kernel_rfl) (am rfl) ?_;intro Z c;(repeat first|refine sN rfl ?_|refine tX rfl ?_|refine s2 rfl λ_ a=>?_|refine aU rfl ?_|apply Aa)
  ((refine aC rfl ?_ ?_<;>rintro⟨⟩);all_goals try (simp at a;done))
  ·exfalso;(simp only[oZ] at *;omega)
  apply aK;(repeat first|refine tX rfl ?_|(refine Af rfl ?_;refine gA rfl ?_;first|refine gS (λ_ _=>AA rfl rfl (by rfl) (by rfl)) ?_)|refine aU rfl ?_);(refine pW rfl ?_ rfl (by rfl);refine C4 rfl rfl ?_);(repeat first|refine tX rfl ?_|apply Aa);refine aR ⟨_,rfl,rfl,rfl,rfl⟩
 ·refine⟨b.take 2000,by simp;omega,?_⟩
  have e:(b.map cr).take (2000:Int).toNat=(b.take 2000).map cr:=by simp[tf]
  refine AK.OU (m:=0) (am rfl) Tryz.func49 rfl (by kernel_rfl) (am rfl) ?_;intro Z c;(repeat first|refine sN rfl ?_|refine tX rfl ?_|refine s2 rfl λ_ a=>?_|refine aU rfl ?_|apply Aa)
  ((refine aC rfl ?_ ?_<;>rintro⟨⟩);all_goals try (simp at a;done))
  ·(repeat first|refine tX rfl ?_|(refine Af rfl ?_;refine gA rfl ?_;first|refine gS (λ_ _=>OZ rfl rfl (by simp) (by omega) (by simp;omega)) ?_)|refine aU rfl ?_|apply Aa)
   rw[e];(repeat first|(refine Af rfl ?_;refine gA rfl ?_;first|refine gS (λ_ _=>AA rfl rfl (by rfl) (by rfl)) ?_));(refine pW rfl ?_ rfl (by rfl);refine C4 rfl rfl ?_);(repeat first|refine tX rfl ?_|apply Aa);refine aR ⟨_,rfl,rfl,rfl,rfl⟩
  ·exfalso;(simp only[oZ] at *;omega)
theorem Bs(b:List UInt8)(hb:b.length<=2000)(p n:Int)(L:0<=p/\p<1000000000):∃k:Int,0<=k/\(k=0\/k<n)/\Spec Tryz.prog TB 119 [(0,Bt b p)] 1 [.o (.ptr 0 2 0 0),eI .i64 n] (λx σ nx=>x=eI .i64 k/\σ=[(0,Bt b (p+1))]/\nx=1):=by
 by_cases I:n<1\/b.length=0
 ·refine⟨0,by omega,.inl rfl,?_⟩
  refine eR Tryz.func119 rfl (by kernel_rfl) rfl ?_;intro Z a;(repeat' first|refine sN rfl ?_|(refine sA rfl ?_ ?_;first|exact tI|omega|simp only[oZ] at *;omega)|refine s2 rfl λ_ e=>?_|refine s3 rfl ?_ ?_<;>rintro rfl|refine aU rfl ?_|apply Aa|refine rE (by kernel_rfl) ?_|(refine aC rfl ?_ ?_<;>rintro⟨⟩)|apply aK|apply aE|apply aB|refine aR ⟨_,rfl,?_⟩)
  all_goals first
   | (exfalso;(simp only[oZ] at *;omega);done)
   | refine⟨[0],eI .i64 0,[(0,Bt b (p+1))],⟨by first|(simp;done)|decide|(intro i hi;match i with|0=>rfl),by decide⟩,rfl,by (simp[cX,zC,a]),rfl,rfl,rfl⟩
 have K:0<b.length:=by omega
 have q:0<n:=by omega
 by_cases J:p<b.length
 ·obtain⟨c,m⟩:=get_some (l:=b) (k:=(p+1-1).toNat) (by omega)
  have j:=get_map (g:=cr) m;have h:=c.toNat_lt;refine⟨(c.toNat:Int)%n,qx _ (by omega),.inr (ql _ q),?_⟩;refine eR Tryz.func119 rfl (by kernel_rfl) rfl ?_;intro Z a;(repeat' first|refine sN rfl ?_|(refine sA rfl ?_ ?_;first|exact tI|omega)|(refine s4 rfl ‹_› rfl ?_ ?_;omega)|refine s2 rfl λ_ e=>?_|refine s3 rfl ?_ ?_<;>rintro rfl|refine aU rfl ?_|apply Aa|refine rE (by kernel_rfl) ?_|(refine aC rfl ?_ ?_<;>rintro⟨⟩)|apply aK|apply aE|apply aB|refine aR ⟨_,rfl,?_⟩)
  all_goals first
   | (exfalso;(simp only[oZ] at *;omega);done)
   | refine⟨[0],_,[(0,Bt b (p+1))],⟨by first|(simp;done)|decide|(intro i hi;match i with|0=>rfl),by decide⟩,rfl,by (simp[cX,zC,a]),rfl,rfl,rfl⟩
 ·have f:(0:Int)<b.length:=by omega
  have H:=qx (p+1-1) (show (b.length:Int)≠0 by omega);have G:=ql (p+1-1) f;have F:=qx ((p+1-1)*7+3) (show (b.length:Int)≠0 by omega);have B:=ql ((p+1-1)*7+3) f;obtain⟨c,m⟩:=get_some (l:=b) (k:=((p+1-1)%(b.length:Int)).toNat) (by omega);have j:=get_map (g:=cr) m;have h:=c.toNat_lt;obtain⟨d,u⟩:=get_some (l:=b) (k:=(((p+1-1)*7+3)%(b.length:Int)).toNat) (by omega);have t:=get_map (g:=cr) u;have s:=d.toNat_lt;have A:0<=(p+1-1) / (b.length:Int):=rz (by omega) (by omega);have z:(p+1-1) / (b.length:Int)<=p+1-1:=rr _ (by omega)
  obtain⟨x,r⟩:∃x,x=(c.toNat:Int)*131+(d.toNat:Int)*1117+(p+1-1)*29+(p+1-1) / (b.length:Int)*53:=⟨_,rfl⟩
  have w:0<=x/\x<1000000000000:=by omega
  have v:=gT (x:=x) (y:=x / 64) (by omega) (by omega);refine⟨Xl .i64 x (x / 64)%n,qx _ (by omega),.inr (ql _ q),?_⟩;refine eR Tryz.func119 rfl (by kernel_rfl) rfl ?_;intro Z a;(repeat' first|refine sN rfl ?_|(refine sA rfl ?_ ?_;first|exact tI|omega)|(refine s4 rfl ‹_› rfl ?_ ?_;omega)|(refine s2 rfl λ_ e=>?_;try (simp only[qv,qD]at e;subst e))|(refine Af rfl ?_;refine gA rfl ?_;first|refine gS (λ_ _=>mZ rfl rfl rfl) ?_)|refine s3 rfl ?_ ?_<;>rintro rfl|refine aU rfl ?_|apply Aa|refine rE (by kernel_rfl) ?_|(refine aC rfl ?_ ?_<;>rintro⟨⟩)|apply aK|refine aR ⟨_,rfl,?_⟩|(rw[<-r]))
  all_goals first
   | (exfalso;(simp only[oZ] at *;omega);done)
   | refine⟨[0],_,[(0,Bt b (p+1))],⟨by first|(simp;done)|decide|(intro i hi;match i with|0=>rfl),by decide⟩,rfl,by (simp[cX,zC,a]),rfl,rfl,rfl⟩
theorem Dc(b:List UInt8)(hb:b.length<=2000)(p:Int)(m:0<=p/\p<1000000000)(l:List Int)(s:0<l.length)(j:l.length<1000000):∃k∈l,Spec Tryz.prog TB 51 [(0,Bt b p)] 1 [.o (.ptr 0 2 0 0),Al l] (λx σ nx=>x=eI .i64 k/\σ=[(0,Bt b (p+1))]/\nx=1):=by
 obtain⟨k,r,q,h⟩:=Bs (TB:=TB) b hb p l.length m;obtain⟨x,c⟩:=get_some (l:=l) (k:=k.toNat) (by omega);have f:=get_map (g:=Bw) c;refine⟨x,co c,?_⟩;refine eR Tryz.func51 rfl (by kernel_rfl) rfl ?_;intro Z a;(repeat first|refine sN rfl ?_|refine tA rfl ?_|refine aU rfl ?_|apply Aa);(refine pW rfl ?_ rfl (by rfl);refine Aj [0] rfl rfl (h) ⟨rfl,by decide,by decide⟩ rfl (by simp[cX,zC,a]) ?_;rintro n d e ⟨rfl,rfl,rfl⟩ _);(repeat first|refine tA rfl ?_|(refine s4 rfl ‹_› rfl ?_ ?_;omega)|apply Aa);refine aR ⟨_,rfl,?_⟩;refine⟨[0],_,[(0,Bt b (p+1))],⟨by first|(simp;done)|decide|(intro i hi;match i with|0=>rfl),by decide⟩,rfl,by (simp[cX,zC,a]),rfl,rfl,rfl⟩
theorem mr(b:List UInt8)(hb:b.length<=2000)(p:Int)(m:0<=p/\p<1000000000)(l:List W)(s:0<l.length)(j:l.length<1000000):∃k∈l,Spec Tryz.prog TB 157 [(0,Bt b p)] 1 [.o (.ptr 0 2 0 0),BW l] (λx σ nx=>x=eT k/\σ=[(0,Bt b (p+1))]/\nx=1):=by
 obtain⟨k,r,q,h⟩:=Bs (TB:=TB) b hb p l.length m;obtain⟨x,c⟩:=get_some (l:=l) (k:=k.toNat) (by omega);have f:=get_map (g:=CR) c;refine⟨x,co c,?_⟩;refine eR Tryz.func157 rfl (by kernel_rfl) rfl ?_;intro Z a;(repeat first|refine sN rfl ?_|refine tA rfl ?_|refine aU rfl ?_|apply Aa);(refine pW rfl ?_ rfl (by rfl);refine Aj [0] rfl rfl (h) ⟨rfl,by decide,by decide⟩ rfl (by simp[cX,zC,a]) ?_;rintro n d e ⟨rfl,rfl,rfl⟩ _);(repeat first|refine tA rfl ?_|(refine s4 rfl ‹_› rfl ?_ ?_;omega)|apply Aa);refine aR ⟨_,rfl,?_⟩;refine⟨[0],_,[(0,Bt b (p+1))],⟨by first|(simp;done)|decide|(intro i hi;match i with|0=>rfl),by decide⟩,rfl,by (simp[cX,zC,a]),rfl,rfl,rfl⟩
abbrev UN(al:Int)(i j:Nat)(n m:Nat):E:=.a [.d (iD al),.arr i 1 0 n,.arr j 1 0 m]
def Ur(b:List UInt8)(al p n:Int)(x:E)(σ:Ab)(nx:Nat):Prop:=∃(p':Int) (l:Fm) (ac:List Bool),(p<=p'/\p'<=p+7*n)/\(l.length:Int)=n/\ac.length=l.length/\(∀x∈l,x.2.length=(Ac al).length)/\
 x=UN al 1 2 l.length ac.length/\σ=[(0,Bt b p'),(1,.cells 53 1 (Ay l)),(2,.cells 4 1 (ac.map AF)),(3,.sld 3 (sI l))]/\nx=4
theorem Oa(b:List UInt8)(hb:b.length<=2000)(p:Int)(R:0<=p/\p<900000000)(al n:Int)(Q:0<=n/\n<1000):AK Tryz.prog TB 228 1 [(0,Bt b p)] 1 [.o (.ptr 0 2 0 0),eI .i64 al,eI .i64 n] (Ur b al p n):=by
 have L:(Ac al).length<=6:=AH al 6;refine AK.Bd (AK.OU (m:=1) (am rfl) Tryz.func228 rfl (by kernel_rfl) (am rfl) ?_);intro Z a;(repeat first|refine tA rfl ?_|refine aU rfl ?_|apply Aa);(refine pW rfl ?_ rfl (by rfl);refine J7 1 1 53 2 1 4 rfl rfl (by decide) rfl rfl (by rfl) (by rfl) ?_);(repeat first|refine sN rfl ?_|refine tA rfl ?_|refine sP rfl (Cm al) rfl ?_|refine aU rfl ?_|apply Aa);apply aB;refine Ak.ca 3 ?_;refine aL (α:={s:Nat×Int×Fm×List Bool // (s.1:Int)<=n/\(p<=s.2.1/\s.2.1<=p+7*s.1)/\s.2.2.1.length=s.1/\s.2.2.2.length=s.1/\∀x∈s.2.2.1,x.2.length=(Ac al).length}) [0,2,6,7,8] [1] rfl rfl (λs=>[(9,eI .i64 s.1.1)]) (λs=>[(0,Bt b s.1.2.1),(2,.cells 53 1 (Ay s.1.2.2.1)),(3,.cells 4 1 (s.1.2.2.2.map AF)),(4,.cells 29 3 [[.d (iD al),.arr 2 1 0 s.1.2.2.1.length,.arr 3 1 0 s.1.2.2.2.length]]),(5,.sld 3 (sI s.1.2.2.1))]) 6 (λs=>n.toNat-s.1.1) (⟨⟨0,p,[],[]⟩,by simp;omega⟩) a rfl (by (simp[cX,zC,a]<;>rfl)) ?_;rintro⟨⟨k,q,l,ac⟩,hk,G,H,t,B⟩;(try dsimp only[cA,cB]);have hk:(k:Int)<=n:=hk;have G:p<=q/\q<=p+7*k:=G;have H:l.length=k:=H;have t:ac.length=k:=t;(repeat first|refine tM rfl ?_|refine s2 rfl λ_ e=>?_|refine aU rfl ?_|apply Aa)
 ((refine aC rfl ?_ ?_<;>rintro⟨⟩);all_goals try (simp at e;done))
 ·have K:(k:Int)<n:=by (simp only[oZ] at *;omega)
  apply aK;refine aS (aB ?_);(repeat first|refine aU rfl ?_);(refine pW rfl ?_ rfl (by rfl);refine Bh rfl rfl rfl rfl (by simp) (by rfl) (by rfl) (by rfl) (by rfl) ?_);(repeat first|refine tX rfl ?_|refine aU rfl ?_|apply Aa);apply aB;refine aL (α:={s:Nat×Int×List Int // s.1<=(Ac al).length/\(q<=s.2.1/\s.2.1<=q+s.1)/\s.2.2.length=s.1}) [0,2,6,7,8,9] [1,2,3,4,5] rfl rfl (λs=>[(10,.o (.arr 6 1 0 s.1.2.2.length)),(11,eI .i64 s.1.1)]) (λs=>[(0,Bt b s.1.2.1),(6,.cells 3 1 (s.1.2.2.map AE))]) 7 (λs=>(Ac al).length-s.1.1) (⟨⟨0,q,[]⟩,by simp⟩) a rfl (by (simp[cX,zC,a,VM])) ?_;rintro⟨⟨j,u,xs⟩,I,F,g⟩;(try dsimp only[cA,cB]);have I:j<=(Ac al).length:=I;have F:q<=u/\u<=q+j:=F;have g:xs.length=j:=g;(repeat first|refine tM rfl ?_|refine s2 rfl λ_ e=>?_|refine aU rfl ?_|apply Aa)
  ((refine aC rfl ?_ ?_<;>rintro⟨⟩);all_goals try (simp at e;done))
  ·obtain⟨c,P,N,A⟩:=Bs (TB:=TB) b hb u n (by omega)
   apply aK;refine aS (aB ?_);(repeat first|refine tA rfl ?_|refine aU rfl ?_);(refine pW rfl ?_ rfl (by rfl);refine Aj [0] rfl rfl (A) ⟨rfl,by decide,by decide⟩ rfl (by simp[cX,zC,a]) ?_;rintro J w y ⟨rfl,rfl,rfl⟩ _);(repeat first|refine tA rfl ?_);(refine pW rfl ?_ rfl (by rfl);refine Au rfl rfl rfl (by first|(simp;done)|(simp;(omega))) rfl (by intro r f;simp at f;subst f;rfl) (by rfl) (am rfl) (by simp;omega) ?_);(repeat first|(refine sA rfl ?_ ?_;first|exact tI|omega)|refine aU rfl ?_|apply Aa);refine⟨⟨⟨j+1,u+1,xs++[c]⟩,by simp;(simp only[oZ] at *;omega)⟩,by dsimp only;((simp only[oZ] at *;omega)),[0,1,2,3,4,5,7],?_⟩;(simp[cX,zC,a,cN]<;>rfl)
  ·obtain rfl:j=(Ac al).length:=by (simp only[oZ] at *;omega)
   obtain⟨c,P,N,A⟩:=Bs (TB:=TB) b hb u 3 (by omega);apply aE;(repeat first|refine tX rfl ?_|refine aU rfl ?_);(refine pW rfl ?_ rfl (by rfl);refine Bh rfl rfl rfl rfl (by simp[eC]) (by rfl) (by rfl) (by rfl) (by rfl) ?_);(refine pW rfl ?_ rfl (by rfl);refine Au rfl rfl rfl (CL _) rfl (by intro r f;simp at f;subst f;rfl) (by rfl) (am rfl) (by simp;omega) ?_);(repeat first|refine tX rfl ?_|apply Aa);refine Ak.TS 8 6 5 l xs rfl rfl rfl λv=>?_;refine rG (Ju [(1,14),(3,1016),(6,1),(8,1)]) (by kernel_rfl) ?_;(repeat first|refine tA rfl ?_);(refine Af rfl ?_;refine Dd ?_ rfl ⟨rfl,rfl⟩;refine Aj [0] rfl rfl (A) ⟨rfl,by decide,by decide⟩ rfl (by simp[cX,zC,a,cN]) ?_;rintro J w y ⟨rfl,rfl,rfl⟩ _;refine⟨ER 4 rfl rfl,?_⟩);(repeat first|refine tA rfl ?_|refine s2 rfl λ_ e=>?_);(refine pW rfl ?_ rfl (by rfl);refine Au rfl rfl rfl (by first|(simp;done)|(simp;(omega))) rfl (by intro r f;simp at f;subst f;rfl) (by rfl) (am rfl) (by simp;omega) ?_);(repeat first|(refine sA rfl ?_ ?_;first|exact tI|omega)|refine aU rfl ?_|apply Aa);subst e
   have z:∀x∈l++[(v,xs)],x.2.length=(Ac al).length:=λx h=>by
    rcases d9.1 h with h|h
    ·exact B x h
    ·simp at h;subst h;exact g
   refine⟨⟨⟨k+1,u+1,l++[(v,xs)],ac++[decide (c > 0)]⟩,by dsimp only;omega,by dsimp only;omega,by simp;omega,by simp;omega,z⟩,by dsimp only;(omega),[0,1,8,9,4,5],?_⟩;(simp[cX,zC,a,cN]<;>rfl)
 ·have M:(k:Int)=n:=by (simp only[oZ] at *;omega)
  apply aE;(repeat first|refine tA rfl ?_|refine aU rfl ?_|apply Aa);refine aR ⟨_,rfl,[0,2,3,5],UN al 1 2 l.length ac.length,[(0,Bt b q),(1,.cells 53 1 (Ay l)),(2,.cells 4 1 (ac.map AF)),(3,.sld 3 (sI l))],⟨by intro i hi;match i with|0=>rfl,by decide⟩,rfl,by (simp[cX,zC,a,cN]),q,l,ac,by omega,by omega,by omega,B,rfl,rfl,rfl⟩
theorem Nu(b:List UInt8)(hb:b.length<=2000)(p:Int)(P:0<=p/\p<900000000)(al n:Int)(S:1<=n/\n<1000):AK Tryz.prog TB 227 1 [(0,Bt b p)] 1 [.o (.ptr 0 2 0 0),eI .i64 al,eI .i64 n] (Ur b al p n):=by
 have J:(Ac al).length<=6:=AH al 6;refine AK.Bd (AK.OU (m:=1) (am rfl) Tryz.func227 rfl (by kernel_rfl) (am rfl) ?_);intro Z a;(repeat first|refine tA rfl ?_|refine aU rfl ?_|apply Aa);(refine pW rfl ?_ rfl (by rfl);refine BI [0] rfl rfl 1 (Oa b hb p P al n (by omega)) (by decide) ⟨rfl,by decide,by decide⟩ rfl (by simp[cX,zC,a]) ?_;rintro Q H I ⟨q,l,ac,R,T,L,F,rfl,rfl,rfl⟩ _);(repeat first|refine tA rfl ?_|refine aU rfl ?_|apply Aa);apply aB;refine aL (α:={s:Nat×List Bool // (s.1:Int)<=n/\s.2.length=l.length}) [2,6,7] [1] rfl rfl (λs=>[(8,eI .i64 s.1.1)]) (λs=>[(0,Bt b q),(2,.cells 53 1 (Ay l)),(4,.sld 3 (sI l)),(3,.cells 4 1 (s.1.2.map AF)),(5,.cells 29 3 [[.d (iD al),.arr 2 1 0 l.length,.arr 3 1 0 s.1.2.length]])]) 6 (λs=>n.toNat-s.1.1) (⟨⟨0,ac⟩,by simp;omega⟩) a rfl (by (simp[cX,zC,a,cN])) ?_;rintro⟨⟨k,bc⟩,hk,r⟩;(try dsimp only[cA,cB]);have hk:(k:Int)<=n:=hk;have r:bc.length=l.length:=r;(repeat first|refine tM rfl ?_|refine s2 rfl λ_ e=>?_|refine aU rfl ?_|apply Aa)
 ((refine aC rfl ?_ ?_<;>rintro⟨⟩);all_goals try (simp at e;done))
 ·have z:(k:Int)<n:=by (simp only[oZ] at *;omega)
  obtain⟨c,B⟩:=get_some (l:=bc) (k:=0+(k:Int).toNat) (by omega);have A:=get_map (g:=AF) B;apply aK;refine aS (aB ?_);(repeat first|(refine sA rfl ?_ ?_;first|exact tI|omega)|refine t4 rfl ‹_› rfl ?_|refine s2 rfl λ_ e=>?_|refine aU rfl ?_|apply Aa);subst e;refine⟨⟨⟨k+1,bc.set k (decide ((k:Int)<n-1))⟩,by dsimp only;omega,by simp;omega⟩,by dsimp only;(omega),[0,1,2,3,4,5],?_⟩;(simp[cX,zC,a,cN,qC,Ae,eC]<;>rfl)
 obtain⟨K,N⟩:∃K:Nat,(K:Int)=n-1:=⟨(n-1).toNat,by omega⟩
 obtain⟨y,u⟩:=get_some (l:=l) (k:=K) (by omega);apply aE;(repeat first|refine tA rfl ?_|refine aU rfl ?_|apply Aa);apply aB;refine Ak.lk 2 4 l K y u rfl rfl ?_;have t:y.2.length=(Ac al).length:=F y (co u)
 have M:((Ay l).set K [.arr 6 1 0 y.2.length])[0+(n-1).toNat]?=some [.arr 6 1 0 y.2.length]:=by
  rw[<-N,ms,f9,qh (by rw[CL];omega)]
 refine aL (α:={s:Nat×List Int // s.1<=y.2.length/\s.2.length=y.2.length}) [2,6,7] [0,1,2,3,4,5] rfl rfl (λs=>[(9,eI .i64 s.1.1)]) (λs=>[(6,.cells 3 1 (s.1.2.map AE))]) 7 (λs=>y.2.length-s.1.1) (⟨⟨0,y.2⟩,by simp⟩) a rfl (by (simp[cX,zC,a,cN])) ?_;rintro⟨⟨j,ys⟩,G,f⟩;(try dsimp only[cA,cB]);have G:j<=y.2.length:=G;have f:ys.length=y.2.length:=f;(repeat first|(refine sA rfl ?_ ?_;first|exact tI|omega)|refine t4 rfl ‹_› rfl ?_|refine s2 rfl λ_ e=>?_|refine aU rfl ?_|apply Aa)
 ((refine aC rfl ?_ ?_<;>rintro⟨⟩);all_goals try (simp at e;done))
 ·have z:j<y.2.length:=by (simp only[oZ] at *;omega)
  obtain⟨c,B⟩:=get_some (l:=ys) (k:=0+(j:Int).toNat) (by omega);have A:=get_map (g:=AE) B;apply aK;refine aS (aB ?_);(repeat first|(refine sA rfl ?_ ?_;first|exact tI|omega)|refine t4 rfl ‹_› rfl ?_|refine aU rfl ?_|apply Aa);refine⟨⟨⟨j+1,ys.set j (n-1)⟩,by dsimp only;omega,by simp;omega⟩,by dsimp only;(omega),[0,1,2,3,4,5,6],?_⟩;(simp[cX,zC,a,cN,qC,Ae,eC]<;>rfl)
 apply aE;refine Ak.putAt 2 6 4 l K y u ys (by rw[f];rfl) rfl rfl λv=>?_;(repeat first|refine tA rfl ?_|refine aU rfl ?_|apply Aa)
 have w:∀x∈l.set K (v,ys),x.2.length=(Ac al).length:=λx h=>by
  rcases List.mem_or_eq_of_mem_set h with h|h
  ·exact F x h
  ·subst h;exact f.trans t
 refine aR ⟨_,rfl,[0,2,3,4],UN al 1 2 (l.set K (v,ys)).length bc.length,[(0,Bt b q),(1,.cells 53 1 (Ay (l.set K (v,ys)))),(2,.cells 4 1 (bc.map AF)),(3,.sld 3 (sI (l.set K (v,ys))))],⟨by intro i hi;match i with|0=>rfl,by decide⟩,by rw[pY];rfl,by (simp[cX,zC,a,cN]),q,l.set K (v,ys),bc,by omega,by rw[pY];omega,by rw[pY];omega,w,rfl,rfl,rfl⟩
structure MS (m:Nat) (a:AV):Prop where
 nx:a.nx.length<=m
 ac:a.ac.length<=m
 row:∀r∈a.nx,r.length<=m
def Lu(b:List UInt8)(p w:Int)(Q:AV->Prop)(x:E)(σ:Ab)(nx:Nat):Prop:=∃(p':Int) (a:AV),(p<=p'/\p'<=p+w)/\Q a/\x=AX a/\σ=[(0,Bt b p')]/\nx=1
theorem TL{al:Int}{l:Fm}{ac:List Bool}{n:Int}{m:Nat}(h:(l.length:Int)=n)(g:ac.length=l.length)(d:∀x∈l,x.2.length=(Ac al).length)(e:n<=m)(f:6<=m):MS m ⟨al,l.map (·.2),ac⟩:=by
 have c:(Ac al).length<=6:=AH al 6;refine⟨by simp;omega,by simp;omega,λr b=>?_⟩;obtain⟨x,a,rfl⟩:=d8.1 b;have:=d x a;omega
theorem Sd(b:List UInt8)(hb:b.length<=2000)(p:Int)(H:0<=p/\p<800000000)(al:Int):Spec Tryz.prog TB 171 [(0,Bt b p)] 1 [.o (.ptr 0 2 0 0),eI .i64 al] (Lu b p 50 (λa=>a.al=al/\MS 6 a)):=by
 obtain⟨c,J,I,A⟩:=Bs (TB:=TB) b hb p 2 (by omega);obtain⟨m,w,y⟩:=Dc (TB:=TB) b hb (p+1) (by omega) [3,2,4,1] (by decide) (by decide);obtain⟨k,u,x⟩:=Dc (TB:=TB) b hb (p+1) (by omega) [2,3,1,4,5] (by decide) (by decide)
 have v:1<=m/\m<=5:=by simp at w;omega
 have t:1<=k/\k<=5:=by simp at u;omega
 have F:=Nu (TB:=TB) b hb (p+1+1) (by omega) al m (by omega);have B:=Oa (TB:=TB) b hb (p+1+1) (by omega) al k (by omega);refine eR Tryz.func171 rfl (by kernel_rfl) rfl ?_;intro Z e;(repeat first|refine tA rfl ?_|refine aU rfl ?_|apply Aa);(refine pW rfl ?_ rfl (by rfl);refine Aj [0] rfl rfl (A) ⟨rfl,by decide,by decide⟩ rfl (by simp[cX,zC,e]) ?_;rintro j f g ⟨rfl,rfl,rfl⟩ _);(repeat first|refine s2 rfl λ_ G=>?_|apply Aa);(refine aC rfl ?_ ?_<;>rintro⟨⟩)
 ·(repeat first|refine tA rfl ?_|refine aU rfl ?_)
  (refine pW rfl ?_ rfl (by rfl);refine Aj [0] rfl rfl (y) ⟨rfl,by decide,by decide⟩ rfl (by simp[cX,zC,e]) ?_;rintro j f g ⟨rfl,rfl,rfl⟩ _);(refine pW rfl ?_ rfl (by rfl);refine BI [0] rfl rfl 1 (F) (by decide) ⟨rfl,by decide,by decide⟩ rfl (by simp[cX,zC,e,cN]) ?_;rintro j f g ⟨q,l,ac,z,r,h,n,rfl,rfl,rfl⟩ _);(repeat first|refine tA rfl ?_|apply Aa);refine Ak.Az [4] [] rfl rfl [] [(0,Bt b q),(1,.cells 29 3 [[.d (iD al),.arr 2 1 0 l.length,.arr 3 1 0 ac.length]]),(2,.cells 53 1 (Ay l)),(3,.cells 4 1 (ac.map AF)),(4,.sld 3 (sI l))] [0,1,2,3,4] (rl e rfl) (by (simp[cX,zC,e,cN])) ?_;(try dsimp only[cA,cB]);refine Ak.AB [1,2,3,4] [(4,.o (.ip (AL ⟨al,l.map (·.2),ac⟩)))] ⟨⟨_,rfl,.inr (.o (.box rfl (.cons .d (.cons (.MU (s:=4) rfl rfl) (.cons (.full rfl (by simp[d5]) (by simp)) .nil)))))⟩,trivial⟩ ?_;refine aR ⟨_,rfl,[0],AX ⟨al,l.map (·.2),ac⟩,[(0,Bt b q)],⟨by intro i hi;match i with|0=>rfl,by decide⟩,rfl,by (simp[cX,zC,e,cN]),q,_,by omega,⟨rfl,TL r h n (by omega) (by omega)⟩,rfl,rfl,rfl⟩
 ·apply aK
  (repeat first|refine tA rfl ?_|refine aU rfl ?_);(refine pW rfl ?_ rfl (by rfl);refine Aj [0] rfl rfl (x) ⟨rfl,by decide,by decide⟩ rfl (by simp[cX,zC,e]) ?_;rintro j f g ⟨rfl,rfl,rfl⟩ _);(refine pW rfl ?_ rfl (by rfl);refine BI [0] rfl rfl 1 (B) (by decide) ⟨rfl,by decide,by decide⟩ rfl (by simp[cX,zC,e,cN]) ?_;rintro j f g ⟨q,l,ac,z,r,h,n,rfl,rfl,rfl⟩ _);(repeat first|refine tA rfl ?_|apply Aa);refine Ak.Az [4] [] rfl rfl [] [(0,Bt b q),(1,.cells 29 3 [[.d (iD al),.arr 2 1 0 l.length,.arr 3 1 0 ac.length]]),(2,.cells 53 1 (Ay l)),(3,.cells 4 1 (ac.map AF)),(4,.sld 3 (sI l))] [0,1,2,3,4] (rl e rfl) (by (simp[cX,zC,e,cN])) ?_;(try dsimp only[cA,cB]);refine Ak.AB [1,2,3,4] [(4,.o (.ip (AL ⟨al,l.map (·.2),ac⟩)))] ⟨⟨_,rfl,.inr (.o (.box rfl (.cons .d (.cons (.MU (s:=4) rfl rfl) (.cons (.full rfl (by simp[d5]) (by simp)) .nil)))))⟩,trivial⟩ ?_;refine aR ⟨_,rfl,[0],AX ⟨al,l.map (·.2),ac⟩,[(0,Bt b q)],⟨by intro i hi;match i with|0=>rfl,by decide⟩,rfl,by (simp[cX,zC,e,cN]),q,_,by omega,⟨rfl,TL r h n (by omega) (by omega)⟩,rfl,rfl,rfl⟩
def Jk(a:AV)(x:E)(σ:Ab)(nx:Nat):Prop:=∃l:Fm,l.map (·.2)=a.nx/\
 x=UN a.al 0 1 l.length a.ac.length/\σ=[(0,.cells 53 1 (Ay l)),(1,.cells 4 1 (a.ac.map AF)),(2,.sld 3 (sI l))]/\nx=3
theorem JZ(a:AV)(ha:MS 1000000 a):AK Tryz.prog TB 130 0 [] 0 [AX a] (Jk a):=by
 have t:=ha.nx;have q:=ha.ac;refine AK.Bd (AK.OU (m:=0) (am rfl) Tryz.func130 rfl (by kernel_rfl) (am rfl) ?_);intro Z b;(repeat first|refine tA rfl ?_|refine aU rfl ?_|apply Aa);refine R.Rz [(0,2),(1,2),(3,2),(4,2),(7,3),(2,1),(5,1),(6,1),(8,5)] mixed (by kernel_rfl) rfl (by kernel_rfl) ?_;(repeat ((refine R.Af rfl ?_;first|(refine R.yQ (md:=false) rfl rfl rfl ?_ ?_;exact tI)|refine R.yP rfl rfl rfl rfl ?_ )));(refine R.Af rfl ?_;refine R.Kx (λ_=>?_) rfl rfl;refine Bh rfl rfl rfl rfl (by simp) (by rfl) (by rfl) (by rfl) (by rfl) ?_);(refine R.Af rfl ?_;refine R.Kx (λ_=>?_) rfl rfl;refine Au rfl rfl rfl (by simp) rfl (by intro r c;simp only[qt,d8]at c;obtain⟨_,_,rfl⟩:=c;rfl) (by rfl) (am rfl) (by simp;omega) ?_);(refine R.Af rfl ?_;refine R.Kx (λ_=>?_) rfl rfl;refine Ic 1 1 53 rfl rfl rfl (by rfl) (by rfl) ?_);(repeat ((refine R.Af rfl ?_;first|refine R.yA rfl rfl rfl rfl ?_ )));refine R.Rt ?_;apply aS;(repeat first|refine tA rfl ?_|refine aU rfl ?_|apply Aa);apply aB;refine Ak.ca 3 ?_;refine aL (α:={s:Nat×Fm // s.1<=a.nx.length/\s.2.map (·.2)=a.nx.take s.1}) [1,2,3] [] rfl rfl (λs=>[(4,eI .i64 s.1.1)]) (λs=>[(0,.cells 29 3 [[.d (iD 0),.d (.l []),.d (.l [])]]),(2,.cells 4 1 (a.ac.map AF)),(3,.cells 53 1 (Ay s.1.2)),(4,.cells 29 3 [[.d (iD a.al),.arr 3 1 0 s.1.2.length,.arr 2 1 0 a.ac.length]]),(5,.sld 3 (sI s.1.2))]) 6 (λs=>a.nx.length-s.1.1) (⟨⟨0,[]⟩,by simp⟩) b rfl (by (simp[cX,zC,b,cN,Bp,Ae,eC]<;>rfl)) ?_;rintro⟨⟨k,l⟩,hk,f⟩;(try dsimp only[cA,cB]);have hk:k<=a.nx.length:=hk;have f:l.map (·.2)=a.nx.take k:=f
 have e:l.length=k:=by have:=congrArg List.length f;simp at this;omega
 (repeat first|refine sN rfl ?_|refine tA rfl ?_|refine s2 rfl λ_ o=>?_|refine aU rfl ?_|apply Aa)
 ((refine aC rfl ?_ ?_<;>rintro⟨⟩);all_goals try (simp at o;done))
 ·have j:k<a.nx.length:=by (simp only[oZ] at *;omega)
  obtain⟨r,h⟩:=get_some (l:=a.nx) (k:=k) j;have p:=get_map (g:=EP) h;have c:=ha.row r (co h);apply aK;refine aS (aB ?_);refine rG ⟨Gm [(1,14),(2,1016),(8,1016),(9,1016),(10,1),(12,1)],cH [0,1,3,4,5,6,7,2,8,9,10,11,12]⟩ (by kernel_rfl) ?_;(repeat first|refine tX rfl ?_|(refine s4 rfl ‹_› rfl ?_ ?_;omega));(refine Af rfl ?_;refine Dd ?_ rfl ⟨rfl,rfl⟩;refine Bh rfl rfl rfl rfl (by simp) (by rfl) (by rfl) (by rfl) (by rfl) ?_;refine⟨ER 4 rfl rfl,?_⟩);(refine Af rfl ?_;refine Dd ?_ rfl ⟨rfl,rfl⟩;refine Au rfl rfl rfl (by simp) rfl (by intro r c;simp only[qt,d8]at c;obtain⟨_,_,rfl⟩:=c;rfl) (by rfl) (am rfl) (by simp;omega) ?_;refine⟨ER 4 rfl rfl,?_⟩);(refine Af rfl ?_;refine Dd ?_ rfl ⟨rfl,rfl⟩;refine Bh rfl rfl rfl rfl (by simp[eC]) (by rfl) (by rfl) (by rfl) (by rfl) ?_;refine⟨ER 4 rfl rfl,?_⟩);(refine pW rfl ?_ rfl (by rfl);refine Au rfl rfl rfl (CL _) rfl (by intro r c;simp at c;subst c;rfl) (by rfl) (am rfl) (by simp;omega) ?_);(repeat first|refine tA rfl ?_);apply Aa;refine Ak.Az [1,2,3,4] [] rfl rfl [] [(0,.cells 29 3 [[.d (iD 0),.d (.l []),.d (.l [])]]),(1,.cells 3 1 (r.map AE)),(2,.cells 4 1 (a.ac.map AF)),(3,.cells 53 1 (Ay l++[[.arr 1 1 0 r.length]])),(4,.cells 29 3 [[.d (iD a.al),.arr 3 1 0 (l.length+1),.arr 2 1 0 a.ac.length]]),(5,.sld 3 (sI l))] [0,7,2,9,4,5] (rl b rfl) (by (simp[cX,zC,b,cN,Bp,Ae,eC])) ?_;(try dsimp only[cA,cB]);refine Ak.TS 3 1 5 l r rfl rfl rfl λv=>?_;(repeat first|(refine sA rfl ?_ ?_;first|exact tI|omega)|refine aU rfl ?_|apply Aa);refine⟨⟨⟨k+1,l++[(v,r)]⟩,by dsimp only;omega,by dsimp only;rw[qe,f,f6,h];rfl⟩,by dsimp only;(omega),[0,1,2,3,4,5],?_⟩;(simp[cX,zC,b,cN]<;>rfl)
 have n:k=a.nx.length:=by (simp only[oZ] at *;omega)
 apply aE;(repeat first|refine tA rfl ?_|refine aU rfl ?_|apply Aa)
 have e:l.map (·.2)=a.nx:=by rw[f,n,io]
 refine aR ⟨_,rfl,[3,2,5],UN a.al 0 1 l.length a.ac.length,[(0,.cells 53 1 (Ay l)),(1,.cells 4 1 (a.ac.map AF)),(2,.sld 3 (sI l))],⟨by intro i hi;omega,by decide⟩,rfl,by (simp[cX,zC,b,cN]),l,e,rfl,rfl,rfl⟩
theorem BC(x:Value×List Int)(l:Fm):Ay (x::l)=[.d (.v x.1)]::Ay l:=rfl
theorem ZP{σ:Ab}{id k len:Nat}{T:TypeId}{rows:List (List C)}(h:look σ id=some (.cells T k rows))(a:rows.length=len):IX σ k (.o (.arr id k 0 len))=some rows:=by
 unfold IX;subst a;have hb:Nat.ble rows.length rows.length=true:=r5 (i9 _);simp[h,hb]
theorem KQ{m:Nat}{al:Int}{l1 l2:Fm}{y:Value×List Int}{ac:List Bool}(f:(l1++y::l2).length<=m)(e:ac.length<=m)(b:∀x∈l1++l2,x.2.length<=m)(d:y.2.length<=m):MS m ⟨al,(l1++y::l2).map (·.2),ac⟩:=by
 refine⟨by simpa using f,e,λr c=>?_⟩;obtain⟨x,a,rfl⟩:=d8.1 c
 rcases d9.1 a with a|a
 ·exact b x (pJ _ a)
 ·rcases mt.1 a with rfl|a
  ·exact d
  ·exact b x (pS _ a)
theorem Vo(b:List UInt8)(hb:b.length<=2000)(p:Int)(h0:0<=p/\p<900000000)(a:AV)(m:Nat)(ha:MS m a)(hm:m<=100000):Spec Tryz.prog TB 170 [(0,Bt b p)] 1 [.o (.ptr 0 2 0 0),AX a] (Lu b p 5 (λa'=>a'.al=a.al/\MS (m+1) a')):=by
 have ha1:=ha.nx;have ha2:=ha.ac;have J:=ha.row;obtain⟨c,c0,c1,hc⟩:=Bs (TB:=TB) b hb (p+1) 4 (by omega);refine eR Tryz.func170 rfl (by kernel_rfl) rfl ?_;intro Z f;(repeat first|refine tA rfl ?_|refine aU rfl ?_|apply Aa);(refine pW rfl ?_ rfl (by rfl);refine BI [] rfl rfl 0 (JZ a ⟨by omega,by omega,λr B=>by have:=J r B;omega⟩) (by decide) ⟨rfl,by decide,by decide⟩ rfl (by simp[cX,zC,f,cN]) ?_;rintro L F G ⟨l,V,rfl,rfl,rfl⟩ _);(repeat first|refine tA rfl ?_);apply Aa
 have X:MS (m+1) ⟨a.al,l.map (·.2),a.ac⟩:=by rw[V];exact⟨by show a.nx.length<=_;omega,by show a.ac.length<=_;omega,λr B=>by have:=J r B;omega⟩
 have hll:l.length=a.nx.length:=by rw[<-V];simp
 refine Ak.Az [0,4,5] [] rfl rfl [] [(0,Bt b p),(1,.cells 29 3 [[.d (iD 0),.d (.l []),.d (.l [])]]),(2,.cells 53 1 (Ay l)),(3,.cells 4 1 (a.ac.map AF)),(4,.sld 3 (sI l)),(5,.cells 29 3 [[.d (iD a.al),.arr 2 1 0 l.length,.arr 3 1 0 a.ac.length]])] [0,1,2,3,4,5] (rl f rfl) (by (simp[cX,zC,f,cN])) ?_;(try dsimp only[cA,cB]);(repeat first|refine tA rfl ?_|refine s2 rfl λ_ z=>?_|refine aU rfl ?_|apply Aa);(refine aC rfl ?_ ?_<;>rintro⟨⟩)
 ·(repeat first|refine tA rfl ?_|refine aU rfl ?_|apply Aa)
  refine Ak.Az [4] [] rfl rfl [] [(0,Bt b p),(1,.cells 29 3 [[.d (iD a.al),.arr 2 1 0 l.length,.arr 3 1 0 a.ac.length]]),(2,.cells 53 1 (Ay l)),(3,.cells 4 1 (a.ac.map AF)),(4,.sld 3 (sI l))] [0,1,2,3,4] (rl f rfl) (by (simp[cX,zC,f,cN])) ?_;(try dsimp only[cA,cB]);refine Ak.AB [1,2,3,4] [(4,.o (.ip (AL ⟨a.al,l.map (·.2),a.ac⟩)))] ⟨⟨_,rfl,.inr (.o (.box rfl (.cons .d (.cons (.MU (s:=4) rfl rfl) (.cons (.full rfl (by simp[d5]) (by simp)) .nil)))))⟩,trivial⟩ ?_;refine aR ⟨_,rfl,[0],AX ⟨a.al,l.map (·.2),a.ac⟩,[(0,Bt b p)],⟨by intro i hi;match i with|0=>rfl,by decide⟩,rfl,by (simp[cX,zC,f,cN]),p,⟨a.al,l.map (·.2),a.ac⟩,by omega,⟨rfl,X⟩,rfl,rfl,rfl⟩
 apply aK
 have hne:¬(l.length=0):=by (simp only[oZ] at *;omega)
 obtain⟨k,k0,k1,hk⟩:=Bs (TB:=TB) b hb p l.length (by omega);obtain⟨y,hy⟩:=get_some (l:=l) (k:=k.toNat) (by omega);obtain⟨I,H⟩:=PX hy;generalize l.take k.toNat=l1 at I H;generalize l.drop (k.toNat+1)=l2 at I;subst I;have Q:∀x∈l1++y::l2,x.2.length<=m:=λx t=>J x.2 (by rw[<-V];exact d8.2 ⟨x,t,rfl⟩);have P:∀x∈l1++l2,x.2.length<=m:=λx t=>Q x (by rcases d9.1 t with t|t;exact pJ _ t;exact pS _ (pN _ t))
 have n:∀x∈l1++l2,x.2.length<=m+1:=λx t=>by have:=P x t;omega
 have q:=Q y (by simp)
 have u:(l1++y::l2).length<=m:=by omega
 obtain⟨h,xs⟩:=y;have Y:xs.length<=m:=q;(repeat first|refine tA rfl ?_|refine aU rfl ?_);(refine pW rfl ?_ rfl (by rfl);refine Aj [0] rfl rfl (hk) ⟨rfl,by decide,by decide⟩ rfl (by simp[cX,zC,f,cN]) ?_;rintro L F G ⟨rfl,rfl,rfl⟩ _);(repeat first|refine tA rfl ?_|refine aU rfl ?_|apply Aa);(refine pW rfl ?_ rfl (by rfl);refine Aj [0] rfl rfl (hc) ⟨rfl,by decide,by decide⟩ rfl (by simp[cX,zC,f,cN]) ?_;rintro L F G ⟨rfl,rfl,rfl⟩ _);apply Aa;refine Ak.Az [0,4,5,6,7,20] [] rfl rfl [] [(0,Bt b (p+1+1)),(1,.cells 29 3 [[.d (iD 0),.d (.l []),.d (.l [])]]),(2,.cells 53 1 (Ay l1++[.d (.v h)]::Ay l2)),(3,.cells 4 1 (a.ac.map AF)),(4,.sld 3 (sI (l1++(h,xs)::l2))),(5,.cells 29 3 [[.d (iD a.al),.arr 2 1 0 (l1++(h,xs)::l2).length,.arr 3 1 0 a.ac.length]])] [0,1,2,3,4,5] (rl f rfl) (by (simp[cX,zC,f,cN,AZ]<;>rfl)) ?_;(try dsimp only[cA,cB]);refine Ak.take 2 4 (Ay l1) (Ay l2) h xs l1 l2 rfl rfl ?_
 have hrow:(Ay l1++[.arr 6 1 0 xs.length]::Ay l2)[0+k.toNat]?=some [.arr 6 1 0 xs.length]:=by rw[ms];exact Mx H
 apply aB;(repeat first|refine tA rfl ?_|refine s2 rfl λ_ z=>?_|refine aU rfl ?_|apply Aa);(refine aC rfl ?_ ?_<;>rintro⟨⟩)
 ·(repeat first|refine tA rfl ?_|refine s2 rfl λ_ z=>?_|refine aU rfl ?_|apply Aa)
  (refine aC rfl ?_ ?_<;>rintro⟨⟩)
  ·obtain⟨e,S⟩:=get_some (l:=a.ac) (k:=0+k.toNat) (by (simp only[oZ] at *;omega))
   have R:=get_map (g:=AF) S;refine rG (Gk [10]) (by kernel_rfl) ?_;(repeat first|(refine sA rfl ?_ ?_;first|exact tI|simp only[oZ] at *;omega)|refine t4 rfl ‹_› rfl ?_|refine s2 rfl λ_ z=>?_);apply Aa;subst z;refine Ak.Az [4,5] [] rfl rfl [] [(0,Bt b (p+1+1)),(1,.cells 29 3 [[.d (iD 0),.d (.l []),.d (.l [])]]),(2,.cells 53 1 (Ay l1++[.arr 6 1 0 (xs).length]::Ay (l2))),(3,.cells 4 1 ((a.ac.set k.toNat (!e)).map AF)),(4,.sld 3 (sI (l1++l2))),(5,.cells 29 3 [[.d (iD a.al),.arr 2 1 0 (l1++(h,xs)::l2).length,.arr 3 1 0 (a.ac.set k.toNat (!e)).length]]),(6,.cells 3 1 ((xs).map AE))] [0,1,2,3,4,5,6] (rl f rfl) (by (simp[cX,zC,f,cN,AZ,qC,Ae,eC])) ?_;(try dsimp only[cA,cB]);refine Ak.put 2 6 4 (Ay l1) (Ay (l2)) (xs) l1 (l2) rfl rfl rfl λv=>?_;(repeat first|refine tA rfl ?_|refine aU rfl ?_|apply Aa);refine Ak.Az [4] [] rfl rfl [] [(0,Bt b (p+1+1)),(1,.cells 29 3 [[.d (iD a.al),.arr 2 1 0 (l1++(v,xs)::l2).length,.arr 3 1 0 (a.ac.set k.toNat (!e)).length]]),(2,.cells 53 1 (Ay (l1++(v,xs)::l2))),(3,.cells 4 1 ((a.ac.set k.toNat (!e)).map AF)),(4,.sld 3 (sI (l1++(v,xs)::l2)))] [0,1,2,3,4] (rl f rfl) (by (simp[cX,zC,f,cN,AZ,BC])) ?_;(try dsimp only[cA,cB]);refine Ak.AB [1,2,3,4] [(4,.o (.ip (AL ⟨a.al,(l1++(v,xs)::l2).map (·.2),a.ac.set k.toNat (!e)⟩)))] ⟨⟨_,rfl,.inr (.o (.box rfl (.cons .d (.cons (.MU (s:=4) rfl rfl) (.cons (.full rfl (by simp[d5]) (by simp)) .nil)))))⟩,trivial⟩ ?_;refine aR ⟨_,rfl,[0],AX ⟨a.al,(l1++(v,xs)::l2).map (·.2),a.ac.set k.toNat (!e)⟩,[(0,Bt b (p+1+1))],⟨by intro i hi;match i with|0=>rfl,by decide⟩,rfl,by (simp[cX,zC,f,cN]),_,⟨a.al,(l1++(v,xs)::l2).map (·.2),a.ac.set k.toNat (!e)⟩,by omega,⟨rfl,KQ (by simp at u |-;omega) (by first|omega|(simp;omega)) (n) (by have K:xs.length<=m:=q;simp;omega)⟩,rfl,rfl,rfl⟩
  ·apply aK
   refine Ak.Az [4,5] [] rfl rfl [] [(0,Bt b (p+1+1)),(1,.cells 29 3 [[.d (iD 0),.d (.l []),.d (.l [])]]),(2,.cells 53 1 (Ay l1++[.arr 6 1 0 (xs).length]::Ay (l2))),(3,.cells 4 1 ((a.ac).map AF)),(4,.sld 3 (sI (l1++l2))),(5,.cells 29 3 [[.d (iD a.al),.arr 2 1 0 (l1++(h,xs)::l2).length,.arr 3 1 0 (a.ac).length]]),(6,.cells 3 1 ((xs).map AE))] [0,1,2,3,4,5,6] (rl f rfl) (by (simp[cX,zC,f,cN,AZ])) ?_;(try dsimp only[cA,cB]);refine Ak.put 2 6 4 (Ay l1) (Ay (l2)) (xs) l1 (l2) rfl rfl rfl λv=>?_;(repeat first|refine tA rfl ?_|refine aU rfl ?_|apply Aa);refine Ak.Az [4] [] rfl rfl [] [(0,Bt b (p+1+1)),(1,.cells 29 3 [[.d (iD a.al),.arr 2 1 0 (l1++(v,xs)::l2).length,.arr 3 1 0 (a.ac).length]]),(2,.cells 53 1 (Ay (l1++(v,xs)::l2))),(3,.cells 4 1 ((a.ac).map AF)),(4,.sld 3 (sI (l1++(v,xs)::l2)))] [0,1,2,3,4] (rl f rfl) (by (simp[cX,zC,f,cN,AZ,BC])) ?_;(try dsimp only[cA,cB]);refine Ak.AB [1,2,3,4] [(4,.o (.ip (AL ⟨a.al,(l1++(v,xs)::l2).map (·.2),a.ac⟩)))] ⟨⟨_,rfl,.inr (.o (.box rfl (.cons .d (.cons (.MU (s:=4) rfl rfl) (.cons (.full rfl (by simp[d5]) (by simp)) .nil)))))⟩,trivial⟩ ?_;refine aR ⟨_,rfl,[0],AX ⟨a.al,(l1++(v,xs)::l2).map (·.2),a.ac⟩,[(0,Bt b (p+1+1))],⟨by intro i hi;match i with|0=>rfl,by decide⟩,rfl,by (simp[cX,zC,f,cN]),_,⟨a.al,(l1++(v,xs)::l2).map (·.2),a.ac⟩,by omega,⟨rfl,KQ (by simp at u |-;omega) (by first|omega|(simp;omega)) (n) (by have K:xs.length<=m:=q;simp;omega)⟩,rfl,rfl,rfl⟩
 ·(repeat first|refine tA rfl ?_|refine s2 rfl λ_ z=>?_|refine aU rfl ?_|apply Aa)
  (refine aC rfl ?_ ?_<;>rintro⟨⟩)
  ·(repeat first|(refine sA rfl ?_ ?_;first|exact tI|omega)|refine t4 rfl ‹_› rfl ?_|refine s2 rfl λ_ z=>?_|refine aU rfl ?_|apply Aa)
   (refine aC rfl ?_ ?_<;>rintro⟨⟩)
   ·have M:0<xs.length:=by (simp only[oZ] at *;omega)
    obtain⟨j,j0,j1,hj⟩:=Bs (TB:=TB) b hb (p+1+1) xs.length (by omega);obtain⟨w,w0,w1,hw⟩:=Bs (TB:=TB) b hb (p+1+1+1) (l1++(h,xs)::l2).length (by omega);obtain⟨e,S⟩:=get_some (l:=xs) (k:=0+j.toNat) (by omega);have R:=get_map (g:=AE) S;refine rG ⟨Gm [(1,15),(4,12),(7,15),(10,12),(12,1036),(15,1036),(17,1)],cH [0,1,2,3,4,5,6,7,8,9,10,11,13,14,12,15,16,17]⟩ (by kernel_rfl) ?_;(repeat first|(refine sA rfl ?_ ?_;first|exact tI|omega)|refine t4 rfl ‹_› rfl ?_);(refine Af rfl ?_;refine Dd ?_ rfl ⟨rfl,rfl⟩;refine Aj [0] rfl rfl (hj) ⟨rfl,by decide,by decide⟩ rfl (by simp[cX,zC,f,cN]) ?_;rintro L F G ⟨rfl,rfl,rfl⟩ _;refine⟨KD 5 2 rfl rfl rfl,?_⟩);(refine Af rfl ?_;refine Dd ?_ rfl ⟨rfl,rfl⟩;refine Aj [0] rfl rfl (hw) ⟨rfl,by decide,by decide⟩ rfl (by simp[cX,zC,f,cN]) ?_;rintro L F G ⟨rfl,rfl,rfl⟩ _;refine⟨KD 5 2 rfl rfl rfl,?_⟩);(repeat first|(refine sA rfl ?_ ?_;omega)|refine t4 rfl ‹_› rfl ?_);apply Aa;refine Ak.Az [4,5] [] rfl rfl [] [(0,Bt b (p+1+1+1+1)),(1,.cells 29 3 [[.d (iD 0),.d (.l []),.d (.l [])]]),(2,.cells 53 1 (Ay l1++[.arr 6 1 0 (xs.set j.toNat w).length]::Ay (l2))),(3,.cells 4 1 ((a.ac).map AF)),(4,.sld 3 (sI (l1++l2))),(5,.cells 29 3 [[.d (iD a.al),.arr 2 1 0 (l1++(h,xs)::l2).length,.arr 3 1 0 (a.ac).length]]),(6,.cells 3 1 ((xs.set j.toNat w).map AE))] [0,1,2,3,4,5,6] (rl f rfl) (by (simp[cX,zC,f,cN,AZ,qC,Ae,eC])) ?_;(try dsimp only[cA,cB]);refine Ak.put 2 6 4 (Ay l1) (Ay (l2)) (xs.set j.toNat w) l1 (l2) rfl rfl rfl λv=>?_;(repeat first|refine tA rfl ?_|refine aU rfl ?_|apply Aa);refine Ak.Az [4] [] rfl rfl [] [(0,Bt b (p+1+1+1+1)),(1,.cells 29 3 [[.d (iD a.al),.arr 2 1 0 (l1++(v,xs.set j.toNat w)::l2).length,.arr 3 1 0 (a.ac).length]]),(2,.cells 53 1 (Ay (l1++(v,xs.set j.toNat w)::l2))),(3,.cells 4 1 ((a.ac).map AF)),(4,.sld 3 (sI (l1++(v,xs.set j.toNat w)::l2)))] [0,1,2,3,4] (rl f rfl) (by (simp[cX,zC,f,cN,AZ,BC])) ?_;(try dsimp only[cA,cB]);refine Ak.AB [1,2,3,4] [(4,.o (.ip (AL ⟨a.al,(l1++(v,xs.set j.toNat w)::l2).map (·.2),a.ac⟩)))] ⟨⟨_,rfl,.inr (.o (.box rfl (.cons .d (.cons (.MU (s:=4) rfl rfl) (.cons (.full rfl (by simp[d5]) (by simp)) .nil)))))⟩,trivial⟩ ?_;refine aR ⟨_,rfl,[0],AX ⟨a.al,(l1++(v,xs.set j.toNat w)::l2).map (·.2),a.ac⟩,[(0,Bt b (p+1+1+1+1))],⟨by intro i hi;match i with|0=>rfl,by decide⟩,rfl,by (simp[cX,zC,f,cN]),_,⟨a.al,(l1++(v,xs.set j.toNat w)::l2).map (·.2),a.ac⟩,by omega,⟨rfl,KQ (by simp at u |-;omega) (by first|omega|(simp;omega)) (n) (by have K:xs.length<=m:=q;simp;omega)⟩,rfl,rfl,rfl⟩
   ·apply aK
    refine Ak.Az [4,5] [] rfl rfl [] [(0,Bt b (p+1+1)),(1,.cells 29 3 [[.d (iD 0),.d (.l []),.d (.l [])]]),(2,.cells 53 1 (Ay l1++[.arr 6 1 0 (xs).length]::Ay (l2))),(3,.cells 4 1 ((a.ac).map AF)),(4,.sld 3 (sI (l1++l2))),(5,.cells 29 3 [[.d (iD a.al),.arr 2 1 0 (l1++(h,xs)::l2).length,.arr 3 1 0 (a.ac).length]]),(6,.cells 3 1 ((xs).map AE))] [0,1,2,3,4,5,6] (rl f rfl) (by (simp[cX,zC,f,cN,AZ])) ?_;(try dsimp only[cA,cB]);refine Ak.put 2 6 4 (Ay l1) (Ay (l2)) (xs) l1 (l2) rfl rfl rfl λv=>?_;(repeat first|refine tA rfl ?_|refine aU rfl ?_|apply Aa);refine Ak.Az [4] [] rfl rfl [] [(0,Bt b (p+1+1)),(1,.cells 29 3 [[.d (iD a.al),.arr 2 1 0 (l1++(v,xs)::l2).length,.arr 3 1 0 (a.ac).length]]),(2,.cells 53 1 (Ay (l1++(v,xs)::l2))),(3,.cells 4 1 ((a.ac).map AF)),(4,.sld 3 (sI (l1++(v,xs)::l2)))] [0,1,2,3,4] (rl f rfl) (by (simp[cX,zC,f,cN,AZ,BC])) ?_;(try dsimp only[cA,cB]);refine Ak.AB [1,2,3,4] [(4,.o (.ip (AL ⟨a.al,(l1++(v,xs)::l2).map (·.2),a.ac⟩)))] ⟨⟨_,rfl,.inr (.o (.box rfl (.cons .d (.cons (.MU (s:=4) rfl rfl) (.cons (.full rfl (by simp[d5]) (by simp)) .nil)))))⟩,trivial⟩ ?_;refine aR ⟨_,rfl,[0],AX ⟨a.al,(l1++(v,xs)::l2).map (·.2),a.ac⟩,[(0,Bt b (p+1+1))],⟨by intro i hi;match i with|0=>rfl,by decide⟩,rfl,by (simp[cX,zC,f,cN]),_,⟨a.al,(l1++(v,xs)::l2).map (·.2),a.ac⟩,by omega,⟨rfl,KQ (by simp at u |-;omega) (by first|omega|(simp;omega)) (n) (by have K:xs.length<=m:=q;simp;omega)⟩,rfl,rfl,rfl⟩
  ·(repeat first|refine tA rfl ?_|refine s2 rfl λ_ z=>?_|refine aU rfl ?_|apply Aa)
   (refine aC rfl ?_ ?_<;>rintro⟨⟩)
   ·(repeat' first|(refine sA rfl ?_ ?_;first|exact tI|omega)|refine t4 rfl ‹_› rfl ?_|refine s2 rfl λ_ z=>?_|refine s3 rfl ?_ ?_<;>rintro rfl|refine aU rfl ?_|apply Aa|(refine aC rfl ?_ ?_<;>rintro⟨⟩))
    any_goals (apply aK;refine Ak.Az [4,5] [] rfl rfl [] [(0,Bt b (p+1+1)),(1,.cells 29 3 [[.d (iD 0),.d (.l []),.d (.l [])]]),(2,.cells 53 1 (Ay l1++[.arr 6 1 0 (xs).length]::Ay (l2))),(3,.cells 4 1 ((a.ac).map AF)),(4,.sld 3 (sI (l1++l2))),(5,.cells 29 3 [[.d (iD a.al),.arr 2 1 0 (l1++(h,xs)::l2).length,.arr 3 1 0 (a.ac).length]]),(6,.cells 3 1 ((xs).map AE))] [0,1,2,3,4,5,6] (rl f rfl) (by (simp[cX,zC,f,cN,AZ])) ?_;(try dsimp only[cA,cB]);refine Ak.put 2 6 4 (Ay l1) (Ay (l2)) (xs) l1 (l2) rfl rfl rfl λv=>?_;(repeat first|refine tA rfl ?_|refine aU rfl ?_|apply Aa);refine Ak.Az [4] [] rfl rfl [] [(0,Bt b (p+1+1)),(1,.cells 29 3 [[.d (iD a.al),.arr 2 1 0 (l1++(v,xs)::l2).length,.arr 3 1 0 (a.ac).length]]),(2,.cells 53 1 (Ay (l1++(v,xs)::l2))),(3,.cells 4 1 ((a.ac).map AF)),(4,.sld 3 (sI (l1++(v,xs)::l2)))] [0,1,2,3,4] (rl f rfl) (by (simp[cX,zC,f,cN,AZ,BC])) ?_;(try dsimp only[cA,cB]);refine Ak.AB [1,2,3,4] [(4,.o (.ip (AL ⟨a.al,(l1++(v,xs)::l2).map (·.2),a.ac⟩)))] ⟨⟨_,rfl,.inr (.o (.box rfl (.cons .d (.cons (.MU (s:=4) rfl rfl) (.cons (.full rfl (by simp[d5]) (by simp)) .nil)))))⟩,trivial⟩ ?_;refine aR ⟨_,rfl,[0],AX ⟨a.al,(l1++(v,xs)::l2).map (·.2),a.ac⟩,[(0,Bt b (p+1+1))],⟨by intro i hi;match i with|0=>rfl,by decide⟩,rfl,by (simp[cX,zC,f,cN]),_,⟨a.al,(l1++(v,xs)::l2).map (·.2),a.ac⟩,by omega,⟨rfl,KQ (by simp at u |-;omega) (by first|omega|(simp;omega)) (n) (by have K:xs.length<=m:=q;simp;omega)⟩,rfl,rfl,rfl⟩)
    have M:0<xs.length:=by (simp only[oZ] at *;omega)
    obtain⟨e,S⟩:=get_some (l:=a.ac) (k:=0+k.toNat) (by (simp only[oZ] at *;omega));have R:=get_map (g:=AF) S;obtain⟨L,T⟩:=get_some (l:=xs) (k:=0+(0:Int).toNat) (by omega);have hx0':=get_map (g:=AE) T;(try apply aS);refine rG ⟨Gm [(1,15),(4,15),(7,12),(2,1036),(8,1036),(9,1036),(10,1),(12,1)],cH [0,1,3,4,5,6,7,2,8,9,10,11,12]⟩ (by kernel_rfl) ?_;(repeat first|(refine sX rfl ?_ ?_;first|exact tI|omega)|refine t4 rfl ‹_› rfl ?_);(refine Af rfl ?_;refine Dd ?_ rfl ⟨rfl,rfl⟩;refine Bh rfl rfl rfl rfl (by simp) (by rfl) (by rfl) (by rfl) (by rfl) ?_;refine⟨KD 5 2 rfl rfl rfl,?_⟩);(refine Af rfl ?_;refine Dd ?_ rfl ⟨rfl,rfl⟩;refine Au rfl rfl rfl (by simp) (ZP rfl (by simp)) (by intro r B;simp at B;obtain⟨_,_,rfl⟩:=B;rfl) (by rfl) (am rfl) (by simp;omega) ?_;refine⟨KD 5 2 rfl rfl rfl,?_⟩);(refine Af rfl ?_;refine Dd ?_ rfl ⟨rfl,rfl⟩;refine Bh rfl rfl rfl rfl (by simp[eC]) (by rfl) (by rfl) (by rfl) (by rfl) ?_;refine⟨KD 5 2 rfl rfl rfl,?_⟩);(refine pW rfl ?_ rfl (by rfl);refine Au rfl rfl rfl (by simp[CL]) rfl (by intro r B;simp at B;subst B;rfl) (by rfl) (am rfl) (by simp at u |-;omega) ?_);(repeat first|refine tA rfl ?_);apply Aa;refine Ak.Az [0,4,5,6,7] [] rfl rfl [] [(0,Bt b (p+1+1)),(1,.cells 29 3 [[.d (iD 0),.d (.l []),.d (.l [])]]),(2,.cells 53 1 ((Ay l1++[.arr 6 1 0 xs.length]::Ay l2)++[[.arr 7 1 0 xs.length]])),(3,.cells 4 1 (a.ac.map AF)),(4,.sld 3 (sI (l1++l2))),(5,.cells 29 3 [[.d (iD a.al),.arr 2 1 0 ((l1++(h,xs)::l2).length+1),.arr 3 1 0 a.ac.length]]),(6,.cells 3 1 (xs.map AE)),(7,.cells 3 1 (xs.map AE))] [0,1,10,3,4,5,6,8] (rl f rfl) (by (simp[cX,zC,f,cN,AZ,Ae,eC,CL])) ?_;(try dsimp only[cA,cB]);refine Ak.put 2 7 4 (Ay l1++[.arr 6 1 0 xs.length]::Ay l2) [] xs (l1++l2) [] rfl rfl (by rw[pX];rfl) λA=>?_;refine Ak.Az [0,4,5,6,7] [] rfl rfl [] [(0,Bt b (p+1+1)),(1,.cells 29 3 [[.d (iD 0),.d (.l []),.d (.l [])]]),(2,.cells 53 1 (Ay l1++[.arr 6 1 0 xs.length]::Ay (l2++[(A,xs)]))),(3,.cells 4 1 (a.ac.map AF)),(4,.sld 3 (sI (l1++(l2++[(A,xs)])))),(5,.cells 29 3 [[.d (iD a.al),.arr 2 1 0 ((l1++(h,xs)::l2).length+1),.arr 3 1 0 a.ac.length]]),(6,.cells 3 1 (xs.map AE))] [0,1,2,3,4,5,6] (rl f rfl) (by (simp[cX,zC,f,cN,AZ,sG]<;>rfl)) ?_;(try dsimp only[cA,cB])
    have N:∀x∈l1++(l2++[(A,xs)]),x.2.length<=m+1:=λx t=>by
     rw[<-sG]at t
     rcases d9.1 t with t|t
     ·exact n x t
     ·simp at t;subst t;show xs.length<=_;omega
    apply aS;refine rG (Gk [8,10]) (by kernel_rfl) ?_
    have U:(Ay l1++[.arr 6 1 0 xs.length]::Ay (l2++[(A,xs)]))[0+k.toNat]?=some [.arr 6 1 0 xs.length]:=by rw[ms];exact Mx H
    (repeat first|(refine sA rfl ?_ ?_;first|exact tI|simp only[oZ] at *;omega)|refine t4 rfl ‹_› rfl ?_);(refine pW rfl ?_ rfl (by rfl);refine Au rfl rfl rfl (by first|(simp;done)|(simp;(omega))) rfl (by intro r B;simp at B;subst B;rfl) (by rfl) (am rfl) (by simp;omega) ?_);(repeat first|refine tA rfl ?_);apply Aa;refine oW (by kernel_rfl) ?_;(repeat first|(refine sA rfl ?_ ?_;first|exact tI|omega)|refine t4 rfl ‹_› rfl ?_);apply Aa;refine Ak.Az [4,5] [] rfl rfl [] [(0,Bt b (p+1+1)),(1,.cells 29 3 [[.d (iD 0),.d (.l []),.d (.l [])]]),(2,.cells 53 1 (Ay l1++[.arr 6 1 0 (xs.set 0 (l1++(h,xs)::l2).length).length]::Ay ((l2++[(A,xs)])))),(3,.cells 4 1 ((a.ac++[e]).map AF)),(4,.sld 3 (sI (l1++(l2++[(A,xs)])))),(5,.cells 29 3 [[.d (iD a.al),.arr 2 1 0 (l1++(h,xs)::(l2++[(A,xs)])).length,.arr 3 1 0 (a.ac++[e]).length]]),(6,.cells 3 1 ((xs.set 0 (l1++(h,xs)::l2).length).map AE))] [0,1,2,7,4,5,6] (rl f rfl) (by (simp[cX,zC,f,cN,AZ,qC,Ae,eC,sG]<;>rfl)) ?_;(try dsimp only[cA,cB]);refine Ak.put 2 6 4 (Ay l1) (Ay ((l2++[(A,xs)]))) (xs.set 0 (l1++(h,xs)::l2).length) l1 ((l2++[(A,xs)])) rfl rfl rfl λv=>?_;(repeat first|refine tA rfl ?_|refine aU rfl ?_|apply Aa);refine Ak.Az [4] [] rfl rfl [] [(0,Bt b (p+1+1)),(1,.cells 29 3 [[.d (iD a.al),.arr 2 1 0 (l1++(v,xs.set 0 (l1++(h,xs)::l2).length)::(l2++[(A,xs)])).length,.arr 3 1 0 (a.ac++[e]).length]]),(2,.cells 53 1 (Ay (l1++(v,xs.set 0 (l1++(h,xs)::l2).length)::(l2++[(A,xs)])))),(3,.cells 4 1 ((a.ac++[e]).map AF)),(4,.sld 3 (sI (l1++(v,xs.set 0 (l1++(h,xs)::l2).length)::(l2++[(A,xs)]))))] [0,1,2,3,4] (rl f rfl) (by (simp[cX,zC,f,cN,AZ,BC])) ?_;(try dsimp only[cA,cB]);refine Ak.AB [1,2,3,4] [(4,.o (.ip (AL ⟨a.al,(l1++(v,xs.set 0 (l1++(h,xs)::l2).length)::(l2++[(A,xs)])).map (·.2),a.ac++[e]⟩)))] ⟨⟨_,rfl,.inr (.o (.box rfl (.cons .d (.cons (.MU (s:=4) rfl rfl) (.cons (.full rfl (by simp[d5]) (by simp)) .nil)))))⟩,trivial⟩ ?_;refine aR ⟨_,rfl,[0],AX ⟨a.al,(l1++(v,xs.set 0 (l1++(h,xs)::l2).length)::(l2++[(A,xs)])).map (·.2),a.ac++[e]⟩,[(0,Bt b (p+1+1))],⟨by intro i hi;match i with|0=>rfl,by decide⟩,rfl,by (simp[cX,zC,f,cN]),_,⟨a.al,(l1++(v,xs.set 0 (l1++(h,xs)::l2).length)::(l2++[(A,xs)])).map (·.2),a.ac++[e]⟩,by omega,⟨rfl,KQ (by simp at u |-;omega) (by first|omega|(simp;omega)) (N) (by have K:xs.length<=m:=q;simp;omega)⟩,rfl,rfl,rfl⟩
   ·apply aK
    refine Ak.Az [4,5] [] rfl rfl [] [(0,Bt b (p+1+1)),(1,.cells 29 3 [[.d (iD 0),.d (.l []),.d (.l [])]]),(2,.cells 53 1 (Ay l1++[.arr 6 1 0 (xs).length]::Ay (l2))),(3,.cells 4 1 ((a.ac).map AF)),(4,.sld 3 (sI (l1++l2))),(5,.cells 29 3 [[.d (iD a.al),.arr 2 1 0 (l1++(h,xs)::l2).length,.arr 3 1 0 (a.ac).length]]),(6,.cells 3 1 ((xs).map AE))] [0,1,2,3,4,5,6] (rl f rfl) (by (simp[cX,zC,f,cN,AZ])) ?_;(try dsimp only[cA,cB]);refine Ak.put 2 6 4 (Ay l1) (Ay (l2)) (xs) l1 (l2) rfl rfl rfl λv=>?_;(repeat first|refine tA rfl ?_|refine aU rfl ?_|apply Aa);refine Ak.Az [4] [] rfl rfl [] [(0,Bt b (p+1+1)),(1,.cells 29 3 [[.d (iD a.al),.arr 2 1 0 (l1++(v,xs)::l2).length,.arr 3 1 0 (a.ac).length]]),(2,.cells 53 1 (Ay (l1++(v,xs)::l2))),(3,.cells 4 1 ((a.ac).map AF)),(4,.sld 3 (sI (l1++(v,xs)::l2)))] [0,1,2,3,4] (rl f rfl) (by (simp[cX,zC,f,cN,AZ,BC])) ?_;(try dsimp only[cA,cB]);refine Ak.AB [1,2,3,4] [(4,.o (.ip (AL ⟨a.al,(l1++(v,xs)::l2).map (·.2),a.ac⟩)))] ⟨⟨_,rfl,.inr (.o (.box rfl (.cons .d (.cons (.MU (s:=4) rfl rfl) (.cons (.full rfl (by simp[d5]) (by simp)) .nil)))))⟩,trivial⟩ ?_;refine aR ⟨_,rfl,[0],AX ⟨a.al,(l1++(v,xs)::l2).map (·.2),a.ac⟩,[(0,Bt b (p+1+1))],⟨by intro i hi;match i with|0=>rfl,by decide⟩,rfl,by (simp[cX,zC,f,cN]),_,⟨a.al,(l1++(v,xs)::l2).map (·.2),a.ac⟩,by omega,⟨rfl,KQ (by simp at u |-;omega) (by first|omega|(simp;omega)) (n) (by have K:xs.length<=m:=q;simp;omega)⟩,rfl,rfl,rfl⟩
end Go.Am
namespace Go.Am
open Go
theorem HD{g g':Gr}(d:Jc g)(c:g.ls=g'.ls)(e:∀x:Int,0<=x/\x<g.N->∀l∈g.ls,g.succ x l=g'.succ x l):∀ {w:List Int} {a x:Int},over g w->(0<=a/\a<g.N)->(reach g w a x↔reach g' w a x)
 | [],a,x,_,_=>Iff.rfl
 | l :: w,a,x,f,ha=>by
  have j:=f l (by simp);simp only[reach,<-e a ha l j];constructor
  ·rintro⟨y,b,h⟩
   exact⟨y,b,(HD d c e (λm i=>f m (by simp[i])) (d.inn a ha l j y b)).1 h⟩
  ·rintro⟨y,b,h⟩
   exact⟨y,b,(HD d c e (λm i=>f m (by simp[i])) (d.inn a ha l j y b)).2 h⟩
theorem CC.congr{g g':Gr}(c:Jc g)(d:g.ls=g'.ls)(q:g.s0=g'.s0)(m:∀x:Int,0<=x/\x<g.N->∀l∈g.ls,g.succ x l=g'.succ x l)(i:∀x:Int,0<=x/\x<g.N->g.goal x=g'.goal x){r:Option (List Int)}(h:CC g r):CC g' r:=by
 have b:∀w,over g' w↔over g w:=λw=>by unfold over;rw[d]
 have k:∀w,over g w->(Tq g' w↔Tq g w):=λw j=>by
  unfold Tq;rw[<-q];constructor
  ·rintro⟨x,a,e⟩
   have a:=(HD c d m j c.s0).2 a;exact⟨x,a,by rw[i x (DQ c j c.s0 a)];exact e⟩
  ·rintro⟨x,a,e⟩
   exact⟨x,(HD c d m j c.s0).1 a,by rw[<-i x (DQ c j c.s0 a)];exact e⟩
 cases r with
 | none=>exact λu f a=>h u ((b u).1 f) ((k u ((b u).1 f)).1 a)
 | some w=>
  obtain⟨n,p,o⟩:=h;exact⟨(b w).2 n,(k w n).2 p,λu f a=>o u ((b u).1 f) ((k u ((b u).1 f)).1 a)⟩
theorem dY{zs ws:List Int}{cs ds:List (List Int)}(h:FM zs cs):EC (zs++ws) (cs++ds)=(EC zs cs).flatMap λo=>(EC ws ds).map λr=>o*Aw ws+r:=by
 induction h with
 | nil=>simp[EC]
 | @cons z c zs cs _ _ _ a=>
  simp only[qI,EC,a];rw[List.flatMap_assoc];congr 1;funext q;rw[List.map_flatMap,List.flatMap_map];congr 1;funext o;rw[qt];congr 1;funext r;simp only[d5,NC];rw[rI,rn];omega
theorem VZ(l:List Sys)(aus:List AV)(st:List Int)(ls kd gl:Int):Ag ⟨l,aus,st,ls,kd,gl⟩=l.map (·.st)++aus.map (λa=>(a.nx.length:Int)):=rfl
theorem Mo{l:List Sys}{aus:List AV}{st:List Int}{ls kd gl:Int}(b:Ea ⟨l,aus,st,ls,kd,gl⟩){node letter:Int}(f:0<=letter)(d:letter<6) :
 Fy ⟨l,aus,st,ls,kd,gl⟩ (Ag ⟨l,aus,st,ls,kd,gl⟩) (BH (Ag ⟨l,aus,st,ls,kd,gl⟩) node) letter =
  (EC (l.map (·.st)) (aA l (node / Aw (aus.map λa=>(a.nx.length:Int))) letter)).flatMap λo=>(EC (aus.map λa=>(a.nx.length:Int)) (aus.zipWith (λa q=>[BS a q.toNat letter]) (BH (aus.map λa=>(a.nx.length:Int)) node))).map λr=>o*Aw (aus.map λa=>(a.nx.length:Int))+r:=by
 have h:∀w∈aus.map (λa=>(a.nx.length:Int)),0<w:=λw g=>by
  obtain⟨a,ha,rfl⟩:=d8.1 g;have:=AP (b.au a ha);omega
 unfold Fy;rw[Sg (Iw b (LO b node) f d),VZ,Ps _ _ _ h];have c:=Th b.ps b.np f d (node / Aw (aus.map λa=>(a.nx.length:Int)))
 have e:KR ⟨l,aus,st,ls,kd,gl⟩ (BH (l.map (·.st)) (node / Aw (aus.map λa=>(a.nx.length:Int)))++BH (aus.map λa=>(a.nx.length:Int)) node) letter=aA l (node / Aw (aus.map λa=>(a.nx.length:Int))) letter++aus.zipWith (λa q=>[BS a q.toNat letter]) (BH (aus.map λa=>(a.nx.length:Int)) node):=by
  unfold KR aA
  have i:(BH (l.map (·.st)) (node / Aw (aus.map λa=>(a.nx.length:Int)))).length=l.length:=by rw[LN];simp
  simp only;rw[List.drop_append_of_le_length (by omega),qK (by omega),sj];congr 1;rw[GC,List.take_append_of_le_length (by omega),ge (by omega)]
 rw[e,dY c]
theorem Ng:∀(zs:List Int) (k:Nat),DH zs (List.replicate k 0) 0=0
 | [],k=>by simp[DH]
 | z::zs,0=>by simp[DH]
 | z::zs,k+1=>by
  rw[sg];simp only[DH,Int.zero_mul,Int.add_zero];exact Ng zs k
theorem UZ{a:Int}(ha:Bb a=true):GY .i64 0 a=a/\GY .i64 a 0=a:=by
 unfold Bb at ha;simp only[decide_eq_true_eq]at ha;have d:=LX (a:=0) (b:=a.toNat) (by omega) (by omega);have c:=LX (a:=a.toNat) (b:=0) (by omega) (by omega)
 have e:((a.toNat:Nat):Int)=a:=by omega
 rw[e]at d c;have f:(((0:Nat)):Int)=0:=rfl;rw[f]at d c;rw[Nat.zero_or]at d;rw[Nat.or_zero]at c;exact⟨by rw[d.1];exact e,by rw[c.1];exact e⟩
theorem XM{l:List Sys}(h:Bc l=true):Bb (BD l)=true:=by
 unfold BD;rw[if_pos h];unfold Bc at h;rw[d4]at h;exact JG h.2 rfl
theorem eD{s:Sys}{a p:AV}(h:DC s a p=true):Dh (gI [s] a p (Ac (GY .i64 (BD [s]) a.al)))=Dh (EN (ED s a p)):=by
 obtain⟨j,hk,d⟩:=OS h;have c:=h;unfold DC at c;simp only[d4]at c;obtain⟨⟨i,ha⟩,n⟩:=c;have q:=Cs ha;have m:=Cs n
 have b:BD [s]=s.al:=by
  have:Bc [s]=true:=by simp[Bc,i]
  unfold BD;rw[if_pos this];exact(UZ (AU i).1).1
 refine Uy (CC.congr (PA j d) ?_ ?_ (λx k l f=>?_) (λx k=>?_) (C8 _))
 ·show Ac (GY .i64 s.al a.al)=Ac (GY .i64 (BD [s]) a.al)
  rw[b]
 ·exact Ng (Ag (ED s a p)) 3
 ·have f:=Ai (show l∈AM (GY .i64 s.al a.al) 6 from f)
  show Fy (ED s a p) (Ag (ED s a p)) (BH (Ag (ED s a p)) x) l=JO [s] a p x l
  have e:=Mo (l:=[s]) (aus:=[a,p]) (st:=[0,0,0]) (ls:=GY .i64 s.al a.al) (kd:=2) (gl:=0) j (node:=x) f.1 (by omega);refine Eq.trans e ?_;unfold JO Gf;simp only[qz,tw,Aw,Int.mul_one,BH,List.zipWith_cons_cons,List.zipWith_nil_left,EC,rX,List.flatMap_nil,pX,Int.ediv_one,Int.add_zero]
  have g:x / p.nx.length / a.nx.length=x / (a.nx.length*p.nx.length):=by rw[rR (by omega),rN]
  rw[g,List.map_eq_flatMap];congr 1;funext o;rw[rn]
 ·show CP (ED s a p) (BH (Ag (ED s a p)) x) (Fz (ED s a p) x.toNat)=N7 a p x
  unfold CP bG N7;simp[ED,Ag,BH,Aw,List.getD]
theorem ez{l:List Sys}{p:AV}(h:(Bc l && AT p)=true):Dh (gI l Ox p (Ac (GY .i64 (BD l) Ox.al)))=Dh (EN (C0 l p)):=by
 obtain⟨g,hk,c⟩:=OR h;rw[d4]at h;obtain⟨s,r⟩:=h;have n:=Cs r;refine Uy (CC.congr (PA g c) ?_ ?_ (λx j m d=>?_) (λx j=>?_) (C8 _))
 ·show Ac (BD l)=Ac (GY .i64 (BD l) 0)
  rw[(UZ (XM s)).2]
 ·exact Ng (Ag (C0 l p)) (l.length+1)
 ·have d:=Ai (show m∈AM (BD l) 6 from d)
  show Fy (C0 l p) (Ag (C0 l p)) (BH (Ag (C0 l p)) x) m=JO l Ox p x m
  have e:=Mo (l:=l) (aus:=[p]) (st:=List.replicate (l.length+1) 0) (ls:=BD l) (kd:=3) (gl:=0) g (node:=x) d.1 (by omega);refine Eq.trans e ?_
  have f:∀q:Nat,BS Ox q m=q:=λq=>by
   have:A6 0 m.toNat=false:=by
    have v:m=0\/m=1\/m=2\/m=3\/m=4\/m=5:=by omega
    rcases v with rfl|rfl|rfl|rfl|rfl|rfl<;>decide
   unfold BS;rw[if_neg]
   show ¬A6 0 m.toNat=true
   rw[this];simp
  have b:((Ox.nx.length:Nat):Int)=1:=rfl;unfold JO Gf;rw[f,b];simp only[qz,tw,Aw,Int.mul_one,BH,List.zipWith_cons_cons,List.zipWith_nil_left,EC,rX,List.flatMap_nil,pX,Int.ediv_one,Int.add_zero,Int.emod_one];generalize EC (l.map (·.st)) (aA l (x / p.nx.length) m)=LL;rw[List.map_eq_flatMap];congr 1;funext o;simp
 ·show CP (C0 l p) (BH (Ag (C0 l p)) x) (Fz (C0 l p) x.toNat)=N7 Ox p x
  have b:((Ox.nx.length:Nat):Int)=1:=rfl;have u:=Ps (l.map (·.st)) [(p.nx.length:Int)] x (by intro w k;simp at k;omega);have i:Ag (C0 l p)=l.map (·.st)++[(p.nx.length:Int)]:=rfl
  have a:(BH (l.map (·.st)) (x / Aw [(p.nx.length:Int)])).length=l.length:=by rw[LN];simp
  rw[i,u];generalize BH (l.map (·.st)) (x / Aw [(p.nx.length:Int)])=dd at a
  have t:(dd++BH [(p.nx.length:Int)] x).getD (l.length+0) 0=x%p.nx.length:=by
   rw[List.getD,r6,f7 (by omega),a];simp[BH,Aw]
  unfold CP bG N7;rw[b];have A:(C0 l p).kd=3:=rfl;have z:(C0 l p).ps=l:=rfl;have y:(C0 l p).au=[p]:=rfl;rw[A,z,y,t];simp[Ox,List.getD]
theorem LV{a b:Nat}(ha:a<2 ^ 62)(hb:b<2 ^ 62):Gn .i64 a b=((a &&& b:Nat):Int):=by
 have d:a &&& b<=a:=sZ;unfold Gn
 have c:(BitVec.ofInt IntKind.i64.bits (a:Int) &&& BitVec.ofInt IntKind.i64.bits (b:Int)).toNat=a &&& b:=by
  have e:IntKind.i64.bits=64:=rfl;rw[e];simp only[BitVec.toNat_and,BitVec.ofInt_natCast,BitVec.toNat_ofNat];rw[pU (by omega),pU (by omega)]
 rw[c];exact IntWalk.i64_in _ (by omega)
theorem dE(s n:Nat):((s:Nat):Int).fdiv (2 ^ n)=((s / 2 ^ n:Nat):Int):=by
 have h:(0:Int)<=2 ^ n:=Int.le_of_lt (Int.pow_pos (by omega));rw[Int.fdiv_eq_ediv_of_nonneg _ h]
 push_cast
 rfl
theorem Dq{s n:Nat}(d:s<2 ^ 62)(f:n<64):A6 (s:Nat) n=s.testBit n:=by
 unfold A6
 have e:min n 64=n:=by omega
 rw[e,dE];have g:s / 2 ^ n<=s:=Nat.div_le_self _ _;have c:=LV (a:=s / 2 ^ n) (b:=1) (by omega) (by omega);rw[show ((1:Nat):Int)=1 from rfl]at c;rw[c,sO,Nat.and_one_is_mod];congr 1;rw[eq_iff_iff];omega
theorem iZ{s a:Nat}:s &&& a=s↔∀n,s.testBit n=true->a.testBit n=true:=by
 constructor
 ·intro h n c
  have:=congrArg (·.testBit n) h;simp only[rV,c,qc]at this;exact this
 ·intro h
  apply qQ;intro n;rw[rV];cases b:s.testBit n
  ·rfl
  ·rw[h n b];rfl
abbrev Wd:=List UInt8
def Gx(c:UInt8):Bool:=decide (97<=c.toNat/\c.toNat<103)
def EJ(w:Wd):Bool:=decide (w.length<=50000) && w.all Gx
def Lp(w:Wd):Nat:=w.foldl (λs c=>s ||| 2 ^ (c.toNat-97)) 0
def IF(al:Int)(c:UInt8):Bool:=Gx c && A6 al (c.toNat-97)
def within(w:Wd)(al:Int):Bool:=decide (w.length<=50000) && (Bb al && w.all (IF al))
theorem UR(n:Nat):∀(w:Wd) (s:Nat),(w.foldl (λs c=>s ||| 2 ^ (c.toNat-97)) s).testBit n=(s.testBit n || w.any λc=>decide (c.toNat-97=n))
 | [],s=>by simp
 | c::w,s=>by
  rw[qE,UR n w,qP,qV,List.any_cons,Bool.or_assoc]
theorem VW(w:Wd)(n:Nat):(Lp w).testBit n=w.any λc=>decide (c.toNat-97=n):=by
 unfold Lp;rw[UR];simp
theorem Uc:∀ {w:Wd} {s:Nat},w.all Gx=true->s<64->w.foldl (λs c=>s ||| 2 ^ (c.toNat-97)) s<64
 | [],s,_,a=>a
 | c::w,s,h,a=>by
  simp only[List.all_cons,d4]at h;rw[qE];refine Uc h.2 ?_;have b:=h.1;unfold Gx at b;simp only[decide_eq_true_eq]at b;have d:2 ^ (c.toNat-97)<2 ^ 6:=rF (by omega) (by omega);exact rm (n:=6) a d
theorem iS{w:Wd}{al:Int}(f:w.all Gx=true)(ha:Bb al=true):decide (Gn .i64 (Lp w:Nat) al=(Lp w:Nat))=w.all (IF al):=by
 have k:Lp w<64:=Uc f (by omega);unfold Bb at ha;simp only[decide_eq_true_eq]at ha
 obtain⟨a,rfl⟩:∃a:Nat,al=a:=⟨al.toNat,by omega⟩
 rw[LV (by omega) (by omega)];rw[qU,decide_eq_true_eq,gc]
 have j:((Lp w &&& a:Nat):Int)=(Lp w:Nat)↔Lp w &&& a=Lp w:=by omega
 rw[j,iZ];rw[gc]at f;constructor
 ·intro h c e
  have b:=f c e;unfold IF;rw[b,qc];unfold Gx at b;simp only[decide_eq_true_eq]at b;rw[Dq (by omega) (by omega)];refine h _ ?_;rw[VW,rt];exact⟨c,e,by simp⟩
 ·intro h n i
  rw[VW,rt]at i;obtain⟨c,e,d⟩:=i;simp only[decide_eq_true_eq]at d;have b:=f c e;have g:=h c e;unfold IF at g;rw[b,qc]at g;unfold Gx at b;simp only[decide_eq_true_eq]at b;rw[Dq (by omega) (by omega),d]at g;exact g
theorem YE{w:Wd}{al:Int}(h:w.all (IF al)=true):w.all Gx=true:=by
 rw[gc] at *;intro c a;have:=h c a;unfold IF at this;simp only[d4]at this;exact this.1
end Go.Am
namespace Go.Am
open Go Go.Proofs
set_option maxHeartbeats 1000000
set_option maxRecDepth 4000
attribute [local irreducible] A9 CY Lex BV Ak Spec
variable {TB:BR}
theorem DA[Dp TB](l:List Sys)(p:AV):Pure Tryz.prog TB 125 [GU l,AX p] (KS (BO l p)):=by
 by_cases c:(Bc l && AT p)=true
 ·have b:BO l p=Dh (EN (C0 l p)):=by unfold BO;rw[if_pos c]
  rw[b,<-ez c];rw[d4]at c;have e:=OA (TB:=TB) l p c.1 c.2;refine eN Tryz.func125 rfl (by kernel_rfl) rfl ?_;intro Z d;(repeat' first|refine tA rfl ?_|refine s2 rfl λ_ a=>?_|(refine sC rfl (Jo l) ?_;intro _ a)|(refine sC rfl (Bj p) ?_;intro _ a)|refine sP rfl (e) rfl ?_|refine s3 rfl ?_ ?_<;>rintro rfl|refine aU rfl ?_|apply Aa|(refine aC rfl ?_ ?_<;>rintro⟨⟩)|apply aK|apply aE|apply aB|refine aR ⟨_,rfl,?_⟩)
  all_goals first
   | rfl
   | (exfalso;grind;done)
 ·have b:BO l p=none:=by unfold BO;rw[if_neg c]
  rw[b];refine eN Tryz.func125 rfl (by kernel_rfl) rfl ?_;intro Z d;(repeat' first|refine tA rfl ?_|refine s2 rfl λ_ a=>?_|(refine sC rfl (Jo l) ?_;intro _ a)|(refine sC rfl (Bj p) ?_;intro _ a)|refine s3 rfl ?_ ?_<;>rintro rfl|refine aU rfl ?_|apply Aa|(refine aC rfl ?_ ?_<;>rintro⟨⟩)|apply aK|apply aE|apply aB|refine aR ⟨_,rfl,?_⟩)
  all_goals first
   | rfl
   | (exfalso;grind;done)
theorem Fp[Dp TB](s:Sys)(a p:AV):Pure Tryz.prog TB 122 [Bl s,AX a,AX p] (KS (Ec s a p)):=by
 by_cases c:DC s a p=true
 ·have d:Ec s a p=Dh (EN (ED s a p)):=by unfold Ec;rw[if_pos c]
  rw[d,<-eD c];unfold DC at c;simp only[d4]at c;have f:=Py (TB:=TB) [s] a p (by simp[Bc,c.1.1]) c.1.2 c.2;refine eN Tryz.func122 rfl (by kernel_rfl) rfl ?_;intro Z e;(repeat' first|refine tA rfl ?_|refine s2 rfl λ_ b=>?_|(refine sC rfl (Cg s) ?_;intro _ b)|(refine sC rfl (Bj a) ?_;intro _ b)|(refine sC rfl (Bj p) ?_;intro _ b)|refine sP rfl (f) rfl ?_|refine s3 rfl ?_ ?_<;>rintro rfl|refine aU rfl ?_|apply Aa|(refine aC rfl ?_ ?_<;>rintro⟨⟩)|apply aK|apply aE|apply aB|refine aR ⟨_,rfl,?_⟩)
  all_goals first
   | rfl
   | (exfalso;grind;done)
 ·have d:Ec s a p=none:=by unfold Ec;rw[if_neg c]
  rw[d];refine eN Tryz.func122 rfl (by kernel_rfl) rfl ?_;intro Z e;(repeat' first|refine tA rfl ?_|refine s2 rfl λ_ b=>?_|(refine sC rfl (Cg s) ?_;intro _ b)|(refine sC rfl (Bj a) ?_;intro _ b)|(refine sC rfl (Bj p) ?_;intro _ b)|refine s3 rfl ?_ ?_<;>rintro rfl|refine aU rfl ?_|apply Aa|(refine aC rfl ?_ ?_<;>rintro⟨⟩)|apply aK|apply aE|apply aB|refine aR ⟨_,rfl,?_⟩)
  all_goals first
   | rfl
   | (exfalso;unfold DC at c;grind;done)
theorem G0(s:Sys)(p:AV)(t:Sys):Pure Tryz.prog TB 17 [Bl s,AX p,Bl t] (eI .i64 (AQ s p t)):=by
 refine eN Tryz.func17 rfl (by kernel_rfl) rfl ?_;intro Z b;(repeat' first|refine tA rfl ?_|refine s2 rfl λ_ a=>?_|(refine sC rfl (Cg s) ?_;intro _ a)|(refine sC rfl (Bj p) ?_;intro _ a)|(refine sC rfl (Cg t) ?_;intro _ a)|refine s3 rfl ?_ ?_<;>rintro rfl|refine aU rfl ?_|apply Aa|(refine aC rfl ?_ ?_<;>rintro⟨⟩)|apply aK|apply aE|apply aB|refine aR ⟨_,rfl,?_⟩)
 all_goals (show E.o _=E.o _;congr;unfold AQ;grind)
abbrev Ww(t:A3):List D:=[BX t.rows,BX t.cols]
abbrev DU(t:A3):E:=.a [.d (BX t.rows),.d (BX t.cols)]
abbrev Iz(al:Int)(c:C):E:=.a [.d (iD al),c]
mutual
theorem Eu:∀(c:C),c.BT=true->∀r,c.Bd r=c
 | .d x,_,r=>rfl
 | .fn g cap,h,r=>by
  simp only[C.BT]at h;simp only[C.Bd,Qh cap h r]
 | .arr ..,h,_=>by cases h
 | .ptr ..,h,_=>by cases h
 | .mp ..,h,_=>by cases h
 | .mv g l,h,r=>by
  simp only[C.BT]at h;simp only[C.Bd,Qh l h r]
theorem Qh:∀(l:List C),C.C1 l=true->∀r,C.Cp r l=l
 | [],_,r=>rfl
 | c::l,h,r=>by
  simp only[C.C1,d4]at h;simp only[C.Cp,Eu c h.1 r,Qh l h.2 r]
end
structure Jj (P:Program) (TB:BR) (c:C) (L:W->Bool) (ok:W->Prop):Prop where
 BT:c.BT=true
 ask:∀ {Z:Ctx} {d:Option Tmp} {ty:TypeId} {pos:String} {af:Array Edge} {g:Option (Nat×Bool)} {f:Env} {σ:Ab} {nx:Nat} {x a:Operand} {tys:Array TypeId} {w:W},
  ev f x=some (.o c)->ev f a=some (eT w)->ok w->A9 P TB Z ⟨d,.call ⟨.value x,#[a],tys⟩,ty,pos,af,g⟩ f σ nx (eB (L w))
def Vx(L:W->Bool)(cols:List W)(w:W)(k:Nat)(i:Nat):UInt8:=if i<k then Si (L (w++cols.getD i [])) else 0
theorem XH(L:W->Bool)(cols:List W)(w:W):(BK cols.length λi=>FP (Vx L cols w cols.length i))=(marks L cols w).map FP:=by
 apply qy;intro i;by_cases h:i<cols.length
 ·rw[DY h]
  simp[marks,Vx,h]
 ·rw[ol (by simp[BK];omega),ol (by simp[marks];omega)]
theorem nR:FP 0=[C.d (D.v (Value.int IntKind.u8 0))]:=rfl
theorem mh(L:W->Bool)(cols:List W)(w:W)(n:Nat):(BK n λi=>FP (Vx L cols w 0 i))=List.replicate n (FP 0):=by
 apply qy;intro i;by_cases h:i<n
 ·rw[DY h];simp[Vx,h]
 ·rw[ol (by simp[BK];omega),ol (by simp;omega)]
theorem ed{L:W->Bool}{cols:List W}{w x:W}{k:Nat}(b:cols[k]?=some x):(BK cols.length λi=>FP (if i=k then Si (L (w++x)) else Vx L cols w k i))=BK cols.length λi=>FP (Vx L cols w (k+1) i):=by
 refine Di λi _=>?_;congr 1;unfold Vx;by_cases h:i=k
 ·subst h
  rw[if_pos rfl,if_pos (by omega)];simp[b]
 ·rw[if_neg h]
  by_cases a:i<k
  ·rw[if_pos a,if_pos (by omega)]
  ·rw[if_neg a,if_neg (by omega)]
theorem Mc{c:C}{L:W->Bool}{ok:W->Prop}(B:Jj Tryz.prog TB c L ok)(al:Int)(t:A3)(w:W)(I:t.cols.length<=1048576)(hk:∀x∈t.cols,ok (w++x))(hb:∀x∈t.cols,w.length+x.length<=1048576) :
 Pure Tryz.prog TB 150 [Iz al c,DU t,eT w] (eT (marks L t.cols w)):=by
 have y:=Eu c B.BT;refine eN Tryz.func150 rfl (by kernel_rfl) rfl ?_;intro Z b;(repeat first|refine aU rfl ?_);(refine pW rfl ?_ rfl (by rfl);refine C4 rfl rfl ?_);(refine Af rfl ?_;refine CG (λ_ _=>De rfl rfl rfl) rfl ?_);(repeat first|refine sN rfl ?_|refine tM rfl ?_|refine aU rfl ?_|apply Aa);(refine pW rfl ?_ rfl (by rfl);refine Li rfl rfl (by rfl) (by rfl) (am rfl) (by omega) (by omega) (by omega) ?_);(repeat first|refine sN rfl ?_|refine tM rfl ?_|refine aU rfl ?_|apply Aa);apply aB;refine Ak.A5 (α:={k:Nat // k<=t.cols.length}) (λ⟨k,j⟩=>[(2,eT w),(3,.o (.ptr 0 2 0 0)),(7,.o (.arr 1 1 0 t.cols.length)),(15,.o (.d (BX t.cols))),(16,eI .i64 t.cols.length),(17,eI .i64 k)]) (λ⟨k,j⟩=>[(1,.cells 5 1 (BK t.cols.length λi=>FP (Vx L t.cols w k i))),(0,.cells 90 2 [[.d (iD al),c]])]) 2 (λ⟨k,j⟩=>t.cols.length-k) (⟨0,by omega⟩) [0,1] (Ei b rfl rfl) (by (simp[cX,zC,b,NG,y,mh,eC,Ge,nR])) ?_;rintro⟨k,j⟩;(try dsimp only);(repeat first|refine s2 rfl λ_ r=>?_|refine aU rfl ?_|apply Aa);(refine aC rfl ?_ ?_<;>rintro⟨⟩)
 ·have f:k<t.cols.length:=by (simp only[oZ] at *;omega)
  obtain⟨x,u⟩:=get_some (l:=t.cols) (k:=k) f;have G:=get_map (g:=CR) u;have s:=co u;have F:=hb x s;have z:=hk x s;have J:=LR (H:=Vx L t.cols w k) (q:=k) (n:=t.cols.length) f;have e:(BK t.cols.length λi=>FP (Vx L t.cols w k i)).set (0+((k:Nat):Int).toNat) (Ae (FP (Vx L t.cols w k k)) 0 (eC (eI .u8 45)))=BK t.cols.length λi=>FP (if i=k then 45 else Vx L t.cols w k i):=O5 (c:=45);have A:=LR (H:=λi=>if i=k then 45 else Vx L t.cols w k i) (q:=k) (n:=t.cols.length) f;rw[<-e]at A
  have v:(BK t.cols.length λi=>FP (if i=k then 45 else Vx L t.cols w k i)).set (0+((k:Nat):Int).toNat) (Ae (FP (if k=k then 45 else Vx L t.cols w k k)) 0 (eC (eI .u8 43)))=BK t.cols.length λi=>FP (if i=k then 43 else Vx L t.cols w k i):=by
   refine(O5 (H:=λi=>if i=k then 45 else Vx L t.cols w k i) (c:=43)).trans ?_;refine Di λi _=>?_;by_cases h:i=k<;>simp[h]
  have a:=ed (L:=L) (w:=w) u;apply aK;refine aS (aB ?_);(repeat first|((first|refine sM rfl ?_ ?_|refine s4 rfl ‹_› rfl ?_ ?_);first|exact tI|omega)|(refine Af rfl ?_;refine gA rfl ?_;first|(refine gB (λ_ _=>B.ask rfl rfl z) ?_;intro _ r))|refine aU rfl ?_|apply Aa);(refine aC rfl ?_ ?_<;>rintro⟨⟩)
  ·(repeat first|(refine sM rfl ?_ ?_;first|exact tI|omega)|refine t4 rfl ‹_› rfl ?_|refine aU rfl ?_|apply Aa)
   refine⟨⟨k+1,by omega⟩,by dsimp only;(omega),[0,1],?_⟩;rw[e,v];rw[r]at a;have p:Si true=43:=rfl;have m:Si false=45:=rfl;simp only[p,m]at a;simp[cX,zC,b,NG,y,a]
  ·apply aK
   (repeat first|(refine sM rfl ?_ ?_;first|exact tI|omega)|refine aU rfl ?_|apply Aa);refine⟨⟨k+1,by omega⟩,by dsimp only;(omega),[0,1],?_⟩;rw[e];rw[r]at a;have p:Si true=43:=rfl;have m:Si false=45:=rfl;simp only[p,m]at a;simp[cX,zC,b,NG,y,a]
 ·obtain rfl:k=t.cols.length:=by (simp only[oZ] at *;omega)
  rw[XH];apply aE;(repeat first|refine tM rfl ?_|(refine Af rfl ?_;refine gA rfl ?_;first|refine gQ (O2 (marks L t.cols w) rfl rfl (by simp[marks]) (by rw[qm,ge (by simp[marks])])) (by rfl) ?_)|refine aU rfl ?_|apply Aa);refine aR ⟨_,rfl,rfl⟩
def BZ(L:W->Bool)(t:A3):Nat->List (W×Int)
 | 0=>[]
 | k+1=>if (CU (BZ L t k) (marks L t.cols (t.rows.getD k []))).isSome then BZ L t k else BZ L t k++[(marks L t.cols (t.rows.getD k []),(k:Int))]
structure cJ (ok:W->Prop) (t:A3):Prop where
 ok:∀w∈t.rows,∀x∈t.cols,ok (w++x)
 rb:∀w∈t.rows,w.length<=65536
 cb:∀x∈t.cols,x.length<=65536
 rl:t.rows.length<=4096
 cl:t.cols.length<=4096
theorem HK{c:C}{L:W->Bool}{ok:W->Prop}(r:Jj Tryz.prog TB c L ok)(al:Int)(t:A3)(ht:cJ ok t) :
 Spec Tryz.prog TB 148 [] 0 [Iz al c,DU t] (λx σ nx=>x=.o (.mp 0)/\nx=1/\σ=[(0,.mp (Jf (BZ L t t.rows.length)))]):=by
 have n:=Eu c r.BT;have w:=ht.rl;refine eN Tryz.func148 rfl (by kernel_rfl) rfl ?_;intro Z b;(repeat first|refine aU rfl ?_);(refine pW rfl ?_ rfl (by rfl);refine C4 rfl rfl ?_);(refine Af rfl ?_;refine CG (λ_ _=>De rfl rfl rfl) rfl ?_);(repeat first|refine tM rfl ?_|refine aU rfl ?_|apply Aa);(refine pW rfl ?_ rfl (by rfl);refine Nv ?_);(repeat first|refine sN rfl ?_|refine tM rfl ?_|refine aU rfl ?_|apply Aa);apply aB;refine Ak.A5 (α:={k:Nat // k<=t.rows.length}) (λ⟨k,e⟩=>[(2,.o (.ptr 0 2 0 0)),(3,.o (.ip (Ww t))),(5,.o (.mp 1)),(13,.o (.d (BX t.rows))),(14,eI .i64 t.rows.length),(15,eI .i64 k)]) (λ⟨k,e⟩=>[(1,.mp (Jf (BZ L t k))),(0,.cells 90 2 [[.d (iD al),c]])]) 2 (λ⟨k,e⟩=>t.rows.length-k) (⟨0,by omega⟩) [0,1] (Ei b rfl rfl) (by (simp[cX,zC,b,n,eC,BZ,Jf])) ?_;rintro⟨k,e⟩;(try dsimp only);(repeat first|refine s2 rfl λ_ f=>?_|refine aU rfl ?_|apply Aa);(refine aC rfl ?_ ?_<;>rintro⟨⟩)
 ·have p:k<t.rows.length:=by (simp only[oZ] at *;omega)
  obtain⟨x,m⟩:=get_some (l:=t.rows) (k:=k) p;have v:=get_map (g:=CR) m;have h:=co m;have u:=ht.rb x h;have z:=Mc r al t x (by have:=ht.cl;omega) (ht.ok x h) (λy s=>by have:=ht.cb y s;omega)
  have q:t.rows.getD k []=x:=by simp[m]
  have a:BZ L t (k+1)=if (CU (BZ L t k) (marks L t.cols x)).isSome then BZ L t k else BZ L t k++[(marks L t.cols x,(k:Int))]:=by
   rw[BZ,q]
  apply aK;refine aS (aB ?_);(repeat first|refine tM rfl ?_|(refine s4 rfl ‹_› rfl ?_ ?_;omega)|refine s2 rfl λ_ f=>?_|(refine Af rfl ?_;refine gA rfl ?_;first|refine gS (λ_ _=>A8 rfl rfl (by simp[E.BT,C.C1,C.BT,r.BT]) z rfl) ?_|refine gQ (fi rfl rfl rfl) (by rfl) ?_)|refine aU rfl ?_|apply Aa);(refine aC rfl ?_ ?_<;>rintro⟨⟩)
  ·have j:CU (BZ L t k) (marks L t.cols x)=none:=by simpa using f
   rw[j]at a;(repeat first|refine tM rfl ?_|refine aU rfl ?_);(refine Af rfl ?_;refine Hh ?_ rfl (by rfl);refine mj rfl rfl rfl rfl j ?_);(repeat first|(refine sM rfl ?_ ?_;first|exact tI|omega)|refine aU rfl ?_|apply Aa);refine⟨⟨k+1,by omega⟩,by dsimp only;(omega),[0,1],?_⟩;simp[cX,zC,b,n,a]
  ·have j:(CU (BZ L t k) (marks L t.cols x)).isSome=true:=by simpa using f
   rw[if_pos j]at a;apply aK;(repeat first|(refine sM rfl ?_ ?_;first|exact tI|omega)|refine aU rfl ?_|apply Aa);refine⟨⟨k+1,by omega⟩,by dsimp only;(omega),[0,1],?_⟩;simp[cX,zC,b,n,a]
 ·obtain rfl:k=t.rows.length:=by (simp only[oZ] at *;omega)
  apply aE;(repeat first|refine tM rfl ?_|refine aU rfl ?_|apply Aa);refine Ak.names [1] [(4,.o (.mp 0))] [(0,.mp (Jf (BZ L t t.rows.length)))] (by intro i hi;rw[b]at hi;omega) (by simp) (by simp[cX,zC,b]) (by simp[cX,zC,b]) ?_;refine aR ⟨_,rfl,rfl,rfl,rfl⟩
theorem aO(l:List (W×Int))(p:W×Int)(s:W):CU (l++[p]) s=(CU l s).or (if p.1=s then some p.2 else none):=by
 unfold CU;rw[tn]
 cases h:l.find? (λp=>decide (p.1=s)) with
 | some q=>simp
 | none=>by_cases a:p.1=s<;>simp[a]
theorem Qk{L:W->Bool}{t:A3}{k:Nat}(h:k<t.rows.length):(AS L t)[k]?=some (marks L t.cols (t.rows.getD k [])):=by
 simp[AS,h]
theorem Sn(L:W->Bool)(t:A3):∀k,k<=t.rows.length->∀s,CU (BZ L t k) s=if s∈(AS L t).take k then some (((AS L t).idxOf s:Nat):Int) else none
 | 0,_,s=>by simp[BZ,CU]
 | k + 1, hk, s=>by
  have d:=Sn L t k (by omega);have f:=Qk (L:=L) (t:=t) (k:=k) (by omega);generalize marks L t.cols (t.rows.getD k [])=x at *
  have i:BZ L t (k+1)=if (CU (BZ L t k) x).isSome then BZ L t k else BZ L t k++[(x,(k:Int))]:=by
   have c:=Qk (L:=L) (t:=t) (k:=k) (by omega);rw[f]at c
   injection c with c
   rw[BZ,<-c]
  have a:∀s,s∈(AS L t).take (k+1)↔s∈(AS L t).take k\/s=x:=λs=>by
   rw[f6,f];simp
  rw[i];by_cases g:x∈(AS L t).take k
  ·rw [if_pos (by rw[d x,if_pos g];rfl),d s]
   by_cases b:s∈(AS L t).take k
   ·rw[if_pos b,if_pos ((a s).2 (.inl b))]
   ·rw[if_neg b,if_neg]
    intro h
    rcases(a s).1 h with h|h
    ·exact b h
    ·subst h;exact b g
  ·rw [if_neg (by rw[d x,if_neg g];simp),aO,d s]
   by_cases b:s∈(AS L t).take k
   ·rw[if_pos b,if_pos ((a s).2 (.inl b))];rfl
   ·rw [if_neg b]
    by_cases m:x=s
    ·subst m
     rw[if_pos ((a x).2 (.inr rfl))]
     have l:(AS L t).idxOf x=k:=by
      have n:k<(AS L t).length:=(ce.1 f).1
      have e:AS L t=(AS L t).take k++x::(AS L t).drop (k+1):=by
       rw[<-BB f,qo]
      rw[e,rZ,if_neg g,s5];simp;omega
     simp[l]
    ·have j:s∉(AS L t).take (k+1):=λh=>by
      rcases(a s).1 h with h|h
      ·exact b h
      ·exact m h.symm
     rw[if_neg j];simp[m]
theorem VF{L:W->Bool}{t:A3}{s:W}:CU (BZ L t t.rows.length) s=if s∈AS L t then some (((AS L t).idxOf s:Nat):Int) else none:=by
 have h:=Sn L t t.rows.length (i9 _) s;have e:(AS L t).take t.rows.length=AS L t:=ge (by simp[AS]);rwa[e]at h
theorem Zr{L:W->Bool}{ls:List UInt8}{t:A3}{k j:Nat}{r:W}{l:UInt8}(e:t.rows[k]?=some r)(f:ls[j]?=some l)(n:∀w∈CQ ls (t.rows.take k),marks L t.cols w∈AS L t)(m:∀x∈ls.take j,marks L t.cols (r++[x])∈AS L t)
 (i:marks L t.cols (r++[l])∉AS L t):Bk L ls t=some (r++[l]):=by
 have q:t.rows=t.rows.take k++r::t.rows.drop (k+1):=by
  rw[<-BB e,qo]
 have p:ls=ls.take j++l::ls.drop (j+1):=by
  rw[<-BB f,qo]
 have o:CQ ls t.rows=CQ ls (t.rows.take k)++((ls.take j).map (λx=>r++[x])++(r++[l])::((ls.drop (j+1)).map (λx=>r++[x])++CQ ls (t.rows.drop (k+1)))):=by
  have h:CQ ls t.rows=CQ ls (t.rows.take k++r::t.rows.drop (k+1)):=congrArg _ q;rw[h];unfold CQ;rw[List.flatMap_append,rX];have g:ls.map (λx=>r++[x])=(ls.take j++l::ls.drop (j+1)).map (λx=>r++[x]):=congrArg _ p;rw[g];simp
 unfold Bk;rw[o,tn,tn]
 have c:(CQ ls (t.rows.take k)).find? (λw=>!(AS L t).contains (marks L t.cols w))=none:=ry.2 λw a=>by simpa using n w a
 have b:((ls.take j).map (λx=>r++[x])).find? (λw=>!(AS L t).contains (marks L t.cols w))=none:=ry.2 λw a=>by
  obtain⟨x,d,rfl⟩:=d8.1 a
  simpa using m x d
 rw[c,b];simp[i]
def lb(l:Int):UInt8:=UInt8.ofNat (97+l.toNat)
def A2(al:Int):List UInt8:=(Ac al).map lb
def aD(o:Option W):E:=match o with
 | some w=>.t [(false,[.d (tD w)]),(false,[.d (bD true)])]
 | none=>.t [(false,[.d (tD [])]),(false,[.d (bD false)])]
theorem dW{l:Int}(a:0<=l):UInt8.ofNat (97+l).toNat=lb l:=by
 unfold lb;congr 1;omega
theorem UQ{L:W->Bool}{t:A3}{s:W}:(CU (BZ L t t.rows.length) s).isSome=true↔s∈AS L t:=by
 rw[VF];by_cases h:s∈AS L t<;>simp[h]
theorem PV{ls:List UInt8}{t:A3}{k:Nat}{r:W}(h:t.rows[k]?=some r):CQ ls (t.rows.take (k+1))=CQ ls (t.rows.take k)++ls.map λl=>r++[l]:=by
 unfold CQ;rw[f6,h];simp
theorem Tm{c:C}{L:W->Bool}{ok:W->Prop}(G:Jj Tryz.prog TB c L ok)(al:Int)(t:A3)(ht:cJ ok t)(T:∀w∈t.rows,∀l∈A2 al,∀x∈t.cols,ok (w++[l]++x)) :
 Pure Tryz.prog TB 149 [Iz al c,DU t] (aD (Bk L (A2 al) t)):=by
 have v:=Eu c G.BT;have S:=ht.rl;have V:(Ac al).length<=6:=AH al 6;refine eN Tryz.func149 rfl (by kernel_rfl) rfl ?_;intro Z b;(repeat first|refine aU rfl ?_);(refine pW rfl ?_ rfl (by rfl);refine C4 rfl rfl ?_);(refine Af rfl ?_;refine CG (λ_ _=>De rfl rfl rfl) rfl ?_);(repeat first|refine tM rfl ?_|refine aU rfl ?_|apply Aa);(refine pW rfl ?_ rfl (by rfl);refine Aj [] rfl rfl (HK G al t ht) ⟨rfl,by simp,by simp⟩ (by simp[EU,E.Bd,C.Cp,C.Bd,v,eC]) trivial ?_;rintro Y M N ⟨rfl,rfl,rfl⟩ _);(repeat first|refine sN rfl ?_|refine tM rfl ?_|refine aU rfl ?_|apply Aa);apply aB;refine Ak.A5 (α:={k:Nat // k<=t.rows.length/\∀w∈CQ (A2 al) (t.rows.take k),marks L t.cols w∈AS L t}) (λ⟨k,p,e⟩=>[(2,.o (.ptr 0 2 0 0)),(3,.o (.ip (Ww t))),(6,.o (.mp 1)),(18,.o (.d (BX t.rows))),(19,eI .i64 t.rows.length),(20,eI .i64 k)]) (λ⟨k,p,e⟩=>[(1,.mp (Jf (BZ L t t.rows.length))),(0,.cells 90 2 [[.d (iD al),c]])]) 2 (λ⟨k,p,e⟩=>t.rows.length-k) (⟨0,by omega,by simp[CQ]⟩) [0,1] (Ei b rfl rfl) (by (simp[cX,zC,b,v,eC,Ab.Bd,Ce,I8])) ?_;rintro⟨k,p,e⟩;(try dsimp only);(repeat first|refine s2 rfl λ_ i=>?_|refine aU rfl ?_|apply Aa);(refine aC rfl ?_ ?_<;>rintro⟨⟩)
 ·have I:k<t.rows.length:=by (simp only[oZ] at *;omega)
  obtain⟨r,a⟩:=get_some (l:=t.rows) (k:=k) I;have R:=get_map (g:=CR) a;have u:=co a;have Q:=ht.rb r u;apply aK;refine aS (aB ?_);(repeat first|refine sN rfl ?_|refine tM rfl ?_|(refine s4 rfl ‹_› rfl ?_ ?_;omega)|refine sP rfl (Cn al) rfl ?_|refine aU rfl ?_|apply Aa);apply aB;refine Ak.A5 (α:={j:Nat // j<=(Ac al).length/\∀x∈(A2 al).take j,marks L t.cols (r++[x])∈AS L t}) (λ⟨j,q,f⟩=>[(2,.o (.ptr 0 2 0 0)),(3,.o (.ip (Ww t))),(6,.o (.mp 1)),(18,.o (.d (BX t.rows))),(19,eI .i64 t.rows.length),(20,eI .i64 k),(8,eT r),(26,Al (Ac al)),(27,eI .i64 (Ac al).length),(28,eI .i64 j)]) (λ⟨j,q,f⟩=>[(1,.mp (Jf (BZ L t t.rows.length))),(0,.cells 90 2 [[.d (iD al),c]])]) 2 (λ⟨j,q,f⟩=>(Ac al).length-j) (⟨0,by omega,by simp⟩) [0,1] (Ei b rfl rfl) (by (simp[cX,zC,b,v])) ?_;rintro⟨j,q,f⟩;(try dsimp only);(repeat first|refine s2 rfl λ_ i=>?_|refine aU rfl ?_|apply Aa);(refine aC rfl ?_ ?_<;>rintro⟨⟩)
  ·have B:j<(Ac al).length:=by (simp only[oZ] at *;omega)
   obtain⟨l,K⟩:=get_some (l:=Ac al) (k:=j) B;have X:=get_map (g:=Bw) K;have z:=Ai (co K)
   have n:(A2 al)[j]?=some (lb l):=by simp[A2,K]
   have J:=co n;have U:=Mc G al t (r++[lb l]) (by have:=ht.cl;omega) (λx a=>T r u _ J x a) (λy P=>by have:=ht.cb y P;simp;omega);apply aK;refine aS (aB ?_);(repeat first|(refine sM rfl ?_ ?_;first|exact tI|omega|simp only[oZ] at *;omega)|(refine s4 rfl ‹_› rfl ?_ ?_;omega)|refine sP rfl (FH l z.1 (by omega)) rfl ?_|(refine Af rfl ?_;refine gA rfl ?_;first|refine gS (λ_ _=>XR rfl (by omega) (by omega)) ?_)|refine aU rfl ?_|apply Aa);rw[dW z.1];(repeat first|refine tM rfl ?_|refine s2 rfl λ_ i=>?_|(refine Af rfl ?_;refine gA rfl ?_;first|refine gS (λ_ _=>A8 rfl rfl (by simp[E.BT,C.C1,C.BT,G.BT]) U rfl) ?_|refine gQ (fi rfl rfl rfl) (by rfl) ?_)|refine aU rfl ?_|apply Aa);(refine aC rfl ?_ ?_<;>rintro⟨⟩)
   ·have hno:marks L t.cols (r++[lb l])∉AS L t:=λh=>by
     rw[UQ.2 h]at i;cases i
    (repeat first|refine tM rfl ?_|refine aU rfl ?_|apply Aa);refine aR ⟨_,rfl,?_⟩;rw[Zr a n e f hno];rfl
   ·have s:marks L t.cols (r++[lb l])∈AS L t:=UQ.1 (by simpa using i)
    have F:∀x∈(A2 al).take (j+1),marks L t.cols (r++[x])∈AS L t:=λx a=>by
     rw[f6,n]at a
     rcases d9.1 a with a|a
     ·exact f x a
     ·simp at a;subst a;exact s
    apply aK;(repeat first|(refine sM rfl ?_ ?_;first|exact tI|omega)|refine aU rfl ?_|apply Aa);refine⟨⟨j+1,by omega,F⟩,by dsimp only;(omega),[0,1],?_⟩;simp[cX,zC,b,v]
  ·obtain rfl:j=(Ac al).length:=by (simp only[oZ] at *;omega)
   have A:∀w∈CQ (A2 al) (t.rows.take (k+1)),marks L t.cols w∈AS L t:=λw m=>by
    rw[PV a]at m
    rcases d9.1 m with m|m
    ·exact e w m
    ·obtain⟨x,H,rfl⟩:=d8.1 m
     exact f x (by rw[ge (by simp[A2])];exact H)
   apply aE;(repeat first|(refine sM rfl ?_ ?_;first|exact tI|omega)|refine aU rfl ?_|apply Aa);refine⟨⟨k+1,by omega,A⟩,by dsimp only;(omega),[0,1],?_⟩;simp[cX,zC,b,v]
 ·obtain rfl:k=t.rows.length:=by (simp only[oZ] at *;omega)
  have hno:Bk L (A2 al) t=none:=ry.2 λw m=>by
   have:=e w (by rw[io];exact m)
   simpa using this
  apply aE;(repeat first|refine tM rfl ?_|refine aU rfl ?_|apply Aa);refine aR ⟨_,rfl,?_⟩;rw[hno];rfl
theorem LK(l:List W)(h:l.length<=1048576):Spec Tryz.prog TB 176 [] 0 [BW l] (λx σ nx=>x=.o (.arr 0 1 0 l.length)/\nx=1/\σ=[(0,.cells 9 1 (l.map En))]):=by
 refine eN Tryz.func176 rfl (by kernel_rfl) rfl ?_;intro Z b;(repeat first|refine aU rfl ?_);(refine Af rfl ?_;refine CG (λ_ _=>CK rfl) rfl ?_);(repeat first|refine tM rfl ?_|refine aU rfl ?_|apply Aa);(refine pW rfl ?_ rfl (by rfl);refine Mj rfl ?_;intro e c);(repeat first|apply Aa);(refine aC rfl ?_ ?_<;>rintro⟨⟩)
 ·obtain rfl:l=[]:=by simpa using c rfl
  (repeat first|refine aU rfl ?_);(refine pW rfl ?_ rfl (by rfl);refine Gu 1 9 ?_);(repeat first|apply Aa);refine aR ⟨_,rfl,rfl,rfl,rfl⟩
 ·apply aK
  (repeat first|refine aU rfl ?_);(refine pW rfl ?_ rfl (by rfl);refine Bh rfl rfl rfl rfl (by simp) (by rfl) (by rfl) (by rfl) (by rfl) ?_);(repeat first|refine tM rfl ?_);(refine pW rfl ?_ rfl (by rfl);refine Au rfl rfl rfl (by first|(simp;done)|(simp;(omega))) rfl (by intro r d;simp at d;obtain⟨a,_,rfl⟩:=d;rfl) (by rfl) (am rfl) (by simp;omega) ?_);(repeat first|refine tM rfl ?_|apply Aa);refine Ak.names [1] [(2,.o (.arr 0 1 0 l.length))] [(0,.cells 9 1 (l.map En))] (by intro i hi;rw[b]at hi;omega) (by simp) (by simp[cX,zC,b]) (by simp[cX,zC,b]) ?_;refine aR ⟨_,rfl,rfl,rfl,rfl⟩
theorem dO(l:List W)(s:W):Pure Tryz.prog TB 220 [BW l,eT s] (eI .i64 (if s∈l then (l.idxOf s:Int) else -1)):=by
 refine eN Tryz.func220 rfl (by kernel_rfl) rfl ?_;intro Z a;refine Ak.bound 0 rfl λj=>?_;have o:=j (l.map CR) .refl;(repeat first|refine sN rfl ?_|refine tM rfl ?_|refine aU rfl ?_|apply Aa);apply aB;refine Ak.A5 (α:={k:Nat // k<=l.length/\s∉l.take k}) (λ⟨k,hk,b⟩=>[(0,BW l),(1,eT s),(7,eI .i64 l.length),(8,eI .i64 k)]) (λ⟨k,hk,b⟩=>[]) 0 (λ⟨k,hk,b⟩=>l.length-k) (⟨0,by omega,by simp⟩) [] (Ei a rfl rfl) (by (simp[cX,zC,a])) ?_;rintro⟨k,hk,b⟩;(try dsimp only);(repeat first|refine s2 rfl λ_ c=>?_|refine aU rfl ?_|apply Aa);(refine aC rfl ?_ ?_<;>rintro⟨⟩)
 ·have h:k<l.length:=by (simp only[oZ] at *;omega)
  obtain⟨x,d⟩:=get_some (l:=l) (k:=k) h;have m:=get_map (g:=CR) d;apply aK;refine aS (aB ?_);(repeat first|refine tM rfl ?_|(refine s4 rfl ‹_› rfl ?_ ?_;omega)|refine s2 rfl λ_ c=>?_|refine aU rfl ?_|apply Aa);(refine aC rfl ?_ ?_<;>rintro⟨⟩)
  ·have i:s=x:=by (simp only[oZ] at *;omega)
   subst i;(repeat first|refine tM rfl ?_|refine aU rfl ?_|apply Aa);refine aR ⟨_,rfl,?_⟩;have n:s∈l:=co d
   have hi:l.idxOf s=k:=by
    have e:l=l.take k++s::l.drop (k+1):=by rw[<-BB d,qo]
    rw[e,rZ,if_neg b,s5];simp;omega
   rw[if_pos n,hi]
  ·have i:¬s=x:=by simpa using c
   have f:s∉l.take (k+1):=by
    rw[f6,d];simp[b,i]
   apply aK;(repeat first|(refine sM rfl ?_ ?_;first|exact tI|simp only[oZ] at *;omega)|refine aU rfl ?_|apply Aa);refine⟨⟨k+1,by omega,f⟩,by dsimp only;(omega),[],?_⟩;simp[cX,zC,a]
 ·obtain rfl:k=l.length:=by (simp only[oZ] at *;omega)
  rw[io]at b;apply aE;(repeat first|refine tM rfl ?_|refine aU rfl ?_|apply Aa);refine aR ⟨_,rfl,?_⟩;rw[if_neg b]
theorem N0(l:List W)(s:W):Pure Tryz.prog TB 146 [BW l,eT s] (eB (decide (s∈l))):=by
 refine eN Tryz.func146 rfl (by kernel_rfl) rfl ?_;intro Z b;(repeat' first|refine tA rfl ?_|refine s2 rfl λ_ a=>?_|refine sP rfl (dO l s) rfl ?_|refine aU rfl ?_|apply Aa|(refine aC rfl ?_ ?_<;>rintro⟨⟩)|apply aK|apply aE|apply aB|refine aR ⟨_,rfl,?_⟩)
 all_goals (show E.o _=E.o _;congr;subst a;by_cases h:s∈l<;>simp[h])
def FO(t:A3)(col:W):Option A3:=if t.cols.length=20\/col∈t.cols then none else some ⟨t.rows,t.cols++[col]⟩
def I7(o:Option A3):E:=match o with
 | some t=>.t [(true,[.d (BX t.rows),.d (BX t.cols)]),(false,[.d (bD true)])]
 | none=>.t [(true,[.d (.l []),.d (.l [])]),(false,[.d (bD false)])]
theorem SV(t:A3)(col:W)(g:t.rows.length<=4096)(p:t.cols.length<=4096):Pure Tryz.prog TB 203 [DU t,eT col] (I7 (FO t col)):=by
 have m:=LK (TB:=TB) t.rows (by omega);have k:=LK (TB:=TB) t.cols (by omega);refine AK.HL (AK.ofM 2 (i9 _) Tryz.func203 rfl rfl (by kernel_rfl) (am rfl) ?_);intro Z a;(repeat first|refine aU rfl ?_);(refine Af rfl ?_;refine CG (λ_ _=>De rfl rfl rfl) rfl ?_);(repeat first|refine sN rfl ?_|refine tM rfl ?_|refine s2 rfl λ_ b=>?_|(refine sC rfl (N0 t.cols col) ?_;intro _ b)|refine s3 rfl ?_ ?_<;>rintro rfl|refine aU rfl ?_|apply Aa)
 ·(refine aC rfl ?_ ?_<;>rintro⟨⟩)
  have c:FO t col=none:=by unfold FO;rw[if_pos (.inl (by (simp only[oZ] at *;omega)))]
  (repeat first|refine tM rfl ?_|(refine Af rfl ?_;refine gA rfl ?_;first|refine gS (λ_ _=>AA rfl rfl (by rfl) (by rfl)) ?_)|refine aU rfl ?_|apply Aa);refine Ak.freeze [0] [(4,.o (.ip [.l [],.l []])),(5,eB false)] ⟨⟨_,rfl,.o (.ptr (by simp) rfl rfl rfl)⟩,⟨_,rfl,.AO⟩,trivial⟩ ?_;refine aR ⟨_,rfl,?_⟩;rw[c];rfl
 (repeat first|refine tM rfl ?_|(refine sC rfl (N0 t.cols col) ?_;intro _ b)|apply Aa);(refine aC rfl ?_ ?_<;>rintro⟨⟩)
 ·have c:FO t col=none:=by unfold FO;rw[if_pos (.inr (by (simp only[oZ] at *;omega)))]
  (repeat first|refine tM rfl ?_|(refine Af rfl ?_;refine gA rfl ?_;first|refine gS (λ_ _=>AA rfl rfl (by rfl) (by rfl)) ?_)|refine aU rfl ?_|apply Aa);refine Ak.freeze [0] [(4,.o (.ip [.l [],.l []])),(5,eB false)] ⟨⟨_,rfl,.o (.ptr (by simp) rfl rfl rfl)⟩,⟨_,rfl,.AO⟩,trivial⟩ ?_;refine aR ⟨_,rfl,?_⟩;rw[c];rfl
 ·apply aK
  apply aS;refine rG (oP [0,1,3,4,6,7,2,5,8,9,10,11] [2,5,8,10] [0,1,3,4,6,7]) (by kernel_rfl) ?_;(repeat first|refine tA rfl ?_);(refine pW rfl ?_ rfl (by rfl);refine Aj [] rfl rfl m ⟨rfl,by simp,by simp⟩ rfl trivial ?_;rintro n e f ⟨rfl,rfl,rfl⟩ _);(refine pW rfl ?_ rfl (by rfl);refine Aj [] rfl rfl k ⟨rfl,by simp,by simp⟩ rfl trivial ?_;rintro n e f ⟨rfl,rfl,rfl⟩ _);(refine pW rfl ?_ rfl (by rfl);refine Au rfl rfl rfl (by first|(simp;done)|(simp;(omega))) rfl (by intro r g;simp at g;subst g;rfl) (by rfl) (am rfl) (by simp;omega) ?_);(repeat first|refine tA rfl ?_|(refine Af rfl ?_;refine gA rfl ?_;first|refine gS (λ_ _=>AA rfl rfl (by rfl) (by rfl)) ?_)|apply Aa)
  have j:col∉t.cols:=by simpa using b
  have c:FO t col=some ⟨t.rows,t.cols++[col]⟩:=by
   unfold FO;rw[if_neg];rintro(h|h)
   ·(simp only[oZ] at *;omega)
   ·exact j h
  refine Ak.names [0,1,3] [(4,.o (.ptr 0 2 0 0)),(5,eB true)] [(0,.cells 47 2 [[.arr 1 1 0 t.rows.length,.arr 2 1 0 (t.cols.length+1)]]),(1,.cells 9 1 (t.rows.map En)),(2,.cells 9 1 ((t.cols++[col]).map En))] (by intro i hi;rw[a]at hi;omega) (by simp) (by simp[cX,zC,a,I8]) (by simp[cX,zC,a,I8,Ab.Bd,Ce,Bp,eC,Ae]) ?_;refine Ak.OM [1,2] [(4,.o (.ptr 0 2 0 0)),(5,eB true)] [(0,.cells 47 2 [[.d (BX t.rows),.d (BX (t.cols++[col]))]])] ⟨⟨_,rfl,.AO⟩,⟨_,rfl,.AO⟩,trivial⟩ ⟨⟨_,rfl,by simp,.cons (.full (by simp) rfl (by simp[d5]) (by simp)) (.cons (.full (by simp) rfl (by simp[d5]) (by simp)) .nil)⟩,trivial⟩ ?_;refine Ak.freeze [0] [(4,.o (.ip [BX t.rows,BX (t.cols++[col])])),(5,eB true)] ⟨⟨_,rfl,.o (.ptr (by simp) rfl rfl rfl)⟩,⟨_,rfl,.AO⟩,trivial⟩ ?_;refine aR ⟨_,rfl,?_⟩;rw[c];rfl
structure Ho (al:Int) (b:Nat) (t:A3):Prop where
 onR:∀w∈t.rows,AN (A2 al) w/\w.length<=b
 onC:∀x∈t.cols,AN (A2 al) x/\x.length<=20000
 rl:t.rows.length<=12
 cl:t.cols.length<=20
def SQ(ok:W->Prop)(al:Int):Prop:=∀w,AN (A2 al) w->w.length<=50000->ok w
def NX(ls:List UInt8)(t:A3)(v:W):Prop:=∃r∈t.rows,∃m:W,(m=[]\/∃l∈ls,m=[l])/\∃x:W,(x=[]\/x∈t.cols)/\v=r++m++x
def Ji(ok:W->Prop)(ls:List UInt8)(t:A3):Prop:=∀v,NX ls t v->ok v
def Fb(L:W->Bool)(ls:List UInt8):Nat->A3->List A3
 | 0,t=>[t]
 | n+1,t=>t::match Bk L ls t with
  | none=>[]
  | some w=>if t.rows.length=12 then [] else Fb L ls n ⟨t.rows++[w],t.cols⟩
theorem Xk{L:W->Bool}{ls:List UInt8}{n:Nat}{t:A3}:t∈Fb L ls n t:=by cases n<;>simp[Fb]
theorem Ho.jM{ok:W->Prop}{al:Int}{b:Nat}{t:A3}(h:Ho al b t)(d:Ji ok (A2 al) t)(hb:b<=20100):cJ ok t/\∀w∈t.rows,∀l∈A2 al,∀x∈t.cols,ok (w++[l]++x):=
  ⟨⟨λw c x a=>d _ ⟨w,c,[],.inl rfl,x,.inr a,by simp⟩,λw c=>by have:=(h.onR w c).2;omega,λx a=>by have:=(h.onC x a).2;omega,by have:=h.rl;omega,by have:=h.cl;omega⟩,
   λw c l e x a=>d _ ⟨w,c,[l],.inr ⟨l,e,rfl⟩,x,.inr a,rfl⟩⟩
theorem Ho.on{ok:W->Prop}{al:Int}{b:Nat}{t:A3}(h:Ho al b t)(i:SQ ok al)(hb:b<=20100):Ji ok (A2 al) t:=by
 rintro v ⟨r,e,m,f,x,d,rfl⟩;have n:=h.onR r e
 have k:AN (A2 al) m/\m.length<=1:=by
  rcases f with rfl|⟨l,g,rfl⟩
  ·exact⟨λc a=>by simp at a,by simp⟩
  ·exact⟨λc a=>by simp at a;subst a;exact g,by simp⟩
 have j:AN (A2 al) x/\x.length<=20000:=by
  rcases d with rfl|d
  ·exact⟨λc a=>by simp at a,by simp⟩
  ·exact h.onC x d
 refine i _ (λc a=>?_) (by simp;omega);simp only[d9]at a
 rcases a with (a|a)|a
 ·exact n.1 c a
 ·exact k.1 c a
 ·exact j.1 c a
theorem Ho.push{L:W->Bool}{al:Int}{b:Nat}{t:A3}{w:W}(h:Ho al b t)(g:Bk L (A2 al) t=some w)(i:t.rows.length<12):Ho al (b+1) ⟨t.rows++[w],t.cols⟩:=by
 obtain⟨⟨r,f,l,e,rfl⟩,_⟩:=IN g;refine⟨λu a=>?_,h.onC,by simp;omega,h.cl⟩
 rcases d9.1 a with a|a
 ·have:=h.onR u a;exact⟨this.1,by omega⟩
 ·simp at a
  subst a;have:=h.onR r f;refine⟨λc d=>?_,by simp;omega⟩
  rcases d9.1 d with d|d
  ·exact this.1 c d
  ·simp at d;subst d;exact e
theorem Ho.grow{L:W->Bool}{al:Int}:∀ {n b:Nat} {t y:A3},Ho al b t->y∈Fb L (A2 al) n t->Ho al (b+n) y
 | 0,b,t,y,h,a=>by simp[Fb]at a;subst a;exact h
 | n + 1, b,t,y,h,a=>by
  have f:∀ {b':Nat} {z:A3},b'<=b+(n+1)->Ho al b' z->Ho al (b+(n+1)) z:=λhb c=>⟨λw e=>⟨(c.onR w e).1,lc (c.onR w e).2 hb⟩,c.onC,c.rl,c.cl⟩
  unfold Fb at a
  rcases mt.1 a with rfl|a
  ·exact f (by omega) h
  ·cases d:Bk L (A2 al) t with
   | none=>rw[d]at a;simp at a
   | some w=>
    rw[d]at a;dsimp only at a;split at a
    ·simp at a
    ·have:=h.rl
     exact f (by omega) (Ho.grow (h.push d (by omega)) a)
theorem Ho.oU{L:W->Bool}{ok:W->Prop}{al:Int}{b:Nat}{t:A3}(h:Ho al b t)(c:SQ ok al)(hb:b<=20000):∀y∈Fb L (A2 al) 13 t,Ji ok (A2 al) y:=λy a=>(h.grow a).on c (by omega)
theorem Jq{c:C}{L:W->Bool}{ok:W->Prop}(K:Jj Tryz.prog TB c L ok)(al:Int)(t:A3)(Y:∀y∈Fb L (A2 al) 13 t,Ji ok (A2 al) y)(ht:Ho al 20000 t) :
 Pure Tryz.prog TB 103 [Iz al c,DU t] (I7 (Bv L (A2 al) 13 t)):=by
 have v:=Eu c K.BT;have V:=ht.rl;have hcl:=ht.cl;have J:=LK (TB:=TB) t.rows (by omega);have I:=LK (TB:=TB) t.cols (by omega);refine AK.HL (AK.ofM 2 (i9 _) Tryz.func103 rfl rfl (by kernel_rfl) (am rfl) ?_);intro Z b;(repeat first|refine aU rfl ?_);(refine pW rfl ?_ rfl (by rfl);refine C4 rfl rfl ?_);(refine Af rfl ?_;refine CG (λ_ _=>De rfl rfl rfl) rfl ?_);(repeat first|refine tM rfl ?_|refine aU rfl ?_|apply Aa);refine R.Rz [(7,3),(0,2),(1,2),(3,2),(4,2),(2,1),(5,1),(6,0),(8,5)] mixed (by kernel_rfl) rfl (by kernel_rfl) ?_;(repeat ((refine R.Af rfl ?_;first|(refine R.yQ (md:=false) rfl rfl rfl ?_ ?_;exact tI)|refine R.yP rfl rfl rfl rfl ?_ )));(refine R.Af rfl ?_;refine R.Kx (λ_=>?_) rfl rfl;refine Aj [] rfl rfl J ⟨rfl,by simp,by simp⟩ rfl trivial ?_;rintro P F G ⟨rfl,rfl,rfl⟩ _);(refine R.Af rfl ?_;refine R.Kx (λ_=>?_) rfl rfl;refine Aj [] rfl rfl I ⟨rfl,by simp,by simp⟩ rfl trivial ?_;rintro P F G ⟨rfl,rfl,rfl⟩ _);(repeat ((refine R.Af rfl ?_;first|refine R.yA rfl rfl rfl rfl ?_|refine R.CG (λ_ _ _=>AA rfl rfl (by rfl) (by rfl)) rfl rfl ?_ )));refine R.Rt ?_;apply aB
 have Q:∀x:A3,Bk L (A2 al) x=none\/∃w,Bk L (A2 al) x=some w:=λx=>by cases Bk L (A2 al) x<;>simp
 refine Ak.A5 (α:={p:Nat×A3 // p.1<=13/\13<=p.1+p.2.rows.length/\Ho al (20000+p.2.rows.length) p.2/\Bv L (A2 al) 13 t=Bv L (A2 al) p.1 p.2/\∀y∈Fb L (A2 al) p.1 p.2,Ji ok (A2 al) y}) (λ⟨⟨m,u⟩,B,f,j,q,e⟩=>[(2,.o (.ptr 0 2 0 0)),(4,.o (.ptr 1 2 0 0)),(6,.o (.ptr 4 2 0 0))]) (λ⟨⟨m,u⟩,B,f,j,q,e⟩=>[(0,.cells 90 2 [[.d (iD al),c]]),(1,.cells 47 2 [[.d (.l []),.d (.l [])]]),(2,.cells 9 1 (u.rows.map En)),(3,.cells 9 1 (u.cols.map En)),(4,.cells 47 2 [[.arr 2 1 0 u.rows.length,.arr 3 1 0 u.cols.length]])]) 5 (λ⟨⟨m,u⟩,B,f,j,q,e⟩=>m) (⟨(13,t),by simp,by simp,⟨λw N=>⟨(ht.onR w N).1,by have:=(ht.onR w N).2;omega⟩,ht.onC,ht.rl,ht.cl⟩,rfl,Y⟩) [0,1,2,3,4] (Ei b rfl rfl) (by (simp[cX,zC,b,v,eC,Ab.Bd,Ce,I8,Bp,Ae])) ?_;rintro⟨⟨m,u⟩,B,f,j,q,e⟩;(try dsimp only);dsimp only at B f j q e
 have s:∀l:List W,((l.map En).drop 0).take l.length=(l.map CR).map (λr=>r.map C.d):=λl=>by rw[qm,ge (by simp)];simp[d5]
 have T:=j.rl;have U:=j.cl;have n:=j.jM (e u Xk) (by omega);have g:=Tm (TB:=TB) K al u n.1 n.2
 have A:jF [(0,.cells 90 2 [[.d (iD al),c]]),(1,.cells 47 2 [[.d (.l []),.d (.l [])]]),(2,.cells 9 1 (u.rows.map En)),(3,.cells 9 1 (u.cols.map En)),(4,.cells 47 2 [[.arr 2 1 0 u.rows.length,.arr 3 1 0 u.cols.length]])] [.a [.d (iD al),c],.a [.arr 2 1 0 u.rows.length,.arr 3 1 0 u.cols.length]] [Iz al c,DU u]:=
  .cons (.cons (.pure rfl) (.cons (.pure K.BT) .nil)) (.cons (.cons (.arr rfl (by simp) (s _)) (.cons (.arr rfl (by simp) (s _)) .nil)) .nil)
 apply aB
 rcases Q u with k|⟨w,k⟩
 ·rw [k]at g
  (repeat first|refine tM rfl ?_|refine s2 rfl λ_ h=>?_|(refine Af rfl ?_;refine gA rfl ?_;first|refine gQ (IQ rfl rfl (A) (g) rfl) rfl ?_)|refine aU rfl ?_|apply Aa);(refine aC rfl ?_ ?_<;>rintro⟨⟩)
  ·(repeat first|refine tM rfl ?_|refine aU rfl ?_|apply Aa)
   have z:Bv L (A2 al) 13 t=some u:=by
    rw[q]
    obtain⟨m',rfl⟩:∃m',m=m'+1:=⟨m-1,by omega⟩
    simp[Bv,k]
   refine Ak.names [1,2,3] [(4,.o (.ptr 0 2 0 0)),(5,eB true)] [(0,.cells 47 2 [[.arr 1 1 0 u.rows.length,.arr 2 1 0 u.cols.length]]),(1,.cells 9 1 (u.rows.map En)),(2,.cells 9 1 (u.cols.map En))] (by intro i hi;rw[b]at hi;omega) (by simp) (by simp[cX,zC,b,I8]) (by simp[cX,zC,b,I8,Ab.Bd,Ce,Bp,eC,Ae]) ?_;refine Ak.OM [1,2] [(4,.o (.ptr 0 2 0 0)),(5,eB true)] [(0,.cells 47 2 [[.d (BX u.rows),.d (BX u.cols)]])] ⟨⟨_,rfl,.AO⟩,⟨_,rfl,.AO⟩,trivial⟩ ⟨⟨_,rfl,by simp,.cons (.full (by simp) rfl (by simp[d5]) (by simp)) (.cons (.full (by simp) rfl (by simp[d5]) (by simp)) .nil)⟩,trivial⟩ ?_;refine Ak.freeze [0] [(4,.o (.ip [BX u.rows,BX u.cols])),(5,eB true)] ⟨⟨_,rfl,.o (.ptr (by simp) rfl rfl rfl)⟩,⟨_,rfl,.AO⟩,trivial⟩ ?_;refine aR ⟨_,rfl,?_⟩;rw[z];rfl
  ·simp at h
 ·rw [k]at g
  (repeat first|refine tM rfl ?_|refine s2 rfl λ_ h=>?_|(refine Af rfl ?_;refine gA rfl ?_;first|refine gQ (IQ rfl rfl (A) (g) rfl) rfl ?_)|refine aU rfl ?_|apply Aa);(refine aC rfl ?_ ?_<;>rintro⟨⟩)
  ·simp at h
  ·apply aK
   (repeat first|refine tM rfl ?_|refine s2 rfl λ_ h=>?_|refine aU rfl ?_|apply Aa);(refine aC rfl ?_ ?_<;>rintro⟨⟩)
   ·(repeat first|refine tM rfl ?_|(refine Af rfl ?_;refine gA rfl ?_;first|refine gS (λ_ _=>AA rfl rfl (by rfl) (by rfl)) ?_)|refine aU rfl ?_|apply Aa)
    have z:Bv L (A2 al) 13 t=none:=by
     have M:u.rows.length=12:=by (simp only[oZ] at *;omega)
     rw[q]
     obtain⟨m',rfl⟩:∃m',m=m'+1:=⟨m-1,by omega⟩
     simp[Bv,k,M]
    refine Ak.freeze [1] [(4,.o (.ip [.l [],.l []])),(5,eB false)] ⟨⟨_,rfl,.o (.ptr (by simp) rfl rfl rfl)⟩,⟨_,rfl,.AO⟩,trivial⟩ ?_;refine aR ⟨_,rfl,?_⟩;rw[z];rfl
   ·apply aK
    have H:u.rows.length<12:=by (simp only[oZ] at *;omega)
    obtain⟨m',rfl⟩:∃m',m=m'+1:=⟨m-1,by omega⟩
    have z:Bv L (A2 al) 13 t=Bv L (A2 al) m' ⟨u.rows++[w],u.cols⟩:=by
     rw[q]
     conv=>lhs;unfold Bv
     rw[k];dsimp only;rw[if_neg (by omega)]
    have X:=j.push k H;(repeat first|refine tA rfl ?_|refine aU rfl ?_);(refine pW rfl ?_ rfl (by rfl);refine Au rfl rfl rfl (by first|(simp;done)|(simp;(omega))) rfl (by intro r v;simp at v;subst v;rfl) (by rfl) (am rfl) (by simp;omega) ?_);(repeat first|refine tM rfl ?_|apply Aa);refine⟨⟨⟨m',⟨u.rows++[w],u.cols⟩⟩,by dsimp only;omega,by simp;omega,by simpa[pV]using X,z,λy S=>e y (by unfold Fb;rw[k];dsimp only;rw[if_neg (by omega)];exact pN _ S)⟩,by dsimp only;(omega),[0,1,5,3,4],?_⟩;simp[cX,zC,b,v,eC,Ab.Bd,Ce,I8,Bp,Ae]
def BA:A3:=⟨[[]],[[]]⟩
theorem Kn(al:Int):Ho al 20000 BA:=by
 refine⟨λw a=>?_,λw a=>?_,by decide,by decide⟩<;>(simp[BA]at a;subst a;exact⟨λc b=>by simp at b,by simp⟩)
theorem Mm{c:C}{L:W->Bool}{ok:W->Prop}(b:Jj Tryz.prog TB c L ok)(al:Int)(e:∀y∈Fb L (A2 al) 13 BA,Ji ok (A2 al) y) :
 Pure Tryz.prog TB 121 [Iz al c] (I7 (Bv L (A2 al) 13 BA)):=by
 have f:=Eu c b.BT;have h:=Jq b al BA e (Kn al);refine AK.HL (AK.ofM 2 (i9 _) Tryz.func121 rfl rfl (by kernel_rfl) (am rfl) ?_);intro Z d;generalize Bv L (A2 al) 13 BA=o at h |-;(repeat first|refine aU rfl ?_);(refine pW rfl ?_ rfl (by rfl);refine C4 rfl rfl ?_);(repeat first|refine tM rfl ?_|refine aU rfl ?_|apply Aa)
 have a:([Iz al c,DU BA].all E.BT && C.C1 [])=true:=by simp[Iz,DU,E.BT,C.C1,C.BT,b.BT]
 cases o with
 | none=>
  (repeat first|refine tA rfl ?_|(refine Af rfl ?_;refine gA rfl ?_;first|refine gS (λ_ _=>A8 rfl rfl a h rfl) ?_|refine gS (λ_ _=>AA rfl rfl (by rfl) (by rfl)) ?_)|apply Aa);refine Ak.freeze [1] [(2,.o (.ip [.l [],.l []])),(3,eB false)] ⟨⟨_,rfl,.o (.ptr (by simp) rfl rfl rfl)⟩,⟨_,rfl,.AO⟩,trivial⟩ ?_;refine aR ⟨_,rfl,?_⟩;rfl
 | some u=>
  (repeat first|refine tA rfl ?_|(refine Af rfl ?_;refine gA rfl ?_;first|refine gS (λ_ _=>A8 rfl rfl a h rfl) ?_|refine gS (λ_ _=>AA rfl rfl (by rfl) (by rfl)) ?_)|apply Aa);refine Ak.freeze [1] [(2,.o (.ip [BX u.rows,BX u.cols])),(3,eB true)] ⟨⟨_,rfl,.o (.ptr (by simp) rfl rfl rfl)⟩,⟨_,rfl,.AO⟩,trivial⟩ ?_;refine aR ⟨_,rfl,?_⟩;rfl
def AY(L:W->Bool)(al:Int)(t:A3):AV:=⟨al,t.rows.map λr=>(Ac al).map λl=>((C9 L t (r++[lb l]):Nat):Int),t.rows.map L⟩
theorem Vt{L:W->Bool}{al:Int}{t:A3}(b:Bk L (A2 al) t=none){r:W}(a:r∈t.rows){l:Int}(d:l∈Ac al) :
 (CU (BZ L t t.rows.length) (marks L t.cols (r++[lb l]))).getD 0=((C9 L t (r++[lb l]):Nat):Int):=by
 have c:marks L t.cols (r++[lb l])∈AS L t:=by
  have:=ry.1 b (r++[lb l]) (by
   unfold CQ
   exact qJ.2 ⟨r,a,d8.2 ⟨lb l,d8.2 ⟨l,d,rfl⟩,rfl⟩⟩)
  simpa using this
 rw[VF,if_pos c];rfl
theorem QV{c:C}{L:W->Bool}{ok:W->Prop}(u:Jj Tryz.prog TB c L ok)(al:Int)(t:A3)(J:Ji ok (A2 al) t)(ht:Ho al 20012 t)(S:Bk L (A2 al) t=none) :
 Pure Tryz.prog TB 65 [Iz al c,DU t] (AX (AY L al t)):=by
 have a:=Eu c u.BT;have Q:=ht.rl;have Y:=ht.cl;have V:(Ac al).length<=6:=AH al 6;have h:=ht.jM J (by omega)
 have T:(AY L al t).nx.length=t.rows.length:=by simp[AY]
 have hal:(AY L al t).ac.length=t.rows.length:=by simp[AY]
 refine AK.HL (AK.ofM 3 (i9 _) Tryz.func65 rfl rfl (by kernel_rfl) (am rfl) ?_);intro Z e;(repeat first|refine aU rfl ?_);(refine pW rfl ?_ rfl (by rfl);refine C4 rfl rfl ?_);(refine Af rfl ?_;refine CG (λ_ _=>De rfl rfl rfl) rfl ?_);(repeat first|refine tA rfl ?_|refine aU rfl ?_|apply Aa);(refine pW rfl ?_ rfl (by rfl);refine Aj [] rfl rfl (HK u al t h.1) ⟨rfl,by simp,by simp⟩ (by simp[EU,E.Bd,C.Cp,C.Bd,a,eC]) trivial ?_;rintro x0 K M ⟨rfl,rfl,rfl⟩ _);(repeat first|refine tA rfl ?_|refine aU rfl ?_|apply Aa);(refine pW rfl ?_ rfl (by rfl);refine J7 1 1 53 2 1 4 rfl rfl (by decide) rfl rfl (by rfl) (by rfl) ?_);(repeat first|refine sN rfl ?_|refine tA rfl ?_|refine aU rfl ?_|apply Aa);apply aB;refine Ak.A5 (α:={k:Nat // k<=t.rows.length}) (λ⟨k,m⟩=>[(2,.o (.ptr 0 2 0 0)),(3,.o (.ip (Ww t))),(4,.o (.ptr 1 3 0 0)),(5,.o (.mp 2)),(6,.o (.ptr 3 3 0 0)),(19,.o (.d (BX t.rows))),(20,eI .i64 t.rows.length),(21,eI .i64 k)]) (λ⟨k,m⟩=>[(0,.cells 90 2 [[.d (iD al),c]]),(1,.cells 29 3 [[.d (iD 0),.d (.l []),.d (.l [])]]),(2,.mp (Jf (BZ L t t.rows.length))),(3,.cells 29 3 [[.d (iD al),.arr 4 1 0 k,.arr 5 1 0 k]]),(4,.cells 53 1 (((AY L al t).nx.take k).map λr=>[.d (EO r)])),(5,.cells 4 1 (((AY L al t).ac.take k).map λb=>[.d (bD b)]))]) 6 (λ⟨k,m⟩=>t.rows.length-k) (⟨0,by omega⟩) [0,1,2,5,3,4] (Ei e rfl rfl) (by (simp[cX,zC,e,a,eC,Ab.Bd,Ce,I8,Bp,Ae])) ?_;rintro⟨k,m⟩;(try dsimp only);(repeat first|refine s2 rfl λ_ I=>?_|refine aU rfl ?_|apply Aa);(refine aC rfl ?_ ?_<;>rintro⟨⟩)
 ·have B:k<t.rows.length:=by (simp only[oZ] at *;omega)
  obtain⟨r,p⟩:=get_some (l:=t.rows) (k:=k) B;have P:=get_map (g:=CR) p;have f:=co p;apply aK;refine aS (aB ?_);(repeat first|refine tM rfl ?_|(refine s4 rfl ‹_› rfl ?_ ?_;omega)|refine aU rfl ?_|apply Aa);(refine pW rfl ?_ rfl (by rfl);refine Gu 1 3 ?_);(repeat first|refine sN rfl ?_|refine tM rfl ?_|refine sP rfl (Cn al) rfl ?_|refine aU rfl ?_|apply Aa);apply aB;refine Ak.A5 (α:={j:Nat // j<=(Ac al).length}) (λ⟨j,n⟩=>[(2,.o (.ptr 0 2 0 0)),(3,.o (.ip (Ww t))),(4,.o (.ptr 1 3 0 0)),(5,.o (.mp 2)),(6,.o (.ptr 3 3 0 0)),(19,.o (.d (BX t.rows))),(20,eI .i64 t.rows.length),(21,eI .i64 k),(8,eT r),(9,.o (.arr 6 1 0 j)),(27,Al (Ac al)),(28,eI .i64 (Ac al).length),(29,eI .i64 j)]) (λ⟨j,n⟩=>[(0,.cells 90 2 [[.d (iD al),c]]),(1,.cells 29 3 [[.d (iD 0),.d (.l []),.d (.l [])]]),(2,.mp (Jf (BZ L t t.rows.length))),(3,.cells 29 3 [[.d (iD al),.arr 4 1 0 k,.arr 5 1 0 k]]),(4,.cells 53 1 (((AY L al t).nx.take k).map λr=>[.d (EO r)])),(5,.cells 4 1 (((AY L al t).ac.take k).map λb=>[.d (bD b)])),(6,.cells 3 1 (((Ac al).take j).map λl=>[.d (iD ((C9 L t (r++[lb l]):Nat):Int))]))]) 7 (λ⟨j,n⟩=>(Ac al).length-j) (⟨0,by omega⟩) [0,1,2,3,4,5,6] (Ei e rfl rfl) (by (simp[cX,zC,e,a,eC,Ab.Bd,Ce,I8])) ?_;rintro⟨j,n⟩;(try dsimp only);(repeat first|refine s2 rfl λ_ I=>?_|refine aU rfl ?_|apply Aa);(refine aC rfl ?_ ?_<;>rintro⟨⟩)
  ·have s:j<(Ac al).length:=by (simp only[oZ] at *;omega)
   obtain⟨l,G⟩:=get_some (l:=Ac al) (k:=j) s;have X:=get_map (g:=Bw) G;have i:=co G;have q:=Ai i;have R:=ht.onR r f;have U:=Mc (TB:=TB) u al t (r++[lb l]) (by omega) (λx p=>h.2 r f _ (d8.2 ⟨l,i,rfl⟩) x p) (λy N=>by have:=(ht.onC y N).2;simp;omega);have F:=Vt S f i;apply aK;refine aS (aB ?_);(repeat first|refine tA rfl ?_|(refine s4 rfl ‹_› rfl ?_ ?_;omega)|refine aU rfl ?_|apply Aa);refine rG (Gk [13]) (by kernel_rfl) ?_;(repeat first|(refine sA rfl ?_ ?_;first|exact tI|omega|simp only[oZ] at *;omega)|refine sP rfl (FH l q.1 (by omega)) rfl ?_|(refine Af rfl ?_;refine gA rfl ?_;first|refine gS (λ_ _=>XR rfl (by omega) (by omega)) ?_));rw[dW q.1];(repeat first|(refine Af rfl ?_;refine gA rfl ?_;first|refine gS (λ_ _=>A8 rfl rfl (by simp[E.BT,C.C1,C.BT,u.BT]) U rfl) ?_|refine gQ (Zx rfl rfl rfl) (by rfl) ?_));(repeat first|refine tA rfl ?_);(refine pW rfl ?_ rfl (by rfl);refine Au rfl rfl rfl (by first|(simp;done)|(simp;(omega))) rfl (by intro r a;simp at a;subst a;rfl) (by rfl) (am rfl) (by simp;omega) ?_);(repeat first|(refine sA rfl ?_ ?_;first|exact tI|omega)|refine aU rfl ?_|apply Aa);rw[F];refine⟨⟨j+1,by omega⟩,by dsimp only;(omega),[0,1,2,3,4,5,7],?_⟩;simp[cX,zC,e,a,f6,G]
  ·obtain rfl:j=(Ac al).length:=by (simp only[oZ] at *;omega)
   have z:=J r ⟨r,f,[],.inl rfl,[],.inl rfl,by simp⟩
   have A:(AY L al t).nx.take (k+1)=(AY L al t).nx.take k++[(Ac al).map λl=>((C9 L t (r++[lb l]):Nat):Int)]:=by
    rw[f6];simp[AY,p]
   have H:(AY L al t).ac.take (k+1)=(AY L al t).ac.take k++[L r]:=by
    rw[f6];simp[AY,p]
   apply aE;rw[io];refine Ak.Tn [6] [2,3,4,5,6,8,19,20,21] rfl [(9,Al ((Ac al).map λl=>((C9 L t (r++[lb l]):Nat):Int)))] ⟨⟨_,rfl,.o (.full (by simp) rfl (by simp[d5]) (by simp))⟩,trivial⟩ ?_;(try dsimp only[cA,cB]);(repeat first|refine tA rfl ?_|refine aU rfl ?_);(refine pW rfl ?_ rfl (by rfl);refine Au rfl rfl rfl (by first|(simp;done)|(simp;(omega))) rfl (by intro r a;simp at a;subst a;rfl) (by rfl) (am rfl) (by simp;omega) ?_);(repeat first|refine tA rfl ?_|apply Aa);refine rG (Gk [7,9]) (by kernel_rfl) ?_;(repeat first|refine tA rfl ?_|(refine Af rfl ?_;refine gA rfl ?_;first|refine gS (λ_ _=>u.ask rfl rfl z) ?_));(refine pW rfl ?_ rfl (by rfl);refine Au rfl rfl rfl (by first|(simp;done)|(simp;(omega))) rfl (by intro r a;simp at a;subst a;rfl) (by rfl) (am rfl) (by simp;omega) ?_);(repeat first|(refine sA rfl ?_ ?_;first|exact tI|omega)|refine aU rfl ?_|apply Aa);refine⟨⟨k+1,by omega⟩,by dsimp only;(omega),[0,1,2,3,7,8],?_⟩;simp[cX,zC,e,a,eC,Ab.Bd,Ce,I8,Bp,Ae,A,H]
 ·obtain rfl:k=t.rows.length:=by (simp only[oZ] at *;omega)
  have w:(AY L al t).nx.take t.rows.length=(AY L al t).nx:=ge (by simp[AY]);have v:(AY L al t).ac.take t.rows.length=(AY L al t).ac:=ge (by simp[AY]);rw[w,v];apply aE;(repeat first|refine tM rfl ?_|refine aU rfl ?_|apply Aa);refine Ak.settle [(4,.o (.ip [iD al,CA (AY L al t).nx,E5 (AY L al t).ac]))] ⟨⟨_,rfl,.o (.box rfl (.cons .d (.cons (.full rfl (by simp[d5]) (by simp[AY])) (.cons (.full rfl (by simp[d5]) (by simp[AY])) .nil))))⟩,trivial⟩ ?_;refine aR ⟨_,rfl,rfl⟩
end Go.Am
namespace Go.Am
def DJ(a:AV):Int->W->Int
 | q,[]=>q
 | q,c::w=>DJ a (BS a q.toNat ((c.toNat:Int)-97)) w
def LA(a:AV)(w:W):Bool:=a.ac.getD (DJ a 0 w).toNat false
theorem Ql(a:AV):∀(u w:W) (q:Int),DJ a q (u++w)=DJ a (DJ a q u) w
 | [],_,_=>rfl
 | c::u,w,q=>Ql a u w _
theorem IH{l:Int}(b:0<=l)(a:l<6):((lb l).toNat:Int)-97=l:=by
 unfold lb
 have:(97+l.toNat)%256=97+l.toNat:=by omega
 simp[this];omega
theorem IL{al:Int}{c:UInt8}(h:c∈A2 al):0<=(c.toNat:Int)-97/\(c.toNat:Int)-97<6:=by
 obtain⟨l,a,rfl⟩:=d8.1 h;have b:=Ai a;rw[IH b.1 (by omega)];omega
theorem Ua{a:AV}(ha:AT a=true){al:Int}:∀(w:W) (q:Int),AN (A2 al) w->0<=q/\q<a.nx.length->0<=DJ a q w/\DJ a q w<a.nx.length
 | [],q,_,d=>d
 | c::w,q,b,d=>by
  have e:=IL (b c (by simp));have g:=Dz ha (q:=q.toNat) (by omega) e.1 e.2;exact Ua ha w _ (λx f=>b x (by simp[f])) g
theorem OQ{al:Int}{l:Int}(h:l∈Ac al):lb l∈A2 al:=d8.2 ⟨l,h,rfl⟩
theorem LI{L:W->Bool}{al:Int}{t:A3}(hal:Bb al=true)(h:BU L (A2 al) t)(b:t.rows.length<=12):AT (AY L al t)=true:=by
 have j:0<t.rows.length:=(ce.1 h.r0).1;unfold AT;simp only[d4,decide_eq_true_eq,gc];refine⟨⟨⟨hal,by simp[AY];omega⟩,by simp[AY]⟩,λrow a=>?_⟩;simp only[AY,d8]at a;obtain⟨r,b,rfl⟩:=a;unfold Gw;simp only[d4,decide_eq_true_eq,gc];refine⟨by simp[AY],λy c=>?_⟩;obtain⟨l,d,rfl⟩:=d8.1 c;obtain⟨i,hi,e⟩:=pR b;obtain⟨r',g,_⟩:=h.idx (i:=i) (r:=r) (by rw[d6 hi,e]) (OQ d);have f:=(ce.1 g).1;unfold Ue;simp[AY];exact f
theorem LU{L:W->Bool}{al:Int}{t:A3}{q:Nat}{c:UInt8}(e:q<t.rows.length)(g:c∈A2 al):BS (AY L al t) q ((c.toNat:Int)-97)=((C9 L t (t.rows.getD q []++[c]):Nat):Int):=by
 obtain⟨l,a,rfl⟩:=d8.1 g;have d:=Ai a;rw[IH d.1 (by omega)];obtain⟨k,hk,f⟩:=pR a
 have b:(AM al 6)[k]?=some l:=by rw[d6 hk,f]
 have m:=FJ b;unfold BS;have j:A6 (AY L al t).al l.toNat=true:=d.2.2;rw[if_pos j];have i:(AM (AY L al t).al l.toNat).length=k:=m;rw[i]
 have h:(AY L al t).nx.getD q []=(Ac al).map λl=>((C9 L t (t.rows.getD q []++[lb l]):Nat):Int):=by
  simp[AY,List.getD,e]
 rw[h];simp[List.getD,b]
theorem Sz{L:W->Bool}{al:Int}{t:A3}(h:BU L (A2 al) t):∀(w:W) (q:Nat),AN (A2 al) w->q<t.rows.length->DJ (AY L al t) q w=((runM L t q w:Nat):Int)
 | [],q,_,_=>rfl
 | c::w,q,a,b=>by
  have f:t.rows[q]?=some t.rows[q]:=d6 b;have d:=a c (by simp);obtain⟨_,j,_⟩:=h.idx f d
  have i:t.rows.getD q []=t.rows[q]:=by simp[f]
  have e:=(ce.1 j).1
  show DJ (AY L al t) (BS (AY L al t) ((q:Int)).toNat ((c.toNat:Int)-97)) w=_
  rw[f9,LU b d];rw[<-i]at e;exact Sz h w _ (λx g=>a x (by simp[g])) e
theorem Lw{L:W->Bool}{al:Int}{t:A3}(h:BU L (A2 al) t){w:W}(a:AN (A2 al) w):LA (AY L al t) w=MY L t w:=by
 have c:0<t.rows.length:=(ce.1 h.r0).1;have d:=h.run w 0 a c;unfold LA MY;have b:=Sz h w 0 a c;rw[show ((0:Nat):Int)=0 from rfl]at b;rw[b,f9];simp[AY,List.getD,d]
section
variable {α β:Type}[DecidableEq α][DecidableEq β]
end
end Go.Am
namespace Go.Am
open Go Go.Proofs
set_option maxHeartbeats 1000000
set_option maxRecDepth 4000
attribute [local irreducible] A9 CY Lex BV Ak Spec
variable {TB:BR}
theorem HA(w:W)(i:Nat)(c:UInt8)(e:w[((i:Nat):Int).toNat]?=some c)(d:0<=(c.toNat:Int)-97/\(c.toNat:Int)-97<6):Pure Tryz.prog TB 82 [eT w,eI .i64 i] (eI .i64 ((c.toNat:Int)-97)):=by
 refine eN Tryz.func82 rfl (by kernel_rfl) rfl ?_;intro Z a;(repeat' first|(refine sA rfl ?_ ?_;first|exact tI|omega)|(refine s4 rfl ‹_› rfl ?_ ?_;omega)|refine s2 rfl λ_ b=>?_|refine s3 rfl ?_ ?_<;>rintro rfl|refine aU rfl ?_|apply Aa|(refine aC rfl ?_ ?_<;>rintro⟨⟩)|apply aK|apply aE|apply aB|refine aR ⟨_,rfl,?_⟩)
 all_goals first
  | rfl
  | (exfalso;grind)
abbrev fY(kn:Bool)(p:AV)(s:Sys)(q:AV)(al:Int):List D:=[bD kn,iD p.al,CA p.nx,E5 p.ac,iD s.al,iD s.st,Ez s.es,iD q.al,CA q.nx,E5 q.ac,iD al]
theorem J9{ls:List UInt8}{w:W}(h:AN ls w)(k:Nat):AN ls (w.take k):=λc a=>h c (pL a)
theorem iy{ls:List UInt8}{w:W}(h:AN ls w)(k:Nat):AN ls (w.drop k):=λc a=>h c (qO a)
theorem bT{p:AV}{w:W}{k:Nat}{c:UInt8}(a:w[k]?=some c)(q:Int):DJ p q (w.take (k+1))=BS p (DJ p q (w.take k)).toNat ((c.toNat:Int)-97):=by
 rw[f6,a,Ql];rfl
theorem NI{L:W->Bool}{t:A3}{w:W}{k:Nat}{c:UInt8}(a:w[k]?=some c)(q:Nat):runM L t q (w.take (k+1))=C9 L t (t.rows.getD (runM L t q (w.take k)) []++[c]):=by
 rw[f6,a,Qn];rfl
def CM(L:W->Bool)(t:A3)(w:W):Option W:=if MY L t w=L w then none else splitAt L t (L w) 0 w
theorem MC{L:W->Bool}{t:A3}{b:Bool}{w:W}{k q:Nat}{c:UInt8}(a:w[k]?=some c):splitAt L t b q (w.drop k)=if L (t.rows.getD (C9 L t (t.rows.getD q []++[c])) []++w.drop (k+1))≠b then some (w.drop (k+1)) else splitAt L t b (C9 L t (t.rows.getD q []++[c])) (w.drop (k+1)):=by
 rw[BB a,splitAt]
def YV(t:A3)(w v:W):Prop:=∃r,(r=[]\/r∈t.rows)/\∃k:Nat,v=r++w.drop k
theorem RA{c:C}{L:W->Bool}{ok:W->Prop}(I:Jj Tryz.prog TB c L ok)(al:Int)(t:A3)(hf:Ji ok (A2 al) t)(ht:Ho al 20012 t)(hal:Bb al=true)(n:BU L (A2 al) t)(ho:Bk L (A2 al) t=none)(w:W)(H:∀v,YV t w v->ok v)(z:AN (A2 al) w)(hwl:w.length<=20000) :
 Pure Tryz.prog TB 202 [Iz al c,DU t,eT w] (aD (CM L t w)):=by
 have M:=Eu c I.BT;have Q:=ht.rl;have U:=QV (TB:=TB) I al t hf ht ho;have J:=LI hal n Q;have N:=FB (TB:=TB) (AY L al t) J
 have hnl:(AY L al t).nx.length=t.rows.length:=by simp[AY]
 have V:0<t.rows.length:=(ce.1 n.r0).1;have B:=H w ⟨[],.inl rfl,0,rfl⟩
 have S:([Iz al c,DU t].all E.BT && C.C1 [])=true:=by simp[E.BT,C.C1,C.BT,I.BT]
 refine eN Tryz.func202 rfl (by kernel_rfl) rfl ?_;intro Z e;(repeat first|refine aU rfl ?_);(refine pW rfl ?_ rfl (by rfl);refine C4 rfl rfl ?_);(refine Af rfl ?_;refine CG (λ_ _=>De rfl rfl rfl) rfl ?_);(repeat first|refine tA rfl ?_|refine aU rfl ?_|apply Aa);(repeat first|refine tA rfl ?_|(refine Af rfl ?_;refine gA rfl ?_;first|refine gS (λ_ _=>A8 rfl rfl S U rfl) ?_)|refine aU rfl ?_|apply Aa);(repeat first|refine tA rfl ?_|refine sP rfl (N) rfl ?_|refine aU rfl ?_|apply Aa);apply aB;refine aL (α:={k:Nat // k<=w.length}) [2,3,4,8,9,20] [0,1] rfl rfl (λ⟨k,hk⟩=>[(10,eI .i64 (runM L t 0 (w.take k):Nat)),(21,eI .i64 k)]) (λ⟨k,hk⟩=>[]) 2 (λ⟨k,hk⟩=>w.length-k) (⟨0,by omega⟩) e rfl (by (simp[cX,zC,e,M]<;>rfl)) ?_;rintro⟨k,hk⟩;(try dsimp only[cA,cB]);have r:=n.run (w.take k) 0 (J9 z k) V;by_cases u:k<w.length
 ·obtain⟨o,d⟩:=get_some u
  have y:w[((k:Nat):Int).toNat]?=some o:=by simpa using d
  have m:=z o (co d);have j:=IL m;have x:=HA (TB:=TB) w k o y j;have ta:=IY (a:=AY L al t) (q:=(((runM L t 0 (w.take k):Nat):Int)).toNat) (by omega)
  have el:((((o.toNat:Int)-97).toNat:Nat):Int)=(o.toNat:Int)-97:=by omega
  have ra:=Hi (h:=λl=>BS (AY L al t) (((runM L t 0 (w.take k):Nat):Int)).toNat l) j.1 (by omega);simp only[el]at ra;have f:=LU (L:=L) (al:=al) (t:=t) (q:=runM L t 0 (w.take k)) r m;have p:=NI (L:=L) (t:=t) d 0;rw[<-p]at f;rw[f9,f]at ra;(repeat first|refine s2 rfl λ_ b=>?_|refine aU rfl ?_|apply Aa);(refine aC rfl ?_ ?_<;>rintro⟨⟩)
  ·(repeat' first|(refine sA rfl ?_ ?_;first|exact tI|omega)|(refine s4 rfl ‹_› rfl ?_ ?_;omega)|refine sP rfl (x) rfl ?_|(refine Af rfl ?_;refine gA rfl ?_;first|refine gS (λ_ _=>Dy rfl ra) ?_)|refine aU rfl ?_|apply Aa|refine rE (by kernel_rfl) ?_|(refine aC rfl ?_ ?_<;>rintro⟨⟩)|apply aK|apply aE|apply aB|refine aR ⟨_,rfl,?_⟩)
   refine⟨⟨k+1,by omega⟩,by dsimp only;(omega),[0,1],?_⟩;simp[cX,zC,e,M]
  ·exfalso;(simp only[oZ] at *;omega)
 ·obtain rfl : k=w.length:=by omega
  rw[io] at *;(repeat first|refine s2 rfl λ_ b=>?_|refine aU rfl ?_|apply Aa);(refine aC rfl ?_ ?_<;>rintro⟨⟩)
  ·exfalso;(simp only[oZ] at *;omega)
  ·apply aE
   have hacx:((AY L al t).ac.map HU)[(((runM L t 0 w:Nat):Int)).toNat]?=some (HU (MY L t w)):=by
    unfold MY;simp[AY,List.getD,r]
   (repeat first|refine tA rfl ?_|(refine s4 rfl ‹_› rfl ?_ ?_;omega)|refine s2 rfl λ_ b=>?_|(refine Af rfl ?_;refine gA rfl ?_;first|refine gS (λ_ _=>I.ask rfl rfl B) ?_)|refine aU rfl ?_|apply Aa);(refine aC rfl ?_ ?_<;>rintro⟨⟩)
   ·have hn:CM L t w=none:=by unfold CM;rw[if_pos (by simpa using b)]
    (repeat first|refine tA rfl ?_|refine aU rfl ?_|apply Aa);refine aR ⟨_,rfl,?_⟩;rw[hn];rfl
   ·have P:CM L t w=splitAt L t (L w) 0 w:=by unfold CM;rw[if_neg (by simpa using b)]
    rw[P];apply aK;(repeat first|refine tA rfl ?_|refine aU rfl ?_|apply Aa);apply aB;refine aL (α:={k:Nat // k<=w.length/\splitAt L t (L w) 0 w=splitAt L t (L w) (runM L t 0 (w.take k)) (w.drop k)}) [2,3,4,9,12,45] [0] rfl rfl (λ⟨k,hk,i⟩=>[(10,eI .i64 (runM L t 0 (w.take k):Nat)),(46,eI .i64 k)]) (λ⟨k,hk,i⟩=>[]) 1 (λ⟨k,hk,i⟩=>w.length-k) (⟨0,by omega,rfl⟩) e rfl (by (simp[cX,zC,e,M]<;>rfl)) ?_;rintro⟨k,hk,i⟩;(try dsimp only[cA,cB]);have r:=n.run (w.take k) 0 (J9 z k) V;by_cases u:k<w.length
    ·obtain⟨o,d⟩:=get_some u
     have y:w[((k:Nat):Int).toNat]?=some o:=by simpa using d
     have m:=z o (co d);have j:=IL m;have x:=HA (TB:=TB) w k o y j;have ta:=IY (a:=AY L al t) (q:=(((runM L t 0 (w.take k):Nat):Int)).toNat) (by omega)
     have el:((((o.toNat:Int)-97).toNat:Nat):Int)=(o.toNat:Int)-97:=by omega
     have ra:=Hi (h:=λl=>BS (AY L al t) (((runM L t 0 (w.take k):Nat):Int)).toNat l) j.1 (by omega);simp only[el]at ra;have f:=LU (L:=L) (al:=al) (t:=t) (q:=runM L t 0 (w.take k)) r m;have p:=NI (L:=L) (t:=t) d 0;have A:=n.run (w.take (k+1)) 0 (J9 z (k+1)) V;rw[MC d,<-p]at i;rw[<-p]at f;rw[f9,f]at ra;generalize R:runM L t 0 (w.take (k+1))=X at *;obtain⟨K,s⟩:=get_some (l:=t.rows) (k:=X) A;have Y:=get_map (g:=CR) s
     have T:t.rows.getD X []=K:=by simp[List.getD,s]
     rw[T]at i;have hrb:=ht.onR K (co s);have hdl:(w.drop (k+1)).length=w.length-(k+1):=tB;have F:=H (K++w.drop (k+1)) ⟨K,.inr (co s),k+1,rfl⟩
     have G:(((k:Nat):Int)+1).toNat=k+1:=by omega
     (repeat first|refine s2 rfl λ_ b=>?_|refine aU rfl ?_|apply Aa);(refine aC rfl ?_ ?_<;>rintro⟨⟩)
     ·apply aK
      refine aS (aB ?_);(repeat first|(refine sA rfl ?_ ?_;first|exact tI|omega)|(refine s4 rfl ‹_› rfl ?_ ?_;omega)|refine sP rfl (x) rfl ?_|(refine Af rfl ?_;refine gA rfl ?_;first|refine gS (λ_ _=>Dy rfl ra) ?_)|refine aU rfl ?_|apply Aa|refine rE (by kernel_rfl) ?_);(repeat first|(refine Af rfl ?_;refine gA rfl ?_;first|refine gS (λ_ _=>Et rfl rfl (by omega) (by omega)) ?_));rw[G];(repeat first|(refine sA rfl ?_ ?_;first|exact tI|omega)|refine s2 rfl λ_ b=>?_|(refine Af rfl ?_;refine gA rfl ?_;first|refine gS (λ_ _=>I.ask rfl rfl F) ?_)|apply Aa);(refine aC rfl ?_ ?_<;>rintro⟨⟩)
      ·rw[if_pos (by simpa using b)]at i
       (repeat first|(refine sA rfl ?_ ?_;first|exact tI|omega)|(refine Af rfl ?_;refine gA rfl ?_;first|refine gS (λ_ _=>Et rfl rfl (by omega) (by omega)) ?_)|refine aU rfl ?_|apply Aa);refine aR ⟨_,rfl,?_⟩;rw[G,i];rfl
      ·rw[if_neg (by simpa using b)]at i
       apply aK;(repeat first|(refine sA rfl ?_ ?_;first|exact tI|omega)|refine aU rfl ?_|apply Aa);subst R;refine⟨⟨k+1,by omega,i⟩,by dsimp only;(omega),[0],?_⟩;simp[cX,zC,e,M]
     ·exfalso;(simp only[oZ] at *;omega)
    ·obtain rfl:k=w.length:=by omega
     rw[rv]at i;(repeat first|refine s2 rfl λ_ b=>?_|refine aU rfl ?_|apply Aa);(refine aC rfl ?_ ?_<;>rintro⟨⟩)
     ·exfalso;(simp only[oZ] at *;omega)
     ·apply aE
      (repeat first|refine tA rfl ?_|refine aU rfl ?_|apply Aa);refine aR ⟨_,rfl,?_⟩;rw[i];rfl
theorem Ho.pz{ok:W->Prop}{al:Int}{t:A3}(ht:Ho al 20012 t)(f:SQ ok al){w:W}(e:AN (A2 al) w)(d:w.length<=20000):∀v,YV t w v->ok v:=by
 rintro v ⟨r,b,k,rfl⟩
 have g:AN (A2 al) r/\r.length<=20012:=by
  rcases b with rfl|b
  ·exact⟨λc a=>by simp at a,by simp⟩
  ·exact ht.onR r b
 refine f _ (λc a=>?_) (by simp;omega)
 rcases d9.1 a with a|a
 ·exact g.1 c a
 ·exact iy e _ c a
def Hm(L:W->Bool)(ls:List UInt8)(t:A3)(w:W):Option A3:=(CM L t w).bind λv=>(FO t v).bind λu=>Bv L ls 13 u
theorem Om{L:W->Bool}{t:A3}{b:Bool}:∀ {w:W} {q:Nat} {v:W},splitAt L t b q w=some v->∃p,p≠[]/\w=p++v
 | [],q,v,h=>by simp[splitAt]at h
 | c::w,q,v,h=>by
  unfold splitAt at h;split at h
  ·injection h with h;subst h;exact⟨[c],by simp,rfl⟩
  ·obtain⟨p,_,a⟩:=Om h;exact⟨c::p,by simp,by rw[a];rfl⟩
theorem IW{L:W->Bool}{t:A3}{w v:W}(h:CM L t w=some v):∃p,p≠[]/\w=p++v:=by
 unfold CM at h;split at h
 ·cases h
 ·exact Om h
theorem Ho.mono{al:Int}{b b':Nat}{t:A3}(h:Ho al b t)(hb:b<=b'):Ho al b' t:=⟨λw a=>⟨(h.onR w a).1,lc (h.onR w a).2 hb⟩,h.onC,h.rl,h.cl⟩
theorem SU{al:Int}{b:Nat}{t u:A3}{v:W}(h:Ho al b t)(c:AN (A2 al) v)(f:v.length<=20000)(ha:FO t v=some u):Ho al b u:=by
 unfold FO at ha;split at ha
 ·cases ha
 ·rename_i d
  injection ha with ha
  subst ha;refine⟨h.onR,λx a=>?_,h.rl,?_⟩
  ·rcases d9.1 a with a|a
   ·exact h.onC x a
   ·simp at a;subst a;exact⟨c,f⟩
  ·have:=h.cl
   have g:t.cols.length≠20:=λe=>d (.inl e);simp;omega
def YU(L:W->Bool)(ls:List UInt8)(t:A3)(w v:W):Prop:=NX ls t v\/YV t w v\/∃x,CM L t w=some x/\∃u,FO t x=some u/\∃y∈Fb L ls 13 u,NX ls y v
theorem KE{c:C}{L:W->Bool}{ok:W->Prop}(k:Jj Tryz.prog TB c L ok)(al:Int)(t:A3)(ht:Ho al 20000 t)(hal:Bb al=true)(B:BU L (A2 al) t)(K:Bk L (A2 al) t=none)(w:W)(A:∀v,YU L (A2 al) t w v->ok v)(F:AN (A2 al) w)(m:w.length<=20000) :
 Pure Tryz.prog TB 126 [Iz al c,DU t,eT w] (I7 (Hm L (A2 al) t w)):=by
 have M:=Eu c k.BT
 have b:([Iz al c,DU t,eT w].all E.BT && C.C1 [])=true:=by simp[E.BT,C.C1,C.BT,k.BT]
 have e:=RA (TB:=TB) k al t (λv q=>A v (.inl q)) (ht.mono (by omega)) hal B K w (λv q=>A v (.inr (.inl q))) F m;have J:=ht.rl;have G:=ht.cl
 rcases j:CM L t w with _|v
 ·have s:Hm L (A2 al) t w=none:=by unfold Hm;rw[j];rfl
  rw[s];rw[j]at e;refine AK.HL (AK.ofM 2 (i9 _) Tryz.func126 rfl rfl (by kernel_rfl) (am rfl) ?_);intro Z i;(repeat first|refine aU rfl ?_);(refine pW rfl ?_ rfl (by rfl);refine C4 rfl rfl ?_);(refine pW rfl ?_ rfl (by rfl);refine C4 rfl rfl ?_);(repeat first|refine tA rfl ?_|refine aU rfl ?_|apply Aa);(repeat first|refine tA rfl ?_|refine s2 rfl λ_ a=>?_|(refine Af rfl ?_;refine gA rfl ?_;first|refine gS (λ_ _=>A8 rfl rfl b e rfl) ?_)|refine aU rfl ?_|apply Aa)
  ((refine aC rfl ?_ ?_<;>rintro⟨⟩);all_goals try (simp at a;done))
  (repeat first|refine tA rfl ?_|(refine Af rfl ?_;refine gA rfl ?_;first|refine gS (λ_ _=>AA rfl rfl (by rfl) (by rfl)) ?_)|refine aU rfl ?_|apply Aa);refine Ak.settle [(6,.o (.ip [.l [],.l []])),(7,eB false)] ⟨⟨_,rfl,.o (.box rfl (.cons .d (.cons .d .nil)))⟩,⟨_,rfl,.o .d⟩,trivial⟩ ?_;refine aR ⟨_,rfl,rfl⟩
 ·have r:=IW j
  have n:AN (A2 al) v/\v.length<=20000:=by
   obtain⟨p,_,rfl⟩:=r;exact⟨λc k=>F c (by simp[k]),by simp at m;omega⟩
  have f:=SV (TB:=TB) t v (by omega) (by omega);rw[j]at e
  rcases ha:FO t v with _|u
  ·have s:Hm L (A2 al) t w=none:=by unfold Hm;rw[j];simp[ha]
   rw[s];rw[ha]at f;refine AK.HL (AK.ofM 2 (i9 _) Tryz.func126 rfl rfl (by kernel_rfl) (am rfl) ?_);intro Z i;(repeat first|refine aU rfl ?_);(refine pW rfl ?_ rfl (by rfl);refine C4 rfl rfl ?_);(refine pW rfl ?_ rfl (by rfl);refine C4 rfl rfl ?_);(repeat first|refine tA rfl ?_|refine aU rfl ?_|apply Aa);(repeat first|refine tA rfl ?_|refine s2 rfl λ_ a=>?_|(refine Af rfl ?_;refine gA rfl ?_;first|refine gS (λ_ _=>A8 rfl rfl b e rfl) ?_)|refine aU rfl ?_|apply Aa)
   ((refine aC rfl ?_ ?_<;>rintro⟨⟩);all_goals try (simp at a;done))
   apply aK;(repeat first|refine tA rfl ?_|refine s2 rfl λ_ a=>?_|refine sP rfl (f) rfl ?_|refine aU rfl ?_|apply Aa)
   ((refine aC rfl ?_ ?_<;>rintro⟨⟩);all_goals try (simp at a;done))
   (repeat first|refine tA rfl ?_|(refine Af rfl ?_;refine gA rfl ?_;first|refine gS (λ_ _=>AA rfl rfl (by rfl) (by rfl)) ?_)|refine aU rfl ?_|apply Aa);refine Ak.settle [(6,.o (.ip [.l [],.l []])),(7,eB false)] ⟨⟨_,rfl,.o (.box rfl (.cons .d (.cons .d .nil)))⟩,⟨_,rfl,.o .d⟩,trivial⟩ ?_;refine aR ⟨_,rfl,rfl⟩
  ·have I:=SU ht n.1 n.2 ha
   have g:=Jq (TB:=TB) k al u (λy H v q=>A v (.inr (.inr ⟨_,j,_,ha,y,H,q⟩))) I
   have h:([Iz al c,DU u].all E.BT && C.C1 [])=true:=by simp[E.BT,C.C1,C.BT,k.BT]
   have s:Hm L (A2 al) t w=Bv L (A2 al) 13 u:=by unfold Hm;rw[j];simp[ha]
   rw[s];rw[ha]at f
   rcases z:Bv L (A2 al) 13 u with _|x
   ·rw[z]at g
    refine AK.HL (AK.ofM 2 (i9 _) Tryz.func126 rfl rfl (by kernel_rfl) (am rfl) ?_);intro Z i;(repeat first|refine aU rfl ?_);(refine pW rfl ?_ rfl (by rfl);refine C4 rfl rfl ?_);(refine pW rfl ?_ rfl (by rfl);refine C4 rfl rfl ?_);(repeat first|refine tA rfl ?_|refine aU rfl ?_|apply Aa);(repeat first|refine tA rfl ?_|refine s2 rfl λ_ a=>?_|(refine Af rfl ?_;refine gA rfl ?_;first|refine gS (λ_ _=>A8 rfl rfl b e rfl) ?_)|refine aU rfl ?_|apply Aa)
    ((refine aC rfl ?_ ?_<;>rintro⟨⟩);all_goals try (simp at a;done))
    apply aK;(repeat first|refine tA rfl ?_|refine s2 rfl λ_ a=>?_|refine sP rfl (f) rfl ?_|refine aU rfl ?_|apply Aa)
    ((refine aC rfl ?_ ?_<;>rintro⟨⟩);all_goals try (simp at a;done))
    apply aK;(repeat first|refine tA rfl ?_|(refine Af rfl ?_;refine gA rfl ?_;first|refine gS (λ_ _=>A8 rfl rfl h g rfl) ?_)|refine aU rfl ?_|apply Aa);refine Ak.settle [(6,.o (.ip [.l [],.l []])),(7,eB false)] ⟨⟨_,rfl,.o (.box rfl (.cons .d (.cons .d .nil)))⟩,⟨_,rfl,.o .d⟩,trivial⟩ ?_;refine aR ⟨_,rfl,rfl⟩
   ·rw[z]at g
    refine AK.HL (AK.ofM 2 (i9 _) Tryz.func126 rfl rfl (by kernel_rfl) (am rfl) ?_);intro Z i;(repeat first|refine aU rfl ?_);(refine pW rfl ?_ rfl (by rfl);refine C4 rfl rfl ?_);(refine pW rfl ?_ rfl (by rfl);refine C4 rfl rfl ?_);(repeat first|refine tA rfl ?_|refine aU rfl ?_|apply Aa);(repeat first|refine tA rfl ?_|refine s2 rfl λ_ a=>?_|(refine Af rfl ?_;refine gA rfl ?_;first|refine gS (λ_ _=>A8 rfl rfl b e rfl) ?_)|refine aU rfl ?_|apply Aa)
    ((refine aC rfl ?_ ?_<;>rintro⟨⟩);all_goals try (simp at a;done))
    apply aK;(repeat first|refine tA rfl ?_|refine s2 rfl λ_ a=>?_|refine sP rfl (f) rfl ?_|refine aU rfl ?_|apply Aa)
    ((refine aC rfl ?_ ?_<;>rintro⟨⟩);all_goals try (simp at a;done))
    apply aK;(repeat first|refine tA rfl ?_|(refine Af rfl ?_;refine gA rfl ?_;first|refine gS (λ_ _=>A8 rfl rfl h g rfl) ?_)|refine aU rfl ?_|apply Aa);refine Ak.settle [(6,.o (.ip [BX x.rows,BX x.cols])),(7,eB true)] ⟨⟨_,rfl,.o (.box rfl (.cons .d (.cons .d .nil)))⟩,⟨_,rfl,.o .d⟩,trivial⟩ ?_;refine aR ⟨_,rfl,rfl⟩
end Go.Am
namespace Go.Am
open Go
theorem Ki{g:Gr}:∀ {u v:List Int} {a x:Int},reach g (u++v) a x↔∃y,reach g u a y/\reach g v y x
 | [],v,a,x=>⟨λh=>⟨a,rfl,h⟩,λ⟨y,c,b⟩=>by cases c;exact b⟩
 | l :: u,v,a,x=>by
  simp only[qI,reach];constructor
  ·rintro⟨y,d,h⟩
   obtain⟨z,c,b⟩:=Ki.1 h;exact⟨z,⟨y,d,c⟩,b⟩
  ·rintro⟨z,⟨y,d,c⟩,b⟩
   exact⟨y,d,Ki.2 ⟨z,c,b⟩⟩
theorem kM(n:Nat)(f:Nat->Int)(h:∀i,i<=n->0<=f i/\f i<n):∃i j,i<j/\j<=n/\f i=f j:=by
 apply Classical.byContradiction;intro hno
 have g:((List.range (n+1)).map λi=>(f i).toNat).Nodup:=by
  unfold List.Nodup;rw[qS];refine List.pairwise_lt_range.imp_of_mem λ{a b} ha hb c k=>hno ⟨a,b,c,?_,?_⟩
  ·have:=pG.1 hb;omega
  ·have d:=h a (by have:=pG.1 ha;omega)
   have l:=h b (by have:=pG.1 hb;omega);omega
 have d:=PW n _ g λx e=>by
  obtain⟨i,hi,rfl⟩:=d8.1 e;have:=h i (by have:=pG.1 hi;omega);omega
 simp at d;omega
theorem CC.short{g:Gr}(n:Jc g){w:List Int}(h:CC g (some w)):w.length<g.N:=by
 obtain⟨e,⟨x,o,c⟩,r⟩:=h;apply Classical.byContradiction;intro m;have b:∀k,∃y,reach g (w.take k) g.s0 y/\reach g (w.drop k) y x:=λk=>Ki.1 (by rw[qo];exact o);obtain⟨f,d⟩:=Classical.axiomOfChoice b;obtain⟨i,j,p,s,q⟩:=kM g.N f λi _=>DQ n (λl a=>e l (pL a)) n.s0 (d i).1;refine r (w.take i++w.drop j) (λl a=>?_) ⟨x,Ki.2 ⟨f i,(d i).1,q▸(d j).2⟩,c⟩ (.inl ?_)
 ·rcases d9.1 a with a|a
  ·exact e l (pL a)
  ·exact e l (qO a)
 ·simp;omega
theorem QI{al:Int}:∀ {w:List Int},(∀l∈w,l∈Ac al)->AN (A2 al) (Dg w):=λ{w} h c b=>by
 obtain⟨l,a,rfl⟩:=d8.1 b;exact OQ (h l a)
theorem NP(L:W->Bool)(ls:List UInt8):TOk L ls BA:=by
 refine⟨rfl,rfl,λi w hi d=>?_,λw a=>?_,λw a=>?_,by simp[AS,BA],by simp[BA]⟩
 ·have:=(ce.1 hi).1
  simp[BA]at this;omega
 ·simp[BA]at a;subst a;exact λc b=>(by cases b)
 ·simp[BA]at a;subst a;exact λc b=>(by cases b)
theorem TOk.short{L:W->Bool}{ls:List UInt8}{t:A3}(h:TOk L ls t):∀(i:Nat) w,t.rows[i]?=some w->w.length<=i:=by
 intro i
 induction i using Nat.strongRecOn with
 | _ i c=>
  intro w a
  rcases qk i with b|b
  ·subst b
   rw[h.r0]at a
   injection a with a
   subst a;simp
  ·obtain⟨f,j,d,e⟩:=h.pre i w a b
   have:=c j d _ e;simp at this;omega
end Go.Am
namespace Go.Am
open Go Go.Proofs
set_option maxHeartbeats 1000000
set_option maxRecDepth 4000
attribute [local irreducible] A9 CY Lex BV Ak Spec
variable {TB:BR}
abbrev oY(kn:Bool)(p:AV)(s:Sys)(q:AV)(al:Int):E:=.a ((fY kn p s q al).map .d)
abbrev nQ:AV:=⟨0,[],[]⟩
theorem IG(w:W)(i:Nat)(c:UInt8)(b:w[((i:Nat):Int).toNat]?=some c):Pure Tryz.prog TB 269 [eT w,eI .i64 i] (eI .i64 ((c.toNat:Int)-97)):=by
 have hb:=c.toNat_lt;refine eN Tryz.func269 rfl (by kernel_rfl) rfl ?_;intro Z a;(repeat' first|(refine sA rfl ?_ ?_;first|exact tI|omega)|(refine s4 rfl ‹_› rfl ?_ ?_;omega)|refine aU rfl ?_|apply Aa|(refine aC rfl ?_ ?_<;>rintro⟨⟩)|apply aK|apply aE|apply aB|refine aR ⟨_,rfl,?_⟩);rfl
theorem Vn(n:Int)(a:0<=n)(c:n<16):Pure Tryz.prog TB 206 [eI .i64 n] (eI .i64 ((2 ^ n.toNat:Nat):Int)):=by
 refine eN Tryz.func206 rfl (by kernel_rfl) rfl ?_;intro Z b;(repeat' first|(refine sA rfl ?_ ?_;first|exact tI|omega)|(refine Af rfl ?_;refine gA rfl ?_;first|refine gS (λ_ _=>fp rfl rfl a (ZM a c)) ?_)|refine aU rfl ?_|apply Aa|(refine aC rfl ?_ ?_<;>rintro⟨⟩)|apply aK|apply aE|apply aB|refine aR ⟨_,rfl,?_⟩);rfl
theorem FQ{c:UInt8}:Gx c=decide (0<=(c.toNat:Int)-97/\(c.toNat:Int)-97<6):=by
 unfold Gx;rw[qU,decide_eq_true_eq,decide_eq_true_eq];omega
theorem MO(w:W)(p:w.length<=1099511627776):Pure Tryz.prog TB 268 [eT w] (eB (EJ w)):=by
 by_cases n:w.length<=50000
 ·have g : EJ w=w.all Gx:=by unfold EJ;simp[n]
  rw[g];refine eN Tryz.func268 rfl (by kernel_rfl) rfl ?_;intro Z d;(repeat first|refine tA rfl ?_|refine s2 rfl λ_ b=>?_|refine aU rfl ?_|apply Aa);(refine aC rfl ?_ ?_<;>rintro⟨⟩)
  ·exfalso;(simp only[oZ] at *;omega)
  apply aK;(repeat first|refine tA rfl ?_|refine aU rfl ?_|apply Aa);apply aB;refine aL (α:={k:Nat // k<=w.length/\(w.take k).all Gx=true}) [0] [] rfl rfl (λ⟨k,hk,ha⟩=>[(3,eI .i64 k)]) (λ⟨k,hk,ha⟩=>[]) 0 (λ⟨k,hk,ha⟩=>w.length-k) (⟨0,by omega,rfl⟩) d rfl (by (simp[cX,zC,d])) ?_;rintro⟨k,hk,ha⟩;(try dsimp only[cA,cB]);by_cases j:k<w.length
  ·obtain⟨c,m⟩:=get_some j
   have l:w[((k:Nat):Int).toNat]?=some c:=by simpa using m
   have h:=IG (TB:=TB) w k c l;have i:=FQ (c:=c);by_cases a:Gx c=true
   ·have e:=GR m ha a
    rw[i]at a;simp only[decide_eq_true_eq]at a;(repeat first|refine tA rfl ?_|refine s2 rfl λ_ b=>?_|refine aU rfl ?_|apply Aa);(refine aC rfl ?_ ?_<;>rintro⟨⟩)
    ·(repeat' first|(refine sA rfl ?_ ?_;first|exact tI|omega)|refine s2 rfl λ_ b=>?_|refine sP rfl (h) rfl ?_|refine s3 rfl ?_ ?_<;>rintro rfl|refine aU rfl ?_|apply Aa|(refine aC rfl ?_ ?_<;>rintro⟨⟩)|apply aK|apply aE|apply aB|refine aR ⟨_,rfl,?_⟩)
     ·exfalso;(simp only[oZ] at *;omega)
     ·exfalso;(simp only[oZ] at *;omega)
     ·refine⟨⟨k+1,by omega,e⟩,by dsimp only;(omega),[],?_⟩
      simp[cX,zC,d]
    ·exfalso;(simp only[oZ] at *;omega)
   ·have e:=Iv m (f:=Gx) (by simpa using a)
    rw[i]at a;simp only[decide_eq_true_eq]at a;(repeat first|refine tA rfl ?_|refine s2 rfl λ_ b=>?_|refine aU rfl ?_|apply Aa);(refine aC rfl ?_ ?_<;>rintro⟨⟩)
    ·(repeat' first|(refine sA rfl ?_ ?_;first|exact tI|omega)|refine s2 rfl λ_ b=>?_|refine sP rfl (h) rfl ?_|refine s3 rfl ?_ ?_<;>rintro rfl|refine aU rfl ?_|apply Aa|(refine aC rfl ?_ ?_<;>rintro⟨⟩)|apply aK|apply aE|apply aB|refine aR ⟨_,rfl,?_⟩)
     ·rw[e]
     ·rw[e]
     ·exfalso;(simp only[oZ] at *;omega)
    ·exfalso;(simp only[oZ] at *;omega)
  ·have o:=GQ ha (show w.length<=k by omega)
   (repeat first|refine tA rfl ?_|refine s2 rfl λ_ b=>?_|refine aU rfl ?_|apply Aa);(refine aC rfl ?_ ?_<;>rintro⟨⟩)
   ·exfalso;(simp only[oZ] at *;omega)
   ·(repeat' first|refine tA rfl ?_|refine aU rfl ?_|apply Aa|(refine aC rfl ?_ ?_<;>rintro⟨⟩)|apply aK|apply aE|apply aB|refine aR ⟨_,rfl,?_⟩)
    rw[o]
 ·have g:EJ w=false:=by unfold EJ;simp[n]
  rw[g];refine eN Tryz.func268 rfl (by kernel_rfl) rfl ?_;intro Z d;(repeat first|refine tA rfl ?_|refine s2 rfl λ_ b=>?_|refine aU rfl ?_|apply Aa);(refine aC rfl ?_ ?_<;>rintro⟨⟩)
  ·(repeat' first|refine tA rfl ?_|refine aU rfl ?_|apply Aa|(refine aC rfl ?_ ?_<;>rintro⟨⟩)|apply aK|apply aE|apply aB|refine aR ⟨_,rfl,?_⟩)
   rfl
  ·exfalso;(simp only[oZ] at *;omega)
abbrev oN(n:Int)(b:Bool):E:=.t [(false,[.d (iD n)]),(false,[.d (bD b)])]
theorem bY{w:W}{k:Nat}{c:UInt8}(a:w[k]?=some c):Lp (w.take (k+1))=Lp (w.take k) ||| 2 ^ (c.toNat-97):=by
 unfold Lp;rw[f6,a];simp
theorem QU(w:W)(s:w.length<=1099511627776):Pure Tryz.prog TB 224 [eT w] (if EJ w then oN (Lp w:Nat) true else oN 0 false):=by
 have f:=MO (TB:=TB) w s;by_cases e:EJ w=true
 ·have a:=e
  unfold EJ at a;simp only[d4,decide_eq_true_eq]at a;rw[if_pos e];refine eN Tryz.func224 rfl (by kernel_rfl) rfl ?_;intro Z d;(repeat first|refine tA rfl ?_|refine s2 rfl λ_ b=>?_|(refine sC rfl (f) ?_;intro _ b)|refine aU rfl ?_|apply Aa);(refine aC rfl ?_ ?_<;>rintro⟨⟩)
  ·exfalso;simp at *;grind
  apply aK;(repeat first|refine tA rfl ?_|refine aU rfl ?_|apply Aa);apply aB;refine aL (α:={k:Nat // k<=w.length}) [0] [] rfl rfl (λ⟨k,hk⟩=>[(4,eI .i64 (Lp (w.take k):Nat)),(5,eI .i64 k)]) (λ⟨k,hk⟩=>[]) 0 (λ⟨k,hk⟩=>w.length-k) (⟨0,by omega⟩) d rfl (by (simp[cX,zC,d]<;>rfl)) ?_;rintro⟨k,hk⟩;(try dsimp only[cA,cB]);by_cases m:k<w.length
  ·obtain⟨c,p⟩:=get_some m
   have o:w[((k:Nat):Int).toNat]?=some c:=by simpa using p
   have n:=IG (TB:=TB) w k c o;have h:=(gc.1 a.2) c (co p);rw[FQ,decide_eq_true_eq]at h;have i:=Vn (TB:=TB) ((c.toNat:Int)-97) h.1 (by omega);have j:=bY p;have l:Lp (w.take k)<64:=Uc (by rw[gc];exact λx r=>(gc.1 a.2) x (pL r)) (by omega)
   have ht:((c.toNat:Int)-97).toNat=c.toNat-97:=by omega
   have q:2 ^ (c.toNat-97)<2 ^ 6:=rF (by omega) (by omega);have g:=(LX l q).1;rw[<-j]at g;rw[ht]at i;(repeat first|refine tA rfl ?_|refine s2 rfl λ_ b=>?_|refine aU rfl ?_|apply Aa);(refine aC rfl ?_ ?_<;>rintro⟨⟩)
   ·(repeat' first|(refine sA rfl ?_ ?_;first|exact tI|omega)|refine sP rfl (n) rfl ?_|refine sP rfl (i) rfl ?_|refine aU rfl ?_|apply Aa|(refine aC rfl ?_ ?_<;>rintro⟨⟩)|apply aK|apply aE|apply aB|refine aR ⟨_,rfl,?_⟩)
    rw[g];refine⟨⟨k+1,by omega⟩,by dsimp only;(omega),[],?_⟩;simp[cX,zC,d]
   ·exfalso;(simp only[oZ] at *;omega)
  ·obtain rfl:k=w.length:=by omega
   rw[io];(repeat first|refine tA rfl ?_|refine s2 rfl λ_ b=>?_|refine aU rfl ?_|apply Aa);(refine aC rfl ?_ ?_<;>rintro⟨⟩)
   ·exfalso;(simp only[oZ] at *;omega)
   ·(repeat' first|refine tA rfl ?_|refine aU rfl ?_|apply Aa|(refine aC rfl ?_ ?_<;>rintro⟨⟩)|apply aK|apply aE|apply aB|refine aR ⟨_,rfl,?_⟩)
    rfl
 ·rw [if_neg e]
  refine eN Tryz.func224 rfl (by kernel_rfl) rfl ?_;intro Z d;(repeat first|refine tA rfl ?_|refine s2 rfl λ_ b=>?_|(refine sC rfl (f) ?_;intro _ b)|refine aU rfl ?_|apply Aa);(refine aC rfl ?_ ?_<;>rintro⟨⟩)
  ·(repeat' first|refine tA rfl ?_|refine aU rfl ?_|apply Aa|(refine aC rfl ?_ ?_<;>rintro⟨⟩)|apply aK|apply aE|apply aB|refine aR ⟨_,rfl,?_⟩)
   rfl
  ·exfalso;simp at *;grind
theorem Er(w:W)(al:Int)(i:w.length<=1099511627776):Pure Tryz.prog TB 159 [eT w,eI .i64 al] (eB (within w al)):=by
 have d:=QU (TB:=TB) w i;have g:=Dw (TB:=TB) al;by_cases a:EJ w=true
 ·rw [if_pos a]at d
  unfold EJ at a;simp only[d4,decide_eq_true_eq]at a
  have f:within w al=(Bb al && w.all (IF al)):=by unfold within;simp[a.1]
  rw[f];refine eN Tryz.func159 rfl (by kernel_rfl) rfl ?_;intro Z e;(repeat' first|refine tA rfl ?_|refine s2 rfl λ_ c=>?_|refine sP rfl (d) rfl ?_|(refine sC rfl (g) ?_;intro _ c)|refine s3 rfl ?_ ?_<;>rintro rfl|refine aU rfl ?_|apply Aa|(refine aC rfl ?_ ?_<;>rintro⟨⟩)|apply aK|apply aE|apply aB|refine aR ⟨_,rfl,?_⟩)
  all_goals first
   | (show E.o _=E.o _;congr;grind)
   | (rename_i ha b;rw[iS a.2 ha]at c;show E.o _=E.o _;rw[ha,c];rfl)
 ·rw [if_neg a]at d
  have f:within w al=false:=by
   rw[Bool.eq_false_iff];intro h;unfold within at h;simp only[d4,decide_eq_true_eq]at h;exact a (by unfold EJ;simp[h.1,YE h.2.2])
  rw[f];refine eN Tryz.func159 rfl (by kernel_rfl) rfl ?_;intro Z e;(repeat' first|refine tA rfl ?_|refine sP rfl (d) rfl ?_|(refine sC rfl (g) ?_;intro _ c)|refine aU rfl ?_|apply Aa|(refine aC rfl ?_ ?_<;>rintro⟨⟩)|apply aK|apply aE|apply aB|refine aR ⟨_,rfl,?_⟩)
  all_goals rfl
end Go.Am
