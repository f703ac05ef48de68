/-
  The program's search, as plain data: visits.
-/
import Derived.Test.YtohfiindiidcfaaGreatDoorPart21
set_option linter.all false
namespace Go.Am
open Go
def Fa(steps:List Ov)(p l:Int)(fresh:List Int):List Ov:=if fresh=[] then steps else steps++[⟨p,l,fresh⟩]
def ny(ws:List (List Int))(w fresh:List Int):List (List Int):=if fresh=[] then ws else ws++[w]
structure Chain (ls:List Int) (steps:List Ov) (ws:List (List Int)):Prop where
 wlen:ws.length=steps.length
 chain:∀(t:Nat) s,steps[t]? = some s->(s.p = -1/\ws[t]? = some [])\/∃(q:Nat) (w:List Int),s.p=(q:Int)/\q < t/\ws[q]? = some w/\ws[t]? = some (w++[s.l])/\s.l∈ls
theorem Hi{α:Type}{l:List α}{x y:α}{t:Nat}(h:(l++[x])[t]? = some y):l[t]? = some y\/t=l.length/\y=x:=by
 rcases oY t l.length with a|a
 ·rw [f6 a] at h;exact .inl h
 ·rw [f9 a] at h
  have b:=(ce.1 h).1;simp at b
  have:t=l.length:=by omega
  subst this;simp at h;exact .inr ⟨rfl,h.symm⟩
theorem JH{α:Type}{l:List α}{x y:α}{t:Nat}(h:l[t]? = some y):(l++[x])[t]? = some y:=by
 rw [f6 (ce.1 h).1];exact h
theorem Chain.app{ls:List Int}{steps:List Ov}{ws:List (List Int)}(h:Chain ls steps ws){i:Nat}{wi:List Int}{l:Int}{ns:List Int}(d:ws[i]? = some wi)(f:l∈ls):Chain ls (steps++[⟨i,l,ns⟩]) (ws++[wi++[l]]):=by
 have hi:=(ce.1 d).1;refine⟨by simp [h.wlen],λt s e=>?_⟩
 rcases Hi e with b|⟨b,a⟩
 ·rcases h.chain t s b with ⟨a,c⟩|⟨q,w,a,c,k,j,g⟩
  ·exact .inl ⟨a,JH c⟩
  ·exact .inr ⟨q,w,a,c,JH k,JH j,g⟩
 ·subst a
  refine .inr ⟨i,wi,rfl,?_,JH d,?_,f⟩
  ·rw [b,<-h.wlen];exact hi
  ·rw [b,<-h.wlen];simp
theorem FI.Zw{g:Gr}{seen:List Bool}{steps:List Ov}{ws:List (List Int)}{i j:Nat}(h:FI g seen steps ws i j):Chain g.ls steps ws:=⟨h.wlen,h.chain⟩
theorem FI.visit{g:Gr}(Q:I6 g){seen:List Bool}{steps:List Ov}{ws:List (List Int)}{i j:Nat}(h:FI g seen steps ws i j){wi:List Int}{lj:Int}(K:ws[i]? = some wi)(U:g.ls[j]? = some lj){s:Ov}(hs:steps[i]? = some s)
 {R:List Int} (hR:∀y,y∈R↔∃n∈s.ns,y∈g.succ n lj) {st:iS} (z:kr g.goal g.N seen R st) (hf:st.found=false):FI g st.seen (Fa steps i lj st.fresh) (ny ws (wi++[lj]) st.fresh) i (j+1):=by
 have hl:=co U
 have Y:∀y∈R,0<=y/\y < g.N:=λy J=>by
  obtain⟨n,e,J⟩:=(hR y).1 J;exact Q.inn n (h.inn s (co hs) n e) lj hl y J
 have q:∀n:Int,0<=n->sn seen n=true->sn st.seen n=true:=λn e hx=>(z.snI n e).2 (.inl hx)
 have S:∀n∈st.fresh,g.goal n=false:=λn e=>by
  have:=z.fd;rw [hf] at this;have o:=List.any_eq_false.1 this.symm n e
  simpa using o
 have L:∀w∈ws,w=[]\/∃(p:Nat) (v:List Int) (l:Int),ws[p]? = some v/\w=v++[l]/\l∈g.ls/\(p < i\/p=i/\∃j',j' < j+1/\g.ls[j']? = some l):=λw K=>by
  rcases h.par w K with c|⟨p,v,l,c,o,f,k⟩
  ·exact .inl c
  ·refine .inr ⟨p,v,l,c,o,f,?_⟩
   rcases k with k|⟨k,j',h5,h6⟩
   ·exact .inl k
   ·exact .inr ⟨k,j',by omega,h6⟩
 have I:∀(t:Nat) s',steps[t]? = some s'->∀l,(t < i/\l∈g.ls\/t=i/\∃j',j' < j+1/\g.ls[j']? = some l)->∀n∈s'.ns,∀y∈g.succ n l,sn st.seen y=true:=by
  intro t s' d l H n e y J
  have B:0<=y/\y < g.N:=by
   refine Q.inn n (h.inn s' (co d) n e) l ?_ y J
   rcases H with ⟨_,c⟩|⟨_,j',_,c⟩
   ·exact c
   ·exact co c
  rcases H with c|⟨c,j',o,f⟩
  ·exact q y B.1 (h.done t s' d l (.inl c) n e y J)
  ·subst c
   rcases qM.1 o with k|k
   ·exact q y B.1 (h.done t s' d l (.inr ⟨rfl,j',k,f⟩) n e y J)
   ·subst k
    rw [U] at f
    injection f with f
    subst f;rw [hs] at d
    injection d with d
    subst d;exact(z.snI y B.1).2 (.inr ((hR y).2 ⟨n,e,J⟩))
 unfold Fa ny;by_cases r:st.fresh=[]
 ·rw [if_pos r,if_pos r]
  have M:∀n:Int,0<=n->(sn st.seen n=true↔sn seen n=true):=λn e=>by
   rw [z.snI n e];refine⟨λc=>?_,.inl⟩
   rcases c with c|c
   ·exact c
   ·rcases Bool.eq_false_or_eq_true (sn seen n) with o|o
    ·exact o
    ·have:=(z.fr n).2 ⟨c,o⟩
     rw [r] at this;cases this
  refine⟨z.len,h.wlen,h.chain,h.rch,h.ov,h.min,h.ord,L,λn e=>by rw [M n e];exact h.snI n e,I,h.nogoal,h.inn,q _ Q.s0.1 h.start,?_,h.le,h.nd⟩;rw [z.cnt,r];exact h.cnt
 ·rw [if_neg r,if_neg r]
  have V:=h.Zw.app (ns:=st.fresh) K hl;have x:∀n∈st.fresh,n∈R/\sn seen n=false:=λn e=>(z.fr n).1 e
  have X:∀w∈ws,slt w (wi++[lj]):=by
   intro w F
   rcases h.par w F with rfl|⟨p,v,l,c,rfl,f,k⟩
   ·exact .inl (by simp)
   ·rcases k with k|⟨k,j',h5,h6⟩
    ·obtain⟨a1,a2⟩:=ce.1 c
     obtain⟨b1,b2⟩:=ce.1 K;have h7:=(oM.1 h.ord) p i a1 b1 k;rw [a2,b2] at h7;exact Zn h7
    ·subst k
     rw [K] at c
     injection c with c
     subst c;obtain⟨a1,a2⟩:=ce.1 h6;obtain⟨b1,b2⟩:=ce.1 U;have h7:=(oM.1 Q.srt) j' j a1 b1 h5;rw [a2,b2] at h7;exact eM h7
  have P:∀n∈st.fresh,∃m∈s.ns,n∈g.succ m lj:=λn e=>(hR n).1 (x n e).1;refine⟨z.len,V.wlen,V.chain,λt s' w d G n e=>?_,λw F=>?_,λt s' w d G n e u hu T hr=>?_,?_,λw F=>?_,λn e=>?_,λt s' d l H n e y J=>?_,λs' d n e=>?_,λs' d n e=>?_,q _ Q.s0.1 h.start,?_,?_,λs' d=>?_⟩
  ·rcases Hi d with c|⟨c,o⟩
   ·rcases Hi G with f|⟨f,k⟩
    ·exact h.rch t s' w c f n e
    ·have:=(ce.1 c).1
     rw [h.wlen] at f;omega
   ·subst o
    rcases Hi G with f|⟨f,k⟩
    ·have:=(ce.1 f).1
     rw [h.wlen] at this;omega
    ·subst k
     obtain⟨m,hm,hnm⟩:=P n e;exact Ez.2 ⟨m,h.rch i s wi hs K m hm,hnm⟩
  ·rcases em.1 F with c|c
   ·exact h.ov w c
   ·simp at c;subst c
    exact Gw.2 ⟨h.ov wi (co K),hl⟩
  ·rcases Hi d with c|⟨c,o⟩
   ·rcases Hi G with f|⟨f,k⟩
    ·exact h.min t s' w c f n e u hu T hr
    ·have:=(ce.1 c).1
     rw [h.wlen] at f;omega
   ·subst o
    rcases Hi G with f|⟨f,k⟩
    ·have:=(ce.1 f).1
     rw [h.wlen] at this;omega
    ·subst k
     have:=h.ix Q K U u.length u rfl hu T n hr;rw [(x n e).2] at this;cases this
  ·refine qg.2 ⟨h.ord,by simp,λa ha b hb=>?_⟩
   simp at hb;subst hb;exact X a ha
  ·rcases em.1 F with c|c
   ·rcases L w c with o|⟨p,v,l,o,f,k,h5⟩
    ·exact .inl o
    ·exact .inr ⟨p,v,l,JH o,f,k,h5⟩
   ·simp at c;subst c
    exact .inr ⟨i,wi,lj,JH K,rfl,hl,.inr ⟨rfl,j,by omega,U⟩⟩
  ·rw [z.snI n e,h.snI n e]
   constructor
   ·rintro(⟨s',d,A⟩|hnR)
    ·exact⟨s',oS _ d,A⟩
    ·rcases Bool.eq_false_or_eq_true (sn seen n) with o|o
     ·obtain⟨s',d,A⟩:=(h.snI n e).1 o
      exact⟨s',oS _ d,A⟩
     ·exact⟨⟨i,lj,st.fresh⟩,oX _ (by simp),(z.fr n).2 ⟨hnR,o⟩⟩
   ·rintro⟨s',d,A⟩
    rcases em.1 d with c|c
    ·exact .inl ⟨s',c,A⟩
    ·simp at c;subst c
     exact .inr (x n A).1
  ·rcases Hi d with c|⟨c,o⟩
   ·exact I t s' c l H n e y J
   ·have:=(ce.1 hs).1
    rcases H with ⟨f,_⟩|⟨f,_⟩<;>omega
  ·rcases em.1 d with c|c
   ·exact h.nogoal s' c n e
   ·simp at c;subst c;exact S n e
  ·rcases em.1 d with c|c
   ·exact h.inn s' c n e
   ·simp at c;subst c;exact Y n (x n e).1
  ·have c:=z.cnt
   have o:=h.cnt;have f:0 < st.fresh.length:=rX.2 r;simp;omega
  ·have:=h.le;simp;omega
  ·rcases em.1 d with c|c
   ·exact h.nd s' c
   ·simp at c;subst c;exact z.nd
theorem FI.init{g:Gr}(q:I6 g){st:iS}(j:kr g.goal g.N (List.replicate g.N false) [g.s0] st)(r:st.found=false):st.fresh=[g.s0]/\FI g st.seen [⟨-1,0,[g.s0]⟩] [[]] 0 0:=by
 have hno:∀n,sn (List.replicate g.N false) n=false:=λn=>by
  unfold sn;by_cases h:n.toNat < g.N<;>simp [List.getD,h]
 have d:∀n,n∈st.fresh↔n=g.s0:=λn=>by rw [j.fr n];simp [hno]
 have k:st.fresh=[g.s0]:=by
  have i:=j.nd;generalize st.fresh=l at d i
  cases l with
  | nil=>have:=(d g.s0).2 rfl;cases this
  | cons a l=>
   have ha:=(d a).1 (by simp);subst ha
   cases l with
   | nil=>rfl
   | cons b l=>
    have hb:=(d b).1 (by simp);subst hb;simp at i
 refine⟨k,?_⟩
 have m:g.goal g.s0=false:=by
  have:=j.fd;rw [r,k] at this
  simpa using this.symm
 have one:∀(t:Nat) (s:Ov),[(⟨-1,0,[g.s0]⟩:Ov)][t]? = some s->t=0/\s=⟨-1,0,[g.s0]⟩:=λt s h=>by
  cases t with
  | zero=>simp at h;exact⟨rfl,h.symm⟩
  | succ t=>simp at h
 have one':∀(t:Nat) (w:List Int),[([]:List Int)][t]? = some w->w=[]:=λt w h=>by
  cases t with
  | zero=>exact(Option.some.inj h).symm
  | succ t=>simp at h
 refine⟨j.len,rfl,λt s c=>?_,λt s w c f n e=>?_,λw f=>?_,λt s w c f n e u _ o=>?_,by simp,λw f=>by simp at f;exact .inl f,λn e=>?_,λt s c l p n e y v=>?_,λs c n e=>?_,λs c n e=>?_,?_,?_,by simp,λs c=>?_⟩
 ·obtain⟨rfl,rfl⟩:=one t s c;exact .inl ⟨rfl,rfl⟩
 ·obtain⟨rfl,rfl⟩:=one t s c
  have:=one' 0 w f;subst this;simp at e;subst e;exact(rfl:g.s0=g.s0)
 ·simp at f;subst f;exact λl p=>(by cases p)
 ·have:=one' t w f
  subst this
  rcases o with i|⟨_,i⟩
  ·simp at i
  ·cases u<;>exact i.elim
 ·rw [j.snI n e];simp [hno]
 ·rcases p with ⟨i,_⟩|⟨_,j',i,_⟩<;>omega
 ·simp at c;subst c;simp at e;subst e;exact m
 ·simp at c;subst c;simp at e;subst e;exact q.s0
 ·exact(j.snI _ q.s0.1).2 (.inr (by simp))
 ·rw [j.cnt,k];simp
 ·simp at c;subst c;simp
theorem CE.start{g:Gr}(h:g.goal g.s0=true):CE g (some []):=
 ⟨λl c=>(by cases c),⟨g.s0,rfl,h⟩,λu _ _ a=>by rcases a with b|⟨_,b⟩;(simp at b);(cases u<;>exact b.elim)⟩
end Go.Am
namespace Go.Am
open Go Go.Proofs
set_option maxHeartbeats 1000000
set_option maxRecDepth 4000
attribute [local irreducible] A3 Cp Lex Bl Aj Spec
variable {TB:BC}
def E8(bs:List UInt8)(k i:Nat):UInt8:=if i < k\/bs.length<=i+k then bs.getD (bs.length - 1 - i) 0 else bs.getD i 0
theorem j8(bs:List UInt8):(BM bs.length λi=>FJ (E8 bs 0 i))=bs.map FJ:=by
 apply pP;intro i;by_cases hi:i < bs.length
 ·rw [DU (g:=λi=>FJ (E8 bs 0 i)) hi]
  unfold E8;rw [if_neg (by omega)];simp [List.getD,hi]
 ·rw [oL (by simp [BM];omega),oL (by simp;omega)]
theorem eo(bs:List UInt8){k:Nat}(hk:bs.length<=2*k+1):(BM bs.length λi=>FJ (E8 bs k i))=bs.reverse.map FJ:=by
 apply pP;intro i;by_cases hi:i < bs.length
 ·rw [DU (g:=λi=>FJ (E8 bs k i)) hi]
  unfold E8
  have b:bs.reverse[i]? = some (bs.getD (bs.length - 1 - i) 0):=by
   rw [List.getElem?_reverse hi]
   have:bs.length - 1 - i < bs.length:=by omega
   simp [List.getD,this]
  rw [i8,b];by_cases a:i < k\/bs.length<=i+k
  ·rw [if_pos a];rfl
  ·rw [if_neg a]
   have:bs.length - 1 - i=i:=by omega
   rw [this];rfl
 ·rw [oL (by simp [BM];omega),oL (by simp;omega)]
theorem TL(r:Nat->Nat)(l:List UInt8):(l.map FJ).map (C.CA r)=l.map FJ:=by
 rw [pz];exact qm λc _=>rfl
theorem FY(r:Nat->Nat)(c:UInt8):C.CA r (FJ c)=FJ c:=rfl
theorem Nq(r:Nat->Nat)(n:Nat)(H:Nat->UInt8):(BM n λi=>FJ (H i)).map (C.CA r)=BM n λi=>FJ (H i):=by
 unfold BM;rw [pz];exact qm λi _=>rfl
theorem Lz{n q:Nat}{H:Nat->UInt8}(h:q < n):(BM n λi=>FJ (H i))[0+((q:Nat):Int).toNat]? = some (FJ (H q)):=by
 rw [oH,io];exact DU (g:=λi=>FJ (H i)) h
theorem OS{n q:Nat}{H:Nat->UInt8}{c d:UInt8}:(BM n λi=>FJ (H i)).set (0+((q:Nat):Int).toNat) (Ae (FJ d) 0 (eC (eI .u8 (c.toNat:Nat))))=BM n λi=>FJ (if i=q then c else H i):=by
 rw [oH,io];have e:Ae (FJ d) 0 (eC (eI .u8 (c.toNat:Nat)))=FJ c:=rfl;rw [e,Nr];refine Df λi _=>?_;by_cases h:i=q<;>simp [h]
theorem Xv(bs:List UInt8)(hb:bs.length<=1099511627776):Spec Tryz.prog TB 192 [(0,.cells 5 1 (bs.map FJ))] 1 [.o (.arr 0 1 0 bs.length)] (λx σ nx=>x=.t []/\nx=1/\σ=[(0,.cells 5 1 (bs.reverse.map FJ))]):=by
 refine eN Tryz.func192 rfl (by kernel_rfl) rfl ?_;intro Z b;(repeat first|(refine sM rfl ?_ ?_;first|exact tI|omega) |refine aU rfl ?_ |refine Aa ?_);refine aB ?_;refine Aj.A5 (α:={k:Nat // k<=bs.length}) (λ⟨k,hk⟩=>[(0,.o (.arr 0 1 0 bs.length)),(2,eI .i64 k),(3,eI .i64 ((bs.length:Int) - 1 - k))]) (λ⟨k,hk⟩=>[(0,.cells 5 1 (BM bs.length λi=>FJ (E8 bs k i)))]) 1 (λ⟨k,hk⟩=>bs.length - k) (⟨0,by omega⟩) [0] (Ee b rfl rfl) (by (simp[cX,zC,b,Nq,j8,FY])) ?_;rintro⟨k,hk⟩;(try dsimp only);(repeat first|refine tM rfl ?_ |refine s2 rfl λ_ B=>?_ |refine aU rfl ?_ |refine Aa ?_);(refine aC rfl ?_ ?_<;>rintro⟨⟩)
 ·have u:2*k+1 < bs.length:=by (simp only[oZ] at *;omega)
  obtain⟨m,F⟩:∃m:Nat,m=bs.length - 1 - k:=⟨_,rfl⟩
  have A:(bs.length:Int) - 1 - k=((m:Nat):Int):=by omega
  have l:E8 bs k k=bs.getD k 0:=by unfold E8;rw [if_neg (by omega)]
  have h:E8 bs k m=bs.getD m 0:=by unfold E8;rw [if_neg (by omega)]
  have w:=Lz (H:=E8 bs k) (q:=k) (n:=bs.length) (by omega);have v:=Lz (H:=E8 bs k) (q:=m) (n:=bs.length) (by omega);have e:=OS (n:=bs.length) (q:=k) (H:=E8 bs k) (c:=E8 bs k m) (d:=E8 bs k k);have a:=Lz (H:=λi=>if i=k then E8 bs k m else E8 bs k i) (q:=m) (n:=bs.length) (by omega);have f:=OS (n:=bs.length) (q:=m) (H:=λi=>if i=k then E8 bs k m else E8 bs k i) (c:=E8 bs k k) (d:=E8 bs k m)
  have g:m≠k:=by omega
  rw [if_neg g] at a
  have y:(BM bs.length λi=>FJ (if i=m then E8 bs k k else if i=k then E8 bs k m else E8 bs k i))=BM bs.length λi=>FJ (E8 bs (k+1) i):=Df λi hi=>by
   congr 1;by_cases s:i=m
   ·subst s;rw [if_pos rfl,l];unfold E8;rw [if_pos (by omega)];congr 1;omega
   ·rw [if_neg s]
    by_cases r:i=k
    ·subst r;rw [if_pos rfl,h];unfold E8;rw [if_pos (by omega)];congr 1
    ·rw [if_neg r];unfold E8
     by_cases p:i < k\/bs.length<=i+k
     ·rw [if_pos p,if_pos (by omega)]
     ·rw [if_neg p,if_neg (by omega)]
  rw [<-e] at a;rw [A];refine aK ?_;refine aS (aB ?_);refine rG (oh [13,15] [2,3]) (by kernel_rfl) ?_;(repeat first|(refine sM rfl ?_ ?_;first|exact tI|omega) |refine t4 rfl ‹_› rfl ?_ |refine aU rfl ?_ |refine Aa ?_);refine⟨⟨k+1,by omega⟩,by dsimp only;(omega),[0],?_⟩;rw [e,f,y]
  have z:(m:Int) - 1=bs.length - 1 - (k+1):=by omega
  simp[cX,zC,b,Nq,z]
 ·have j:bs.length<=2*k+1:=by (simp only[oZ] at *;omega)
  rw [eo bs j];exact aE ⟨_,rfl,rfl,rfl,rfl⟩
abbrev iM(s:Ov):List D:=[iD s.p,iD s.l,Fg s.ns]
abbrev Qg(s:Ov):List C:=[.d (iD s.p),.d (iD s.l),.d (Fg s.ns)]
abbrev eW(l:List Ov):D:=.l (l.map iM)
theorem aj{l:Int}(e:0<=l)(c:l < 6):FJ (UInt8.ofNat (97+l.toNat))=[.d (.v (.int .u8 (97+l)))]:=by
 have b:(97+l.toNat) % 256=97+l.toNat:=o3 (by omega)
 have a:(97+l:Int)=((97+l.toNat:Nat):Int):=by omega
 simp [FJ,b,a]
theorem im(o:List Int):(CQ o).reverse=CQ o.reverse:=by simp [CQ]
theorem Vk{ls:List Int}{steps:List Ov}{ws:List (List Int)}(h:Chain ls steps ws)(I:∀l∈ls,0<=l/\l < 6){w:List Int}(n:1<=steps.length/\steps.length<=2097152)(P:ws[steps.length - 1]? = some w):Pure Tryz.prog TB 148 [.o (.d (eW steps))] (eT (CQ w)):=by
 refine eN Tryz.func148 rfl (by kernel_rfl) rfl ?_;intro Z a;(repeat first|refine tM rfl ?_ |refine aU rfl ?_ |refine Aa ?_);(refine pW rfl ?_ rfl (by rfl);refine Hp 1 5 ?_);(repeat first|refine sN rfl ?_ |(refine sM rfl ?_ ?_;first|exact tI|omega) |refine aU rfl ?_ |refine Aa ?_);refine aB ?_;refine Aj.A5 (α:={x:Nat×List Int // x.1+x.2.length < steps.length/\∃v,ws[x.1]? = some v/\w=v++x.2.reverse}) (λ⟨⟨i,o⟩,z⟩=>[(0,.o (.d (eW steps))),(3,.o (.arr 0 1 0 o.length)),(4,eI .i64 i)]) (λ⟨⟨i,o⟩,z⟩=>[(0,.cells 5 1 ((CQ o).map FJ))]) 1 (λ⟨⟨i,o⟩,z⟩=>i) (⟨(steps.length - 1,[]),by simp;omega,w,P,by simp⟩) [0] (Ee a rfl rfl) (by (simp[cX,zC,a,CQ,Int.ofNat_sub,n.1])) ?_;rintro⟨⟨i,o⟩,z⟩;(try dsimp only);obtain⟨hi,v,B,b⟩:=z;simp only at hi B b;obtain⟨s,K⟩:=get_some (l:=steps) (k:=i) (by omega);have R:=get_map (g:=iM) K;have t:=h.chain i s K
 have G:(CQ o).length=o.length:=by simp [CQ]
 (repeat first|refine tM rfl ?_ |(refine s4 rfl ‹_› rfl ?_ ?_;omega) |refine s2 rfl λ_ V=>?_ |refine aU rfl ?_ |refine Aa ?_);(refine aC rfl ?_ ?_<;>rintro⟨⟩)
 ·obtain⟨q,u,T,S,H,y,U⟩:∃(q:Nat) (u:List Int),s.p=(q:Int)/\q < i/\ws[q]? = some u/\ws[i]? = some (u++[s.l])/\s.l∈ls:=by
   rcases t with ⟨e,_⟩|e
   ·exfalso;(simp only[oZ] at *;omega)
   ·exact e
  have c:=I _ U;rw [B] at y
  injection y with y
  have J:=aj c.1 c.2
  have F:CQ (o++[s.l])=CQ o++[UInt8.ofNat (97+s.l.toNat)]:=by simp [CQ]
  have j:(CQ (o++[s.l])).map FJ=(CQ o).map FJ++[[.d (.v (.int .u8 (97+s.l)))]]:=by rw [F,pv,pR,J];rfl
  refine aK ?_;refine aS (aB ?_);(repeat first|refine tA rfl ?_ |(refine s4 rfl ‹_› rfl ?_ ?_;omega) |refine sP rfl (FF s.l c.1 (by omega)) rfl ?_ |refine aU rfl ?_);(refine pW rfl ?_ rfl (by rfl);refine Au rfl rfl rfl (by first| (simp;done)|(simp;(omega))) rfl (by intro r L;simp at L;subst L;rfl) (by rfl) (am rfl) (by simp;omega) ?_);(repeat first|refine tX rfl ?_ |(refine s4 rfl ‹_› rfl ?_ ?_;omega) |refine aU rfl ?_ |refine Aa ?_);refine⟨⟨(q,o++[s.l]),by simp;omega,u,H,by rw [b,y];simp⟩,by dsimp only;omega,[1],?_⟩;dsimp only;rw [j];simp[cX,zC,a,T,FY]
 ·have A:v=[]:=by
   rcases t with ⟨_,e⟩|⟨q,u,e,_⟩
   ·rw [B] at e;injection e
   ·exfalso;(simp only[oZ] at *;omega)
  subst A
  have f:w=o.reverse:=by rw [b];rfl
  have m:=Xv (TB:=TB) (CQ o) (by omega);rw [G,im,<-f] at m;refine aE ?_;(repeat first|refine tM rfl ?_ |refine aU rfl ?_);(refine pW rfl ?_ rfl (by rfl);refine Ai [0] rfl rfl m ⟨rfl,by simp,by simp⟩ rfl (by simp[cX,zC,a,FY]) ?_;rintro X M N ⟨rfl,rfl,rfl⟩ _)
  have Q:(CQ w).length=o.length:=by rw [f];simp [CQ]
  (repeat first|refine tM rfl ?_|(refine Ag rfl ?_;refine gA rfl ?_;first| refine gQ (OO (CQ w) rfl rfl (by simp;omega) (by rw [pu,TL,gc (by simp;omega)])) (by rfl) ?_) |refine aU rfl ?_ |refine Aa ?_);refine aR ⟨_,rfl,rfl⟩
theorem iW(p:Nat->Prop):(∀i,i < 5->p i)↔p 0/\p 1/\p 2/\p 3/\p 4:=by
 constructor
 ·intro h;exact⟨h 0 (by omega),h 1 (by omega),h 2 (by omega),h 3 (by omega),h 4 (by omega)⟩
 ·rintro⟨e,d,c,b,a⟩ i hi
  have:i=0\/i=1\/i=2\/i=3\/i=4:=by omega
  rcases this with rfl|rfl|rfl|rfl|rfl<;>assumption
theorem fh{goal:Int->Bool}{seen:List Bool}{nodes:List Int}{k:Nat}{x:Int}(h:nodes[k]? = some x):TZ goal seen (nodes.take (k+1))=VX goal (TZ goal seen (nodes.take k)) x:=by
 unfold TZ;rw [GO h]
theorem VG{l:List Bool}{n:Int}:(l.map AT).set (0+n.toNat) (Ae (AT false) 0 (eC (eB true)))=(l.set n.toNat true).map AT:=by
 simp [Ae,eC,pG]
abbrev Gc(N:Nat)(gG:FuncId)(capsG:List C)(seen:List Bool)(q:Nat)(steps:List Ov):Ab:=
 [(0,.cells 27 1 [[.arr 1 1 0 N]]),(1,.cells 4 1 (seen.map AT)),(2,.cells 73 1 [[.fn gG capsG]]),(3,.cells 176 1 [[.arr q 3 0 steps.length]]),(q,.cells 178 3 (steps.map Qg))]
theorem VW{goal:Int->Bool}{gG:FuncId}{capsG:List C}{N:Nat}(M:∀n:Int,0<=n/\n < N->Pure Tryz.prog TB gG ([eI .i64 n]++capsG.map .o) (eB (goal n)))(G:C.Ds capsG=true)(d:∀r,C.CA r capsG=capsG)
 (seen:List Bool) (steps:List Ov) (p l:Int) (nodes:List Int) (R:seen.length=N) (T:N<=1048576) (Q:steps.length<=1048576) (u:∀n∈nodes,0<=n/\n < N) :
 Spec Tryz.prog TB 147 (Gc N gG capsG seen 4 steps) 5 [eI .i64 p,eI .i64 l,Ak nodes,.o (.ptr 0 1 0 0),.o (.ptr 2 1 0 0),.o (.ptr 3 1 0 0)]
  (λx σ nx=>x=eB (TZ goal seen nodes).found/\∃q,(q=4/\nx=5\/q=5/\nx=6)/\σ=Gc N gG capsG (TZ goal seen nodes).seen q (Fa steps p l (TZ goal seen nodes).fresh)):=by
 have s:∀k,kr goal N seen (nodes.take k) (TZ goal seen (nodes.take k)):=λk=>XR R λn F=>u n (oP F);refine eN Tryz.func147 rfl (by kernel_rfl) rfl ?_;intro Z a;refine Aj.bound 2 rfl λK=>?_;have S:=K _ .refl;rw [ge] at S;(repeat first|refine tM rfl ?_ |refine aU rfl ?_ |refine Aa ?_);(refine pW rfl ?_ rfl (by rfl);refine Hp 1 3 ?_);(repeat first|refine sN rfl ?_ |refine tM rfl ?_ |refine aU rfl ?_ |refine Aa ?_);refine aB ?_;refine Aj.A5 (α:={k:Nat // k<=nodes.length}) (λ⟨k,hk⟩=>[(0,eI .i64 p),(1,eI .i64 l),(3,.o (.ptr 0 1 0 0)),(4,.o (.ptr 2 1 0 0)),(5,.o (.ptr 3 1 0 0)),(10,.o (.arr 5 1 0 (TZ goal seen (nodes.take k)).fresh.length)),(11,eB (TZ goal seen (nodes.take k)).found),(14,Ak nodes),(15,eI .i64 nodes.length),(16,eI .i64 k)]) (λ⟨k,hk⟩=>Gc N gG capsG (TZ goal seen (nodes.take k)).seen 4 steps++[(5,.cells 3 1 ((TZ goal seen (nodes.take k)).fresh.map AD))]) 6 (λ⟨k,hk⟩=>nodes.length - k) (⟨0,by omega⟩) [0,1,2,3,4,5] (Ee a rfl rfl) (by (simp[cX,zC,a,Gc,TZ,d])) ?_;rintro⟨k,hk⟩;(try dsimp only);have i:=s k;have c:=λx=>fh (goal:=goal) (seen:=seen) (nodes:=nodes) (k:=k) (x:=x);generalize L:TZ goal seen (nodes.take k)=v at *;(repeat first|refine s2 rfl λ_ f=>?_ |refine aU rfl ?_ |refine Aa ?_);(refine aC rfl ?_ ?_<;>rintro⟨⟩)
 ·obtain⟨x,z⟩:=get_some (l:=nodes) (k:=k) (by (simp only[oZ] at *;omega))
  have P:=get_map (g:=Bs) z;have m:=u x (co z);have c:=c x z;have A:=i.len;obtain⟨b,hb⟩:=get_some (l:=v.seen) (k:=x.toNat) (by omega)
  have J:(v.seen.map AT)[0+x.toNat]? = some (AT b):=by simp [hb]
  have B:sn v.seen x=b:=by simp [sn,List.getD,hb]
  have h:v.fresh.length<=N:=by
   refine Gu _ _ i.nd λy w=>u y (oP ((i.fr y).1 w).1)
  unfold VX at c;rw [B] at c;obtain⟨vse,vfr,vfd⟩:=v;simp only at c A hb J h;refine aK ?_;refine aS (aB ?_);(repeat first|((first|refine sM rfl ?_ ?_|refine s4 rfl ‹_› rfl ?_ ?_);first|exact tI|omega) |refine s2 rfl λ_ f=>?_ |refine aU rfl ?_ |refine Aa ?_);(refine aC rfl ?_ ?_<;>rintro⟨⟩)
  ·have I:b=false:=by simpa using f
   subst I;rw [if_neg (by simp)] at c;(repeat first|(refine sA rfl ?_ ?_;first|exact tI|omega) |refine t4 rfl ‹_› rfl ?_ |refine aU rfl ?_ |refine Aa ?_);(refine pW rfl ?_ rfl (by rfl);refine Au rfl rfl rfl (by first| (simp;done)|(simp;(omega))) rfl (by intro r t;simp at t;subst t;rfl) (by rfl) (am rfl) (by simp;omega) ?_);(repeat first|(refine sX rfl ?_ ?_;first|exact tI|simp only[oZ] at *;omega) |refine s3 rfl ?_ ?_<;>rintro rfl |refine aU rfl ?_ |refine Aa ?_);(repeat first|(refine sC rfl (M x m) ?_;intro _ f)|(refine Ag rfl ?_;refine gA rfl ?_;first| refine gQ (TF rfl rfl rfl rfl) (by rfl) ?_))
   ·refine⟨⟨k+1,by (simp only[oZ] at *;omega)⟩,by dsimp only;((simp only[oZ] at *;omega)),[0,1,2,3,4,6],?_⟩
    rw [VG];simp[cX,zC,a,c,Gc,d,iW]
   ·(repeat first|(refine sA rfl ?_ ?_;first|exact tI|simp only[oZ] at *;omega)|(refine Ag rfl ?_;refine gA rfl ?_;first| (refine gB (λ_ _=>Bu rfl rfl (by simp [E.Cm,C.Cm,G]) (M x m) rfl) ?_;intro _ f)) |refine aU rfl ?_ |refine Aa ?_)
    refine⟨⟨k+1,by (simp only[oZ] at *;omega)⟩,by dsimp only;((simp only[oZ] at *;omega)),[0,1,2,3,4,6],?_⟩;rw [VG];simp[cX,zC,a,c,Gc,d,iW,f]
  ·have H:b=true:=by simpa using f
   subst H;rw [if_pos rfl] at c;refine aK ?_;(repeat first|(refine sM rfl ?_ ?_;first|exact tI|simp only[oZ] at *;omega) |refine aU rfl ?_ |refine Aa ?_);refine⟨⟨k+1,by (simp only[oZ] at *;omega)⟩,by dsimp only;((simp only[oZ] at *;omega)),[0,1,2,3,4,5],?_⟩;simp[cX,zC,a,c,Gc,d,iW]
 ·obtain rfl:k=nodes.length:=by (simp only[oZ] at *;omega)
  rw [gt] at L;subst L;refine aE ?_
  have h:(TZ goal seen nodes).fresh.length<=N:=by
   have i:=s nodes.length;rw [gt] at i;refine Gu _ _ i.nd λy w=>u y ((i.fr y).1 w).1
  generalize TZ goal seen nodes=vv at *;obtain⟨vse,vfr,vfd⟩:=vv;have h:vfr.length<=N:=h;(repeat first|refine tM rfl ?_ |refine s2 rfl λ_ f=>?_ |refine aU rfl ?_ |refine Aa ?_);(refine aC rfl ?_ ?_<;>rintro⟨⟩)
  ·have j:vfr≠[]:=λe=>by rw [e] at f;simp at f
   refine Aj.freeze [5] [(0,eI .i64 p),(1,eI .i64 l),(5,.o (.ptr 3 1 0 0)),(10,Ak vfr),(11,eB vfd)] ⟨⟨_,rfl,.AR⟩,⟨_,rfl,.AR⟩,⟨_,rfl,.AR⟩,⟨_,rfl,.o (.full (by simp) rfl (by simp [d5]) (by simp))⟩,⟨_,rfl,.AR⟩,trivial⟩ ?_;(repeat first|refine tA rfl ?_|(refine Ag rfl ?_;refine gA rfl ?_;first| refine gS (λ_ _=>AG rfl rfl (by rfl) (by rfl)) ?_) |refine aU rfl ?_);(refine pW rfl ?_ rfl (by rfl);refine Au rfl rfl rfl (by first| (simp;done)|(simp;(omega))) rfl (by intro r t;simp at t;subst t;rfl) (by rfl) (am rfl) (by simp;omega) ?_);(repeat first|refine tX rfl ?_ |refine aU rfl ?_ |refine Aa ?_);refine Aj.names [0,1,2,3,4,6] [(9,eB vfd)] (Gc N gG capsG vse 5 (Fa steps p l vfr)) (by rw [a];decide) (by decide) (by simp[cX,zC,a]) (by simp[cX,zC,a,Gc,d,Fa,j,BY,Ae,eC]) ?_;refine aR ⟨_,rfl,rfl,5,.inr ⟨rfl,rfl⟩,rfl⟩
  ·have j:vfr=[]:=ms.1 (by (simp only[oZ] at *;omega))
   subst j;refine aK ?_;(repeat first|refine tM rfl ?_ |refine aU rfl ?_ |refine Aa ?_);refine Aj.names [0,1,2,3,4] [(9,eB vfd)] (Gc N gG capsG vse 4 steps) (by rw [a];decide) (by decide) (by simp[cX,zC,a]) (by simp[cX,zC,a,Gc,d]) ?_;refine aR ⟨_,rfl,rfl,4,.inl ⟨rfl,rfl⟩,by simp [Fa]⟩
theorem dj{P:Program}{Z:Ctx}{d:Option Tmp}{ty:TypeId}{pos:String}{af:Array Edge}{g:Option (Nat×Bool)}{f:Env}{σ:Ab}{nx:Nat}{K:E->Ab->Nat->Prop}{T:TypeId}(k e:Nat)[r:BT P T [.slice none 0 0]]
 (u:K (.o (.ptr (nx+1) 1 0 0)) ((nx+1,.cells T 1 [[.arr nx k 0 0]])::(nx,.cells e k [])::σ) (nx+2)):Cp P TB Z ⟨d,.alloc T,ty,pos,af,g⟩ f σ nx K:=
 DJ λV ρ z y x=>by
  subst x;obtain⟨i,zv,hi,b,a⟩:=Hz r.out
  have h:zv.cells = #[.slice none 0 0]:=by have:=congrArg List.toArray a;simpa using this
  obtain⟨m,p⟩:=y.alloc (c:=0) (nl:=True) (w:=V.w) (ob:=.cells e k []) rfl rfl rfl rfl (i9 _) (λ_ _=>rfl) (.inl ⟨by simp [Ax],rfl⟩)
  have t:Dh (Ax V V.w.heap.size 0 True V.w) [.arr V.nx k 0 0] zv.cells:=by
   rw [h];refine⟨rfl,λj c v l q=>?_⟩
   match j with
   | 0=>simp at l q;subst l q;exact AH.nil (by simp [Ax]) (by simp [Ax])
   | j+1=>simp at l
  obtain⟨n,s⟩:=SO m (T:=T) t;refine⟨.pointer (some ⟨V.w.heap.size,0,none⟩),_,_,_,?_,p.trans s,n,?_,u⟩
  ·simp [execOp,Instr.alloc,zeroValue,typeInfo,hi,b,newVar,newRow,Ax,go_sem]
  ·exact OM
theorem Si(r:Nat->Nat):∀(l m:List E),EY r (l++m)=EY r l++EY r m
 | [],m=>rfl
 | e::l,m=>by simp [EY,Si r l m]
theorem PY(r:Nat->Nat):∀(l:List C),EY r (l.map .o)=(C.CA r l).map .o
 | []=>rfl
 | c::l=>by simp [EY,C.CA,E.Bi,PY r l]
def iQ(P:Program)(TB:BC)(T:TypeId)(g:Gr)(gN:FuncId)(capsN:List C):Prop:=
 ∀(node l:Int) (outs:List Int),0<=node/\node < g.N->l∈g.ls->outs.length<=1099511627776->
  Spec P TB gN [(0,.cells T 1 (outs.map AD))] 1 ([eI .i64 node,eI .i64 l,.o (.arr 0 1 0 outs.length)]++capsN.map .o) (λx σ nx=>x=.o (.arr 1 1 0 (outs++g.succ node l).length)/\nx=2/\σ=[(1,.cells T 1 ((outs++g.succ node l).map AD))])
theorem Lx{g:Gr}(Q:I6 g)(hN:g.N<=1048576)(X:∀l∈g.ls,0<=l/\l < 6)(hll:g.ls.length<=6)(hsl:∀(node l:Int),0<=node/\node < g.N->l∈g.ls->(g.succ node l).length<=g.N)
 {gN gG:FuncId} {capsN capsG:List C} (hNx:iQ Tryz.prog TB 3 g gN capsN) (hG:∀n:Int,0<=n/\n < g.N->Pure Tryz.prog TB gG ([eI .i64 n]++capsG.map .o) (eB (g.goal n)))
 (hcG:C.Ds capsG=true) (d:∀r,C.CA r capsG=capsG) (h:∀r,C.CA r capsN=capsN) {r:Option (List Int)} (hr:CE g r) :
 Pure Tryz.prog TB 97 [eI .i64 g.N,Ak [g.s0],Ak g.ls,.o (.fn gN capsN),.o (.fn gG capsG)] (Lv r):=by
 refine eN Tryz.func97 rfl (by kernel_rfl) rfl ?_;intro Z b;(repeat first|refine aU rfl ?_);(refine pW rfl ?_ rfl (by rfl);refine De rfl rfl ?_);(repeat first|refine tM rfl ?_ |refine aU rfl ?_ |refine Aa ?_);(refine pW rfl ?_ rfl (by rfl);refine KQ rfl rfl (by rfl) (by rfl) (am rfl) (by omega) (by omega) (by omega) ?_)
 iterate 4 (first|refine tM rfl ?_ |refine aU rfl ?_ |refine Aa ?_)
 (refine pW rfl ?_ rfl (by rfl);refine dj 3 178 ?_);(repeat first|refine tM rfl ?_ |refine aU rfl ?_ |refine Aa ?_);have K:=XR (goal:=g.goal) (N:=g.N) (seen:=List.replicate g.N false) (nodes:=[g.s0]) (by simp) (by intro n u;simp at u;subst u;exact Q.s0);have A:=VW (TB:=TB) hG hcG d (List.replicate g.N false) [] (-1) 0 [g.s0] (by simp) hN (by simp) (by intro n u;simp at u;subst u;exact Q.s0);(refine pW rfl ?_ rfl (by rfl);refine Ai [2,1,0,4,3] rfl rfl A ⟨rfl,by decide,by decide⟩ rfl (by simp[cX,zC,b,Gc,d,Ae,eC]) ?_;rintro x0 T U ⟨rfl,q,L,rfl⟩ _);generalize hV:TZ g.goal (List.replicate g.N false) [g.s0]=v at *;obtain⟨vse,vfr,vfd⟩:=v;simp only;refine Aa ?_;refine Aj.names [2,1,0,4,if q=4 then 3 else 5] [(2,Ak g.ls),(3,.o (.fn gN capsN)),(12,.o (.ptr 0 1 0 0)),(13,.o (.ptr 3 1 0 0)),(14,.o (.fn 147 [.ptr 0 1 0 0,.ptr 2 1 0 0,.ptr 3 1 0 0])),(26,eB vfd)] (Gc g.N gG capsG vse 4 (Fa [] (-1) 0 vfr)) (by simp [b]) (by rcases L with ⟨rfl,rfl⟩|⟨rfl,rfl⟩<;>decide)
  (by rcases L with ⟨rfl,rfl⟩|⟨rfl,rfl⟩<;>simp[cX,zC,b,h,eC]) (by rcases L with ⟨rfl,rfl⟩|⟨rfl,rfl⟩<;>simp[cX,zC,b,Gc,d,Ab.Bi,BY,IP,eC]) ?_
 (refine aC rfl ?_ ?_<;>rintro⟨⟩)
 ·-- the start is a goal
  have hgs:g.goal g.s0=true:=by
   have h1:vfr.any g.goal=true:=K.fd.symm;obtain⟨x,J,P⟩:=qq.1 h1;have h2:=((K.fr x).1 J).1;simp at h2;subst h2;exact P
  have B:=CE.unique hr (CE.start hgs);subst B;(repeat first|refine tM rfl ?_ |refine aU rfl ?_ |refine Aa ?_);refine aR ⟨_,rfl,rfl⟩
 refine aK ?_;obtain⟨hfr,hF0⟩:=FI.init Q K rfl;simp only at hfr hF0;rw [hfr];(repeat first|refine tM rfl ?_ |refine aU rfl ?_ |refine Aa ?_);refine aB ?_;refine Aj.A5 (α:={x:Nat×List Bool×List Ov×List (List Int) // FI g x.2.1 x.2.2.1 x.2.2.2 x.1 0}) (λ⟨⟨i,seen,steps,ws⟩,f⟩=>[(2,Ak g.ls),(3,.o (.fn gN capsN)),(12,.o (.ptr 0 1 0 0)),(13,.o (.ptr 3 1 0 0)),(14,.o (.fn 147 [.ptr 0 1 0 0,.ptr 2 1 0 0,.ptr 3 1 0 0])),(15,eI .i64 i)]) (λ⟨⟨i,seen,steps,ws⟩,f⟩=>Gc g.N gG capsG seen 4 steps) 5 (λ⟨⟨i,seen,steps,ws⟩,f⟩=>g.N - i) (⟨(0,vse,[⟨-1,0,[g.s0]⟩],[[]]),hF0⟩) [0,1,2,3,4] (Ee b rfl rfl) (by (simp[cX,zC,b,Gc,d,h,Fa])) ?_;rintro⟨⟨i,seen,steps,ws⟩,f⟩;(try dsimp only);simp only at f;have Y:=f.lr;(repeat first|refine tM rfl ?_ |refine s2 rfl λ_ _hb=>?_ |refine aU rfl ?_ |refine Aa ?_);(refine aC rfl ?_ ?_<;>rintro⟨⟩)
 ·have hi : i < steps.length:=by (simp only[oZ] at *;omega)
  obtain⟨s,H⟩:=get_some hi;have V:(steps.map Qg)[0+((i:Nat):Int).toNat]? = some (Qg s):=HM H;obtain⟨wi,z⟩:∃wi,ws[i]? = some wi:=get_some (by rw [f.wlen];exact hi);refine aK ?_;refine aS (aB ?_);(repeat first|refine sN rfl ?_ |refine tM rfl ?_ |refine aU rfl ?_ |refine Aa ?_);refine aB ?_;refine Aj.A5 (α:={x:Nat×List Bool×List Ov×List (List Int) // x.1<=g.ls.length/\FI g x.2.1 x.2.2.1 x.2.2.2 i x.1/\i < x.2.2.1.length}) (λ⟨⟨j,c,st2,t⟩,hP⟩=>[(2,Ak g.ls),(3,.o (.fn gN capsN)),(12,.o (.ptr 0 1 0 0)),(13,.o (.ptr 3 1 0 0)),(14,.o (.fn 147 [.ptr 0 1 0 0,.ptr 2 1 0 0,.ptr 3 1 0 0])),(15,eI .i64 i),(33,Ak g.ls),(34,eI .i64 g.ls.length),(35,eI .i64 j)]) (λ⟨⟨j,c,st2,t⟩,hP⟩=>Gc g.N gG capsG c 4 st2) 5 (λ⟨⟨j,c,st2,t⟩,hP⟩=>g.ls.length - j) (⟨(0,seen,steps,ws),by simp,f,hi⟩) [0,1,2,3,4] (Ee b rfl rfl) (by (simp[cX,zC,b,Gc,d,h])) ?_;rintro⟨⟨j,c,st2,t⟩,hP⟩;(try dsimp only);clear H V z f Y hi;obtain⟨hj,f,hi⟩:=hP;simp only at hj f hi;have Y:=f.lr;(repeat first|refine s2 rfl λ_ _hb=>?_ |refine aU rfl ?_ |refine Aa ?_);(refine aC rfl ?_ ?_<;>rintro⟨⟩)
  ·have hjl:j < g.ls.length:=by (simp only[oZ] at *;omega)
   obtain⟨l,hl⟩:=get_some (l:=g.ls) (k:=j) hjl;have hl':=get_map (g:=Bs) hl;have F:=co hl;have hlb:=X l F;obtain⟨s,H⟩:=get_some hi;have V:(st2.map Qg)[0+((i:Nat):Int).toNat]? = some (Qg s):=HM H;obtain⟨wi,z⟩:∃wi,t[i]? = some wi:=get_some (by rw [f.wlen];exact hi);have p:=f.inn s (co H);have hsnd:=Gu _ _ (f.nd s (co H)) p;refine aK ?_;refine aS (aB ?_);(repeat first|refine tM rfl ?_ |(refine s4 rfl ‹_› rfl ?_ ?_;omega) |refine aU rfl ?_ |refine Aa ?_);(refine pW rfl ?_ rfl (by rfl);refine Hp 1 3 ?_);(repeat first|refine sN rfl ?_ |(refine sM rfl ?_ ?_;first|exact tI|omega) |refine t4 rfl ‹_› rfl ?_ |refine aU rfl ?_ |refine Aa ?_);refine aB ?_;refine Aj.A5 (α:={m:Nat // m<=s.ns.length}) (λ⟨m,hm⟩=>[(2,Ak g.ls),(3,.o (.fn gN capsN)),(12,.o (.ptr 0 1 0 0)),(13,.o (.ptr 3 1 0 0)),(14,.o (.fn 147 [.ptr 0 1 0 0,.ptr 2 1 0 0,.ptr 3 1 0 0])),(15,eI .i64 i),(33,Ak g.ls),(34,eI .i64 g.ls.length),(35,eI .i64 j),(17,eI .i64 l),(18,.o (.arr 5 1 0 ((s.ns.take m).flatMap λn=>g.succ n l).length)),(43,Ak s.ns),(44,eI .i64 s.ns.length),(45,eI .i64 m)]) (λ⟨m,hm⟩=>Gc g.N gG capsG c 4 st2++[(5,.cells 3 1 (((s.ns.take m).flatMap λn=>g.succ n l).map AD))]) 6 (λ⟨m,hm⟩=>s.ns.length - m) (⟨0,by omega⟩) [0,1,2,3,4,5] (Ee b rfl rfl) (by (simp[cX,zC,b,Gc,d,h])) ?_;rintro⟨m,hm⟩;(try dsimp only);(repeat first|refine s2 rfl λ_ _hb=>?_ |refine aU rfl ?_ |refine Aa ?_);(refine aC rfl ?_ ?_<;>rintro⟨⟩)
   ·obtain⟨n,u⟩:=get_some (l:=s.ns) (k:=m) (by (simp only[oZ] at *;omega))
    have hn':=get_map (g:=Bs) u;have hnb:=p n (co u)
    have hfm:(s.ns.take (m+1)).flatMap (λn=>g.succ n l)=(s.ns.take m).flatMap (λn=>g.succ n l)++g.succ n l:=by
     rw [d9,u];simp
    have hol:((s.ns.take m).flatMap λn=>g.succ n l).length<=1099511627776:=by
     have h2:=Ly (s.ns.take m) (λn=>g.succ n l) 1048576 (λx J=>by have:=hsl x l (p x (oP J)) F;omega)
     have h3:(s.ns.take m).length<=1048576:=by simp;omega
     omega
    have hnx:=hNx n l _ hnb F hol;generalize (s.ns.take m).flatMap (λn=>g.succ n l)=pre at *;refine aK ?_;refine aS (aB ?_);(repeat first|refine tM rfl ?_ |(refine s4 rfl ‹_› rfl ?_ ?_;omega) |refine aU rfl ?_ |refine Aa ?_);(refine pW rfl ?_ rfl (by rfl);refine Ai [5] rfl rfl hnx ⟨rfl,by decide,by decide⟩ (by rw [Si,PY,h];rfl) (by simp[cX,zC,b]) ?_;rintro x0 T U ⟨rfl,rfl,rfl⟩ _);(repeat first|(refine sM rfl ?_ ?_;first|exact tI|omega) |refine aU rfl ?_ |refine Aa ?_);refine⟨⟨m+1,by (simp only[oZ] at *;omega)⟩,by dsimp only;((simp only[oZ] at *;omega)),[0,1,2,3,4,6],?_⟩;simp[cX,zC,b,Gc,d,h,Ab.Bi,BY,IP,hfm]
   ·obtain rfl:m=s.ns.length:=by (simp only[oZ] at *;omega)
    rw [gt];have hR:∀y,y∈s.ns.flatMap (λn=>g.succ n l)↔∃n∈s.ns,y∈g.succ n l:=λy=>pN;generalize s.ns.flatMap (λn=>g.succ n l)=R at *
    have I:∀y∈R,0<=y/\y < g.N:=λy hy=>by
     obtain⟨n,u,hy⟩:=(hR y).1 hy;exact Q.inn n (p n u) l F y hy
    have hv:=XR (goal:=g.goal) f.slen I;have A:=VW (TB:=TB) hG hcG d c st2 i l R f.slen hN (by omega) I;generalize hV2:TZ g.goal c R=v2 at *;refine aE ?_;refine Aj.freeze [5] [(2,Ak g.ls),(3,.o (.fn gN capsN)),(12,.o (.ptr 0 1 0 0)),(13,.o (.ptr 3 1 0 0)),(14,.o (.fn 147 [.ptr 0 1 0 0,.ptr 2 1 0 0,.ptr 3 1 0 0])),(15,eI .i64 i),(33,Ak g.ls),(34,eI .i64 g.ls.length),(35,eI .i64 j),(17,eI .i64 l),(18,Ak R)] ⟨⟨_,rfl,.AR⟩,⟨_,rfl,.AR⟩,⟨_,rfl,.AR⟩,⟨_,rfl,.AR⟩,⟨_,rfl,.AR⟩,⟨_,rfl,.AR⟩,⟨_,rfl,.AR⟩,⟨_,rfl,.AR⟩,⟨_,rfl,.AR⟩,⟨_,rfl,.AR⟩,⟨_,rfl,.o (.full (by simp) rfl (by simp [d5]) (by simp))⟩,trivial⟩ ?_;(repeat first|refine tM rfl ?_ |refine aU rfl ?_);(refine pW rfl ?_ rfl (by rfl);refine Ai [0,1,2,3,4] rfl rfl A ⟨rfl,by decide,by decide⟩ rfl (by simp[cX,zC,b,Gc,d,BY]) ?_;rintro x0 T U ⟨rfl,q,L,rfl⟩ _);obtain⟨vse,vfr,vfd⟩:=v2;simp only;refine Aa ?_;refine Aj.names [0,1,2,3,if q=4 then 4 else 6] [(2,Ak g.ls),(3,.o (.fn gN capsN)),(12,.o (.ptr 0 1 0 0)),(13,.o (.ptr 3 1 0 0)),(14,.o (.fn 147 [.ptr 0 1 0 0,.ptr 2 1 0 0,.ptr 3 1 0 0])),(15,eI .i64 i),(33,Ak g.ls),(34,eI .i64 g.ls.length),(35,eI .i64 j),(59,eB vfd)] (Gc g.N gG capsG vse 4 (Fa st2 i l vfr)) (by simp [b]) (by rcases L with ⟨rfl,rfl⟩|⟨rfl,rfl⟩<;>decide)
     (by rcases L with ⟨rfl,rfl⟩|⟨rfl,rfl⟩<;>simp[cX,zC,b,h]) (by rcases L with ⟨rfl,rfl⟩|⟨rfl,rfl⟩<;>simp[cX,zC,b,Gc,d,Ab.Bi,BY,IP]) ?_
    (refine aC rfl ?_ ?_<;>rintro⟨⟩)
    ·obtain⟨x,J,P⟩:∃x∈vfr,g.goal x=true:=by
      have h1:vfr.any g.goal=true:=hv.fd.symm;exact qq.1 h1
     have hxR:=((hv.fr x).1 J).1;obtain⟨n,u,hxn⟩:=(hR x).1 hxR;have G:=CE.found Q f z hl H u hxn P;have B:=CE.unique hr G;subst B
     have hne:vfr≠[]:=λe=>by rw [e] at J;cases J
     have hsv:Fa st2 i l vfr=st2++[⟨i,l,vfr⟩]:=by unfold Fa;rw [if_neg hne]
     rw [hsv];have hch:=f.Zw.app (ns:=vfr) z F;have hpw:=Vk (TB:=TB) hch X (w:=wi++[l]) (by simp;omega) (by simp [f.wlen]);generalize hst3:st2++[⟨(i:Int),l,vfr⟩]=st3 at *;(repeat first|refine tM rfl ?_|(refine Ag rfl ?_;refine gA rfl ?_;first| refine gQ (IA rfl rfl ((.cons (.o (.full rfl (by simp [d5]) (by simp))) .nil)) (hpw) rfl) rfl ?_) |refine aU rfl ?_ |refine Aa ?_);refine aR ⟨_,rfl,rfl⟩
    ·have S:=f.visit Q z hl H hR hv rfl
     have M:i < (Fa st2 i l vfr).length:=by unfold Fa;split<;>(try simp)<;>omega
     refine aK ?_;(repeat first|(refine sM rfl ?_ ?_;first|exact tI|omega) |refine aU rfl ?_ |refine Aa ?_);refine⟨⟨(j+1,vse,Fa st2 i l vfr,ny t (wi++[l]) vfr),hjl,S,M⟩,by dsimp only;omega,[0,1,2,3,4],?_⟩;simp[cX,zC,b,Gc,d,h]
  ·obtain rfl:j=g.ls.length:=by (simp only[oZ] at *;omega)
   have S:=f.lD hi;refine aE ?_;(repeat first|(refine sM rfl ?_ ?_;first|exact tI|omega) |refine aU rfl ?_ |refine Aa ?_);refine⟨⟨(i+1,c,st2,t),S⟩,by dsimp only;omega,[0,1,2,3,4],?_⟩;simp[cX,zC,b,Gc,d,h]
 ·have hle:=f.le
  obtain rfl:i=steps.length:=by (simp only[oZ] at *;omega)
  have G:=CE.og Q f;have B:=CE.unique hr G;subst B;refine aE ?_;(repeat first|refine tM rfl ?_ |refine aU rfl ?_ |refine Aa ?_);refine aR ⟨_,rfl,rfl⟩
def Ga(a p:AY)(node letter:Int):Int:=CB a (node / p.nx.length % a.nx.length).toNat letter*p.nx.length+CB p (node % p.nx.length).toNat letter
def Jz(l:List Sys)(a p:AY)(node letter:Int):List Int:=(Ey (l.map (·.st)) (ZM l (node / p.nx.length / a.nx.length) letter)).map λo=>o*a.nx.length*p.nx.length+Ga a p node letter
def NP(a p:AY)(node:Int):Bool:=a.ac.getD (node / p.nx.length % a.nx.length).toNat false && !p.ac.getD (node % p.nx.length).toNat false
def gI(l:List Sys)(a p:AY)(ls:List Int):Gr:=⟨(Aw (l.map (·.st))*a.nx.length*p.nx.length).toNat,Jz l a p,NP a p,ls,0⟩
theorem Mq{a:AY}{q:Nat}(h:q < a.nx.length):(Hb a)[q]? = some (Xw λl=>CB a q l):=DU (g:=λq=>Xw λl=>CB a q l) h
theorem Jv{h:Nat->Int}{l:Int}(d:0<=l)(c:l < 6):((Xw h).drop (l.toNat*1))[0]? = some (iD (h l.toNat)):=by
 rw [oV]
 have b:l.toNat*1+0=l.toNat:=by omega
 have a:l.toNat < 6:=by omega
 rw [b];simp [Xw,a]
theorem eH{outs low:List Int}{h:Int->Int}{k:Nat}{x:Int}(a:low[k]? = some x):(outs++((low.take k).map h++low.drop k)).set (outs.length+k) (h x)=outs++((low.take (k+1)).map h++low.drop (k+1)):=by
 have hk:=(ce.1 a).1;rw [q6 _ _ (by omega),q6 _ _ (by simp;omega)];congr 1
 have e:outs.length+k - outs.length - ((low.take k).map h).length=0:=by simp;omega
 rw [e,BD a,d9,a];simp
theorem Cr{a:AY}(h:AI a=true):1<=a.nx.length/\a.nx.length<=12:=by have:=AE h;omega
theorem Jt{l:List Sys}(h:∀s∈l,AV s=true)(d:l.length<=3):1<=Aw (l.map (·.st))/\Aw (l.map (·.st))<=4096:=by
 have a:∀z∈l.map (·.st),1<=z/\z<=16:=by
  intro z b;obtain⟨s,c,rfl⟩:=d8.1 b;have:=AN (h s c);omega
 have f:=HV _ a
 have e:(16:Int) ^ (l.map (·.st)).length<=4096:=by
  have:(l.map (·.st)).length<=3:=by simp;omega
  generalize (l.map (·.st)).length=n at this
  have:n=0\/n=1\/n=2\/n=3:=by omega
  rcases this with rfl|rfl|rfl|rfl<;>decide
 omega
theorem Vw{a p:AY}(ha:AI a=true)(b:AI p=true){node letter:Int}(g:0<=node)(d:0<=letter)(c:letter < 6):0<=Ga a p node letter/\Ga a p node letter < a.nx.length*p.nx.length:=by
 have o:=Cr ha;have l:=Cr b
 have k:0<=node / p.nx.length % a.nx.length/\node / p.nx.length % a.nx.length < a.nx.length:=⟨pD _ (by omega),pp _ (by omega)⟩
 have j:0<=node % p.nx.length/\node % p.nx.length < p.nx.length:=⟨pD _ (by omega),pp _ (by omega)⟩
 have f:=Dy ha (q:=(node / p.nx.length % a.nx.length).toNat) (by omega) d c;have i:=Dy b (q:=(node % p.nx.length).toNat) (by omega) d c;unfold Ga;generalize CB a _ letter=x at *;generalize CB p _ letter=y at *;generalize (a.nx.length:Int)=n at *;generalize (p.nx.length:Int)=m at *;have h:0<=x*m:=ph f.1 (by omega);have e:(x+1)*m<=n*m:=pQ (by omega) (by omega);rw [qE] at e;omega
theorem U7[Dc TB]{l:List Sys}{a p:AY}(h:∀s∈l,AV s=true)(M:l.length<=3)(ha:AI a=true)(I:AI p=true)(node letter:Int)(d:0<=node)(hn1:node<=1048576)(j:0<=letter)(f:letter < 6)(outs:List Int)(J:outs.length<=1099511627776) :
 Spec Tryz.prog TB 94 [(0,.cells 3 1 (outs.map AD))] 1 [eI .i64 node,eI .i64 letter,.o (.arr 0 1 0 outs.length),.o (.ip [.l (Hb a)]),.o (.ip [iD p.nx.length]),.o (.ip [iD a.nx.length]),.o (.ip [.l (Hb p)]),.o (.ip (GX l))]
  (λx σ nx=>x=.o (.arr 1 1 0 (outs++Jz l a p node letter).length)/\nx=2/\σ=[(1,.cells 3 1 ((outs++Jz l a p node letter).map AD))]):=by
 have han:=Cr ha;have hpn:=Cr I;have F:=Vw ha I d j f;have u:0<=node / p.nx.length:=qx d (by omega);have X:node / p.nx.length<=node:=qo _ d;have H:0<=node / p.nx.length / a.nx.length:=qx u (by omega);have V:node / p.nx.length / a.nx.length<=node / p.nx.length:=qo _ u
 have h4:0<=node / p.nx.length % a.nx.length/\node / p.nx.length % a.nx.length < a.nx.length:=⟨pD _ (by omega),pp _ (by omega)⟩
 have h5:0<=node % p.nx.length/\node % p.nx.length < p.nx.length:=⟨pD _ (by omega),pp _ (by omega)⟩
 have h6:=Dy ha (q:=(node / p.nx.length % a.nx.length).toNat) (by omega) j f;have h7:=Dy I (q:=(node % p.nx.length).toNat) (by omega) j f;have U:=Mq (a:=a) (q:=(node / p.nx.length % a.nx.length).toNat) (by omega);have T:=Mq (a:=p) (q:=(node % p.nx.length).toNat) (by omega);have t:=Jv (h:=λl=>CB a (node / p.nx.length % a.nx.length).toNat l) j f;have r:=Jv (h:=λl=>CB p (node % p.nx.length).toNat l) j f
 have el:((letter.toNat:Nat):Int)=letter:=by omega
 have h8:0<=CB a (node / p.nx.length % a.nx.length).toNat letter*p.nx.length/\CB a (node / p.nx.length % a.nx.length).toNat letter*p.nx.length<=144:=⟨ph h6.1 (by omega),by
  have:CB a (node / p.nx.length % a.nx.length).toNat letter*p.nx.length<=12*12:=pe (by omega) (by omega) (by omega) (by omega)
  omega⟩
 simp only [el] at t r;have K:=gu (TB:=TB) l h M (node / p.nx.length / a.nx.length) letter H (by omega) j f outs J;have w:=Tj (SU h M j f (node / p.nx.length / a.nx.length));have Y:=Jt h M;have G:CB a (node / p.nx.length % a.nx.length).toNat letter*p.nx.length+CB p (node % p.nx.length).toNat letter=Ga a p node letter:=rfl;unfold Jz;generalize Ey (l.map (·.st)) (ZM l (node / p.nx.length / a.nx.length) letter)=low at *;refine eN Tryz.func94 rfl (by kernel_rfl) rfl ?_;intro Z b;(repeat first |refine sN rfl ?_ |((first|refine sA rfl ?_ ?_|refine s4 rfl ‹_› rfl ?_ ?_);first|exact tI|omega|simp only[oZ] at *;omega) |refine s2 rfl λ_ c=>?_ |refine s3 rfl ?_ ?_<;>rintro rfl |refine aU rfl ?_ |refine Aa ?_);refine rG (Hg []) (by kernel_rfl) ?_;(repeat first |refine sN rfl ?_ |((first|refine sA rfl ?_ ?_|refine s4 rfl ‹_› rfl ?_ ?_);first|exact tI|omega|simp only[oZ] at *;omega) |refine s2 rfl λ_ c=>?_|(refine Ag rfl ?_;refine gA rfl ?_;first|refine gS (λ_ _=>EI rfl t) ?_|refine gS (λ_ _=>EI rfl r) ?_) |refine s3 rfl ?_ ?_<;>rintro rfl |refine aU rfl ?_ |refine Aa ?_);rw [G];refine rG (Hg [8]) (by kernel_rfl) ?_;(repeat first |refine sN rfl ?_ |((first|refine sA rfl ?_ ?_|refine s4 rfl ‹_› rfl ?_ ?_);first|exact tI|omega|simp only[oZ] at *;omega) |refine s2 rfl λ_ c=>?_ |refine s3 rfl ?_ ?_<;>rintro rfl |refine aU rfl ?_ |refine Aa ?_);(refine pW rfl ?_ rfl (by rfl);refine Ai [0] rfl rfl K ⟨rfl,by decide,by decide⟩ rfl (by simp[cX,zC,b]) ?_;rintro x0 R S ⟨rfl,rfl,rfl⟩ _);(repeat first |refine sN rfl ?_ |((first|refine sA rfl ?_ ?_|refine s4 rfl ‹_› rfl ?_ ?_);first|exact tI|omega|simp only[oZ] at *;omega) |refine s2 rfl λ_ c=>?_ |refine s3 rfl ?_ ?_<;>rintro rfl |refine aU rfl ?_ |refine Aa ?_);refine aB ?_
 have L:∀k,((outs++((low.take k).map (λo=>o*a.nx.length*p.nx.length+Ga a p node letter)++low.drop k)).length)=outs.length+low.length:=by intro k;simp;omega
 refine Aj.A5 (α:={k:Nat // k<=low.length}) (λ⟨k,hk⟩=>[(2,.o (.arr 1 1 0 (outs.length+low.length))),(4,.o (.ip [iD p.nx.length])),(5,.o (.ip [iD a.nx.length])),(12,eI .i64 (Ga a p node letter)),(14,eI .i64 ((outs.length+k:Nat):Int))]) (λ⟨k,hk⟩=>[(1,.cells 3 1 ((outs++((low.take k).map (λo=>o*a.nx.length*p.nx.length+Ga a p node letter)++low.drop k)).map AD))]) 2 (λ⟨k,hk⟩=>low.length - k) (⟨0,by omega⟩) [0,1] (Ee b rfl rfl) (by ((repeat' first|exact tI|rfl|refine And.intro ?_ ?_)<;>(simp[cX,zC,b,Ab.Bi,BY,IP]))) ?_;rintro⟨k,hk⟩;(try dsimp only);(repeat first |refine sN rfl ?_ |((first|refine sM rfl ?_ ?_|refine s4 rfl ‹_› rfl ?_ ?_);first|exact tI|omega|simp only[oZ] at *;omega) |refine s2 rfl λ_ c=>?_ |refine s3 rfl ?_ ?_<;>rintro rfl |refine aU rfl ?_ |refine Aa ?_ |refine rE (by kernel_rfl) ?_);(refine aC rfl ?_ ?_<;>rintro⟨⟩)
 ·have z:k < low.length:=by first|omega|simp only[oZ] at *;omega
  obtain⟨x,B⟩:=get_some (l:=low) (k:=k) z;have A:=w.1 x (co B);have n:=eH (outs:=outs) (h:=λo=>o*a.nx.length*p.nx.length+Ga a p node letter) B
  have P:(outs++((low.take k).map (λo=>o*a.nx.length*p.nx.length+Ga a p node letter)++low.drop k))[outs.length+k]? = some x:=by
   rw [f9 (by omega),f9 (by simp;omega),BD B]
   have e:outs.length+k - outs.length - ((low.take k).map (λo=>o*a.nx.length*p.nx.length+Ga a p node letter)).length=0:=by simp;omega
   rw [e];rfl
  have Q:=HM (g:=AD) P
  have v:0<=x*a.nx.length/\x*a.nx.length<=49152:=⟨ph A.1 (by omega),by
   have:x*a.nx.length<=4096*12:=pe (by omega) (by omega) (by omega) (by omega)
   omega⟩
  have hm2:0<=x*a.nx.length*p.nx.length/\x*a.nx.length*p.nx.length<=589824:=⟨ph v.1 (by omega),by
   have:x*a.nx.length*p.nx.length<=49152*12:=pe v.2 (by omega) (by omega) (by omega)
   omega⟩
  have hm3:(a.nx.length:Int)*p.nx.length<=144:=by
   have:(a.nx.length:Int)*p.nx.length<=12*12:=pe (by omega) (by omega) (by omega) (by omega);omega
  have hlk:=L k
  have N:((outs.length+k:Nat):Int)+1=((outs.length+(k+1):Nat):Int):=by omega
  have m:=H0 (l:=outs++((low.take k).map (λo=>o*a.nx.length*p.nx.length+Ga a p node letter)++low.drop k)) (k:=outs.length+k) (x:=x) (y:=x*a.nx.length*p.nx.length+Ga a p node letter);rw [n] at m;generalize outs++((low.take k).map (λo=>o*a.nx.length*p.nx.length+Ga a p node letter)++low.drop k)=cur at *;refine aK ?_;refine aS (aB ?_);refine rG (Hg [13]) (by kernel_rfl) ?_;(repeat first |refine sN rfl ?_ |((first|refine sM rfl ?_ ?_|refine s4 rfl ‹_› rfl ?_ ?_);first|exact tI|omega|simp only[oZ] at *;omega) |refine s2 rfl λ_ c=>?_ |refine s3 rfl ?_ ?_<;>rintro rfl |refine aU rfl ?_ |refine Aa ?_ |refine rE (by kernel_rfl) ?_);refine⟨⟨k+1,z⟩,by dsimp only;omega,[0,1],?_⟩;rw [m,N];simp[cX,zC,b]
 ·obtain rfl:k=low.length:=by first|omega|simp only[oZ] at *;omega
  rw [gt,qN,pf];refine aE ?_;(repeat first |refine sN rfl ?_ |((first|refine sM rfl ?_ ?_|refine s4 rfl ‹_› rfl ?_ ?_);first|exact tI|omega|simp only[oZ] at *;omega) |refine s2 rfl λ_ c=>?_ |refine s3 rfl ?_ ?_<;>rintro rfl |refine aU rfl ?_ |refine Aa ?_ |refine rE (by kernel_rfl) ?_);refine Aj.names [0,1] [(11,.o (.arr 1 1 0 (outs.length+low.length)))] [(1,.cells 3 1 ((outs++low.map λo=>o*a.nx.length*p.nx.length+Ga a p node letter).map AD))] (by intro i hi;rw [b] at hi;obtain rfl:i=0:=(by omega);rfl) (by simp) (by simp[cX,zC,b]) (by simp[cX,zC,b]) ?_;refine aR ⟨_,rfl,by simp,rfl,rfl⟩
theorem SI(s:Sys):Pure Tryz.prog TB 76 [Br s] (eB (!AV s)):=by
 refine eN Tryz.func76 rfl (by kernel_rfl) rfl ?_;intro Z b;(repeat' first |refine sN rfl ?_ |((first|refine sA rfl ?_ ?_|refine s4 rfl ‹_› rfl ?_ ?_);first|exact tI|omega|simp only[oZ] at *;omega) |refine s2 rfl λ_ a=>?_ |(refine sC rfl (BK s) ?_;intro _ a) |refine s3 rfl ?_ ?_<;>rintro rfl |refine aU rfl ?_ |refine Aa ?_ |refine rE (by kernel_rfl) ?_|(refine aC rfl ?_ ?_<;>rintro⟨⟩)|refine aK ?_|refine aE ?_|refine aB ?_|refine aR ⟨_,rfl,?_⟩)
 all_goals (show E.o _=E.o _;congr;grind)
def WA:List Sys->Int->Int
 | [],_=>-1
 | s::l,k=>if AV s then WA l (k+1) else k
theorem Uo:∀(l:List Sys) (k:Int),0<=k->(decide (0<=WA l k) = !l.all AV)
 | [],_,_=>rfl
 | s::l,k,h=>by
  unfold WA;by_cases a:AV s=true
  ·rw [if_pos a,Uo l (k+1) (by omega)];simp [a]
  ·rw [if_neg a];simp [a,h]
theorem Te(l:List Sys):Pure Tryz.prog TB 135 [Gl l,.o (.fn 76 [])] (eI .i64 (WA l 0)):=by
 refine eN Tryz.func135 rfl (by kernel_rfl) rfl ?_;intro Z b;refine Aj.bound 0 rfl λc=>?_;have f:=c (l.map AL) .refl;(repeat' first |refine sN rfl ?_ |((first|refine sA rfl ?_ ?_|refine s4 rfl ‹_› rfl ?_ ?_);first|exact tI|omega|simp only[oZ] at *;omega) |refine s2 rfl λ_ a=>?_ |refine s3 rfl ?_ ?_<;>rintro rfl |refine aU rfl ?_ |refine Aa ?_ |refine rE (by kernel_rfl) ?_|(refine aC rfl ?_ ?_<;>rintro⟨⟩)|refine aK ?_|refine aE ?_|refine aB ?_|refine aR ⟨_,rfl,?_⟩);refine Aj.A5 (α:={k:Nat // k<=l.length/\WA l 0=WA (l.drop k) k}) (λ⟨k,hk,ha⟩=>[(0,Gl l),(1,.o (.fn 76 [])),(7,eI .i64 l.length),(8,eI .i64 k)]) (λ⟨k,hk,ha⟩=>[]) 0 (λ⟨k,hk,ha⟩=>l.length - k) (⟨0,by omega,rfl⟩) [] (Ee b rfl rfl) (by ((repeat' first|exact tI|rfl|refine And.intro ?_ ?_)<;>(simp[cX,zC,b]))) ?_;rintro⟨k,hk,ha⟩;(try dsimp only);(repeat first |refine sN rfl ?_ |((first|refine sA rfl ?_ ?_|refine s4 rfl ‹_› rfl ?_ ?_);first|exact tI|omega|simp only[oZ] at *;omega) |refine s2 rfl λ_ a=>?_ |refine s3 rfl ?_ ?_<;>rintro rfl |refine aU rfl ?_ |refine Aa ?_ |refine rE (by kernel_rfl) ?_);(refine aC rfl ?_ ?_<;>rintro⟨⟩)
 ·obtain⟨x,d⟩:=get_some (l:=l) (k:=k) (by first|omega|simp only[oZ] at *;omega)
  have e:=get_map (g:=AL) d;rw [BD d,WA] at ha;(repeat' first |refine sN rfl ?_ |((first|refine sA rfl ?_ ?_|refine s4 rfl ‹_› rfl ?_ ?_);first|exact tI|omega|simp only[oZ] at *;omega) |refine s2 rfl λ_ a=>?_ |(refine sC rfl (SI x) ?_;intro _ a) |refine s3 rfl ?_ ?_<;>rintro rfl |refine aU rfl ?_ |refine Aa ?_ |refine rE (by kernel_rfl) ?_|(refine aC rfl ?_ ?_<;>rintro⟨⟩)|refine aK ?_|refine aE ?_|refine aB ?_|refine aR ⟨_,rfl,?_⟩)
  ·rw [if_neg (by grind)] at ha
   show E.o _=E.o _;rw [ha]
  ·rw [if_pos (by grind)] at ha
   refine⟨⟨k+1,by first|omega|simp only[oZ] at *;omega,by rw [ha];rfl⟩,by dsimp only;(first|omega|simp only[oZ] at *;omega),[],?_⟩;simp[cX,zC,b]
 ·(repeat' first |refine sN rfl ?_ |((first|refine sA rfl ?_ ?_|refine s4 rfl ‹_› rfl ?_ ?_);first|exact tI|omega|simp only[oZ] at *;omega) |refine s2 rfl λ_ a=>?_ |refine s3 rfl ?_ ?_<;>rintro rfl |refine aU rfl ?_ |refine Aa ?_ |refine rE (by kernel_rfl) ?_|(refine aC rfl ?_ ?_<;>rintro⟨⟩)|refine aK ?_|refine aE ?_|refine aB ?_|refine aR ⟨_,rfl,?_⟩)
  rw [pO (by first|omega|simp only[oZ] at *;omega)] at ha
  show E.o _=E.o _;rw [ha];rfl
theorem Ok(l:List Sys):Pure Tryz.prog TB 75 [Gl l,.o (.fn 76 [])] (eB (!l.all AV)):=by
 have hb:=Uo l 0 (by omega);refine eN Tryz.func75 rfl (by kernel_rfl) rfl ?_;intro Z a;(repeat' first |refine sN rfl ?_ |((first|refine sA rfl ?_ ?_|refine s4 rfl ‹_› rfl ?_ ?_);first|exact tI|omega|simp only[oZ] at *;omega) |refine s2 rfl λ_ b=>?_ |refine sP rfl (Te l) rfl ?_ |refine s3 rfl ?_ ?_<;>rintro rfl |refine aU rfl ?_ |refine Aa ?_ |refine rE (by kernel_rfl) ?_|(refine aC rfl ?_ ?_<;>rintro⟨⟩)|refine aK ?_|refine aE ?_|refine aB ?_|refine aR ⟨_,rfl,?_⟩)
 all_goals (show E.o _=E.o _;congr;grind)
theorem Hj(l:List Sys):Pure Tryz.prog TB 36 [Gl l] (eB (AU l)):=by
 refine eN Tryz.func36 rfl (by kernel_rfl) rfl ?_;intro Z b;(repeat' first |refine sN rfl ?_ |((first|refine sA rfl ?_ ?_|refine s4 rfl ‹_› rfl ?_ ?_);first|exact tI|omega|simp only[oZ] at *;omega) |refine s2 rfl λ_ a=>?_ |(refine sC rfl (Ok l) ?_;intro _ a) |refine s3 rfl ?_ ?_<;>rintro rfl |refine aU rfl ?_ |refine Aa ?_ |refine rE (by kernel_rfl) ?_|(refine aC rfl ?_ ?_<;>rintro⟨⟩)|refine aK ?_|refine aE ?_|refine aB ?_|refine aR ⟨_,rfl,?_⟩)
 all_goals (show E.o _=E.o _;congr;unfold AU;grind)
theorem FP(l:List Sys):Pure Tryz.prog TB 56 [Gl l] (eI .i64 (Bv l)):=by
 refine eN Tryz.func56 rfl (by kernel_rfl) rfl ?_;intro Z b;refine Aj.bound 0 rfl λe=>?_;have i:=e (l.map AL) .refl;(repeat' first |refine sN rfl ?_ |((first|refine sA rfl ?_ ?_|refine s4 rfl ‹_› rfl ?_ ?_);first|exact tI|omega|simp only[oZ] at *;omega) |refine s2 rfl λ_ a=>?_ |(refine sC rfl (Hj l) ?_;intro _ a) |refine s3 rfl ?_ ?_<;>rintro rfl |refine aU rfl ?_ |refine Aa ?_ |refine rE (by kernel_rfl) ?_|(refine aC rfl ?_ ?_<;>rintro⟨⟩)|refine aK ?_|refine aE ?_|refine aB ?_|refine aR ⟨_,rfl,?_⟩)
 all_goals try (show E.o _=E.o _;congr;unfold Bv;rw [if_neg (by grind)])
 have d:AU l=true:=by grind
 refine Aj.A5 (α:={k:Nat // k<=l.length}) (λ⟨k,hk⟩=>[(3,eI .i64 (Hw (l.take k) 0)),(9,Gl l),(10,eI .i64 l.length),(11,eI .i64 k)]) (λ⟨k,hk⟩=>[]) 0 (λ⟨k,hk⟩=>l.length - k) (⟨0,by omega⟩) [] (Ee b rfl rfl) (by ((repeat' first|exact tI|rfl|refine And.intro ?_ ?_)<;>(simp[cX,zC,b]))) ?_;rintro⟨k,hk⟩;(try dsimp only);(repeat first |refine sN rfl ?_ |((first|refine sA rfl ?_ ?_|refine s4 rfl ‹_› rfl ?_ ?_);first|exact tI|omega|simp only[oZ] at *;omega) |refine s2 rfl λ_ a=>?_ |refine s3 rfl ?_ ?_<;>rintro rfl |refine aU rfl ?_ |refine Aa ?_ |refine rE (by kernel_rfl) ?_);(refine aC rfl ?_ ?_<;>rintro⟨⟩)
 ·obtain⟨x,f⟩:=get_some (l:=l) (k:=k) (by first|omega|simp only[oZ] at *;omega)
  have h:=get_map (g:=AL) f
  have c:Hw (l.take (k+1)) 0=Gt .i64 (Hw (l.take k) 0) x.al:=by unfold Hw;rw [GO f]
  (repeat' first |refine sN rfl ?_ |((first|refine sA rfl ?_ ?_|refine s4 rfl ‹_› rfl ?_ ?_);first|exact tI|omega|simp only[oZ] at *;omega) |refine s2 rfl λ_ a=>?_ |refine s3 rfl ?_ ?_<;>rintro rfl |refine aU rfl ?_ |refine Aa ?_ |refine rE (by kernel_rfl) ?_|(refine aC rfl ?_ ?_<;>rintro⟨⟩)|refine aK ?_|refine aE ?_|refine aB ?_|refine aR ⟨_,rfl,?_⟩);refine⟨⟨k+1,by first|omega|simp only[oZ] at *;omega⟩,by dsimp only;(first|omega|simp only[oZ] at *;omega),[],?_⟩;simp[cX,zC,b,c]
 ·(repeat' first |refine sN rfl ?_ |((first|refine sA rfl ?_ ?_|refine s4 rfl ‹_› rfl ?_ ?_);first|exact tI|omega|simp only[oZ] at *;omega) |refine s2 rfl λ_ a=>?_ |refine s3 rfl ?_ ?_<;>rintro rfl |refine aU rfl ?_ |refine Aa ?_ |refine rE (by kernel_rfl) ?_|(refine aC rfl ?_ ?_<;>rintro⟨⟩)|refine aK ?_|refine aE ?_|refine aB ?_|refine aR ⟨_,rfl,?_⟩)
  rw [gc (by first|omega|simp only[oZ] at *;omega)]
  show E.o _=E.o _;congr;unfold Bv;rw [if_pos d]
theorem UD{a p:AY}(ha:AI a=true)(e:AI p=true)(node:Int)(d:0<=node)(n:node<=1048576):Pure Tryz.prog TB 96 [eI .i64 node,.o (.ip [.p (AP a)]),.o (.ip [iD p.nx.length]),.o (.ip [iD a.nx.length]),.o (.ip (AP p))] (eB (NP a p node)):=by
 have t:=Cr ha;have j:=Cr e;have u:=AE ha;have m:=AE e;have i:0<=node / p.nx.length:=qx d (by omega);have h:node / p.nx.length<=node:=qo _ d
 have x:0<=node / p.nx.length % a.nx.length/\node / p.nx.length % a.nx.length < a.nx.length:=⟨pD _ (by omega),pp _ (by omega)⟩
 have w:0<=node % p.nx.length/\node % p.nx.length < p.nx.length:=⟨pD _ (by omega),pp _ (by omega)⟩
 obtain⟨b,hb⟩:=get_some (l:=a.ac) (k:=(node / p.nx.length % a.nx.length).toNat) (by omega);obtain⟨c,f⟩:=get_some (l:=p.ac) (k:=(node % p.nx.length).toNat) (by omega)
 have s:(a.ac.map I9)[(node / p.nx.length % a.nx.length).toNat]? = some (I9 b):=by simp [hb]
 have r:(p.ac.map I9)[(node % p.nx.length).toNat]? = some (I9 c):=by simp [f]
 have q:NP a p node=(b && !c):=by simp [NP,List.getD,hb,f]
 rw [q];refine eN Tryz.func96 rfl (by kernel_rfl) rfl ?_;intro Z g;(repeat' first |refine sN rfl ?_ |((first|refine sA rfl ?_ ?_|refine s4 rfl ‹_› rfl ?_ ?_);first|exact tI|omega|simp only[oZ] at *;omega) |refine s2 rfl λ_ v=>?_ |refine s3 rfl ?_ ?_<;>rintro rfl |refine aU rfl ?_ |refine Aa ?_ |refine rE (by kernel_rfl) ?_|(refine aC rfl ?_ ?_<;>rintro⟨⟩)|refine aK ?_|refine aE ?_|refine aB ?_|refine aR ⟨_,rfl,?_⟩)
 all_goals (show E.o _=E.o _;first|rfl|(congr;grind))
end Go.Am
