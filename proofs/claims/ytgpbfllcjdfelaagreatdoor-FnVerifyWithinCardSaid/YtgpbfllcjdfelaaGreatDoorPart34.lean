/-
  What the searches through systems and automata side by side say, plainly.
-/
import Derived.Test.YtgpbfllcjdfelaaGreatDoorPart32
import Derived.Test.YtgpbfllcjdfelaaGreatDoorPart31
set_option linter.all false
namespace Go.Am
open Go
set_option linter.unusedVariables false
abbrev MM:=Int->Int->List Int
def Jb(c:MM):List Int->Int->Int->Prop
 | [],q,r=>r=q
 | l::w,q,r=>∃y,y∈c q l/\Jb c w y r
def JY:List MM->List Int->List Int->List Int->Prop
 | [],_,[],[]=>True
 | c::cs,w,q::st,r::st'=>Jb c w q r/\JY cs w st st'
 | _,_,_,_=>False
def RP:List MM->Int->List Int->List Int->Prop
 | [],_,[],[]=>True
 | c::cs,l,q::st,r::st'=>r∈c q l/\RP cs l st st'
 | _,_,_,_=>False
theorem I9:∀ {cs:List MM} {l:Int} {w st st':List Int},JY cs (l::w) st st'↔∃st1,RP cs l st st1/\JY cs w st1 st'
 | [],l,w,[],[]=>⟨λ_=>⟨[],trivial,trivial⟩,λ_=>trivial⟩
 | [],l,w,[],_::_=>⟨λh=>h.elim,λ⟨st1,a,b⟩=>by cases st1<;>simp [RP,JY] at a b⟩
 | [],l,w,_::_,st'=>⟨λh=>by cases st'<;>exact h.elim,λ⟨st1,a,b⟩=>by cases st1<;>exact a.elim⟩
 | c::cs,l,w,[],st'=>⟨λh=>by cases st'<;>exact h.elim,λ⟨st1,a,b⟩=>by cases st1<;>exact a.elim⟩
 | c::cs,l,w,q::st,[]=>⟨λh=>h.elim,λ⟨st1,a,b⟩=>by cases st1<;>first|exact a.elim|exact b.elim⟩
 | c :: cs,l,w,q::st,r::st'=>by
  have d:=I9 (cs:=cs) (l:=l) (w:=w) (st:=st) (st':=st');constructor
  ·rintro⟨⟨y,e,a⟩,b⟩
   obtain⟨st1,g,f⟩:=d.1 b;exact⟨y::st1,⟨e,g⟩,a,f⟩
  ·rintro⟨st1,a,b⟩
   cases st1 with
   | nil=>exact a.elim
   | cons y st1=>exact⟨⟨y,a.1,b.1⟩,d.2 ⟨st1,a.2,b.2⟩⟩
def DH(n:Net):List MM:=n.ps.map (λs q l=>BF s q l)++n.au.map (λa q l=>[Cg a q.toNat l])
def Qf:List Int->List (List Int)->Prop
 | [],[]=>True
 | x::xs,c::cs=>x∈c/\Qf xs cs
 | _,_=>False
theorem VV:∀ {zs:List Int} {cs:List (List Int)} {out:List Int} {v:Int},cs.length=zs.length->(v∈Gk zs cs out↔∃o∈out,∃st1,Qf st1 cs/\v=Dj zs st1 o)
 | [],[],out,v,_=>by
  constructor
  ·intro h;exact⟨v,h,[],trivial,rfl⟩
  ·rintro⟨o,a,st1,h,rfl⟩
   cases st1 with
   | nil=>exact a
   | cons x st1=>exact h.elim
 | [],_::_,_,_,h=>by simp at h
 | _::_,[],_,_,h=>by simp at h
 | z :: zs,c::cs,out,v,h=>by
  have g:=VV (zs:=zs) (cs:=cs) (out:=out.flatMap λo=>c.map λx=>o*z+x) (v:=v) (by simpa using h)
  show v∈Gk zs cs _↔_
  rw [g];constructor
  ·rintro⟨o,a,st1,b,e⟩
   obtain⟨f,d,j⟩:=mJ.1 a;obtain⟨x,i,rfl⟩:=d8.1 j;exact⟨f,d,x::st1,⟨i,b⟩,e⟩
  ·rintro⟨o,a,st1,b,e⟩
   cases st1 with
   | nil=>exact b.elim
   | cons x st1=>exact⟨o*z+x,mJ.2 ⟨o,a,d8.2 ⟨x,b.1,rfl⟩⟩,st1,b.2,e⟩
theorem Hm:∀ {cs:List MM} {l:Int} {st st1:List Int},cs.length=st.length->(Qf st1 (cs.zipWith (λc q=>c q l) st)↔RP cs l st st1)
 | [],l,[],st1,_=>by
  cases st1 with
  | nil=>exact⟨λ_=>trivial,λ_=>trivial⟩
  | cons x st1=>exact⟨λh=>h.elim,λh=>h.elim⟩
 | [],_,_::_,_,h=>by simp at h
 | _::_,_,[],_,h=>by simp at h
 | c::cs,l,q::st,st1,h=>by
  have a:=λst1=>Hm (cs:=cs) (l:=l) (st:=st) (st1:=st1) (by simpa using h)
  cases st1 with
  | nil=>exact⟨λh=>h.elim,λh=>h.elim⟩
  | cons x st1=>exact⟨λh=>⟨h.1,(a st1).1 h.2⟩,λh=>⟨h.1,(a st1).2 h.2⟩⟩
theorem Qv{n:Net}{st:List Int}(h:n.ps.length+n.au.length=st.length)(l:Int):Jx n st l=(DH n).zipWith (λc q=>c q l) st:=by
 unfold Jx DH;have e:st=st.take n.ps.length++st.drop n.ps.length:=(mz _ _).symm
 conv=>rhs;rw [e]
 rw [List.zipWith_append (by simp;omega),List.zipWith_map_left,List.zipWith_map_left];congr 1;exact Fv _ _ _
theorem QA:∀ {zs ss:List Int},Fits zs ss->∀n:Int,Dj zs ss n=n*Au zs+Dj zs ss 0
 | _,_,.nil,n=>by simp [Dj,Au]
 | _,_,@Fits.cons z s zs ss c b a,n=>by
  show Dj zs ss (n*z+s)=n*(z*Au zs)+Dj zs ss (0*z+s)
  rw [QA a (n*z+s),QA a (0*z+s),mP,mP,m7,o3,o3,nU,Int.add_assoc]
theorem Nd:∀ {zs ss:List Int},Fits zs ss->∀m:Int,Bq zs (Dj zs ss m)=ss
 | _,_,.nil,m=>rfl
 | _,_,@Fits.cons z s zs ss d c a,m=>by
  show (Dj zs ss (m*z+s) / Au zs % z)::Bq zs (Dj zs ss (m*z+s))=s::ss
  rw [Nd a];congr 1;have e:=a.pos;have b:=a.enc 0 (by omega);rw [nU,pD] at b;rw [QA a,oh,oH _ _ (by omega),oI b.1 b.2,nU,oh,nV,nL d c]
theorem J5:∀ {zs:List Int} {cs:List (List Int)} {st:List Int},EW zs cs->Qf st cs->Fits zs st
 | _,_,[],.nil,_=>.nil
 | _,_,_::_,.nil,h=>h.elim
 | _,_,[],.cons _ _ _,h=>h.elim
 | _,_,x::st,.cons a c b,h=>.cons (a x h.1).1 (a x h.1).2 (J5 b h.2)
theorem La:∀ {cs:List MM} {st st':List Int},cs.length=st.length->(JY cs [] st st'↔st'=st)
 | [],[],[],_=>⟨λ_=>rfl,λ_=>trivial⟩
 | [],[],_::_,_=>⟨λh=>h.elim,λh=>by cases h⟩
 | [],_::_,_,h=>by simp at h
 | _::_,[],_,h=>by simp at h
 | c::cs,q::st,[],h=>⟨λh=>h.elim,λh=>by cases h⟩
 | c :: cs,q::st,r::st',h=>by
  have d:=La (cs:=cs) (st:=st) (st':=st') (by simpa using h);constructor
  ·rintro⟨a,b⟩
   have a:r=q:=a;rw [d.1 b,a]
  ·intro h
   injection h with a b
   exact⟨a,d.2 b⟩
theorem Hg{n:Net}(q:Dm n):∀ {w:List Int} {st:List Int} {x:Int},Fits (Ag n) st->(∀l∈w,0<=l/\l < 6)->(reach (DJ n) w (Dj (Ag n) st 0) x↔∃st',JY (DH n) w st st'/\Fits (Ag n) st'/\x=Dj (Ag n) st' 0)
 | [],st,x,e,_=>by
  have j:=e.len
  have f:(DH n).length=st.length:=by simp [DH,Ag] at j |-;omega
  constructor
  ·intro h
   exact⟨st,(La f).2 rfl,e,h.symm⟩
  ·rintro⟨st',a,_,b⟩
   rw [(La f).1 a] at b;exact b.symm
 | l :: w,st,x,e,k=>by
  have j:=e.len
  have f:(DH n).length=st.length:=by simp [DH,Ag] at j |-;omega
  have g:=k l (by simp);have d:=Hs q e g.1 g.2
  have c:n.ps.length+n.au.length=st.length:=by simp [Ag] at j;omega
  have v:(DJ n).succ (Dj (Ag n) st 0) l=Gk (Ag n) (Jx n st l) [0]:=by
   show Eo n (Ag n) (Bq (Ag n) (Dj (Ag n) st 0)) l=_
   rw [Nd e];rfl
  have key:∀y,y∈(DJ n).succ (Dj (Ag n) st 0) l↔∃st1,RP (DH n) l st st1/\Fits (Ag n) st1/\y=Dj (Ag n) st1 0:=λy=>by
   rw [v,VV d.len.symm];constructor
   ·rintro⟨o,p,st1,a,b⟩
    have p:o=0:=by simpa using p
    subst p;exact⟨st1,(Hm f).1 (by rw [<-Qv c];exact a),J5 d a,b⟩
   ·rintro⟨st1,a,_,b⟩
    exact⟨0,by simp,st1,by rw [Qv c];exact(Hm f).2 a,b⟩
  constructor
  ·rintro⟨y,u,h⟩
   obtain⟨st1,a,b,rfl⟩:=(key y).1 u;obtain⟨st',t,s⟩:=(Hg q b λm r=>k m (by simp [r])).1 h;exact⟨st',I9.2 ⟨st1,a,t⟩,s⟩
  ·rintro⟨st',t,s⟩
   obtain⟨st1,a,z⟩:=I9.1 t;have i:Fits (Ag n) st1:=J5 d (by rw [Qv c];exact(Hm f).2 a);exact⟨_,(key _).2 ⟨st1,a,i,rfl⟩,(Hg q i λm r=>k m (by simp [r])).2 ⟨st',z,s⟩⟩
theorem Mh{n:Net}(g:Dm n):∀ {w:List Int} {st st':List Int},Fits (Ag n) st->(∀l∈w,0<=l/\l < 6)->JY (DH n) w st st'->Fits (Ag n) st'
 | [],st,st',b,_,h=>by
  have c:=b.len
  have e:(DH n).length=st.length:=by simp [DH,Ag] at c |-;omega
  rw [(La e).1 h];exact b
 | l::w,st,st',b,f,h=>by
  have c:=b.len
  have e:(DH n).length=st.length:=by simp [DH,Ag] at c |-;omega
  have a:=f l (by simp)
  have d:n.ps.length+n.au.length=st.length:=by simp [Ag] at c;omega
  obtain⟨st1,k,j⟩:=I9.1 h;exact Mh g (J5 (Hs g b a.1 a.2) (by rw [Qv d];exact(Hm e).2 k)) (λm i=>f m (by simp [i])) j
theorem FQ{a:AX}:∀ {w:List Int} {q r:Int},Jb (λq l=>[Cg a q.toNat l]) w q r↔r=Dd (fA a) q w
 | [],q,r=>Iff.rfl
 | l::w,q,r=>by
  have b:=FQ (a:=a) (w:=w) (q:=fA a q l) (r:=r)
  show (∃y,y∈[Cg a q.toNat l]/\Jb _ w y r)↔_
  simp only [oe,exists_eq_left];exact b
abbrev LY(s:Sys):MM:=λq l=>BF s q l
abbrev jN(a:AX):MM:=λq l=>[Cg a q.toNat l]
def EF(s:Sys)(w:List Int):Prop:=∃q,Jb (LY s) w 0 q
def CQ(a:AX)(w:List Int):Bool:=TP a (Dd (fA a) 0 w)
theorem fq{s:Sys}{a p:AX}(h:Df s a p=true){w:List Int}(v:over (DJ (DO s a p)) w):PB (DJ (DO s a p)) w↔EF s w/\CQ a w=true/\CQ p w=false:=by
 obtain⟨m,hk,i⟩:=QS h
 have d:∀l∈w,0<=l/\l < 6:=λl z=>by have:=Ak (v l z);omega
 have t:∀ {q k j:Int},Fits (Ag (DO s a p)) [q,k,j]->(DJ (DO s a p)).goal (Dj (Ag (DO s a p)) [q,k,j] 0)=(TP a k && !TP p j):=λi=>by
  unfold DJ;dsimp only;rw [Nd i];rfl
 unfold PB;constructor
 ·rintro⟨x,u,b⟩
  obtain⟨st',c,n,rfl⟩:=(Hg m i d).1 u
  match st',c,n,b with
  | [q,k,j],c,n,b=>
   rw [t n] at b;obtain⟨o,f,e,_⟩:=c;have f:=FQ.1 f;have e:=FQ.1 e;subst f e;refine⟨⟨q,o⟩,?_,?_⟩
   ·unfold CQ;revert b;cases TP a (Dd (fA a) 0 w)<;>simp
   ·unfold CQ;revert b;cases TP p (Dd (fA p) 0 w)<;>simp
  | [],c,_,_=>exact c.elim
  | [_],c,_,_=>exact c.2.elim
  | [_,_],c,_,_=>exact c.2.2.elim
  | _::_::_::_::_,c,_,_=>exact c.2.2.2.elim
 ·rintro⟨⟨q,o⟩,f,e⟩
  have r:JY (DH (DO s a p)) w [0,0,0] [q,Dd (fA a) 0 w,Dd (fA p) 0 w]:=⟨o,FQ.2 rfl,FQ.2 rfl,trivial⟩
  have y:=λx=>Hg (w:=w) (x:=x) m i d;have g:Fits (Ag (DO s a p)) [q,Dd (fA a) 0 w,Dd (fA p) 0 w]:=Mh m i d r;refine⟨_,(y _).2 ⟨_,r,g,rfl⟩,?_⟩;rw [t g];unfold CQ at f e;rw [f,e];rfl
theorem IN{w:List Int}:∀ {cs ds:List MM} {st st2 x:List Int},cs.length=st.length->(JY (cs++ds) w (st++st2) x↔∃y z,x=y++z/\JY cs w st y/\JY ds w st2 z)
 | [],ds,[],st2,x,_=>by
  constructor
  ·intro h;exact⟨[],x,rfl,trivial,h⟩
  ·rintro⟨y,z,rfl,b,d⟩
   cases y with
   | nil=>exact d
   | cons a y=>exact b.elim
 | [],_,_::_,_,_,h=>by simp at h
 | _::_,_,[],_,_,h=>by simp at h
 | c :: cs,ds,q::st,st2,x,h=>by
  have f:=λx=>IN (w:=w) (cs:=cs) (ds:=ds) (st:=st) (st2:=st2) (x:=x) (by simpa using h);constructor
  ·intro e
   cases x with
   | nil=>exact e.elim
   | cons r x=>
    obtain⟨y,z,b,d,g⟩:=(f x).1 e.2;exact⟨r::y,z,by rw [b];rfl,⟨e.1,d⟩,g⟩
  ·rintro⟨y,z,rfl,b,d⟩
   cases y with
   | nil=>exact b.elim
   | cons r y=>exact⟨b.1,(f _).2 ⟨y,z,rfl,b.2,d⟩⟩
theorem OT{w:List Int}:∀ {l:List Sys},(∃y,JY (l.map LY) w (List.replicate l.length 0) y)↔∀s∈l,EF s w
 | []=>Iff.intro (λ_ s c=>absurd c oN) (λ_=>⟨[],trivial⟩)
 | s :: l=>by
  have a:=OT (w:=w) (l:=l);constructor
  ·rintro⟨y,h⟩ t ht
   cases y with
   | nil=>exact h.elim
   | cons r y=>
    rcases lF.1 ht with rfl|ht
    ·exact⟨r,h.1⟩
    ·exact a.1 ⟨y,h.2⟩ t ht
  ·intro h
   obtain⟨r,d⟩:=h s (by simp);obtain⟨y,b⟩:=a.2 λt ht=>h t (by simp [ht]);exact⟨r::y,d,b⟩
theorem OS{w:List Int}:∀ {cs:List MM} {st st':List Int},JY cs w st st'->st'.length=cs.length
 | [],[],[],_=>rfl
 | [],[],_::_,h=>h.elim
 | [],_::_,[],h=>h.elim
 | [],_::_,_::_,h=>h.elim
 | _::_,[],[],h=>h.elim
 | _::_,[],_::_,h=>h.elim
 | _::_,_::_,[],h=>h.elim
 | c::cs,q::st,r::st',h=>by simp [OS h.2]
theorem fp{l:List Sys}{p:AX}(h:(Bc l && AE p)=true){w:List Int}(G:over (DJ (CO l p)) w):PB (DJ (CO l p)) w↔(∀s∈l,EF s w)/\CQ p w=false:=by
 obtain⟨v,hk,n⟩:=QR h
 have f:∀m∈w,0<=m/\m < 6:=λm H=>by have:=Ak (G m H);omega
 have A:∀ {y:List Int} {r:Int},y.length=l.length->Fits (Ag (CO l p)) (y++[r])->(DJ (CO l p)).goal (Dj (Ag (CO l p)) (y++[r]) 0) = !TP p r:=λ{y r} k n=>by
  unfold DJ;dsimp only;rw [Nd n]
  show (!Ws (CO l p) (y++[r]) 0)=_
  unfold Ws TP
  have e:(y++[r]).getD ((CO l p).ps.length+0) 0=r:=cx (by
   show (y++[r])[l.length+0]? = some r
   rw [nO,<-k];simp)
  rw [e];rfl
 have g:(CO l p).st=List.replicate l.length 0++[0]:=by
  show List.replicate (l.length+1) 0=_
  rw [List.replicate_succ']
 have j:DH (CO l p)=l.map LY++[jN p]:=rfl
 have b:(l.map LY).length=(List.replicate l.length (0:Int)).length:=by simp
 have u:=λx=>Hg (w:=w) (x:=x) v n f;unfold PB;constructor
 ·rintro⟨x,F,a⟩
  obtain⟨st',o,d,rfl⟩:=(u x).1 F;rw [g,j] at o;obtain⟨y,z,rfl,B,c⟩:=(IN b).1 o
  have q:y.length=l.length:=by rw [OS B];simp
  match z,c,d,a with
  | [r],c,d,a=>
   rw [A q d] at a;have I:=FQ.1 c.1;subst I;exact⟨OT.1 ⟨y,B⟩,by unfold CQ;revert a;cases TP p (Dd (fA p) 0 w)<;>simp⟩
  | [],c,_,_=>exact c.elim
  | _::_::_,c,_,_=>exact c.2.elim
 ·rintro⟨o,d⟩
  obtain⟨y,k⟩:=OT.2 o
  have t:JY (DH (CO l p)) w (CO l p).st (y++[Dd (fA p) 0 w]):=by
   rw [g,j];exact(IN b).2 ⟨y,_,rfl,k,FQ.2 rfl,trivial⟩
  have i:=Mh v n f t;refine⟨_,(u _).2 ⟨_,t,i,rfl⟩,?_⟩;rw [A (by rw [OS k];simp) i];unfold CQ at d;rw [d];rfl
theorem Sg{f:Nat->Bool}{n k:Nat}(h:Pz f n=true)(a:0 < k)(hk:k < n):f k=true:=by
 unfold Pz at h;have:=(gc.1 h) k (lN.2 hk);simp at this
 rcases this with h|h
 ·omega
 ·exact h
theorem Sh{f:Nat->Bool}{n:Nat}(h:∀k,0 < k->k < n->f k=true):Pz f n=true:=by
 unfold Pz;refine gc.2 λk hk=>?_;have hk:=lN.1 hk
 rcases mh k with a|a
 ·subst a;rfl
 ·simp [h k a hk]
structure ez (al:Int) (t:Bl):Prop where
 pos:0<=al
 r1:1<=t.rows.length
 rl:t.rows.length<=12
 c1:1<=t.cols.length
 cl:t.cols.length<=20
 r0:t.rows[0]? = some []
 c0:t.cols[0]? = some []
 rw:∀w∈t.rows,w.length<=50000/\AU (Bo al) w
 cw:∀w∈t.cols,w.length<=4000/\AU (Bo al) w
 pre:∀(i:Nat) w,t.rows[i]? = some w->0 < i->w≠[]/\∃j,j < i/\t.rows[j]? = some w.dropLast
 ndC:t.cols.Nodup
theorem My{α:Type}{l:List α}{k:Nat}{x:α}(h:x∈l.take k):∃j,j < k/\l[j]? = some x:=by
 obtain⟨j,a,b⟩:=lT h
 have c:j < k:=by simp at a;omega
 refine⟨j,c,?_⟩;rw [<-b,List.getElem_take,d5]
theorem Ml{α:Type}{l:List α}{j k:Nat}{x:α}(h:l[j]? = some x)(a:j < k):x∈l.take k:=by
 have:(l.take k)[j]? = some x:=by rw [lR,if_pos a];exact h
 exact co this
theorem Vl{w:W}{al:Int}(h:within w al=true):w.length<=50000:=by
 unfold within at h;simp only [d4,decide_eq_true_eq] at h;exact h.1
theorem Tl{al:Int}{t:Bl}(h:LX al t=true):ez al t:=by
 unfold LX UQ at h;simp only [d4,decide_eq_true_eq] at h;obtain⟨⟨v,q,p,o,n⟩,u,s⟩:=h
 have d:∀(i:Nat) w,t.rows[i]? = some w->0 < i->w≠[]/\within w al=true/\w.dropLast∈t.rows.take i:=λi w hi b=>by
  have:=Sg u b (ce.1 hi).1;unfold rowAt at this;rw [hi] at this;simp only [d4,decide_eq_true_eq,mW,decide_eq_false_iff_not] at this;exact⟨λe=>this.1 (by rw [e];rfl),this.2.1,this.2.2⟩
 have f:∀(i:Nat) w,t.cols[i]? = some w->0 < i->w.length<=4000/\within w al=true/\w∉t.cols.take i:=λi w hi b=>by
  have:=Sg s b (ce.1 hi).1;unfold Zk at this;rw [hi] at this;simp only [d4,decide_eq_true_eq,mW,decide_eq_false_iff_not] at this;exact this
 refine⟨v,q.1,q.2,p.1,p.2,o,n,λw k=>?_,λw k=>?_,λi w hi b=>?_,?_⟩
 ·obtain⟨i,hi,g⟩:=lT k
  have a:t.rows[i]? = some w:=by rw [d5 hi,g]
  rcases mh i with b|b
  ·subst b
   rw [o] at a;injection a with a;subst a
   exact⟨by simp,λc m=>by cases m⟩
  ·have:=d i w a b
   exact⟨Vl this.2.1,HL this.2.1⟩
 ·obtain⟨i,hi,g⟩:=lT k
  have a:t.cols[i]? = some w:=by rw [d5 hi,g]
  rcases mh i with b|b
  ·subst b
   rw [n] at a;injection a with a;subst a
   exact⟨by simp,λc m=>by cases m⟩
  ·have:=f i w a b
   exact⟨this.1,HL this.2.1⟩
 ·have:=d i w hi b
  exact⟨this.1,My this.2.2⟩
 ·unfold List.Nodup
  rw [lI];intro i j hi r l g;have:=f j t.cols[j] (d5 r) (by omega);exact this.2.2 (Ml (by rw [d5 hi,g]) l)
theorem Yv{al:Int}{t:Bl}(ha:Bm al=true)(q:0<=al)(l:1<=t.rows.length/\t.rows.length<=12)(n:1<=t.cols.length/\t.cols.length<=20)(h:t.rows[0]? = some [])(r:t.cols[0]? = some [])
 (rw':∀w∈t.rows,w.length<=50000/\AU (Bo al) w) (cw:∀w∈t.cols,w.length<=4000/\AU (Bo al) w) (pre:∀(i:Nat) w,t.rows[i]? = some w->0 < i->w≠[]/\∃j,j < i/\t.rows[j]? = some w.dropLast) (ndC:t.cols.Nodup):LX al t=true:=by
 unfold LX UQ;simp only [d4,decide_eq_true_eq];refine⟨⟨q,l,n,h,r⟩,Sh λk hk a=>?_,Sh λk hk a=>?_⟩
 ·have c:=d5 a
  obtain⟨p,j,f,o⟩:=pre k _ c hk;have b:=rw' _ (l6 a);unfold rowAt;rw [c];simp only [d4,decide_eq_true_eq,mW,decide_eq_false_iff_not];exact⟨λe=>p (lw.1 e),Ga b.2 b.1 ha,Ml o f⟩
 ·have c:=d5 a
  have b:=cw _ (l6 a);unfold Zk;rw [c];simp only [d4,decide_eq_true_eq,mW,decide_eq_false_iff_not];refine⟨b.1,Ga b.2 (by omega) ha,λm=>?_⟩;obtain⟨j,f,g⟩:=My m;obtain⟨d,g⟩:=ce.1 g;exact(lI.1 ndC) j k d a f g
theorem KY{A:W->Bool}{al:Int}{t:Bl}(h:BH A al t=true):ez al t/\(AT A t).Nodup:=by
 unfold BH at h;rw [d4,decide_eq_true_eq] at h;exact⟨Tl h.1,h.2⟩
theorem HK{A:W->Bool}{al:Int}{t:Bl}(h:BH A al t=true):YS A (Bo al) t:=by
 obtain⟨a,c⟩:=KY h;exact⟨a.r0,a.c0,a.pre,λw b=>(a.rw w b).2,λw b=>(a.cw w b).2,c,a.ndC⟩
theorem Mg{A:W->Bool}{al:Int}{t:Bl}(ha:Bm al=true)(i:0<=al)(h:YS A (Bo al) t)(d:t.rows.length<=12)(e:t.cols.length<=20)(b:∀w∈t.rows,w.length<=50000)(c:∀w∈t.cols,w.length<=4000):BH A al t=true:=by
 unfold BH;rw [d4,decide_eq_true_eq];have g:=(ce.1 h.r0).1;have f:=(ce.1 h.c0).1;exact⟨Yv ha i ⟨g,d⟩ ⟨f,e⟩ h.r0 h.c0 (λw a=>⟨b w a,h.onR w a⟩) (λw a=>⟨c w a,h.onC w a⟩) h.pre h.ndC,h.nd⟩
theorem Xn{A:W->Bool}{al:Int}{t:Bl}(h:Ei A al t=true):BH A al t=true/\BC A (Bo al) t=none/\Dl A (Bo al) t:=by
 unfold Ei at h;rw [d4] at h
 have a:BC A (Bo al) t=none:=by simpa using h.2
 exact⟨h.1,a,⟨HK h.1,HB a⟩⟩
def eu(A L:W->Bool)(al:Int):Prop:=∀w,AU (Bo al) w->w.length<=50000->A w=L w
theorem fL{ls:List UInt8}{u w:W}(b:AU ls u)(a:AU ls w):AU ls (u++w):=λc d=>by
 rcases f6.1 d with h|h
 ·exact b c h
 ·exact a c h
theorem XL{A L:W->Bool}{al:Int}(h:eu A L al){cols:List W}{w:W}(c:AU (Bo al) w)(b:∀x∈cols,AU (Bo al) x/\w.length+x.length<=50000):marks A cols w=marks L cols w:=by
 rw [marks,marks,pk];intro x a;rw [h _ (fL c (b x a).1) (by simp;exact(b x a).2)]
theorem X7{A L:W->Bool}{al:Int}{b:Nat}{t:Bl}(h:eu A L al)(ht:Ie al b t)(hb:b<=20100):AT A t=AT L t:=by
 rw [AT,AT,pk];intro r c;have:=ht.onR r c
 exact XL h this.1 λx a=>⟨(ht.onC x a).1,by have:=(ht.onC x a).2;omega⟩
end Go.Am
namespace Go.Am
open Go Go.Proofs
set_option maxHeartbeats 1000000
set_option maxRecDepth 4000
attribute [local irreducible] AW BQ Lex A9 Aj Spec
section
variable {P:Program}{TB:Bp}{Z:Ctx}{d:Option Tmp}{ty:TypeId}{pos:String}{af:Array Edge}{g:Option (Nat×Bool)}{f:Env}{σ:Ab}{nx:Nat}
end
variable {TB:Bp}
theorem ez.short{al:Int}{t:Bl}(h:ez al t):∀(i:Nat) w,t.rows[i]? = some w->w.length<=i:=by
 intro i
 induction i using Nat.strongRecOn with
 | ind i b=>
  intro w hi
  rcases mh i with rfl|e
  ·have:=h.r0.symm.trans hi
   injection this with this
   subst this;simp
  ·obtain⟨c,j,d,a⟩:=h.pre i w hi e
   have:=b j d _ a;rw [List.length_dropLast] at this;omega
theorem ez.bd{al:Int}{t:Bl}(h:ez al t):Ie al 20000 t:=by
 refine⟨λw b=>⟨(h.rw w b).2,?_⟩,λx a=>⟨(h.cw x a).2,by have:=(h.cw x a).1;omega⟩,h.rl,h.cl⟩;obtain⟨i,hi,c⟩:=lT b;have:=h.short i w (by rw [d5 hi,c]);have:=h.rl;omega
end Go.Am
namespace Go.Am
open Go Go.Proofs
set_option maxHeartbeats 1000000
set_option maxRecDepth 4000
attribute [local irreducible] AW BQ Lex A9 Aj Spec
variable {TB:Bp}
theorem O2(L:W->Bool)(al:Int)(t:Bl):Ei L al t=(BH L al t && (BC L (Bo al) t).isNone):=rfl
theorem fw{al:Int}{w:W}(h:Kp al w=true):AU (Bo al) w/\w.length<=4000/\within w al=true:=by
 unfold Kp at h;rw [d4,decide_eq_true_eq] at h;exact⟨HL h.1,h.2,h.1⟩
end Go.Am
namespace Go.Am
open Go
set_option linter.unusedVariables false
theorem YT{p:AX}(a:AE p=true):eu (eF p) (LA p) p.al:=λw b c=>by
 unfold eF;rw [a,Ga b c (Ay a).1];rfl
section
variable {a b:AX}(ha:AE a=true)(hb:AE b=true)(hal:a.al=b.al)(hL:∀w,AU (Bo a.al) w->LA a w=LA b w)
include ha hb hal hL
end
end Go.Am
namespace Go.Am
open Go Go.Proofs
set_option maxHeartbeats 1000000
set_option maxRecDepth 4000
attribute [local irreducible] AW BQ Lex A9 Aj Spec
variable {TB:Bp}
end Go.Am
namespace Go.Am
open Go
set_option linter.unusedVariables false
end Go.Am
namespace Go.Am
open Go Go.Proofs
set_option maxHeartbeats 1000000
set_option maxRecDepth 4000
attribute [local irreducible] AW BQ Lex A9 Aj Spec
variable {TB:Bp}
theorem Xm(l:List Int)(h:l.length<=1048576):Spec Tryz.prog TB 257 [] 0 [Av l] (λx σ nx=>x=.o (.arr 0 1 0 l.length)/\nx=1/\σ=[(0,.cells 3 1 (l.map AP))]):=by
 refine eN Tryz.func257 rfl (by kernel_rfl) rfl ?_;intro Z b;(repeat first |refine sN rfl ?_ |((first|refine sM rfl ?_ ?_|refine s4 rfl ‹_› rfl ?_ ?_);first|exact tI|omega|simp only[oZ] at *;omega) |refine s2 rfl λ_ a=>?_ |refine s3 rfl ?_ ?_<;>rintro rfl |refine aU rfl ?_ |refine Aa ?_ |refine rE (by kernel_rfl) ?_);(refine Ai rfl ?_;refine Cv (λ_ _=>Cy rfl) rfl ?_);(repeat first |refine sN rfl ?_ |((first|refine sM rfl ?_ ?_|refine s4 rfl ‹_› rfl ?_ ?_);first|exact tI|omega|simp only[oZ] at *;omega) |refine s2 rfl λ_ a=>?_ |refine s3 rfl ?_ ?_<;>rintro rfl |refine aU rfl ?_ |refine Aa ?_ |refine rE (by kernel_rfl) ?_);(refine pW rfl ?_ rfl (by rfl);refine Kz rfl ?_;intro e c);(repeat first |refine sN rfl ?_ |((first|refine sM rfl ?_ ?_|refine s4 rfl ‹_› rfl ?_ ?_);first|exact tI|omega|simp only[oZ] at *;omega) |refine s2 rfl λ_ a=>?_ |refine s3 rfl ?_ ?_<;>rintro rfl |refine aU rfl ?_ |refine Aa ?_ |refine rE (by kernel_rfl) ?_);(refine aC rfl ?_ ?_<;>rintro⟨⟩)
 ·obtain rfl:l=[]:=by simpa using c rfl
  (repeat first |refine sN rfl ?_ |((first|refine sM rfl ?_ ?_|refine s4 rfl ‹_› rfl ?_ ?_);first|exact tI|omega|simp only[oZ] at *;omega) |refine s2 rfl λ_ a=>?_ |refine s3 rfl ?_ ?_<;>rintro rfl |refine aU rfl ?_ |refine Aa ?_ |refine rE (by kernel_rfl) ?_);(refine pW rfl ?_ rfl (by rfl);refine Gx 1 3 ?_);(repeat first |refine sN rfl ?_ |((first|refine sM rfl ?_ ?_|refine s4 rfl ‹_› rfl ?_ ?_);first|exact tI|omega|simp only[oZ] at *;omega) |refine s2 rfl λ_ a=>?_ |refine s3 rfl ?_ ?_<;>rintro rfl |refine aU rfl ?_ |refine Aa ?_ |refine rE (by kernel_rfl) ?_);refine aR ⟨_,rfl,rfl,rfl,rfl⟩
 ·refine aK ?_
  (repeat first |refine sN rfl ?_ |((first|refine sM rfl ?_ ?_|refine s4 rfl ‹_› rfl ?_ ?_);first|exact tI|omega|simp only[oZ] at *;omega) |refine s2 rfl λ_ a=>?_ |refine s3 rfl ?_ ?_<;>rintro rfl |refine aU rfl ?_ |refine Aa ?_ |refine rE (by kernel_rfl) ?_);(refine pW rfl ?_ rfl (by rfl);refine Bb rfl rfl rfl rfl (by simp) (by rfl) (by rfl) (by rfl) (by rfl) ?_);(repeat first |refine sN rfl ?_ |((first|refine sM rfl ?_ ?_|refine s4 rfl ‹_› rfl ?_ ?_);first|exact tI|omega|simp only[oZ] at *;omega) |refine s2 rfl λ_ a=>?_ |refine s3 rfl ?_ ?_<;>rintro rfl |refine aU rfl ?_ |refine Aa ?_ |refine rE (by kernel_rfl) ?_);(refine pW rfl ?_ rfl (by rfl);refine Aw rfl rfl rfl (by first|(simp;done)|(simp;(first|omega|simp only[oZ] at *;omega))) rfl (by intro r d;simp only [mr,d8] at d;obtain⟨_,_,rfl⟩:=d;rfl) (by rfl) (am rfl) (by simp;omega) ?_);(repeat first |refine sN rfl ?_ |((first|refine sM rfl ?_ ?_|refine s4 rfl ‹_› rfl ?_ ?_);first|exact tI|omega|simp only[oZ] at *;omega) |refine s2 rfl λ_ a=>?_ |refine s3 rfl ?_ ?_<;>rintro rfl |refine aU rfl ?_ |refine Aa ?_ |refine rE (by kernel_rfl) ?_);refine Aj.names [1] [(2,.o (.arr 0 1 0 l.length))] [(0,.cells 3 1 (l.map AP))] (by intro i hi;rw [b] at hi;omega) (by simp) (by simp[cX,zC,b]) (by simp[cX,zC,b]) ?_;refine aR ⟨_,rfl,rfl,rfl,rfl⟩
theorem Xk(l:List Bool)(h:l.length<=1048576):Spec Tryz.prog TB 256 [] 0 [fc l] (λx σ nx=>x=.o (.arr 0 1 0 l.length)/\nx=1/\σ=[(0,.cells 4 1 (l.map AO))]):=by
 refine eN Tryz.func256 rfl (by kernel_rfl) rfl ?_;intro Z b;(repeat first |refine sN rfl ?_ |((first|refine sM rfl ?_ ?_|refine s4 rfl ‹_› rfl ?_ ?_);first|exact tI|omega|simp only[oZ] at *;omega) |refine s2 rfl λ_ a=>?_ |refine s3 rfl ?_ ?_<;>rintro rfl |refine aU rfl ?_ |refine Aa ?_ |refine rE (by kernel_rfl) ?_);(refine Ai rfl ?_;refine Cv (λ_ _=>Cy rfl) rfl ?_);(repeat first |refine sN rfl ?_ |((first|refine sM rfl ?_ ?_|refine s4 rfl ‹_› rfl ?_ ?_);first|exact tI|omega|simp only[oZ] at *;omega) |refine s2 rfl λ_ a=>?_ |refine s3 rfl ?_ ?_<;>rintro rfl |refine aU rfl ?_ |refine Aa ?_ |refine rE (by kernel_rfl) ?_);(refine pW rfl ?_ rfl (by rfl);refine Kz rfl ?_;intro e c);(repeat first |refine sN rfl ?_ |((first|refine sM rfl ?_ ?_|refine s4 rfl ‹_› rfl ?_ ?_);first|exact tI|omega|simp only[oZ] at *;omega) |refine s2 rfl λ_ a=>?_ |refine s3 rfl ?_ ?_<;>rintro rfl |refine aU rfl ?_ |refine Aa ?_ |refine rE (by kernel_rfl) ?_);(refine aC rfl ?_ ?_<;>rintro⟨⟩)
 ·obtain rfl:l=[]:=by simpa using c rfl
  (repeat first |refine sN rfl ?_ |((first|refine sM rfl ?_ ?_|refine s4 rfl ‹_› rfl ?_ ?_);first|exact tI|omega|simp only[oZ] at *;omega) |refine s2 rfl λ_ a=>?_ |refine s3 rfl ?_ ?_<;>rintro rfl |refine aU rfl ?_ |refine Aa ?_ |refine rE (by kernel_rfl) ?_);(refine pW rfl ?_ rfl (by rfl);refine Gx 1 4 ?_);(repeat first |refine sN rfl ?_ |((first|refine sM rfl ?_ ?_|refine s4 rfl ‹_› rfl ?_ ?_);first|exact tI|omega|simp only[oZ] at *;omega) |refine s2 rfl λ_ a=>?_ |refine s3 rfl ?_ ?_<;>rintro rfl |refine aU rfl ?_ |refine Aa ?_ |refine rE (by kernel_rfl) ?_);refine aR ⟨_,rfl,rfl,rfl,rfl⟩
 ·refine aK ?_
  (repeat first |refine sN rfl ?_ |((first|refine sM rfl ?_ ?_|refine s4 rfl ‹_› rfl ?_ ?_);first|exact tI|omega|simp only[oZ] at *;omega) |refine s2 rfl λ_ a=>?_ |refine s3 rfl ?_ ?_<;>rintro rfl |refine aU rfl ?_ |refine Aa ?_ |refine rE (by kernel_rfl) ?_);(refine pW rfl ?_ rfl (by rfl);refine Bb rfl rfl rfl rfl (by simp) (by rfl) (by rfl) (by rfl) (by rfl) ?_);(repeat first |refine sN rfl ?_ |((first|refine sM rfl ?_ ?_|refine s4 rfl ‹_› rfl ?_ ?_);first|exact tI|omega|simp only[oZ] at *;omega) |refine s2 rfl λ_ a=>?_ |refine s3 rfl ?_ ?_<;>rintro rfl |refine aU rfl ?_ |refine Aa ?_ |refine rE (by kernel_rfl) ?_);(refine pW rfl ?_ rfl (by rfl);refine Aw rfl rfl rfl (by first|(simp;done)|(simp;(first|omega|simp only[oZ] at *;omega))) rfl (by intro r d;simp only [mr,d8] at d;obtain⟨_,_,rfl⟩:=d;rfl) (by rfl) (am rfl) (by simp;omega) ?_);(repeat first |refine sN rfl ?_ |((first|refine sM rfl ?_ ?_|refine s4 rfl ‹_› rfl ?_ ?_);first|exact tI|omega|simp only[oZ] at *;omega) |refine s2 rfl λ_ a=>?_ |refine s3 rfl ?_ ?_<;>rintro rfl |refine aU rfl ?_ |refine Aa ?_ |refine rE (by kernel_rfl) ?_);refine Aj.names [1] [(2,.o (.arr 0 1 0 l.length))] [(0,.cells 4 1 (l.map AO))] (by intro i hi;rw [b] at hi;omega) (by simp) (by simp[cX,zC,b]) (by simp[cX,zC,b]) ?_;refine aR ⟨_,rfl,rfl,rfl,rfl⟩
theorem Ln(a:AX)(ha:GJ 1000000 a):AK Tryz.prog TB 199 0 [] 0 [Bd a] (JS a):=by
 have z:=ha.nx;have y:=ha.ac;have u:=Xk (TB:=TB) a.ac (by omega);refine AK.A7 (AK.PR (m:=0) (am rfl) Tryz.func199 rfl (by kernel_rfl) (am rfl) ?_);intro Z c;(repeat first |refine sN rfl ?_ |((first|refine sA rfl ?_ ?_|refine s4 rfl ‹_› rfl ?_ ?_);first|exact tI|omega|simp only[oZ] at *;omega) |refine s2 rfl λ_ b=>?_ |refine s3 rfl ?_ ?_<;>rintro rfl |refine aU rfl ?_ |refine Aa ?_);refine R.Pj [(6,3),(0,2),(1,2),(2,2),(3,2),(4,1),(5,1),(7,5)] mixed (by kernel_rfl) rfl (by kernel_rfl) ?_;(repeat ((refine R.Ai rfl ?_;first |(refine R.yQ (md:=false) rfl rfl rfl ?_ ?_;first|exact tI|omega|simp only[oZ] at *;omega) |(refine R.yB rfl rfl rfl ?_;intro _ b) |refine R.yS rfl rfl rfl ?_ |refine R.yP rfl rfl rfl rfl ?_ |refine R.yA rfl rfl rfl rfl ?_ |refine R.yW rfl rfl rfl ?_ |refine R.ab rfl rfl ?_ |(refine R.yG rfl rfl ?_ ?_<;>intro hb<;>subst hb) )));(refine R.Ai rfl ?_;refine R.KF (λ_=>?_) rfl rfl;refine Ae [] rfl rfl u ⟨rfl,by simp,by simp⟩ rfl trivial ?_;rintro w h j ⟨rfl,rfl,rfl⟩ _);(repeat ((refine R.Ai rfl ?_;first |(refine R.yQ (md:=false) rfl rfl rfl ?_ ?_;first|exact tI|omega|simp only[oZ] at *;omega) |(refine R.yB rfl rfl rfl ?_;intro _ b) |refine R.yS rfl rfl rfl ?_ |refine R.yP rfl rfl rfl rfl ?_ |refine R.yA rfl rfl rfl rfl ?_ |refine R.yW rfl rfl rfl ?_ |refine R.ab rfl rfl ?_ |(refine R.yG rfl rfl ?_ ?_<;>intro hb<;>subst hb) )));(refine R.Ai rfl ?_;refine R.KF (λ_=>?_) rfl rfl;refine IC 1 1 53 rfl rfl rfl (by rfl) (by rfl) ?_);(repeat ((refine R.Ai rfl ?_;first |(refine R.yQ (md:=false) rfl rfl rfl ?_ ?_;first|exact tI|omega|simp only[oZ] at *;omega) |(refine R.yB rfl rfl rfl ?_;intro _ b) |refine R.yS rfl rfl rfl ?_ |refine R.yP rfl rfl rfl rfl ?_ |refine R.yA rfl rfl rfl rfl ?_ |refine R.yW rfl rfl rfl ?_ |refine R.ab rfl rfl ?_ |(refine R.yG rfl rfl ?_ ?_<;>intro hb<;>subst hb) )));refine R.Pd ?_;refine aS ?_;(repeat first |refine sN rfl ?_ |((first|refine sA rfl ?_ ?_|refine s4 rfl ‹_› rfl ?_ ?_);first|exact tI|omega|simp only[oZ] at *;omega) |refine s2 rfl λ_ b=>?_ |refine s3 rfl ?_ ?_<;>rintro rfl |refine aU rfl ?_ |refine Aa ?_);refine aB ?_;refine Aj.Yw 3 ?_;refine aL (α:={s:Nat×Ho // s.1<=a.nx.length/\s.2.map (·.2)=a.nx.take s.1}) [2,3,13,14] [] rfl rfl (λs=>[(15,eI .i64 s.1.1)]) (λs=>[(0,.cells 29 3 [[.d (iD 0),.d (.l []),.d (.l [])]]),(1,.cells 4 1 (a.ac.map AO)),(2,.cells 53 1 (AB s.1.2)),(3,.cells 29 3 [[.d (iD a.al),.arr 2 1 0 s.1.2.length,.arr 1 1 0 a.ac.length]]),(4,.sld 3 (sI s.1.2))]) 5 (λs=>a.nx.length - s.1.1) (⟨⟨0,[]⟩,by simp⟩) c rfl (by ((repeat' first|exact tI|rfl|refine And.intro ?_ ?_)<;>(simp[cX,zC,c,cN,BV,Af,eC]<;>rfl))) ?_;rintro⟨⟨k,l⟩,hk,f⟩;(try dsimp only[cA,cB]);have hk:k<=a.nx.length:=hk;have f:l.map (·.2)=a.nx.take k:=f
 have e:l.length=k:=by have:=congrArg List.length f;simp at this;omega
 (repeat first |refine sN rfl ?_ |((first|refine sA rfl ?_ ?_|refine s4 rfl ‹_› rfl ?_ ?_);first|exact tI|omega|simp only[oZ] at *;omega) |refine s2 rfl λ_ b=>?_ |refine s3 rfl ?_ ?_<;>rintro rfl |refine aU rfl ?_ |refine Aa ?_)
 ((refine aC rfl ?_ ?_<;>rintro⟨⟩);all_goals try(exfalso;first|omega|simp only[oZ] at *;omega))
 ·have p:k < a.nx.length:=by first|omega|simp only[oZ] at *;omega
  obtain⟨r,n⟩:=get_some (l:=a.nx) (k:=k) p;have x:=get_map (g:=Fs) n;have o:=ha.row r (co n);have t:=Xm (TB:=TB) r (by omega);refine aK ?_;refine aS (aB ?_);(repeat first |refine sN rfl ?_ |((first|refine sA rfl ?_ ?_|refine s4 rfl ‹_› rfl ?_ ?_);first|exact tI|omega|simp only[oZ] at *;omega) |refine s2 rfl λ_ b=>?_ |refine s3 rfl ?_ ?_<;>rintro rfl |refine aU rfl ?_ |refine Aa ?_);refine rG (GI [(1,13),(3,1008),(4,1008),(5,1),(7,1)]) (by kernel_rfl) ?_;(repeat first |refine sN rfl ?_ |((first|refine sX rfl ?_ ?_|refine s4 rfl ‹_› rfl ?_ ?_);first|exact tI|omega|simp only[oZ] at *;omega) |refine s2 rfl λ_ b=>?_ |refine s3 rfl ?_ ?_<;>rintro rfl |refine aU rfl ?_ |refine Aa ?_);(refine Ai rfl ?_;refine Cw ?_ rfl ⟨rfl,rfl⟩;refine Ae [] rfl rfl (t) ⟨rfl,by decide,by decide⟩ rfl (by simp[cX,zC,c,cN]) ?_;rintro w h j ⟨rfl,rfl,rfl⟩ _;refine⟨BO 3 rfl rfl,?_⟩);(repeat first |refine sN rfl ?_ |((first|refine sX rfl ?_ ?_|refine s4 rfl ‹_› rfl ?_ ?_);first|exact tI|omega|simp only[oZ] at *;omega) |refine s2 rfl λ_ b=>?_ |refine s3 rfl ?_ ?_<;>rintro rfl |refine aU rfl ?_ |refine Aa ?_);(refine Ai rfl ?_;refine Cw ?_ rfl ⟨rfl,rfl⟩;refine Bb rfl rfl rfl rfl (by simp [eC,E.A7,C.A7]) (by rfl) (by rfl) (by rfl) (by rfl) ?_;refine⟨BO 3 rfl rfl,?_⟩);(repeat first |refine sN rfl ?_ |((first|refine sX rfl ?_ ?_|refine s4 rfl ‹_› rfl ?_ ?_);first|exact tI|omega|simp only[oZ] at *;omega) |refine s2 rfl λ_ b=>?_ |refine s3 rfl ?_ ?_<;>rintro rfl |refine aU rfl ?_ |refine Aa ?_);(refine pW rfl ?_ rfl (by rfl);refine Aw rfl rfl rfl (Ci _) rfl (by intro r o;simp at o;subst o;rfl) (by rfl) (am rfl) (by simp;omega) ?_);(repeat first |refine sN rfl ?_ |((first|refine sA rfl ?_ ?_|refine s4 rfl ‹_› rfl ?_ ?_);first|exact tI|omega|simp only[oZ] at *;omega) |refine s2 rfl λ_ b=>?_ |refine s3 rfl ?_ ?_<;>rintro rfl);refine Aa ?_;refine Aj.AA [2,3,13,14,15] [] rfl rfl [] [(0,.cells 29 3 [[.d (iD 0),.d (.l []),.d (.l [])]]),(1,.cells 4 1 (a.ac.map AO)),(2,.cells 53 1 (AB l++[[.arr 5 1 0 r.length]])),(3,.cells 29 3 [[.d (iD a.al),.arr 2 1 0 (l.length+1),.arr 1 1 0 a.ac.length]]),(4,.sld 3 (sI l)),(5,.cells 3 1 (r.map AP))] [0,1,7,3,4,5] (rl c rfl) (by ((repeat' first|exact tI|rfl|refine And.intro ?_ ?_)<;>(simp[cX,zC,c,cN,BV,Af,eC]<;>rfl))) ?_;(try dsimp only[cA,cB]);refine Aj.Og 2 5 4 l r rfl rfl rfl λv=>?_;(repeat first |refine sN rfl ?_ |((first|refine sA rfl ?_ ?_|refine s4 rfl ‹_› rfl ?_ ?_);first|exact tI|omega|simp only[oZ] at *;omega) |refine s2 rfl λ_ b=>?_ |refine s3 rfl ?_ ?_<;>rintro rfl |refine aU rfl ?_ |refine Aa ?_);refine⟨⟨⟨k+1,l++[(v,r)]⟩,by dsimp only;omega,by dsimp only;rw [mn,f,gt,n];rfl⟩,by dsimp only;(first|omega|simp only[oZ] at *;omega),[0,1,2,3,4],?_⟩;(simp[cX,zC,c,cN]<;>rfl)
 have q:k=a.nx.length:=by first|omega|simp only[oZ] at *;omega
 refine aE ?_;(repeat first |refine sN rfl ?_ |((first|refine sA rfl ?_ ?_|refine s4 rfl ‹_› rfl ?_ ?_);first|exact tI|omega|simp only[oZ] at *;omega) |refine s2 rfl λ_ b=>?_ |refine s3 rfl ?_ ?_<;>rintro rfl |refine aU rfl ?_ |refine Aa ?_)
 have e:l.map (·.2)=a.nx:=by rw [f,q,i7]
 refine aR ⟨_,rfl,[2,1,4],Ua a.al 0 1 l.length a.ac.length,[(0,.cells 53 1 (AB l)),(1,.cells 4 1 (a.ac.map AO)),(2,.sld 3 (sI l))],⟨by intro i hi;omega,by decide⟩,rfl,by ((repeat' first|exact tI|rfl|refine And.intro ?_ ?_)<;>(simp[cX,zC,c,cN]<;>rfl)),l,e,rfl,rfl,rfl⟩
theorem Y8{a:AX}(ha:AE a=true):GJ 1000000 a:=by
 have f:=Ay ha;refine⟨by omega,by omega,λr c=>?_⟩;obtain⟨i,hi,e⟩:=lT c;obtain⟨row,b,h,g⟩:=GR ha hi;rw [d5 hi,e] at b
 injection b with b
 subst b;have d:(Ac a.al).length<=6:=AN a.al 6;omega
structure kx (te:Ii):Prop where
 pn:te.p.nx.length<=1048576
 pa:te.p.ac.length<=1048576
 pr:∀r∈te.p.nx,r.length<=1048576
 es:te.s.es.length<=1048576
 qn:te.q.nx.length<=1048576
 qa:te.q.ac.length<=1048576
 qr:∀r∈te.q.nx,r.length<=1048576
end Go.Am
namespace Go.Am
open Go
set_option linter.unusedVariables false
section
variable {α:Type}{f:Nat->α}{l:List α}{i:Nat}
end
end Go.Am
