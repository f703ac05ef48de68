/-
  What the searches through systems and automata side by side say, plainly.
-/
import Derived.Test.YtdipaikojjjebaaGreatDoorPart27
set_option linter.all false
namespace Go.Am
open Go
abbrev Oy:=Int->Int->List Int
def Kv(c:Oy):List Int->Int->Int->Prop
 | [],q,r=>r=q
 | l::w,q,r=>∃y,y∈c q l/\Kv c w y r
def LC:List Oy->List Int->List Int->List Int->Prop
 | [],_,[],[]=>True
 | c::cs,w,q::st,r::st'=>Kv c w q r/\LC cs w st st'
 | _,_,_,_=>False
def Up:List Oy->Int->List Int->List Int->Prop
 | [],_,[],[]=>True
 | c::cs,l,q::st,r::st'=>r∈c q l/\Up cs l st st'
 | _,_,_,_=>False
theorem Kt:∀ {cs:List Oy} {l:Int} {w st st':List Int},LC cs (l::w) st st'↔∃st1,Up cs l st st1/\LC cs w st1 st'
 | [],l,w,[],[]=>⟨λ_=>⟨[],trivial,trivial⟩,λ_=>trivial⟩
 | [],l,w,[],_::_=>⟨λh=>h.elim,λ⟨st1,a,b⟩=>by cases st1<;>simp[Up,LC]at a b⟩
 | [],l,w,_::_,st'=>⟨λh=>by cases st'<;>exact h.elim,λ⟨st1,a,b⟩=>by cases st1<;>exact a.elim⟩
 | c::cs,l,w,[],st'=>⟨λh=>by cases st'<;>exact h.elim,λ⟨st1,a,b⟩=>by cases st1<;>exact a.elim⟩
 | c::cs,l,w,q::st,[]=>⟨λh=>h.elim,λ⟨st1,a,b⟩=>by cases st1<;>first|exact a.elim|exact b.elim⟩
 | c :: cs,l,w,q::st,r::st'=>by
  have d:=Kt (cs:=cs) (l:=l) (w:=w) (st:=st) (st':=st');constructor
  ·rintro⟨⟨y,e,a⟩,b⟩
   obtain⟨st1,g,f⟩:=d.1 b;exact⟨y::st1,⟨e,g⟩,a,f⟩
  ·rintro⟨st1,a,b⟩
   cases st1 with
   | nil=>exact a.elim
   | cons y st1=>exact⟨⟨y,a.1,b.1⟩,d.2 ⟨st1,a.2,b.2⟩⟩
def El(n:Net):List Oy:=n.ps.map (λs q l=>BR s q l)++n.au.map (λa q l=>[Cz a q.toNat l])
def SI:List Int->List (List Int)->Prop
 | [],[]=>True
 | x::xs,c::cs=>x∈c/\SI xs cs
 | _,_=>False
theorem Zc:∀ {zs:List Int} {cs:List (List Int)} {out:List Int} {v:Int},cs.length=zs.length->(v∈Hn zs cs out↔∃o∈out,∃st1,SI st1 cs/\v=DQ zs st1 o)
 | [],[],out,v,_=>by
  constructor
  ·intro h;exact⟨v,h,[],trivial,rfl⟩
  ·rintro⟨o,a,st1,h,rfl⟩
   cases st1 with
   | nil=>exact a
   | cons x st1=>exact h.elim
 | [],_::_,_,_,h=>by simp at h
 | _::_,[],_,_,h=>by simp at h
 | z :: zs,c::cs,out,v,h=>by
  have g:=Zc (zs:=zs) (cs:=cs) (out:=out.flatMap λo=>c.map λx=>o*z+x) (v:=v) (by simpa using h)
  show v∈Hn zs cs _↔_
  rw[g];constructor
  ·rintro⟨o,a,st1,b,e⟩
   obtain⟨f,d,j⟩:=qg.1 a;obtain⟨x,i,rfl⟩:=d9.1 j;exact⟨f,d,x::st1,⟨i,b⟩,e⟩
  ·rintro⟨o,a,st1,b,e⟩
   cases st1 with
   | nil=>exact b.elim
   | cons x st1=>exact⟨o*z+x,qg.2 ⟨o,a,d9.2 ⟨x,b.1,rfl⟩⟩,st1,b.2,e⟩
theorem Im:∀ {cs:List Oy} {l:Int} {st st1:List Int},cs.length=st.length->(SI st1 (cs.zipWith (λc q=>c q l) st)↔Up cs l st st1)
 | [],l,[],st1,_=>by
  cases st1 with
  | nil=>exact⟨λ_=>trivial,λ_=>trivial⟩
  | cons x st1=>exact⟨λh=>h.elim,λh=>h.elim⟩
 | [],_,_::_,_,h=>by simp at h
 | _::_,_,[],_,h=>by simp at h
 | c::cs,l,q::st,st1,h=>by
  have a:=λst1=>Im (cs:=cs) (l:=l) (st:=st) (st1:=st1) (by simpa using h)
  cases st1 with
  | nil=>exact⟨λh=>h.elim,λh=>h.elim⟩
  | cons x st1=>exact⟨λh=>⟨h.1,(a st1).1 h.2⟩,λh=>⟨h.1,(a st1).2 h.2⟩⟩
theorem Tc{n:Net}{st:List Int}(h:n.ps.length+n.au.length=st.length)(l:Int):KR n st l=(El n).zipWith (λc q=>c q l) st:=by
 unfold KR El;have e:st=st.take n.ps.length++st.drop n.ps.length:=(pP _ _).symm
 conv=>rhs;rw[e]
 rw[List.zipWith_append (by simp;omega),List.zipWith_map_left,List.zipWith_map_left];congr 1;exact GF _ _ _
theorem Ti:∀ {zs ss:List Int},Fits zs ss->∀n:Int,DQ zs ss n=n*Aw zs+DQ zs ss 0
 | _,_,.nil,n=>by simp[DQ,Aw]
 | _,_,@Fits.cons z s zs ss c b a,n=>by
  show DQ zs ss (n*z+s)=n*(z*Aw zs)+DQ zs ss (0*z+s)
  rw[Ti a (n*z+s),Ti a (0*z+s),qW,qW,qG,Int.zero_mul,Int.zero_mul,Int.zero_add,Int.add_assoc]
theorem OU:∀ {zs ss:List Int},Fits zs ss->∀m:Int,BK zs (DQ zs ss m)=ss
 | _,_,.nil,m=>rfl
 | _,_,@Fits.cons z s zs ss d c a,m=>by
  show (DQ zs ss (m*z+s) / Aw zs%z)::BK zs (DQ zs ss (m*z+s))=s::ss
  rw[OU a];congr 1;have e:=a.pos;have b:=a.enc 0 (by omega);rw[Int.zero_add,sr]at b;rw[Ti a,Int.add_comm,Int.add_mul_ediv_right _ _ (by omega),Int.ediv_eq_zero_of_lt b.1 b.2,Int.zero_add,Int.add_comm,Int.add_mul_emod_self_right,Int.emod_eq_of_lt d c]
theorem LG:∀ {zs:List Int} {cs:List (List Int)} {st:List Int},FQ zs cs->SI st cs->Fits zs st
 | _,_,[],.nil,_=>.nil
 | _,_,_::_,.nil,h=>h.elim
 | _,_,[],.cons _ _ _,h=>h.elim
 | _,_,x::st,.cons a c b,h=>.cons (a x h.1).1 (a x h.1).2 (LG b h.2)
theorem MP:∀ {cs:List Oy} {st st':List Int},cs.length=st.length->(LC cs [] st st'↔st'=st)
 | [],[],[],_=>⟨λ_=>rfl,λ_=>trivial⟩
 | [],[],_::_,_=>⟨λh=>h.elim,λh=>by cases h⟩
 | [],_::_,_,h=>by simp at h
 | _::_,[],_,h=>by simp at h
 | c::cs,q::st,[],h=>⟨λh=>h.elim,λh=>by cases h⟩
 | c :: cs,q::st,r::st',h=>by
  have d:=MP (cs:=cs) (st:=st) (st':=st') (by simpa using h);constructor
  ·rintro⟨a,b⟩
   have a:r=q:=a;rw[d.1 b,a]
  ·intro h
   injection h with a b
   exact⟨a,d.2 b⟩
theorem Ic{n:Net}(q:Eh n):∀ {w:List Int} {st:List Int} {x:Int},Fits (Af n) st->(∀l∈w,0<=l/\l<6)->(reach (DN n) w (DQ (Af n) st 0) x↔∃st',LC (El n) w st st'/\Fits (Af n) st'/\x=DQ (Af n) st' 0)
 | [],st,x,e,_=>by
  have j:=e.len
  have f:(El n).length=st.length:=by simp[El,Af]at j |-;omega
  constructor
  ·intro h
   exact⟨st,(MP f).2 rfl,e,h.symm⟩
  ·rintro⟨st',a,_,b⟩
   rw[(MP f).1 a]at b;exact b.symm
 | l :: w,st,x,e,k=>by
  have j:=e.len
  have f:(El n).length=st.length:=by simp[El,Af]at j |-;omega
  have g:=k l (by simp);have d:=Iu q e g.1 g.2
  have c:n.ps.length+n.au.length=st.length:=by simp[Af]at j;omega
  have v:(DN n).succ (DQ (Af n) st 0) l=Hn (Af n) (KR n st l) [0]:=by
   show FD n (Af n) (BK (Af n) (DQ (Af n) st 0)) l=_
   rw[OU e];rfl
  have key:∀y,y∈(DN n).succ (DQ (Af n) st 0) l↔∃st1,Up (El n) l st st1/\Fits (Af n) st1/\y=DQ (Af n) st1 0:=λy=>by
   rw[v,Zc d.len.symm];constructor
   ·rintro⟨o,p,st1,a,b⟩
    have p:o=0:=by simpa using p
    subst p;exact⟨st1,(Im f).1 (by rw[<-Tc c];exact a),LG d a,b⟩
   ·rintro⟨st1,a,_,b⟩
    exact⟨0,by simp,st1,by rw[Tc c];exact(Im f).2 a,b⟩
  constructor
  ·rintro⟨y,u,h⟩
   obtain⟨st1,a,b,rfl⟩:=(key y).1 u;obtain⟨st',t,s⟩:=(Ic q b λm r=>k m (by simp[r])).1 h;exact⟨st',Kt.2 ⟨st1,a,t⟩,s⟩
  ·rintro⟨st',t,s⟩
   obtain⟨st1,a,z⟩:=Kt.1 t;have i:Fits (Af n) st1:=LG d (by rw[Tc c];exact(Im f).2 a);exact⟨_,(key _).2 ⟨st1,a,i,rfl⟩,(Ic q i λm r=>k m (by simp[r])).2 ⟨st',z,s⟩⟩
theorem NU{n:Net}(g:Eh n):∀ {w:List Int} {st st':List Int},Fits (Af n) st->(∀l∈w,0<=l/\l<6)->LC (El n) w st st'->Fits (Af n) st'
 | [],st,st',b,_,h=>by
  have c:=b.len
  have e:(El n).length=st.length:=by simp[El,Af]at c |-;omega
  rw[(MP e).1 h];exact b
 | l::w,st,st',b,f,h=>by
  have c:=b.len
  have e:(El n).length=st.length:=by simp[El,Af]at c |-;omega
  have a:=f l (by simp)
  have d:n.ps.length+n.au.length=st.length:=by simp[Af]at c;omega
  obtain⟨st1,k,j⟩:=Kt.1 h;exact NU g (LG (Iu g b a.1 a.2) (by rw[Tc d];exact(Im e).2 k)) (λm i=>f m (by simp[i])) j
theorem GU{a:AY}:∀ {w:List Int} {q r:Int},Kv (λq l=>[Cz a q.toNat l]) w q r↔r=DL (fA a) q w
 | [],q,r=>Iff.rfl
 | l::w,q,r=>by
  have b:=GU (a:=a) (w:=w) (q:=fA a q l) (r:=r)
  show (∃y,y∈[Cz a q.toNat l]/\Kv _ w y r)↔_
  simp only[su,exists_eq_left];exact b
abbrev NL(s:Sys):Oy:=λq l=>BR s q l
abbrev ng(a:AY):Oy:=λq l=>[Cz a q.toNat l]
def Dw(s:Sys)(w:List Int):Prop:=∃q,Kv (NL s) w 0 q
def Cq(a:AY)(w:List Int):Bool:=WQ a (DL (fA a) 0 w)
theorem Tn{s:Sys}{a p:AY}(h:BI s a p=true){w:List Int}(v:over (DN (Dz s a p)) w):OH (DN (Dz s a p)) w↔Dw s w/\Cq a w=true/\Cq p w=false:=by
 obtain⟨m,hk,i⟩:=O3 h
 have d:∀l∈w,0<=l/\l<6:=λl z=>by have:=Aj (v l z);omega
 have t:∀ {q k j:Int},Fits (Af (Dz s a p)) [q,k,j]->(DN (Dz s a p)).goal (DQ (Af (Dz s a p)) [q,k,j] 0)=(WQ a k && !WQ p j):=λi=>by
  unfold DN;dsimp only;rw[OU i];rfl
 unfold OH;constructor
 ·rintro⟨x,u,b⟩
  obtain⟨st',c,n,rfl⟩:=(Ic m i d).1 u
  match st',c,n,b with
  | [q,k,j],c,n,b=>
   rw[t n]at b;obtain⟨o,f,e,_⟩:=c;have f:=GU.1 f;have e:=GU.1 e;subst f e;refine⟨⟨q,o⟩,?_,?_⟩
   ·unfold Cq;revert b;cases WQ a (DL (fA a) 0 w)<;>simp
   ·unfold Cq;revert b;cases WQ p (DL (fA p) 0 w)<;>simp
  | [],c,_,_=>exact c.elim
  | [_],c,_,_=>exact c.2.elim
  | [_,_],c,_,_=>exact c.2.2.elim
  | _::_::_::_::_,c,_,_=>exact c.2.2.2.elim
 ·rintro⟨⟨q,o⟩,f,e⟩
  have r:LC (El (Dz s a p)) w [0,0,0] [q,DL (fA a) 0 w,DL (fA p) 0 w]:=⟨o,GU.2 rfl,GU.2 rfl,trivial⟩
  have y:=λx=>Ic (w:=w) (x:=x) m i d;have g:Fits (Af (Dz s a p)) [q,DL (fA a) 0 w,DL (fA p) 0 w]:=NU m i d r;refine⟨_,(y _).2 ⟨_,r,g,rfl⟩,?_⟩;rw[t g];unfold Cq at f e;rw[f,e];rfl
theorem JN{w:List Int}:∀ {cs ds:List Oy} {st st2 x:List Int},cs.length=st.length->(LC (cs++ds) w (st++st2) x↔∃y z,x=y++z/\LC cs w st y/\LC ds w st2 z)
 | [],ds,[],st2,x,_=>by
  constructor
  ·intro h;exact⟨[],x,rfl,trivial,h⟩
  ·rintro⟨y,z,rfl,b,d⟩
   cases y with
   | nil=>exact d
   | cons a y=>exact b.elim
 | [],_,_::_,_,_,h=>by simp at h
 | _::_,_,[],_,_,h=>by simp at h
 | c :: cs,ds,q::st,st2,x,h=>by
  have f:=λx=>JN (w:=w) (cs:=cs) (ds:=ds) (st:=st) (st2:=st2) (x:=x) (by simpa using h);constructor
  ·intro e
   cases x with
   | nil=>exact e.elim
   | cons r x=>
    obtain⟨y,z,b,d,g⟩:=(f x).1 e.2;exact⟨r::y,z,by rw[b];rfl,⟨e.1,d⟩,g⟩
  ·rintro⟨y,z,rfl,b,d⟩
   cases y with
   | nil=>exact b.elim
   | cons r y=>exact⟨b.1,(f _).2 ⟨y,z,rfl,b.2,d⟩⟩
theorem QN{w:List Int}:∀ {l:List Sys},(∃y,LC (l.map NL) w (List.replicate l.length 0) y)↔∀s∈l,Dw s w
 | []=>Iff.intro (λ_ s c=>absurd c rY) (λ_=>⟨[],trivial⟩)
 | s :: l=>by
  have a:=QN (w:=w) (l:=l);constructor
  ·rintro⟨y,h⟩ t ht
   cases y with
   | nil=>exact h.elim
   | cons r y=>
    rcases o3.1 ht with rfl|ht
    ·exact⟨r,h.1⟩
    ·exact a.1 ⟨y,h.2⟩ t ht
  ·intro h
   obtain⟨r,d⟩:=h s (by simp);obtain⟨y,b⟩:=a.2 λt ht=>h t (by simp[ht]);exact⟨r::y,d,b⟩
theorem QM{w:List Int}:∀ {cs:List Oy} {st st':List Int},LC cs w st st'->st'.length=cs.length
 | [],[],[],_=>rfl
 | [],[],_::_,h=>h.elim
 | [],_::_,[],h=>h.elim
 | [],_::_,_::_,h=>h.elim
 | _::_,[],[],h=>h.elim
 | _::_,[],_::_,h=>h.elim
 | _::_,_::_,[],h=>h.elim
 | c::cs,q::st,r::st',h=>by simp[QM h.2]
theorem Tm{l:List Sys}{p:AY}(h:(AV l && AE p)=true){w:List Int}(G:over (DN (CL l p)) w):OH (DN (CL l p)) w↔(∀s∈l,Dw s w)/\Cq p w=false:=by
 obtain⟨v,hk,n⟩:=O2 h
 have f:∀m∈w,0<=m/\m<6:=λm H=>by have:=Aj (G m H);omega
 have A:∀ {y:List Int} {r:Int},y.length=l.length->Fits (Af (CL l p)) (y++[r])->(DN (CL l p)).goal (DQ (Af (CL l p)) (y++[r]) 0) = !WQ p r:=λ{y r} k n=>by
  unfold DN;dsimp only;rw[OU n]
  show (!bf (CL l p) (y++[r]) 0)=_
  unfold bf WQ
  have e:(y++[r]).getD ((CL l p).ps.length+0) 0=r:=OX (by
   show (y++[r])[l.length+0]?=some r
   rw[ry,<-k];simp)
  rw[e];rfl
 have g:(CL l p).st=List.replicate l.length 0++[0]:=by
  show List.replicate (l.length+1) 0=_
  rw[List.replicate_succ']
 have j:El (CL l p)=l.map NL++[ng p]:=rfl
 have b:(l.map NL).length=(List.replicate l.length (0:Int)).length:=by simp
 have u:=λx=>Ic (w:=w) (x:=x) v n f;unfold OH;constructor
 ·rintro⟨x,F,a⟩
  obtain⟨st',o,d,rfl⟩:=(u x).1 F;rw[g,j]at o;obtain⟨y,z,rfl,B,c⟩:=(JN b).1 o
  have q:y.length=l.length:=by rw[QM B];simp
  match z,c,d,a with
  | [r],c,d,a=>
   rw[A q d]at a;have I:=GU.1 c.1;subst I;exact⟨QN.1 ⟨y,B⟩,by unfold Cq;revert a;cases WQ p (DL (fA p) 0 w)<;>simp⟩
  | [],c,_,_=>exact c.elim
  | _::_::_,c,_,_=>exact c.2.elim
 ·rintro⟨o,d⟩
  obtain⟨y,k⟩:=QN.2 o
  have t:LC (El (CL l p)) w (CL l p).st (y++[DL (fA p) 0 w]):=by
   rw[g,j];exact(JN b).2 ⟨y,_,rfl,k,GU.2 rfl,trivial⟩
  have i:=NU v n f t;refine⟨_,(u _).2 ⟨_,t,i,rfl⟩,?_⟩;rw[A (by rw[QM k];simp) i];unfold Cq at d;rw[d];rfl
theorem FW{c:Oy}:∀ {u w:List Int} {q r:Int},Kv c (u++w) q r↔∃y,Kv c u q y/\Kv c w y r
 | [],w,q,r=>⟨λh=>⟨q,rfl,h⟩,λ⟨y,a,b⟩=>by have a:y=q:=a;subst a;exact b⟩
 | l :: u,w,q,r=>by
  constructor
  ·rintro⟨y,d,h⟩
   obtain⟨z,a,b⟩:=FW.1 h;exact⟨z,⟨y,d,a⟩,b⟩
  ·rintro⟨z,⟨y,d,a⟩,b⟩
   exact⟨y,d,FW.2 ⟨z,a,b⟩⟩
theorem OT{s:Sys}(b:AX s=true):∀ {w:List Int} {q r:Int},0<=q/\q<s.st->Kv (NL s) w q r->0<=r/\r<s.st
 | [],q,r,a,h=>by have h:r=q:=h;subst h;exact a
 | l::w,q,r,a,⟨y,c,h⟩=>OT b (JK b a.1 a.2 c) h
theorem T7{a:AY}(ha:AE a=true):∀ {w:List Int} {q:Int},(∀l∈w,0<=l/\l<6)->0<=q/\q<a.nx.length->0<=DL (fA a) q w/\DL (fA a) q w<a.nx.length
 | [],q,_,c=>c
 | l::w,q,b,c=>by
  have d:=b l (by simp);exact T7 ha (w:=w) (λm e=>b m (by simp[e])) (DH ha (q:=q.toNat) (by omega) d.1 d.2)
theorem bB{t:CP}{F:PS}{u:W}{c:UInt8}:Hf t F (u++[c])=DA t ((c.toNat:Int)-97) (Hf t F u):=by rw[Qo];rfl
theorem Ko{s:Sys}{q l r:Int}(h:AZ s.al l.toNat=true):r∈BR s q l↔∃e∈s.es,e.f=q/\e.l=l/\e.t=r:=by
 unfold BR;rw[if_pos h];simp only[d9,o9,d4,decide_eq_true_eq];constructor
 ·rintro⟨e,⟨d,c,b⟩,a⟩;exact⟨e,d,c,b,a⟩
 ·rintro⟨e,d,c,b,a⟩;exact⟨e,⟨d,c,b⟩,a⟩
section
variable {t:CP}(ht:Bc t=true)
include ht
theorem Zv{F0:PS}(A:Dd t F0){p j:Nat}:QQ t F0 p j↔∃(a b:Nat) (u:List Int),(F0 a).testBit b=true/\(∀l∈u,l∈Cu t)/\Kv (NL t.s) u b j/\(p:Int)=DL (fA t.q) a u:=by
 constructor
 ·intro h
  induction h with
  | @base p j hb=>exact⟨p,j,[],hb,by simp,rfl,rfl⟩
  | @step p j e i o n J r=>
   obtain⟨a,b,u,z,k,c,d⟩:=r;have I:=Il ht o;have hL:=CS ht n;have g:=i.lt ht A;have H:=DH (CG ht) g.1 hL.1 hL.2.1;refine⟨a,b,u++[e.l],z,λl x=>?_,?_,?_⟩
   ·rcases f6.1 x with h|h
    ·exact k l h
    ·simp at h;subst h;exact n
   ·refine FW.2 ⟨j,c,(e.t.toNat:Int),?_,rfl⟩
    exact(Ko hL.2.2).2 ⟨e,o,by omega,rfl,by omega⟩
   ·rw[My,<-d]
    show ((Cz t.q p e.l).toNat:Int)=Cz t.q ((p:Int).toNat) e.l
    rw[i7];omega
 ·rintro⟨a,b,u,z,k,c,d⟩
  have key:∀(u:List Int) (a b:Nat),QQ t F0 a b->(∀l∈u,l∈Cu t)->∀ {p j:Nat},Kv (NL t.s) u b j->(p:Int)=DL (fA t.q) a u->QQ t F0 p j:=λu=>by
   induction u with
   | nil=>
    intro a b i _ p j c d;have c:(j:Int)=b:=c;have d:(p:Int)=a:=d
    obtain rfl:j=b:=by omega
    obtain rfl:p=a:=by omega
    exact i
   | cons l u r=>
    intro a b i k p j c d;have n:=k l (by simp);have hL:=CS ht n;have g:=i.lt ht A;have H:=DH (CG ht) g.1 hL.1 hL.2.1;obtain⟨y,F,c⟩:=c;obtain⟨e,o,L,B,K⟩:=(Ko hL.2.2).1 F;have I:=Il ht o;have w:=QQ.step i o (by rw[B];exact n) (show e.f.toNat=b by omega)
    have v:((e.t.toNat:Nat):Int)=y:=by omega
    refine r _ _ w (λm G=>k m (by simp[G])) (by rw[v];exact c) ?_;rw[d,B]
    show DL (fA t.q) (Cz t.q ((a:Int).toNat) l) u=_
    rw[i7];congr 1;omega
  exact key u a b (.base z) k c d
theorem dD{F:PS}(o:Dd t F){l:Int}(v:0<=l/\l<6){p' j:Nat}:(WK t l F p').testBit j=true↔∃p a:Nat,(F p).testBit a=true/\Cz t.q p l=(p':Int)/\(j:Int)∈BR t.s a l:=by
 rw[Ml]
 have g:∀ {p a:Nat},(F p).testBit a=true->p<t.q.nx.length:=λ{p a} h=>by
  rcases po p t.q.nx.length with b|b
  ·exact b
  ·rw[o.z p b]at h;simp at h
 unfold DC;by_cases hb:AZ t.s.al l.toNat=true
 ·simp only [hb,if_true]
  constructor
  ·rintro⟨p,b,d,c⟩
   obtain⟨e,i,⟨n,k⟩,u⟩:=Eb.1 c;have r:=Il ht i;exact⟨p,e.f.toNat,k,d,(Ko hb).2 ⟨e,i,by omega,n,by omega⟩⟩
  ·rintro⟨p,a,b,d,c⟩
   obtain⟨e,i,n,k,u⟩:=(Ko hb).1 c;have r:=Il ht i;refine⟨p,g b,d,Eb.2 ⟨e,i,⟨k,?_⟩,by omega⟩⟩;rw[show e.f.toNat=a by omega];exact b
 ·simp only [hb,if_false,ro]
  have m:∀a:Nat,BR t.s a l=[(a:Int)]:=λa=>by unfold BR;rw[if_neg hb]
  constructor
  ·rintro⟨p,b,d,c⟩
   exact⟨p,j,c,d,by rw[m];simp⟩
  ·rintro⟨p,a,b,d,c⟩
   rw[m]at c
   obtain rfl:j=a:=by simp at c;omega
   exact⟨p,g b,d,b⟩
end
def BB(al:Int)(u:List Int):List Int:=u.filter λl=>AZ al l.toNat
def MG(t:CP)(u:List Int):Prop:=∀l∈u,l∈Cu t\/l∈Ac t.al
theorem gb{t:CP}{l:Int}(h:l∈Cu t):AZ t.al l.toNat=false:=by
 unfold Cu at h;have:=(o9.1 h).2
 simpa using this
theorem Uh{t:CP}{u:List Int}(d:MG t u)(h:BB t.al u=[]):∀l∈u,l∈Cu t:=λl b=>by
 rcases d l b with a|a
 ·exact a
 ·exfalso
  have c:l∈BB t.al u:=o9.2 ⟨b,(Aj a).2.2⟩;rw[h]at c;cases c
theorem Tl{t:CP}{u:List Int}(h:∀l∈u,l∈Cu t):BB t.al u=[]:=rX.2 λl a=>by rw[gb (h l a)];simp
theorem YQ{t:CP}{F:PS}(g:Dd t F):Fy t F=true↔∃p j:Nat,(F p).testBit j=true/\WQ t.q p=false:=by
 unfold Fy;rw[qL];constructor
 ·rintro⟨p,c,h⟩
  simp only[d4,decide_eq_true_eq,qC]at h
  have:∃j,(F p).testBit j=true:=Classical.byContradiction λf=>h.1 (HR λj=>by
   cases hb:(F p).testBit j
   ·rfl
   ·exact absurd ⟨j,hb⟩ f)
  obtain⟨j,d⟩:=this;exact⟨p,j,d,by unfold WQ;rw[i7];exact h.2⟩
 ·rintro⟨p,j,a,b⟩
  have c:p<t.q.nx.length:=by
   rcases po p t.q.nx.length with h|h
   ·exact h
   ·rw[g.z p h]at a;simp at a
  refine⟨p,o5.2 c,?_⟩;unfold WQ at b;rw[i7]at b;simp only[d4,decide_eq_true_eq,qC];exact⟨λe=>by rw[e]at a;simp at a,b⟩
theorem SC{t:CP}:∀(w:List Int) {F:PS},Gg t F (C5 w)=false↔∃k,k<=w.length/\Fy t (Hf t F (C5 (w.take k)))=true
 | [],F=>by
  show (!Fy t F)=false↔_
  constructor
  ·intro h
   exact⟨0,by simp,by show Fy t F=true;simpa using h⟩
  ·rintro⟨k,_,h⟩
   have h:Fy t F=true:=by simpa[C5,Hf]using h
   rw[h];rfl
 | l :: w,F=>by
  have c:=λF=>SC (t:=t) w (F:=F);have e:Gg t F (C5 (l::w))=(!Fy t F && Gg t (DA t (((lb l).toNat:Int)-97) F) (C5 w)):=rfl;rw[e];constructor
  ·intro h
   cases hb:Fy t F
   ·rw[hb]at h
    obtain⟨k,b,a⟩:=(c _).1 h;exact⟨k+1,by simpa using b,a⟩
   ·exact⟨0,by simp,hb⟩
  ·rintro⟨k,b,a⟩
   cases k with
   | zero=>
    have a:Fy t F=true:=a;rw[a];rfl
   | succ k=>
    have:=(c (DA t (((lb l).toNat:Int)-97) F)).2 ⟨k,by simpa using b,a⟩;rw[this,Bool.and_false]
theorem ie{α:Type}{P:List α->Prop}(c:P [])(b:∀w l,P w->P (w++[l]))(w:List α):P w:=by
 rw[<-List.reverse_reverse w]
 induction w.reverse with
 | nil=>exact c
 | cons l u a=>rw[List.reverse_cons];exact b _ l a
section
variable {t:CP}(ht:Bc t=true)
include ht
theorem cP{F0:PS}(a:Dd t F0){p j:Nat}:(Td t F0 p).testBit j=true↔∃(b c:Nat) (u:List Int),(F0 b).testBit c=true/\(∀l∈u,l∈Cu t)/\Kv (NL t.s) u c j/\(p:Int)=DL (fA t.q) b u:=by
 rw[OS,Zv ht a];constructor
 ·exact λh=>h.2
 ·intro h
  exact⟨((Zv ht a).2 h).lt ht a |>.2,h⟩
theorem Pb:∀(w:List Int) {F:PS},Dd t F->(∀l∈w,0<=l/\l<6)->Dd t (Hf t F (C5 w))
 | [],F,h,_=>h
 | l :: w,F,h,b=>by
  have a:=b l (by simp)
  have e:Hf t F (C5 (l::w))=Hf t (DA t l F) (C5 w):=by
   show Hf t (DA t (((lb l).toNat:Int)-97) F) (C5 w)=_
   rw[Nw a.1 a.2]
  rw[e];exact Pb w (Mp ht a h) λm c=>b m (by simp[c])
theorem ZB:∀(w:List Int),(∀l∈w,l∈Ac t.al)->∀ {p j:Nat},((Hf t (CA t) (C5 w) p).testBit j=true↔∃u,MG t u/\BB t.al u=w/\Kv (NL t.s) u 0 j/\(p:Int)=DL (fA t.q) 0 u):=λw=>by
 refine ie (P:=λw=>(∀l∈w,l∈Ac t.al)->∀ {p j:Nat},((Hf t (CA t) (C5 w) p).testBit j=true↔∃u,MG t u/\BB t.al u=w/\Kv (NL t.s) u 0 j/\(p:Int)=DL (fA t.q) 0 u)) ?_ ?_ w
 ·intro _ p j
  show (Td t I8 p).testBit j=true↔_
  rw[cP ht (MU ht)]
  have S:∀ {y z:Nat},(I8 y).testBit z=true↔y=0/\z=0:=λ{y z} => by
   unfold I8;split
   ·rename_i h
    subst h;have e:(1:Nat)=2 ^ 0:=rfl;rw[e,qq];simp[eq_comm]
   ·rename_i h;simp[h]
  constructor
  ·rintro⟨y,z,u,b,d,x,v⟩
   obtain⟨rfl,rfl⟩:=S.1 b;exact⟨u,λl hl=>.inl (d l hl),Tl d,x,v⟩
  ·rintro⟨u,b,d,x,v⟩
   exact⟨0,0,u,S.2 ⟨rfl,rfl⟩,Uh b d,x,v⟩
 ·intro w l A H p j
  have o:=H l (by simp);have c:=Aj o;have A:=λp j=>A (λm a=>H m (by simp[a])) (p:=p) (j:=j)
  have g:=Pb ht w (F:=CA t) (GK ht) λm a=>by have:=Aj (H m (by simp[a]));omega
  have e:Hf t (CA t) (C5 (w++[l]))=Td t (WK t l (Hf t (CA t) (C5 w))):=by
   have N:C5 (w++[l])=C5 w++[lb l]:=by simp[C5,lb]
   rw[N,bB,Nw c.1 (by omega)];rfl
  rw[e,cP ht (Lg ht ⟨c.1,by omega⟩ g)];constructor
  ·rintro⟨p1,Z,h,b,d,x,v⟩
   obtain⟨Q,R,h5,h6,h7⟩:=(dD ht g ⟨c.1,by omega⟩).1 b;obtain⟨u,i,G,M,L⟩:=(A Q R).1 h5;refine⟨u++l::h,λm a=>?_,?_,FW.2 ⟨R,M,Z,h7,x⟩,?_⟩
   ·rcases f6.1 a with a|a
    ·exact i m a
    ·rcases o3.1 a with rfl|a
     ·exact .inr o
     ·exact .inl (d m a)
   ·unfold BB at *
    rw[pV,G,qd (by simpa using c.2.2)];have:=Tl d;unfold BB at this;rw[this]
   ·rw[My,<-L,v]
    show _=DL (fA t.q) (Cz t.q ((Q:Int).toNat) l) h
    rw[i7,h6]
  ·rintro⟨u,i,G,M,L⟩
   unfold BB at G;obtain⟨f,u2,rfl,N,e2⟩:=List.filter_eq_append_iff.1 G;obtain⟨b,d,rfl,e3,e4,e5⟩:=List.filter_eq_cons_iff.1 e2;have r:∀m∈b,m∈Cu t:=Uh (λm a=>i m (by simp[a])) (by unfold BB;exact rX.2 e3);have K:∀m∈d,m∈Cu t:=Uh (λm a=>i m (by simp[a])) e5;obtain⟨Y,V,c2⟩:=FW.1 M;obtain⟨n,U,k,T,c5⟩:=FW.1 c2
   have B:AX t.s=true:=by unfold Bc at ht;simp only[d4]at ht;exact ht.1
   have hst:=AN B;have I:=CG ht;have hqn:=AJ I
   have J:∀m∈f++(b++l::d),0<=m/\m<6:=λm a=>by
    rcases i m a with h|h
    ·have:=CS ht h;omega
    ·have:=Aj h;omega
   have b1:=OT B ⟨by omega,by omega⟩ V;have X:=OT B b1 U;have b3:=JK B X.1 X.2 T;have a2:=T7 I (w:=f++b) (q:=0) (λm a=>J m (by rcases f6.1 a with h|h<;>simp[h])) ⟨by omega,by omega⟩;have a3:=DH I (q:=(DL (fA t.q) 0 (f++b)).toNat) (by omega) c.1 (show l<6 by omega);refine⟨(Cz t.q (DL (fA t.q) 0 (f++b)).toNat l).toNat,k.toNat,d,(dD ht g ⟨c.1,by omega⟩).2 ⟨(DL (fA t.q) 0 (f++b)).toNat,n.toNat,(A _ _).2 ⟨f++b,λm a=>?_,?_,?_,by omega⟩,by omega,?_⟩,K,?_,?_⟩
   ·rcases f6.1 a with a|a
    ·exact i m (by simp[a])
    ·exact .inl (r m a)
   ·have:=Tl r
    unfold BB at *;rw[pV,N,this,pA]
   ·rw[show ((n.toNat:Nat):Int)=n by omega]
    exact FW.2 ⟨Y,V,U⟩
   ·rw[show ((n.toNat:Nat):Int)=n by omega,show ((k.toNat:Nat):Int)=k by omega];exact T
   ·rw[show ((k.toNat:Nat):Int)=k by omega];exact c5
   ·rw[show (((Cz t.q (DL (fA t.q) 0 (f++b)).toNat l).toNat:Nat):Int)=Cz t.q (DL (fA t.q) 0 (f++b)).toNat l by omega,L,<-rV,My];rfl
theorem IT{w:List Int}(v:∀l∈w,l∈Ac t.al):LS t (C5 w)=false↔∃u,MG t u/\BB t.al u <+: w/\Dw t.s u/\Cq t.q u=false:=by
 unfold LS;rw[SC];constructor
 ·rintro⟨k,I,H⟩
  have d:∀l∈w.take k,l∈Ac t.al:=λl o=>v l (pb o)
  have c:=Pb ht (w.take k) (GK ht) λm f=>by have:=Aj (d m f);omega
  obtain⟨p,j,G,F⟩:=(YQ c).1 H;obtain⟨u,n,g,i,r⟩:=(ZB ht _ d).1 G;exact⟨u,n,by rw[g];exact List.take_prefix _ _,⟨_,i⟩,by unfold Cq;rw[<-r];exact F⟩
 ·rintro⟨u,n,g,⟨q,i⟩,r⟩
  refine⟨(BB t.al u).length,g.length_le,?_⟩;have e:w.take (BB t.al u).length=BB t.al u:=(List.prefix_iff_eq_take.1 g).symm;rw[e];have x:∀l∈BB t.al u,l∈Ac t.al:=λl o=>v l (g.subset o)
  have y:AX t.s=true:=by unfold Bc at ht;simp only[d4]at ht;exact ht.1
  have A:=AN y;have z:=CG ht;have B:=AJ z
  have c:=Pb ht (BB t.al u) (GK ht) λm f=>by have:=Aj (x m f);omega
  have b:=OT y (⟨by omega,by omega⟩:(0:Int)<=0/\(0:Int)<t.s.st) i
  have a:=T7 z (w:=u) (q:=0) (λm f=>by
   rcases n m f with h|h
   ·have:=CS ht h;omega
   ·have:=Aj h;omega) ⟨by omega,by omega⟩
  refine(YQ c).2 ⟨(DL (fA t.q) 0 u).toNat,q.toNat,(ZB ht _ x).2 ⟨u,n,rfl,?_,by omega⟩,?_⟩
  ·rw[show ((q.toNat:Nat):Int)=q by omega];exact i
  ·rw[show (((DL (fA t.q) 0 u).toNat:Nat):Int)=DL (fA t.q) 0 u by omega];exact r
end
theorem Jm{s:Sys}:∀ {u:List Int} {q r:Int},Kv (NL s) u q r↔Kv (NL s) (BB s.al u) q r
 | [],q,r=>Iff.rfl
 | l :: u,q,r=>by
  have c:=λq=>Jm (s:=s) (u:=u) (q:=q) (r:=r);by_cases hb:AZ s.al l.toNat=true
  ·have e:BB s.al (l::u)=l::BB s.al u:=qd hb
   rw[e];exact⟨λ⟨y,a,b⟩=>⟨y,a,(c y).1 b⟩,λ⟨y,a,b⟩=>⟨y,a,(c y).2 b⟩⟩
  ·have e:BB s.al (l::u)=BB s.al u:=rm hb
   have d:NL s q l=[q]:=by show BR s q l=_;unfold BR;rw[if_neg hb]
   rw[e,<-c q];constructor
   ·rintro⟨y,a,b⟩
    rw[d]at a
    obtain rfl:y=q:=by simpa using a
    exact b
   ·intro h
    exact⟨q,by rw[d];simp,h⟩
theorem MD{s:Sys}{u v:List Int}(h:BB s.al u=BB s.al v):Dw s u↔Dw s v:=by
 unfold Dw;constructor
 ·rintro⟨q,a⟩;exact⟨q,Jm.2 (h▸Jm.1 a)⟩
 ·rintro⟨q,a⟩;exact⟨q,Jm.2 (h.symm▸Jm.1 a)⟩
theorem Qm{a:AY}(ha:AE a=true):∀ {u:List Int} {q:Int},(∀l∈u,0<=l/\l<6)->0<=q/\q<a.nx.length->DL (fA a) q u=DL (fA a) q (BB a.al u)
 | [],q,_,_=>rfl
 | l :: u,q,c,f=>by
  have d:=c l (by simp);have h:=DH ha (q:=q.toNat) (by omega) d.1 d.2;have b:=λq=>Qm ha (u:=u) (q:=q) λm g=>c m (by simp[g]);by_cases hb:AZ a.al l.toNat=true
  ·have e:BB a.al (l::u)=l::BB a.al u:=qd hb
   rw[e];exact b _ h
  ·have e:BB a.al (l::u)=BB a.al u:=rm hb
   have i:Cz a q.toNat l=q:=by unfold Cz;rw[if_neg hb];omega
   rw[e]
   show DL (fA a) (Cz a q.toNat l) u=_
   rw[i];exact b _ f
def C9(u:List Int):Prop:=∀l∈u,0<=l/\l<6
theorem Iq{a:AY}(ha:AE a=true){u v:List Int}(c:C9 u)(b:C9 v)(h:BB a.al u=BB a.al v):Cq a u=Cq a v:=by
 have d:=AJ ha;unfold Cq;rw[Qm ha c ⟨by omega,by omega⟩,Qm ha b ⟨by omega,by omega⟩,h]
theorem MO{al:Int}{u:List Int}(a:C9 u):C9 (BB al u):=λl b=>a l (o9.1 b).1
theorem Lr{al:Int}{u:List Int}(a:C9 u):∀l∈BB al u,l∈Ac al:=λl b=>by
 obtain⟨d,c⟩:=o9.1 b;have:=a l d
 obtain⟨n,rfl⟩:∃n:Nat,l=n:=⟨l.toNat,by omega⟩
 exact Eu.2 ⟨by omega,c⟩
theorem Dt{al:Int}{u:List Int}(a:∀l∈u,l∈Ac al):C9 u:=λl b=>by have:=Aj (a l b);omega
theorem IV{al bl:Int}{u:List Int}(h:∀l∈u,AZ al l.toNat=true->AZ bl l.toNat=true):BB al (BB bl u)=BB al u:=by
 unfold BB;rw[sw];refine qR λl a=>?_;cases ha:AZ al l.toNat
 ·rfl
 ·rw[h l a ha];rfl
theorem ZR{al:Int}{u v:List Int}(h:u <+: v):BB al u <+: BB al v:=h.filter _
theorem gP{al:Int}:∀ {v w:List Int},w <+: BB al v->∃v',v' <+: v/\BB al v'=w:=λ{v w} ⟨z,h⟩=>by
 obtain⟨a,c,rfl,b,_⟩:=List.filter_eq_append_iff.1 h.symm;exact⟨a,sv _ _,b⟩
theorem JG{s:Sys}{u v:List Int}(h:u <+: v)(a:Dw s v):Dw s u:=by
 obtain⟨z,rfl⟩:=h;obtain⟨q,b⟩:=a;obtain⟨y,c,_⟩:=FW.1 b;exact⟨y,c⟩
theorem merge{A B:Int->Bool}:∀(u:List Int) {v:List Int},(∀l∈u,A l=true)->(∀l∈v,B l=true)->u.filter B=v.filter A->∃x:List Int,x.filter A=u/\x.filter B=v/\∀l∈x,l∈u\/l∈v
 | [],v,_,b,h=>⟨v,h.symm,List.filter_eq_self.2 b,λl n=>.inr n⟩
 | l :: u, v,g,b,h=>by
  have i:=g l (by simp);by_cases c:B l=true
  ·rw [qd c]at h
   obtain⟨k,j,rfl,p,q,o⟩:=List.filter_eq_cons_iff.1 h.symm;obtain⟨x,f,e,d⟩:=merge u (v:=j) (λm a=>g m (by simp[a])) (λm a=>b m (by simp[a])) o.symm;refine⟨k++l::x,?_,?_,λm a=>?_⟩
   ·rw[pV,rX.2 p,qd i,f];rfl
   ·rw[pV,List.filter_eq_self.2 λm a=>b m (by simp[a]),qd c,e]
   ·rcases f6.1 a with a|a
    ·exact .inr (by simp[a])
    ·rcases o3.1 a with rfl|a
     ·exact .inl (by simp)
     ·rcases d m a with h|h
      ·exact .inl (by simp[h])
      ·exact .inr (by simp[h])
  ·rw [rm c]at h
   obtain⟨x,f,e,d⟩:=merge u (v:=v) (λm a=>g m (by simp[a])) b h;refine⟨l::x,?_,?_,λm a=>?_⟩
   ·rw[qd i,f]
   ·rw[rm c,e]
   ·rcases o3.1 a with rfl|a
    ·exact .inl (by simp)
    ·rcases d m a with h|h
     ·exact .inl (by simp[h])
     ·exact .inr h
theorem Nc{a b:Int}(ha:Bb a=true)(hb:Bb b=true){n:Nat}(c:n<64):AZ (Gq .i64 a b) n=(AZ a n || AZ b n):=by
 unfold Bb at ha hb;simp only[decide_eq_true_eq]at ha hb
 obtain⟨x,rfl⟩:∃x:Nat,a=x:=⟨a.toNat,by omega⟩
 obtain⟨y,rfl⟩:∃y:Nat,b=y:=⟨b.toNat,by omega⟩
 have h:=Mb (a:=x) (b:=y) (by omega) (by omega);rw[h.1,Dx (by omega) c,Dx (by omega) c,Dx (by omega) c,ql]
theorem fQ{a b:Int}(ha:Bb a=true)(hb:Bb b=true){n:Nat}(c:n<64):AZ (Gp .i64 a b) n=(AZ a n && AZ b n):=by
 unfold Bb at ha hb;simp only[decide_eq_true_eq]at ha hb
 obtain⟨x,rfl⟩:∃x:Nat,a=x:=⟨a.toNat,by omega⟩
 obtain⟨y,rfl⟩:∃y:Nat,b=y:=⟨b.toNat,by omega⟩
 have h:=LZ (a:=x) (b:=y) (by omega) (by omega);have d:x &&& y<64:=Nat.lt_of_le_of_lt sh (by omega);rw[h,Dx (by omega) c,Dx (by omega) c,Dx (by omega) c,rr]
structure Da (s:Sys) (p:AY) (t:Sys) (al:Int):Prop where
 hs:AX s=true
 hp:AE p=true
 ht:AX t=true
 hal:al=AT s p t
section
variable {s t:Sys}{p:AY}{al:Int}(hI:Da s p t al)
include hI
theorem dc{n:Nat}(a:n<64):AZ al n=((AZ s.al n || AZ p.al n) && AZ t.al n):=by
 have c:=(AN hI.hs).1;have b:=(AJ hI.hp).1;have d:=(AN hI.ht).1;rw[hI.hal];unfold AT;rw[hI.hs,hI.hp,hI.ht];simp only[sB,if_true];rw[fQ (Ma c b) d a,Nc c b a]
theorem RY:Bb al=true:=by
 have g:=(AN hI.hs).1;have f:=(AJ hI.hp).1;have i:=(AN hI.ht).1;have h:=Ma g f;rw[hI.hal];unfold AT;rw[hI.hs,hI.hp,hI.ht];simp only[sB,if_true];unfold Bb at *;simp only[decide_eq_true_eq] at *
 obtain⟨x,d⟩:∃x:Nat,Gq .i64 s.al p.al=x:=⟨(Gq .i64 s.al p.al).toNat,by omega⟩
 obtain⟨y,c⟩:∃y:Nat,t.al=y:=⟨t.al.toNat,by omega⟩
 have:=LZ (a:=x) (b:=y) (by omega) (by omega);have e:x &&& y<64:=Nat.lt_of_le_of_lt sh (by omega);rw[d,c,this];omega
theorem Ck:Bc ⟨s,p,al⟩=true:=by
 unfold Bc;rw[hI.hs,hI.hp,RY hI];rfl
theorem cC{a:AY}(ha:AE a=true)(hal:a.al=al)(o:∀u,C9 u->(∀l∈u,AZ s.al l.toNat=true\/AZ al l.toNat=true)->Dw s u->Cq a u=true->Cq p u=true)
 (m:∀v,(∀l∈v,l∈Ac t.al)->Dw t v->Cq a v=true) {x:List Int} (e:C9 x) (f:∀l∈x,AZ s.al l.toNat=true\/AZ t.al l.toNat=true) (k:Dw s x) (ht:Dw t x):Cq p x=true:=by
 have c:=λl (b:l∈x)=>dc hI (n:=l.toNat) (by have:=e l b;omega);have j:=MO (al:=t.al) e;have w:Cq a (BB t.al x)=true:=m _ (Lr e) ((MD (by rw[IV λ_ _ h=>h])).1 ht)
 let u:=x.filter λl=>AZ s.al l.toNat || AZ al l.toNat
 have g:C9 u:=λl f=>e l (o9.1 f).1
 have d:∀ {bl:Int},(∀l∈x,AZ bl l.toNat=true->(AZ s.al l.toNat || AZ al l.toNat)=true)->BB bl u=BB bl x:=λ{bl} h=>by
  show List.filter _ (List.filter _ x)=List.filter _ x
  rw[sw];refine qR λl f=>?_;cases hb:AZ bl l.toNat
  ·rfl
  ·rw[h l f hb];rfl
 have r:Cq a u=true:=by
  rw[Iq ha g j,w]
  rw [hal,d λl _ h=>by rw[h,rC],IV λl b h=>by
   have:=c l b;rw[h]at this
   revert this;cases AZ t.al l.toNat<;>simp]
 have q:=o u g (λl b=>by have:=(o9.1 b).2;simpa using this) ((MD (d λl _ h=>by rw[h];rfl)).2 k) r;rw[<-q];refine Iq hI.hp e g (d λl b h=>?_).symm;have:=c l b;rw[h,rC,ph]at this
 rcases f l b with i|i
 ·rw[i];rfl
 ·rw[this,i,rC]
theorem Wz{v:List Int}(y:∀l∈v,l∈Ac t.al)(ht:Dw t v)(G:LS ⟨s,p,al⟩ (C5 (BB al v))=false):∃x,C9 x/\(∀l∈x,AZ s.al l.toNat=true\/AZ t.al l.toNat=true)/\Dw s x/\Dw t x/\Cq p x=false:=by
 have m:=Dt y;obtain⟨u,A,J,I,H⟩:=(IT (Ck hI) (Lr m)).1 G
 have d:C9 u:=λl a=>by
  rcases A l a with h|h
  ·have:=CS (Ck hI) h;omega
  ·have:=Aj h;omega
 obtain⟨v',w,F⟩:=gP J;have g:∀l∈v',l∈Ac t.al:=λl a=>y l (w.subset a);have b:=λ(l:Int) (h:0<=l/\l<6)=>dc hI (n:=l.toNat) (by omega)
 have q:∀l∈u,(AZ s.al l.toNat || AZ al l.toNat)=true:=λl a=>by
  rcases A l a with h|h
  ·rw[(CS (Ck hI) h).2.2];rfl
  ·rw[(Aj h).2.2,rC]
 have o:∀l∈v',AZ t.al l.toNat=true:=λl a=>(Aj (g l a)).2.2
 have e:u.filter (λl=>AZ t.al l.toNat)=v'.filter λl=>AZ s.al l.toNat || AZ al l.toNat:=by
  have L:u.filter (λl=>AZ t.al l.toNat)=BB al u:=qR λl a=>by
   have c:=q l a;rw[b l (d l a)]at c |-;revert c;cases AZ s.al l.toNat<;>cases AZ p.al l.toNat<;>cases AZ t.al l.toNat<;>simp
  have K:v'.filter (λl=>AZ s.al l.toNat || AZ al l.toNat)=BB al v':=qR λl a=>by
   have c:=o l a;rw[b l (Dt g l a),c];cases AZ s.al l.toNat<;>cases AZ p.al l.toNat<;>simp
  rw[L,K,F]
 obtain⟨x,B,k,r⟩:=merge u q o e
 have f:C9 x:=λl a=>by
  rcases r l a with h|h
  ·exact d l h
  ·exact Dt g l h
 have i:∀l∈x,AZ s.al l.toNat=true\/AZ t.al l.toNat=true:=λl a=>by
  rcases r l a with h|h
  ·have c:=q l h
   rw[b l (d l h)]at c;revert c;cases AZ s.al l.toNat<;>cases AZ p.al l.toNat<;>cases AZ t.al l.toNat<;>simp
  ·exact .inr (o l h)
 have j:∀ {bl:Int},(∀l∈x,AZ bl l.toNat=true->(AZ s.al l.toNat || AZ al l.toNat)=true)->BB bl u=BB bl x:=λ{bl} h=>by
  rw[<-B]
  show List.filter _ (List.filter _ x)=List.filter _ x
  rw[sw];refine qR λl a=>?_;cases hb:AZ bl l.toNat
  ·rfl
  ·rw[h l a hb];rfl
 refine⟨x,f,i,(MD (j λl _ h=>by rw[h];rfl)).1 I,?_,?_⟩
 ·have:=JG w ht
  refine(MD ?_).1 this;have k:BB t.al x=v':=k;rw[<-k,IV λ_ _ h=>h]
 ·rw[<-H]
  refine Iq hI.hp f d (j λl z h=>?_).symm;have:=b l (f l z);rw[h,rC,ph]at this
  rcases i l z with c|c
  ·rw[c];rfl
  ·rw[this,c,rC]
end
theorem JZ{al:Int}{u:List Int}(c:C9 u)(h:∀l∈u,AZ al l.toNat=true):∀l∈u,l∈Ac al:=λl a=>by
 have:=c l a
 obtain⟨n,rfl⟩:∃n:Nat,l=n:=⟨l.toNat,by omega⟩
 have b:=h _ a;rw[i7]at b;exact Eu.2 ⟨by omega,b⟩
theorem SV{g:Gr}{w:List Int}(h:CY g=some w):over g w/\OH g w/\∀u,over g u->OH g u->¬slt u w:=by
 have:=De g;rw[h]at this;exact this
theorem YL{g:Gr}(h:CY g=none):∀u,over g u->¬OH g u:=by
 have:=De g;rw[h]at this;exact this
theorem Lq{s:Sys}{a p:AY}{w:List Int}(h:C4 s a p=some w):BI s a p=true/\(∀l∈w,l∈Ac (Gq .i64 s.al a.al))/\Dw s w/\Cq a w=true/\Cq p w=false:=by
 unfold C4 at h;by_cases b:BI s a p=true
 ·rw[if_pos b]at h
  obtain⟨c,d,_⟩:=SV h;exact⟨b,c,(Tn b c).1 d⟩
 ·rw[if_neg b]at h;cases h
theorem KY{s:Sys}{a p:AY}(d:BI s a p=true):HD s a p=true↔∀w,(∀l∈w,l∈Ac (Gq .i64 s.al a.al))->Dw s w->Cq a w=true->Cq p w=true:=by
 unfold HD C4;rw[d,ph,if_pos rfl];constructor
 ·intro h w g c f
  cases b:CY (DN (Dz s a p)) with
  | some x=>rw[b]at h;cases h
  | none=>
   have:=YL b w g;rw[Tn d g]at this;cases e:Cq p w
   ·exact absurd ⟨c,f,e⟩ this
   ·rfl
 ·intro h
  cases b:CY (DN (Dz s a p)) with
  | none=>rfl
  | some x=>
   obtain⟨c,f,_⟩:=SV b;obtain⟨e,j,i⟩:=(Tn d c).1 f;rw[h x c e j]at i;cases i
theorem Yu{l:List Sys}{p:AY}{w:List Int}(h:BE l p=some w):(AV l && AE p)=true/\(∀m∈w,m∈Ac (Bw l))/\(∀s∈l,Dw s w)/\Cq p w=false:=by
 unfold BE at h;by_cases a:(AV l && AE p)=true
 ·rw[if_pos a]at h
  obtain⟨b,c,_⟩:=SV h;exact⟨a,b,(Tm a b).1 c⟩
 ·rw[if_neg a]at h;cases h
theorem GZ{l:List Sys}{p:AY}(c:(AV l && AE p)=true):C8 l p=true↔∀w,(∀m∈w,m∈Ac (Bw l))->(∀s∈l,Dw s w)->Cq p w=true:=by
 unfold C8 BE;rw[c,ph,if_pos rfl];constructor
 ·intro h w e b
  cases a:CY (DN (CL l p)) with
  | some x=>rw[a]at h;cases h
  | none=>
   have:=YL a w e;rw[Tm c e]at this;cases d:Cq p w
   ·exact absurd ⟨b,d⟩ this
   ·rfl
 ·intro h
  cases a:CY (DN (CL l p)) with
  | none=>rfl
  | some x=>
   obtain⟨b,g,_⟩:=SV a;obtain⟨d,f⟩:=(Tm c b).1 g;rw[h x b d]at f;cases f
theorem Ux(n:Nat)(a:n<64):AZ 0 n=false:=by
 have:=Dx (s:=0) (n:=n) (by omega) a;rw[show ((0:Nat):Int)=0 from rfl]at this;rw[this];simp
theorem Ec{t:Sys}:AV [t]=AX t:=by simp[AV]
theorem DG{s t:Sys}:AV [s,t]=(AX s && AX t):=by simp[AV]
theorem OQ{t:Sys}(ht:AX t=true){n:Nat}(a:n<64):AZ (Bw [t]) n=AZ t.al n:=by
 unfold Bw;rw[Ec,ht,if_pos rfl]
 show AZ (Gq .i64 0 t.al) n=_
 rw[Nc (by decide) (AN ht).1 a,Ux n a,rI]
theorem JO{s t:Sys}(a:AX s=true)(ht:AX t=true){n:Nat}(b:n<64):AZ (Bw [s,t]) n=(AZ s.al n || AZ t.al n):=by
 unfold Bw;rw[DG,a,ht,sB,if_pos rfl]
 show AZ (Gq .i64 (Gq .i64 0 s.al) t.al) n=_
 have c:Bb 0=true:=by decide
 rw[Nc (Ma c (AN a).1) (AN ht).1 b,Nc c (AN a).1 b,Ux n b,rI]
theorem TJ{t:Sys}(ht:AX t=true){u:List Int}:(∀l∈u,l∈Ac (Bw [t]))↔∀l∈u,l∈Ac t.al:=by
 constructor
 ·intro h
  have a:=Dt h
  exact JZ a λl b=>by rw[<-OQ ht (by have:=a l b;omega)];exact(Aj (h l b)).2.2
 ·intro h
  have a:=Dt h
  exact JZ a λl b=>by rw[OQ ht (by have:=a l b;omega)];exact(Aj (h l b)).2.2
theorem Zk{s t:Sys}(c:AX s=true)(ht:AX t=true){u:List Int}:(∀l∈u,l∈Ac (Bw [s,t]))↔C9 u/\∀l∈u,AZ s.al l.toNat=true\/AZ t.al l.toNat=true:=by
 constructor
 ·intro h
  have a:=Dt h;refine⟨a,λl b=>?_⟩;have:=(Aj (h l b)).2.2;rw[JO c ht (by have:=a l b;omega),o8]at this;exact this
 ·rintro⟨a,h⟩
  exact JZ a λl b=>by rw[JO c ht (by have:=a l b;omega),o8];exact h l b
theorem iO{a b:Int}(ha:Bb a=true)(hb:Bb b=true){u:List Int}:(∀l∈u,l∈Ac (Gq .i64 a b))↔C9 u/\∀l∈u,AZ a l.toNat=true\/AZ b l.toNat=true:=by
 constructor
 ·intro h
  have c:=Dt h;refine⟨c,λl d=>?_⟩;have:=(Aj (h l d)).2.2;rw[Nc ha hb (by have:=c l d;omega),o8]at this;exact this
 ·rintro⟨c,h⟩
  exact JZ c λl d=>by rw[Nc ha hb (by have:=c l d;omega),o8];exact h l d
theorem Kq{s t:Sys}{w:List Int}:(∀x∈[s,t],Dw x w)↔Dw s w/\Dw t w:=by simp
theorem J5{t:Sys}{w:List Int}:(∀x∈[t],Dw x w)↔Dw t w:=by simp
theorem N7{s t:Sys}{p a:AY}(h:DU s t p a=0):C8 [s,t] p=true/\HD s a p=true/\C8 [t] a=true:=by
 unfold DU at h;split at h
 ·cases h
 rename_i c;split at h
 ·cases h
 rename_i m;split at h
 ·cases h
 rename_i G;split at h
 ·cases h
 rename_i F
 have hk:HD s a p=true:=by simpa using G
 have b:C8 [t] a=true:=by simpa using F
 refine⟨?_,hk,b⟩;rw[not_or]at c
 have n:(AX s && AE p && AX t)=true:=by
  have o:=c.1;unfold AT at o;split at o
  ·assumption
  ·omega
 have ha:AE a=true:=by simpa using c.2
 simp only[d4]at n;obtain⟨⟨e,f⟩,d⟩:=n;have hal:a.al=AT s p t:=Classical.not_not.1 m
 have hI:Da s p t a.al:=⟨e,f,d,hal⟩
 have y:BI s a p=true:=by unfold BI;rw[e,ha,f];rfl
 have l:(AV [t] && AE a)=true:=by rw[Ec,d,ha];rfl
 have k:(AV [s,t] && AE p)=true:=by rw[DG,e,d,f];rfl
 rw[KY y]at hk;rw[GZ l]at b;rw[GZ k];intro w x z;obtain⟨A,B⟩:=(Zk e d).1 x;obtain⟨r,q⟩:=Kq.1 z;exact cC hI ha rfl (λu i j c m=>hk u ((iO (AN e).1 (AJ ha).1).2 ⟨i,j⟩) c m) (λv g c=>b v ((TJ d).2 g) (J5.2 c)) A B r q
theorem Uf{s t:Sys}{p:AY}{al:Int}(hI:Da s p t al){v:List Int}(g:∀l∈v,l∈Ac t.al)(ht:Dw t v)(h:LS ⟨s,p,al⟩ (C5 (BB al v))=false):C8 [s,t] p=false:=by
 have a:(AV [s,t] && AE p)=true:=by rw[DG,hI.hs,hI.ht,hI.hp];rfl
 obtain⟨x,f,e,d,c,b⟩:=Wz hI g ht h;cases hk:C8 [s,t] p
 ·rfl
 ·rw[GZ a]at hk
  rw[hk x ((Zk hI.hs hI.ht).2 ⟨f,e⟩) (Kq.2 ⟨d,c⟩)]at b;cases b
theorem SQ{a:AY}{w:List Int}(b:∀l∈w,l∈Ac a.al):LA a (C5 w)=Cq a w:=by
 unfold Cq;rw[SA w 0 b];rfl
theorem Yw{s t:Sys}{p a:AY}{al:Int}(hI:Da s p t al)(ha:AE a=true)(hal:a.al=al){u:List Int}(h:C4 s a p=some u):(∀l∈BB al u,l∈Ac al)/\LA a (C5 (BB al u))=true/\LS ⟨s,p,al⟩ (C5 (BB al u))=false:=by
 obtain⟨o,i,j,n,k⟩:=Lq h;have e:=Dt i;have c:=Lr (al:=al) e;have d:=((iO (AN hI.hs).1 (AJ ha).1).1 i).2;refine⟨c,?_,(IT (Ck hI) c).2 ⟨u,λl b=>?_,rH _,j,k⟩⟩
 ·rw[SQ (by rw[hal];exact c),<-n]
  exact Iq ha (MO e) e (by rw[hal,IV λ_ _ h=>h])
 ·have hb:=e l b
  rw[hal]at d;by_cases f:AZ al l.toNat=true
  ·exact .inr (JZ (u:=[l]) (by intro m b;simp at b;subst b;exact hb) (by intro m b;simp at b;subst b;exact f) l (by simp))
  ·refine .inl ?_
   unfold Cu;refine o9.2 ⟨?_,by simpa using f⟩;have g:AZ s.al l.toNat=true:=(d l b).resolve_right f;exact JZ (u:=[l]) (by intro m b;simp at b;subst b;exact hb) (by intro m b;simp at b;subst b;exact g) l (by simp)
theorem Hq{t:Sys}{a:AY}{v:List Int}(h:BE [t] a=some v):AX t=true/\AE a=true/\(∀l∈v,l∈Ac t.al)/\Dw t v/\Cq a v=false:=by
 obtain⟨b,d,c,e⟩:=Yu h;rw[d4,Ec]at b;exact⟨b.1,b.2,(TJ b.1).1 d,J5.1 c,e⟩
theorem WZ{t:Sys}{a:AY}{v:List Int}(h:BE [t] a=some v):(∀l∈BB a.al v,l∈Ac a.al)/\LA a (C5 (BB a.al v))=false:=by
 obtain⟨i,f,e,g,d⟩:=Hq h;have c:=Dt e;have b:=Lr (al:=a.al) c;refine⟨b,?_⟩;rw[SQ b,<-d];exact Iq f (MO c) c (by rw[IV λ_ _ h=>h])
end Go.Am
