/-
  An automaton without the states to which no word leads, plainly.
-/
import Derived.Test.YtohfiindiidcfaaGreatDoorPart24
import Derived.Test.YtohfiindiidcfaaGreatDoorPart15
set_option linter.all false
namespace Go.Am
theorem ZL{α:Type}{l:List α}{k:Nat}{x d:α}(h:l[k]? = some x):l.getD k d=x:=by rw [lA,h];rfl
def fA(a:AU)(q l:Int):Int:=Cb a q.toNat l
def SA(a:AU)(q:Int):Bool:=a.ac.getD q.toNat false
theorem O2{a:AU}:∀(w:List Int) (q:Int),(∀l∈w,l∈Ac a.al)->CS (fA a) q w=Ev a q (C1 w)
 | [],q,_=>rfl
 | l::w,q,h=>by
  have c:=Au (h l (by simp));have e:Ev a q (C1 (l::w))=Ev a (Cb a q.toNat (((lb l).toNat:Int) - 97)) (C1 w):=rfl;rw [e,KO c.1 (by omega)];exact O2 w _ λm b=>h m (by simp [b])
def hO(a:AU)(q r:Int):Prop:=∀w,A0 (BE a.al) w->SA a (Ev a q w)=SA a (Ev a r w)
structure iT (a:AU) (ks:List (List Int)):Prop where
 len:ks.length=a.nx.length
 ac:∀q r:Nat,q < a.nx.length->r < a.nx.length->ks[q]? = ks[r]?->SA a q=SA a r
 go:∀q r:Nat,q < a.nx.length->r < a.nx.length->ks[q]? = ks[r]?->∀l∈Ac a.al,ks[(Cb a q l).toNat]? = ks[(Cb a r l).toNat]?
 res:∀q r:Nat,q < a.nx.length->r < a.nx.length->hO a q r->ks[q]? = ks[r]?
structure dU (a:AU):Prop where
 b:bQ a
 n1:1<=a.nx.length
 ac:a.ac.length=a.nx.length
section
variable {a:AU}(h:dU a)
include h
end
structure g9 (a m:AU):Prop where
 al:m.al=a.al
 g:dU m
 n2:m.nx.length<=a.nx.length
 lang:∀w,A0 (BE a.al) w->LA m w=LA a w
 rc:∀i:Nat,i < m.nx.length->∃w,A0 (BE a.al) w/\Ev m 0 w=i
 ds:∀i j:Nat,i < m.nx.length->j < m.nx.length->hO m i j->i=j
end Go.Am
namespace Go.Am
open Go
abbrev LR:=Int->Int->List Int
def Iz(c:LR):List Int->Int->Int->Prop
 | [],q,r=>r=q
 | l::w,q,r=>∃y,y∈c q l/\Iz c w y r
def Jr:List LR->List Int->List Int->List Int->Prop
 | [],_,[],[]=>True
 | c::cs,w,q::st,r::st'=>Iz c w q r/\Jr cs w st st'
 | _,_,_,_=>False
def Qq:List LR->Int->List Int->List Int->Prop
 | [],_,[],[]=>True
 | c::cs,l,q::st,r::st'=>r∈c q l/\Qq cs l st st'
 | _,_,_,_=>False
theorem Iy:∀ {cs:List LR} {l:Int} {w st st':List Int},Jr cs (l::w) st st'↔∃st1,Qq cs l st st1/\Jr cs w st1 st'
 | [],l,w,[],[]=>⟨λ_=>⟨[],trivial,trivial⟩,λ_=>trivial⟩
 | [],l,w,[],_::_=>⟨λh=>h.elim,λ⟨st1,a,b⟩=>by cases st1<;>simp [Qq,Jr] at a b⟩
 | [],l,w,_::_,st'=>⟨λh=>by cases st'<;>exact h.elim,λ⟨st1,a,b⟩=>by cases st1<;>exact a.elim⟩
 | c::cs,l,w,[],st'=>⟨λh=>by cases st'<;>exact h.elim,λ⟨st1,a,b⟩=>by cases st1<;>exact a.elim⟩
 | c::cs,l,w,q::st,[]=>⟨λh=>h.elim,λ⟨st1,a,b⟩=>by cases st1<;>first|exact a.elim|exact b.elim⟩
 | c :: cs,l,w,q::st,r::st'=>by
  have d:=Iy (cs:=cs) (l:=l) (w:=w) (st:=st) (st':=st');constructor
  ·rintro⟨⟨y,e,a⟩,b⟩
   obtain⟨st1,g,f⟩:=d.1 b;exact⟨y::st1,⟨e,g⟩,a,f⟩
  ·rintro⟨st1,a,b⟩
   cases st1 with
   | nil=>exact a.elim
   | cons y st1=>exact⟨⟨y,a.1,b.1⟩,d.2 ⟨st1,a.2,b.2⟩⟩
def Dm(n:Net):List LR:=n.ps.map (λs q l=>Bu s q l)++n.au.map (λa q l=>[Cb a q.toNat l])
def Pb:List Int->List (List Int)->Prop
 | [],[]=>True
 | x::xs,c::cs=>x∈c/\Pb xs cs
 | _,_=>False
theorem UH:∀ {zs:List Int} {cs:List (List Int)} {out:List Int} {v:Int},cs.length=zs.length->(v∈FW zs cs out↔∃o∈out,∃st1,Pb st1 cs/\v=CZ zs st1 o)
 | [],[],out,v,_=>by
  constructor
  ·intro h;exact⟨v,h,[],trivial,rfl⟩
  ·rintro⟨o,a,st1,h,rfl⟩
   cases st1 with
   | nil=>exact a
   | cons x st1=>exact h.elim
 | [],_::_,_,_,h=>by simp at h
 | _::_,[],_,_,h=>by simp at h
 | z :: zs,c::cs,out,v,h=>by
  have g:=UH (zs:=zs) (cs:=cs) (out:=out.flatMap λo=>c.map λx=>o*z+x) (v:=v) (by simpa using h)
  show v∈FW zs cs _↔_
  rw [g];constructor
  ·rintro⟨o,a,st1,b,e⟩
   obtain⟨f,d,j⟩:=kz.1 a;obtain⟨x,i,rfl⟩:=f7.1 j;exact⟨f,d,x::st1,⟨i,b⟩,e⟩
  ·rintro⟨o,a,st1,b,e⟩
   cases st1 with
   | nil=>exact b.elim
   | cons x st1=>exact⟨o*z+x,kz.2 ⟨o,a,f7.2 ⟨x,b.1,rfl⟩⟩,st1,b.2,e⟩
theorem GY:∀ {cs:List LR} {l:Int} {st st1:List Int},cs.length=st.length->(Pb st1 (cs.zipWith (λc q=>c q l) st)↔Qq cs l st st1)
 | [],l,[],st1,_=>by
  cases st1 with
  | nil=>exact⟨λ_=>trivial,λ_=>trivial⟩
  | cons x st1=>exact⟨λh=>h.elim,λh=>h.elim⟩
 | [],_,_::_,_,h=>by simp at h
 | _::_,_,[],_,h=>by simp at h
 | c::cs,l,q::st,st1,h=>by
  have a:=λst1=>GY (cs:=cs) (l:=l) (st:=st) (st1:=st1) (by simpa using h)
  cases st1 with
  | nil=>exact⟨λh=>h.elim,λh=>h.elim⟩
  | cons x st1=>exact⟨λh=>⟨h.1,(a st1).1 h.2⟩,λh=>⟨h.1,(a st1).2 h.2⟩⟩
theorem Pr{n:Net}{st:List Int}(h:n.ps.length+n.au.length=st.length)(l:Int):IX n st l=(Dm n).zipWith (λc q=>c q l) st:=by
 unfold IX Dm;have e:st=st.take n.ps.length++st.drop n.ps.length:=(jZ _ _).symm
 conv=>rhs;rw [e]
 rw [List.zipWith_append (by simp;omega),List.zipWith_map_left,List.zipWith_map_left];congr 1;exact Fa _ _ _
theorem Pv:∀ {zs ss:List Int},Fits zs ss->∀n:Int,CZ zs ss n=n*Al zs+CZ zs ss 0
 | _,_,.nil,n=>by simp [CZ,Al]
 | _,_,@Fits.cons z s zs ss c b a,n=>by
  show CZ zs ss (n*z+s)=n*(z*Al zs)+CZ zs ss (0*z+s)
  rw [Pv a (n*z+s),Pv a (0*z+s),kP,kP,kv,Int.zero_mul,Int.zero_mul,Int.zero_add,Int.add_assoc]
theorem Mo:∀ {zs ss:List Int},Fits zs ss->∀m:Int,Bs zs (CZ zs ss m)=ss
 | _,_,.nil,m=>rfl
 | _,_,@Fits.cons z s zs ss d c a,m=>by
  show (CZ zs ss (m*z+s) / Al zs % z)::Bs zs (CZ zs ss (m*z+s))=s::ss
  rw [Mo a];congr 1;have e:=a.pos;have b:=a.enc 0 (by omega);rw [Int.zero_add,ma] at b;rw [Pv a,Int.add_comm,Int.add_mul_ediv_right _ _ (by omega),Int.ediv_eq_zero_of_lt b.1 b.2,Int.zero_add,Int.add_comm,Int.add_mul_emod_self_right,Int.emod_eq_of_lt d c]
theorem Ju:∀ {zs:List Int} {cs:List (List Int)} {st:List Int},EC zs cs->Pb st cs->Fits zs st
 | _,_,[],.nil,_=>.nil
 | _,_,_::_,.nil,h=>h.elim
 | _,_,[],.cons _ _ _,h=>h.elim
 | _,_,x::st,.cons a c b,h=>.cons (a x h.1).1 (a x h.1).2 (Ju b h.2)
theorem Kt:∀ {cs:List LR} {st st':List Int},cs.length=st.length->(Jr cs [] st st'↔st'=st)
 | [],[],[],_=>⟨λ_=>rfl,λ_=>trivial⟩
 | [],[],_::_,_=>⟨λh=>h.elim,λh=>by cases h⟩
 | [],_::_,_,h=>by simp at h
 | _::_,[],_,h=>by simp at h
 | c::cs,q::st,[],h=>⟨λh=>h.elim,λh=>by cases h⟩
 | c :: cs,q::st,r::st',h=>by
  have d:=Kt (cs:=cs) (st:=st) (st':=st') (by simpa using h);constructor
  ·rintro⟨a,b⟩
   have a:r=q:=a;rw [d.1 b,a]
  ·intro h
   injection h with a b
   exact⟨a,d.2 b⟩
theorem GP{n:Net}(q:Dk n):∀ {w:List Int} {st:List Int} {x:Int},Fits (Ae n) st->(∀l∈w,0<=l/\l < 6)->(reach (Dy n) w (CZ (Ae n) st 0) x↔∃st',Jr (Dm n) w st st'/\Fits (Ae n) st'/\x=CZ (Ae n) st' 0)
 | [],st,x,e,_=>by
  have j:=e.len
  have f:(Dm n).length=st.length:=by simp [Dm,Ae] at j |-;omega
  constructor
  ·intro h
   exact⟨st,(Kt f).2 rfl,e,h.symm⟩
  ·rintro⟨st',a,_,b⟩
   rw [(Kt f).1 a] at b;exact b.symm
 | l :: w,st,x,e,k=>by
  have j:=e.len
  have f:(Dm n).length=st.length:=by simp [Dm,Ae] at j |-;omega
  have g:=k l (by simp);have d:=Hc q e g.1 g.2
  have c:n.ps.length+n.au.length=st.length:=by simp [Ae] at j;omega
  have v:(Dy n).succ (CZ (Ae n) st 0) l=FW (Ae n) (IX n st l) [0]:=by
   show Er n (Ae n) (Bs (Ae n) (CZ (Ae n) st 0)) l=_
   rw [Mo e];rfl
  have key:∀y,y∈(Dy n).succ (CZ (Ae n) st 0) l↔∃st1,Qq (Dm n) l st st1/\Fits (Ae n) st1/\y=CZ (Ae n) st1 0:=λy=>by
   rw [v,UH d.len.symm];constructor
   ·rintro⟨o,p,st1,a,b⟩
    have p:o=0:=by simpa using p
    subst p;exact⟨st1,(GY f).1 (by rw [<-Pr c];exact a),Ju d a,b⟩
   ·rintro⟨st1,a,_,b⟩
    exact⟨0,by simp,st1,by rw [Pr c];exact(GY f).2 a,b⟩
  constructor
  ·rintro⟨y,u,h⟩
   obtain⟨st1,a,b,rfl⟩:=(key y).1 u;obtain⟨st',t,s⟩:=(GP q b λm r=>k m (by simp [r])).1 h;exact⟨st',Iy.2 ⟨st1,a,t⟩,s⟩
  ·rintro⟨st',t,s⟩
   obtain⟨st1,a,z⟩:=Iy.1 t;have i:Fits (Ae n) st1:=Ju d (by rw [Pr c];exact(GY f).2 a);exact⟨_,(key _).2 ⟨st1,a,i,rfl⟩,(GP q i λm r=>k m (by simp [r])).2 ⟨st',z,s⟩⟩
theorem Lh{n:Net}(g:Dk n):∀ {w:List Int} {st st':List Int},Fits (Ae n) st->(∀l∈w,0<=l/\l < 6)->Jr (Dm n) w st st'->Fits (Ae n) st'
 | [],st,st',b,_,h=>by
  have c:=b.len
  have e:(Dm n).length=st.length:=by simp [Dm,Ae] at c |-;omega
  rw [(Kt e).1 h];exact b
 | l::w,st,st',b,f,h=>by
  have c:=b.len
  have e:(Dm n).length=st.length:=by simp [Dm,Ae] at c |-;omega
  have a:=f l (by simp)
  have d:n.ps.length+n.au.length=st.length:=by simp [Ae] at c;omega
  obtain⟨st1,k,j⟩:=Iy.1 h;exact Lh g (Ju (Hc g b a.1 a.2) (by rw [Pr d];exact(GY e).2 k)) (λm i=>f m (by simp [i])) j
theorem Fs{a:AU}:∀ {w:List Int} {q r:Int},Iz (λq l=>[Cb a q.toNat l]) w q r↔r=CS (fA a) q w
 | [],q,r=>Iff.rfl
 | l::w,q,r=>by
  have b:=Fs (a:=a) (w:=w) (q:=fA a q l) (r:=r)
  show (∃y,y∈[Cb a q.toNat l]/\Iz _ w y r)↔_
  simp only [me,exists_eq_left];exact b
abbrev Lb(s:Sys):LR:=λq l=>Bu s q l
abbrev gm(a:AU):LR:=λq l=>[Cb a q.toNat l]
def El(s:Sys)(w:List Int):Prop:=∃q,Iz (Lb s) w 0 q
def Dz(a:AU)(w:List Int):Bool:=SA a (CS (fA a) 0 w)
theorem cM{s:Sys}{a p:AU}(h:BX s a p=true){w:List Int}(v:over (Dy (Dq s a p)) w):PB (Dy (Dq s a p)) w↔El s w/\Dz a w=true/\Dz p w=false:=by
 obtain⟨m,hk,i⟩:=Mt h
 have d:∀l∈w,0<=l/\l < 6:=λl z=>by have:=Au (v l z);omega
 have t:∀ {q k j:Int},Fits (Ae (Dq s a p)) [q,k,j]->(Dy (Dq s a p)).goal (CZ (Ae (Dq s a p)) [q,k,j] 0)=(SA a k && !SA p j):=λi=>by
  unfold Dy;dsimp only;rw [Mo i];rfl
 unfold PB;constructor
 ·rintro⟨x,u,b⟩
  obtain⟨st',c,n,rfl⟩:=(GP m i d).1 u
  match st',c,n,b with
  | [q,k,j],c,n,b=>
   rw [t n] at b;obtain⟨o,f,e,_⟩:=c;have f:=Fs.1 f;have e:=Fs.1 e;subst f e;refine⟨⟨q,o⟩,?_,?_⟩
   ·unfold Dz;revert b;cases SA a (CS (fA a) 0 w)<;>simp
   ·unfold Dz;revert b;cases SA p (CS (fA p) 0 w)<;>simp
  | [],c,_,_=>exact c.elim
  | [_],c,_,_=>exact c.2.elim
  | [_,_],c,_,_=>exact c.2.2.elim
  | _::_::_::_::_,c,_,_=>exact c.2.2.2.elim
 ·rintro⟨⟨q,o⟩,f,e⟩
  have r:Jr (Dm (Dq s a p)) w [0,0,0] [q,CS (fA a) 0 w,CS (fA p) 0 w]:=⟨o,Fs.2 rfl,Fs.2 rfl,trivial⟩
  have y:=λx=>GP (w:=w) (x:=x) m i d;have g:Fits (Ae (Dq s a p)) [q,CS (fA a) 0 w,CS (fA p) 0 w]:=Lh m i d r;refine⟨_,(y _).2 ⟨_,r,g,rfl⟩,?_⟩;rw [t g];unfold Dz at f e;rw [f,e];rfl
theorem Ie{w:List Int}:∀ {cs ds:List LR} {st st2 x:List Int},cs.length=st.length->(Jr (cs++ds) w (st++st2) x↔∃y z,x=y++z/\Jr cs w st y/\Jr ds w st2 z)
 | [],ds,[],st2,x,_=>by
  constructor
  ·intro h;exact⟨[],x,rfl,trivial,h⟩
  ·rintro⟨y,z,rfl,b,d⟩
   cases y with
   | nil=>exact d
   | cons a y=>exact b.elim
 | [],_,_::_,_,_,h=>by simp at h
 | _::_,_,[],_,_,h=>by simp at h
 | c :: cs,ds,q::st,st2,x,h=>by
  have f:=λx=>Ie (w:=w) (cs:=cs) (ds:=ds) (st:=st) (st2:=st2) (x:=x) (by simpa using h);constructor
  ·intro e
   cases x with
   | nil=>exact e.elim
   | cons r x=>
    obtain⟨y,z,b,d,g⟩:=(f x).1 e.2;exact⟨r::y,z,by rw [b];rfl,⟨e.1,d⟩,g⟩
  ·rintro⟨y,z,rfl,b,d⟩
   cases y with
   | nil=>exact b.elim
   | cons r y=>exact⟨b.1,(f _).2 ⟨y,z,rfl,b.2,d⟩⟩
theorem N9{w:List Int}:∀ {l:List Sys},(∃y,Jr (l.map Lb) w (List.replicate l.length 0) y)↔∀s∈l,El s w
 | []=>Iff.intro (λ_ s c=>absurd c mx) (λ_=>⟨[],trivial⟩)
 | s :: l=>by
  have a:=N9 (w:=w) (l:=l);constructor
  ·rintro⟨y,h⟩ t ht
   cases y with
   | nil=>exact h.elim
   | cons r y=>
    rcases je.1 ht with rfl|ht
    ·exact⟨r,h.1⟩
    ·exact a.1 ⟨y,h.2⟩ t ht
  ·intro h
   obtain⟨r,d⟩:=h s (by simp);obtain⟨y,b⟩:=a.2 λt ht=>h t (by simp [ht]);exact⟨r::y,d,b⟩
theorem N8{w:List Int}:∀ {cs:List LR} {st st':List Int},Jr cs w st st'->st'.length=cs.length
 | [],[],[],_=>rfl
 | [],[],_::_,h=>h.elim
 | [],_::_,[],h=>h.elim
 | [],_::_,_::_,h=>h.elim
 | _::_,[],[],h=>h.elim
 | _::_,[],_::_,h=>h.elim
 | _::_,_::_,[],h=>h.elim
 | c::cs,q::st,r::st',h=>by simp [N8 h.2]
theorem cL{l:List Sys}{p:AU}(h:(AV l && AH p)=true){w:List Int}(G:over (Dy (Cm l p)) w):PB (Dy (Cm l p)) w↔(∀s∈l,El s w)/\Dz p w=false:=by
 obtain⟨v,hk,n⟩:=Ms h
 have f:∀m∈w,0<=m/\m < 6:=λm H=>by have:=Au (G m H);omega
 have A:∀ {y:List Int} {r:Int},y.length=l.length->Fits (Ae (Cm l p)) (y++[r])->(Dy (Cm l p)).goal (CZ (Ae (Cm l p)) (y++[r]) 0) = !SA p r:=λ{y r} k n=>by
  unfold Dy;dsimp only;rw [Mo n]
  show (!VW (Cm l p) (y++[r]) 0)=_
  unfold VW SA
  have e:(y++[r]).getD ((Cm l p).ps.length+0) 0=r:=ZL (by
   show (y++[r])[l.length+0]? = some r
   rw [lh,<-k];simp)
  rw [e];rfl
 have g:(Cm l p).st=List.replicate l.length 0++[0]:=by
  show List.replicate (l.length+1) 0=_
  rw [List.replicate_succ']
 have j:Dm (Cm l p)=l.map Lb++[gm p]:=rfl
 have b:(l.map Lb).length=(List.replicate l.length (0:Int)).length:=by simp
 have u:=λx=>GP (w:=w) (x:=x) v n f;unfold PB;constructor
 ·rintro⟨x,F,a⟩
  obtain⟨st',o,d,rfl⟩:=(u x).1 F;rw [g,j] at o;obtain⟨y,z,rfl,B,c⟩:=(Ie b).1 o
  have q:y.length=l.length:=by rw [N8 B];simp
  match z,c,d,a with
  | [r],c,d,a=>
   rw [A q d] at a;have I:=Fs.1 c.1;subst I;exact⟨N9.1 ⟨y,B⟩,by unfold Dz;revert a;cases SA p (CS (fA p) 0 w)<;>simp⟩
  | [],c,_,_=>exact c.elim
  | _::_::_,c,_,_=>exact c.2.elim
 ·rintro⟨o,d⟩
  obtain⟨y,k⟩:=N9.2 o
  have t:Jr (Dm (Cm l p)) w (Cm l p).st (y++[CS (fA p) 0 w]):=by
   rw [g,j];exact(Ie b).2 ⟨y,_,rfl,k,Fs.2 rfl,trivial⟩
  have i:=Lh v n f t;refine⟨_,(u _).2 ⟨_,t,i,rfl⟩,?_⟩;rw [A (by rw [N8 k];simp) i];unfold Dz at d;rw [d];rfl
end Go.Am
namespace Go.Am
open Go Go.Proofs
set_option maxHeartbeats 1000000
set_option maxRecDepth 4000
attribute [local irreducible] A8 Cq Lex Br Ai Spec
variable {TB:BA}
end Go.Am
namespace Go.Proofs.YtohfiindiidcfaaGreatDoor
open Go Go.Am Go.ChangeShapes Go.WideShapes Go.ChangeAt Go.RowKit
def WV(l:List Value):List Int:=l.map λv=>match v with|.int _ n=>n|_=>0
theorem Vr{P:Program}{W:World}{name:String}{g:Nat}{t e:TypeId}{n:Nat}{zs:List Int}{fuel:Nat}{cs:Array Value}{p:List MemPlace}(i:P.globalNamed name=some g)(ht:P.underlying t=some (.array n e))(j:P.underlying e=some (.int .u8))(d:P.cellsOf e=1)(b:P.cellsOf t=n)
 (a:W.var? P name=some cs) (k:DataW.trod (λ_=>()) P W 0 (λ_=>true) false fuel t cs.toList=some (Lib.tabData .u8 zs,p)):∃T fr,W.heap[g]? = some (.cells (zs.map λz=>Value.int .u8 z).toArray T fr):=by
 have h:=Lib.cells_of_tab ht j d b k;unfold World.var? at a;rw [i] at a;simp only [kS] at a;split at a
 ·rename_i c T fr f
  injection a with a
  subst a;refine⟨T,fr,?_⟩;rw [f,<-h]
 ·cases a
theorem tables {W:World} {rest:List (String×DataW Unit)} (h:laidMet Tryz.prog (("math/bits.deBruijn32tab",Rows.laid_math_bits_deBruijn32tab)::("math/bits.deBruijn64tab",Rows.laid_math_bits_deBruijn64tab)::rest) W):∃tabs:List (Nat×Obj),FV ⟨tabs,none⟩/\∀x∈(⟨tabs,none⟩:BA),below W x.1/\W.heap[x.1]? = some x.2:=by
 obtain⟨ps,⟨I,y,u,K,G,B,j,f,c,l,⟨H,w,t,J,F,A,g,e,b,k,_,_⟩,_⟩,_,_⟩:=h
 have p:Tryz.prog.globalNamed "math/bits.deBruijn32tab" = some 0:=by kernel_rfl
 have o:Tryz.prog.globalNamed "math/bits.deBruijn64tab" = some 1:=by kernel_rfl
 obtain rfl:=Option.some.inj (p.symm.trans j);obtain rfl:=Option.some.inj (o.symm.trans g)
 have s:(Tryz.prog.globals[0]?).map (·.type)=some 235:=by kernel_rfl
 have l1:(Tryz.prog.globals[1]?).map (·.type)=some 236:=by kernel_rfl
 obtain rfl:=Option.some.inj (s.symm.trans f);obtain rfl:=Option.some.inj (l1.symm.trans e);obtain⟨T0,n,r⟩:=Vr (zs:=WV BU) p Tryz.underlying235 Tryz.underlying5 (by kernel_rfl) (by kernel_rfl) c l;obtain⟨T1,m,q⟩:=Vr (zs:=WV Bn) o Tryz.underlying236 Tryz.underlying5 (by kernel_rfl) (by kernel_rfl) b k;refine⟨[(0,.cells ((WV BU).map λz=>Value.int .u8 z).toArray T0 n),(1,.cells ((WV Bn).map λz=>Value.int .u8 z).toArray T1 m)],⟨⟨⟨_,_,_,kZ,λi v d=>?_⟩,by decide⟩,⟨⟨_,_,_,jE _ kZ,λi v d=>?_⟩,by decide⟩⟩,?_⟩
 ·have:BU=(WV BU).map λz=>Value.int .u8 z:=rfl
  rw [jP,<-this];exact d
 ·have:Bn=(WV Bn).map λz=>Value.int .u8 z:=rfl
  rw [jP,<-this];exact d
 ·intro x a
  have a:x∈[_,_]:=a;simp only [je,mx,or_false] at a
  rcases a with rfl|rfl
  ·exact⟨(jq.1 r).1,r⟩
  ·exact⟨(jq.1 q).1,q⟩
end Go.Proofs.YtohfiindiidcfaaGreatDoor
