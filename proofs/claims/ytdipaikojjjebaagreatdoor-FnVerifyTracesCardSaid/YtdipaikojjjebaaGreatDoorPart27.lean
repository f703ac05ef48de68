/-
  What the searches through systems and automata side by side say, plainly.
-/
import Derived.Test.YtdipaikojjjebaaGreatDoorPart24
import Derived.Test.YtdipaikojjjebaaGreatDoorPart21
set_option linter.all false
namespace Go.Am
open Go
abbrev MC:=Int->Int->List Int
def Hh(c:MC):List Int->Int->Int->Prop
 | [],q,r=>r=q
 | l::w,q,r=>∃y,y∈c q l/\Hh c w y r
def JM:List MC->List Int->List Int->List Int->Prop
 | [],_,[],[]=>True
 | c::cs,w,q::st,r::st'=>Hh c w q r/\JM cs w st st'
 | _,_,_,_=>False
def RP:List MC->Int->List Int->List Int->Prop
 | [],_,[],[]=>True
 | c::cs,l,q::st,r::st'=>r∈c q l/\RP cs l st st'
 | _,_,_,_=>False
theorem IX:∀ {cs:List MC} {l:Int} {w st st':List Int},JM cs (l::w) st st'↔∃st1,RP cs l st st1/\JM cs w st1 st'
 | [],l,w,[],[]=>⟨λ_=>⟨[],trivial,trivial⟩,λ_=>trivial⟩
 | [],l,w,[],_::_=>⟨λh=>h.elim,λ⟨st1,a,b⟩=>by cases st1<;>simp[RP,JM]at a b⟩
 | [],l,w,_::_,st'=>⟨λh=>by cases st'<;>exact h.elim,λ⟨st1,a,b⟩=>by cases st1<;>exact a.elim⟩
 | c::cs,l,w,[],st'=>⟨λh=>by cases st'<;>exact h.elim,λ⟨st1,a,b⟩=>by cases st1<;>exact a.elim⟩
 | c::cs,l,w,q::st,[]=>⟨λh=>h.elim,λ⟨st1,a,b⟩=>by cases st1<;>first|exact a.elim|exact b.elim⟩
 | c :: cs,l,w,q::st,r::st'=>by
  have d:=IX (cs:=cs) (l:=l) (w:=w) (st:=st) (st':=st');constructor
  ·rintro⟨⟨y,e,a⟩,b⟩
   obtain⟨st1,g,f⟩:=d.1 b;exact⟨y::st1,⟨e,g⟩,a,f⟩
  ·rintro⟨st1,a,b⟩
   cases st1 with
   | nil=>exact a.elim
   | cons y st1=>exact⟨⟨y,a.1,b.1⟩,d.2 ⟨st1,a.2,b.2⟩⟩
def DG(n:Net):List MC:=n.ps.map (λs q l=>BN s q l)++n.au.map (λa q l=>[CN a q.toNat l])
def Qg:List Int->List (List Int)->Prop
 | [],[]=>True
 | x::xs,c::cs=>x∈c/\Qg xs cs
 | _,_=>False
theorem VG:∀ {zs:List Int} {cs:List (List Int)} {out:List Int} {v:Int},cs.length=zs.length->(v∈Lv zs cs out↔∃o∈out,∃st1,Qg st1 cs/\v=EG zs st1 o)
 | [],[],out,v,_=>by
  constructor
  ·intro h;exact⟨v,h,[],trivial,rfl⟩
  ·rintro⟨o,a,st1,h,rfl⟩
   cases st1 with
   | nil=>exact a
   | cons x st1=>exact h.elim
 | [],_::_,_,_,h=>by simp at h
 | _::_,[],_,_,h=>by simp at h
 | z :: zs,c::cs,out,v,h=>by
  have g:=VG (zs:=zs) (cs:=cs) (out:=out.flatMap λo=>c.map λx=>o*z+x) (v:=v) (by simpa using h)
  show v∈Lv zs cs _↔_
  rw[g];constructor
  ·rintro⟨o,a,st1,b,e⟩
   obtain⟨f,d,j⟩:=mL.1 a;obtain⟨x,i,rfl⟩:=d8.1 j;exact⟨f,d,x::st1,⟨i,b⟩,e⟩
  ·rintro⟨o,a,st1,b,e⟩
   cases st1 with
   | nil=>exact b.elim
   | cons x st1=>exact⟨o*z+x,mL.2 ⟨o,a,d8.2 ⟨x,b.1,rfl⟩⟩,st1,b.2,e⟩
theorem Hd:∀ {cs:List MC} {l:Int} {st st1:List Int},cs.length=st.length->(Qg st1 (cs.zipWith (λc q=>c q l) st)↔RP cs l st st1)
 | [],l,[],st1,_=>by
  cases st1 with
  | nil=>exact⟨λ_=>trivial,λ_=>trivial⟩
  | cons x st1=>exact⟨λh=>h.elim,λh=>h.elim⟩
 | [],_,_::_,_,h=>by simp at h
 | _::_,_,[],_,h=>by simp at h
 | c::cs,l,q::st,st1,h=>by
  have a:=λst1=>Hd (cs:=cs) (l:=l) (st:=st) (st1:=st1) (by simpa using h)
  cases st1 with
  | nil=>exact⟨λh=>h.elim,λh=>h.elim⟩
  | cons x st1=>exact⟨λh=>⟨h.1,(a st1).1 h.2⟩,λh=>⟨h.1,(a st1).2 h.2⟩⟩
theorem Qs{n:Net}{st:List Int}(h:n.ps.length+n.au.length=st.length)(l:Int):Qr n st l=(DG n).zipWith (λc q=>c q l) st:=by
 unfold Qr DG;have e:st=st.take n.ps.length++st.drop n.ps.length:=(mx _ _).symm
 conv=>rhs;rw[e]
 rw[List.zipWith_append (by simp;omega),List.zipWith_map_left,List.zipWith_map_left];congr 1;exact Fy _ _ _
theorem Qx:∀ {zs ss:List Int},Fits zs ss->∀n:Int,EG zs ss n=n*Az zs+EG zs ss 0
 | _,_,.nil,n=>by simp[EG,Az]
 | _,_,@Fits.cons z s zs ss c b a,n=>by
  show EG zs ss (n*z+s)=n*(z*Az zs)+EG zs ss (0*z+s)
  rw[Qx a (n*z+s),Qx a (0*z+s),nn,nn,ng,Int.zero_mul,Int.zero_mul,pu,Int.add_assoc]
theorem MU:∀ {zs ss:List Int},Fits zs ss->∀m:Int,Da zs (EG zs ss m)=ss
 | _,_,.nil,m=>rfl
 | _,_,@Fits.cons z s zs ss d c a,m=>by
  show (EG zs ss (m*z+s) / Az zs%z)::Da zs (EG zs ss (m*z+s))=s::ss
  rw[MU a];congr 1;have e:=a.pos;have b:=a.enc 0 (by omega);rw[pu,o3]at b;rw[Qx a,pv,Int.add_mul_ediv_right _ _ (by omega),ou b.1 b.2,pu,pv,o6,ph d c]
theorem JQ:∀ {zs:List Int} {cs:List (List Int)} {st:List Int},Gs zs cs->Qg st cs->Fits zs st
 | _,_,[],.nil,_=>.nil
 | _,_,_::_,.nil,h=>h.elim
 | _,_,[],.cons _ _ _,h=>h.elim
 | _,_,x::st,.cons a c b,h=>.cons (a x h.1).1 (a x h.1).2 (JQ b h.2)
theorem KQ:∀ {cs:List MC} {st st':List Int},cs.length=st.length->(JM cs [] st st'↔st'=st)
 | [],[],[],_=>⟨λ_=>rfl,λ_=>trivial⟩
 | [],[],_::_,_=>⟨λh=>h.elim,λh=>by cases h⟩
 | [],_::_,_,h=>by simp at h
 | _::_,[],_,h=>by simp at h
 | c::cs,q::st,[],h=>⟨λh=>h.elim,λh=>by cases h⟩
 | c :: cs,q::st,r::st',h=>by
  have d:=KQ (cs:=cs) (st:=st) (st':=st') (by simpa using h);constructor
  ·rintro⟨a,b⟩
   have a:r=q:=a;rw[d.1 b,a]
  ·intro h
   injection h with a b
   exact⟨a,d.2 b⟩
theorem GV{n:Net}(q:GD n):∀ {w:List Int} {st:List Int} {x:Int},Fits (AG n) st->(∀l∈w,0<=l/\l<6)->(reach (Jc n) w (EG (AG n) st 0) x↔∃st',JM (DG n) w st st'/\Fits (AG n) st'/\x=EG (AG n) st' 0)
 | [],st,x,e,_=>by
  have j:=e.len
  have f:(DG n).length=st.length:=by simp[DG,AG]at j |-;omega
  constructor
  ·intro h
   exact⟨st,(KQ f).2 rfl,e,h.symm⟩
  ·rintro⟨st',a,_,b⟩
   rw[(KQ f).1 a]at b;exact b.symm
 | l :: w,st,x,e,k=>by
  have j:=e.len
  have f:(DG n).length=st.length:=by simp[DG,AG]at j |-;omega
  have g:=k l (by simp);have d:=JV q e g.1 g.2
  have c:n.ps.length+n.au.length=st.length:=by simp[AG]at j;omega
  have hs:(Jc n).succ (EG (AG n) st 0) l=Lv (AG n) (Qr n st l) [0]:=by
   show Ig n (AG n) (Da (AG n) (EG (AG n) st 0)) l=_
   rw[MU e];rfl
  have key:∀y,y∈(Jc n).succ (EG (AG n) st 0) l↔∃st1,RP (DG n) l st st1/\Fits (AG n) st1/\y=EG (AG n) st1 0:=λy=>by
   rw[hs,VG d.len.symm];constructor
   ·rintro⟨o,p,st1,a,b⟩
    have p:o=0:=by simpa using p
    subst p;exact⟨st1,(Hd f).1 (by rw[<-Qs c];exact a),JQ d a,b⟩
   ·rintro⟨st1,a,_,b⟩
    exact⟨0,by simp,st1,by rw[Qs c];exact(Hd f).2 a,b⟩
  constructor
  ·rintro⟨y,u,h⟩
   obtain⟨st1,a,b,rfl⟩:=(key y).1 u;obtain⟨st',t,s⟩:=(GV q b λm r=>k m (by simp[r])).1 h;exact⟨st',IX.2 ⟨st1,a,t⟩,s⟩
  ·rintro⟨st',t,s⟩
   obtain⟨st1,a,v⟩:=IX.1 t;have i:Fits (AG n) st1:=JQ d (by rw[Qs c];exact(Hd f).2 a);exact⟨_,(key _).2 ⟨st1,a,i,rfl⟩,(GV q i λm r=>k m (by simp[r])).2 ⟨st',v,s⟩⟩
theorem LY{n:Net}(g:GD n):∀ {w:List Int} {st st':List Int},Fits (AG n) st->(∀l∈w,0<=l/\l<6)->JM (DG n) w st st'->Fits (AG n) st'
 | [],st,st',b,_,h=>by
  have c:=b.len
  have e:(DG n).length=st.length:=by simp[DG,AG]at c |-;omega
  rw[(KQ e).1 h];exact b
 | l::w,st,st',b,f,h=>by
  have c:=b.len
  have e:(DG n).length=st.length:=by simp[DG,AG]at c |-;omega
  have a:=f l (by simp)
  have d:n.ps.length+n.au.length=st.length:=by simp[AG]at c;omega
  obtain⟨st1,k,j⟩:=IX.1 h;exact LY g (JQ (JV g b a.1 a.2) (by rw[Qs d];exact(Hd e).2 k)) (λm i=>f m (by simp[i])) j
theorem FJ{a:A5}:∀ {w:List Int} {q r:Int},Hh (λq l=>[CN a q.toNat l]) w q r↔r=Dc (fA a) q w
 | [],q,r=>Iff.rfl
 | l::w,q,r=>by
  have b:=FJ (a:=a) (w:=w) (q:=fA a q l) (r:=r)
  show (∃y,y∈[CN a q.toNat l]/\Hh _ w y r)↔_
  simp only[o4,exists_eq_left];exact b
abbrev I8(s:Sys):MC:=λq l=>BN s q l
abbrev jQ(a:A5):MC:=λq l=>[CN a q.toNat l]
def Cp(s:Sys)(w:List Int):Prop:=∃q,Hh (I8 s) w 0 q
def C5(a:A5)(w:List Int):Bool:=TH a (Dc (fA a) 0 w)
theorem Y8{s:Sys}{a p:A5}(h:BQ s a p=true){w:List Int}(u:over (Jc (Dq s a p)) w):NL (Jc (Dq s a p)) w↔Cp s w/\C5 a w=true/\C5 p w=false:=by
 obtain⟨m,hk,i⟩:=QQ h
 have d:∀l∈w,0<=l/\l<6:=λl y=>by have:=Ai (u l y);omega
 have hg:∀ {q k j:Int},Fits (AG (Dq s a p)) [q,k,j]->(Jc (Dq s a p)).goal (EG (AG (Dq s a p)) [q,k,j] 0)=(TH a k && !TH p j):=λi=>by
  unfold Jc;dsimp only;rw[MU i];rfl
 unfold NL;constructor
 ·rintro⟨x,t,b⟩
  obtain⟨st',c,n,rfl⟩:=(GV m i d).1 t
  match st',c,n,b with
  | [q,k,j],c,n,b=>
   rw[hg n]at b;obtain⟨o,f,e,_⟩:=c;have f:=FJ.1 f;have e:=FJ.1 e;subst f e;refine⟨⟨q,o⟩,?_,?_⟩
   ·unfold C5;revert b;cases TH a (Dc (fA a) 0 w)<;>simp
   ·unfold C5;revert b;cases TH p (Dc (fA p) 0 w)<;>simp
  | [],c,_,_=>exact c.elim
  | [_],c,_,_=>exact c.2.elim
  | [_,_],c,_,_=>exact c.2.2.elim
  | _::_::_::_::_,c,_,_=>exact c.2.2.2.elim
 ·rintro⟨⟨q,o⟩,f,e⟩
  have r:JM (DG (Dq s a p)) w [0,0,0] [q,Dc (fA a) 0 w,Dc (fA p) 0 w]:=⟨o,FJ.2 rfl,FJ.2 rfl,trivial⟩
  have v:=λx=>GV (w:=w) (x:=x) m i d;have g:Fits (AG (Dq s a p)) [q,Dc (fA a) 0 w,Dc (fA p) 0 w]:=LY m i d r;refine⟨_,(v _).2 ⟨_,r,g,rfl⟩,?_⟩;rw[hg g];unfold C5 at f e;rw[f,e];rfl
theorem Iw{w:List Int}:∀ {cs ds:List MC} {st st2 x:List Int},cs.length=st.length->(JM (cs++ds) w (st++st2) x↔∃y z,x=y++z/\JM cs w st y/\JM ds w st2 z)
 | [],ds,[],st2,x,_=>by
  constructor
  ·intro h;exact⟨[],x,rfl,trivial,h⟩
  ·rintro⟨y,z,rfl,b,d⟩
   cases y with
   | nil=>exact d
   | cons a y=>exact b.elim
 | [],_,_::_,_,_,h=>by simp at h
 | _::_,_,[],_,_,h=>by simp at h
 | c :: cs,ds,q::st,st2,x,h=>by
  have f:=λx=>Iw (w:=w) (cs:=cs) (ds:=ds) (st:=st) (st2:=st2) (x:=x) (by simpa using h);constructor
  ·intro e
   cases x with
   | nil=>exact e.elim
   | cons r x=>
    obtain⟨y,z,b,d,g⟩:=(f x).1 e.2;exact⟨r::y,z,by rw[b];rfl,⟨e.1,d⟩,g⟩
  ·rintro⟨y,z,rfl,b,d⟩
   cases y with
   | nil=>exact b.elim
   | cons r y=>exact⟨b.1,(f _).2 ⟨y,z,rfl,b.2,d⟩⟩
theorem OW{w:List Int}:∀ {l:List Sys},(∃y,JM (l.map I8) w (List.replicate l.length 0) y)↔∀s∈l,Cp s w
 | []=>Iff.intro (λ_ s hs=>absurd hs oI) (λ_=>⟨[],trivial⟩)
 | s :: l=>by
  have a:=OW (w:=w) (l:=l);constructor
  ·rintro⟨y,h⟩ t ht
   cases y with
   | nil=>exact h.elim
   | cons r y=>
    rcases lJ.1 ht with rfl|ht
    ·exact⟨r,h.1⟩
    ·exact a.1 ⟨y,h.2⟩ t ht
  ·intro h
   obtain⟨r,c⟩:=h s (by simp);obtain⟨y,b⟩:=a.2 λt ht=>h t (by simp[ht]);exact⟨r::y,c,b⟩
theorem OV{w:List Int}:∀ {cs:List MC} {st st':List Int},JM cs w st st'->st'.length=cs.length
 | [],[],[],_=>rfl
 | [],[],_::_,h=>h.elim
 | [],_::_,[],h=>h.elim
 | [],_::_,_::_,h=>h.elim
 | _::_,[],[],h=>h.elim
 | _::_,[],_::_,h=>h.elim
 | _::_,_::_,[],h=>h.elim
 | c::cs,q::st,r::st',h=>by simp[OV h.2]
theorem Y7{l:List Sys}{p:A5}(h:(AY l && AJ p)=true){w:List Int}(F:over (Jc (CC l p)) w):NL (Jc (CC l p)) w↔(∀s∈l,Cp s w)/\C5 p w=false:=by
 obtain⟨v,hk,n⟩:=QP h
 have f:∀m∈w,0<=m/\m<6:=λm G=>by have:=Ai (F m G);omega
 have hg:∀ {y:List Int} {r:Int},y.length=l.length->Fits (AG (CC l p)) (y++[r])->(Jc (CC l p)).goal (EG (AG (CC l p)) (y++[r]) 0) = !TH p r:=λ{y r} k n=>by
  unfold Jc;dsimp only;rw[MU n]
  show (!bF (CC l p) (y++[r]) 0)=_
  unfold bF TH
  have e:(y++[r]).getD ((CC l p).ps.length+0) 0=r:=cg (by
   show (y++[r])[l.length+0]?=some r
   rw[nO,<-k];simp)
  rw[e];rfl
 have g:(CC l p).st=List.replicate l.length 0++[0]:=by
  show List.replicate (l.length+1) 0=_
  rw[List.replicate_succ']
 have j:DG (CC l p)=l.map I8++[jQ p]:=rfl
 have b:(l.map I8).length=(List.replicate l.length (0:Int)).length:=by simp
 have u:=λx=>GV (w:=w) (x:=x) v n f;unfold NL;constructor
 ·rintro⟨x,B,a⟩
  obtain⟨st',o,d,rfl⟩:=(u x).1 B;rw[g,j]at o;obtain⟨y,z,rfl,A,c⟩:=(Iw b).1 o
  have q:y.length=l.length:=by rw[OV A];simp
  match z,c,d,a with
  | [r],c,d,a=>
   rw[hg q d]at a;have H:=FJ.1 c.1;subst H;exact⟨OW.1 ⟨y,A⟩,by unfold C5;revert a;cases TH p (Dc (fA p) 0 w)<;>simp⟩
  | [],c,_,_=>exact c.elim
  | _::_::_,c,_,_=>exact c.2.elim
 ·rintro⟨o,d⟩
  obtain⟨y,k⟩:=OW.2 o
  have t:JM (DG (CC l p)) w (CC l p).st (y++[Dc (fA p) 0 w]):=by
   rw[g,j];exact(Iw b).2 ⟨y,_,rfl,k,FJ.2 rfl,trivial⟩
  have i:=LY v n f t;refine⟨_,(u _).2 ⟨_,t,i,rfl⟩,?_⟩;rw[hg (by rw[OV k];simp) i];unfold C5 at d;rw[d];rfl
theorem Sh{f:Nat->Bool}{n k:Nat}(h:PA f n=true)(a:0<k)(hk:k<n):f k=true:=by
 unfold PA at h;have:=(ge.1 h) k (lS.2 hk);simp at this
 rcases this with h|h
 ·omega
 ·exact h
theorem Si{f:Nat->Bool}{n:Nat}(h:∀k,0<k->k<n->f k=true):PA f n=true:=by
 unfold PA;refine ge.2 λk hk=>?_;have hk:=lS.1 hk
 rcases mn k with a|a
 ·subst a;rfl
 ·simp[h k a hk]
structure dY (al:Int) (t:A9):Prop where
 pos:0<=al
 r1:1<=t.rows.length
 rl:t.rows.length<=12
 c1:1<=t.cols.length
 cl:t.cols.length<=20
 r0:t.rows[0]?=some []
 c0:t.cols[0]?=some []
 rw:∀w∈t.rows,w.length<=50000/\AO (Bg al) w
 cw:∀w∈t.cols,w.length<=4000/\AO (Bg al) w
 pre:∀(i:Nat) w,t.rows[i]?=some w->0<i->w≠[]/\∃j,j<i/\t.rows[j]?=some w.dropLast
 ndC:t.cols.Nodup
theorem Mo{α:Type}{l:List α}{k:Nat}{x:α}(h:x∈l.take k):∃j,j<k/\l[j]?=some x:=by
 obtain⟨j,a,b⟩:=lO h
 have c:j<k:=by simp at a;omega
 refine⟨j,c,?_⟩;rw[<-b,List.getElem_take,d5]
theorem Mc{α:Type}{l:List α}{j k:Nat}{x:α}(h:l[j]?=some x)(a:j<k):x∈l.take k:=by
 have:(l.take k)[j]?=some x:=by rw[lW,if_pos a];exact h
 exact co this
theorem UR{w:W}{al:Int}(h:within w al=true):w.length<=50000:=by
 unfold within at h;simp only[d4,decide_eq_true_eq]at h;exact h.1
theorem Td{al:Int}{t:A9}(h:LP al t=true):dY al t:=by
 unfold LP UC at h;simp only[d4,decide_eq_true_eq]at h;obtain⟨⟨v,q,p,o,n⟩,u,s⟩:=h
 have d:∀(i:Nat) w,t.rows[i]?=some w->0<i->w≠[]/\within w al=true/\w.dropLast∈t.rows.take i:=λi w hi b=>by
  have:=Sh u b (am.1 hi).1;unfold rowAt at this;rw[hi]at this;simp only[d4,decide_eq_true_eq,nc,decide_eq_false_iff_not]at this;exact⟨λe=>this.1 (by rw[e];rfl),this.2.1,this.2.2⟩
 have f:∀(i:Nat) w,t.cols[i]?=some w->0<i->w.length<=4000/\within w al=true/\w∉t.cols.take i:=λi w hi b=>by
  have:=Sh s b (am.1 hi).1;unfold YS at this;rw[hi]at this;simp only[d4,decide_eq_true_eq,nc,decide_eq_false_iff_not]at this;exact this
 refine⟨v,q.1,q.2,p.1,p.2,o,n,λw k=>?_,λw k=>?_,λi w hi b=>?_,?_⟩
 ·obtain⟨i,hi,g⟩:=lO k
  have a:t.rows[i]?=some w:=by rw[d5 hi,g]
  rcases mn i with b|b
  ·subst b
   rw[o]at a;injection a with a;subst a
   exact⟨by simp,λc m=>by cases m⟩
  ·have:=d i w a b
   exact⟨UR this.2.1,HC this.2.1⟩
 ·obtain⟨i,hi,g⟩:=lO k
  have a:t.cols[i]?=some w:=by rw[d5 hi,g]
  rcases mn i with b|b
  ·subst b
   rw[n]at a;injection a with a;subst a
   exact⟨by simp,λc m=>by cases m⟩
  ·have:=f i w a b
   exact⟨this.1,HC this.2.1⟩
 ·have:=d i w hi b
  exact⟨this.1,Mo this.2.2⟩
 ·unfold List.Nodup
  rw[lN];intro i j hi r l g;have:=f j t.cols[j] (d5 r) (by omega);exact this.2.2 (Mc (by rw[d5 hi,g]) l)
theorem XP{al:Int}{t:A9}(ha:Bn al=true)(q:0<=al)(l:1<=t.rows.length/\t.rows.length<=12)(n:1<=t.cols.length/\t.cols.length<=20)(h:t.rows[0]?=some [])(r:t.cols[0]?=some [])
 (rw':∀w∈t.rows,w.length<=50000/\AO (Bg al) w) (cw:∀w∈t.cols,w.length<=4000/\AO (Bg al) w) (pre:∀(i:Nat) w,t.rows[i]?=some w->0<i->w≠[]/\∃j,j<i/\t.rows[j]?=some w.dropLast) (ndC:t.cols.Nodup):LP al t=true:=by
 unfold LP UC;simp only[d4,decide_eq_true_eq];refine⟨⟨q,l,n,h,r⟩,Si λk hk a=>?_,Si λk hk a=>?_⟩
 ·have c:=d5 a
  obtain⟨p,j,f,o⟩:=pre k _ c hk;have b:=rw' _ (l7 a);unfold rowAt;rw[c];simp only[d4,decide_eq_true_eq,nc,decide_eq_false_iff_not];exact⟨λe=>p (lL.1 e),FP b.2 b.1 ha,Mc o f⟩
 ·have c:=d5 a
  have b:=cw _ (l7 a);unfold YS;rw[c];simp only[d4,decide_eq_true_eq,nc,decide_eq_false_iff_not];refine⟨b.1,FP b.2 (by omega) ha,λm=>?_⟩;obtain⟨j,f,g⟩:=Mo m;obtain⟨d,g⟩:=am.1 g;exact(lN.1 ndC) j k d a f g
theorem KO{A:W->Bool}{al:Int}{t:A9}(h:BK A al t=true):dY al t/\(AW A t).Nodup:=by
 unfold BK at h;rw[d4,decide_eq_true_eq]at h;exact⟨Td h.1,h.2⟩
theorem HB{A:W->Bool}{al:Int}{t:A9}(h:BK A al t=true):TOk A (Bg al) t:=by
 obtain⟨a,c⟩:=KO h;exact⟨a.r0,a.c0,a.pre,λw b=>(a.rw w b).2,λw b=>(a.cw w b).2,c,a.ndC⟩
theorem LX{A:W->Bool}{al:Int}{t:A9}(ha:Bn al=true)(i:0<=al)(h:TOk A (Bg al) t)(d:t.rows.length<=12)(e:t.cols.length<=20)(b:∀w∈t.rows,w.length<=50000)(c:∀w∈t.cols,w.length<=4000):BK A al t=true:=by
 unfold BK;rw[d4,decide_eq_true_eq];have g:=(am.1 h.r0).1;have f:=(am.1 h.c0).1;exact⟨XP ha i ⟨g,d⟩ ⟨f,e⟩ h.r0 h.c0 (λw a=>⟨b w a,h.onR w a⟩) (λw a=>⟨c w a,h.onC w a⟩) h.pre h.ndC,h.nd⟩
theorem Xb{A:W->Bool}{al:Int}{t:A9}(h:Dv A al t=true):BK A al t=true/\Bx A (Bg al) t=none/\BZ A (Bg al) t:=by
 unfold Dv at h;rw[d4]at h
 have a:Bx A (Bg al) t=none:=by simpa using h.2
 exact⟨h.1,a,⟨HB h.1,Hr a⟩⟩
def RK(A L:W->Bool)(al:Int):Prop:=∀w,AO (Bg al) w->w.length<=50000->A w=L w
theorem Uq{ls:List UInt8}{u w:W}(b:AO ls u)(a:AO ls w):AO ls (u++w):=λc d=>by
 rcases f6.1 d with h|h
 ·exact b c h
 ·exact a c h
theorem PJ{A L:W->Bool}{al:Int}(h:RK A L al){cols:List W}{w:W}(c:AO (Bg al) w)(b:∀x∈cols,AO (Bg al) x/\w.length+x.length<=50000):marks A cols w=marks L cols w:=by
 rw[marks,marks,nu];intro x a;rw[h _ (Uq c (b x a).1) (by simp;exact(b x a).2)]
theorem GY{A L:W->Bool}{al:Int}{b:Nat}{t:A9}(h:RK A L al)(ht:Gb al b t)(hb:b<=20100):AW A t=AW L t:=by
 rw[AW,AW,nu];intro r c;have:=ht.onR r c
 exact PJ h this.1 λx a=>⟨(ht.onC x a).1,by have:=(ht.onC x a).2;omega⟩
theorem N7{A L:W->Bool}{al:Int}{b:Nat}{t:A9}(h:RK A L al)(ht:Gb al b t)(hb:b<=20100){r:W}{l:UInt8}(e:r∈t.rows)(f:l∈Bg al):marks A t.cols (r++[l])=marks L t.cols (r++[l]):=by
 have:=ht.onR r e
 refine PJ h (Uq this.1 (λc d=>by simp at d;subst d;exact f)) λx a=>⟨(ht.onC x a).1,by have:=(ht.onC x a).2;simp;omega⟩
theorem Sf{α:Type}{p q:α->Bool}:∀ {l:List α},(∀x∈l,p x=q x)->l.find? p=l.find? q
 | [],_=>rfl
 | x::l,h=>by
  rw[List.find?_cons,List.find?_cons,h x (by simp),Sf (l:=l) λy a=>h y (by simp[a])]
theorem PT{A L:W->Bool}{al:Int}{b:Nat}{t:A9}(h:RK A L al)(ht:Gb al b t)(hb:b<=20100):Bx A (Bg al) t=Bx L (Bg al) t:=by
 unfold Bx;refine Sf λw a=>?_;unfold C4 at a;simp only[mL,d8]at a;obtain⟨r,c,l,d,rfl⟩:=a;rw[GY h ht hb,N7 h ht hb c d]
theorem Jo{A L:W->Bool}{al:Int}(h:RK A L al):∀(n:Nat) {b:Nat} {t:A9},Gb al b t->b+n<=20100->BJ A (Bg al) n t=BJ L (Bg al) n t
 | 0,_,_,_,_=>rfl
 | n + 1,b,t,ht,hb=>by
  unfold BJ;rw[PT h ht (by omega)]
  cases d:Bx L (Bg al) t with
  | none=>rfl
  | some w=>
   dsimp only;by_cases a:t.rows.length=12
   ·rw[if_pos a,if_pos a]
   ·rw[if_neg a,if_neg a]
    have c:=ht.rl;exact Jo h n (ht.push d (by omega)) (by omega)
theorem So{A L:W->Bool}{al:Int}{b:Nat}{t:A9}(h:RK A L al)(ht:Gb al b t)(hb:b<=20100){r:W}{l:UInt8}(a:r∈t.rows)(c:l∈Bg al):DN A t (r++[l])=DN L t (r++[l]):=by
 unfold DN;rw[GY h ht hb,N7 h ht hb a c]
theorem RU{A L:W->Bool}{al:Int}{b:Nat}{t:A9}(h:RK A L al)(ht:Gb al b t)(hb:b<=20100):Bm A al t=Bm L al t:=by
 unfold Bm;congr 1
 ·refine nu.2 λr a=>nu.2 λl c=>?_
  rw[So h ht hb a (QK c)]
 ·refine nu.2 λr a=>?_
  have:=ht.onR r a;rw[h r this.1 (by omega)]
theorem TOk.jL{A L:W->Bool}{al:Int}{b:Nat}{t:A9}(h:RK A L al)(ht:Gb al b t)(hb:b<=20100)(hk:TOk L (Bg al) t):TOk A (Bg al) t:=⟨hk.r0,hk.c0,hk.pre,hk.onR,hk.onC,by rw[GY h ht hb];exact hk.nd,hk.ndC⟩
theorem BZ.jL{A L:W->Bool}{al:Int}{b:Nat}{t:A9}(h:RK A L al)(ht:Gb al b t)(hb:b<=20100)(hk:BZ L (Bg al) t):BZ A (Bg al) t:=⟨hk.toTOk.jL h ht hb,λr a l c=>by
 rw[N7 h ht hb a c,GY h ht hb];exact hk.cl r a l c⟩
theorem aI{A:W->Bool}{al:Int}{t:A9}(h:BZ A (Bg al) t){q:Nat}(a:q<t.rows.length):t.rows.getD q []∈t.rows:=by
 rw[List.getD,d5 a];exact l7 a
theorem Mx{A L:W->Bool}{al:Int}{l:Nat}{t:A9}(h:RK A L al)(ht:Gb al l t)(hb:l<=20100)(hk:BZ L (Bg al) t)(b:Bool):∀(w:W) (q:Nat),q<t.rows.length->AO (Bg al) w->w.length<=20000->splitAt A t b q w=splitAt L t b q w
 | [],_,_,_,_=>rfl
 | c :: w,q,f,g,o=>by
  have n:=aI hk f;have j:=g c (by simp);have p:=So h ht hb n j;obtain⟨r',k,_⟩:=hk.idx (i:=q) (d5 f) j
  have hg:t.rows.getD q []=t.rows[q]:=by rw[List.getD,d5 f];rfl
  rw[<-hg]at k;have e:=(am.1 k).1;have d:=aI hk e;have a:AO (Bg al) w:=λx m=>g x (by simp[m]);simp at o
  have r:A (t.rows.getD (DN L t (t.rows.getD q []++[c])) []++w)=L (t.rows.getD (DN L t (t.rows.getD q []++[c])) []++w):=
   h _ (Uq (ht.onR _ d).1 a) (by have:=(ht.onR _ d).2;simp only[mF];omega)
  unfold splitAt;rw[p,r];split
  ·rfl
  ·exact Mx h ht hb hk b w _ e a (by omega)
section
variable {a b:A5}(ha:AJ a=true)(hb:AJ b=true)(hal:a.al=b.al)(hL:∀w,AO (Bg a.al) w->LA a w=LA b w)
include ha hb hal hL
end
end Go.Am
namespace Go.Am
open Go Go.Proofs
set_option maxHeartbeats 1000000
set_option maxRecDepth 4000
attribute [local irreducible] A1 Cr Lex Bs Aj Spec
variable {TB:BA}
theorem eY{al:Int}{w:W}(h:Ju al w=true):AO (Bg al) w/\w.length<=4000/\within w al=true:=by
 unfold Ju at h;rw[d4,decide_eq_true_eq]at h;exact⟨HC h.1,h.2,h.1⟩
theorem Xa(l:List Int)(h:l.length<=1048576):Spec Tryz.prog TB 84 [] 0 [AX l] (λx σ nx=>x=.o (.arr 0 1 0 l.length)/\nx=1/\σ=[(0,.cells 3 1 (l.map A8))]):=by
 refine eN Tryz.func84 rfl (by kernel_rfl) rfl ?_;intro Γ a;(repeat first|refine aU rfl ?_);(refine Ag rfl ?_;refine CO (λ_ _=>Ew rfl) rfl ?_);(repeat first|refine tM rfl ?_|refine aU rfl ?_|apply Aa);(refine pW rfl ?_ rfl (by rfl);refine Kq rfl ?_;intro d b);(repeat first|apply Aa);(refine aC rfl ?_ ?_<;>rintro⟨⟩)
 ·obtain rfl:l=[]:=by simpa using b rfl
  (repeat first|refine aU rfl ?_);(refine pW rfl ?_ rfl (by rfl);refine Gl 1 3 ?_);(repeat first|apply Aa);refine aR ⟨_,rfl,rfl,rfl,rfl⟩
 ·apply aK
  (repeat first|refine aU rfl ?_);(refine pW rfl ?_ rfl (by rfl);refine Br rfl rfl rfl rfl (by simp) (by rfl) (by rfl) (by rfl) (by rfl) ?_);(repeat first|refine tM rfl ?_);(refine pW rfl ?_ rfl (by rfl);refine Al rfl rfl rfl (by first|(simp;done)|(simp;(omega))) rfl (by intro r c;simp only[mu,d8]at c;obtain⟨_,_,rfl⟩:=c;rfl) (by rfl) (ce rfl) (by simp;omega) ?_);(repeat first|refine tM rfl ?_|apply Aa);refine Aj.names [1] [(2,.o (.arr 0 1 0 l.length))] [(0,.cells 3 1 (l.map A8))] (by intro i hi;rw[a]at hi;omega) (by simp) (by simp[cX,zC,a]) (by simp[cX,zC,a]) ?_;refine aR ⟨_,rfl,rfl,rfl,rfl⟩
theorem WZ(l:List Bool)(h:l.length<=1048576):Spec Tryz.prog TB 83 [] 0 [Ny l] (λx σ nx=>x=.o (.arr 0 1 0 l.length)/\nx=1/\σ=[(0,.cells 4 1 (l.map AN))]):=by
 refine eN Tryz.func83 rfl (by kernel_rfl) rfl ?_;intro Γ a;(repeat first|refine aU rfl ?_);(refine Ag rfl ?_;refine CO (λ_ _=>Ew rfl) rfl ?_);(repeat first|refine tM rfl ?_|refine aU rfl ?_|apply Aa);(refine pW rfl ?_ rfl (by rfl);refine Kq rfl ?_;intro d b);(repeat first|apply Aa);(refine aC rfl ?_ ?_<;>rintro⟨⟩)
 ·obtain rfl:l=[]:=by simpa using b rfl
  (repeat first|refine aU rfl ?_);(refine pW rfl ?_ rfl (by rfl);refine Gl 1 4 ?_);(repeat first|apply Aa);refine aR ⟨_,rfl,rfl,rfl,rfl⟩
 ·apply aK
  (repeat first|refine aU rfl ?_);(refine pW rfl ?_ rfl (by rfl);refine Br rfl rfl rfl rfl (by simp) (by rfl) (by rfl) (by rfl) (by rfl) ?_);(repeat first|refine tM rfl ?_);(refine pW rfl ?_ rfl (by rfl);refine Al rfl rfl rfl (by first|(simp;done)|(simp;(omega))) rfl (by intro r c;simp only[mu,d8]at c;obtain⟨_,_,rfl⟩:=c;rfl) (by rfl) (ce rfl) (by simp;omega) ?_);(repeat first|refine tM rfl ?_|apply Aa);refine Aj.names [1] [(2,.o (.arr 0 1 0 l.length))] [(0,.cells 4 1 (l.map AN))] (by intro i hi;rw[a]at hi;omega) (by simp) (by simp[cX,zC,a]) (by simp[cX,zC,a]) ?_;refine aR ⟨_,rfl,rfl,rfl,rfl⟩
theorem Lg(a:A5)(ha:KX 1000000 a):AH Tryz.prog TB 33 0 [] 0 [Bp a] (JH a):=by
 have y:=ha.nx;have x:=ha.ac;have t:=WZ (TB:=TB) a.ac (by omega);refine AH.A3 (AH.Pg (m:=0) (ce rfl) Tryz.func33 rfl (by kernel_rfl) (ce rfl) ?_);intro Γ b;(repeat first|refine tA rfl ?_|refine aU rfl ?_|apply Aa);refine R.Om [(6,3),(0,2),(1,2),(2,2),(3,2),(4,1),(5,1),(7,5)] mixed (by kernel_rfl) rfl (by kernel_rfl) ?_;(repeat ((refine R.Ag rfl ?_;first|(refine R.yQ (md:=false) rfl rfl rfl ?_ ?_;exact tI)|refine R.yP rfl rfl rfl rfl ?_ )));(refine R.Ag rfl ?_;refine R.Kw (λ_=>?_) rfl rfl;refine Af [] rfl rfl t ⟨rfl,by simp,by simp⟩ rfl trivial ?_;rintro u f h ⟨rfl,rfl,rfl⟩ _);(refine R.Ag rfl ?_;refine R.Kw (λ_=>?_) rfl rfl;refine GR 1 1 63 rfl rfl rfl (by rfl) (by rfl) ?_);(repeat ((refine R.Ag rfl ?_;first|refine R.yA rfl rfl rfl rfl ?_ )));refine R.NZ ?_;apply aS;(repeat first|refine sN rfl ?_|refine tA rfl ?_|refine aU rfl ?_|apply Aa);apply aB;refine Aj.aV 3 ?_;refine aL (α:={s:Nat×HG // s.1<=a.nx.length/\s.2.map (·.2)=a.nx.take s.1}) [2,3,13,14] [] rfl rfl (λs=>[(15,eI .i64 s.1.1)]) (λs=>[(0,.cells 29 3 [[.d (iD 0),.d (.l []),.d (.l [])]]),(1,.cells 4 1 (a.ac.map AN)),(2,.cells 63 1 (AB s.1.2)),(3,.cells 29 3 [[.d (iD a.al),.arr 2 1 0 s.1.2.length,.arr 1 1 0 a.ac.length]]),(4,.sld 3 (sI s.1.2))]) 5 (λs=>a.nx.length-s.1.1) (⟨⟨0,[]⟩,by simp⟩) b rfl (by (simp[cX,zC,b,cN,Bt,Ae,eC]<;>rfl)) ?_;rintro⟨⟨k,l⟩,hk,e⟩;(try dsimp only[cA,cB]);have hk:k<=a.nx.length:=hk;have e:l.map (·.2)=a.nx.take k:=e
 have c:l.length=k:=by have:=congrArg List.length e;simp at this;omega
 (repeat first|refine s2 rfl λ_ z=>?_|refine aU rfl ?_|apply Aa)
 ((refine aC rfl ?_ ?_<;>rintro⟨⟩);all_goals try(exfalso;omega))
 ·have o:k<a.nx.length:=by (simp only[oZ] at *;omega)
  obtain⟨r,j⟩:=get_some (l:=a.nx) (k:=k) o;have w:=get_map (g:=Ib) j;have n:=ha.row r (co j);have q:=Xa (TB:=TB) r (by omega);apply aK;refine aS (aB ?_);(repeat first|refine tA rfl ?_|(refine s4 rfl ‹_› rfl ?_ ?_;omega)|refine aU rfl ?_|apply Aa);refine rG (JG [(1,13),(3,1008),(4,1008),(5,1),(7,1)]) (by kernel_rfl) ?_;(repeat first|refine tX rfl ?_);(refine Ag rfl ?_;refine Cw ?_ rfl ⟨rfl,rfl⟩;refine Af [] rfl rfl (q) ⟨rfl,by decide,by decide⟩ rfl (by simp[cX,zC,b,cN]) ?_;rintro u f h ⟨rfl,rfl,rfl⟩ _;refine⟨DO 3 rfl rfl,?_⟩);(refine Ag rfl ?_;refine Cw ?_ rfl ⟨rfl,rfl⟩;refine Br rfl rfl rfl rfl (by simp[eC,E.A3,C.A3]) (by rfl) (by rfl) (by rfl) (by rfl) ?_;refine⟨DO 3 rfl rfl,?_⟩);(refine pW rfl ?_ rfl (by rfl);refine Al rfl rfl rfl (Cu _) rfl (by intro r n;simp at n;subst n;rfl) (by rfl) (ce rfl) (by simp;omega) ?_);(repeat first|refine tA rfl ?_);apply Aa;refine Aj.Aw [2,3,13,14,15] [] rfl rfl [] [(0,.cells 29 3 [[.d (iD 0),.d (.l []),.d (.l [])]]),(1,.cells 4 1 (a.ac.map AN)),(2,.cells 63 1 (AB l++[[.arr 5 1 0 r.length]])),(3,.cells 29 3 [[.d (iD a.al),.arr 2 1 0 (l.length+1),.arr 1 1 0 a.ac.length]]),(4,.sld 3 (sI l)),(5,.cells 3 1 (r.map A8))] [0,1,7,3,4,5] (rl b rfl) (by (simp[cX,zC,b,cN,Bt,Ae,eC])) ?_;(try dsimp only[cA,cB]);refine Aj.Rm 2 5 4 l r rfl rfl rfl λv=>?_;(repeat first|(refine sA rfl ?_ ?_;first|exact tI|omega)|refine aU rfl ?_|apply Aa);refine⟨⟨⟨k+1,l++[(v,r)]⟩,by dsimp only;omega,by dsimp only;rw[mE,e,gt,j];rfl⟩,by dsimp only;(omega),[0,1,2,3,4],?_⟩;(simp[cX,zC,b,cN]<;>rfl)
 have p:k=a.nx.length:=by (simp only[oZ] at *;omega)
 apply aE;(repeat first|refine tA rfl ?_|refine aU rfl ?_|apply Aa)
 have c:l.map (·.2)=a.nx:=by rw[e,p,jp]
 refine aR ⟨_,rfl,[2,1,4],TW a.al 0 1 l.length a.ac.length,[(0,.cells 63 1 (AB l)),(1,.cells 4 1 (a.ac.map AN)),(2,.sld 3 (sI l))],⟨by intro i hi;omega,by decide⟩,rfl,by (simp[cX,zC,b,cN]),l,c,rfl,rfl,rfl⟩
theorem YJ{a:A5}(ha:AJ a=true):KX 1000000 a:=by
 have f:=AS ha;refine⟨by omega,by omega,λr c=>?_⟩;obtain⟨i,hi,e⟩:=lO c;obtain⟨row,b,h,g⟩:=Iy ha hi;rw[d5 hi,e]at b
 injection b with b
 subst b;have d:(Ac a.al).length<=6:=AQ a.al 6;omega
structure kF (te:HS):Prop where
 pn:te.p.nx.length<=1048576
 pa:te.p.ac.length<=1048576
 pr:∀r∈te.p.nx,r.length<=1048576
 es:te.s.es.length<=1048576
 qn:te.q.nx.length<=1048576
 qa:te.q.ac.length<=1048576
 qr:∀r∈te.q.nx,r.length<=1048576
end Go.Am
namespace Go.Am
open Go
theorem YA{p:A5}(a:AJ p=true):RK (eb p) (LA p) p.al:=λw b c=>by
 unfold eb;rw[a,FP b c (AS a).1];rfl
theorem YB{A L:W->Bool}{al:Int}{b:Nat}{t:A9}(h:RK A L al)(ht:Gb al b t)(hb:b<=20100)(hk:BZ L (Bg al) t){w:W}(a:AO (Bg al) w):O3 A t w=O3 L t w:=by
 rw[<-UX (hk.jL h ht hb) a,<-UX hk a,RU h ht hb]
theorem UH{A L:W->Bool}{al:Int}{b:Nat}{t:A9}(h:RK A L al)(ht:Gb al b t)(hb:b<=20100)(hk:BZ L (Bg al) t){w:W}(a:AO (Bg al) w)(c:w.length<=20000):Dd A t w=Dd L t w:=by
 have d:0<t.rows.length:=(am.1 hk.r0).1;unfold Dd;rw[YB h ht hb hk a,h w a (by omega),Mx h ht hb hk (L w) w 0 d a c]
section
variable {α:Type}{f:Nat->α}{l:List α}{i:Nat}
end
end Go.Am
namespace Go.Am
open Go Go.Proofs
set_option maxHeartbeats 1000000
set_option maxRecDepth 4000
attribute [local irreducible] A1 Cr Lex Bs Aj Spec
section
variable {P:Program}{TB:BA}{Γ:Ctx}{d:Option Tmp}{ty:TypeId}{pos:String}{af:Array Edge}{g:Option (Nat×Bool)}{f:Env}{σ:Ab}{nx:Nat}
end
variable {TB:BA}
theorem dY.short{al:Int}{t:A9}(h:dY al t):∀(i:Nat) w,t.rows[i]?=some w->w.length<=i:=by
 intro i
 induction i using Nat.strongRecOn with
 | ind i b=>
  intro w hi
  rcases mn i with rfl|e
  ·have:=h.r0.symm.trans hi
   injection this with this
   subst this;simp
  ·obtain⟨c,j,d,a⟩:=h.pre i w hi e
   have:=b j d _ a;rw[List.length_dropLast]at this;omega
theorem dY.bd{al:Int}{t:A9}(h:dY al t):Gb al 20000 t:=by
 refine⟨λw b=>⟨(h.rw w b).2,?_⟩,λx a=>⟨(h.cw x a).2,by have:=(h.cw x a).1;omega⟩,h.rl,h.cl⟩;obtain⟨i,hi,c⟩:=lO b;have:=h.short i w (by rw[d5 hi,c]);have:=h.rl;omega
end Go.Am
namespace Go.Am
open Go Go.Proofs
set_option maxHeartbeats 1000000
set_option maxRecDepth 4000
attribute [local irreducible] A1 Cr Lex Bs Aj Spec
variable {TB:BA}
theorem O7(L:W->Bool)(al:Int)(t:A9):Dv L al t=(BK L al t && (Bx L (Bg al) t).isNone):=rfl
end Go.Am
