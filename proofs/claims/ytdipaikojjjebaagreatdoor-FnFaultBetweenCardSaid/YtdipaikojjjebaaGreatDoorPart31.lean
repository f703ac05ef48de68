/-
  What the searches through systems and automata side by side say, plainly.
-/
import Derived.Test.YtdipaikojjjebaaGreatDoorPart28
import Derived.Test.YtdipaikojjjebaaGreatDoorPart29
set_option linter.all false
namespace Go.Am
open Go
abbrev Ok:=Int->Int->List Int
def Kx(c:Ok):List Int->Int->Int->Prop
 | [],q,r=>r=q
 | l::w,q,r=>∃y,y∈c q l/\Kx c w y r
def Ls:List Ok->List Int->List Int->List Int->Prop
 | [],_,[],[]=>True
 | c::cs,w,q::st,r::st'=>Kx c w q r/\Ls cs w st st'
 | _,_,_,_=>False
def Uq:List Ok->Int->List Int->List Int->Prop
 | [],_,[],[]=>True
 | c::cs,l,q::st,r::st'=>r∈c q l/\Uq cs l st st'
 | _,_,_,_=>False
theorem Kv:∀ {cs:List Ok} {l:Int} {w st st':List Int},Ls cs (l::w) st st'↔∃st1,Uq cs l st st1/\Ls cs w st1 st'
 | [],l,w,[],[]=>⟨λ_=>⟨[],trivial,trivial⟩,λ_=>trivial⟩
 | [],l,w,[],_::_=>⟨λh=>h.elim,λ⟨st1,a,b⟩=>by cases st1<;>simp[Uq,Ls]at a b⟩
 | [],l,w,_::_,st'=>⟨λh=>by cases st'<;>exact h.elim,λ⟨st1,a,b⟩=>by cases st1<;>exact a.elim⟩
 | c::cs,l,w,[],st'=>⟨λh=>by cases st'<;>exact h.elim,λ⟨st1,a,b⟩=>by cases st1<;>exact a.elim⟩
 | c::cs,l,w,q::st,[]=>⟨λh=>h.elim,λ⟨st1,a,b⟩=>by cases st1<;>first|exact a.elim|exact b.elim⟩
 | c :: cs,l,w,q::st,r::st'=>by
  have d:=Kv (cs:=cs) (l:=l) (w:=w) (st:=st) (st':=st');constructor
  ·rintro⟨⟨y,e,a⟩,b⟩
   obtain⟨st1,g,f⟩:=d.1 b;exact⟨y::st1,⟨e,g⟩,a,f⟩
  ·rintro⟨st1,a,b⟩
   cases st1 with
   | nil=>exact a.elim
   | cons y st1=>exact⟨⟨y,a.1,b.1⟩,d.2 ⟨st1,a.2,b.2⟩⟩
def DV(n:Net):List Ok:=n.ps.map (λs q l=>BI s q l)++n.au.map (λa q l=>[Bg a q.toNat l])
def SB:List Int->List (List Int)->Prop
 | [],[]=>True
 | x::xs,c::cs=>x∈c/\SB xs cs
 | _,_=>False
theorem Zz:∀ {zs:List Int} {cs:List (List Int)} {out:List Int} {v:Int},cs.length=zs.length->(v∈Hh zs cs out↔∃o∈out,∃st1,SB st1 cs/\v=Du zs st1 o)
 | [],[],out,v,_=>by
  constructor
  ·intro h;exact⟨v,h,[],trivial,rfl⟩
  ·rintro⟨o,a,st1,h,rfl⟩
   cases st1 with
   | nil=>exact a
   | cons x st1=>exact h.elim
 | [],_::_,_,_,h=>by simp at h
 | _::_,[],_,_,h=>by simp at h
 | z :: zs,c::cs,out,v,h=>by
  have g:=Zz (zs:=zs) (cs:=cs) (out:=out.flatMap λo=>c.map λx=>o*z+x) (v:=v) (by simpa using h)
  show v∈Hh zs cs _↔_
  rw[g];constructor
  ·rintro⟨o,a,st1,b,e⟩
   obtain⟨f,d,j⟩:=s8.1 a;obtain⟨x,i,rfl⟩:=d9.1 j;exact⟨f,d,x::st1,⟨i,b⟩,e⟩
  ·rintro⟨o,a,st1,b,e⟩
   cases st1 with
   | nil=>exact b.elim
   | cons x st1=>exact⟨o*z+x,s8.2 ⟨o,a,d9.2 ⟨x,b.1,rfl⟩⟩,st1,b.2,e⟩
theorem Ir:∀ {cs:List Ok} {l:Int} {st st1:List Int},cs.length=st.length->(SB st1 (cs.zipWith (λc q=>c q l) st)↔Uq cs l st st1)
 | [],l,[],st1,_=>by
  cases st1 with
  | nil=>exact⟨λ_=>trivial,λ_=>trivial⟩
  | cons x st1=>exact⟨λh=>h.elim,λh=>h.elim⟩
 | [],_,_::_,_,h=>by simp at h
 | _::_,_,[],_,h=>by simp at h
 | c::cs,l,q::st,st1,h=>by
  have a:=λst1=>Ir (cs:=cs) (l:=l) (st:=st) (st1:=st1) (by simpa using h)
  cases st1 with
  | nil=>exact⟨λh=>h.elim,λh=>h.elim⟩
  | cons x st1=>exact⟨λh=>⟨h.1,(a st1).1 h.2⟩,λh=>⟨h.1,(a st1).2 h.2⟩⟩
theorem SU{n:Net}{st:List Int}(h:n.ps.length+n.au.length=st.length)(l:Int):KP n st l=(DV n).zipWith (λc q=>c q l) st:=by
 unfold KP DV;have e:st=st.take n.ps.length++st.drop n.ps.length:=(rZ _ _).symm
 conv=>rhs;rw[e]
 rw[List.zipWith_append (by simp;omega),List.zipWith_map_left,List.zipWith_map_left];congr 1;exact GB _ _ _
theorem Te:∀ {zs ss:List Int},Fits zs ss->∀n:Int,Du zs ss n=n*Ax zs+Du zs ss 0
 | _,_,.nil,n=>by simp[Du,Ax]
 | _,_,@Fits.cons z s zs ss c b a,n=>by
  show Du zs ss (n*z+s)=n*(z*Ax zs)+Du zs ss (0*z+s)
  rw[Te a (n*z+s),Te a (0*z+s),tg,tg,s5,vb,vb,ve,Int.add_assoc]
theorem OK:∀ {zs ss:List Int},Fits zs ss->∀m:Int,BF zs (Du zs ss m)=ss
 | _,_,.nil,m=>rfl
 | _,_,@Fits.cons z s zs ss d c a,m=>by
  show (Du zs ss (m*z+s) / Ax zs%z)::BF zs (Du zs ss (m*z+s))=s::ss
  rw[OK a];congr 1;have hp:=a.pos;have b:=a.enc 0 (by omega);rw[ve,uy]at b;rw[Te a,vf,Int.add_mul_ediv_right _ _ (by omega),Int.ediv_eq_zero_of_lt b.1 b.2,ve,vf,uO,Int.emod_eq_of_lt d c]
theorem Lu:∀ {zs:List Int} {cs:List (List Int)} {st:List Int},FM zs cs->SB st cs->Fits zs st
 | _,_,[],.nil,_=>.nil
 | _,_,_::_,.nil,h=>h.elim
 | _,_,[],.cons _ _ _,h=>h.elim
 | _,_,x::st,.cons a c b,h=>.cons (a x h.1).1 (a x h.1).2 (Lu b h.2)
theorem ME:∀ {cs:List Ok} {st st':List Int},cs.length=st.length->(Ls cs [] st st'↔st'=st)
 | [],[],[],_=>⟨λ_=>rfl,λ_=>trivial⟩
 | [],[],_::_,_=>⟨λh=>h.elim,λh=>by cases h⟩
 | [],_::_,_,h=>by simp at h
 | _::_,[],_,h=>by simp at h
 | c::cs,q::st,[],h=>⟨λh=>h.elim,λh=>by cases h⟩
 | c :: cs,q::st,r::st',h=>by
  have d:=ME (cs:=cs) (st:=st) (st':=st') (by simpa using h);constructor
  ·rintro⟨a,b⟩
   have a:r=q:=a;rw[d.1 b,a]
  ·intro h
   injection h with a b
   exact⟨a,d.2 b⟩
theorem Ig{n:Net}(q:DS n):∀ {w:List Int} {st:List Int} {x:Int},Fits (Ai n) st->(∀l∈w,0<=l/\l<6)->(reach (Ei n) w (Du (Ai n) st 0) x↔∃st',Ls (DV n) w st st'/\Fits (Ai n) st'/\x=Du (Ai n) st' 0)
 | [],st,x,e,_=>by
  have j:=e.len
  have f:(DV n).length=st.length:=by simp[DV,Ai]at j |-;omega
  constructor
  ·intro h
   exact⟨st,(ME f).2 rfl,e,h.symm⟩
  ·rintro⟨st',a,_,b⟩
   rw[(ME f).1 a]at b;exact b.symm
 | l :: w,st,x,e,k=>by
  have j:=e.len
  have f:(DV n).length=st.length:=by simp[DV,Ai]at j |-;omega
  have g:=k l (by simp);have d:=Iz q e g.1 g.2
  have c:n.ps.length+n.au.length=st.length:=by simp[Ai]at j;omega
  have v:(Ei n).succ (Du (Ai n) st 0) l=Hh (Ai n) (KP n st l) [0]:=by
   show Fp n (Ai n) (BF (Ai n) (Du (Ai n) st 0)) l=_
   rw[OK e];rfl
  have key:∀y,y∈(Ei n).succ (Du (Ai n) st 0) l↔∃st1,Uq (DV n) l st st1/\Fits (Ai n) st1/\y=Du (Ai n) st1 0:=λy=>by
   rw[v,Zz d.len.symm];constructor
   ·rintro⟨o,p,st1,a,b⟩
    have p:o=0:=by simpa using p
    subst p;exact⟨st1,(Ir f).1 (by rw[<-SU c];exact a),Lu d a,b⟩
   ·rintro⟨st1,a,_,b⟩
    exact⟨0,by simp,st1,by rw[SU c];exact(Ir f).2 a,b⟩
  constructor
  ·rintro⟨y,u,h⟩
   obtain⟨st1,a,b,rfl⟩:=(key y).1 u;obtain⟨st',t,s⟩:=(Ig q b λm r=>k m (by simp[r])).1 h;exact⟨st',Kv.2 ⟨st1,a,t⟩,s⟩
  ·rintro⟨st',t,s⟩
   obtain⟨st1,a,z⟩:=Kv.1 t;have i:Fits (Ai n) st1:=Lu d (by rw[SU c];exact(Ir f).2 a);exact⟨_,(key _).2 ⟨st1,a,i,rfl⟩,(Ig q i λm r=>k m (by simp[r])).2 ⟨st',z,s⟩⟩
theorem NJ{n:Net}(g:DS n):∀ {w:List Int} {st st':List Int},Fits (Ai n) st->(∀l∈w,0<=l/\l<6)->Ls (DV n) w st st'->Fits (Ai n) st'
 | [],st,st',b,_,h=>by
  have c:=b.len
  have e:(DV n).length=st.length:=by simp[DV,Ai]at c |-;omega
  rw[(ME e).1 h];exact b
 | l::w,st,st',b,f,h=>by
  have c:=b.len
  have e:(DV n).length=st.length:=by simp[DV,Ai]at c |-;omega
  have a:=f l (by simp)
  have d:n.ps.length+n.au.length=st.length:=by simp[Ai]at c;omega
  obtain⟨st1,k,j⟩:=Kv.1 h;exact NJ g (Lu (Iz g b a.1 a.2) (by rw[SU d];exact(Ir e).2 k)) (λm i=>f m (by simp[i])) j
theorem GQ{a:AK}:∀ {w:List Int} {q r:Int},Kx (λq l=>[Bg a q.toNat l]) w q r↔r=Cu (fA a) q w
 | [],q,r=>Iff.rfl
 | l::w,q,r=>by
  have b:=GQ (a:=a) (w:=w) (q:=fA a q l) (r:=r)
  show (∃y,y∈[Bg a q.toNat l]/\Kx _ w y r)↔_
  simp only[uk,exists_eq_left];exact b
abbrev NB(s:Sys):Ok:=λq l=>BI s q l
abbrev pA(a:AK):Ok:=λq l=>[Bg a q.toNat l]
def E4(s:Sys)(w:List Int):Prop:=∃q,Kx (NB s) w 0 q
def CQ(a:AK)(w:List Int):Bool:=EG a (Cu (fA a) 0 w)
theorem lJ{s:Sys}{a p:AK}(h:BT s a p=true){w:List Int}(v:over (Ei (DW s a p)) w):Rs (Ei (DW s a p)) w↔E4 s w/\CQ a w=true/\CQ p w=false:=by
 obtain⟨m,hk,i⟩:=OP h
 have d:∀l∈w,0<=l/\l<6:=λl z=>by have:=Af (v l z);omega
 have t:∀ {q k j:Int},Fits (Ai (DW s a p)) [q,k,j]->(Ei (DW s a p)).goal (Du (Ai (DW s a p)) [q,k,j] 0)=(EG a k && !EG p j):=λi=>by
  unfold Ei;dsimp only;rw[OK i];rfl
 unfold Rs;constructor
 ·rintro⟨x,u,b⟩
  obtain⟨st',c,n,rfl⟩:=(Ig m i d).1 u
  match st',c,n,b with
  | [q,k,j],c,n,b=>
   rw[t n]at b;obtain⟨o,f,e,_⟩:=c;have f:=GQ.1 f;have e:=GQ.1 e;subst f e;refine⟨⟨q,o⟩,?_,?_⟩
   ·unfold CQ;revert b;cases EG a (Cu (fA a) 0 w)<;>simp
   ·unfold CQ;revert b;cases EG p (Cu (fA p) 0 w)<;>simp
  | [],c,_,_=>exact c.elim
  | [_],c,_,_=>exact c.2.elim
  | [_,_],c,_,_=>exact c.2.2.elim
  | _::_::_::_::_,c,_,_=>exact c.2.2.2.elim
 ·rintro⟨⟨q,o⟩,f,e⟩
  have r:Ls (DV (DW s a p)) w [0,0,0] [q,Cu (fA a) 0 w,Cu (fA p) 0 w]:=⟨o,GQ.2 rfl,GQ.2 rfl,trivial⟩
  have y:=λx=>Ig (w:=w) (x:=x) m i d;have g:Fits (Ai (DW s a p)) [q,Cu (fA a) 0 w,Cu (fA p) 0 w]:=NJ m i d r;refine⟨_,(y _).2 ⟨_,r,g,rfl⟩,?_⟩;rw[t g];unfold CQ at f e;rw[f,e];rfl
theorem JS{w:List Int}:∀ {cs ds:List Ok} {st st2 x:List Int},cs.length=st.length->(Ls (cs++ds) w (st++st2) x↔∃y z,x=y++z/\Ls cs w st y/\Ls ds w st2 z)
 | [],ds,[],st2,x,_=>by
  constructor
  ·intro h;exact⟨[],x,rfl,trivial,h⟩
  ·rintro⟨y,z,rfl,b,d⟩
   cases y with
   | nil=>exact d
   | cons a y=>exact b.elim
 | [],_,_::_,_,_,h=>by simp at h
 | _::_,_,[],_,_,h=>by simp at h
 | c :: cs,ds,q::st,st2,x,h=>by
  have f:=λx=>JS (w:=w) (cs:=cs) (ds:=ds) (st:=st) (st2:=st2) (x:=x) (by simpa using h);constructor
  ·intro e
   cases x with
   | nil=>exact e.elim
   | cons r x=>
    obtain⟨y,z,b,d,g⟩:=(f x).1 e.2;exact⟨r::y,z,by rw[b];rfl,⟨e.1,d⟩,g⟩
  ·rintro⟨y,z,rfl,b,d⟩
   cases y with
   | nil=>exact b.elim
   | cons r y=>exact⟨b.1,(f _).2 ⟨y,z,rfl,b.2,d⟩⟩
theorem QI{w:List Int}:∀ {l:List Sys},(∃y,Ls (l.map NB) w (List.replicate l.length 0) y)↔∀s∈l,E4 s w
 | []=>Iff.intro (λ_ s c=>absurd c t9) (λ_=>⟨[],trivial⟩)
 | s :: l=>by
  have a:=QI (w:=w) (l:=l);constructor
  ·rintro⟨y,h⟩ t ht
   cases y with
   | nil=>exact h.elim
   | cons r y=>
    rcases lw.1 ht with rfl|ht
    ·exact⟨r,h.1⟩
    ·exact a.1 ⟨y,h.2⟩ t ht
  ·intro h
   obtain⟨r,d⟩:=h s (by simp);obtain⟨y,b⟩:=a.2 λt ht=>h t (by simp[ht]);exact⟨r::y,d,b⟩
theorem QH{w:List Int}:∀ {cs:List Ok} {st st':List Int},Ls cs w st st'->st'.length=cs.length
 | [],[],[],_=>rfl
 | [],[],_::_,h=>h.elim
 | [],_::_,[],h=>h.elim
 | [],_::_,_::_,h=>h.elim
 | _::_,[],[],h=>h.elim
 | _::_,[],_::_,h=>h.elim
 | _::_,_::_,[],h=>h.elim
 | c::cs,q::st,r::st',h=>by simp[QH h.2]
theorem lI{l:List Sys}{p:AK}(h:(AX l && AD p)=true){w:List Int}(G:over (Ei (CO l p)) w):Rs (Ei (CO l p)) w↔(∀s∈l,E4 s w)/\CQ p w=false:=by
 obtain⟨v,hk,n⟩:=OO h
 have f:∀m∈w,0<=m/\m<6:=λm H=>by have:=Af (G m H);omega
 have A:∀ {y:List Int} {r:Int},y.length=l.length->Fits (Ai (CO l p)) (y++[r])->(Ei (CO l p)).goal (Du (Ai (CO l p)) (y++[r]) 0) = !EG p r:=λ{y r} k n=>by
  unfold Ei;dsimp only;rw[OK n]
  show (!cu (CO l p) (y++[r]) 0)=_
  unfold cu EG
  have e:(y++[r]).getD ((CO l p).ps.length+0) 0=r:=Ej (by
   show (y++[r])[l.length+0]?=some r
   rw[tY,<-k];simp)
  rw[e];rfl
 have g:(CO l p).st=List.replicate l.length 0++[0]:=by
  show List.replicate (l.length+1) 0=_
  rw[List.replicate_succ']
 have j:DV (CO l p)=l.map NB++[pA p]:=rfl
 have b:(l.map NB).length=(List.replicate l.length (0:Int)).length:=by simp
 have u:=λx=>Ig (w:=w) (x:=x) v n f;unfold Rs;constructor
 ·rintro⟨x,F,a⟩
  obtain⟨st',o,d,rfl⟩:=(u x).1 F;rw[g,j]at o;obtain⟨y,z,rfl,B,c⟩:=(JS b).1 o
  have q:y.length=l.length:=by rw[QH B];simp
  match z,c,d,a with
  | [r],c,d,a=>
   rw[A q d]at a;have I:=GQ.1 c.1;subst I;exact⟨QI.1 ⟨y,B⟩,by unfold CQ;revert a;cases EG p (Cu (fA p) 0 w)<;>simp⟩
  | [],c,_,_=>exact c.elim
  | _::_::_,c,_,_=>exact c.2.elim
 ·rintro⟨o,d⟩
  obtain⟨y,k⟩:=QI.2 o
  have t:Ls (DV (CO l p)) w (CO l p).st (y++[Cu (fA p) 0 w]):=by
   rw[g,j];exact(JS b).2 ⟨y,_,rfl,k,GQ.2 rfl,trivial⟩
  have i:=NJ v n f t;refine⟨_,(u _).2 ⟨_,t,i,rfl⟩,?_⟩;rw[A (by rw[QH k];simp) i];unfold CQ at d;rw[d];rfl
end Go.Am
namespace Go.Am
open Go Go.Proofs
set_option maxHeartbeats 1000000
set_option maxRecDepth 4000
attribute [local irreducible] A5 Ck Lex Br Aj Spec
variable {TB:BJ}
theorem UB{A:W->Bool}{ls:List UInt8}{m:Nat}{u:Bl}{w:W}{R:Option Bl}(b:R=BZ A ls (m+1) u)(a:Bp A ls u=some w)(c:u.rows.length<12):R=BZ A ls m ⟨u.rows++[w],u.cols⟩:=by
 rw[b]
 conv=>lhs;unfold BZ
 rw[a];dsimp only;rw[if_neg (by omega)]
theorem Jl{t:FF}{al:Int}{A:W->Bool}(hT:KK Tryz.prog TB 140 186 t al A)(tab:Bl)(hz:WU tab) :
 Pure Tryz.prog TB 138 [EO t,KQ tab] (NP (if AZ A al tab then BZ A (BA al) 13 tab else none)):=by
 have N:=FK hT tab hz;by_cases v:AZ A al tab=true
 ·rw [if_pos v]
  rw[v]at N;have g:dD al tab:=(EY v).1;have H:=g.r1;have L:=g.c1;have T:=g.rl;have Z:=g.cl;refine eG Tryz.func138 rfl (by kernel_rfl) rfl ?_;intro U e;(repeat first|refine tA rfl ?_|refine s2 rfl λ_ i=>?_|refine sP rfl (N) rfl ?_|refine aU rfl ?_|apply Aa)
  ((refine aC rfl ?_ ?_<;>rintro⟨⟩);all_goals try (simp at i;done))
  apply aK;(repeat first|refine aU rfl ?_);refine R.RD [(0,2),(1,2),(2,2),(4,2),(5,2),(6,2),(9,3),(3,1),(7,1),(8,2),(10,5)] mixed (by kernel_rfl) rfl (by kernel_rfl) ?_;(repeat ((refine R.Al rfl ?_;first|(refine R.yQ (md:=false) rfl rfl rfl ?_ ?_;exact tI)|refine R.yP rfl rfl rfl rfl ?_|refine R.CX (λ_ _ _=>TQ (by rfl) (by rfl)) rfl rfl ?_ )));(refine R.Al rfl ?_;refine R.Mi (λ_=>?_) rfl rfl;refine EC rfl rfl rfl (by intro r k;simp at k;obtain⟨_,_,rfl⟩:=k;rfl) (by rfl) (ce rfl) (by simp;omega) (λh=>?_) (λ_=>?_))
  ·exfalso;simp at h;rw[h]at H;simp at H
  (refine R.Al rfl ?_;refine R.Mi (λ_=>?_) rfl rfl;refine EC rfl rfl rfl (by intro r k;simp at k;obtain⟨_,_,rfl⟩:=k;rfl) (by rfl) (ce rfl) (by simp;omega) (λh=>?_) (λ_=>?_))
  ·exfalso;simp at h;rw[h]at L;simp at L
  (repeat ((refine R.Al rfl ?_;first|refine R.yA rfl rfl rfl rfl ?_|refine R.CX (λ_ _ _=>AS rfl rfl (by rfl) (by rfl)) rfl rfl ?_ )));refine R.Rz ?_;apply aS;refine Aj.Ay [2] [] rfl rfl [(4,.o (.ptr 0 2 0 0)),(6,.o (.ptr 3 2 0 0))] [(0,.cells 109 2 [[.d (.l []),.d (.l [])]]),(1,.cells 9 1 (tab.rows.map KJ)),(2,.cells 9 1 (tab.cols.map KJ)),(3,.cells 109 2 [[.arr 1 1 0 tab.rows.length,.arr 2 1 0 tab.cols.length]])] [0,1,2,3] (rl e rfl) (by (simp[cX,zC,e])) ?_;(try dsimp only[cA,cB]);have s:=KX hT tab hz
  have G:∀l:List W,((l.map KJ).drop 0).take l.length=(l.map Dv).map (λr=>r.map C.d):=λl=>by rw[sv,kw (by simp)];simp[d5]
  have K:∀u:Bl,mP [(0,.cells 109 2 [[.d (.l []),.d (.l [])]]),(1,.cells 9 1 (u.rows.map KJ)),(2,.cells 9 1 (u.cols.map KJ)),(3,.cells 109 2 [[.arr 1 1 0 u.rows.length,.arr 2 1 0 u.cols.length]])] [EO t,.a [.arr 1 1 0 u.rows.length,.arr 2 1 0 u.cols.length]] [EO t,KQ u]:=λu=>
   .cons (.cons (.pure rfl) (.cons (.pure rfl) (.cons (.pure rfl) (.cons (.pure rfl) (.cons (.pure rfl) (.cons (.pure rfl) (.cons (.pure rfl) (.cons (.pure rfl) (.cons (.pure rfl) (.cons (.pure rfl) (.cons (.pure rfl) .nil))))))))))) (.cons (.cons (.arr rfl (by simp) (G _)) (.cons (.arr rfl (by simp) (G _)) .nil)) .nil)
  have I:∀x:Bl,iO (Bp A (BA al) x)=.t [(false,[.d (tD ((Bp A (BA al) x).getD []))]),(false,[.d (bD (Bp A (BA al) x).isSome)])]:=λx=>by cases Bp A (BA al) x<;>rfl
  rw[I]at s;(repeat first|refine tA rfl ?_|(refine Al rfl ?_;refine gA rfl ?_;first|refine gQ (Mk rfl rfl ((K tab)) (s) rfl) rfl ?_)|refine aU rfl ?_|apply Aa)
  obtain⟨R,hR⟩:∃R,R=BZ A (BA al) 13 tab:=⟨_,rfl⟩
  rw[<-hR];apply aB;refine aL (α:={p:Nat×Bl // p.1<=13/\13<=p.1+p.2.rows.length/\p.2.rows.length<=12/\p.2.cols.length<=20/\(∀w∈p.2.rows,w.length<=50000+p.2.rows.length)/\(∀w∈p.2.cols,w.length<=4000)/\R=BZ A (BA al) p.1 p.2}) [2,4,6] [0] rfl rfl (λ⟨⟨m,u⟩,M,q,n,j,b,c,z⟩=>[(7,eT ((Bp A (BA al) u).getD [])),(8,eB (Bp A (BA al) u).isSome)]) (λ⟨⟨m,u⟩,M,q,n,j,b,c,z⟩=>[(1,.cells 9 1 (u.rows.map KJ)),(2,.cells 9 1 (u.cols.map KJ)),(3,.cells 109 2 [[.arr 1 1 0 u.rows.length,.arr 2 1 0 u.cols.length]])]) 4 (λ⟨⟨m,u⟩,M,q,n,j,b,c,z⟩=>m) (⟨(13,tab),by simp,by simp,T,Z,λw F=>by have:=(g.rw w F).1;show w.length<=50000+tab.rows.length;omega,λw F=>(g.cw w F).1,hR⟩) e rfl (by (simp[cX,zC,e])) ?_;rintro⟨⟨m,u⟩,M,q,n,j,b,c,z⟩;(try dsimp only[cA,cB]);dsimp only at M q n j b c z
  have Q:Bp A (BA al) u=none\/∃w,Bp A (BA al) u=some w:=by cases Bp A (BA al) u<;>simp
  rcases Q with y|⟨w,y⟩
  ·rw [y]
   have X:R=some u:=by
    rw[z]
    obtain⟨m',rfl⟩:∃m',m=m'+1:=⟨m-1,by omega⟩
    simp[BZ,y]
   (repeat first|refine tA rfl ?_|refine aU rfl ?_|apply Aa)
   ((refine aC rfl ?_ ?_<;>rintro⟨⟩);all_goals try (simp at i;done))
   apply aE;(repeat first|refine tA rfl ?_|refine aU rfl ?_|apply Aa);refine Aj.settle [(4,.o (.ip [Hg u.rows,Hg u.cols])),(5,eB true)] ⟨⟨_,rfl,.o (.box rfl (.cons (.full rfl (by simp[d5]) (by simp)) (.cons (.full rfl (by simp[d5]) (by simp)) .nil)))⟩,⟨_,rfl,.o .d⟩,trivial⟩ ?_;refine aR ⟨_,rfl,?_⟩;rw[X];rfl
  ·rw [y]
   obtain⟨m',rfl⟩:∃m',m=m'+1:=⟨m-1,by omega⟩
   obtain⟨⟨r,k,l,hl,F⟩,_⟩:=IP y
   have B:w.length<=50000+(u.rows++[w]).length:=by
    have:=b r k;rw[F];simp;omega
   (repeat first|refine tA rfl ?_|refine aU rfl ?_|apply Aa)
   ((refine aC rfl ?_ ?_<;>rintro⟨⟩);all_goals try (simp at i;done))
   apply aK;apply aB;(repeat first|refine tA rfl ?_|refine s2 rfl λ_ i=>?_|refine aU rfl ?_|apply Aa);(refine aC rfl ?_ ?_<;>rintro⟨⟩)
   ·have h12:u.rows.length=12:=by (simp only[oZ] at *;omega)
    have X:R=none:=by
     rw[z];simp[BZ,y,h12]
    (repeat first|refine tA rfl ?_|(refine Al rfl ?_;refine gA rfl ?_;first|refine gS (λ_ _=>AS rfl rfl (by rfl) (by rfl)) ?_)|refine aU rfl ?_|apply Aa);refine Aj.settle [(4,.o (.ip [.l [],.l []])),(5,eB false)] ⟨⟨_,rfl,.o (.box rfl (.cons .d (.cons .d .nil)))⟩,⟨_,rfl,.o .d⟩,trivial⟩ ?_;refine aR ⟨_,rfl,?_⟩;rw[X];rfl
   ·have Y:u.rows.length<12:=by (simp only[oZ] at *;omega)
    have S:=UB z y Y
    have P:WU ⟨u.rows++[w],u.cols⟩:=⟨by simp;omega,by dsimp only;omega,λx f=>by
     rcases gc.1 f with f|f
     ·have:=b x f;omega
     ·simp at f;subst f;simp at B;omega,λx f=>by have:=c x f;omega⟩
    have J:=KX hT ⟨u.rows++[w],u.cols⟩ P;rw[I]at J;apply aK;(repeat first|refine tA rfl ?_|refine aU rfl ?_);(refine pW rfl ?_ rfl (by rfl);refine Au rfl rfl rfl (by first|(simp;done)|(simp;(omega))) rfl (by intro r k;simp at k;subst k;rfl) (by rfl) (ce rfl) (by simp;omega) ?_);(repeat first|refine tA rfl ?_);apply Aa
    have V:∀x∈u.rows++[w],x.length<=50000+(u.rows++[w]).length:=λx f=>by
     rcases gc.1 f with f|f
     ·have:=b x f;simp;omega
     ·simp at f;subst f;exact B
    refine Aj.Ay [2,4,6] [] rfl rfl [] [(0,.cells 109 2 [[.d (.l []),.d (.l [])]]),(1,.cells 9 1 ((u.rows++[w]).map KJ)),(2,.cells 9 1 (u.cols.map KJ)),(3,.cells 109 2 [[.arr 1 1 0 (u.rows++[w]).length,.arr 2 1 0 u.cols.length]])] [0,4,2,3] (rl e rfl) (by (simp[cX,zC,e])) ?_;(try dsimp only[cA,cB]);(repeat first|refine tA rfl ?_|(refine Al rfl ?_;refine gA rfl ?_;first|refine gQ (Mk rfl rfl ((K ⟨u.rows++[w],u.cols⟩)) (J) rfl) rfl ?_)|refine aU rfl ?_|apply Aa);refine⟨⟨⟨m',⟨u.rows++[w],u.cols⟩⟩,by dsimp only;omega,by simp;omega,by simp;omega,j,V,c,S⟩,by dsimp only;(omega),[0,1,2,3],?_⟩;simp[cX,zC,e]
 ·have v:AZ A al tab=false:=by simpa using v
  rw[if_neg (by simp[v])];rw[v]at N;refine eG Tryz.func138 rfl (by kernel_rfl) rfl ?_;intro U e;(repeat first|refine tA rfl ?_|refine s2 rfl λ_ i=>?_|refine sP rfl (N) rfl ?_|refine aU rfl ?_|apply Aa)
  ((refine aC rfl ?_ ?_<;>rintro⟨⟩);all_goals try (simp at i;done))
  (repeat first|refine tA rfl ?_|(refine Al rfl ?_;refine gA rfl ?_;first|refine gS (λ_ _=>AS rfl rfl (by rfl) (by rfl)) ?_)|refine aU rfl ?_|apply Aa);refine Aj.settle [(4,.o (.ip [.l [],.l []])),(5,eB false)] ⟨⟨_,rfl,.o (.box rfl (.cons .d (.cons .d .nil)))⟩,⟨_,rfl,.o .d⟩,trivial⟩ ?_;refine aR ⟨_,rfl,rfl⟩
def Zp(o:Option AK):E:=match o with
 | some p=>.t [(true,[.d (iD p.al),.d (Ce p.nx),.d (FP p.ac)]),(false,[.d (bD true)])]
 | none=>.t [(true,[.d (iD 0),.d (.l []),.d (.l [])]),(false,[.d (bD false)])]
theorem Hw{t:FF}{al:Int}{A:W->Bool}(v:KK Tryz.prog TB 140 186 t al A)(tab:Bl)(f:WU tab) :
 Pure Tryz.prog TB 77 [EO t,KQ tab] (Zp (if BC A al tab then some (Cj A al tab) else none)):=by
 have x:=Qv v tab f;by_cases i:BC A al tab=true
 ·rw [if_pos i]
  rw[i]at x;obtain⟨y,X,N⟩:=MQ i;have e:=(EY y).1;have V:=e.r1;have S:=e.rl;have N:=e.cl;have h2:=v.alph;have h3:=BX (TB:=TB) al;have h4:Pure Tryz.prog TB 141 [EO t,Cb tab.cols,Cb tab.rows] (Cb (A2 A tab)):=KY v tab.cols tab.rows f.cl (λw R=>by have:=f.rb w R;omega) f.cb f.rl;have hla:(Ab al).length<=6:=AJ al 6
  have Z:(A2 A tab).length=tab.rows.length:=by simp[A2]
  refine eG Tryz.func77 rfl (by kernel_rfl) rfl ?_;intro U c;(repeat first|refine tA rfl ?_|refine s2 rfl λ_ a=>?_|refine sP rfl (x) rfl ?_|refine aU rfl ?_|apply Aa)
  ((refine aC rfl ?_ ?_<;>rintro⟨⟩);all_goals try (simp at a;done))
  apply aK;(repeat first|refine tX rfl ?_|refine sP rfl (h2) rfl ?_|refine aU rfl ?_);(refine pW rfl ?_ rfl (by rfl);refine Nn 1 1 63 2 1 4 rfl rfl (by decide) rfl rfl (by rfl) (by rfl) ?_);(repeat first|refine tX rfl ?_|refine sP rfl (h3) rfl ?_|refine sP rfl (h4) rfl ?_|refine aU rfl ?_|apply Aa);apply aB;refine aL (α:={k:Nat // k<=tab.rows.length}) [2,3,4,6,7,8] [0] rfl rfl (λ⟨k,hk⟩=>[(9,eI .i64 k)]) (λ⟨k,hk⟩=>[(1,.cells 63 1 (((Cj A al tab).nx.take k).map λr=>[.d (EA r)])),(2,.cells 4 1 (((Cj A al tab).ac.take k).map λb=>[.d (bD b)])),(3,.cells 29 3 [[.d (iD al),.arr 1 1 0 k,.arr 2 1 0 k]])]) 4 (λ⟨k,hk⟩=>tab.rows.length-k) (⟨0,by omega⟩) c rfl (by (simp[cX,zC,c])) ?_;rintro⟨k,hk⟩;(try dsimp only[cA,cB])
  have Y:(Cj A al tab).nx.length=tab.rows.length:=by simp[Cj]
  have hac:(Cj A al tab).ac.length=tab.rows.length:=by simp[Cj]
  by_cases I:k<tab.rows.length
  ·obtain⟨r,n⟩:=get_some I
   have Q:=get_map (g:=Dv) n;have m:=co n;have T:=f.rb r m
   have hm:(A2 A tab)[k]?=some (marks A tab.cols r):=by simp[A2,n]
   have hm':=get_map (g:=Dv) hm
   have hm0:(marks A tab.cols r)[(0:Int).toNat]?=some (ZA (A r)):=by
    have:=e.c0;simp[marks,this]
   (repeat first|refine sN rfl ?_|refine tX rfl ?_|refine s2 rfl λ_ a=>?_|refine aU rfl ?_|apply Aa);refine Aj.cond rfl (λhb=>?_) (λhb=>?_)<;>cases hb
   rotate_left
   ·exfalso;(simp only[oZ] at *;omega)
   apply aK;refine aS (aB ?_);(repeat first|refine aU rfl ?_);(refine pW rfl ?_ rfl (by rfl);refine A8 rfl rfl rfl rfl (by simp) (by rfl) (by rfl) (by rfl) (by rfl) ?_);(repeat first|refine tX rfl ?_|refine aU rfl ?_|apply Aa);apply aB;refine aL (α:={j:Nat // j<=(Ab al).length}) [2,3,4,6,7,8,9] [0,1,2,3] rfl rfl (λ⟨j,L⟩=>[(10,.o (.arr 4 1 0 j)),(11,eI .i64 j)]) (λ⟨j,L⟩=>[(4,.cells 3 1 (((Ab al).take j).map λl=>[.d (iD ((En A tab (r++[lb l]):Nat):Int))]))]) 5 (λ⟨j,L⟩=>(Ab al).length-j) (⟨0,by omega⟩) c rfl (by (simp[cX,zC,c])) ?_;rintro⟨j,L⟩;(try dsimp only[cA,cB]);by_cases s:j<(Ab al).length
   ·obtain⟨l,K⟩:=get_some s
    have hl':=get_map (g:=Bc) K;have q:=co K;have J:=Af q;have z:Pure Tryz.prog TB 101 [eI .i64 l] (eT [lb l]):=HW l J.1 (by omega);have p:=Ng v tab.cols (r++[lb l]) f.cl (by simp;omega) f.cb;have H:marks A tab.cols (r++[lb l])∈A2 A tab:=Ha X r m (lb l) (ON q);have M:Pure Tryz.prog TB 142 [Cb (A2 A tab),eT (marks A tab.cols (r++[lb l]))] (eI .i64 (En A tab (r++[lb l]):Nat)):=Vj (A2 A tab) _ H (by omega);(repeat first|refine sN rfl ?_|refine tX rfl ?_|refine s2 rfl λ_ a=>?_|refine aU rfl ?_|apply Aa);refine Aj.cond rfl (λhb=>?_) (λhb=>?_)<;>cases hb
    rotate_left
    ·exfalso;(simp only[oZ] at *;omega)
    apply aK;refine aS (aB ?_);refine rG (Hz [19]) (by kernel_rfl) ?_;(repeat first|(refine sA rfl ?_ ?_;first|exact tI|simp only[oZ] at *;omega)|(refine s4 rfl ‹_› rfl ?_ ?_;omega)|refine sP rfl (z) rfl ?_|refine sP rfl (p) rfl ?_|refine sP rfl (M) rfl ?_);(refine pW rfl ?_ rfl (by rfl);refine Au rfl rfl rfl (by first|(simp;done)|(simp;(omega))) rfl (by intro r h;simp at h;subst h;rfl) (by rfl) (ce rfl) (by simp;omega) ?_);(repeat first|(refine sA rfl ?_ ?_;first|exact tI|omega)|refine aU rfl ?_|apply Aa);refine⟨⟨j+1,by omega⟩,by dsimp only;(omega),[0,1,2,3,5],?_⟩;(simp[cX,zC,c,i7,K])
   ·obtain rfl:j=(Ab al).length:=by omega
    have G:(Cj A al tab).nx.take (k+1)=(Cj A al tab).nx.take k++[(Ab al).map λl=>((En A tab (r++[lb l]):Nat):Int)]:=by
     rw[i7];simp[Cj,n]
    have u:(Cj A al tab).ac.take (k+1)=(Cj A al tab).ac.take k++[A r]:=by
     rw[i7];simp[Cj,n]
    rw[i8];(repeat first|refine sN rfl ?_|refine tX rfl ?_|refine s2 rfl λ_ a=>?_|refine aU rfl ?_|apply Aa);refine Aj.cond rfl (λhb=>?_) (λhb=>?_)<;>cases hb
    ·exfalso;(simp only[oZ] at *;omega)
    apply aE;refine Aj.IF [4] [2,3,4,6,7,8,9] rfl [(10,Ak ((Ab al).map λl=>((En A tab (r++[lb l]):Nat):Int)))] ⟨⟨_,rfl,.o (.full (by simp) rfl (by simp[d5]) (by simp))⟩,trivial⟩ ?_;(try dsimp only[cA,cB]);(repeat first|refine tA rfl ?_|refine aU rfl ?_);(refine pW rfl ?_ rfl (by rfl);refine Au rfl rfl rfl (by first|(simp;done)|(simp;(omega))) rfl (by intro r h;simp at h;subst h;rfl) (by rfl) (ce rfl) (by simp;omega) ?_);(repeat first|refine tA rfl ?_|apply Aa);refine rG (Hz [9,11]) (by kernel_rfl) ?_;(repeat first|refine tA rfl ?_|(refine s4 rfl ‹_› rfl ?_ ?_;omega)|refine s2 rfl λ_ a=>?_);rename_i b
    have P:b=A r:=by
     cases hA:A r<;>cases b<;>simp[hA,ZA]at a<;>rfl
    subst P;(refine pW rfl ?_ rfl (by rfl);refine Au rfl rfl rfl (by first|(simp;done)|(simp;(omega))) rfl (by intro r h;simp at h;subst h;rfl) (by rfl) (ce rfl) (by simp;omega) ?_);(repeat first|(refine sA rfl ?_ ?_;first|exact tI|omega)|refine aU rfl ?_|apply Aa);refine⟨⟨k+1,by omega⟩,by dsimp only;(omega),[0,5,6,3],?_⟩;(simp[cX,zC,c,G,u])
  ·obtain rfl:k=tab.rows.length:=by omega
   have F:(Cj A al tab).nx.take tab.rows.length=(Cj A al tab).nx:=kw (by simp[Cj]);have B:(Cj A al tab).ac.take tab.rows.length=(Cj A al tab).ac:=kw (by simp[Cj]);rw[F,B];(repeat first|refine sN rfl ?_|refine tX rfl ?_|refine s2 rfl λ_ a=>?_|refine aU rfl ?_|apply Aa);refine Aj.cond rfl (λhb=>?_) (λhb=>?_)<;>cases hb
   ·exfalso;(simp only[oZ] at *;omega)
   apply aE;(repeat first|refine tX rfl ?_|refine aU rfl ?_|apply Aa);refine Aj.settle [(4,.o (.ip [iD al,Ce (Cj A al tab).nx,FP (Cj A al tab).ac])),(5,eB true)] ⟨⟨_,rfl,.o (.box rfl (.cons .d (.cons (.full rfl (by simp[d5]) (by simp[Cj])) (.cons (.full rfl (by simp[d5]) (by simp[Cj])) .nil))))⟩,⟨_,rfl,.o .d⟩,trivial⟩ ?_;refine aR ⟨_,rfl,rfl⟩
 ·have i:BC A al tab=false:=by simpa using i
  rw[if_neg (by simp[i])];rw[i]at x;refine eG Tryz.func77 rfl (by kernel_rfl) rfl ?_;intro U c;(repeat first|refine tA rfl ?_|refine s2 rfl λ_ a=>?_|refine sP rfl (x) rfl ?_|refine aU rfl ?_|apply Aa)
  ((refine aC rfl ?_ ?_<;>rintro⟨⟩);all_goals try (simp at a;done))
  (repeat first|refine tA rfl ?_|(refine Al rfl ?_;refine gA rfl ?_;first|refine gS (λ_ _=>AS rfl rfl (by rfl) (by rfl)) ?_)|refine aU rfl ?_|apply Aa);refine Aj.settle [(4,.o (.ip [iD 0,.l [],.l []])),(5,eB false)] ⟨⟨_,rfl,.o (.box rfl (.cons .d (.cons .d (.cons .d .nil))))⟩,⟨_,rfl,.o .d⟩,trivial⟩ ?_;refine aR ⟨_,rfl,rfl⟩
def O8(A:W->Bool)(al:Int)(t:Bl)(w:W):Option Bl:=if AZ A al t && Gw al w then Lt t w else none
theorem QW{t:FF}{al:Int}{A:W->Bool}(n:KK Tryz.prog TB 140 186 t al A)(tab:Bl)(q:WU tab)(w:W)(y:w.length<=1048576) :
 Pure Tryz.prog TB 150 [EO t,KQ tab,eT w] (NP (O8 A al tab w)):=by
 have i:=FK n tab q;have g:=PI n w (by omega);have f:=Ju (TB:=TB) tab.cols w (by have:=q.cl;omega);by_cases e:(AZ A al tab && Gw al w)=true
 ·have ha:O8 A al tab w=Lt tab w:=by unfold O8;rw[if_pos e]
  rw[ha];rw[d4]at e;rw[e.1]at i;rw[e.2]at g;have b:dD al tab:=(EY e.1).1;have k:=b.r1;have l:=b.c1;have s:=b.rl;have v:=b.cl;by_cases m:tab.cols.length=20\/w∈tab.cols
  ·have p:Lt tab w=none:=by unfold Lt;rw[if_pos m]
   rw[p];refine eG Tryz.func150 rfl (by kernel_rfl) rfl ?_;intro U j;(repeat' first|refine sN rfl ?_|refine tA rfl ?_|(refine s2 rfl λ_ a=>?_;try (simp only[r5,r6]at a;subst a))|refine sP rfl (i) rfl ?_|refine sP rfl (g) rfl ?_|(refine sC rfl (f) ?_;intro _ a)|(refine Al rfl ?_;refine gA rfl ?_;first|refine gS (λ_ _=>AS rfl rfl (by rfl) (by rfl)) ?_)|refine s3 rfl ?_ ?_<;>rintro rfl|refine aU rfl ?_|apply Aa|refine rE (by kernel_rfl) ?_|(refine aC rfl ?_ ?_<;>rintro⟨⟩)|apply aK|apply aE|apply aB|refine aR ⟨_,rfl,?_⟩)
   all_goals first
    | rfl
    | (exfalso;clear i g f n;simp at *;grind;done)
    | skip
  ·have p:Lt tab w=some ⟨tab.rows,tab.cols++[w]⟩:=by unfold Lt;rw[if_neg m]
   rw[p];have u:decide (w∈tab.cols)=false:=decide_eq_false λh=>m (.inr h);have x:tab.cols.length≠20:=λh=>m (.inl h);rw[u]at f;refine eG Tryz.func150 rfl (by kernel_rfl) rfl ?_;intro U j;(repeat first|refine sN rfl ?_|refine tA rfl ?_|(refine s2 rfl λ_ a=>?_;try (simp only[r5,r6]at a;subst a))|refine sP rfl (i) rfl ?_|refine sP rfl (g) rfl ?_|refine sP rfl (f) rfl ?_|refine aU rfl ?_|apply Aa);refine Aj.cond rfl (λhb=>?_) (λhb=>?_)<;>cases hb
   ·exfalso;(simp only[oZ] at *;omega)
   apply aK;(repeat first|refine aU rfl ?_);refine rG (qF [0,1,2,4,5,6,8,9,3,7,10,11,12,13] [3,7,10,12] [0,1,2,4,5,6,8,9]) (by kernel_rfl) ?_;(repeat first|refine tX rfl ?_|(refine Al rfl ?_;refine gA rfl ?_;first|refine gS (λ_ _=>TQ (by rfl) (by rfl)) ?_|refine gS (λ_ _=>Qb rfl rfl rfl rfl rfl (by rfl) (by rfl) (by rfl) (by rfl) (by rfl)) ?_));(refine pW rfl ?_ rfl (by rfl);refine EC rfl rfl rfl (by intro r c;simp at c;obtain⟨_,_,rfl⟩:=c;rfl) (by rfl) (ce rfl) (by simp;omega) (λh=>?_) (λ_=>?_))
   ·exfalso;simp at h;rw[h]at k;simp at k
   (repeat first|(refine Al rfl ?_;refine gA rfl ?_;first|refine gS (λ_ _=>TQ (by rfl) (by rfl)) ?_|refine gS (λ_ _=>Qb rfl rfl rfl rfl rfl (by rfl) (by rfl) (by rfl) (by rfl) (by rfl)) ?_));(refine pW rfl ?_ rfl (by rfl);refine EC rfl rfl rfl (by intro r c;simp at c;obtain⟨_,_,rfl⟩:=c;rfl) (by rfl) (ce rfl) (by simp;omega) (λh=>?_) (λ_=>?_))
   ·exfalso;simp at h;rw[h]at l;simp at l
   (refine pW rfl ?_ rfl (by rfl);refine Au rfl rfl rfl (by first|(simp;done)|(simp;(omega))) rfl (by intro r c;simp at c;subst c;rfl) (by rfl) (ce rfl) (by simp;omega) ?_);(repeat first|refine tA rfl ?_|(refine Al rfl ?_;refine gA rfl ?_;first|refine gS (λ_ _=>AS rfl rfl (by rfl) (by rfl)) ?_)|apply Aa);refine Aj.settle [(6,.o (.ip [Hg tab.rows,Hg (tab.cols++[w])])),(7,eB true)] ⟨⟨_,rfl,.o (.box rfl (.cons (.full rfl (by simp[d5]) (by simp)) (.cons (.full rfl (by simp[d5]) (by simp)) .nil)))⟩,⟨_,rfl,.o .d⟩,trivial⟩ ?_;refine aR ⟨_,rfl,rfl⟩
 ·have ha:O8 A al tab w=none:=by unfold O8;rw[if_neg e]
  rw[ha];refine eG Tryz.func150 rfl (by kernel_rfl) rfl ?_;intro U j;(repeat' first|refine sN rfl ?_|refine tA rfl ?_|(refine s2 rfl λ_ a=>?_;try (simp only[r5,r6]at a;subst a))|(refine sC rfl (i) ?_;intro _ a)|(refine sC rfl (g) ?_;intro _ a)|(refine sC rfl (f) ?_;intro _ a)|(refine Al rfl ?_;refine gA rfl ?_;first|refine gS (λ_ _=>AS rfl rfl (by rfl) (by rfl)) ?_)|refine s3 rfl ?_ ?_<;>rintro rfl|refine aU rfl ?_|apply Aa|refine rE (by kernel_rfl) ?_|(refine aC rfl ?_ ?_<;>rintro⟨⟩)|apply aK|apply aE|apply aB|refine aR ⟨_,rfl,?_⟩)
  all_goals first
   | rfl
   | (exfalso;clear i g f n;simp at *;grind;done)
   | skip
def Fz(A:W->Bool)(al:Int)(t:Bl)(w:W):Option W:=if BC A al t && Gw al w then Eu A t w else none
theorem PH{al:Int}{w:W}(h:Gw al w=true):AL (BA al) w/\w.length<=4000/\within w al=true:=by
 unfold Gw at h;rw[d4,decide_eq_true_eq]at h;exact⟨Ew h.1,h.2,h.1⟩
theorem dF{A:W->Bool}{al:Int}{t:Bl}{w:W}(ha:A1 al=true)(a:Ci A (BA al) t)(c:t.rows.length<=12)(b:Gw al w=true):QU (Cj A al t) w=QV A t w:=by
 obtain⟨e,f,d⟩:=PH b;unfold QU;rw[SP ha a c,SI a e]
 show (true && (within w al && _))=_
 rw[d];rfl
theorem Wy{A:W->Bool}{t:Bl}{w:W}{k q:Nat}{c:UInt8}{R:Option W}(d:w[k]?=some c)(a:R=splitAt A t (A w) q (w.drop k)) :
 (A (t.rows.getD (En A t (t.rows.getD q []++[c])) []++w.drop (k+1))≠A w->R=some (w.drop (k+1)))/\(A (t.rows.getD (En A t (t.rows.getD q []++[c])) []++w.drop (k+1))=A w->R=splitAt A t (A w) (En A t (t.rows.getD q []++[c])) (w.drop (k+1))):=by
 have:=T8 (L:=A) (t:=t) (b:=A w) (q:=q) d;rw[this]at a;exact⟨λh=>by rw[a,if_pos h],λh=>by rw[a,if_neg (by simpa using h)]⟩
theorem RF{t:FF}{al:Int}{A:W->Bool}(G:KK Tryz.prog TB 140 186 t al A)(hal:0<=al->A1 al=true)(tab:Bl)(P:WU tab)(w:W)(hw:w.length<=1048576) :
 Pure Tryz.prog TB 149 [EO t,KQ tab,eT w] (iO (Fz A al tab w)):=by
 have n:=Hw G tab P;have q:=PI G w (by omega);have h4:=G.ask w (by omega);by_cases r:BC A al tab=true
 ·rw [if_pos r]at n
  obtain⟨Q,ho,f⟩:=MQ r;have d:=(EY Q).1;have ha:=hal d.pos;have hau:=SP ha f d.rl;have I:=O7 (TB:=TB) (Cj A al tab) w (by omega);by_cases i:Gw al w=true
  ·rw [i]at q
   rw[dF ha f d.rl i]at I
   have u:Fz A al tab w=Eu A tab w:=by unfold Fz;rw[r,i];rfl
   rw[u];by_cases J:QV A tab w=A w
   ·have y:Eu A tab w=none:=by unfold Eu;rw[if_pos J]
    rw[y];rw[J]at I;refine eG Tryz.func149 rfl (by kernel_rfl) rfl ?_;intro U b;(repeat' first|refine tA rfl ?_|(refine s2 rfl λ_ a=>?_;try (simp only[r5,r6]at a;subst a))|refine sP rfl (n) rfl ?_|refine sP rfl (q) rfl ?_|refine sP rfl (I) rfl ?_|refine sP rfl (h4) rfl ?_|refine aU rfl ?_|apply Aa|refine rE (by kernel_rfl) ?_|(refine aC rfl ?_ ?_<;>rintro⟨⟩)|apply aK|apply aE|apply aB|refine aR ⟨_,rfl,?_⟩)
    all_goals first
     | rfl
     | (exfalso;grind;done)
   ·obtain⟨R,M⟩:∃R,R=Eu A tab w:=⟨_,rfl⟩
    rw[<-M]
    have M:R=splitAt A tab (A w) 0 (w.drop 0):=by rw[M];unfold Eu;rw[if_neg J];rfl
    obtain⟨m,hw4,_⟩:=PH i;have hrl:=d.rl;have T:=d.r1;refine eG Tryz.func149 rfl (by kernel_rfl) rfl ?_;intro U b;(repeat first|refine tA rfl ?_|refine sP rfl (n) rfl ?_|refine sP rfl (q) rfl ?_|refine sP rfl (I) rfl ?_|refine sP rfl (h4) rfl ?_|refine aU rfl ?_|apply Aa);refine rG (Hz []) (by kernel_rfl) ?_;(repeat first|refine tA rfl ?_|(refine s2 rfl λ_ a=>?_;try (simp only[r5,r6]at a;subst a))|refine sP rfl (n) rfl ?_|refine sP rfl (q) rfl ?_|refine sP rfl (I) rfl ?_|refine sP rfl (h4) rfl ?_|apply Aa);refine Aj.cond rfl (λhb=>?_) (λhb=>?_)<;>cases hb
    ·exfalso;exact J (by simpa using a)
    apply aK;(repeat first|refine tA rfl ?_|refine aU rfl ?_|apply Aa);have h0:0<tab.rows.length:=T;apply aB;refine aL (α:={k:Nat // k<=w.length/\R=splitAt A tab (A w) (runM A tab 0 (w.take k)) (w.drop k)/\A (tab.rows.getD (runM A tab 0 (w.take k)) []++w.drop k)=A w}) [2,3,4,8] [0] rfl rfl (λ⟨k,hk,p,H⟩=>[(10,eI .i64 (runM A tab 0 (w.take k):Nat)),(11,eI .i64 k)]) (λ⟨k,hk,p,H⟩=>[]) 1 (λ⟨k,hk,p,H⟩=>w.length-k) (⟨0,by omega,M,by simp[d.r0,runM]⟩) b rfl (by (simp[cX,zC,b]<;>rfl)) ?_;rintro⟨k,hk,p,H⟩;(try dsimp only[cA,cB]);have x:=f.run (w.take k) 0 (TJ m k) h0;by_cases Y:k<w.length
    ·obtain⟨c,K⟩:=get_some Y
     have hc':w[((k:Nat):Int).toNat]?=some c:=by simpa using K
     have F:=m c (co K);have B:=LK F;have Z:=IG (TB:=TB) w k c hc'
     have hnl:(Cj A al tab).nx.length=tab.rows.length:=by simp[Cj]
     have z:=J0 (TB:=TB) (Cj A al tab) hau (runM A tab 0 (w.take k)) (by omega) ((c.toNat:Int)-97) B.1 B.2;have s:=cP (L:=A) (t:=tab) K 0;have v:=f.run (w.take (k+1)) 0 (TJ m (k+1)) h0;rw[UT (L:=A) (al:=al) (t:=tab) x F,<-s]at z;have e:=Wy K p;rw[<-s]at e;obtain⟨N,l⟩:=get_some x;have hx1':=get_map (g:=Dv) l;obtain⟨o,j⟩:=get_some v;have hx2':=get_map (g:=Dv) j
     have e1:tab.rows.getD (runM A tab 0 (w.take k)) []=N:=by simp[l]
     have e2:tab.rows.getD (runM A tab 0 (w.take (k+1))) []=o:=by simp[j]
     have hr1b:=P.rb N (co l);have hr2b:=P.rb o (co j);rw[e1]at H;rw[e2]at e
     have X:Pure Tryz.prog TB 186 [EO t,eT (N++w.drop ((k:Nat):Int).toNat)] (eB (A w)):=by
      rw[d8,<-H];exact G.ask _ (by simp;omega)
     have ek:(((k:Nat):Int)+1).toNat=k+1:=by omega
     have V:Pure Tryz.prog TB 186 [EO t,eT (o++w.drop (((k:Nat):Int)+1).toNat)] (eB (A (o++w.drop (k+1)))):=by
      rw[ek];exact G.ask _ (by simp;omega)
     have hd1:(w.drop ((k:Nat):Int).toNat).length<=1048576:=by simp;omega
     have hd2:(w.drop (((k:Nat):Int)+1).toNat).length<=1048576:=by simp;omega
     (repeat first|refine tA rfl ?_|refine s2 rfl λ_ a=>?_|refine aU rfl ?_|apply Aa);refine Aj.cond rfl (λhb=>?_) (λhb=>?_)<;>cases hb
     rotate_left
     ·exfalso;(simp only[oZ] at *;omega)
     (repeat' first|(refine sA rfl ?_ ?_;first|exact tI|omega)|(refine s4 rfl ‹_› rfl ?_ ?_;omega)|refine s2 rfl λ_ a=>?_|refine sP rfl (Z) rfl ?_|refine sP rfl (z) rfl ?_|refine sP rfl (X) rfl ?_|refine sP rfl (V) rfl ?_|(refine Al rfl ?_;refine gA rfl ?_;first|refine gS (λ_ _=>FJ rfl rfl (by omega) (by omega)) ?_)|refine aU rfl ?_|apply Aa|refine rE (by kernel_rfl) ?_|(refine aC rfl ?_ ?_<;>rintro⟨⟩)|apply aK|apply aE|apply aB|refine aR ⟨_,rfl,?_⟩)
     ·have y:=e.1 (by intro h;rw[h]at a;simp at a)
      rw[y]
      show E.t _=E.t _
      rw[ek]
     ·have S:=e.2 (by simpa using (by simpa using a:A w=A (o++w.drop (k+1))).symm)
      have hA2:A (tab.rows.getD (runM A tab 0 (w.take (k+1))) []++w.drop (k+1))=A w:=by rw[e2];exact(by simpa using a:A w=A (o++w.drop (k+1))).symm
      refine⟨⟨k+1,by omega,S,hA2⟩,by dsimp only;(omega),[0],?_⟩;simp[cX,zC,b]
    ·obtain rfl:k=w.length:=by omega
     rw[tK]at p;have y:R=none:=p;rw[y];(repeat first|refine tA rfl ?_|refine s2 rfl λ_ a=>?_|refine aU rfl ?_|apply Aa);refine Aj.cond rfl (λhb=>?_) (λhb=>?_)<;>cases hb
     ·exfalso;(simp only[oZ] at *;omega)
     (repeat' first|refine tA rfl ?_|refine aU rfl ?_|apply Aa|(refine aC rfl ?_ ?_<;>rintro⟨⟩)|apply aK|apply aE|apply aB|refine aR ⟨_,rfl,?_⟩);rfl
  ·have i:Gw al w=false:=by simpa using i
   rw[i]at q
   have u:Fz A al tab w=none:=by unfold Fz;rw[i];simp
   rw[u];refine eG Tryz.func149 rfl (by kernel_rfl) rfl ?_;intro U b;(repeat' first|refine tA rfl ?_|(refine s2 rfl λ_ a=>?_;try (simp only[r5,r6]at a;subst a))|refine sP rfl (n) rfl ?_|refine sP rfl (q) rfl ?_|refine aU rfl ?_|apply Aa|refine rE (by kernel_rfl) ?_|(refine aC rfl ?_ ?_<;>rintro⟨⟩)|apply aK|apply aE|apply aB|refine aR ⟨_,rfl,?_⟩)
   all_goals first
    | rfl
    | (exfalso;grind;done)
 ·have u:Fz A al tab w=none:=by unfold Fz;simp[r]
  rw[if_neg r]at n;rw[u];refine eG Tryz.func149 rfl (by kernel_rfl) rfl ?_;intro U b;(repeat' first|refine tA rfl ?_|(refine s2 rfl λ_ a=>?_;try (simp only[r5,r6]at a;subst a))|refine sP rfl (n) rfl ?_|refine aU rfl ?_|apply Aa|refine rE (by kernel_rfl) ?_|(refine aC rfl ?_ ?_<;>rintro⟨⟩)|apply aK|apply aE|apply aB|refine aR ⟨_,rfl,?_⟩)
  all_goals first
   | rfl
   | (exfalso;grind;done)
def IA(A:W->Bool)(al:Int)(t:Bl):Option Bl:=if AZ A al t then BZ A (BA al) 13 t else none
def Mx(A:W->Bool)(al:Int)(t:Bl)(w:W):Option Bl:=(Fz A al t w).bind λv=>(O8 A al t v).bind λu=>IA A al u
theorem YI{A:W->Bool}{al:Int}{t:Bl}{w v:W}(h:Fz A al t w=some v):v.length<=w.length:=by
 unfold Fz at h;split at h
 ·obtain⟨p,_,rfl⟩:=YH h
  simp
 ·cases h
theorem iE{A:W->Bool}{al:Int}{t u:Bl}{w:W}(h:O8 A al t w=some u):WU u:=by
 unfold O8 at h;split at h
 ·rename_i d
  rw[d4]at d;have b:=(EY d.1).1;have f:=PH d.2;unfold Lt at h;split at h
  ·cases h
  ·injection h with h
   subst h;have c:=b.sz;have e:=b.cl;refine⟨c.rl,by simp;omega,c.rb,λx a=>?_⟩
   rcases gc.1 a with a|a
   ·exact c.cb x a
   ·simp at a;subst a;omega
 ·cases h
theorem Rx{t:FF}{al:Int}{A:W->Bool}(g:KK Tryz.prog TB 140 186 t al A)(hal:0<=al->A1 al=true)(tab:Bl)(h:WU tab)(w:W)(j:w.length<=1048576) :
 Pure Tryz.prog TB 81 [EO t,KQ tab,eT w] (NP (Mx A al tab w)):=by
 have e:=RF g hal tab h w j
 rcases b:Fz A al tab w with _|v
 ·have d:Mx A al tab w=none:=by unfold Mx;rw[b];rfl
  rw[d];rw[b]at e;refine eG Tryz.func81 rfl (by kernel_rfl) rfl ?_;intro U c;(repeat' first|refine tA rfl ?_|(refine s2 rfl λ_ a=>?_;try (simp only[r5,r6]at a;subst a))|refine sP rfl (e) rfl ?_|(refine Al rfl ?_;refine gA rfl ?_;first|refine gS (λ_ _=>AS rfl rfl (by rfl) (by rfl)) ?_)|refine aU rfl ?_|apply Aa|(refine aC rfl ?_ ?_<;>rintro⟨⟩)|apply aK|apply aE|apply aB|refine aR ⟨_,rfl,?_⟩)
  all_goals rfl
 ·rw [b]at e
  have l:=YI b;have f:=QW g tab h v (by omega)
  rcases ha:O8 A al tab v with _|u
  ·have d:Mx A al tab w=none:=by unfold Mx;rw[b];simp[ha]
   rw[d];rw[ha]at f;refine eG Tryz.func81 rfl (by kernel_rfl) rfl ?_;intro U c;(repeat' first|refine tA rfl ?_|(refine s2 rfl λ_ a=>?_;try (simp only[r5,r6]at a;subst a))|refine sP rfl (e) rfl ?_|refine sP rfl (f) rfl ?_|(refine Al rfl ?_;refine gA rfl ?_;first|refine gS (λ_ _=>AS rfl rfl (by rfl) (by rfl)) ?_)|refine aU rfl ?_|apply Aa|(refine aC rfl ?_ ?_<;>rintro⟨⟩)|apply aK|apply aE|apply aB|refine aR ⟨_,rfl,?_⟩)
   all_goals rfl
  ·have d:Mx A al tab w=IA A al u:=by unfold Mx;rw[b];simp[ha]
   rw[d];rw[ha]at f;have i:Pure Tryz.prog TB 138 [EO t,KQ u] (NP (IA A al u)):=Jl g u (iE ha)
   rcases k:IA A al u with _|x<;>rw[k]at i<;>(
    refine eG Tryz.func81 rfl (by kernel_rfl) rfl ?_;intro U c;(repeat' first|refine tA rfl ?_|(refine s2 rfl λ_ a=>?_;try (simp only[r5,r6]at a;subst a))|refine sP rfl (e) rfl ?_|refine sP rfl (f) rfl ?_|refine sP rfl (i) rfl ?_|(refine Al rfl ?_;refine gA rfl ?_;first|refine gS (λ_ _=>AS rfl rfl (by rfl) (by rfl)) ?_)|refine aU rfl ?_|apply Aa|(refine aC rfl ?_ ?_<;>rintro⟨⟩)|apply aK|apply aE|apply aB|refine aR ⟨_,rfl,?_⟩)
    all_goals rfl)
theorem Dh(L:W->Bool)(al:Int)(t:Bl):BC L al t=(AZ L al t && (Bp L (BA al) t).isNone):=rfl
end Go.Am
namespace Go.Am
def Jt(a:AK)(cs:List Int)(q:Nat):List Int:=cs.getD q 0::(a.nx.getD q []).map λx=>cs.getD x.toNat 0
def CB(a:AK)(cs:List Int):List (List Int):=(List.range a.nx.length).map (Jt a cs)
def bm(a:AK):Nat->List Int->Nat->List (List Int)
 | 0,cs,_=>CB a cs
 | k+1,cs,n=>if (uq (CB a cs)).length=n then CB a cs else bm a k (E9 (CB a cs)) (uq (CB a cs)).length
def IC(a:AK):List Int:=a.ac.map λb=>if b then 1 else 0
def FV(a:AK):List (List Int):=bm a (a.nx.length+1) (IC a) 0
def SY(a:AK):List Int:=E9 (FV a)
def Xa(a:AK)(q r:Int):Prop:=∀w,AL (BA a.al) w->EG a (Bk a q w)=EG a (Bk a r w)
theorem Fi(a:AK)(cs:List Int):(CB a cs).length=a.nx.length:=by simp[CB]
theorem BD{a:AK}{cs:List Int}{q:Nat}(h:q<a.nx.length):(CB a cs)[q]?=some (Jt a cs q):=by simp[CB,h]
theorem Yy{a:AK}(h:Kw a){q:Nat}(e:q<a.nx.length):a.nx[q]?=some ((Ab a.al).map (Bg a q)):=by
 obtain⟨row,d,g,_⟩:=h.2 q e;rw[d];congr 1;apply sw;intro i;rw[f6]
 cases b:(Ab a.al)[i]? with
 | none=>
  have:=tB.1 b;rw[qT (by omega)];rfl
 | some l=>
  have hb:=Af (co b);have f:=(am.1 b).1;obtain⟨y,c⟩:=get_some (l:=row) (k:=i) (by omega);rw[c,rM];congr 1;unfold Bg;rw[if_pos hb.2.2,FG b,jp,jp,d,sr,c];rfl
theorem OM{a:AK}(h:Kw a){cs:List Int}{q:Nat}(b:q<a.nx.length):Jt a cs q=cs.getD q 0::(Ab a.al).map λl=>cs.getD (Bg a q l).toNat 0:=by
 unfold Jt;rw[Ej (Yy h b),rL];rfl
theorem Xa.step{a:AK}{q r:Int}(h:Xa a q r){l:Int}(d:l∈Ab a.al):Xa a (Bg a q.toNat l) (Bg a r.toNat l):=λw g=>by
 have hb:=Af d
 have f:=h (lb l::w) (λc b=>by
  rcases lw.1 b with rfl|b
  ·exact d9.2 ⟨l,d,rfl⟩
  ·exact g c b)
 have e:∀p:Int,Bk a p (lb l::w)=Bk a (Bg a p.toNat l) w:=λp=>by
  show Bk a (Bg a p.toNat (((lb l).toNat:Int)-97)) w=_
  rw[Fm hb.1 (by omega)]
 rw[e,e]at f;exact f
structure kO (a:AK) (ks:List (List Int)):Prop where
 len:ks.length=a.nx.length
 ac:∀q r:Nat,q<a.nx.length->r<a.nx.length->ks[q]?=ks[r]?->EG a q=EG a r
 go:∀q r:Nat,q<a.nx.length->r<a.nx.length->ks[q]?=ks[r]?->∀l∈Ab a.al,ks[(Bg a q l).toNat]?=ks[(Bg a r l).toNat]?
 res:∀q r:Nat,q<a.nx.length->r<a.nx.length->Xa a q r->ks[q]?=ks[r]?
theorem kD{a:AK}{cs:List Int}(h:cs.length=a.nx.length):(CB a cs).map (λk=>k.headD 0)=cs:=by
 apply sw;intro i;rw[f6];by_cases hi:i<a.nx.length
 ·rw[BD hi,rM]
  show some (cs.getD i 0)=_
  obtain⟨y,b⟩:=get_some (l:=cs) (k:=i) (by omega);rw[jp,b];rfl
 ·rw[qT (by rw[Fi];omega),qT (by omega)];rfl
theorem JD{α:Type}[DecidableEq α]{l:List α}{q:Nat}{x:α}(h:l[q]?=some x):(E9 l).getD q 0=DY l x:=by
 unfold E9;rw[jp,f6,h];rfl
theorem Zo{a:AK}(h:Kw a)(z:1<=a.nx.length):∀(k:Nat) {cs:List Int} {n:Nat},cs.length=a.nx.length->
 (∀q r:Nat,q<a.nx.length->r<a.nx.length->Xa a q r->cs.getD q 0=cs.getD r 0)->
 (∀q r:Nat,q<a.nx.length->r<a.nx.length->cs.getD q 0=cs.getD r 0->EG a q=EG a r)->
 (n=0\/n=(uq cs).length)->a.nx.length+1<=k+n->kO a (bm a k cs n)
 | 0,cs,n,t,_,_,w,hk=>by
  have:=JR cs;omega
 | k + 1,cs,n,t,v,p,w,hk=>by
  have o:=kD (a:=a) t
  have d:∀q:Nat,q<a.nx.length->∀l∈Ab a.al,(Bg a q l).toNat<a.nx.length:=λq b l g=>by
   have hb:=Af g;have:=Ds h b hb.1 (by omega);omega
  have i:∀q r:Nat,q<a.nx.length->r<a.nx.length->Xa a q r->Jt a cs q=Jt a cs r:=λq r b c j=>by
   rw[OM h b,OM h c,v q r b c j];congr 1;refine rB λl g=>v _ _ (d q b l g) (d r c l g) ?_;have hb:=Af g;have B:=Ds h b hb.1 (by omega);have A:=Ds h c hb.1 (by omega);have:=j.step g;rw[d8,d8]at this;rw[show (((Bg a q l).toNat:Nat):Int)=Bg a q l by omega,show (((Bg a r l).toNat:Nat):Int)=Bg a r l by omega];exact this
  have u:1<=(uq (CB a cs)).length:=by
   have:Jt a cs 0∈uq (CB a cs):=DG.2 (co (BD (by omega)));exact List.length_pos_of_mem this
  have m:=YQ (λk:List Int=>k.headD 0) (CB a cs);rw[o]at m;unfold bm;split
  ·rename_i x
   have y:(uq cs).length=(uq (CB a cs)).length:=by omega
   have s:∀q r:Nat,q<a.nx.length->r<a.nx.length->cs.getD q 0=cs.getD r 0->Jt a cs q=Jt a cs r:=λq r b c e=>
    mK (f:=λk:List Int=>k.headD 0) (l:=CB a cs) (by rw[o];omega) (co (BD b)) (co (BD c)) e
   refine⟨Fi _ _,λq r b c e=>?_,λq r b c e l g=>?_,λq r b c e=>?_⟩
   ·rw[BD b,BD c]at e
    injection e with e
    refine p q r b c ?_;unfold Jt at e;injection e
   ·rw[BD b,BD c]at e
    injection e with e
    rw[OM h b,OM h c]at e
    injection e with _ e
    rw[BD (d q b l g),BD (d r c l g)];congr 1;exact s _ _ (d q b l g) (d r c l g) (sY.1 e l g)
   ·rw[BD b,BD c,i q r b c e]
  ·rename_i x
   refine Zo h z k (by simp[E9,Fi]) (λq r b c e=>?_) (λq r b c e=>?_) (.inr (aQ _).symm) (by omega)
   ·rw[JD (BD b),JD (BD c),i q r b c e]
   ·rw[JD (BD b),JD (BD c)]at e
    have e:=PW (co (BD b)) e;refine p q r b c ?_;unfold Jt at e;injection e
theorem MR{a:AK}(h:Kw a)(j:1<=a.nx.length)(i:a.ac.length=a.nx.length):kO a (FV a):=by
 have f:∀q:Nat,q<a.nx.length->(IC a).getD q 0=if EG a q then 1 else 0:=λq d=>by
  obtain⟨b,hb⟩:=get_some (l:=a.ac) (k:=q) (by omega);unfold IC EG;rw[jp,f6,hb,d8,jp,hb];rfl
 refine Zo h j _ (by simp[IC,i]) (λq r d g e=>?_) (λq r d g e=>?_) (.inl rfl) (by omega)
 ·have e:EG a q=EG a r:=e [] (λc m=>by cases m)
  rw[f q d,f r g,e]
 ·rw[f q d,f r g]at e
  cases j:EG a q<;>cases n:EG a r<;>rw[j,n]at e<;>first|rfl|cases e
theorem kO.run{a:AK}(g:Kw a){ks:List (List Int)}(h:kO a ks):∀(w:W) (q r:Nat),q<a.nx.length->r<a.nx.length->ks[q]?=ks[r]?->AL (BA a.al) w->EG a (Bk a q w)=EG a (Bk a r w)
 | [],q,r,f,b,e,_=>h.ac q r f b e
 | c::w,q,r,f,b,e,j=>by
  obtain⟨l,k,rfl⟩:=d9.1 (j c (by simp));have hb:=Af k;have o:=Ds g f hb.1 (by omega);have n:=Ds g b hb.1 (by omega);have i:=kO.run g h w (Bg a q l).toNat (Bg a r l).toNat (by omega) (by omega) (h.go q r f b e l k) λd m=>j d (by simp[m]);rw[show (((Bg a q l).toNat:Nat):Int)=Bg a q l by omega,show (((Bg a r l).toNat:Nat):Int)=Bg a r l by omega]at i
  show EG a (Bk a (Bg a ((q:Int).toNat) (((lb l).toNat:Int)-97)) w)=EG a (Bk a (Bg a ((r:Int).toNat) (((lb l).toNat:Int)-97)) w)
  rw[Fm hb.1 (by omega),d8,d8];exact i
theorem kO.iff{a:AK}(f:Kw a){ks:List (List Int)}(h:kO a ks){q r:Nat}(c:q<a.nx.length)(b:r<a.nx.length):ks[q]?=ks[r]?↔Xa a q r:=
 ⟨λe w d=>h.run f w q r c b e d,h.res q r c b⟩
def EM(n:Nat):W:=if n<10 then [UInt8.ofNat (48+n)] else [UInt8.ofNat (48+n / 10),UInt8.ofNat (48+n%10)]
def EE(l:List Int):W:=l.flatMap λx=>44::EM x.toNat
def Xy:List Int->W
 | []=>[]
 | c::l=>EM c.toNat++EE l
theorem UH:((List.range 100).all λn=>(List.range 100).all λm=>decide (EM n=EM m->n=m) && !(EM n).contains 44)=true:=by decide +kernel
theorem UG{n m:Nat}(b:n<100)(c:m<100)(h:EM n=EM m):n=m:=by
 have a:=ge.1 (ge.1 UH n (pi.2 b)) m (pi.2 c);rw[d4]at a;exact of_decide_eq_true a.1 h
theorem OJ{n:Nat}(a:n<100):(44:UInt8)∉EM n:=λh=>by
 have c:=ge.1 (ge.1 UH n (pi.2 a)) n (pi.2 a);rw[d4]at c;have b:=c.2;simp at b;exact b h
theorem Xp{c:UInt8}:∀ {u v x y:W},c∉u->c∉v->(x=[]\/∃z,x=c::z)->(y=[]\/∃z,y=c::z)->u++x=v++y->u=v/\x=y
 | [],[],x,y,_,_,_,_,h=>⟨rfl,h⟩
 | [],d::v,x,y,_,f,b,_,h=>by
  exfalso;have h:x=d::(v++y):=h
  rcases b with rfl|⟨z,rfl⟩
  ·cases h
  ·injection h with h _
   exact f (by rw[h];simp)
 | d :: u,[],x,y,g,_,_,a,h=>by
  exfalso;have h:d::(u++x)=y:=h
  rcases a with rfl|⟨z,rfl⟩
  ·cases h
  ·injection h with h _
   exact g (by rw[h];simp)
 | d::u,e::v,x,y,g,f,b,a,h=>by
  have h:d::(u++x)=e::(v++y):=h
  injection h with m l
  obtain⟨k,j⟩:=Xp (λi=>g (by simp[i])) (λi=>f (by simp[i])) b a l;exact⟨by rw[m,k],j⟩
theorem Kq(l:List Int):EE l=[]\/∃z,EE l=44::z:=by
 cases l with
 | nil=>exact .inl rfl
 | cons x l=>exact .inr ⟨_,rfl⟩
theorem Sv:∀ {l m:List Int},(∀x∈l,0<=x/\x<100)->(∀x∈m,0<=x/\x<100)->EE l=EE m->l=m
 | [],[],_,_,_=>rfl
 | [],_::_,_,_,h=>by cases h
 | _::_,[],_,_,h=>by cases h
 | x::l,y::m,c,b,h=>by
  have h:44::(EM x.toNat++EE l)=44::(EM y.toNat++EE m):=h
  injection h with _ h
  have g:=c x (by simp);have f:=b y (by simp);obtain⟨e,d⟩:=Xp (OJ (by omega)) (OJ (by omega)) (Kq l) (Kq m) h;have:=UG (by omega) (by omega) e;rw[show x=y by omega,Sv (λz a=>c z (by simp[a])) (λz a=>b z (by simp[a])) d]
theorem eO{k k':List Int}(hk:∀x∈k,0<=x/\x<100)(a:∀x∈k',0<=x/\x<100)(f:k≠[])(e:k'≠[])(h:Xy k=Xy k'):k=k':=by
 cases k with
 | nil=>exact absurd rfl f
 | cons x l=>
  cases k' with
  | nil=>exact absurd rfl e
  | cons y m=>
   have i:=hk x (by simp);have g:=a y (by simp);obtain⟨d,c⟩:=Xp (OJ (by omega)) (OJ (by omega)) (Kq l) (Kq m) h;have:=UG (by omega) (by omega) d;rw[show x=y by omega,Sv (λz b=>hk z (by simp[b])) (λz b=>a z (by simp[b])) c]
section
variable {α β:Type}[DecidableEq α][DecidableEq β]
theorem QE{f:α->β}:∀(l u:List α),(∀x y,x∈u++l->y∈u++l->f x=f y->x=y)->uniq (u.map f) (l.map f)=(uniq u l).map f
 | [],u,_=>rfl
 | x :: l,u,h=>by
  have d:f x∈u.map f↔x∈u:=by
   constructor
   ·intro a
    obtain⟨y,b,e⟩:=d9.1 a;rwa[<-h y x (by simp[b]) (by simp) e]
   ·intro a;exact d9.2 ⟨x,a,rfl⟩
  show uniq (if f x∈u.map f then u.map f else u.map f++[f x]) (l.map f)=(uniq (if x∈u then u else u++[x]) l).map f
  by_cases a:x∈u
  ·rw [if_pos (d.2 a),if_pos a]
   exact QE l u λy z b c=>h y z (by
    rcases gc.1 b with h|h<;>simp[h]) (by
    rcases gc.1 c with h|h<;>simp[h])
  ·rw[if_neg (λe=>a (d.1 e)),if_neg a]
   have e:u.map f++[f x]=(u++[x]).map f:=by simp
   rw[e];exact QE l (u++[x]) λy z b c=>h y z (by simpa[or_assoc]using b) (by simpa[or_assoc]using c)
theorem ij{f:α->β}{l:List α}(h:∀x y,x∈l->y∈l->f x=f y->x=y):uq (l.map f)=(uq l).map f:=by
 have:=QE l [] (f:=f) (by simpa using h);exact this
theorem fy{f:α->β}{l:List α}(h:∀x y,x∈l->y∈l->f x=f y->x=y){x:α}(a:x∈l):DY (l.map f) (f x)=DY l x:=by
 have c:=PV a
 have b:(uq (l.map f))[(DY l x).toNat]?=some (f x):=by rw[ij h,f6,c];rfl
 have:=ZF b;have d:=OR a;omega
theorem fC{f:α->β}{l:List α}(h:∀x y,x∈l->y∈l->f x=f y->x=y):E9 (l.map f)=E9 l:=by
 unfold E9;rw[rL];exact rB λx a=>fy h a
end
end Go.Am
namespace Go.Am
open Go
theorem dE{p:AK}(hp:AD p=true):Uj (QU p) (LA p) p.al:=λw a b=>by
 unfold QU;rw[hp,GY a b (AB hp).1];rfl
theorem dG{A L:W->Bool}{al:Int}{b:Nat}{t:Bl}(h:Uj A L al)(ht:WT al b t)(hb:b<=20100)(hk:Ci L (BA al) t){w:W}(a:AL (BA al) w):QV A t w=QV L t w:=by
 rw[<-SI (hk.po h ht hb) a,<-SI hk a,Ux h ht hb]
theorem YG{A L:W->Bool}{al:Int}{b:Nat}{t:Bl}(h:Uj A L al)(ht:WT al b t)(hb:b<=20100)(hk:Ci L (BA al) t){w:W}(a:AL (BA al) w)(c:w.length<=20000):Eu A t w=Eu L t w:=by
 have d:0<t.rows.length:=(am.1 hk.r0).1;unfold Eu;rw[dG h ht hb hk a,h w a (by omega),Oc h ht hb hk (L w) w 0 d a c]
end Go.Am
namespace Go.Am
open Go Go.Proofs
set_option maxHeartbeats 1000000
set_option maxRecDepth 4000
attribute [local irreducible] A5 Ck Lex Br Aj Spec
variable {TB:BJ}
theorem TD{t:FF}{al:Int}{A:W->Bool}(f:KK Tryz.prog TB 140 186 t al A):Pure Tryz.prog TB 76 [EO t] (NP (IA A al BL)):=by
 have c:Pure Tryz.prog TB 138 [EO t,KQ BL] (NP (IA A al BL)):=Jl f BL ⟨by decide,by decide,λw a=>by simp[BL]at a;subst a;simp,λw a=>by simp[BL]at a;subst a;simp⟩
 rcases e:IA A al BL with _|x<;>rw[e]at c<;>(
  refine eG Tryz.func76 rfl (by kernel_rfl) rfl ?_;intro U d;(repeat' first|refine sN rfl ?_|((first|refine sA rfl ?_ ?_|refine s4 rfl ‹_› rfl ?_ ?_);first|exact tI|omega|simp only[oZ] at *;omega)|(refine s2 rfl λ_ b=>?_;try (simp only[r5,r6]at b;subst b))|refine sP rfl (c) rfl ?_|(refine Al rfl ?_;refine gA rfl ?_;first|refine gS (λ_ _=>AS rfl rfl (by rfl) (by rfl)) ?_)|refine s3 rfl ?_ ?_<;>rintro rfl|refine aU rfl ?_|apply Aa|refine rE (by kernel_rfl) ?_|(refine aC rfl ?_ ?_<;>rintro⟨⟩)|apply aK|apply aE|apply aB|refine aR ⟨_,rfl,?_⟩)
  all_goals rfl)
end Go.Am
