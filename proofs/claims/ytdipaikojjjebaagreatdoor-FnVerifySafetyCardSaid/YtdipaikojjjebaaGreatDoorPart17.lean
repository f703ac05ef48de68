/-
  Where letters lead: members of a product, products.
-/
import Derived.Test.YtdipaikojjjebaaGreatDoorPart15
set_option linter.all false
namespace Go.Am
open Go
def BR(s:Sys)(q l:Int):List Int:=if AZ s.al l.toNat then (s.es.filter λe=>decide (e.f=q) && decide (e.l=l)).map (·.t) else [q]
theorem WY{a b c:Eo}(h:Kx a b=true)(k:Kx b c=true):Kx a c=true:=by
 unfold Kx at *;grind
theorem AN{s:Sys}(h:AX s=true):Bb s.al=true/\1<=s.st/\s.st<=16:=by
 unfold AX at h;grind
theorem Du{s:Sys}(h:AX s=true){e:Eo}(b:e∈s.es):DT s.al s.st e=true:=by
 obtain⟨k,hk,rfl⟩:=pk b;unfold AX at h;simp only[d4,f7]at h;have a:=h.2 k (o5.2 hk)
 cases k with
 | zero=>rw[Ua (d6 hk)]at a;exact a
 | succ k=>rw[Pe (d6 hk) (d6 (by omega))]at a;grind
theorem MF{s:Sys}(h:AX s=true):s.es.Pairwise λa b=>Kx a b=true:=by
 have key:∀(l:List Eo),(∀(k:Nat) (p e:Eo),l[k]?=some p->l[k+1]?=some e->Kx p e=true)->l.Pairwise λa b=>Kx a b=true:=by
  intro l
  induction l with
  | nil=>intro _;exact .nil
  | cons a l m=>
   intro i;have f:=m λk p e g d=>i (k+1) p e (by simpa using g) (by simpa using d);refine pF.2 ⟨λb hb=>?_,f⟩
   cases l with
   | nil=>cases hb
   | cons c l=>
    have j:=i 0 a c rfl rfl
    rcases o3.1 hb with rfl|hb
    ·exact j
    ·exact WY j ((pF.1 f).1 b hb)
 refine key _ λk p e g d=>?_;unfold AX at h;simp only[d4,f7]at h;have f:=h.2 (k+1) (o5.2 (ce.1 d).1);rw[Pe d g]at f;grind
theorem PH:∀(l:List Int) (a b:Int),(a::l).Pairwise (· < ·)->(∀x∈a::l,x<b)->a+((l.length:Int)+1)<=b
 | [],a,b,_,h=>by have:=h a (by simp);simp;omega
 | c::l,a,b,e,h=>by
  have g:=PH l c b (pF.1 e).2 λx d=>h x (by simp at d |-;exact .inr d);have f:=(pF.1 e).1 c (by simp);simp;omega
theorem Ub{s:Sys}(h:AX s=true)(q l:Int):(BR s q l).Pairwise (· < ·):=by
 unfold BR;split
 ·rw[qE]
  refine List.Pairwise.imp_of_mem (λ{a b} ha hb c=>?_) ((MF h).filter _);have e:=(o9.1 ha).2;have d:=(o9.1 hb).2;unfold Kx at c;grind
 ·simp
theorem JK{s:Sys}(h:AX s=true){q l:Int}(f:0<=q)(d:q<s.st){x:Int}(a:x∈BR s q l):0<=x/\x<s.st:=by
 unfold BR at a;split at a
 ·obtain⟨e,b,rfl⟩:=d9.1 a
  have c:=Du h (o9.1 b).1;unfold DT at c;grind
 ·simp at a;subst a;exact⟨f,d⟩
theorem NM{s:Sys}(h:AX s=true){q l:Int}(f:0<=q)(e:q<s.st):((BR s q l).length:Int)<=s.st:=by
 have d:=Ub h q l;have c:∀x∈BR s q l,0<=x/\x<s.st:=λx b=>JK h f e b;generalize BR s q l=m at d c
 cases m with
 | nil=>simp;omega
 | cons a m=>
  have i:=PH m a s.st d λx b=>(c x b).2;have g:=c a (by simp);simp;omega
theorem DH{a:AY}(h:AE a=true){q:Nat}(f:q<a.nx.length){l:Int}(j:0<=l)(i:l<6):0<=Cz a q l/\Cz a q l<a.nx.length:=by
 obtain⟨row,e,g,d⟩:=HO h f;unfold Cz;split
 ·rename_i hb
  have b:(AI a.al l.toNat).length<row.length:=by rw[g];exact ID (by omega) hb
  obtain⟨y,c⟩:=get_some b;have:=d _ y c
  simpa[List.getD,e,c]using this
 ·omega
structure Eh (n:Net):Prop where
 ps:∀s∈n.ps,AX s=true
 au:∀a∈n.au,AE a=true
 np:n.ps.length<=3
 na:n.au.length<=2
def KR(n:Net)(st:List Int)(l:Int):List (List Int):=n.ps.zipWith (λs q=>BR s q l) st++n.au.zipWith (λa q=>[Cz a q.toNat l]) (st.drop n.ps.length)
def Hn:List Int->List (List Int)->List Int->List Int
 | z::zs,c::cs,out=>Hn zs cs (out.flatMap λo=>c.map λx=>o*z+x)
 | _,_,out=>out
def FD(n:Net)(zs st:List Int)(l:Int):List Int:=Hn zs (KR n st l) [0]
inductive FQ:List Int->List (List Int)->Prop
 | nil:FQ [] []
 | cons {z:Int} {c:List Int} {zs:List Int} {cs:List (List Int)}:(∀x∈c,0<=x/\x<z)->(c.length:Int)<=z->FQ zs cs->FQ (z::zs) (c::cs)
theorem Sh:∀ {zs:List Int} {cs:List (List Int)} {k:Nat} {z:Int} {c:List Int} (out:List Int),zs[k]?=some z->cs[k]?=some c->
 Hn (zs.take (k+1)) (cs.take (k+1)) out=(Hn (zs.take k) (cs.take k) out).flatMap λo=>c.map λx=>o*z+x
 | [],_,k,z,s,n,d,_=>by simp at d
 | a::zs,[],k,z,s,n,_,e=>by simp at e
 | a::zs,b::ss,0,z,s,n,d,e=>by
  simp at d e;subst d e;simp[Hn]
 | a::zs,b::ss,k+1,z,s,n,d,e=>by
  simp only[rK,Hn];exact Sh _ (by simpa using d) (by simpa using e)
theorem LW{α β:Type}(l:List α)(g:α->List β)(n:Int)(h:∀x∈l,((g x).length:Int)<=n):((l.flatMap g).length:Int)<=l.length*n:=by
 induction l with
 | nil=>simp
 | cons a l b=>
  have f:=h a (by simp);have e:=b λx c=>h x (by simp[c]);simp only[ru,qb,pD]
  have d:((l.length:Int)+1)*n=l.length*n+n:=by rw[qW];simp
  push_cast
  omega
theorem Tx{zs:List Int}{cs:List (List Int)}(h:FQ zs cs):∀(out:List Int) (B:Int),(∀o∈out,0<=o/\o<B)->0<=B->(out.length:Int)<=B->
 (∀v∈Hn zs cs out,0<=v/\v<B*Aw zs)/\((Hn zs cs out).length:Int)<=B*Aw zs:=by
 induction h with
 | nil=>intro out B e i f;simp[Hn,Aw];exact⟨e,f⟩
 | @cons z c zs cs m g _ k=>
  intro out B e i f
  have a:0<=z:=by omega
  have q:=k (out.flatMap λo=>c.map λx=>o*z+x) (B*z) (λv b=>by
   obtain⟨o,d,b⟩:=qg.1 b;obtain⟨x,l,rfl⟩:=d9.1 b;obtain⟨j,p⟩:=e o d;obtain⟨t,s⟩:=m x l;have r:0<=o*z:=pG j a;have n:(o+1)*z<=B*z:=qi (by omega) a;rw[qW]at n
   omega) (pG i a) (by
    have j:=LW out (λo=>c.map λx=>o*z+x) z (λx _=>by simpa using g);have p:(out.length:Int)*z<=B*z:=qi f a
    omega)
  rw[Hn,Aw,<-qG];exact q
theorem FQ.take{zs:List Int}{cs:List (List Int)}(h:FQ zs cs):∀k,FQ (zs.take k) (cs.take k):=by
 induction h with
 | nil=>intro k;simp;exact .nil
 | cons c b d a=>
  intro k
  cases k with
  | zero=>exact .nil
  | succ k=>exact .cons c b (a k)
theorem FQ.get{zs:List Int}{cs:List (List Int)}(h:FQ zs cs):∀(k:Nat) (z:Int) (c:List Int),zs[k]?=some z->cs[k]?=some c->(∀x∈c,0<=x/\x<z)/\(c.length:Int)<=z:=by
 induction h with
 | nil=>intro k z s a;simp at a
 | cons f e _ d=>
  intro k z s a b
  cases k with
  | zero=>simp at a b;subst a b;exact⟨f,e⟩
  | succ k=>exact d k z s (by simpa using a) (by simpa using b)
theorem FQ.len{zs:List Int}{cs:List (List Int)}(h:FQ zs cs):zs.length=cs.length:=by
 induction h with
 | nil=>rfl
 | cons _ _ _ a=>simp[a]
theorem Fits.split{zs zs' ss:List Int}(h:Fits (zs++zs') ss):Fits zs (ss.take zs.length)/\Fits zs' (ss.drop zs.length):=by
 induction zs generalizing ss with
 | nil=>exact⟨.nil,h⟩
 | cons a zs b=>
  cases h with
  | cons e d c=>exact⟨.cons e d (b c).1,(b c).2⟩
theorem FQ.app{zs zs':List Int}{cs cs':List (List Int)}(h:FQ zs cs)(d:FQ zs' cs'):FQ (zs++zs') (cs++cs'):=by
 induction h with
 | nil=>exact d
 | cons c b _ a=>exact .cons c b a
theorem GF{α β γ:Type}(f:α->β->γ):∀(l:List α) (m:List β),l.zipWith f m=l.zipWith f (m.take l.length)
 | [],_=>by simp
 | a::l,[]=>by simp
 | a::l,b::m=>by simp[GF f l m]
theorem Iu{n:Net}(h:Eh n){st:List Int}(i:Fits (Af n) st){l:Int}(m:0<=l)(k:l<6):FQ (Af n) (KR n st l):=by
 unfold Af at *;obtain⟨ha,hb⟩:=i.split;rw[gt]at ha hb;unfold KR;refine FQ.app ?_ ?_
 ·have : n.ps.zipWith (λs q=>BR s q l) st=n.ps.zipWith (λs q=>BR s q l) (st.take n.ps.length):=by
   exact GF _ _ _
  rw[this];have a:=h.ps;generalize st.take n.ps.length=ss at ha;generalize n.ps=ps at ha a
  induction ps generalizing ss with
  | nil=>cases ha;exact .nil
  | cons s ps e=>
   cases ha with
   | cons g d f=>
    have c:=a s (by simp);exact .cons (λx b=>JK c g d b) (NM c g d) (e _ f λt ht=>a t (by simp[ht]))
 ·have a:=h.au
  generalize st.drop n.ps.length=ss at hb;generalize n.au=au at hb a
  induction au generalizing ss with
  | nil=>cases hb;exact .nil
  | cons s ps e=>
   cases hb with
   | @cons _ q _ _ g d f=>
    have c:=a s (by simp);dsimp only at d;have j:=DH c (q:=q.toNat) (by omega) m k;exact .cons (λx b=>by simp at b;subst b;exact j) (by dsimp only;simp;omega) (e _ f λt ht=>a t (by simp[ht]))
theorem GI{n:Net}(c:Eh n):∀z∈Af n,1<=z/\z<=16:=by
 intro z b;unfold Af at b
 rcases f6.1 b with h|h
 ·obtain⟨s,d,rfl⟩:=d9.1 h
  have:=AN (c.ps s d);omega
 ·obtain⟨a,ha,rfl⟩:=d9.1 h
  have:=AJ (c.au a ha);omega
theorem Ib:∀(l:List Int),(∀z∈l,1<=z/\z<=16)->1<=Aw l/\Aw l<=16 ^ l.length
 | [],_=>by simp[Aw]
 | z::l,h=>by
  obtain⟨i,g⟩:=Ib l λx a=>h x (by simp[a]);obtain⟨f,e⟩:=h z (by simp);have d:z*Aw l<=16*16 ^ l.length:=pE e g (by omega) (by omega);have c:1*1<=z*Aw l:=pE f i (by omega) (by omega)
  have b:(16:Int) ^ (l.length+1)=16*16 ^ l.length:=by rw[Int.pow_succ,q6]
  simp only[Aw,pD,b];exact⟨by simpa using c,d⟩
theorem O6{n:Net}(a:Eh n):1<=Aw (Af n)/\Aw (Af n)<=1048576:=by
 obtain⟨d,c⟩:=Ib _ (GI a);refine⟨d,Int.le_trans c ?_⟩
 have b:(Af n).length<=5:=by unfold Af;have:=a.np;have:=a.na;simp;omega
 generalize (Af n).length=k at b
 have:k=0\/k=1\/k=2\/k=3\/k=4\/k=5:=by omega
 rcases this with rfl|rfl|rfl|rfl|rfl|rfl<;>decide
end Go.Am
namespace Go.Am
open Go Go.Proofs
set_option maxHeartbeats 1000000
set_option maxRecDepth 4000
attribute [local irreducible] A6 CC Lex Bz Ak Spec
variable {TB:BJ}
theorem Ro(n:Net)(i:Nat)(a:AY)(q:Nat)(l:Int)(ha:n.au[i]?=some a)(b:AE a=true)(e:q<a.nx.length)(h:0<=l)(f:l<6)(k:n.ps.length<=3)(m:n.au.length<=2) :
 Pure Tryz.prog TB 225 [Nh n,eI .i64 (n.ps.length+i),eI .i64 q,eI .i64 l] (Al [Cz a q l]):=by
 have hi:=(ce.1 ha).1;have c:=get_map (g:=AQ) ha
 have o:((n.ps.length:Int)+i-n.ps.length).toNat=((i:Nat):Int).toNat:=by omega
 have p:(n.au.map AQ)[((n.ps.length:Int)+i-n.ps.length).toNat]?=some (AQ a):=by rw[o];exact c
 refine eN Tryz.func225 rfl (by kernel_rfl) rfl ?_;intro Γ j;(repeat' first|refine sN rfl ?_|(refine sA rfl ?_ ?_;first|exact tI|omega)|(refine s4 rfl ‹_› rfl ?_ ?_;omega)|refine s2 rfl λ_ d=>?_|(refine sC rfl (JV a b q e l h f) ?_;intro _ d)|refine sP rfl (JV a b q e l h f) rfl ?_|refine aU rfl ?_|apply Aa|(refine aC rfl ?_ ?_<;>rintro⟨⟩)|apply aK|apply aE|apply aB|refine aR ⟨_,rfl,?_⟩)
 all_goals first|rfl|(exfalso;(simp only[oZ] at *;omega))
theorem Rp(n:Net)(i:Nat)(s:Sys)(q l:Int)(x:n.ps[i]?=some s)(j:AX s=true)(v:0<=q)(u:q<s.st)(I:0<=l)(F:l<6)(A:n.ps.length<=3) :
    Pure Tryz.prog TB 225 [Nh n,eI .i64 i,eI .i64 q,eI .i64 l] (Al (BR s q l)):=by
  have hi:=(ce.1 x).1;have z:=get_map (g:=AL) x;refine eN Tryz.func225 rfl (by kernel_rfl) rfl ?_;intro Γ c;(repeat first|refine aU rfl ?_);(refine Ag rfl ?_;refine CM (λ_ _=>Dj rfl rfl rfl) rfl ?_);(refine Ag rfl ?_;refine CM (λ_ _=>CQ rfl) rfl ?_);(repeat first|refine sN rfl ?_|refine tM rfl ?_|refine s2 rfl λ_ b=>?_|(refine sC rfl (Dg _ _ (by omega) (by omega)) ?_;intro _ b)|refine aU rfl ?_|apply Aa);(refine aC rfl ?_ ?_<;>rintro⟨⟩)
  · exfalso;(simp only[oZ] at *;omega)
  apply aK;(repeat first|refine tM rfl ?_|(refine s4 rfl ‹_› rfl ?_ ?_;omega)|refine s2 rfl λ_ b=>?_|(refine sC rfl (Dg _ _ (by omega) (by omega)) ?_;intro _ b)|refine aU rfl ?_|apply Aa);(refine aC rfl ?_ ?_<;>rintro⟨⟩)
  · (repeat' first|refine tA rfl ?_|refine aU rfl ?_|apply Aa|(refine aC rfl ?_ ?_<;>rintro⟨⟩)|apply aK|apply aE|apply aB|refine aR ⟨_,rfl,?_⟩)
    rw[show BR s q l=[q] by unfold BR;rw[if_neg (by grind)]];rfl
  apply aK;(repeat first|refine aU rfl ?_);(refine pW rfl ?_ rfl (by rfl);refine Bj rfl rfl rfl rfl (by simp) (by rfl) (by rfl) (by rfl) (by rfl) ?_);(repeat first|refine tM rfl ?_|(refine s4 rfl ‹_› rfl ?_ ?_;omega)|refine aU rfl ?_|apply Aa);refine Ak.bound 10 rfl λw=>?_;have w:=w _ .refl;rw[gt]at w;apply aB
  have h:AZ s.al l.toNat=true:=by grind
  refine Ak.A5 (α:={k:Nat // k<=s.es.length}) (λ⟨k,hk⟩=>[(2,eI .i64 q),(3,eI .i64 l),(9,.o (.arr 0 1 0 (BR { s with es:=s.es.take k } q l).length)),(10,iI s.es),(11,eI .i64 k)]) (λ⟨k,hk⟩=>[(0,.cells 3 1 ((BR { s with es:=s.es.take k } q l).map AD))]) 1 (λ⟨k,hk⟩=>s.es.length-k) (⟨0,by omega⟩) [0] (En c rfl rfl) (by (simp[cX,zC,c,BR,h])) ?_;rintro⟨k,hk⟩;(try dsimp only);(repeat first|refine sN rfl ?_|refine tM rfl ?_|refine s2 rfl λ_ b=>?_|refine aU rfl ?_|apply Aa)
  have m:∀k,(BR { s with es:=s.es.take k } q l).length<=16:=by
    intro k;have F:=NM j (l:=l) v u;have H:=AN j
    have G:(BR { s with es:=s.es.take k } q l).length<=(BR s q l).length:=by
      simp only[BR,h,if_true,gt];exact((List.take_sublist k s.es).filter _).length_le
    omega
  have a:∀e,s.es[k]?=some e->BR { s with es:=s.es.take (k+1) } q l=BR { s with es:=s.es.take k } q l++if e.f=q/\e.l=l then [e.t] else []:=by
    intro e p;simp only[BR,h,if_true,d8,p,Option.toList_some,pV,pO,rF,List.filter_nil];grind
  (refine aC rfl ?_ ?_<;>rintro⟨⟩)
  · obtain⟨e,p⟩:=get_some (l:=s.es) (k:=k) (by (simp only[oZ] at *;omega))
    have B:=get_map (g:=Dy) p;have a:=a e p;apply aK;refine aS (aB ?_);(repeat' first|(refine sM rfl ?_ ?_;first|exact tI|simp only[oZ] at *;omega)|(refine s4 rfl ‹_› rfl ?_ ?_;omega)|refine s2 rfl λ_ b=>?_|refine s3 rfl ?_ ?_<;>rintro rfl|refine aU rfl ?_|apply Aa|(refine aC rfl ?_ ?_<;>rintro⟨⟩)|apply aK|apply aE|apply aB|refine aR ⟨_,rfl,?_⟩)
    all_goals first
      | (rw[if_pos (by grind)]at a
         (repeat first|refine tA rfl ?_);(refine pW rfl ?_ rfl (by rfl);refine Au rfl rfl rfl (by first|(simp;done)|(simp;(omega))) rfl (by intro r y;simp at y;subst y;rfl) (by rfl) (am rfl) (by have:=m k;simp;omega) ?_);(repeat first|(refine sX rfl ?_ ?_;first|exact tI|simp only[oZ] at *;omega)|refine aU rfl ?_|apply Aa);refine⟨⟨k+1,by (simp only[oZ] at *;omega)⟩,by dsimp only;((simp only[oZ] at *;omega)),[1],?_⟩;simp[cX,zC,c,a]
         done)
      | (rw[if_neg (by grind),pA]at a
         refine⟨⟨k+1,by (simp only[oZ] at *;omega)⟩,by dsimp only;((simp only[oZ] at *;omega)),[0],?_⟩;simp[cX,zC,c,a]
         done)
  · obtain rfl:k=s.es.length:=by (simp only[oZ] at *;omega)
    apply aE;(repeat first|refine tM rfl ?_|refine aU rfl ?_|apply Aa);refine Ak.freeze [0] [(8,.o (.d (Fp (BR s q l))))] ⟨⟨_,rfl,.o (.full (by simp) rfl (by simp[d5]) (by simp))⟩,trivial⟩ ?_;refine aR ⟨_,rfl,rfl⟩
theorem Tr{n:Net}(h:Eh n){st:List Int}(p:Fits (Af n) st){l:Int}(u:0<=l)(t:l<6){i:Nat}{c:List Int}{q:Int}(b:(KR n st l)[i]?=some c)(g:st[i]?=some q) :
 Pure Tryz.prog TB 225 [Nh n,eI .i64 i,eI .i64 q,eI .i64 l] (Al c):=by
 have d:=p.len;unfold Af at d;simp only[qb,gt]at d
 have f:=(p.get i)
 have m:(n.ps.zipWith (λs q=>BR s q l) st).length=n.ps.length:=by rw[List.length_zipWith];omega
 have w:=(ce.1 g).1;unfold KR at b;by_cases hi:i<n.ps.length
 ·rw[f9 (by omega)]at b
  obtain⟨s,k⟩:=get_some hi;rw[r7,k,g]at b;simp only[Option.some.injEq]at b;subst b;have o:=f s.st q (by unfold Af;rw[f9 (by simpa using hi)];simp[k]) g;exact Rp n i s q l k (h.ps s (co k)) o.1 o.2 u t h.np
 ·obtain⟨j,rfl⟩:∃j,i=n.ps.length+j:=⟨i-n.ps.length,by omega⟩
  rw[gc (by omega),m]at b
  have e:n.ps.length+j-n.ps.length=j:=by omega
  rw[e]at b
  have v:j<n.au.length:=by omega
  obtain⟨a,ha⟩:=get_some v;rw[r7,ha,pj,g]at b;simp only[Option.some.injEq]at b;subst b;have o:=f a.nx.length q (by unfold Af;rw[gc (by simp)];simp[ha]) g;have r:=Ro (TB:=TB) n j a q.toNat l ha (h.au a (co ha)) (by omega) u t h.np h.na
  have x:((q.toNat:Nat):Int)=q:=by omega
  rw[x]at r
  push_cast
  exact r
theorem Vq{n:Net}(a:Eh n){st:List Int}(b:Fits (Af n) st){l:Int}(f:0<=l)(e:l<6)(k:Nat) :
 (∀v∈Hn ((Af n).take k) ((KR n st l).take k) [0],0<=v/\v<1048576)/\(Hn ((Af n).take k) ((KR n st l).take k) [0]).length<=1048576:=by
 have c:=Tx ((Iu a b f e).take k) [0] 1 (by simp) (by omega) (by simp);have h:=(b.take k).2;have g:=O6 a;rw[sr]at c;exact⟨λv d=>by have:=c.1 v d;omega,by omega⟩
theorem Xw{n:Net}(b:Eh n){st:List Int}(w:Fits (Af n) st){l:Int}(N:0<=l)(M:l<6) :
 Pure Tryz.prog TB 217 [Nh n,Al (Af n),Al st,eI .i64 l] (Al (FD n (Af n) st l)):=by
 have s:=Iu b w N M;have t:=Vq b w N M;have X:=O6 b;have hfl:=w.len;have hcl:=s.len;unfold FD;have d:∀(i:Nat) (c:List Int) (q:Int),(KR n st l)[i]?=some c->st[i]?=some q->Pure Tryz.prog TB 225 [Nh n,eI .i64 i,eI .i64 q,eI .i64 l] (Al c):=λi c q=>Tr b w N M
 have R:(Af n).length<=5:=by unfold Af;have:=b.np;have:=b.na;simp;omega
 have f:=GI b;generalize KR n st l=cs at *;generalize Af n=zs at *;refine eN Tryz.func217 rfl (by kernel_rfl) rfl ?_;intro Γ a;(repeat first|refine aU rfl ?_);(refine Ag rfl ?_;refine CM (λ_ _=>Dj rfl rfl rfl) rfl ?_);(refine Ag rfl ?_;refine CM (λ_ _=>CQ rfl) rfl ?_);(repeat first|refine tA rfl ?_|refine aU rfl ?_|apply Aa);apply aB;refine Ak.A5 (α:={k:Nat // k<=zs.length}) (λ⟨k,hk⟩=>[(1,Al zs),(2,Al st),(3,eI .i64 l),(4,.o (.ip (OK n))),(9,Al (Hn (zs.take k) (cs.take k) [0])),(10,eI .i64 k)]) (λ⟨k,hk⟩=>[]) 0 (λ⟨k,hk⟩=>zs.length-k) (⟨0,by omega⟩) [] (En a rfl rfl) (by (simp[cX,zC,a,Hn])) ?_;rintro⟨k,hk⟩;(try dsimp only);(repeat first|refine sN rfl ?_|refine tA rfl ?_|refine s2 rfl λ_ u=>?_|refine aU rfl ?_|apply Aa);(refine aC rfl ?_ ?_<;>rintro⟨⟩)
 ·obtain⟨z,v⟩:=get_some (l:=zs) (k:=k) (by (simp only[oZ] at *;omega))
  have S:=get_map (g:=Bs) v;obtain⟨c,J⟩:=get_some (l:=cs) (k:=k) (by (simp only[oZ] at *;omega));obtain⟨q,Q⟩:=get_some (l:=st) (k:=k) (by (simp only[oZ] at *;omega));have V:=get_map (g:=Bs) Q;have e:=Sh [0] v J;have L:=t k;have K:=(t (k+1)).2;have y:=f z (co v);obtain⟨I,hcn⟩:=s.get k z c v J;rw[e]at K;generalize Hn (zs.take k) (cs.take k) [0]=out at *;apply aK;refine aS (aB ?_);(repeat first|refine tM rfl ?_|(refine s4 rfl ‹_› rfl ?_ ?_;omega)|refine sP rfl (d k c q J Q) rfl ?_|refine aU rfl ?_|apply Aa|refine rE (by kernel_rfl) ?_);(refine pW rfl ?_ rfl (by rfl);refine Bj rfl rfl rfl rfl (by simp) (by rfl) (by rfl) (by rfl) (by rfl) ?_);(repeat first|refine tM rfl ?_|refine aU rfl ?_|apply Aa);apply aB
  have p:∀m,(((out.take m).flatMap λo=>c.map λx=>o*z+x).length:Int)<=16777216:=by
   intro m;have h2:=LW (out.take m) (λo=>c.map λx=>o*z+x) 16 (λx _=>by simp;omega)
   have h3:(out.take m).length<=out.length:=by simp;omega
   omega
  refine Ak.A5 (α:={m:Nat // m<=out.length}) (λ⟨m,F⟩=>[(1,Al zs),(2,Al st),(3,eI .i64 l),(4,.o (.ip (OK n))),(9,Al out),(10,eI .i64 k),(11,Al c),(12,.o (.arr 0 1 0 ((out.take m).flatMap λo=>c.map λx=>o*z+x).length)),(13,eI .i64 m)]) (λ⟨m,F⟩=>[(0,.cells 3 1 (((out.take m).flatMap λo=>c.map λx=>o*z+x).map AD))]) 1 (λ⟨m,F⟩=>out.length-m) (⟨0,by omega⟩) [0] (En a rfl rfl) (by (simp[cX,zC,a])) ?_;rintro⟨m,F⟩;(try dsimp only);(repeat first|refine sN rfl ?_|refine tM rfl ?_|refine s2 rfl λ_ u=>?_|refine aU rfl ?_|apply Aa);(refine aC rfl ?_ ?_<;>rintro⟨⟩)
  ·obtain⟨o,B⟩:=get_some (l:=out) (k:=m) (by (simp only[oZ] at *;omega))
   have Y:=get_map (g:=Bs) B;have h:=L.1 o (co B);have Z:=p m
   have h16:0<=o*z/\o*z<=16777216:=⟨pG h.1 (by omega),by
    have h5:o*z<=o*16:=pB y.2 h.1
    omega⟩
   have H:(out.take (m+1)).flatMap (λo=>c.map λx=>o*z+x)=(out.take m).flatMap (λo=>c.map λx=>o*z+x)++c.map λx=>o*z+x:=by
    rw[d8,B];simp
   apply aK;refine aS (aB ?_);(repeat first|refine tM rfl ?_|refine aU rfl ?_|apply Aa);apply aB;generalize (out.take m).flatMap (λo=>c.map λx=>o*z+x)=pre at *;refine Ak.A5 (α:={j:Nat // j<=c.length}) (λ⟨j,G⟩=>[(1,Al zs),(2,Al st),(3,eI .i64 l),(4,.o (.ip (OK n))),(9,Al out),(10,eI .i64 k),(11,Al c),(12,.o (.arr 0 1 0 (pre.length+j))),(13,eI .i64 m),(14,eI .i64 j)]) (λ⟨j,G⟩=>[(0,.cells 3 1 ((pre++(c.take j).map λx=>o*z+x).map AD))]) 1 (λ⟨j,G⟩=>c.length-j) (⟨0,by omega⟩) [0] (En a rfl rfl) (by (simp[cX,zC,a])) ?_;rintro⟨j,G⟩;(try dsimp only);(repeat first|refine sN rfl ?_|refine tM rfl ?_|refine s2 rfl λ_ u=>?_|refine aU rfl ?_|apply Aa);(refine aC rfl ?_ ?_<;>rintro⟨⟩)
   ·obtain⟨x,A⟩:=get_some (l:=c) (k:=j) (by (simp only[oZ] at *;omega))
    have U:=get_map (g:=Bs) A;have T:=I x (co A);apply aK;refine aS (aB ?_);refine rG (Hm [16]) (by kernel_rfl) ?_;(repeat first|(refine sA rfl ?_ ?_;first|exact tI|omega)|(refine s4 rfl ‹_› rfl ?_ ?_;omega));(refine pW rfl ?_ rfl (by rfl);refine Au rfl rfl rfl (by first|(simp;done)|(simp;(omega))) rfl (by intro r P;simp at P;subst P;rfl) (by rfl) (am rfl) (by simp;omega) ?_);(repeat first|(refine sX rfl ?_ ?_;first|exact tI|omega)|refine aU rfl ?_|apply Aa);refine⟨⟨j+1,by (simp only[oZ] at *;omega)⟩,by dsimp only;((simp only[oZ] at *;omega)),[1],?_⟩;simp[cX,zC,a,d8,A,pu]
   ·obtain rfl:j=c.length:=by (simp only[oZ] at *;omega)
    apply aE;(repeat first|(refine sM rfl ?_ ?_;first|exact tI|omega)|refine aU rfl ?_|apply Aa);refine⟨⟨m+1,by (simp only[oZ] at *;omega)⟩,by dsimp only;((simp only[oZ] at *;omega)),[0],?_⟩;simp[cX,zC,a,H]
  ·obtain rfl:m=out.length:=by (simp only[oZ] at *;omega)
   apply aE;rw[io] at *;refine Ak.freeze [0] [(1,Al zs),(2,Al st),(3,eI .i64 l),(4,.o (.ip (OK n))),(10,eI .i64 k),(12,Al (out.flatMap λo=>c.map λx=>o*z+x))] ⟨⟨_,rfl,.AS⟩,⟨_,rfl,.AS⟩,⟨_,rfl,.AS⟩,⟨_,rfl,.AS⟩,⟨_,rfl,.AS⟩,⟨_,rfl,.o (.full (by simp) rfl (by simp[d5]) (by simp))⟩,trivial⟩ ?_;(repeat first|(refine sA rfl ?_ ?_;first|exact tI|omega)|refine aU rfl ?_|apply Aa);refine⟨⟨k+1,by (simp only[oZ] at *;omega)⟩,by dsimp only;((simp only[oZ] at *;omega)),[],?_⟩;simp[cX,zC,a,e]
 ·obtain rfl:k=zs.length:=by (simp only[oZ] at *;omega)
  rw[ge (by omega),ge (by omega)];(repeat' first|refine tA rfl ?_|refine aU rfl ?_|apply Aa|(refine aC rfl ?_ ?_<;>rintro⟨⟩)|apply aK|apply aE|apply aB|refine aR ⟨_,rfl,?_⟩)
  all_goals rfl
abbrev Y0(l:List (List Int)):List C:=[.d (C7 l)]
abbrev Ea(l:List (List (List Int))):E:=.o (.d (gh l))
theorem Aj{s:Int}{k:Nat}{l:Int}(h:l∈AI s k):0<=l/\l<k/\AZ s l.toNat=true:=by
 unfold AI at h;obtain⟨i,hi,rfl⟩:=d9.1 h;obtain⟨b,a⟩:=o9.1 hi;have:=o5.1 b;exact⟨Int.natCast_nonneg _,by show ((i:Nat):Int)<k;omega,a⟩
theorem Ss:∀ {l:List Int},(∀z∈l,0<z)->0<Aw l
 | [],_=>by simp[Aw]
 | a::l,h=>Int.mul_pos (h a (by simp)) (Ss λz b=>h z (by simp[b]))
theorem Ng:∀ {zs:List Int} (_:∀z∈zs,0<z) (n:Int),Fits zs (BK zs n)
 | [],_,_=>.nil
 | z::zs,h,n=>by
  have a:=h z (by simp);exact .cons (pX _ (by omega)) (pM _ a) (Ng (λx b=>h x (by simp[b])) n)
def FF(n:Net)(x:Nat):List (List Int):=(Ac n.ls).map λl=>FD n (Af n) (BK (Af n) x) l
def DK(n:Net)(tot:Nat):List (List (List Int)):=(List.range tot).map (FF n)
theorem Lf{n:Net}{tot i:Nat}(h:i<tot):(DK n tot)[i]?=some (FF n i):=by simp[DK,h]
theorem Qt{n:Net}(a:Eh n):(Af n).length<=5:=by unfold Af;have:=a.np;have:=a.na;simp;omega
theorem Xv{n:Net}(q:Eh n)(tot:Nat)(ht:tot<=1048576):Pure Tryz.prog TB 194 [Nh n,Al (Af n),eI .i64 tot] (Ea (DK n tot)):=by
 have v:=Qt q;have c:=GI q
 have e:∀(x:Nat),x<tot->Pure Tryz.prog TB 196 [Al (Af n),eI .i64 x] (Al (BK (Af n) x)):=λx f=>
  Oe _ _ (by omega) (by omega) (λz h=>by have:=c z h;omega) (by omega)
 have p:∀(x:Nat) (l:Int),l∈Ac n.ls->Pure Tryz.prog TB 217 [Nh n,Al (Af n),Al (BK (Af n) x),eI .i64 l] (Al (FD n (Af n) (BK (Af n) x) l)):=λx l A=>by
  have B:=Aj A;exact Xw q (Ng (λz h=>by have:=c z h;omega) _) (by omega) (by omega)
 have y:(Ac n.ls).length<=6:=AM n.ls 6;unfold DK;refine eN Tryz.func194 rfl (by kernel_rfl) rfl ?_;intro Γ a;(repeat first|refine aU rfl ?_);(refine Ag rfl ?_;refine CM (λ_ _=>Dj rfl rfl rfl) rfl ?_);(refine Ag rfl ?_;refine CM (λ_ _=>CQ rfl) rfl ?_);(repeat first|refine aU rfl ?_|apply Aa);(refine pW rfl ?_ rfl (by rfl);refine Bj rfl rfl rfl rfl (by simp) (by rfl) (by rfl) (by rfl) (by rfl) ?_);(repeat first|refine tM rfl ?_|refine sP rfl (Cm n.ls) rfl ?_|refine aU rfl ?_|apply Aa);apply aB;refine Ak.A5 (α:={k:Nat // k<=tot}) (λ⟨k,hk⟩=>[(1,Al (Af n)),(2,eI .i64 tot),(3,.o (.ip (OK n))),(7,.o (.arr 0 1 0 k)),(8,Al (Ac n.ls)),(9,eI .i64 k)]) (λ⟨k,hk⟩=>[(0,.cells 26 1 (((List.range k).map (FF n)).map Y0))]) 1 (λ⟨k,hk⟩=>tot-k) (⟨0,by omega⟩) [0] (En a rfl rfl) (by (simp[cX,zC,a])) ?_;rintro⟨k,hk⟩;(try dsimp only);(repeat first|refine tM rfl ?_|refine s2 rfl λ_ u=>?_|refine aU rfl ?_|apply Aa);(refine aC rfl ?_ ?_<;>rintro⟨⟩)
 ·have t:k<tot:=by (simp only[oZ] at *;omega)
  apply aK;refine aS (aB ?_);(repeat first|refine tM rfl ?_|refine sP rfl (e k t) rfl ?_|refine aU rfl ?_|apply Aa);(refine pW rfl ?_ rfl (by rfl);refine Bj rfl rfl rfl rfl (by simp) (by rfl) (by rfl) (by rfl) (by rfl) ?_);(repeat first|refine tM rfl ?_|refine aU rfl ?_|apply Aa);apply aB;generalize hL:Ac n.ls=ls at *;refine Ak.A5 (α:={m:Nat // m<=ls.length}) (λ⟨m,s⟩=>[(1,Al (Af n)),(2,eI .i64 tot),(3,.o (.ip (OK n))),(7,.o (.arr 0 1 0 k)),(8,Al ls),(9,eI .i64 k),(10,Al (BK (Af n) k)),(11,.o (.arr 1 1 0 m)),(12,eI .i64 m)]) (λ⟨m,s⟩=>[(0,.cells 26 1 (((List.range k).map (FF n)).map Y0)),(1,.cells 63 1 (((ls.take m).map λl=>FD n (Af n) (BK (Af n) k) l).map Xk))]) 2 (λ⟨m,s⟩=>ls.length-m) (⟨0,by omega⟩) [0,1] (En a rfl rfl) (by (simp[cX,zC,a])) ?_;rintro⟨m,s⟩;(try dsimp only);(repeat first|refine sN rfl ?_|refine tM rfl ?_|refine s2 rfl λ_ u=>?_|refine aU rfl ?_|apply Aa);(refine aC rfl ?_ ?_<;>rintro⟨⟩)
  ·obtain⟨x,f⟩:=get_some (l:=ls) (k:=m) (by (simp only[oZ] at *;omega))
   have w:=get_map (g:=Bs) f;have i:=p k x (co f);apply aK;refine aS (aB ?_);refine rG (Hm [10]) (by kernel_rfl) ?_;(repeat first|refine tA rfl ?_|(refine s4 rfl ‹_› rfl ?_ ?_;omega)|refine sP rfl (i) rfl ?_);(refine pW rfl ?_ rfl (by rfl);refine Au rfl rfl rfl (by first|(simp;done)|(simp;(omega))) rfl (by intro r d;simp at d;subst d;rfl) (by rfl) (am rfl) (by simp;omega) ?_);(repeat first|(refine sX rfl ?_ ?_;first|exact tI|omega)|refine aU rfl ?_|apply Aa);refine⟨⟨m+1,by (simp only[oZ] at *;omega)⟩,by dsimp only;((simp only[oZ] at *;omega)),[0,2],?_⟩;simp[cX,zC,a,d8,f,pu]
  ·obtain rfl:m=ls.length:=by (simp only[oZ] at *;omega)
   apply aE;rw[io] at *
   have b:ls.map (λl=>FD n (Af n) (BK (Af n) k) l)=FF n k:=by rw[<-hL];rfl
   rw[b]
   have j:(FF n k).length=ls.length:=by rw[<-b];simp
   refine Ak.freeze [1] [(1,Al (Af n)),(2,eI .i64 tot),(3,.o (.ip (OK n))),(7,.o (.arr 0 1 0 k)),(8,Al ls),(9,eI .i64 k),(11,Gm (FF n k))] ⟨⟨_,rfl,.AS⟩,⟨_,rfl,.AS⟩,⟨_,rfl,.AS⟩,⟨_,rfl,.AS⟩,⟨_,rfl,.AS⟩,⟨_,rfl,.AS⟩,⟨_,rfl,.o (.full (by simp) rfl (by simp[d5]) (by simp[j]))⟩,trivial⟩ ?_;(repeat first|refine tA rfl ?_|refine aU rfl ?_);(refine pW rfl ?_ rfl (by rfl);refine Au rfl rfl rfl (by first|(simp;done)|(simp;(omega))) rfl (by intro r d;simp at d;subst d;rfl) (by rfl) (am rfl) (by simp;omega) ?_);(repeat first|(refine sX rfl ?_ ?_;first|exact tI|omega)|refine aU rfl ?_|apply Aa);refine⟨⟨k+1,by omega⟩,by dsimp only;(omega),[2],?_⟩;simp[cX,zC,a,qz]
 ·obtain rfl:k=tot:=by (simp only[oZ] at *;omega)
  apply aE;(repeat first|refine tM rfl ?_|refine aU rfl ?_|apply Aa);refine Ak.freeze [0] [(6,Ea ((List.range k).map (FF n)))] ⟨⟨_,rfl,.o (.full (by simp) rfl (by simp[d5]) (by simp))⟩,trivial⟩ ?_;refine aR ⟨_,rfl,rfl⟩
def bf(n:Net)(st:List Int)(i:Nat):Bool:=((n.au[i]?.map (·.ac)).getD []).getD (st.getD (n.ps.length+i) 0).toNat false
def CU(n:Net)(st:List Int)(mv:List (List Int)):Bool:=
 if n.kd=0 then bf n st 0 else if n.kd=1 then bf n st 0 != bf n st 1 else if n.kd=2 then bf n st 0 && !bf n st 1 else if n.kd=3 then !bf n st 0 else
 if n.kd=5 then decide (st.getD n.ps.length 0=n.gl) else mv.all (·.isEmpty)
structure fC (n:Net):Prop where
 one:n.kd=0\/n.kd=3\/n.kd=5->1<=n.au.length
 two:n.kd=1\/n.kd=2->2<=n.au.length
theorem U9{n:Net}(h:Eh n){st:List Int}(g:Fits (Af n) st)(i:Nat)(hi:i<n.au.length):Pure Tryz.prog TB 218 [Nh n,Al st,eI .i64 i] (eB (bf n st i)):=by
 obtain⟨a,ha⟩:=get_some hi;have d:=h.au a (co ha);have p:=AJ d
 have e:(Af n)[n.ps.length+i]?=some (a.nx.length:Int):=by unfold Af;rw[gc (by simp)];simp[ha]
 have f:=g.len;obtain⟨q,c⟩:=get_some (l:=st) (k:=n.ps.length+i) (by have:=(ce.1 e).1;omega);have o:=g.get _ _ _ e c;obtain⟨b,hb⟩:=get_some (l:=a.ac) (k:=q.toNat) (by omega);have m:=gn (TB:=TB) n st i a q b ha c o.1 hb
 have j:bf n st i=b:=by simp[bf,ha,List.getD,c,hb]
 rw[j];exact m
theorem Xu{n:Net}(e:Eh n)(hk:fC n){st:List Int}(h:Fits (Af n) st)(mv:List (List Int)):Pure Tryz.prog TB 195 [Nh n,Al st,Gm mv] (eB (CU n st mv)):=by
 have v:=U9 (TB:=TB) e h 0;have u:=U9 (TB:=TB) e h 1;have s:=hk.one;have r:=hk.two;have p:=e.np;have q:=e.na
 have m:n.ps.length+n.au.length=st.length:=by have:=h.len;unfold Af at this;simpa using this
 have d:n.kd=5->(st.map Bs)[((n.ps.length:Nat):Int).toNat]?=some (Bs (st.getD n.ps.length 0)):=by
  intro y;obtain⟨x,c⟩:=get_some (l:=st) (k:=n.ps.length) (by omega);rw[get_map (g:=Bs) c];simp[List.getD,c]
 refine eN Tryz.func195 rfl (by kernel_rfl) rfl ?_;intro Γ b;refine Ak.bound 2 rfl λi=>?_;have w:=i (mv.map Fa) .refl;(repeat' first|refine sN rfl ?_|refine tA rfl ?_|refine s2 rfl λ_ a=>?_|(refine sC rfl (v (by (simp only[oZ] at *;omega))) ?_;intro _ a)|(refine sC rfl (u (by (simp only[oZ] at *;omega))) ?_;intro _ a)|refine s3 rfl ?_ ?_<;>rintro rfl|refine aU rfl ?_|apply Aa|refine rE (by kernel_rfl) ?_|(refine aC rfl ?_ ?_<;>rintro⟨⟩)|apply aK|apply aE|apply aB|refine aR ⟨_,rfl,?_⟩)
 all_goals try (show E.o _=E.o _;congr;unfold CU;grind)
 ·have d:=d (by grind)
  (repeat' first|refine tA rfl ?_|(refine s4 rfl ‹_› rfl ?_ ?_;omega)|refine s2 rfl λ_ a=>?_|apply Aa|(refine aC rfl ?_ ?_<;>rintro⟨⟩)|apply aK|apply aE|apply aB|refine aR ⟨_,rfl,?_⟩)
  show E.o _=E.o _;congr;unfold CU;grind
 refine Ak.A5 (α:={k:Nat // k<=mv.length/\(mv.take k).all (·.isEmpty)=true}) (λ⟨k,hk,ha⟩=>[(2,Gm mv),(7,eI .i64 k)]) (λ⟨k,hk,ha⟩=>[]) 0 (λ⟨k,hk,ha⟩=>mv.length-k) (⟨0,by omega,rfl⟩) [] (En b rfl rfl) (by (simp[cX,zC,b])) ?_;rintro⟨k,hk,ha⟩;(try dsimp only);(repeat first|refine sN rfl ?_|refine tA rfl ?_|refine s2 rfl λ_ a=>?_|refine aU rfl ?_|apply Aa);(refine aC rfl ?_ ?_<;>rintro⟨⟩)
 ·obtain⟨x,c⟩:=get_some (l:=mv) (k:=k) (by (simp only[oZ] at *;omega))
  have j:=get_map (g:=Fa) c;(repeat' first|refine sN rfl ?_|(refine sA rfl ?_ ?_;first|exact tI|simp only[oZ] at *;omega)|(refine s4 rfl ‹_› rfl ?_ ?_;omega)|refine s2 rfl λ_ a=>?_|refine aU rfl ?_|apply Aa|(refine aC rfl ?_ ?_<;>rintro⟨⟩)|apply aK|apply aE|apply aB|refine aR ⟨_,rfl,?_⟩)
  ·have t:=Ir (f:=λx:List Int=>x.isEmpty) c (by cases x<;>grind)
   show E.o _=E.o _;congr;unfold CU;grind
  ·refine⟨⟨k+1,by (simp only[oZ] at *;omega),GS c ha (by cases x<;>grind)⟩,by dsimp only;((simp only[oZ] at *;omega)),[],?_⟩
   simp[cX,zC,b]
 ·(repeat' first|refine tA rfl ?_|refine aU rfl ?_|apply Aa|(refine aC rfl ?_ ?_<;>rintro⟨⟩)|apply aK|apply aE|apply aB|refine aR ⟨_,rfl,?_⟩)
  have t:=GR ha (by (simp only[oZ] at *;omega))
  show E.o _=E.o _;congr;unfold CU;grind
theorem HU{α β:Type}{l:List α}{g:α->β}{k:Nat}{x:α}(h:l[k]?=some x):(l.map g)[0+((k:Nat):Int).toNat]?=some (g x):=by simp[h]
theorem Ig{l:List Int}{k:Nat}{x y:Int}:(l.map AD).set (0+((k:Nat):Int).toNat) (Ae (AD x) 0 (eC (eI .i64 y)))=(l.set k y).map AD:=by
 simp[Ae,eC,p6]
def Rw(l:List Int):Nat:=l.countP (decide <| · < 0)
theorem Vo:∀ {l:List Int} {k:Nat} {x y:Int},l[k]?=some x->x<0->0<=y->Rw (l.set k y)+1=Rw l
 | [],k,x,y,h,_,_=>by simp at h
 | a::l,0,x,y,h,b,c=>by
  simp at h;subst h
  have:¬y<0:=by omega
  simp[Rw,b,this]
 | a::l,k+1,x,y,h,b,c=>by
  have:=Vo (l:=l) (k:=k) (by simpa using h) b c;simp only[Rw,List.set_cons_succ,List.countP_cons]at this |-;omega
theorem Sm{mv:List (List Int)}{dist:List Int}{d:Int}:Mn mv dist d=true↔∃r∈mv,∃j∈r,dist.getD j.toNat 0=d:=by
 simp[Mn,jj]
structure SJ (mv:List (List (List Int))) (g:Nat->Bool) (dist:List Int):Prop where
 len:dist.length=mv.length
 zero:∀i,i<mv.length->(dist.getD i 0=0↔g i=true)
 step:∀i,i<mv.length->0<dist.getD i 0->∃r∈mv.getD i [],∃j∈r,dist.getD j.toNat 0=dist.getD i 0-1
 close:∀i,i<mv.length->∀r∈mv.getD i [],∀j∈r,0<=dist.getD j.toNat 0->0<=dist.getD i 0/\dist.getD i 0<=dist.getD j.toNat 0+1
 bound:∀i,i<mv.length->-1<=dist.getD i 0/\dist.getD i 0<=mv.length+1
structure DI (mv:List (List (List Int))) (g:Nat->Bool) (dist:List Int) (d:Int) (more:Bool) (i:Nat):Prop where
 len:dist.length=mv.length
 d1:1<=d
 zero:∀i,i<mv.length->(dist.getD i 0=0↔g i=true)
 step:∀i,i<mv.length->0<dist.getD i 0->∃r∈mv.getD i [],∃j∈r,dist.getD j.toNat 0=dist.getD i 0-1
 lt:∀x,x<mv.length->-1<=dist.getD x 0/\dist.getD x 0<=d
 up:∀x,i<=x->x<mv.length->dist.getD x 0<d
 last:more=false->∀x,x<mv.length->dist.getD x 0<d
 close:∀x,x<mv.length->∀r∈mv.getD x [],∀j∈r,0<=dist.getD j.toNat 0->(dist.getD j.toNat 0<d-1\/x<i/\dist.getD j.toNat 0=d-1)->0<=dist.getD x 0/\dist.getD x 0<=dist.getD j.toNat 0+1
def Pg(mv:List (List (List Int))):Prop:=∀x,x<mv.length->∀r∈mv.getD x [],∀j∈r,0<=j/\j<mv.length
theorem UL{l:List Int}{k:Nat}{y:Int}(h:k<l.length):(l.set k y).getD k 0=y:=by simp[List.getD,h]
theorem PG{l:List Int}{k x:Nat}{y:Int}(h:k≠x):(l.set k y).getD x 0=l.getD x 0:=by simp[List.getD,h]
theorem DI.set{mv:List (List (List Int))}{g:Nat->Bool}{dist:List Int}{d:Int}{more:Bool}{i:Nat}(h:DI mv g dist d more i)(hi:i<mv.length)(w:dist.getD i 0<0)(B:Mn (mv.getD i []) dist (d-1)=true):DI mv g (dist.set i d) d true (i+1):=by
 have v:=h.d1
 have G:i<dist.length:=by rw[h.len];exact hi
 obtain⟨z,p,A,u,t⟩:=Sm.1 B;have l:(dist.set i d).getD i 0=d:=UL G;have f:∀x,x≠i->(dist.set i d).getD x 0=dist.getD x 0:=λx a=>PG (Ne.symm a)
 have y:∀x,0<=dist.getD x 0->(dist.set i d).getD x 0=dist.getD x 0:=λx a=>f x λe=>by subst e;omega
 refine⟨by simp[h.len],v,λx a=>?_,λx a q=>?_,λx a=>?_,λx a o=>?_,λF=>(by cases F),λx a r m j n b c=>?_⟩
 ·by_cases e:x=i
  ·subst e;rw[l,<-h.zero x a];constructor<;>intro<;>omega
  ·rw[f x e];exact h.zero x a
 ·by_cases e:x=i
  ·subst e;rw[l]at q |-
   exact⟨z,p,A,u,by rw[y _ (by omega)];exact t⟩
  ·rw[f x e]at q |-
   obtain⟨r,m,j,n,s⟩:=h.step x a q;exact⟨r,m,j,n,by rw[y _ (by omega)];exact s⟩
 ·by_cases e:x=i
  ·subst e;rw[l];omega
  ·rw[f x e];exact h.lt x a
 ·rw[f x (by omega)];exact h.up x (by omega) o
 ·by_cases ej:j.toNat=i
  ·rw[ej,l]at c;omega
  ·rw [f _ ej]at b c |-
   by_cases e:x=i
   ·subst e;rw[l]
    refine⟨by omega,?_⟩
    rcases c with k|⟨_,k⟩
    ·have:=(h.close x a r m j n b (.inl k)).1;omega
    ·omega
   ·rw[f x e]
    exact h.close x a r m j n b (by rcases c with k|⟨k,H⟩;exact .inl k;exact .inr ⟨by omega,H⟩)
theorem DI.AS{mv:List (List (List Int))}{g:Nat->Bool}{dist:List Int}{d:Int}{more:Bool}{i:Nat}(h:DI mv g dist d more i)(hi:i<mv.length)(q:dist.getD i 0<0->Mn (mv.getD i []) dist (d-1)=false):DI mv g dist d more (i+1):=by
 refine⟨h.len,h.d1,h.zero,h.step,h.lt,λx b f=>h.up x (by omega) f,h.last,λx b r k j m a l=>?_⟩
 rcases l with p|⟨p,o⟩
 ·exact h.close x b r k j m a (.inl p)
 ·by_cases e:x=i
  ·subst e
   by_cases c:dist.getD x 0<0
   ·have s:=q c
    have n:=Sm.2 ⟨r,k,j,m,o⟩;rw[s]at n;cases n
   ·have:=h.up x (jp _) b
    omega
  ·exact h.close x b r k j m a (.inr ⟨by omega,o⟩)
theorem DI.next{mv:List (List (List Int))}{g:Nat->Bool}{dist:List Int}{d:Int}{more:Bool}(h:DI mv g dist d more mv.length):DI mv g dist (d+1) true 0:=by
 have k:=h.d1;refine⟨h.len,by omega,h.zero,h.step,λx a=>?_,λx _ a=>?_,λe=>(by cases e),λx a r c j i b f=>?_⟩
 ·have:=h.lt x a;omega
 ·have:=h.lt x a;omega
 ·exact h.close x a r c j i b (by omega)
theorem DI.fin{mv:List (List (List Int))}{g:Nat->Bool}{dist:List Int}{d:Int}(c:Pg mv)(h:DI mv g dist d false mv.length)(k:d<=mv.length+1):SJ mv g dist:=by
 have i:=h.d1;refine⟨h.len,h.zero,h.step,λx a r e j f b=>?_,λx a=>?_⟩
 ·have l:=c x a r e j f
  have:=h.last rfl j.toNat (by omega);exact h.close x a r e j f b (by omega)
 ·have:=h.lt x a;have:=h.last rfl x a;omega
structure Uj (mv:List (List (List Int))) (g:Nat->Bool) (dt:List Int) (d:Int) (more:Bool):Prop where
 len:dt.length=mv.length
 d1:1<=d
 d2:d<=mv.length+2
 yes:more=true->DI mv g dt d true 0/\d+Rw dt<=mv.length+1
 no:more=false->SJ mv g dt
theorem gC(l:List Int):Rw l<=l.length:=List.countP_le_length
theorem Uj.init{mv:List (List (List Int))}{g:Nat->Bool}{dist:List Int}(a:dist.length=mv.length)(c:∀i,i<mv.length->dist.getD i 0=if g i then 0 else -1):Uj mv g dist 1 true:=by
 have b:∀x,x<mv.length->-1<=dist.getD x 0/\dist.getD x 0<1:=λx b=>by have:=c x b;split at this<;>omega
 have l:=gC dist;refine⟨a,by omega,by omega,λ_=>⟨⟨a,by omega,λx h=>?_,λx h k=>?_,λx h=>?_,λx _ h=>(b x h).2,λh=>(by cases h),λx h r f j m e d=>?_⟩,by omega⟩,λh=>(by cases h)⟩
 ·have:=c x h;split at this<;>simp_all
 ·have:=b x h;omega
 ·have:=b x h;omega
 ·omega
structure Oz (mv:List (List (List Int))) (g:Nat->Bool) (dt:List Int) (d:Int) (du:List Int) (m2:Bool) (i:Nat):Prop where
 le:i<=mv.length
 di:DI mv g du d m2 i
 cnt:Rw du+(if m2 then 1 else 0)<=Rw dt
theorem Oz.init{mv:List (List (List Int))}{g:Nat->Bool}{dt:List Int}{d:Int}(h:DI mv g dt d true 0):Oz mv g dt d dt false 0:=
 ⟨pH _,⟨h.len,h.d1,h.zero,h.step,h.lt,h.up,λ_ x a=>h.up x (pH _) a,h.close⟩,by simp⟩
theorem Oz.set{mv:List (List (List Int))}{g:Nat->Bool}{dt:List Int}{d:Int}{du:List Int}{b:Bool}{i:Nat}(h:Oz mv g dt d du b i)(hi:i<mv.length)(a:du.getD i 0<0)(c:Mn (mv.getD i []) du (d-1)=true):Oz mv g dt d (du.set i d) true (i+1):=by
 have k:=h.di.len;have e:=h.di.d1
 have j:du[i]?=some (du.getD i 0):=by
  have:i<du.length:=by omega
  simp[List.getD,this]
 have l:=Vo j a (y:=d) (by omega);have f:=h.cnt;refine⟨hi,h.di.set hi a c,?_⟩;simp only[if_true];split at f<;>omega
theorem Oz.AS{mv:List (List (List Int))}{g:Nat->Bool}{dt:List Int}{d:Int}{du:List Int}{a:Bool}{i:Nat}(h:Oz mv g dt d du a i)(hi:i<mv.length)(b:du.getD i 0<0->Mn (mv.getD i []) du (d-1)=false):Oz mv g dt d du a (i+1):=
 ⟨hi,h.di.AS hi b,h.cnt⟩
theorem Oz.next{mv:List (List (List Int))}{g:Nat->Bool}{dt:List Int}{d:Int}{du:List Int}{c:Bool}(b:Pg mv)(h:Oz mv g dt d du c mv.length)(i:d+Rw dt<=mv.length+1):Uj mv g du (d+1) c:=by
 have e:=h.di.d1;have f:=h.cnt;refine⟨h.di.len,by omega,by omega,λa=>?_,λa=>?_⟩
 ·subst a
  simp only[if_true]at f;exact⟨h.di.next,by omega⟩
 ·subst a
  exact h.di.fin b (by omega)
theorem aG(mv:List (List (List Int)))(g:Nat->Bool)(dist:List Int)(q:Pg mv)(P:mv.length<=1048576)(p:dist.length=mv.length)(N:∀i,i<mv.length->dist.getD i 0=if g i then 0 else -1) :
    Spec Tryz.prog TB 197 [(0,.cells 3 1 (dist.map AD))] 1 [Ea mv,.o (.arr 0 1 0 mv.length)] (λx σ nx=>x=.t []/\nx=1/\∃dist',SJ mv g dist'/\σ=[(0,.cells 3 1 (dist'.map AD))]):=by
  refine eN Tryz.func197 rfl (by kernel_rfl) rfl ?_;intro Γ a;(repeat first|refine tM rfl ?_|refine aU rfl ?_|apply Aa);apply aB;refine Ak.A5 (α:={x:List Int×Int×Bool // Uj mv g x.1 x.2.1 x.2.2}) (λ⟨⟨dt,d,more⟩,j⟩=>[(0,Ea mv),(1,.o (.arr 0 1 0 mv.length)),(4,eB more),(5,eI .i64 d)]) (λ⟨⟨dt,d,more⟩,j⟩=>[(0,.cells 3 1 (dt.map AD))]) 1 (λ⟨⟨dt,d,more⟩,j⟩=>2*Rw dt+(if more then 1 else 0)) (⟨(dist,1,true),Uj.init p N⟩) [0] (En a rfl rfl) (by (simp[cX,zC,a])) ?_;rintro⟨⟨dt,d,more⟩,j⟩;(try dsimp only);simp only at j;(repeat first|refine tM rfl ?_|refine aU rfl ?_|apply Aa);(refine aC rfl ?_ ?_<;>rintro⟨⟩)
  · obtain⟨H,M⟩:=j.yes rfl
    have L:=H.d1;apply aK;refine aS (aB ?_);(repeat first|refine tM rfl ?_|refine aU rfl ?_|apply Aa);apply aB;refine Ak.A5 (α:={x:List Int×Bool×Nat // Oz mv g dt d x.1 x.2.1 x.2.2}) (λ⟨⟨du,h,i⟩,e⟩=>[(0,Ea mv),(1,.o (.arr 0 1 0 mv.length)),(4,eB h),(5,eI .i64 d),(6,eI .i64 i)]) (λ⟨⟨du,h,i⟩,e⟩=>[(0,.cells 3 1 (du.map AD))]) 1 (λ⟨⟨du,h,i⟩,e⟩=>mv.length-i) (⟨(dt,false,0),Oz.init H⟩) [0] (En a rfl rfl) (by (simp[cX,zC,a])) ?_;rintro⟨⟨du,h,i⟩,e⟩;(try dsimp only);simp only at e;have w:=e.di.len;have G:=e.le;(repeat first|refine tM rfl ?_|refine s2 rfl λ_ s=>?_|refine aU rfl ?_|apply Aa);(refine aC rfl ?_ ?_<;>rintro⟨⟩)
    · obtain⟨y,B⟩:=get_some (l:=du) (k:=i) (by (simp only[oZ] at *;omega))
      have I:=HU (g:=AD) B;obtain⟨mi,m⟩:=get_some (l:=mv) (k:=i) (by (simp only[oZ] at *;omega));have F:=get_map (g:=KV) m
      have c:i<mv.length:=by (simp only[oZ] at *;omega)
      have u:du.getD i 0=y:=by simp[List.getD,B]
      have n:mv.getD i []=mi:=by simp[List.getD,m]
      have f:=e.set c;have b:=e.AS c;rw[u,n]at f b;apply aK;refine aS (aB ?_);(repeat' first|((first|refine sM rfl ?_ ?_|refine s4 rfl ‹_› rfl ?_ ?_);first|exact tI|omega)|refine s2 rfl λ_ s=>?_|(refine Ag rfl ?_;refine gA rfl ?_;first|(refine n7 (IK rfl rfl ((.cons (.o (.pure rfl)) (.cons (.o (.full rfl (by simp[d5]) (by simp[w]))) (.cons (.o (.pure rfl)) .nil)))) (aH mi du (d-1) (λr K v J=>by have:=q i c r (by rw[n];exact K) v J;exact⟨this.1,by omega⟩)) rfl) rfl ?_;intro _ s))|refine s3 rfl ?_ ?_<;>rintro rfl|refine aU rfl ?_|apply Aa|(refine aC rfl ?_ ?_<;>rintro⟨⟩)|apply aK|apply aE|apply aB|refine aR ⟨_,rfl,?_⟩)
      all_goals first
        | (refine⟨⟨(du,h,i+1),b (by grind)⟩,by dsimp only;(omega),[0],?_⟩
           simp[cX,zC,a]
           done)
        | (refine⟨⟨(du.set i d,true,i+1),f (by grind) (by grind)⟩,by dsimp only;(omega),[0],?_⟩
           rw[Ig];simp[cX,zC,a]
           done)
    · obtain rfl:i=mv.length:=by (simp only[oZ] at *;omega)
      have A:=e.next q M;have z:=e.cnt;apply aE;(repeat first|(refine sM rfl ?_ ?_;first|exact tI|omega)|refine aU rfl ?_|apply Aa);refine⟨⟨(du,d+1,h),A⟩,?_,[0],?_⟩
      · dsimp only
        cases h<;>simp at z |- <;> omega
      · simp[cX,zC,a]
  · apply aE
    exact⟨_,rfl,rfl,rfl,dt,j.no rfl,rfl⟩
theorem aJ(l:List Int)(a:Int):l.length=l.count a+(l.filter (· != a)).length:=by
 induction l with
 | nil=>rfl
 | cons b l c=>
  simp only[List.count_cons,rF,pD];by_cases h:b=a
  ·subst h;simp;omega
  ·simp[h];omega
theorem GG:∀(n:Nat) (l:List Int),l.Nodup->(∀x∈l,0<=x/\x<n)->l.length<=n
 | 0,l,_,h=>by
  cases l with
  | nil=>simp
  | cons a l=>have:=h a (by simp);omega
 | n+1,l,b,h=>by
  have i:=aJ l n;have g:=List.nodup_iff_count.1 b n
  have f:=GG n (l.filter (· != (n:Int))) (b.filter _) λx c=>by
   obtain⟨e,d⟩:=o9.1 c;have:=h x e;simp at d;omega
  omega
def I9(dist:List Int)(d:Int)(acc:List Int)(j:Int):List Int:=if dist.getD j.toNat 0=d/\j∉acc then acc++[j] else acc
theorem YH(dist:List Int)(d:Int)(acc:List Int)(j:Int):I9 dist d acc j=if dist.getD j.toNat 0=d/\j∉acc then acc++[j] else acc:=rfl
def FV(mv:List (List (List Int)))(dist at':List Int)(k:Nat)(d:Int):List Int:=at'.foldl (λacc x=>((mv.getD x.toNat []).getD k []).foldl (I9 dist d) acc) []
def DS(n:Nat)(acc:List Int):Prop:=acc.Nodup/\∀x∈acc,0<=x/\x<n
theorem DS.add{n:Nat}{acc:List Int}(h:DS n acc){dist:List Int}{d j:Int}(f:0<=j/\j<n):DS n (I9 dist d acc j):=by
 unfold I9;split
 ·rename_i g
  refine⟨qD.2 ⟨h.1,by simp,λa ha b hb=>?_⟩,λx c=>?_⟩
  ·simp at hb;subst hb;intro e;subst e;exact g.2 ha
  ·rcases f6.1 c with c|c
   ·exact h.2 x c
   ·simp at c;subst c;exact f
 ·exact h
theorem DS.fold{n:Nat}{dist:List Int}{d:Int}:∀ {l acc:List Int},DS n acc->(∀j∈l,0<=j/\j<n)->DS n (l.foldl (I9 dist d) acc)
 | [],_,h,_=>h
 | j::_,_,h,a=>by rw[p8];exact DS.fold (h.add (a j (by simp))) λx b=>a x (by simp[b])
theorem mem_row{mv:List (List (List Int))}(c:Pg mv){x:Int}(d:0<=x/\x<mv.length)(k:Nat):∀j∈(mv.getD x.toNat []).getD k [],0<=j/\j<mv.length:=by
 intro j a
 cases b:(mv.getD x.toNat [])[k]? with
 | none=>
  have:(mv.getD x.toNat []).getD k []=[]:=by rw[List.getD,b];rfl
  rw[this]at a;cases a
 | some r=>
  have:(mv.getD x.toNat []).getD k []=r:=by rw[List.getD,b];rfl
  rw[this]at a;exact c x.toNat (by omega) r (co b) j a
theorem DS.jm{mv:List (List (List Int))}(a:Pg mv){dist:List Int}{d:Int}{k:Nat}:∀ {l acc:List Int},DS mv.length acc->(∀x∈l,0<=x/\x<mv.length)->DS mv.length (l.foldl (λacc x=>((mv.getD x.toNat []).getD k []).foldl (I9 dist d) acc) acc)
 | [],_,h,_=>h
 | j::_,_,h,b=>by rw[p8];exact DS.jm a (h.fold (mem_row a (b j (by simp)) k)) λx c=>b x (by simp[c])
theorem DS.nil{n:Nat}:DS n []:=⟨.nil,λx a=>(by cases a)⟩
theorem GW{α β:Type}{l:List α}{k:Nat}{x:α}(h:l[k]?=some x)(f:β->α->β)(b:β):(l.take (k+1)).foldl f b=f ((l.take k).foldl f b) x:=by
 rw[d8,h,rv];rfl
theorem U0(mv:List (List (List Int)))(dist at':List Int)(k:Nat)(d:Int)(B:Pg mv)(hN:mv.length<=1048576)(U:dist.length=mv.length)(ha:∀x∈at',0<=x/\x<mv.length)(hal:at'.length<=1048576)(hk:∀i,i<mv.length->k<(mv.getD i []).length) :
 Pure Tryz.prog TB 199 [Ea mv,Al dist,Al at',eI .i64 k,eI .i64 d] (Al (FV mv dist at' k d)):=by
 have G:∀m,DS mv.length ((at'.take m).foldl (λacc x=>((mv.getD x.toNat []).getD k []).foldl (I9 dist d) acc) []):=λm=>DS.jm B .nil λx n=>ha x (pb n);refine eN Tryz.func199 rfl (by kernel_rfl) rfl ?_;intro Γ c;refine Ak.bound 0 rfl λR=>?_;(repeat first|refine aU rfl ?_);(refine Ag rfl ?_;refine CM (λ_ _=>CQ rfl) rfl ?_);(repeat first|refine aU rfl ?_|apply Aa);(refine pW rfl ?_ rfl (by rfl);refine Bj rfl rfl rfl rfl (by simp) (by rfl) (by rfl) (by rfl) (by rfl) ?_);(repeat first|refine tM rfl ?_|refine aU rfl ?_|apply Aa);apply aB;refine Ak.A5 (α:={m:Nat // m<=at'.length}) (λ⟨m,M⟩=>[(0,Ea mv),(1,Al dist),(2,Al at'),(3,eI .i64 k),(4,eI .i64 d),(11,.o (.arr 0 1 0 ((at'.take m).foldl (λacc x=>((mv.getD x.toNat []).getD k []).foldl (I9 dist d) acc) []).length)),(12,eI .i64 m)]) (λ⟨m,M⟩=>[(0,.cells 3 1 (((at'.take m).foldl (λacc x=>((mv.getD x.toNat []).getD k []).foldl (I9 dist d) acc) []).map AD))]) 1 (λ⟨m,M⟩=>at'.length-m) (⟨0,by omega⟩) [0] (En c rfl rfl) (by (simp[cX,zC,c])) ?_;rintro⟨m,M⟩;(try dsimp only);have s:=G m;have q:=λx=>GW (l:=at') (k:=m) (x:=x) (f:=λacc x=>((mv.getD x.toNat []).getD k []).foldl (I9 dist d) acc) (b:=[]);generalize J:(at'.take m).foldl (λacc x=>((mv.getD x.toNat []).getD k []).foldl (I9 dist d) acc) []=acc at *;(repeat first|refine sN rfl ?_|refine tM rfl ?_|refine s2 rfl λ_ t=>?_|refine aU rfl ?_|apply Aa);(refine aC rfl ?_ ?_<;>rintro⟨⟩)
 ·obtain⟨y,L⟩:=get_some (l:=at') (k:=m) (by (simp only[oZ] at *;omega))
  have Y:=get_map (g:=Bs) L;have K:=ha y (co L);obtain⟨my,w⟩:=get_some (l:=mv) (k:=y.toNat) (by omega)
  have v:(mv.map KV)[y.toNat]?=some (KV my):=by simp[w]
  have A:=hk y.toNat (by omega)
  have p:mv.getD y.toNat []=my:=by simp[List.getD,w]
  rw[p]at A;obtain⟨r,u⟩:=get_some (l:=my) (k:=k) A;have hr':=get_map (g:=Fa) u
  have F:my.getD k []=r:=by simp[List.getD,u]
  have h:=mem_row B K k;rw[p,F]at h;have e:=q y L;rw[p,F]at e;have hBr:=R (r.map Bs) (.l (i:=y.toNat) (j:=0) (r:=KV my) v rfl (.l (i:=k) (j:=0) (r:=Fa r) (by simp[u]) rfl .refl));have P:∀j,DS mv.length ((r.take j).foldl (I9 dist d) acc):=λj=>s.fold λx n=>h x (pb n);apply aK;refine aS (aB ?_);(repeat first|refine tM rfl ?_|(refine s4 rfl ‹_› rfl ?_ ?_;omega)|refine aU rfl ?_|apply Aa);apply aB;refine Ak.A5 (α:={j:Nat // j<=r.length}) (λ⟨j,N⟩=>[(0,Ea mv),(1,Al dist),(2,Al at'),(3,eI .i64 k),(4,eI .i64 d),(11,.o (.arr 0 1 0 ((r.take j).foldl (I9 dist d) acc).length)),(12,eI .i64 m),(13,Al r),(14,eI .i64 j)]) (λ⟨j,N⟩=>[(0,.cells 3 1 (((r.take j).foldl (I9 dist d) acc).map AD))]) 1 (λ⟨j,N⟩=>r.length-j) (⟨0,by omega⟩) [0] (En c rfl rfl) (by (simp[cX,zC,c])) ?_;rintro⟨j,N⟩;(try dsimp only);have H:=P j;have a:=λx=>GW (l:=r) (k:=j) (x:=x) (f:=I9 dist d) (b:=acc);generalize I:(r.take j).foldl (I9 dist d) acc=S at *;(repeat first|refine sN rfl ?_|refine tM rfl ?_|refine s2 rfl λ_ t=>?_|refine aU rfl ?_|apply Aa);(refine aC rfl ?_ ?_<;>rintro⟨⟩)
  ·obtain⟨x,n⟩:=get_some (l:=r) (k:=j) (by (simp only[oZ] at *;omega))
   have hx':=get_map (g:=Bs) n;have Z:=h x (co n);obtain⟨z,T⟩:=get_some (l:=dist) (k:=x.toNat) (by omega)
   have X:(dist.map Bs)[x.toNat]?=some (Bs z):=by simp[T]
   have Q:dist.getD x.toNat 0=z:=by simp[List.getD,T]
   have a:=a x n;have V:=GG _ _ H.1 H.2;rw[YH,Q]at a;apply aK;refine aS (aB ?_);(repeat' first|(refine sM rfl ?_ ?_;first|exact tI|simp only[oZ] at *;omega)|(refine s4 rfl ‹_› rfl ?_ ?_;omega)|refine s2 rfl λ_ t=>?_|(refine Ag rfl ?_;refine gA rfl ?_;first|(refine n7 (IK rfl rfl ((.cons (.o (.full rfl (by simp[d5]) (by simp))) (.cons (.o (.pure rfl)) .nil))) (gm S x) rfl) rfl ?_;intro _ t))|refine s3 rfl ?_ ?_<;>rintro rfl|refine aU rfl ?_|apply Aa|(refine aC rfl ?_ ?_<;>rintro⟨⟩)|apply aK|apply aE|apply aB|refine aR ⟨_,rfl,?_⟩)
   all_goals try (rw[if_neg (by grind)]at a;refine⟨⟨j+1,by (simp only[oZ] at *;omega)⟩,by dsimp only;((simp only[oZ] at *;omega)),[0],?_⟩;simp[cX,zC,c,a];done)
   all_goals rw[if_pos (by grind)]at a
   (repeat first|refine tA rfl ?_);(refine pW rfl ?_ rfl (by rfl);refine Au rfl rfl rfl (by first|(simp;done)|(simp;(omega))) rfl (by intro r u;simp at u;subst u;rfl) (by rfl) (am rfl) (by simp;omega) ?_);(repeat first|(refine sX rfl ?_ ?_;first|exact tI|simp only[oZ] at *;omega)|refine aU rfl ?_|apply Aa);refine⟨⟨j+1,by (simp only[oZ] at *;omega)⟩,by dsimp only;((simp only[oZ] at *;omega)),[1],?_⟩;simp[cX,zC,c,a]
  ·obtain rfl:j=r.length:=by (simp only[oZ] at *;omega)
   apply aE;rw[io]at I;subst I;(repeat first|(refine sM rfl ?_ ?_;first|exact tI|omega)|refine aU rfl ?_|apply Aa);refine⟨⟨m+1,by (simp only[oZ] at *;omega)⟩,by dsimp only;((simp only[oZ] at *;omega)),[0],?_⟩;simp[cX,zC,c,e,-List.getD_eq_getElem?_getD]
 ·obtain rfl:m=at'.length:=by (simp only[oZ] at *;omega)
  apply aE;(repeat first|refine tM rfl ?_|refine aU rfl ?_|apply Aa);rw[io]at J;subst J;refine Ak.freeze [0] [(10,Al (FV mv dist at' k d))] ⟨⟨_,rfl,.o (.full (by simp) rfl (by simp[d5,FV]) (by simp))⟩,trivial⟩ ?_;refine aR ⟨_,rfl,rfl⟩
end Go.Am
