/-
  Where letters lead: members of a product, products.
-/
import Derived.Test.YtdipaikojjjebaaGreatDoorPart16
set_option linter.all false
namespace Go.Am
open Go
def BI(s:Sys)(q l:Int):List Int:=if AV s.al l.toNat then (s.es.filter λe=>decide (e.f=q) && decide (e.l=l)).map (·.t) else [q]
theorem Xk{a b c:Ea}(h:Kz a b=true)(k:Kz b c=true):Kz a c=true:=by
 unfold Kz at *;grind
theorem AN{s:Sys}(h:AU s=true):A1 s.al=true/\1<=s.st/\s.st<=16:=by
 unfold AU at h;grind
theorem C8{s:Sys}(h:AU s=true){e:Ea}(b:e∈s.es):DA s.al s.st e=true:=by
 obtain⟨k,hk,rfl⟩:=q9 b;unfold AU at h;simp only[d4,ge]at h;have a:=h.2 k (pi.2 hk)
 cases k with
 | zero=>rw[T9 (d6 hk)]at a;exact a
 | succ k=>rw[O3 (d6 hk) (d6 (by omega))]at a;grind
theorem My{s:Sys}(h:AU s=true):s.es.Pairwise λa b=>Kz a b=true:=by
 have key:∀(l:List Ea),(∀(k:Nat) (p e:Ea),l[k]?=some p->l[k+1]?=some e->Kz p e=true)->l.Pairwise λa b=>Kz a b=true:=by
  intro l
  induction l with
  | nil=>intro _;exact .nil
  | cons a l j=>
   intro g;have f:=j λk p e hp d=>g (k+1) p e (by simpa using hp) (by simpa using d);refine rK.2 ⟨λb hb=>?_,f⟩
   cases l with
   | nil=>cases hb
   | cons c l=>
    have i:=g 0 a c rfl rfl
    rcases lw.1 hb with rfl|hb
    ·exact i
    ·exact Xk i ((rK.1 f).1 b hb)
 refine key _ λk p e hp d=>?_;unfold AU at h;simp only[d4,ge]at h;have f:=h.2 (k+1) (pi.2 (am.1 d).1);rw[O3 d hp]at f;grind
theorem PD:∀(l:List Int) (a b:Int),(a::l).Pairwise (· < ·)->(∀x∈a::l,x<b)->a+((l.length:Int)+1)<=b
 | [],a,b,_,h=>by have:=h a (by simp);simp;omega
 | c::l,a,b,hp,h=>by
  have f:=PD l c b (rK.1 hp).2 λx d=>h x (by simp at d |-;exact .inr d);have e:=(rK.1 hp).1 c (by simp);simp;omega
theorem Ua{s:Sys}(h:AU s=true)(q l:Int):(BI s q l).Pairwise (· < ·):=by
 unfold BI;split
 ·rw[se]
  refine List.Pairwise.imp_of_mem (λ{a b} ha hb c=>?_) ((My h).filter _);have e:=(qX.1 ha).2;have d:=(qX.1 hb).2;unfold Kz at c;grind
 ·simp
theorem JQ{s:Sys}(h:AU s=true){q l:Int}(f:0<=q)(d:q<s.st){x:Int}(a:x∈BI s q l):0<=x/\x<s.st:=by
 unfold BI at a;split at a
 ·obtain⟨e,b,rfl⟩:=d9.1 a
  have c:=C8 h (qX.1 b).1;unfold DA at c;grind
 ·simp at a;subst a;exact⟨f,d⟩
theorem NC{s:Sys}(h:AU s=true){q l:Int}(f:0<=q)(e:q<s.st):((BI s q l).length:Int)<=s.st:=by
 have d:=Ua h q l;have c:∀x∈BI s q l,0<=x/\x<s.st:=λx b=>JQ h f e b;generalize BI s q l=m at d c
 cases m with
 | nil=>simp;omega
 | cons a m=>
  have i:=PD m a s.st d λx b=>(c x b).2;have g:=c a (by simp);simp;omega
theorem Cn{a:AK}(h:AD a=true){q:Nat}(f:q<a.nx.length){l:Int}(j:0<=l)(i:l<6):0<=Bg a q l/\Bg a q l<a.nx.length:=by
 obtain⟨row,e,g,d⟩:=GC h f;unfold Bg;split
 ·rename_i hb
  have b:(AI a.al l.toNat).length<row.length:=by rw[g];exact IH (by omega) hb
  obtain⟨y,c⟩:=get_some b;have:=d _ y c
  simpa[List.getD,e,c]using this
 ·omega
structure DS (n:Net):Prop where
 ps:∀s∈n.ps,AU s=true
 au:∀a∈n.au,AD a=true
 np:n.ps.length<=3
 na:n.au.length<=2
def KP(n:Net)(st:List Int)(l:Int):List (List Int):=n.ps.zipWith (λs q=>BI s q l) st++n.au.zipWith (λa q=>[Bg a q.toNat l]) (st.drop n.ps.length)
def Hh:List Int->List (List Int)->List Int->List Int
 | z::zs,c::cs,out=>Hh zs cs (out.flatMap λo=>c.map λx=>o*z+x)
 | _,_,out=>out
def Fp(n:Net)(zs st:List Int)(l:Int):List Int:=Hh zs (KP n st l) [0]
inductive FM:List Int->List (List Int)->Prop
 | nil:FM [] []
 | cons {z:Int} {c:List Int} {zs:List Int} {cs:List (List Int)}:(∀x∈c,0<=x/\x<z)->(c.length:Int)<=z->FM zs cs->FM (z::zs) (c::cs)
theorem Sg:∀ {zs:List Int} {cs:List (List Int)} {k:Nat} {z:Int} {c:List Int} (out:List Int),zs[k]?=some z->cs[k]?=some c->
 Hh (zs.take (k+1)) (cs.take (k+1)) out=(Hh (zs.take k) (cs.take k) out).flatMap λo=>c.map λx=>o*z+x
 | [],_,k,z,s,n,d,_=>by simp at d
 | a::zs,[],k,z,s,n,_,e=>by simp at e
 | a::zs,b::ss,0,z,s,n,d,e=>by
  simp at d e;subst d e;simp[Hh]
 | a::zs,b::ss,k+1,z,s,n,d,e=>by
  simp only[uc,Hh];exact Sg _ (by simpa using d) (by simpa using e)
theorem LC{α β:Type}(l:List α)(g:α->List β)(n:Int)(h:∀x∈l,((g x).length:Int)<=n):((l.flatMap g).length:Int)<=l.length*n:=by
 induction l with
 | nil=>simp
 | cons a l b=>
  have f:=h a (by simp);have e:=b λx c=>h x (by simp[c]);simp only[uv,rW,rO]
  have d:((l.length:Int)+1)*n=l.length*n+n:=by rw[tg];simp
  push_cast
  omega
theorem Tv{zs:List Int}{cs:List (List Int)}(h:FM zs cs):∀(out:List Int) (B:Int),(∀o∈out,0<=o/\o<B)->0<=B->(out.length:Int)<=B->
 (∀v∈Hh zs cs out,0<=v/\v<B*Ax zs)/\((Hh zs cs out).length:Int)<=B*Ax zs:=by
 induction h with
 | nil=>intro out B e i f;simp[Hh,Ax];exact⟨e,f⟩
 | @cons z c zs cs m g _ k=>
  intro out B e i f
  have a:0<=z:=by omega
  have q:=k (out.flatMap λo=>c.map λx=>o*z+x) (B*z) (λv b=>by
   obtain⟨o,d,b⟩:=s8.1 b;obtain⟨x,l,rfl⟩:=d9.1 b;obtain⟨j,p⟩:=e o d;obtain⟨t,s⟩:=m x l;have r:0<=o*z:=rH j a;have n:(o+1)*z<=B*z:=r7 (by omega) a;rw[tg]at n
   omega) (rH i a) (by
    have j:=LC out (λo=>c.map λx=>o*z+x) z (λx _=>by simpa using g);have p:(out.length:Int)*z<=B*z:=r7 f a
    omega)
  rw[Hh,Ax,<-s5];exact q
theorem FM.take{zs:List Int}{cs:List (List Int)}(h:FM zs cs):∀k,FM (zs.take k) (cs.take k):=by
 induction h with
 | nil=>intro k;simp;exact .nil
 | cons c b d a=>
  intro k
  cases k with
  | zero=>exact .nil
  | succ k=>exact .cons c b (a k)
theorem FM.get{zs:List Int}{cs:List (List Int)}(h:FM zs cs):∀(k:Nat) (z:Int) (c:List Int),zs[k]?=some z->cs[k]?=some c->(∀x∈c,0<=x/\x<z)/\(c.length:Int)<=z:=by
 induction h with
 | nil=>intro k z s a;simp at a
 | cons f e _ d=>
  intro k z s a b
  cases k with
  | zero=>simp at a b;subst a b;exact⟨f,e⟩
  | succ k=>exact d k z s (by simpa using a) (by simpa using b)
theorem FM.len{zs:List Int}{cs:List (List Int)}(h:FM zs cs):zs.length=cs.length:=by
 induction h with
 | nil=>rfl
 | cons _ _ _ a=>simp[a]
theorem Fits.split{zs zs' ss:List Int}(h:Fits (zs++zs') ss):Fits zs (ss.take zs.length)/\Fits zs' (ss.drop zs.length):=by
 induction zs generalizing ss with
 | nil=>exact⟨.nil,h⟩
 | cons a zs b=>
  cases h with
  | cons e d c=>exact⟨.cons e d (b c).1,(b c).2⟩
theorem FM.app{zs zs':List Int}{cs cs':List (List Int)}(h:FM zs cs)(d:FM zs' cs'):FM (zs++zs') (cs++cs'):=by
 induction h with
 | nil=>exact d
 | cons c b _ a=>exact .cons c b a
theorem GB{α β γ:Type}(f:α->β->γ):∀(l:List α) (m:List β),l.zipWith f m=l.zipWith f (m.take l.length)
 | [],_=>by simp
 | a::l,[]=>by simp
 | a::l,b::m=>by simp[GB f l m]
theorem Iz{n:Net}(g:DS n){st:List Int}(h:Fits (Ai n) st){l:Int}(k:0<=l)(j:l<6):FM (Ai n) (KP n st l):=by
 unfold Ai at *;obtain⟨ha,hb⟩:=h.split;rw[gt]at ha hb;unfold KP;refine FM.app ?_ ?_
 ·have : n.ps.zipWith (λs q=>BI s q l) st=n.ps.zipWith (λs q=>BI s q l) (st.take n.ps.length):=by
   exact GB _ _ _
  rw[this];have hp:=g.ps;generalize st.take n.ps.length=ss at ha;generalize n.ps=ps at ha hp
  induction ps generalizing ss with
  | nil=>cases ha;exact .nil
  | cons s ps d=>
   cases ha with
   | cons f c e=>
    have b:=hp s (by simp);exact .cons (λx a=>JQ b f c a) (NC b f c) (d _ e λt ht=>hp t (by simp[ht]))
 ·have hp:=g.au
  generalize st.drop n.ps.length=ss at hb;generalize n.au=au at hb hp
  induction au generalizing ss with
  | nil=>cases hb;exact .nil
  | cons s ps d=>
   cases hb with
   | @cons _ q _ _ f c e=>
    have b:=hp s (by simp);dsimp only at c;have i:=Cn b (q:=q.toNat) (by omega) k j;exact .cons (λx a=>by simp at a;subst a;exact i) (by dsimp only;simp;omega) (d _ e λt ht=>hp t (by simp[ht]))
theorem GG{n:Net}(c:DS n):∀z∈Ai n,1<=z/\z<=16:=by
 intro z b;unfold Ai at b
 rcases gc.1 b with h|h
 ·obtain⟨s,d,rfl⟩:=d9.1 h
  have:=AN (c.ps s d);omega
 ·obtain⟨a,ha,rfl⟩:=d9.1 h
  have:=AB (c.au a ha);omega
theorem Ic:∀(l:List Int),(∀z∈l,1<=z/\z<=16)->1<=Ax l/\Ax l<=16 ^ l.length
 | [],_=>by simp[Ax]
 | z::l,h=>by
  obtain⟨i,g⟩:=Ic l λx a=>h x (by simp[a]);obtain⟨f,e⟩:=h z (by simp);have d:z*Ax l<=16*16 ^ l.length:=rf e g (by omega) (by omega);have c:1*1<=z*Ax l:=rf f i (by omega) (by omega)
  have b:(16:Int) ^ (l.length+1)=16*16 ^ l.length:=by rw[Int.pow_succ,tH]
  simp only[Ax,rO,b];exact⟨by simpa using c,d⟩
theorem OU{n:Net}(a:DS n):1<=Ax (Ai n)/\Ax (Ai n)<=1048576:=by
 obtain⟨d,c⟩:=Ic _ (GG a);refine⟨d,Int.le_trans c ?_⟩
 have b:(Ai n).length<=5:=by unfold Ai;have:=a.np;have:=a.na;simp;omega
 generalize (Ai n).length=k at b
 have:k=0\/k=1\/k=2\/k=3\/k=4\/k=5:=by omega
 rcases this with rfl|rfl|rfl|rfl|rfl|rfl<;>decide
end Go.Am
namespace Go.Am
open Go Go.Proofs
set_option maxHeartbeats 1000000
set_option maxRecDepth 4000
attribute [local irreducible] A5 Ck Lex Br Aj Spec
variable {TB:BJ}
theorem Ru(n:Net)(i:Nat)(a:AK)(q:Nat)(l:Int)(ha:n.au[i]?=some a)(b:AD a=true)(e:q<a.nx.length)(h:0<=l)(f:l<6)(k:n.ps.length<=3)(m:n.au.length<=2) :
 Pure Tryz.prog TB 225 [MU n,eI .i64 (n.ps.length+i),eI .i64 q,eI .i64 l] (Ak [Bg a q l]):=by
 have hi:=(am.1 ha).1;have c:=get_map (g:=AE) ha
 have o:((n.ps.length:Int)+i-n.ps.length).toNat=((i:Nat):Int).toNat:=by omega
 have p:(n.au.map AE)[((n.ps.length:Int)+i-n.ps.length).toNat]?=some (AE a):=by rw[o];exact c
 refine eN Tryz.func225 rfl (by kernel_rfl) rfl ?_;intro U j;(repeat' first|refine sN rfl ?_|(refine sA rfl ?_ ?_;first|exact tI|omega)|(refine s4 rfl ‹_› rfl ?_ ?_;omega)|refine s2 rfl λ_ d=>?_|(refine sC rfl (J0 a b q e l h f) ?_;intro _ d)|refine sP rfl (J0 a b q e l h f) rfl ?_|refine aU rfl ?_|apply Aa|(refine aC rfl ?_ ?_<;>rintro⟨⟩)|apply aK|apply aE|apply aB|refine aR ⟨_,rfl,?_⟩)
 all_goals first|rfl|(exfalso;(simp only[oZ] at *;omega))
theorem Rv(n:Net)(i:Nat)(s:Sys)(q l:Int)(x:n.ps[i]?=some s)(j:AU s=true)(v:0<=q)(u:q<s.st)(I:0<=l)(F:l<6)(A:n.ps.length<=3) :
    Pure Tryz.prog TB 225 [MU n,eI .i64 i,eI .i64 q,eI .i64 l] (Ak (BI s q l)):=by
  have hi:=(am.1 x).1;have z:=get_map (g:=AF) x;refine eN Tryz.func225 rfl (by kernel_rfl) rfl ?_;intro U c;(repeat first|refine aU rfl ?_);(refine Al rfl ?_;refine CX (λ_ _=>Gm rfl rfl rfl) rfl ?_);(refine Al rfl ?_;refine CX (λ_ _=>CK rfl) rfl ?_);(repeat first|refine sN rfl ?_|refine tM rfl ?_|refine s2 rfl λ_ b=>?_|(refine sC rfl (CT _ _ (by omega) (by omega)) ?_;intro _ b)|refine aU rfl ?_|apply Aa);(refine aC rfl ?_ ?_<;>rintro⟨⟩)
  · exfalso;(simp only[oZ] at *;omega)
  apply aK;(repeat first|refine tM rfl ?_|(refine s4 rfl ‹_› rfl ?_ ?_;omega)|refine s2 rfl λ_ b=>?_|(refine sC rfl (CT _ _ (by omega) (by omega)) ?_;intro _ b)|refine aU rfl ?_|apply Aa);(refine aC rfl ?_ ?_<;>rintro⟨⟩)
  · (repeat' first|refine tA rfl ?_|refine aU rfl ?_|apply Aa|(refine aC rfl ?_ ?_<;>rintro⟨⟩)|apply aK|apply aE|apply aB|refine aR ⟨_,rfl,?_⟩)
    rw[show BI s q l=[q] by unfold BI;rw[if_neg (by grind)]];rfl
  apply aK;(repeat first|refine aU rfl ?_);(refine pW rfl ?_ rfl (by rfl);refine A8 rfl rfl rfl rfl (by simp) (by rfl) (by rfl) (by rfl) (by rfl) ?_);(repeat first|refine tM rfl ?_|(refine s4 rfl ‹_› rfl ?_ ?_;omega)|refine aU rfl ?_|apply Aa);refine Aj.bound 10 rfl λw=>?_;have w:=w _ .refl;rw[gt]at w;apply aB
  have h:AV s.al l.toNat=true:=by grind
  refine Aj.Be (α:={k:Nat // k<=s.es.length}) (λ⟨k,hk⟩=>[(2,eI .i64 q),(3,eI .i64 l),(9,.o (.arr 0 1 0 (BI { s with es:=s.es.take k } q l).length)),(10,ky s.es),(11,eI .i64 k)]) (λ⟨k,hk⟩=>[(0,.cells 3 1 ((BI { s with es:=s.es.take k } q l).map Av))]) 1 (λ⟨k,hk⟩=>s.es.length-k) (⟨0,by omega⟩) [0] (Fw c rfl rfl) (by (simp[cX,zC,c,BI,h])) ?_;rintro⟨k,hk⟩;(try dsimp only);(repeat first|refine sN rfl ?_|refine tM rfl ?_|refine s2 rfl λ_ b=>?_|refine aU rfl ?_|apply Aa)
  have m:∀k,(BI { s with es:=s.es.take k } q l).length<=16:=by
    intro k;have F:=NC j (l:=l) v u;have H:=AN j
    have G:(BI { s with es:=s.es.take k } q l).length<=(BI s q l).length:=by
      simp only[BI,h,if_true,gt];exact((List.take_sublist k s.es).filter _).length_le
    omega
  have a:∀e,s.es[k]?=some e->BI { s with es:=s.es.take (k+1) } q l=BI { s with es:=s.es.take k } q l++if e.f=q/\e.l=l then [e.t] else []:=by
    intro e p;simp only[BI,h,if_true,i7,p,Option.toList_some,sj,rI,t8,List.filter_nil];grind
  (refine aC rfl ?_ ?_<;>rintro⟨⟩)
  · obtain⟨e,p⟩:=get_some (l:=s.es) (k:=k) (by (simp only[oZ] at *;omega))
    have B:=get_map (g:=De) p;have a:=a e p;apply aK;refine aS (aB ?_);(repeat' first|(refine sM rfl ?_ ?_;first|exact tI|simp only[oZ] at *;omega)|(refine s4 rfl ‹_› rfl ?_ ?_;omega)|refine s2 rfl λ_ b=>?_|refine s3 rfl ?_ ?_<;>rintro rfl|refine aU rfl ?_|apply Aa|(refine aC rfl ?_ ?_<;>rintro⟨⟩)|apply aK|apply aE|apply aB|refine aR ⟨_,rfl,?_⟩)
    all_goals first
      | (rw[if_pos (by grind)]at a
         (repeat first|refine tA rfl ?_);(refine pW rfl ?_ rfl (by rfl);refine Au rfl rfl rfl (by first|(simp;done)|(simp;(omega))) rfl (by intro r y;simp at y;subst y;rfl) (by rfl) (ce rfl) (by have:=m k;simp;omega) ?_);(repeat first|(refine sX rfl ?_ ?_;first|exact tI|simp only[oZ] at *;omega)|refine aU rfl ?_|apply Aa);refine⟨⟨k+1,by (simp only[oZ] at *;omega)⟩,by dsimp only;((simp only[oZ] at *;omega)),[1],?_⟩;simp[cX,zC,c,a]
         done)
      | (rw[if_neg (by grind),rv]at a
         refine⟨⟨k+1,by (simp only[oZ] at *;omega)⟩,by dsimp only;((simp only[oZ] at *;omega)),[0],?_⟩;simp[cX,zC,c,a]
         done)
  · obtain rfl:k=s.es.length:=by (simp only[oZ] at *;omega)
    apply aE;(repeat first|refine tM rfl ?_|refine aU rfl ?_|apply Aa);refine Aj.freeze [0] [(8,.o (.d (EA (BI s q l))))] ⟨⟨_,rfl,.o (.full (by simp) rfl (by simp[d5]) (by simp))⟩,trivial⟩ ?_;refine aR ⟨_,rfl,rfl⟩
theorem Tp{n:Net}(h:DS n){st:List Int}(p:Fits (Ai n) st){l:Int}(u:0<=l)(t:l<6){i:Nat}{c:List Int}{q:Int}(b:(KP n st l)[i]?=some c)(g:st[i]?=some q) :
 Pure Tryz.prog TB 225 [MU n,eI .i64 i,eI .i64 q,eI .i64 l] (Ak c):=by
 have d:=p.len;unfold Ai at d;simp only[rW,gt]at d
 have f:=(p.get i)
 have m:(n.ps.zipWith (λs q=>BI s q l) st).length=n.ps.length:=by rw[List.length_zipWith];omega
 have w:=(am.1 g).1;unfold KP at b;by_cases hi:i<n.ps.length
 ·rw[f9 (by omega)]at b
  obtain⟨s,k⟩:=get_some hi;rw[uC,k,g]at b;simp only[Option.some.injEq]at b;subst b;have o:=f s.st q (by unfold Ai;rw[f9 (by simpa using hi)];simp[k]) g;exact Rv n i s q l k (h.ps s (co k)) o.1 o.2 u t h.np
 ·obtain⟨j,rfl⟩:∃j,i=n.ps.length+j:=⟨i-n.ps.length,by omega⟩
  rw[io (by omega),m]at b
  have e:n.ps.length+j-n.ps.length=j:=by omega
  rw[e]at b
  have v:j<n.au.length:=by omega
  obtain⟨a,ha⟩:=get_some v;rw[uC,ha,rm,g]at b;simp only[Option.some.injEq]at b;subst b;have o:=f a.nx.length q (by unfold Ai;rw[io (by simp)];simp[ha]) g;have r:=Ru (TB:=TB) n j a q.toNat l ha (h.au a (co ha)) (by omega) u t h.np h.na
  have x:((q.toNat:Nat):Int)=q:=by omega
  rw[x]at r
  push_cast
  exact r
theorem VC{n:Net}(a:DS n){st:List Int}(b:Fits (Ai n) st){l:Int}(f:0<=l)(e:l<6)(k:Nat) :
 (∀v∈Hh ((Ai n).take k) ((KP n st l).take k) [0],0<=v/\v<1048576)/\(Hh ((Ai n).take k) ((KP n st l).take k) [0]).length<=1048576:=by
 have c:=Tv ((Iz a b f e).take k) [0] 1 (by simp) (by omega) (by simp);have h:=(b.take k).2;have g:=OU a;rw[uy]at c;exact⟨λv d=>by have:=c.1 v d;omega,by omega⟩
theorem XL{n:Net}(b:DS n){st:List Int}(w:Fits (Ai n) st){l:Int}(N:0<=l)(M:l<6) :
 Pure Tryz.prog TB 217 [MU n,Ak (Ai n),Ak st,eI .i64 l] (Ak (Fp n (Ai n) st l)):=by
 have s:=Iz b w N M;have t:=VC b w N M;have Y:=OU b;have hfl:=w.len;have hcl:=s.len;unfold Fp;have d:∀(i:Nat) (c:List Int) (q:Int),(KP n st l)[i]?=some c->st[i]?=some q->Pure Tryz.prog TB 225 [MU n,eI .i64 i,eI .i64 q,eI .i64 l] (Ak c):=λi c q=>Tp b w N M
 have R:(Ai n).length<=5:=by unfold Ai;have:=b.np;have:=b.na;simp;omega
 have f:=GG b;generalize KP n st l=cs at *;generalize Ai n=zs at *;refine eN Tryz.func217 rfl (by kernel_rfl) rfl ?_;intro U a;(repeat first|refine aU rfl ?_);(refine Al rfl ?_;refine CX (λ_ _=>Gm rfl rfl rfl) rfl ?_);(refine Al rfl ?_;refine CX (λ_ _=>CK rfl) rfl ?_);(repeat first|refine tA rfl ?_|refine aU rfl ?_|apply Aa);apply aB;refine Aj.Be (α:={k:Nat // k<=zs.length}) (λ⟨k,hk⟩=>[(1,Ak zs),(2,Ak st),(3,eI .i64 l),(4,.o (.ip (OA n))),(9,Ak (Hh (zs.take k) (cs.take k) [0])),(10,eI .i64 k)]) (λ⟨k,hk⟩=>[]) 0 (λ⟨k,hk⟩=>zs.length-k) (⟨0,by omega⟩) [] (Fw a rfl rfl) (by (simp[cX,zC,a,Hh])) ?_;rintro⟨k,hk⟩;(try dsimp only);(repeat first|refine sN rfl ?_|refine tA rfl ?_|refine s2 rfl λ_ u=>?_|refine aU rfl ?_|apply Aa);(refine aC rfl ?_ ?_<;>rintro⟨⟩)
 ·obtain⟨z,v⟩:=get_some (l:=zs) (k:=k) (by (simp only[oZ] at *;omega))
  have S:=get_map (g:=Bc) v;obtain⟨c,J⟩:=get_some (l:=cs) (k:=k) (by (simp only[oZ] at *;omega));obtain⟨q,Q⟩:=get_some (l:=st) (k:=k) (by (simp only[oZ] at *;omega));have X:=get_map (g:=Bc) Q;have e:=Sg [0] v J;have L:=t k;have K:=(t (k+1)).2;have y:=f z (co v);obtain⟨I,hcn⟩:=s.get k z c v J;rw[e]at K;generalize Hh (zs.take k) (cs.take k) [0]=out at *;apply aK;refine aS (aB ?_);(repeat first|refine tM rfl ?_|(refine s4 rfl ‹_› rfl ?_ ?_;omega)|refine sP rfl (d k c q J Q) rfl ?_|refine aU rfl ?_|apply Aa|refine rE (by kernel_rfl) ?_);(refine pW rfl ?_ rfl (by rfl);refine A8 rfl rfl rfl rfl (by simp) (by rfl) (by rfl) (by rfl) (by rfl) ?_);(repeat first|refine tM rfl ?_|refine aU rfl ?_|apply Aa);apply aB
  have p:∀m,(((out.take m).flatMap λo=>c.map λx=>o*z+x).length:Int)<=16777216:=by
   intro m;have h2:=LC (out.take m) (λo=>c.map λx=>o*z+x) 16 (λx _=>by simp;omega)
   have h3:(out.take m).length<=out.length:=by simp;omega
   omega
  refine Aj.Be (α:={m:Nat // m<=out.length}) (λ⟨m,F⟩=>[(1,Ak zs),(2,Ak st),(3,eI .i64 l),(4,.o (.ip (OA n))),(9,Ak out),(10,eI .i64 k),(11,Ak c),(12,.o (.arr 0 1 0 ((out.take m).flatMap λo=>c.map λx=>o*z+x).length)),(13,eI .i64 m)]) (λ⟨m,F⟩=>[(0,.cells 3 1 (((out.take m).flatMap λo=>c.map λx=>o*z+x).map Av))]) 1 (λ⟨m,F⟩=>out.length-m) (⟨0,by omega⟩) [0] (Fw a rfl rfl) (by (simp[cX,zC,a])) ?_;rintro⟨m,F⟩;(try dsimp only);(repeat first|refine sN rfl ?_|refine tM rfl ?_|refine s2 rfl λ_ u=>?_|refine aU rfl ?_|apply Aa);(refine aC rfl ?_ ?_<;>rintro⟨⟩)
  ·obtain⟨o,B⟩:=get_some (l:=out) (k:=m) (by (simp only[oZ] at *;omega))
   have Z:=get_map (g:=Bc) B;have h:=L.1 o (co B);have hlm:=p m
   have h16:0<=o*z/\o*z<=16777216:=⟨rH h.1 (by omega),by
    have h5:o*z<=o*16:=rC y.2 h.1
    omega⟩
   have H:(out.take (m+1)).flatMap (λo=>c.map λx=>o*z+x)=(out.take m).flatMap (λo=>c.map λx=>o*z+x)++c.map λx=>o*z+x:=by
    rw[i7,B];simp
   apply aK;refine aS (aB ?_);(repeat first|refine tM rfl ?_|refine aU rfl ?_|apply Aa);apply aB;generalize (out.take m).flatMap (λo=>c.map λx=>o*z+x)=pre at *;refine Aj.Be (α:={j:Nat // j<=c.length}) (λ⟨j,G⟩=>[(1,Ak zs),(2,Ak st),(3,eI .i64 l),(4,.o (.ip (OA n))),(9,Ak out),(10,eI .i64 k),(11,Ak c),(12,.o (.arr 0 1 0 (pre.length+j))),(13,eI .i64 m),(14,eI .i64 j)]) (λ⟨j,G⟩=>[(0,.cells 3 1 ((pre++(c.take j).map λx=>o*z+x).map Av))]) 1 (λ⟨j,G⟩=>c.length-j) (⟨0,by omega⟩) [0] (Fw a rfl rfl) (by (simp[cX,zC,a])) ?_;rintro⟨j,G⟩;(try dsimp only);(repeat first|refine sN rfl ?_|refine tM rfl ?_|refine s2 rfl λ_ u=>?_|refine aU rfl ?_|apply Aa);(refine aC rfl ?_ ?_<;>rintro⟨⟩)
   ·obtain⟨x,A⟩:=get_some (l:=c) (k:=j) (by (simp only[oZ] at *;omega))
    have V:=get_map (g:=Bc) A;have T:=I x (co A);apply aK;refine aS (aB ?_);refine rG (Hz [16]) (by kernel_rfl) ?_;(repeat first|(refine sA rfl ?_ ?_;first|exact tI|omega)|(refine s4 rfl ‹_› rfl ?_ ?_;omega));(refine pW rfl ?_ rfl (by rfl);refine Au rfl rfl rfl (by first|(simp;done)|(simp;(omega))) rfl (by intro r P;simp at P;subst P;rfl) (by rfl) (ce rfl) (by simp;omega) ?_);(repeat first|(refine sX rfl ?_ ?_;first|exact tI|omega)|refine aU rfl ?_|apply Aa);refine⟨⟨j+1,by (simp only[oZ] at *;omega)⟩,by dsimp only;((simp only[oZ] at *;omega)),[1],?_⟩;simp[cX,zC,a,i7,A,rz]
   ·obtain rfl:j=c.length:=by (simp only[oZ] at *;omega)
    apply aE;(repeat first|(refine sM rfl ?_ ?_;first|exact tI|omega)|refine aU rfl ?_|apply Aa);refine⟨⟨m+1,by (simp only[oZ] at *;omega)⟩,by dsimp only;((simp only[oZ] at *;omega)),[0],?_⟩;simp[cX,zC,a,H]
  ·obtain rfl:m=out.length:=by (simp only[oZ] at *;omega)
   apply aE;rw[i8] at *;refine Aj.freeze [0] [(1,Ak zs),(2,Ak st),(3,eI .i64 l),(4,.o (.ip (OA n))),(10,eI .i64 k),(12,Ak (out.flatMap λo=>c.map λx=>o*z+x))] ⟨⟨_,rfl,.A0⟩,⟨_,rfl,.A0⟩,⟨_,rfl,.A0⟩,⟨_,rfl,.A0⟩,⟨_,rfl,.A0⟩,⟨_,rfl,.o (.full (by simp) rfl (by simp[d5]) (by simp))⟩,trivial⟩ ?_;(repeat first|(refine sA rfl ?_ ?_;first|exact tI|omega)|refine aU rfl ?_|apply Aa);refine⟨⟨k+1,by (simp only[oZ] at *;omega)⟩,by dsimp only;((simp only[oZ] at *;omega)),[],?_⟩;simp[cX,zC,a,e]
 ·obtain rfl:k=zs.length:=by (simp only[oZ] at *;omega)
  rw[kw (by omega),kw (by omega)];(repeat' first|refine tA rfl ?_|refine aU rfl ?_|apply Aa|(refine aC rfl ?_ ?_<;>rintro⟨⟩)|apply aK|apply aE|apply aB|refine aR ⟨_,rfl,?_⟩)
  all_goals rfl
abbrev Zt(l:List (List Int)):List C:=[.d (Ce l)]
abbrev DL(l:List (List (List Int))):E:=.o (.d (ja l))
theorem Af{s:Int}{k:Nat}{l:Int}(h:l∈AI s k):0<=l/\l<k/\AV s l.toNat=true:=by
 unfold AI at h;obtain⟨i,hi,rfl⟩:=d9.1 h;obtain⟨b,a⟩:=qX.1 hi;have:=pi.1 b;exact⟨Int.natCast_nonneg _,by show ((i:Nat):Int)<k;omega,a⟩
theorem Sl:∀ {l:List Int},(∀z∈l,0<z)->0<Ax l
 | [],_=>by simp[Ax]
 | a::l,h=>Int.mul_pos (h a (by simp)) (Sl λz b=>h z (by simp[b]))
theorem MT:∀ {zs:List Int} (_:∀z∈zs,0<z) (n:Int),Fits zs (BF zs n)
 | [],_,_=>.nil
 | z::zs,h,n=>by
  have a:=h z (by simp);exact .cons (rN _ (by omega)) (rA _ a) (MT (λx b=>h x (by simp[b])) n)
def Fx(n:Net)(x:Nat):List (List Int):=(Ab n.ls).map λl=>Fp n (Ai n) (BF (Ai n) x) l
def Dl(n:Net)(tot:Nat):List (List (List Int)):=(List.range tot).map (Fx n)
theorem Lb{n:Net}{tot i:Nat}(h:i<tot):(Dl n tot)[i]?=some (Fx n i):=by simp[Dl,h]
theorem Qq{n:Net}(a:DS n):(Ai n).length<=5:=by unfold Ai;have:=a.np;have:=a.na;simp;omega
theorem XK{n:Net}(q:DS n)(tot:Nat)(ht:tot<=1048576):Pure Tryz.prog TB 194 [MU n,Ak (Ai n),eI .i64 tot] (DL (Dl n tot)):=by
 have v:=Qq q;have c:=GG q
 have e:∀(x:Nat),x<tot->Pure Tryz.prog TB 196 [Ak (Ai n),eI .i64 x] (Ak (BF (Ai n) x)):=λx f=>
  NX _ _ (by omega) (by omega) (λz h=>by have:=c z h;omega) (by omega)
 have p:∀(x:Nat) (l:Int),l∈Ab n.ls->Pure Tryz.prog TB 217 [MU n,Ak (Ai n),Ak (BF (Ai n) x),eI .i64 l] (Ak (Fp n (Ai n) (BF (Ai n) x) l)):=λx l A=>by
  have B:=Af A;exact XL q (MT (λz h=>by have:=c z h;omega) _) (by omega) (by omega)
 have y:(Ab n.ls).length<=6:=AJ n.ls 6;unfold Dl;refine eN Tryz.func194 rfl (by kernel_rfl) rfl ?_;intro U a;(repeat first|refine aU rfl ?_);(refine Al rfl ?_;refine CX (λ_ _=>Gm rfl rfl rfl) rfl ?_);(refine Al rfl ?_;refine CX (λ_ _=>CK rfl) rfl ?_);(repeat first|refine aU rfl ?_|apply Aa);(refine pW rfl ?_ rfl (by rfl);refine A8 rfl rfl rfl rfl (by simp) (by rfl) (by rfl) (by rfl) (by rfl) ?_);(repeat first|refine tM rfl ?_|refine sP rfl (BX n.ls) rfl ?_|refine aU rfl ?_|apply Aa);apply aB;refine Aj.Be (α:={k:Nat // k<=tot}) (λ⟨k,hk⟩=>[(1,Ak (Ai n)),(2,eI .i64 tot),(3,.o (.ip (OA n))),(7,.o (.arr 0 1 0 k)),(8,Ak (Ab n.ls)),(9,eI .i64 k)]) (λ⟨k,hk⟩=>[(0,.cells 26 1 (((List.range k).map (Fx n)).map Zt))]) 1 (λ⟨k,hk⟩=>tot-k) (⟨0,by omega⟩) [0] (Fw a rfl rfl) (by (simp[cX,zC,a])) ?_;rintro⟨k,hk⟩;(try dsimp only);(repeat first|refine tM rfl ?_|refine s2 rfl λ_ u=>?_|refine aU rfl ?_|apply Aa);(refine aC rfl ?_ ?_<;>rintro⟨⟩)
 ·have t:k<tot:=by (simp only[oZ] at *;omega)
  apply aK;refine aS (aB ?_);(repeat first|refine tM rfl ?_|refine sP rfl (e k t) rfl ?_|refine aU rfl ?_|apply Aa);(refine pW rfl ?_ rfl (by rfl);refine A8 rfl rfl rfl rfl (by simp) (by rfl) (by rfl) (by rfl) (by rfl) ?_);(repeat first|refine tM rfl ?_|refine aU rfl ?_|apply Aa);apply aB;generalize hL:Ab n.ls=ls at *;refine Aj.Be (α:={m:Nat // m<=ls.length}) (λ⟨m,s⟩=>[(1,Ak (Ai n)),(2,eI .i64 tot),(3,.o (.ip (OA n))),(7,.o (.arr 0 1 0 k)),(8,Ak ls),(9,eI .i64 k),(10,Ak (BF (Ai n) k)),(11,.o (.arr 1 1 0 m)),(12,eI .i64 m)]) (λ⟨m,s⟩=>[(0,.cells 26 1 (((List.range k).map (Fx n)).map Zt)),(1,.cells 63 1 (((ls.take m).map λl=>Fp n (Ai n) (BF (Ai n) k) l).map Xw))]) 2 (λ⟨m,s⟩=>ls.length-m) (⟨0,by omega⟩) [0,1] (Fw a rfl rfl) (by (simp[cX,zC,a])) ?_;rintro⟨m,s⟩;(try dsimp only);(repeat first|refine sN rfl ?_|refine tM rfl ?_|refine s2 rfl λ_ u=>?_|refine aU rfl ?_|apply Aa);(refine aC rfl ?_ ?_<;>rintro⟨⟩)
  ·obtain⟨x,f⟩:=get_some (l:=ls) (k:=m) (by (simp only[oZ] at *;omega))
   have w:=get_map (g:=Bc) f;have i:=p k x (co f);apply aK;refine aS (aB ?_);refine rG (Hz [10]) (by kernel_rfl) ?_;(repeat first|refine tA rfl ?_|(refine s4 rfl ‹_› rfl ?_ ?_;omega)|refine sP rfl (i) rfl ?_);(refine pW rfl ?_ rfl (by rfl);refine Au rfl rfl rfl (by first|(simp;done)|(simp;(omega))) rfl (by intro r d;simp at d;subst d;rfl) (by rfl) (ce rfl) (by simp;omega) ?_);(repeat first|(refine sX rfl ?_ ?_;first|exact tI|omega)|refine aU rfl ?_|apply Aa);refine⟨⟨m+1,by (simp only[oZ] at *;omega)⟩,by dsimp only;((simp only[oZ] at *;omega)),[0,2],?_⟩;simp[cX,zC,a,i7,f,rz]
  ·obtain rfl:m=ls.length:=by (simp only[oZ] at *;omega)
   apply aE;rw[i8] at *
   have b:ls.map (λl=>Fp n (Ai n) (BF (Ai n) k) l)=Fx n k:=by rw[<-hL];rfl
   rw[b]
   have j:(Fx n k).length=ls.length:=by rw[<-b];simp
   refine Aj.freeze [1] [(1,Ak (Ai n)),(2,eI .i64 tot),(3,.o (.ip (OA n))),(7,.o (.arr 0 1 0 k)),(8,Ak ls),(9,eI .i64 k),(11,EN (Fx n k))] ⟨⟨_,rfl,.A0⟩,⟨_,rfl,.A0⟩,⟨_,rfl,.A0⟩,⟨_,rfl,.A0⟩,⟨_,rfl,.A0⟩,⟨_,rfl,.A0⟩,⟨_,rfl,.o (.full (by simp) rfl (by simp[d5]) (by simp[j]))⟩,trivial⟩ ?_;(repeat first|refine tA rfl ?_|refine aU rfl ?_);(refine pW rfl ?_ rfl (by rfl);refine Au rfl rfl rfl (by first|(simp;done)|(simp;(omega))) rfl (by intro r d;simp at d;subst d;rfl) (by rfl) (ce rfl) (by simp;omega) ?_);(repeat first|(refine sX rfl ?_ ?_;first|exact tI|omega)|refine aU rfl ?_|apply Aa);refine⟨⟨k+1,by omega⟩,by dsimp only;(omega),[2],?_⟩;simp[cX,zC,a,sT]
 ·obtain rfl:k=tot:=by (simp only[oZ] at *;omega)
  apply aE;(repeat first|refine tM rfl ?_|refine aU rfl ?_|apply Aa);refine Aj.freeze [0] [(6,DL ((List.range k).map (Fx n)))] ⟨⟨_,rfl,.o (.full (by simp) rfl (by simp[d5]) (by simp))⟩,trivial⟩ ?_;refine aR ⟨_,rfl,rfl⟩
def cu(n:Net)(st:List Int)(i:Nat):Bool:=((n.au[i]?.map (·.ac)).getD []).getD (st.getD (n.ps.length+i) 0).toNat false
def CD(n:Net)(st:List Int)(mv:List (List Int)):Bool:=
 if n.kd=0 then cu n st 0 else if n.kd=1 then cu n st 0 != cu n st 1 else if n.kd=2 then cu n st 0 && !cu n st 1 else if n.kd=3 then !cu n st 0 else
 if n.kd=5 then decide (st.getD n.ps.length 0=n.gl) else mv.all (·.isEmpty)
structure iw (n:Net):Prop where
 one:n.kd=0\/n.kd=3\/n.kd=5->1<=n.au.length
 two:n.kd=1\/n.kd=2->2<=n.au.length
theorem Vr{n:Net}(h:DS n){st:List Int}(g:Fits (Ai n) st)(i:Nat)(hi:i<n.au.length):Pure Tryz.prog TB 218 [MU n,Ak st,eI .i64 i] (eB (cu n st i)):=by
 obtain⟨a,ha⟩:=get_some hi;have d:=h.au a (co ha);have p:=AB d
 have e:(Ai n)[n.ps.length+i]?=some (a.nx.length:Int):=by unfold Ai;rw[io (by simp)];simp[ha]
 have f:=g.len;obtain⟨q,c⟩:=get_some (l:=st) (k:=n.ps.length+i) (by have:=(am.1 e).1;omega);have o:=g.get _ _ _ e c;obtain⟨b,hb⟩:=get_some (l:=a.ac) (k:=q.toNat) (by omega);have m:=jf (TB:=TB) n st i a q b ha c o.1 hb
 have j:cu n st i=b:=by simp[cu,ha,List.getD,c,hb]
 rw[j];exact m
theorem XJ{n:Net}(e:DS n)(hk:iw n){st:List Int}(h:Fits (Ai n) st)(mv:List (List Int)):Pure Tryz.prog TB 195 [MU n,Ak st,EN mv] (eB (CD n st mv)):=by
 have v:=Vr (TB:=TB) e h 0;have u:=Vr (TB:=TB) e h 1;have s:=hk.one;have r:=hk.two;have p:=e.np;have q:=e.na
 have m:n.ps.length+n.au.length=st.length:=by have:=h.len;unfold Ai at this;simpa using this
 have d:n.kd=5->(st.map Bc)[((n.ps.length:Nat):Int).toNat]?=some (Bc (st.getD n.ps.length 0)):=by
  intro y;obtain⟨x,c⟩:=get_some (l:=st) (k:=n.ps.length) (by omega);rw[get_map (g:=Bc) c];simp[List.getD,c]
 refine eN Tryz.func195 rfl (by kernel_rfl) rfl ?_;intro U b;refine Aj.bound 2 rfl λi=>?_;have w:=i (mv.map Fb) .refl;(repeat' first|refine sN rfl ?_|refine tA rfl ?_|refine s2 rfl λ_ a=>?_|(refine sC rfl (v (by (simp only[oZ] at *;omega))) ?_;intro _ a)|(refine sC rfl (u (by (simp only[oZ] at *;omega))) ?_;intro _ a)|refine s3 rfl ?_ ?_<;>rintro rfl|refine aU rfl ?_|apply Aa|refine rE (by kernel_rfl) ?_|(refine aC rfl ?_ ?_<;>rintro⟨⟩)|apply aK|apply aE|apply aB|refine aR ⟨_,rfl,?_⟩)
 all_goals try (show E.o _=E.o _;congr;unfold CD;grind)
 ·have d:=d (by grind)
  (repeat' first|refine tA rfl ?_|(refine s4 rfl ‹_› rfl ?_ ?_;omega)|refine s2 rfl λ_ a=>?_|apply Aa|(refine aC rfl ?_ ?_<;>rintro⟨⟩)|apply aK|apply aE|apply aB|refine aR ⟨_,rfl,?_⟩)
  show E.o _=E.o _;congr;unfold CD;grind
 refine Aj.Be (α:={k:Nat // k<=mv.length/\(mv.take k).all (·.isEmpty)=true}) (λ⟨k,hk,ha⟩=>[(2,EN mv),(7,eI .i64 k)]) (λ⟨k,hk,ha⟩=>[]) 0 (λ⟨k,hk,ha⟩=>mv.length-k) (⟨0,by omega,rfl⟩) [] (Fw b rfl rfl) (by (simp[cX,zC,b])) ?_;rintro⟨k,hk,ha⟩;(try dsimp only);(repeat first|refine sN rfl ?_|refine tA rfl ?_|refine s2 rfl λ_ a=>?_|refine aU rfl ?_|apply Aa);(refine aC rfl ?_ ?_<;>rintro⟨⟩)
 ·obtain⟨x,c⟩:=get_some (l:=mv) (k:=k) (by (simp only[oZ] at *;omega))
  have j:=get_map (g:=Fb) c;(repeat' first|refine sN rfl ?_|(refine sA rfl ?_ ?_;first|exact tI|simp only[oZ] at *;omega)|(refine s4 rfl ‹_› rfl ?_ ?_;omega)|refine s2 rfl λ_ a=>?_|refine aU rfl ?_|apply Aa|(refine aC rfl ?_ ?_<;>rintro⟨⟩)|apply aK|apply aE|apply aB|refine aR ⟨_,rfl,?_⟩)
  ·have t:=Iy (f:=λx:List Int=>x.isEmpty) c (by cases x<;>grind)
   show E.o _=E.o _;congr;unfold CD;grind
  ·refine⟨⟨k+1,by (simp only[oZ] at *;omega),GP c ha (by cases x<;>grind)⟩,by dsimp only;((simp only[oZ] at *;omega)),[],?_⟩
   simp[cX,zC,b]
 ·(repeat' first|refine tA rfl ?_|refine aU rfl ?_|apply Aa|(refine aC rfl ?_ ?_<;>rintro⟨⟩)|apply aK|apply aE|apply aB|refine aR ⟨_,rfl,?_⟩)
  have t:=GO ha (by (simp only[oZ] at *;omega))
  show E.o _=E.o _;congr;unfold CD;grind
theorem HS{α β:Type}{l:List α}{g:α->β}{k:Nat}{x:α}(h:l[k]?=some x):(l.map g)[0+((k:Nat):Int).toNat]?=some (g x):=by simp[h]
theorem Ik{l:List Int}{k:Nat}{x y:Int}:(l.map Av).set (0+((k:Nat):Int).toNat) (Ae (Av x) 0 (eC (eI .i64 y)))=(l.set k y).map Av:=by
 simp[Ae,eC,sh]
def RA(l:List Int):Nat:=l.countP (decide <| · < 0)
theorem Vz:∀ {l:List Int} {k:Nat} {x y:Int},l[k]?=some x->x<0->0<=y->RA (l.set k y)+1=RA l
 | [],k,x,y,h,_,_=>by simp at h
 | a::l,0,x,y,h,b,c=>by
  simp at h;subst h
  have:¬y<0:=by omega
  simp[RA,b,this]
 | a::l,k+1,x,y,h,b,c=>by
  have:=Vz (l:=l) (k:=k) (by simpa using h) b c;simp only[RA,List.set_cons_succ,List.countP_cons]at this |-;omega
theorem Si{mv:List (List Int)}{dist:List Int}{d:Int}:LV mv dist d=true↔∃r∈mv,∃j∈r,dist.getD j.toNat 0=d:=by
 simp[LV,kY]
structure SC (mv:List (List (List Int))) (g:Nat->Bool) (dist:List Int):Prop where
 len:dist.length=mv.length
 zero:∀i,i<mv.length->(dist.getD i 0=0↔g i=true)
 step:∀i,i<mv.length->0<dist.getD i 0->∃r∈mv.getD i [],∃j∈r,dist.getD j.toNat 0=dist.getD i 0-1
 close:∀i,i<mv.length->∀r∈mv.getD i [],∀j∈r,0<=dist.getD j.toNat 0->0<=dist.getD i 0/\dist.getD i 0<=dist.getD j.toNat 0+1
 bound:∀i,i<mv.length->-1<=dist.getD i 0/\dist.getD i 0<=mv.length+1
structure DI (mv:List (List (List Int))) (g:Nat->Bool) (dist:List Int) (d:Int) (more:Bool) (i:Nat):Prop where
 len:dist.length=mv.length
 d1:1<=d
 zero:∀i,i<mv.length->(dist.getD i 0=0↔g i=true)
 step:∀i,i<mv.length->0<dist.getD i 0->∃r∈mv.getD i [],∃j∈r,dist.getD j.toNat 0=dist.getD i 0-1
 lt:∀x,x<mv.length->-1<=dist.getD x 0/\dist.getD x 0<=d
 up:∀x,i<=x->x<mv.length->dist.getD x 0<d
 last:more=false->∀x,x<mv.length->dist.getD x 0<d
 close:∀x,x<mv.length->∀r∈mv.getD x [],∀j∈r,0<=dist.getD j.toNat 0->(dist.getD j.toNat 0<d-1\/x<i/\dist.getD j.toNat 0=d-1)->0<=dist.getD x 0/\dist.getD x 0<=dist.getD j.toNat 0+1
def O6(mv:List (List (List Int))):Prop:=∀x,x<mv.length->∀r∈mv.getD x [],∀j∈r,0<=j/\j<mv.length
theorem US{l:List Int}{k:Nat}{y:Int}(h:k<l.length):(l.set k y).getD k 0=y:=by simp[List.getD,h]
theorem PA{l:List Int}{k x:Nat}{y:Int}(h:k≠x):(l.set k y).getD x 0=l.getD x 0:=by simp[List.getD,h]
theorem DI.set{mv:List (List (List Int))}{g:Nat->Bool}{dist:List Int}{d:Int}{more:Bool}{i:Nat}(h:DI mv g dist d more i)(hi:i<mv.length)(v:dist.getD i 0<0)(A:LV (mv.getD i []) dist (d-1)=true):DI mv g (dist.set i d) d true (i+1):=by
 have u:=h.d1
 have F:i<dist.length:=by rw[h.len];exact hi
 obtain⟨y,p,z,t,s⟩:=Si.1 A;have l:(dist.set i d).getD i 0=d:=US F;have f:∀x,x≠i->(dist.set i d).getD x 0=dist.getD x 0:=λx a=>PA (Ne.symm a)
 have w:∀x,0<=dist.getD x 0->(dist.set i d).getD x 0=dist.getD x 0:=λx a=>f x λe=>by subst e;omega
 refine⟨by simp[h.len],u,λx a=>?_,λx a hp=>?_,λx a=>?_,λx a o=>?_,λB=>(by cases B),λx a r m j n b c=>?_⟩
 ·by_cases e:x=i
  ·subst e;rw[l,<-h.zero x a];constructor<;>intro<;>omega
  ·rw[f x e];exact h.zero x a
 ·by_cases e:x=i
  ·subst e;rw[l]at hp |-
   exact⟨y,p,z,t,by rw[w _ (by omega)];exact s⟩
  ·rw[f x e]at hp |-
   obtain⟨r,m,j,n,q⟩:=h.step x a hp;exact⟨r,m,j,n,by rw[w _ (by omega)];exact q⟩
 ·by_cases e:x=i
  ·subst e;rw[l];omega
  ·rw[f x e];exact h.lt x a
 ·rw[f x (by omega)];exact h.up x (by omega) o
 ·by_cases ej:j.toNat=i
  ·rw[ej,l]at c;omega
  ·rw [f _ ej]at b c |-
   by_cases e:x=i
   ·subst e;rw[l]
    refine⟨by omega,?_⟩
    rcases c with k|⟨_,k⟩
    ·have:=(h.close x a r m j n b (.inl k)).1;omega
    ·omega
   ·rw[f x e]
    exact h.close x a r m j n b (by rcases c with k|⟨k,G⟩;exact .inl k;exact .inr ⟨by omega,G⟩)
theorem DI.A0{mv:List (List (List Int))}{g:Nat->Bool}{dist:List Int}{d:Int}{more:Bool}{i:Nat}(h:DI mv g dist d more i)(hi:i<mv.length)(q:dist.getD i 0<0->LV (mv.getD i []) dist (d-1)=false):DI mv g dist d more (i+1):=by
 refine⟨h.len,h.d1,h.zero,h.step,h.lt,λx b f=>h.up x (by omega) f,h.last,λx b r k j m a l=>?_⟩
 rcases l with p|⟨p,o⟩
 ·exact h.close x b r k j m a (.inl p)
 ·by_cases e:x=i
  ·subst e
   by_cases c:dist.getD x 0<0
   ·have s:=q c
    have n:=Si.2 ⟨r,k,j,m,o⟩;rw[s]at n;cases n
   ·have:=h.up x (lc _) b
    omega
  ·exact h.close x b r k j m a (.inr ⟨by omega,o⟩)
theorem DI.next{mv:List (List (List Int))}{g:Nat->Bool}{dist:List Int}{d:Int}{more:Bool}(h:DI mv g dist d more mv.length):DI mv g dist (d+1) true 0:=by
 have k:=h.d1;refine⟨h.len,by omega,h.zero,h.step,λx a=>?_,λx _ a=>?_,λe=>(by cases e),λx a r c j i b f=>?_⟩
 ·have:=h.lt x a;omega
 ·have:=h.lt x a;omega
 ·exact h.close x a r c j i b (by omega)
theorem DI.fin{mv:List (List (List Int))}{g:Nat->Bool}{dist:List Int}{d:Int}(c:O6 mv)(h:DI mv g dist d false mv.length)(k:d<=mv.length+1):SC mv g dist:=by
 have i:=h.d1;refine⟨h.len,h.zero,h.step,λx a r e j f b=>?_,λx a=>?_⟩
 ·have l:=c x a r e j f
  have:=h.last rfl j.toNat (by omega);exact h.close x a r e j f b (by omega)
 ·have:=h.lt x a;have:=h.last rfl x a;omega
structure Um (mv:List (List (List Int))) (g:Nat->Bool) (dt:List Int) (d:Int) (more:Bool):Prop where
 len:dt.length=mv.length
 d1:1<=d
 d2:d<=mv.length+2
 yes:more=true->DI mv g dt d true 0/\d+RA dt<=mv.length+1
 no:more=false->SC mv g dt
theorem jq(l:List Int):RA l<=l.length:=List.countP_le_length
theorem Um.init{mv:List (List (List Int))}{g:Nat->Bool}{dist:List Int}(a:dist.length=mv.length)(c:∀i,i<mv.length->dist.getD i 0=if g i then 0 else -1):Um mv g dist 1 true:=by
 have b:∀x,x<mv.length->-1<=dist.getD x 0/\dist.getD x 0<1:=λx b=>by have:=c x b;split at this<;>omega
 have k:=jq dist;refine⟨a,by omega,by omega,λ_=>⟨⟨a,by omega,λx h=>?_,λx h hp=>?_,λx h=>?_,λx _ h=>(b x h).2,λh=>(by cases h),λx h r f j l e d=>?_⟩,by omega⟩,λh=>(by cases h)⟩
 ·have:=c x h;split at this<;>simp_all
 ·have:=b x h;omega
 ·have:=b x h;omega
 ·omega
structure Ol (mv:List (List (List Int))) (g:Nat->Bool) (dt:List Int) (d:Int) (du:List Int) (m2:Bool) (i:Nat):Prop where
 le:i<=mv.length
 di:DI mv g du d m2 i
 cnt:RA du+(if m2 then 1 else 0)<=RA dt
theorem Ol.init{mv:List (List (List Int))}{g:Nat->Bool}{dt:List Int}{d:Int}(h:DI mv g dt d true 0):Ol mv g dt d dt false 0:=
 ⟨rQ _,⟨h.len,h.d1,h.zero,h.step,h.lt,h.up,λ_ x a=>h.up x (rQ _) a,h.close⟩,by simp⟩
theorem Ol.set{mv:List (List (List Int))}{g:Nat->Bool}{dt:List Int}{d:Int}{du:List Int}{b:Bool}{i:Nat}(h:Ol mv g dt d du b i)(hi:i<mv.length)(a:du.getD i 0<0)(c:LV (mv.getD i []) du (d-1)=true):Ol mv g dt d (du.set i d) true (i+1):=by
 have k:=h.di.len;have e:=h.di.d1
 have j:du[i]?=some (du.getD i 0):=by
  have:i<du.length:=by omega
  simp[List.getD,this]
 have l:=Vz j a (y:=d) (by omega);have f:=h.cnt;refine⟨hi,h.di.set hi a c,?_⟩;simp only[if_true];split at f<;>omega
theorem Ol.A0{mv:List (List (List Int))}{g:Nat->Bool}{dt:List Int}{d:Int}{du:List Int}{a:Bool}{i:Nat}(h:Ol mv g dt d du a i)(hi:i<mv.length)(b:du.getD i 0<0->LV (mv.getD i []) du (d-1)=false):Ol mv g dt d du a (i+1):=
 ⟨hi,h.di.A0 hi b,h.cnt⟩
theorem Ol.next{mv:List (List (List Int))}{g:Nat->Bool}{dt:List Int}{d:Int}{du:List Int}{c:Bool}(b:O6 mv)(h:Ol mv g dt d du c mv.length)(i:d+RA dt<=mv.length+1):Um mv g du (d+1) c:=by
 have e:=h.di.d1;have f:=h.cnt;refine⟨h.di.len,by omega,by omega,λa=>?_,λa=>?_⟩
 ·subst a
  simp only[if_true]at f;exact⟨h.di.next,by omega⟩
 ·subst a
  exact h.di.fin b (by omega)
theorem bR(mv:List (List (List Int)))(g:Nat->Bool)(dist:List Int)(q:O6 mv)(P:mv.length<=1048576)(p:dist.length=mv.length)(N:∀i,i<mv.length->dist.getD i 0=if g i then 0 else -1) :
    Spec Tryz.prog TB 197 [(0,.cells 3 1 (dist.map Av))] 1 [DL mv,.o (.arr 0 1 0 mv.length)] (λx σ nx=>x=.t []/\nx=1/\∃dist',SC mv g dist'/\σ=[(0,.cells 3 1 (dist'.map Av))]):=by
  refine eN Tryz.func197 rfl (by kernel_rfl) rfl ?_;intro U a;(repeat first|refine tM rfl ?_|refine aU rfl ?_|apply Aa);apply aB;refine Aj.Be (α:={x:List Int×Int×Bool // Um mv g x.1 x.2.1 x.2.2}) (λ⟨⟨dt,d,more⟩,j⟩=>[(0,DL mv),(1,.o (.arr 0 1 0 mv.length)),(4,eB more),(5,eI .i64 d)]) (λ⟨⟨dt,d,more⟩,j⟩=>[(0,.cells 3 1 (dt.map Av))]) 1 (λ⟨⟨dt,d,more⟩,j⟩=>2*RA dt+(if more then 1 else 0)) (⟨(dist,1,true),Um.init p N⟩) [0] (Fw a rfl rfl) (by (simp[cX,zC,a])) ?_;rintro⟨⟨dt,d,more⟩,j⟩;(try dsimp only);simp only at j;(repeat first|refine tM rfl ?_|refine aU rfl ?_|apply Aa);(refine aC rfl ?_ ?_<;>rintro⟨⟩)
  · obtain⟨H,M⟩:=j.yes rfl
    have L:=H.d1;apply aK;refine aS (aB ?_);(repeat first|refine tM rfl ?_|refine aU rfl ?_|apply Aa);apply aB;refine Aj.Be (α:={x:List Int×Bool×Nat // Ol mv g dt d x.1 x.2.1 x.2.2}) (λ⟨⟨du,h,i⟩,e⟩=>[(0,DL mv),(1,.o (.arr 0 1 0 mv.length)),(4,eB h),(5,eI .i64 d),(6,eI .i64 i)]) (λ⟨⟨du,h,i⟩,e⟩=>[(0,.cells 3 1 (du.map Av))]) 1 (λ⟨⟨du,h,i⟩,e⟩=>mv.length-i) (⟨(dt,false,0),Ol.init H⟩) [0] (Fw a rfl rfl) (by (simp[cX,zC,a])) ?_;rintro⟨⟨du,h,i⟩,e⟩;(try dsimp only);simp only at e;have w:=e.di.len;have G:=e.le;(repeat first|refine tM rfl ?_|refine s2 rfl λ_ s=>?_|refine aU rfl ?_|apply Aa);(refine aC rfl ?_ ?_<;>rintro⟨⟩)
    · obtain⟨y,B⟩:=get_some (l:=du) (k:=i) (by (simp only[oZ] at *;omega))
      have I:=HS (g:=Av) B;obtain⟨mi,m⟩:=get_some (l:=mv) (k:=i) (by (simp only[oZ] at *;omega));have F:=get_map (g:=KU) m
      have c:i<mv.length:=by (simp only[oZ] at *;omega)
      have u:du.getD i 0=y:=by simp[List.getD,B]
      have n:mv.getD i []=mi:=by simp[List.getD,m]
      have f:=e.set c;have b:=e.A0 c;rw[u,n]at f b;apply aK;refine aS (aB ?_);(repeat' first|((first|refine sM rfl ?_ ?_|refine s4 rfl ‹_› rfl ?_ ?_);first|exact tI|omega)|refine s2 rfl λ_ s=>?_|(refine Al rfl ?_;refine gA rfl ?_;first|(refine qj (Mk rfl rfl ((.cons (.o (.pure rfl)) (.cons (.o (.full rfl (by simp[d5]) (by simp[w]))) (.cons (.o (.pure rfl)) .nil)))) (bS mi du (d-1) (λr K v J=>by have:=q i c r (by rw[n];exact K) v J;exact⟨this.1,by omega⟩)) rfl) rfl ?_;intro _ s))|refine s3 rfl ?_ ?_<;>rintro rfl|refine aU rfl ?_|apply Aa|(refine aC rfl ?_ ?_<;>rintro⟨⟩)|apply aK|apply aE|apply aB|refine aR ⟨_,rfl,?_⟩)
      all_goals first
        | (refine⟨⟨(du,h,i+1),b (by grind)⟩,by dsimp only;(omega),[0],?_⟩
           simp[cX,zC,a]
           done)
        | (refine⟨⟨(du.set i d,true,i+1),f (by grind) (by grind)⟩,by dsimp only;(omega),[0],?_⟩
           rw[Ik];simp[cX,zC,a]
           done)
    · obtain rfl:i=mv.length:=by (simp only[oZ] at *;omega)
      have A:=e.next q M;have z:=e.cnt;apply aE;(repeat first|(refine sM rfl ?_ ?_;first|exact tI|omega)|refine aU rfl ?_|apply Aa);refine⟨⟨(du,d+1,h),A⟩,?_,[0],?_⟩
      · dsimp only
        cases h<;>simp at z |- <;> omega
      · simp[cX,zC,a]
  · apply aE
    exact⟨_,rfl,rfl,rfl,dt,j.no rfl,rfl⟩
theorem bU(l:List Int)(a:Int):l.length=l.count a+(l.filter (· != a)).length:=by
 induction l with
 | nil=>rfl
 | cons b l c=>
  simp only[List.count_cons,t8,rO];by_cases h:b=a
  ·subst h;simp;omega
  ·simp[h];omega
theorem GD:∀(n:Nat) (l:List Int),l.Nodup->(∀x∈l,0<=x/\x<n)->l.length<=n
 | 0,l,_,h=>by
  cases l with
  | nil=>simp
  | cons a l=>have:=h a (by simp);omega
 | n+1,l,b,h=>by
  have i:=bU l n;have g:=List.nodup_iff_count.1 b n
  have f:=GD n (l.filter (· != (n:Int))) (b.filter _) λx c=>by
   obtain⟨e,d⟩:=qX.1 c;have:=h x e;simp at d;omega
  omega
def Ja(dist:List Int)(d:Int)(acc:List Int)(j:Int):List Int:=if dist.getD j.toNat 0=d/\j∉acc then acc++[j] else acc
theorem Y9(dist:List Int)(d:Int)(acc:List Int)(j:Int):Ja dist d acc j=if dist.getD j.toNat 0=d/\j∉acc then acc++[j] else acc:=rfl
def FU(mv:List (List (List Int)))(dist at':List Int)(k:Nat)(d:Int):List Int:=at'.foldl (λacc x=>((mv.getD x.toNat []).getD k []).foldl (Ja dist d) acc) []
def Dw(n:Nat)(acc:List Int):Prop:=acc.Nodup/\∀x∈acc,0<=x/\x<n
theorem Dw.add{n:Nat}{acc:List Int}(h:Dw n acc){dist:List Int}{d j:Int}(f:0<=j/\j<n):Dw n (Ja dist d acc j):=by
 unfold Ja;split
 ·rename_i g
  refine⟨r8.2 ⟨h.1,by simp,λa ha b hb=>?_⟩,λx c=>?_⟩
  ·simp at hb;subst hb;intro e;subst e;exact g.2 ha
  ·rcases gc.1 c with c|c
   ·exact h.2 x c
   ·simp at c;subst c;exact f
 ·exact h
theorem Dw.fold{n:Nat}{dist:List Int}{d:Int}:∀ {l acc:List Int},Dw n acc->(∀j∈l,0<=j/\j<n)->Dw n (l.foldl (Ja dist d) acc)
 | [],_,h,_=>h
 | j::_,_,h,a=>by rw[si];exact Dw.fold (h.add (a j (by simp))) λx b=>a x (by simp[b])
theorem mem_row{mv:List (List (List Int))}(c:O6 mv){x:Int}(d:0<=x/\x<mv.length)(k:Nat):∀j∈(mv.getD x.toNat []).getD k [],0<=j/\j<mv.length:=by
 intro j a
 cases b:(mv.getD x.toNat [])[k]? with
 | none=>
  have:(mv.getD x.toNat []).getD k []=[]:=by rw[List.getD,b];rfl
  rw[this]at a;cases a
 | some r=>
  have:(mv.getD x.toNat []).getD k []=r:=by rw[List.getD,b];rfl
  rw[this]at a;exact c x.toNat (by omega) r (co b) j a
theorem Dw.k9{mv:List (List (List Int))}(a:O6 mv){dist:List Int}{d:Int}{k:Nat}:∀ {l acc:List Int},Dw mv.length acc->(∀x∈l,0<=x/\x<mv.length)->Dw mv.length (l.foldl (λacc x=>((mv.getD x.toNat []).getD k []).foldl (Ja dist d) acc) acc)
 | [],_,h,_=>h
 | j::_,_,h,b=>by rw[si];exact Dw.k9 a (h.fold (mem_row a (b j (by simp)) k)) λx c=>b x (by simp[c])
theorem Dw.nil{n:Nat}:Dw n []:=⟨.nil,λx a=>(by cases a)⟩
theorem GS{α β:Type}{l:List α}{k:Nat}{x:α}(h:l[k]?=some x)(f:β->α->β)(b:β):(l.take (k+1)).foldl f b=f ((l.take k).foldl f b) x:=by
 rw[i7,h,tT];rfl
theorem Vp(mv:List (List (List Int)))(dist at':List Int)(k:Nat)(d:Int)(B:O6 mv)(hN:mv.length<=1048576)(V:dist.length=mv.length)(ha:∀x∈at',0<=x/\x<mv.length)(hal:at'.length<=1048576)(hk:∀i,i<mv.length->k<(mv.getD i []).length) :
 Pure Tryz.prog TB 199 [DL mv,Ak dist,Ak at',eI .i64 k,eI .i64 d] (Ak (FU mv dist at' k d)):=by
 have G:∀m,Dw mv.length ((at'.take m).foldl (λacc x=>((mv.getD x.toNat []).getD k []).foldl (Ja dist d) acc) []):=λm=>Dw.k9 B .nil λx n=>ha x (q7 n);refine eN Tryz.func199 rfl (by kernel_rfl) rfl ?_;intro U c;refine Aj.bound 0 rfl λR=>?_;(repeat first|refine aU rfl ?_);(refine Al rfl ?_;refine CX (λ_ _=>CK rfl) rfl ?_);(repeat first|refine aU rfl ?_|apply Aa);(refine pW rfl ?_ rfl (by rfl);refine A8 rfl rfl rfl rfl (by simp) (by rfl) (by rfl) (by rfl) (by rfl) ?_);(repeat first|refine tM rfl ?_|refine aU rfl ?_|apply Aa);apply aB;refine Aj.Be (α:={m:Nat // m<=at'.length}) (λ⟨m,M⟩=>[(0,DL mv),(1,Ak dist),(2,Ak at'),(3,eI .i64 k),(4,eI .i64 d),(11,.o (.arr 0 1 0 ((at'.take m).foldl (λacc x=>((mv.getD x.toNat []).getD k []).foldl (Ja dist d) acc) []).length)),(12,eI .i64 m)]) (λ⟨m,M⟩=>[(0,.cells 3 1 (((at'.take m).foldl (λacc x=>((mv.getD x.toNat []).getD k []).foldl (Ja dist d) acc) []).map Av))]) 1 (λ⟨m,M⟩=>at'.length-m) (⟨0,by omega⟩) [0] (Fw c rfl rfl) (by (simp[cX,zC,c])) ?_;rintro⟨m,M⟩;(try dsimp only);have s:=G m;have q:=λx=>GS (l:=at') (k:=m) (x:=x) (f:=λacc x=>((mv.getD x.toNat []).getD k []).foldl (Ja dist d) acc) (b:=[]);generalize J:(at'.take m).foldl (λacc x=>((mv.getD x.toNat []).getD k []).foldl (Ja dist d) acc) []=acc at *;(repeat first|refine sN rfl ?_|refine tM rfl ?_|refine s2 rfl λ_ t=>?_|refine aU rfl ?_|apply Aa);(refine aC rfl ?_ ?_<;>rintro⟨⟩)
 ·obtain⟨y,L⟩:=get_some (l:=at') (k:=m) (by (simp only[oZ] at *;omega))
  have Z:=get_map (g:=Bc) L;have K:=ha y (co L);obtain⟨my,w⟩:=get_some (l:=mv) (k:=y.toNat) (by omega)
  have v:(mv.map KU)[y.toNat]?=some (KU my):=by simp[w]
  have A:=hk y.toNat (by omega)
  have p:mv.getD y.toNat []=my:=by simp[List.getD,w]
  rw[p]at A;obtain⟨r,u⟩:=get_some (l:=my) (k:=k) A;have hr':=get_map (g:=Fb) u
  have F:my.getD k []=r:=by simp[List.getD,u]
  have h:=mem_row B K k;rw[p,F]at h;have e:=q y L;rw[p,F]at e;have hBr:=R (r.map Bc) (.l (i:=y.toNat) (j:=0) (r:=KU my) v rfl (.l (i:=k) (j:=0) (r:=Fb r) (by simp[u]) rfl .refl));have P:∀j,Dw mv.length ((r.take j).foldl (Ja dist d) acc):=λj=>s.fold λx n=>h x (q7 n);apply aK;refine aS (aB ?_);(repeat first|refine tM rfl ?_|(refine s4 rfl ‹_› rfl ?_ ?_;omega)|refine aU rfl ?_|apply Aa);apply aB;refine Aj.Be (α:={j:Nat // j<=r.length}) (λ⟨j,N⟩=>[(0,DL mv),(1,Ak dist),(2,Ak at'),(3,eI .i64 k),(4,eI .i64 d),(11,.o (.arr 0 1 0 ((r.take j).foldl (Ja dist d) acc).length)),(12,eI .i64 m),(13,Ak r),(14,eI .i64 j)]) (λ⟨j,N⟩=>[(0,.cells 3 1 (((r.take j).foldl (Ja dist d) acc).map Av))]) 1 (λ⟨j,N⟩=>r.length-j) (⟨0,by omega⟩) [0] (Fw c rfl rfl) (by (simp[cX,zC,c])) ?_;rintro⟨j,N⟩;(try dsimp only);have H:=P j;have a:=λx=>GS (l:=r) (k:=j) (x:=x) (f:=Ja dist d) (b:=acc);generalize I:(r.take j).foldl (Ja dist d) acc=S at *;(repeat first|refine sN rfl ?_|refine tM rfl ?_|refine s2 rfl λ_ t=>?_|refine aU rfl ?_|apply Aa);(refine aC rfl ?_ ?_<;>rintro⟨⟩)
  ·obtain⟨x,n⟩:=get_some (l:=r) (k:=j) (by (simp only[oZ] at *;omega))
   have hx':=get_map (g:=Bc) n;have hxb:=h x (co n);obtain⟨z,T⟩:=get_some (l:=dist) (k:=x.toNat) (by omega)
   have Y:(dist.map Bc)[x.toNat]?=some (Bc z):=by simp[T]
   have Q:dist.getD x.toNat 0=z:=by simp[List.getD,T]
   have a:=a x n;have X:=GD _ _ H.1 H.2;rw[Y9,Q]at a;apply aK;refine aS (aB ?_);(repeat' first|(refine sM rfl ?_ ?_;first|exact tI|simp only[oZ] at *;omega)|(refine s4 rfl ‹_› rfl ?_ ?_;omega)|refine s2 rfl λ_ t=>?_|(refine Al rfl ?_;refine gA rfl ?_;first|(refine qj (Mk rfl rfl ((.cons (.o (.full rfl (by simp[d5]) (by simp))) (.cons (.o (.pure rfl)) .nil))) (je S x) rfl) rfl ?_;intro _ t))|refine s3 rfl ?_ ?_<;>rintro rfl|refine aU rfl ?_|apply Aa|(refine aC rfl ?_ ?_<;>rintro⟨⟩)|apply aK|apply aE|apply aB|refine aR ⟨_,rfl,?_⟩)
   all_goals try (rw[if_neg (by grind)]at a;refine⟨⟨j+1,by (simp only[oZ] at *;omega)⟩,by dsimp only;((simp only[oZ] at *;omega)),[0],?_⟩;simp[cX,zC,c,a];done)
   all_goals rw[if_pos (by grind)]at a
   (repeat first|refine tA rfl ?_);(refine pW rfl ?_ rfl (by rfl);refine Au rfl rfl rfl (by first|(simp;done)|(simp;(omega))) rfl (by intro r u;simp at u;subst u;rfl) (by rfl) (ce rfl) (by simp;omega) ?_);(repeat first|(refine sX rfl ?_ ?_;first|exact tI|simp only[oZ] at *;omega)|refine aU rfl ?_|apply Aa);refine⟨⟨j+1,by (simp only[oZ] at *;omega)⟩,by dsimp only;((simp only[oZ] at *;omega)),[1],?_⟩;simp[cX,zC,c,a]
  ·obtain rfl:j=r.length:=by (simp only[oZ] at *;omega)
   apply aE;rw[i8]at I;subst I;(repeat first|(refine sM rfl ?_ ?_;first|exact tI|omega)|refine aU rfl ?_|apply Aa);refine⟨⟨m+1,by (simp only[oZ] at *;omega)⟩,by dsimp only;((simp only[oZ] at *;omega)),[0],?_⟩;simp[cX,zC,c,e,-List.getD_eq_getElem?_getD]
 ·obtain rfl:m=at'.length:=by (simp only[oZ] at *;omega)
  apply aE;(repeat first|refine tM rfl ?_|refine aU rfl ?_|apply Aa);rw[i8]at J;subst J;refine Aj.freeze [0] [(10,Ak (FU mv dist at' k d))] ⟨⟨_,rfl,.o (.full (by simp) rfl (by simp[d5,FU]) (by simp))⟩,trivial⟩ ?_;refine aR ⟨_,rfl,rfl⟩
end Go.Am
