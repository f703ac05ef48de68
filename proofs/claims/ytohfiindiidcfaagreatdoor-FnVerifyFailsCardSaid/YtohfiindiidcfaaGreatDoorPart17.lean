/-
  Where letters lead: members of a product, products.
-/
import Derived.Test.YtohfiindiidcfaaGreatDoorPart15
set_option linter.all false
namespace Go.Am
open Go
def BO(s:Sys)(q l:Int):List Int:=if AY s.al l.toNat then (s.es.filter λe=>decide (e.f=q) && decide (e.l=l)).map (·.t) else [q]
theorem Ww{a b c:Ee}(h:JV a b=true)(k:JV b c=true):JV a c=true:=by
 unfold JV at *;grind
theorem AO{s:Sys}(h:AW s=true):A8 s.al=true/\1<=s.st/\s.st<=16:=by
 unfold AW at h;grind
theorem Df{s:Sys}(h:AW s=true){e:Ee}(b:e∈s.es):DF s.al s.st e=true:=by
 obtain⟨k,hk,rfl⟩:=oy b;unfold AW at h;simp only [d4,f7] at h;have a:=h.2 k (oc.2 hk)
 cases k with
 | zero=>rw [Tz (d6 hk)] at a;exact a
 | succ k=>rw [OK (d6 hk) (d6 (by omega))] at a;grind
theorem Mk{s:Sys}(h:AW s=true):s.es.Pairwise λa b=>JV a b=true:=by
 have key:∀(l:List Ee),(∀(k:Nat) (p e:Ee),l[k]? = some p->l[k+1]? = some e->JV p e=true)->l.Pairwise λa b=>JV a b=true:=by
  intro l
  induction l with
  | nil=>intro _;exact .nil
  | cons a l m=>
   intro i;have f:=m λk p e g d=>i (k+1) p e (by simpa using g) (by simpa using d);refine oT.2 ⟨λb hb=>?_,f⟩
   cases l with
   | nil=>cases hb
   | cons c l=>
    have j:=i 0 a c rfl rfl
    rcases n8.1 hb with rfl|hb
    ·exact j
    ·exact Ww j ((oT.1 f).1 b hb)
 refine key _ λk p e g d=>?_;unfold AW at h;simp only [d4,f7] at h;have f:=h.2 (k+1) (oc.2 (ce.1 d).1);rw [OK d g] at f;grind
theorem Pc:∀(l:List Int) (a b:Int),(a::l).Pairwise (· < ·)->(∀x∈a::l,x < b)->a+((l.length:Int)+1)<=b
 | [],a,b,_,h=>by have:=h a (by simp);simp;omega
 | c::l,a,b,e,h=>by
  have g:=Pc l c b (oT.1 e).2 λx d=>h x (by simp at d |-;exact .inr d);have f:=(oT.1 e).1 c (by simp);simp;omega
theorem TA{s:Sys}(h:AW s=true)(q l:Int):(BO s q l).Pairwise (· < ·):=by
 unfold BO;split
 ·rw [pS]
  refine List.Pairwise.imp_of_mem (λ{a b} ha hb c=>?_) ((Mk h).filter _);have e:=(oh.1 ha).2;have d:=(oh.1 hb).2;unfold JV at c;grind
 ·simp
theorem Ju{s:Sys}(h:AW s=true){q l:Int}(f:0<=q)(d:q < s.st){x:Int}(a:x∈BO s q l):0<=x/\x < s.st:=by
 unfold BO at a;split at a
 ·obtain⟨e,b,rfl⟩:=d9.1 a
  have c:=Df h (oh.1 b).1;unfold DF at c;grind
 ·simp at a;subst a;exact⟨f,d⟩
theorem Np{s:Sys}(h:AW s=true){q l:Int}(f:0<=q)(e:q < s.st):((BO s q l).length:Int)<=s.st:=by
 have d:=TA h q l;have c:∀x∈BO s q l,0<=x/\x < s.st:=λx b=>Ju h f e b;generalize BO s q l=m at d c
 cases m with
 | nil=>simp;omega
 | cons a m=>
  have i:=Pc m a s.st d λx b=>(c x b).2;have g:=c a (by simp);simp;omega
theorem Ds{a:AX}(h:AJ a=true){q:Nat}(f:q < a.nx.length){l:Int}(j:0<=l)(i:l < 6):0<=CC a q l/\CC a q l < a.nx.length:=by
 obtain⟨row,e,g,d⟩:=HH h f;unfold CC;split
 ·rename_i hb
  have b:(AN a.al l.toNat).length < row.length:=by rw [g];exact Ly (by omega) hb
  obtain⟨y,c⟩:=get_some b;have:=d _ y c
  simpa [List.getD,e,c] using this
 ·omega
structure DW (n:Net):Prop where
 ps:∀s∈n.ps,AW s=true
 au:∀a∈n.au,AJ a=true
 np:n.ps.length<=3
 na:n.au.length<=2
def Ks(n:Net)(st:List Int)(l:Int):List (List Int):=n.ps.zipWith (λs q=>BO s q l) st++n.au.zipWith (λa q=>[CC a q.toNat l]) (st.drop n.ps.length)
def Hf:List Int->List (List Int)->List Int->List Int
 | z::zs,c::cs,out=>Hf zs cs (out.flatMap λo=>c.map λx=>o*z+x)
 | _,_,out=>out
def Fs(n:Net)(zs st:List Int)(l:Int):List Int:=Hf zs (Ks n st l) [0]
inductive FB:List Int->List (List Int)->Prop
 | nil:FB [] []
 | cons {z:Int} {c:List Int} {zs:List Int} {cs:List (List Int)}:(∀x∈c,0<=x/\x < z)->(c.length:Int)<=z->FB zs cs->FB (z::zs) (c::cs)
theorem RD:∀ {zs:List Int} {cs:List (List Int)} {k:Nat} {z:Int} {c:List Int} (out:List Int),zs[k]? = some z->cs[k]? = some c->
 Hf (zs.take (k+1)) (cs.take (k+1)) out=(Hf (zs.take k) (cs.take k) out).flatMap λo=>c.map λx=>o*z+x
 | [],_,k,z,s,n,d,_=>by simp at d
 | a::zs,[],k,z,s,n,_,hs=>by simp at hs
 | a::zs,b::ss,0,z,s,n,d,hs=>by
  simp at d hs;subst d hs;simp [Hf]
 | a::zs,b::ss,k+1,z,s,n,d,hs=>by
  simp only [qM,Hf];exact RD _ (by simpa using d) (by simpa using hs)
theorem Lp{α β:Type}(l:List α)(g:α->List β)(n:Int)(h:∀x∈l,((g x).length:Int)<=n):((l.flatMap g).length:Int)<=l.length*n:=by
 induction l with
 | nil=>simp
 | cons a l b=>
  have f:=h a (by simp);have e:=b λx c=>h x (by simp [c]);simp only [qA,pj,oR]
  have d:((l.length:Int)+1)*n=l.length*n+n:=by rw [qg];simp
  push_cast
  omega
theorem SP{zs:List Int}{cs:List (List Int)}(h:FB zs cs):∀(out:List Int) (B:Int),(∀o∈out,0<=o/\o < B)->0<=B->(out.length:Int)<=B->
 (∀v∈Hf zs cs out,0<=v/\v < B*Aw zs)/\((Hf zs cs out).length:Int)<=B*Aw zs:=by
 induction h with
 | nil=>intro out B e i f;simp [Hf,Aw];exact⟨e,f⟩
 | @cons z c zs cs m g _ k=>
  intro out B e i f
  have a:0<=z:=by omega
  have q:=k (out.flatMap λo=>c.map λx=>o*z+x) (B*z) (λv b=>by
   obtain⟨o,d,b⟩:=pu.1 b;obtain⟨x,l,rfl⟩:=d9.1 b;obtain⟨j,p⟩:=e o d;obtain⟨t,s⟩:=m x l;have r:0<=o*z:=oU j a;have n:(o+1)*z<=B*z:=pz (by omega) a;rw [qg] at n
   omega) (oU i a) (by
    have j:=Lp out (λo=>c.map λx=>o*z+x) z (λx _=>by simpa using g);have p:(out.length:Int)*z<=B*z:=pz f a
    omega)
  rw [Hf,Aw,<-pU];exact q
theorem FB.take{zs:List Int}{cs:List (List Int)}(h:FB zs cs):∀k,FB (zs.take k) (cs.take k):=by
 induction h with
 | nil=>intro k;simp;exact .nil
 | cons c b d a=>
  intro k
  cases k with
  | zero=>exact .nil
  | succ k=>exact .cons c b (a k)
theorem FB.get{zs:List Int}{cs:List (List Int)}(h:FB zs cs):∀(k:Nat) (z:Int) (c:List Int),zs[k]? = some z->cs[k]? = some c->(∀x∈c,0<=x/\x < z)/\(c.length:Int)<=z:=by
 induction h with
 | nil=>intro k z s a;simp at a
 | cons e d _ b=>
  intro k z s a hs
  cases k with
  | zero=>simp at a hs;subst a hs;exact⟨e,d⟩
  | succ k=>exact b k z s (by simpa using a) (by simpa using hs)
theorem FB.len{zs:List Int}{cs:List (List Int)}(h:FB zs cs):zs.length=cs.length:=by
 induction h with
 | nil=>rfl
 | cons _ _ _ a=>simp [a]
theorem Fits.split{zs zs' ss:List Int}(h:Fits (zs++zs') ss):Fits zs (ss.take zs.length)/\Fits zs' (ss.drop zs.length):=by
 induction zs generalizing ss with
 | nil=>exact⟨.nil,h⟩
 | cons a zs b=>
  cases h with
  | cons e d c=>exact⟨.cons e d (b c).1,(b c).2⟩
theorem FB.app{zs zs':List Int}{cs cs':List (List Int)}(h:FB zs cs)(d:FB zs' cs'):FB (zs++zs') (cs++cs'):=by
 induction h with
 | nil=>exact d
 | cons c b _ a=>exact .cons c b a
theorem Gu{α β γ:Type}(f:α->β->γ):∀(l:List α) (m:List β),l.zipWith f m=l.zipWith f (m.take l.length)
 | [],_=>by simp
 | a::l,[]=>by simp
 | a::l,b::m=>by simp [Gu f l m]
theorem Il{n:Net}(g:DW n){st:List Int}(h:Fits (Ag n) st){l:Int}(k:0<=l)(j:l < 6):FB (Ag n) (Ks n st l):=by
 unfold Ag at *;obtain⟨ha,hb⟩:=h.split;rw [gt] at ha hb;unfold Ks;refine FB.app ?_ ?_
 ·have : n.ps.zipWith (λs q=>BO s q l) st=n.ps.zipWith (λs q=>BO s q l) (st.take n.ps.length):=by
   exact Gu _ _ _
  rw [this];have a:=g.ps;generalize st.take n.ps.length=ss at ha;generalize n.ps=ps at ha a
  induction ps generalizing ss with
  | nil=>cases ha;exact .nil
  | cons s ps d=>
   cases ha with
   | cons f c e=>
    have hs:=a s (by simp);exact .cons (λx b=>Ju hs f c b) (Np hs f c) (d _ e λt ht=>a t (by simp [ht]))
 ·have a:=g.au
  generalize st.drop n.ps.length=ss at hb;generalize n.au=au at hb a
  induction au generalizing ss with
  | nil=>cases hb;exact .nil
  | cons s ps d=>
   cases hb with
   | @cons _ q _ _ f c e=>
    have hs:=a s (by simp);dsimp only at c;have i:=Ds hs (q:=q.toNat) (by omega) k j;exact .cons (λx b=>by simp at b;subst b;exact i) (by dsimp only;simp;omega) (d _ e λt ht=>a t (by simp [ht]))
theorem Gz{n:Net}(c:DW n):∀z∈Ag n,1<=z/\z<=16:=by
 intro z b;unfold Ag at b
 rcases em.1 b with h|h
 ·obtain⟨s,hs,rfl⟩:=d9.1 h
  have:=AO (c.ps s hs);omega
 ·obtain⟨a,ha,rfl⟩:=d9.1 h
  have:=AG (c.au a ha);omega
theorem HW:∀(l:List Int),(∀z∈l,1<=z/\z<=16)->1<=Aw l/\Aw l<=16 ^ l.length
 | [],_=>by simp [Aw]
 | z::l,h=>by
  obtain⟨i,g⟩:=HW l λx a=>h x (by simp [a]);obtain⟨f,e⟩:=h z (by simp);have d:z*Aw l<=16*16 ^ l.length:=oS e g (by omega) (by omega);have c:1*1<=z*Aw l:=oS f i (by omega) (by omega)
  have b:(16:Int) ^ (l.length+1)=16*16 ^ l.length:=by rw [Int.pow_succ,ql]
  simp only [Aw,oR,b];exact⟨by simpa using c,d⟩
theorem OB{n:Net}(a:DW n):1<=Aw (Ag n)/\Aw (Ag n)<=1048576:=by
 obtain⟨d,c⟩:=HW _ (Gz a);refine⟨d,Int.le_trans c ?_⟩
 have b:(Ag n).length<=5:=by unfold Ag;have:=a.np;have:=a.na;simp;omega
 generalize (Ag n).length=k at b
 have:k=0\/k=1\/k=2\/k=3\/k=4\/k=5:=by omega
 rcases this with rfl|rfl|rfl|rfl|rfl|rfl<;>decide
end Go.Am
namespace Go.Am
open Go Go.Proofs
set_option maxHeartbeats 1000000
set_option maxRecDepth 4000
attribute [local irreducible] A6 Cz Lex Bv Aj Spec
variable {TB:BF}
theorem Qx(n:Net)(i:Nat)(a:AX)(q:Nat)(l:Int)(ha:n.au[i]? = some a)(b:AJ a=true)(e:q < a.nx.length)(h:0<=l)(f:l < 6)(k:n.ps.length<=3)(m:n.au.length<=2) :
 Pure Tryz.prog TB 210 [ML n,eI .i64 (n.ps.length+i),eI .i64 q,eI .i64 l] (Ak [CC a q l]):=by
 have hi:=(ce.1 ha).1;have c:=get_map (g:=AT) ha
 have o:((n.ps.length:Int)+i - n.ps.length).toNat=((i:Nat):Int).toNat:=by omega
 have p:(n.au.map AT)[((n.ps.length:Int)+i - n.ps.length).toNat]? = some (AT a):=by rw [o];exact c
 refine eN Tryz.func210 rfl (by kernel_rfl) rfl ?_;intro Γ j;(repeat' first|refine sN rfl ?_ |(refine sA rfl ?_ ?_;first|exact tI|omega) |(refine s4 rfl ‹_› rfl ?_ ?_;omega) |refine s2 rfl λ_ d=>?_ |(refine sC rfl (JC a b q e l h f) ?_;intro _ d)|refine sP rfl (JC a b q e l h f) rfl ?_ |refine aU rfl ?_ |apply Aa|(refine aC rfl ?_ ?_<;>rintro⟨⟩)|apply aK|apply aE|apply aB|refine aR ⟨_,rfl,?_⟩)
 all_goals first| rfl|(exfalso;(simp only[oZ] at *;omega))
theorem Qy(n:Net)(i:Nat)(s:Sys)(q l:Int)(hs:n.ps[i]? = some s)(j:AW s=true)(v:0<=q)(u:q < s.st)(H:0<=l)(B:l < 6)(z:n.ps.length<=3) :
    Pure Tryz.prog TB 210 [ML n,eI .i64 i,eI .i64 q,eI .i64 l] (Ak (BO s q l)):=by
  have hi:=(ce.1 hs).1;have y:=get_map (g:=AL) hs;refine eN Tryz.func210 rfl (by kernel_rfl) rfl ?_;intro Γ c;(repeat first|refine aU rfl ?_);(refine Af rfl ?_;refine CE (λ_ _=>C7 rfl rfl rfl) rfl ?_);(refine Af rfl ?_;refine CE (λ_ _=>CJ rfl) rfl ?_);(repeat first|refine sN rfl ?_ |refine tM rfl ?_ |refine s2 rfl λ_ b=>?_ |(refine sC rfl (C4 _ _ (by omega) (by omega)) ?_;intro _ b) |refine aU rfl ?_ |apply Aa);(refine aC rfl ?_ ?_<;>rintro⟨⟩)
  · exfalso;(simp only[oZ] at *;omega)
  apply aK;(repeat first|refine tM rfl ?_ |(refine s4 rfl ‹_› rfl ?_ ?_;omega) |refine s2 rfl λ_ b=>?_ |(refine sC rfl (C4 _ _ (by omega) (by omega)) ?_;intro _ b) |refine aU rfl ?_ |apply Aa);(refine aC rfl ?_ ?_<;>rintro⟨⟩)
  · (repeat' first|refine tA rfl ?_ |refine aU rfl ?_ |apply Aa|(refine aC rfl ?_ ?_<;>rintro⟨⟩)|apply aK|apply aE|apply aB|refine aR ⟨_,rfl,?_⟩)
    rw [show BO s q l=[q] by unfold BO;rw [if_neg (by grind)]];rfl
  apply aK;(repeat first|refine aU rfl ?_);(refine pW rfl ?_ rfl (by rfl);refine Bk rfl rfl rfl rfl (by simp) (by rfl) (by rfl) (by rfl) (by rfl) ?_);(repeat first|refine tM rfl ?_ |(refine s4 rfl ‹_› rfl ?_ ?_;omega) |refine aU rfl ?_ |apply Aa);refine Aj.bound 10 rfl λw=>?_;have w:=w _ .refl;rw [gt] at w;apply aB
  have h:AY s.al l.toNat=true:=by grind
  refine Aj.A4 (α:={k:Nat // k<=s.es.length}) (λ⟨k,hk⟩=>[(2,eI .i64 q),(3,eI .i64 l),(9,.o (.arr 0 1 0 (BO { s with es:=s.es.take k } q l).length)),(10,hX s.es),(11,eI .i64 k)]) (λ⟨k,hk⟩=>[(0,.cells 3 1 ((BO { s with es:=s.es.take k } q l).map AE))]) 1 (λ⟨k,hk⟩=>s.es.length - k) (⟨0,by omega⟩) [0] (Ed c rfl rfl) (by (simp[cX,zC,c,BO,h])) ?_;rintro⟨k,hk⟩;(try dsimp only);(repeat first|refine sN rfl ?_ |refine tM rfl ?_ |refine s2 rfl λ_ b=>?_ |refine aU rfl ?_ |apply Aa)
  have m:∀k,(BO { s with es:=s.es.take k } q l).length<=16:=by
    intro k;have B:=Np j (l:=l) v u;have G:=AO j
    have F:(BO { s with es:=s.es.take k } q l).length<=(BO s q l).length:=by
      simp only [BO,h,if_true,gt];exact((List.take_sublist k s.es).filter _).length_le
    omega
  have a:∀e,s.es[k]? = some e->BO { s with es:=s.es.take (k+1) } q l=BO { s with es:=s.es.take k } q l++if e.f=q/\e.l=l then [e.t] else []:=by
    intro e p;simp only [BO,h,if_true,d8,p,Option.toList_some,pm,o6,qI,List.filter_nil];grind
  (refine aC rfl ?_ ?_<;>rintro⟨⟩)
  · obtain⟨e,p⟩:=get_some (l:=s.es) (k:=k) (by (simp only[oZ] at *;omega))
    have A:=get_map (g:=Dj) p;have a:=a e p;apply aK;refine aS (aB ?_);(repeat' first|(refine sM rfl ?_ ?_;first|exact tI|simp only[oZ] at *;omega) |(refine s4 rfl ‹_› rfl ?_ ?_;omega) |refine s2 rfl λ_ b=>?_ |refine s3 rfl ?_ ?_<;>rintro rfl |refine aU rfl ?_ |apply Aa|(refine aC rfl ?_ ?_<;>rintro⟨⟩)|apply aK|apply aE|apply aB|refine aR ⟨_,rfl,?_⟩)
    all_goals first
      | (rw [if_pos (by grind)] at a
         (repeat first|refine tA rfl ?_);(refine pW rfl ?_ rfl (by rfl);refine Al rfl rfl rfl (by first| (simp;done)|(simp;(omega))) rfl (by intro r x;simp at x;subst x;rfl) (by rfl) (am rfl) (by have:=m k;simp;omega) ?_);(repeat first|(refine sX rfl ?_ ?_;first|exact tI|simp only[oZ] at *;omega) |refine aU rfl ?_ |apply Aa);refine⟨⟨k+1,by (simp only[oZ] at *;omega)⟩,by dsimp only;((simp only[oZ] at *;omega)),[1],?_⟩;simp[cX,zC,c,a]
         done)
      | (rw [if_neg (by grind),oO] at a
         refine⟨⟨k+1,by (simp only[oZ] at *;omega)⟩,by dsimp only;((simp only[oZ] at *;omega)),[0],?_⟩;simp[cX,zC,c,a]
         done)
  · obtain rfl:k=s.es.length:=by (simp only[oZ] at *;omega)
    apply aE;(repeat first|refine tM rfl ?_ |refine aU rfl ?_ |apply Aa);refine Aj.freeze [0] [(8,.o (.d (Fe (BO s q l))))] ⟨⟨_,rfl,.o (.full (by simp) rfl (by simp [d5]) (by simp))⟩,trivial⟩ ?_;refine aR ⟨_,rfl,rfl⟩
theorem SI{n:Net}(h:DW n){st:List Int}(o:Fits (Ag n) st){l:Int}(t:0<=l)(r:l < 6){i:Nat}{c:List Int}{q:Int}(b:(Ks n st l)[i]? = some c)(g:st[i]? = some q) :
 Pure Tryz.prog TB 210 [ML n,eI .i64 i,eI .i64 q,eI .i64 l] (Ak c):=by
 have d:=o.len;unfold Ag at d;simp only [pj,gt] at d
 have f:=(o.get i)
 have k:(n.ps.zipWith (λs q=>BO s q l) st).length=n.ps.length:=by rw [List.length_zipWith];omega
 have v:=(ce.1 g).1;unfold Ks at b;by_cases hi:i < n.ps.length
 ·rw [f6 (by omega)] at b
  obtain⟨s,hs⟩:=get_some hi;rw [rm,hs,g] at b;simp only [Option.some.injEq] at b;subst b;have m:=f s.st q (by unfold Ag;rw [f6 (by simpa using hi)];simp [hs]) g;exact Qy n i s q l hs (h.ps s (co hs)) m.1 m.2 t r h.np
 ·obtain⟨j,rfl⟩:∃j,i=n.ps.length+j:=⟨i - n.ps.length,by omega⟩
  rw [f9 (by omega),k] at b
  have e:n.ps.length+j - n.ps.length=j:=by omega
  rw [e] at b
  have u:j < n.au.length:=by omega
  obtain⟨a,ha⟩:=get_some u;rw [rm,ha,ox,g] at b;simp only [Option.some.injEq] at b;subst b;have m:=f a.nx.length q (by unfold Ag;rw [f9 (by simp)];simp [ha]) g;have p:=Qx (TB:=TB) n j a q.toNat l ha (h.au a (co ha)) (by omega) t r h.np h.na
  have w:((q.toNat:Nat):Int)=q:=by omega
  rw [w] at p
  push_cast
  exact p
theorem UQ{n:Net}(a:DW n){st:List Int}(b:Fits (Ag n) st){l:Int}(f:0<=l)(e:l < 6)(k:Nat) :
 (∀v∈Hf ((Ag n).take k) ((Ks n st l).take k) [0],0<=v/\v < 1048576)/\(Hf ((Ag n).take k) ((Ks n st l).take k) [0]).length<=1048576:=by
 have c:=SP ((Il a b f e).take k) [0] 1 (by simp) (by omega) (by simp);have h:=(b.take k).2;have g:=OB a;rw [rA] at c;exact⟨λv d=>by have:=c.1 v d;omega,by omega⟩
theorem WW{n:Net}(b:DW n){st:List Int}(w:Fits (Ag n) st){l:Int}(N:0<=l)(M:l < 6) :
 Pure Tryz.prog TB 202 [ML n,Ak (Ag n),Ak st,eI .i64 l] (Ak (Fs n (Ag n) st l)):=by
 have s:=Il b w N M;have t:=UQ b w N M;have X:=OB b;have hfl:=w.len;have hcl:=s.len;unfold Fs;have d:∀(i:Nat) (c:List Int) (q:Int),(Ks n st l)[i]? = some c->st[i]? = some q->Pure Tryz.prog TB 210 [ML n,eI .i64 i,eI .i64 q,eI .i64 l] (Ak c):=λi c q=>SI b w N M
 have R:(Ag n).length<=5:=by unfold Ag;have:=b.np;have:=b.na;simp;omega
 have f:=Gz b;generalize Ks n st l=cs at *;generalize Ag n=zs at *;refine eN Tryz.func202 rfl (by kernel_rfl) rfl ?_;intro Γ a;(repeat first|refine aU rfl ?_);(refine Af rfl ?_;refine CE (λ_ _=>C7 rfl rfl rfl) rfl ?_);(refine Af rfl ?_;refine CE (λ_ _=>CJ rfl) rfl ?_);(repeat first|refine tA rfl ?_ |refine aU rfl ?_ |apply Aa);apply aB;refine Aj.A4 (α:={k:Nat // k<=zs.length}) (λ⟨k,hk⟩=>[(1,Ak zs),(2,Ak st),(3,eI .i64 l),(4,.o (.ip (Oh n))),(9,Ak (Hf (zs.take k) (cs.take k) [0])),(10,eI .i64 k)]) (λ⟨k,hk⟩=>[]) 0 (λ⟨k,hk⟩=>zs.length - k) (⟨0,by omega⟩) [] (Ed a rfl rfl) (by (simp[cX,zC,a,Hf])) ?_;rintro⟨k,hk⟩;(try dsimp only);(repeat first|refine sN rfl ?_ |refine tA rfl ?_ |refine s2 rfl λ_ u=>?_ |refine aU rfl ?_ |apply Aa);(refine aC rfl ?_ ?_<;>rintro⟨⟩)
 ·obtain⟨z,v⟩:=get_some (l:=zs) (k:=k) (by (simp only[oZ] at *;omega))
  have S:=get_map (g:=Br) v;obtain⟨c,J⟩:=get_some (l:=cs) (k:=k) (by (simp only[oZ] at *;omega));obtain⟨q,Q⟩:=get_some (l:=st) (k:=k) (by (simp only[oZ] at *;omega));have V:=get_map (g:=Br) Q;have e:=RD [0] v J;have L:=t k;have K:=(t (k+1)).2;have y:=f z (co v);obtain⟨I,hcn⟩:=s.get k z c v J;rw [e] at K;generalize Hf (zs.take k) (cs.take k) [0]=out at *;apply aK;refine aS (aB ?_);(repeat first|refine tM rfl ?_ |(refine s4 rfl ‹_› rfl ?_ ?_;omega) |refine sP rfl (d k c q J Q) rfl ?_ |refine aU rfl ?_ |apply Aa |refine rE (by kernel_rfl) ?_);(refine pW rfl ?_ rfl (by rfl);refine Bk rfl rfl rfl rfl (by simp) (by rfl) (by rfl) (by rfl) (by rfl) ?_);(repeat first|refine tM rfl ?_ |refine aU rfl ?_ |apply Aa);apply aB
  have p:∀m,(((out.take m).flatMap λo=>c.map λx=>o*z+x).length:Int)<=16777216:=by
   intro m;have h2:=Lp (out.take m) (λo=>c.map λx=>o*z+x) 16 (λx _=>by simp;omega)
   have h3:(out.take m).length<=out.length:=by simp;omega
   omega
  refine Aj.A4 (α:={m:Nat // m<=out.length}) (λ⟨m,F⟩=>[(1,Ak zs),(2,Ak st),(3,eI .i64 l),(4,.o (.ip (Oh n))),(9,Ak out),(10,eI .i64 k),(11,Ak c),(12,.o (.arr 0 1 0 ((out.take m).flatMap λo=>c.map λx=>o*z+x).length)),(13,eI .i64 m)]) (λ⟨m,F⟩=>[(0,.cells 3 1 (((out.take m).flatMap λo=>c.map λx=>o*z+x).map AE))]) 1 (λ⟨m,F⟩=>out.length - m) (⟨0,by omega⟩) [0] (Ed a rfl rfl) (by (simp[cX,zC,a])) ?_;rintro⟨m,F⟩;(try dsimp only);(repeat first|refine sN rfl ?_ |refine tM rfl ?_ |refine s2 rfl λ_ u=>?_ |refine aU rfl ?_ |apply Aa);(refine aC rfl ?_ ?_<;>rintro⟨⟩)
  ·obtain⟨o,B⟩:=get_some (l:=out) (k:=m) (by (simp only[oZ] at *;omega))
   have Y:=get_map (g:=Br) B;have h:=L.1 o (co B);have Z:=p m
   have h16:0<=o*z/\o*z<=16777216:=⟨oU h.1 (by omega),by
    have h5:o*z<=o*16:=oP y.2 h.1
    omega⟩
   have H:(out.take (m+1)).flatMap (λo=>c.map λx=>o*z+x)=(out.take m).flatMap (λo=>c.map λx=>o*z+x)++c.map λx=>o*z+x:=by
    rw [d8,B];simp
   apply aK;refine aS (aB ?_);(repeat first|refine tM rfl ?_ |refine aU rfl ?_ |apply Aa);apply aB;generalize (out.take m).flatMap (λo=>c.map λx=>o*z+x)=pre at *;refine Aj.A4 (α:={j:Nat // j<=c.length}) (λ⟨j,G⟩=>[(1,Ak zs),(2,Ak st),(3,eI .i64 l),(4,.o (.ip (Oh n))),(9,Ak out),(10,eI .i64 k),(11,Ak c),(12,.o (.arr 0 1 0 (pre.length+j))),(13,eI .i64 m),(14,eI .i64 j)]) (λ⟨j,G⟩=>[(0,.cells 3 1 ((pre++(c.take j).map λx=>o*z+x).map AE))]) 1 (λ⟨j,G⟩=>c.length - j) (⟨0,by omega⟩) [0] (Ed a rfl rfl) (by (simp[cX,zC,a])) ?_;rintro⟨j,G⟩;(try dsimp only);(repeat first|refine sN rfl ?_ |refine tM rfl ?_ |refine s2 rfl λ_ u=>?_ |refine aU rfl ?_ |apply Aa);(refine aC rfl ?_ ?_<;>rintro⟨⟩)
   ·obtain⟨x,A⟩:=get_some (l:=c) (k:=j) (by (simp only[oZ] at *;omega))
    have U:=get_map (g:=Br) A;have T:=I x (co A);apply aK;refine aS (aB ?_);refine rG (He [16]) (by kernel_rfl) ?_;(repeat first|(refine sA rfl ?_ ?_;first|exact tI|omega) |(refine s4 rfl ‹_› rfl ?_ ?_;omega));(refine pW rfl ?_ rfl (by rfl);refine Al rfl rfl rfl (by first| (simp;done)|(simp;(omega))) rfl (by intro r P;simp at P;subst P;rfl) (by rfl) (am rfl) (by simp;omega) ?_);(repeat first|(refine sX rfl ?_ ?_;first|exact tI|omega) |refine aU rfl ?_ |apply Aa);refine⟨⟨j+1,by (simp only[oZ] at *;omega)⟩,by dsimp only;((simp only[oZ] at *;omega)),[1],?_⟩;simp[cX,zC,a,d8,A,oI]
   ·obtain rfl:j=c.length:=by (simp only[oZ] at *;omega)
    apply aE;(repeat first|(refine sM rfl ?_ ?_;first|exact tI|omega) |refine aU rfl ?_ |apply Aa);refine⟨⟨m+1,by (simp only[oZ] at *;omega)⟩,by dsimp only;((simp only[oZ] at *;omega)),[0],?_⟩;simp[cX,zC,a,H]
  ·obtain rfl:m=out.length:=by (simp only[oZ] at *;omega)
   apply aE;rw [ge] at *;refine Aj.freeze [0] [(1,Ak zs),(2,Ak st),(3,eI .i64 l),(4,.o (.ip (Oh n))),(10,eI .i64 k),(12,Ak (out.flatMap λo=>c.map λx=>o*z+x))] ⟨⟨_,rfl,.AQ⟩,⟨_,rfl,.AQ⟩,⟨_,rfl,.AQ⟩,⟨_,rfl,.AQ⟩,⟨_,rfl,.AQ⟩,⟨_,rfl,.o (.full (by simp) rfl (by simp [d5]) (by simp))⟩,trivial⟩ ?_;(repeat first|(refine sA rfl ?_ ?_;first|exact tI|omega) |refine aU rfl ?_ |apply Aa);refine⟨⟨k+1,by (simp only[oZ] at *;omega)⟩,by dsimp only;((simp only[oZ] at *;omega)),[],?_⟩;simp[cX,zC,a,e]
 ·obtain rfl:k=zs.length:=by (simp only[oZ] at *;omega)
  rw [gc (by omega),gc (by omega)];(repeat' first|refine tA rfl ?_ |refine aU rfl ?_ |apply Aa|(refine aC rfl ?_ ?_<;>rintro⟨⟩)|apply aK|apply aE|apply aB|refine aR ⟨_,rfl,?_⟩)
  all_goals rfl
abbrev Yy(l:List (List Int)):List C:=[.d (CZ l)]
abbrev DM(l:List (List (List Int))):E:=.o (.d (fI l))
theorem Au{s:Int}{k:Nat}{l:Int}(h:l∈AN s k):0<=l/\l < k/\AY s l.toNat=true:=by
 unfold AN at h;obtain⟨i,hi,rfl⟩:=d9.1 h;obtain⟨b,a⟩:=oh.1 hi;have:=oc.1 b;exact⟨Int.natCast_nonneg _,by show ((i:Nat):Int) < k;omega,a⟩
theorem RN:∀ {l:List Int},(∀z∈l,0 < z)->0 < Aw l
 | [],_=>by simp [Aw]
 | a::l,h=>Int.mul_pos (h a (by simp)) (RN λz b=>h z (by simp [b]))
theorem MK:∀ {zs:List Int} (_:∀z∈zs,0 < z) (n:Int),Fits zs (BG zs n)
 | [],_,_=>.nil
 | z::zs,h,n=>by
  have a:=h z (by simp);exact .cons (pe _ (by omega)) (o4 _ a) (MK (λx b=>h x (by simp [b])) n)
def Ft(n:Net)(x:Nat):List (List Int):=(Ac n.ls).map λl=>Fs n (Ag n) (BG (Ag n) x) l
def Dv(n:Net)(tot:Nat):List (List (List Int)):=(List.range tot).map (Ft n)
theorem KE{n:Net}{tot i:Nat}(h:i < tot):(Dv n tot)[i]? = some (Ft n i):=by simp [Dv,h]
theorem PW{n:Net}(a:DW n):(Ag n).length<=5:=by unfold Ag;have:=a.np;have:=a.na;simp;omega
theorem WV{n:Net}(q:DW n)(tot:Nat)(ht:tot<=1048576):Pure Tryz.prog TB 178 [ML n,Ak (Ag n),eI .i64 tot] (DM (Dv n tot)):=by
 have v:=PW q;have c:=Gz q
 have e:∀(x:Nat),x < tot->Pure Tryz.prog TB 180 [Ak (Ag n),eI .i64 x] (Ak (BG (Ag n) x)):=λx f=>
  NK _ _ (by omega) (by omega) (λz h=>by have:=c z h;omega) (by omega)
 have p:∀(x:Nat) (l:Int),l∈Ac n.ls->Pure Tryz.prog TB 202 [ML n,Ak (Ag n),Ak (BG (Ag n) x),eI .i64 l] (Ak (Fs n (Ag n) (BG (Ag n) x) l)):=λx l A=>by
  have B:=Au A;exact WW q (MK (λz h=>by have:=c z h;omega) _) (by omega) (by omega)
 have y:(Ac n.ls).length<=6:=AM n.ls 6;unfold Dv;refine eN Tryz.func178 rfl (by kernel_rfl) rfl ?_;intro Γ a;(repeat first|refine aU rfl ?_);(refine Af rfl ?_;refine CE (λ_ _=>C7 rfl rfl rfl) rfl ?_);(refine Af rfl ?_;refine CE (λ_ _=>CJ rfl) rfl ?_);(repeat first|refine aU rfl ?_ |apply Aa);(refine pW rfl ?_ rfl (by rfl);refine Bk rfl rfl rfl rfl (by simp) (by rfl) (by rfl) (by rfl) (by rfl) ?_);(repeat first|refine tM rfl ?_ |refine sP rfl (Cj n.ls) rfl ?_ |refine aU rfl ?_ |apply Aa);apply aB;refine Aj.A4 (α:={k:Nat // k<=tot}) (λ⟨k,hk⟩=>[(1,Ak (Ag n)),(2,eI .i64 tot),(3,.o (.ip (Oh n))),(7,.o (.arr 0 1 0 k)),(8,Ak (Ac n.ls)),(9,eI .i64 k)]) (λ⟨k,hk⟩=>[(0,.cells 26 1 (((List.range k).map (Ft n)).map Yy))]) 1 (λ⟨k,hk⟩=>tot - k) (⟨0,by omega⟩) [0] (Ed a rfl rfl) (by (simp[cX,zC,a])) ?_;rintro⟨k,hk⟩;(try dsimp only);(repeat first|refine tM rfl ?_ |refine s2 rfl λ_ u=>?_ |refine aU rfl ?_ |apply Aa);(refine aC rfl ?_ ?_<;>rintro⟨⟩)
 ·have t:k < tot:=by (simp only[oZ] at *;omega)
  apply aK;refine aS (aB ?_);(repeat first|refine tM rfl ?_ |refine sP rfl (e k t) rfl ?_ |refine aU rfl ?_ |apply Aa);(refine pW rfl ?_ rfl (by rfl);refine Bk rfl rfl rfl rfl (by simp) (by rfl) (by rfl) (by rfl) (by rfl) ?_);(repeat first|refine tM rfl ?_ |refine aU rfl ?_ |apply Aa);apply aB;generalize hL:Ac n.ls=ls at *;refine Aj.A4 (α:={m:Nat // m<=ls.length}) (λ⟨m,s⟩=>[(1,Ak (Ag n)),(2,eI .i64 tot),(3,.o (.ip (Oh n))),(7,.o (.arr 0 1 0 k)),(8,Ak ls),(9,eI .i64 k),(10,Ak (BG (Ag n) k)),(11,.o (.arr 1 1 0 m)),(12,eI .i64 m)]) (λ⟨m,s⟩=>[(0,.cells 26 1 (((List.range k).map (Ft n)).map Yy)),(1,.cells 64 1 (((ls.take m).map λl=>Fs n (Ag n) (BG (Ag n) k) l).map WI))]) 2 (λ⟨m,s⟩=>ls.length - m) (⟨0,by omega⟩) [0,1] (Ed a rfl rfl) (by (simp[cX,zC,a])) ?_;rintro⟨m,s⟩;(try dsimp only);(repeat first|refine sN rfl ?_ |refine tM rfl ?_ |refine s2 rfl λ_ u=>?_ |refine aU rfl ?_ |apply Aa);(refine aC rfl ?_ ?_<;>rintro⟨⟩)
  ·obtain⟨x,f⟩:=get_some (l:=ls) (k:=m) (by (simp only[oZ] at *;omega))
   have w:=get_map (g:=Br) f;have i:=p k x (co f);apply aK;refine aS (aB ?_);refine rG (He [10]) (by kernel_rfl) ?_;(repeat first|refine tA rfl ?_ |(refine s4 rfl ‹_› rfl ?_ ?_;omega) |refine sP rfl (i) rfl ?_);(refine pW rfl ?_ rfl (by rfl);refine Al rfl rfl rfl (by first| (simp;done)|(simp;(omega))) rfl (by intro r d;simp at d;subst d;rfl) (by rfl) (am rfl) (by simp;omega) ?_);(repeat first|(refine sX rfl ?_ ?_;first|exact tI|omega) |refine aU rfl ?_ |apply Aa);refine⟨⟨m+1,by (simp only[oZ] at *;omega)⟩,by dsimp only;((simp only[oZ] at *;omega)),[0,2],?_⟩;simp[cX,zC,a,d8,f,oI]
  ·obtain rfl:m=ls.length:=by (simp only[oZ] at *;omega)
   apply aE;rw [ge] at *
   have b:ls.map (λl=>Fs n (Ag n) (BG (Ag n) k) l)=Ft n k:=by rw [<-hL];rfl
   rw [b]
   have j:(Ft n k).length=ls.length:=by rw [<-b];simp
   refine Aj.freeze [1] [(1,Ak (Ag n)),(2,eI .i64 tot),(3,.o (.ip (Oh n))),(7,.o (.arr 0 1 0 k)),(8,Ak ls),(9,eI .i64 k),(11,Gg (Ft n k))] ⟨⟨_,rfl,.AQ⟩,⟨_,rfl,.AQ⟩,⟨_,rfl,.AQ⟩,⟨_,rfl,.AQ⟩,⟨_,rfl,.AQ⟩,⟨_,rfl,.AQ⟩,⟨_,rfl,.o (.full (by simp) rfl (by simp [d5]) (by simp [j]))⟩,trivial⟩ ?_;(repeat first|refine tA rfl ?_ |refine aU rfl ?_);(refine pW rfl ?_ rfl (by rfl);refine Al rfl rfl rfl (by first| (simp;done)|(simp;(omega))) rfl (by intro r d;simp at d;subst d;rfl) (by rfl) (am rfl) (by simp;omega) ?_);(repeat first|(refine sX rfl ?_ ?_;first|exact tI|omega) |refine aU rfl ?_ |apply Aa);refine⟨⟨k+1,by omega⟩,by dsimp only;(omega),[2],?_⟩;simp[cX,zC,a,pN]
 ·obtain rfl:k=tot:=by (simp only[oZ] at *;omega)
  apply aE;(repeat first|refine tM rfl ?_ |refine aU rfl ?_ |apply Aa);refine Aj.freeze [0] [(6,DM ((List.range k).map (Ft n)))] ⟨⟨_,rfl,.o (.full (by simp) rfl (by simp [d5]) (by simp))⟩,trivial⟩ ?_;refine aR ⟨_,rfl,rfl⟩
def ab(n:Net)(st:List Int)(i:Nat):Bool:=((n.au[i]?.map (·.ac)).getD []).getD (st.getD (n.ps.length+i) 0).toNat false
def CO(n:Net)(st:List Int)(mv:List (List Int)):Bool:=
 if n.kd=0 then ab n st 0 else if n.kd=1 then ab n st 0 != ab n st 1 else if n.kd=2 then ab n st 0 && !ab n st 1 else if n.kd=3 then !ab n st 0 else
 if n.kd=5 then decide (st.getD n.ps.length 0=n.gl) else mv.all (·.isEmpty)
structure fa (n:Net):Prop where
 one:n.kd=0\/n.kd=3\/n.kd=5->1<=n.au.length
 two:n.kd=1\/n.kd=2->2<=n.au.length
theorem UH{n:Net}(h:DW n){st:List Int}(g:Fits (Ag n) st)(i:Nat)(hi:i < n.au.length):Pure Tryz.prog TB 203 [ML n,Ak st,eI .i64 i] (eB (ab n st i)):=by
 obtain⟨a,ha⟩:=get_some hi;have d:=h.au a (co ha);have p:=AG d
 have e:(Ag n)[n.ps.length+i]? = some (a.nx.length:Int):=by unfold Ag;rw [f9 (by simp)];simp [ha]
 have f:=g.len;obtain⟨q,c⟩:=get_some (l:=st) (k:=n.ps.length+i) (by have:=(ce.1 e).1;omega);have o:=g.get _ _ _ e c;obtain⟨b,hb⟩:=get_some (l:=a.ac) (k:=q.toNat) (by omega);have m:=fN (TB:=TB) n st i a q b ha c o.1 hb
 have j:ab n st i=b:=by simp [ab,ha,List.getD,c,hb]
 rw [j];exact m
theorem WU{n:Net}(e:DW n)(hk:fa n){st:List Int}(h:Fits (Ag n) st)(mv:List (List Int)):Pure Tryz.prog TB 179 [ML n,Ak st,Gg mv] (eB (CO n st mv)):=by
 have v:=UH (TB:=TB) e h 0;have u:=UH (TB:=TB) e h 1;have s:=hk.one;have r:=hk.two;have p:=e.np;have q:=e.na
 have m:n.ps.length+n.au.length=st.length:=by have:=h.len;unfold Ag at this;simpa using this
 have d:n.kd=5->(st.map Br)[((n.ps.length:Nat):Int).toNat]? = some (Br (st.getD n.ps.length 0)):=by
  intro y;obtain⟨x,c⟩:=get_some (l:=st) (k:=n.ps.length) (by omega);rw [get_map (g:=Br) c];simp [List.getD,c]
 refine eN Tryz.func179 rfl (by kernel_rfl) rfl ?_;intro Γ b;refine Aj.bound 2 rfl λi=>?_;have w:=i (mv.map ES) .refl;(repeat' first|refine sN rfl ?_ |refine tA rfl ?_ |refine s2 rfl λ_ a=>?_ |(refine sC rfl (v (by (simp only[oZ] at *;omega))) ?_;intro _ a)|(refine sC rfl (u (by (simp only[oZ] at *;omega))) ?_;intro _ a) |refine s3 rfl ?_ ?_<;>rintro rfl |refine aU rfl ?_ |apply Aa |refine rE (by kernel_rfl) ?_|(refine aC rfl ?_ ?_<;>rintro⟨⟩)|apply aK|apply aE|apply aB|refine aR ⟨_,rfl,?_⟩)
 all_goals try (show E.o _=E.o _;congr;unfold CO;grind)
 ·have d:=d (by grind)
  (repeat' first|refine tA rfl ?_ |(refine s4 rfl ‹_› rfl ?_ ?_;omega) |refine s2 rfl λ_ a=>?_ |apply Aa|(refine aC rfl ?_ ?_<;>rintro⟨⟩)|apply aK|apply aE|apply aB|refine aR ⟨_,rfl,?_⟩)
  show E.o _=E.o _;congr;unfold CO;grind
 refine Aj.A4 (α:={k:Nat // k<=mv.length/\(mv.take k).all (·.isEmpty)=true}) (λ⟨k,hk,ha⟩=>[(2,Gg mv),(7,eI .i64 k)]) (λ⟨k,hk,ha⟩=>[]) 0 (λ⟨k,hk,ha⟩=>mv.length - k) (⟨0,by omega,rfl⟩) [] (Ed b rfl rfl) (by (simp[cX,zC,b])) ?_;rintro⟨k,hk,ha⟩;(try dsimp only);(repeat first|refine sN rfl ?_ |refine tA rfl ?_ |refine s2 rfl λ_ a=>?_ |refine aU rfl ?_ |apply Aa);(refine aC rfl ?_ ?_<;>rintro⟨⟩)
 ·obtain⟨x,c⟩:=get_some (l:=mv) (k:=k) (by (simp only[oZ] at *;omega))
  have j:=get_map (g:=ES) c;(repeat' first|refine sN rfl ?_ |(refine sA rfl ?_ ?_;first|exact tI|simp only[oZ] at *;omega) |(refine s4 rfl ‹_› rfl ?_ ?_;omega) |refine s2 rfl λ_ a=>?_ |refine aU rfl ?_ |apply Aa|(refine aC rfl ?_ ?_<;>rintro⟨⟩)|apply aK|apply aE|apply aB|refine aR ⟨_,rfl,?_⟩)
  ·have t:=Hg (f:=λx:List Int=>x.isEmpty) c (by cases x<;>grind)
   show E.o _=E.o _;congr;unfold CO;grind
  ·refine⟨⟨k+1,by (simp only[oZ] at *;omega),FG c ha (by cases x<;>grind)⟩,by dsimp only;((simp only[oZ] at *;omega)),[],?_⟩
   simp[cX,zC,b]
 ·(repeat' first|refine tA rfl ?_ |refine aU rfl ?_ |apply Aa|(refine aC rfl ?_ ?_<;>rintro⟨⟩)|apply aK|apply aE|apply aB|refine aR ⟨_,rfl,?_⟩)
  have t:=FF ha (by (simp only[oZ] at *;omega))
  show E.o _=E.o _;congr;unfold CO;grind
theorem HM{α β:Type}{l:List α}{g:α->β}{k:Nat}{x:α}(h:l[k]? = some x):(l.map g)[0+((k:Nat):Int).toNat]? = some (g x):=by simp [h]
theorem H0{l:List Int}{k:Nat}{x y:Int}:(l.map AE).set (0+((k:Nat):Int).toNat) (Ae (AE x) 0 (eC (eI .i64 y)))=(l.set k y).map AE:=by
 simp [Ae,eC,pg]
def QG(l:List Int):Nat:=l.countP (decide <| · < 0)
theorem UO:∀ {l:List Int} {k:Nat} {x y:Int},l[k]? = some x->x < 0->0<=y->QG (l.set k y)+1=QG l
 | [],k,x,y,h,_,_=>by simp at h
 | a::l,0,x,y,h,b,c=>by
  simp at h;subst h
  have:¬y < 0:=by omega
  simp [QG,b,this]
 | a::l,k+1,x,y,h,b,c=>by
  have:=UO (l:=l) (k:=k) (by simpa using h) b c;simp only [QG,List.set_cons_succ,List.countP_cons] at this |-;omega
theorem RH{mv:List (List Int)}{dist:List Int}{d:Int}:LM mv dist d=true↔∃r∈mv,∃j∈r,dist.getD j.toNat 0=d:=by
 simp [LM,iJ]
structure Sf (mv:List (List (List Int))) (g:Nat->Bool) (dist:List Int):Prop where
 len:dist.length=mv.length
 zero:∀i,i < mv.length->(dist.getD i 0=0↔g i=true)
 step:∀i,i < mv.length->0 < dist.getD i 0->∃r∈mv.getD i [],∃j∈r,dist.getD j.toNat 0=dist.getD i 0 - 1
 close:∀i,i < mv.length->∀r∈mv.getD i [],∀j∈r,0<=dist.getD j.toNat 0->0<=dist.getD i 0/\dist.getD i 0<=dist.getD j.toNat 0+1
 bound:∀i,i < mv.length->-1<=dist.getD i 0/\dist.getD i 0<=mv.length+1
structure DI (mv:List (List (List Int))) (g:Nat->Bool) (dist:List Int) (d:Int) (more:Bool) (i:Nat):Prop where
 len:dist.length=mv.length
 d1:1<=d
 zero:∀i,i < mv.length->(dist.getD i 0=0↔g i=true)
 step:∀i,i < mv.length->0 < dist.getD i 0->∃r∈mv.getD i [],∃j∈r,dist.getD j.toNat 0=dist.getD i 0 - 1
 lt:∀x,x < mv.length->-1<=dist.getD x 0/\dist.getD x 0<=d
 up:∀x,i<=x->x < mv.length->dist.getD x 0 < d
 last:more=false->∀x,x < mv.length->dist.getD x 0 < d
 close:∀x,x < mv.length->∀r∈mv.getD x [],∀j∈r,0<=dist.getD j.toNat 0->(dist.getD j.toNat 0 < d - 1\/x < i/\dist.getD j.toNat 0=d - 1)->0<=dist.getD x 0/\dist.getD x 0<=dist.getD j.toNat 0+1
def OL(mv:List (List (List Int))):Prop:=∀x,x < mv.length->∀r∈mv.getD x [],∀j∈r,0<=j/\j < mv.length
theorem Ur{l:List Int}{k:Nat}{y:Int}(h:k < l.length):(l.set k y).getD k 0=y:=by simp [List.getD,h]
theorem Pa{l:List Int}{k x:Nat}{y:Int}(h:k≠x):(l.set k y).getD x 0=l.getD x 0:=by simp [List.getD,h]
theorem DI.set{mv:List (List (List Int))}{g:Nat->Bool}{dist:List Int}{d:Int}{more:Bool}{i:Nat}(h:DI mv g dist d more i)(hi:i < mv.length)(w:dist.getD i 0 < 0)(B:LM (mv.getD i []) dist (d - 1)=true):DI mv g (dist.set i d) d true (i+1):=by
 have v:=h.d1
 have G:i < dist.length:=by rw [h.len];exact hi
 obtain⟨z,p,A,u,t⟩:=RH.1 B;have l:(dist.set i d).getD i 0=d:=Ur G;have f:∀x,x≠i->(dist.set i d).getD x 0=dist.getD x 0:=λx a=>Pa (Ne.symm a)
 have y:∀x,0<=dist.getD x 0->(dist.set i d).getD x 0=dist.getD x 0:=λx a=>f x λe=>by subst e;omega
 refine⟨by simp [h.len],v,λx a=>?_,λx a q=>?_,λx a=>?_,λx a o=>?_,λF=>(by cases F),λx a r m j n b c=>?_⟩
 ·by_cases e:x=i
  ·subst e;rw [l,<-h.zero x a];constructor<;>intro<;>omega
  ·rw [f x e];exact h.zero x a
 ·by_cases e:x=i
  ·subst e;rw [l] at q |-
   exact⟨z,p,A,u,by rw [y _ (by omega)];exact t⟩
  ·rw [f x e] at q |-
   obtain⟨r,m,j,n,s⟩:=h.step x a q;exact⟨r,m,j,n,by rw [y _ (by omega)];exact s⟩
 ·by_cases e:x=i
  ·subst e;rw [l];omega
  ·rw [f x e];exact h.lt x a
 ·rw [f x (by omega)];exact h.up x (by omega) o
 ·by_cases ej:j.toNat=i
  ·rw [ej,l] at c;omega
  ·rw [f _ ej] at b c |-
   by_cases e:x=i
   ·subst e;rw [l]
    refine⟨by omega,?_⟩
    rcases c with k|⟨_,k⟩
    ·have:=(h.close x a r m j n b (.inl k)).1;omega
    ·omega
   ·rw [f x e]
    exact h.close x a r m j n b (by rcases c with k|⟨k,H⟩;exact .inl k;exact .inr ⟨by omega,H⟩)
theorem DI.AQ{mv:List (List (List Int))}{g:Nat->Bool}{dist:List Int}{d:Int}{more:Bool}{i:Nat}(h:DI mv g dist d more i)(hi:i < mv.length)(q:dist.getD i 0 < 0->LM (mv.getD i []) dist (d - 1)=false):DI mv g dist d more (i+1):=by
 refine⟨h.len,h.d1,h.zero,h.step,h.lt,λx b f=>h.up x (by omega) f,h.last,λx b r k j m a l=>?_⟩
 rcases l with p|⟨p,o⟩
 ·exact h.close x b r k j m a (.inl p)
 ·by_cases e:x=i
  ·subst e
   by_cases c:dist.getD x 0 < 0
   ·have s:=q c
    have n:=RH.2 ⟨r,k,j,m,o⟩;rw [s] at n;cases n
   ·have:=h.up x (i8 _) b
    omega
  ·exact h.close x b r k j m a (.inr ⟨by omega,o⟩)
theorem DI.next{mv:List (List (List Int))}{g:Nat->Bool}{dist:List Int}{d:Int}{more:Bool}(h:DI mv g dist d more mv.length):DI mv g dist (d+1) true 0:=by
 have k:=h.d1;refine⟨h.len,by omega,h.zero,h.step,λx a=>?_,λx _ a=>?_,λe=>(by cases e),λx a r c j i b f=>?_⟩
 ·have:=h.lt x a;omega
 ·have:=h.lt x a;omega
 ·exact h.close x a r c j i b (by omega)
theorem DI.fin{mv:List (List (List Int))}{g:Nat->Bool}{dist:List Int}{d:Int}(c:OL mv)(h:DI mv g dist d false mv.length)(k:d<=mv.length+1):Sf mv g dist:=by
 have i:=h.d1;refine⟨h.len,h.zero,h.step,λx a r e j f b=>?_,λx a=>?_⟩
 ·have l:=c x a r e j f
  have:=h.last rfl j.toNat (by omega);exact h.close x a r e j f b (by omega)
 ·have:=h.lt x a;have:=h.last rfl x a;omega
structure TM (mv:List (List (List Int))) (g:Nat->Bool) (dt:List Int) (d:Int) (more:Bool):Prop where
 len:dt.length=mv.length
 d1:1<=d
 d2:d<=mv.length+2
 yes:more=true->DI mv g dt d true 0/\d+QG dt<=mv.length+1
 no:more=false->Sf mv g dt
theorem fX(l:List Int):QG l<=l.length:=List.countP_le_length
theorem TM.init{mv:List (List (List Int))}{g:Nat->Bool}{dist:List Int}(a:dist.length=mv.length)(c:∀i,i < mv.length->dist.getD i 0=if g i then 0 else -1):TM mv g dist 1 true:=by
 have b:∀x,x < mv.length->-1<=dist.getD x 0/\dist.getD x 0 < 1:=λx b=>by have:=c x b;split at this<;>omega
 have l:=fX dist;refine⟨a,by omega,by omega,λ_=>⟨⟨a,by omega,λx h=>?_,λx h k=>?_,λx h=>?_,λx _ h=>(b x h).2,λh=>(by cases h),λx h r f j m e d=>?_⟩,by omega⟩,λh=>(by cases h)⟩
 ·have:=c x h;split at this<;>simp_all
 ·have:=b x h;omega
 ·have:=b x h;omega
 ·omega
structure N7 (mv:List (List (List Int))) (g:Nat->Bool) (dt:List Int) (d:Int) (du:List Int) (m2:Bool) (i:Nat):Prop where
 le:i<=mv.length
 di:DI mv g du d m2 i
 cnt:QG du+(if m2 then 1 else 0)<=QG dt
theorem N7.init{mv:List (List (List Int))}{g:Nat->Bool}{dt:List Int}{d:Int}(h:DI mv g dt d true 0):N7 mv g dt d dt false 0:=
 ⟨oV _,⟨h.len,h.d1,h.zero,h.step,h.lt,h.up,λ_ x a=>h.up x (oV _) a,h.close⟩,by simp⟩
theorem N7.set{mv:List (List (List Int))}{g:Nat->Bool}{dt:List Int}{d:Int}{du:List Int}{b:Bool}{i:Nat}(h:N7 mv g dt d du b i)(hi:i < mv.length)(a:du.getD i 0 < 0)(c:LM (mv.getD i []) du (d - 1)=true):N7 mv g dt d (du.set i d) true (i+1):=by
 have k:=h.di.len;have e:=h.di.d1
 have j:du[i]? = some (du.getD i 0):=by
  have:i < du.length:=by omega
  simp [List.getD,this]
 have l:=UO j a (y:=d) (by omega);have f:=h.cnt;refine⟨hi,h.di.set hi a c,?_⟩;simp only [if_true];split at f<;>omega
theorem N7.AQ{mv:List (List (List Int))}{g:Nat->Bool}{dt:List Int}{d:Int}{du:List Int}{a:Bool}{i:Nat}(h:N7 mv g dt d du a i)(hi:i < mv.length)(b:du.getD i 0 < 0->LM (mv.getD i []) du (d - 1)=false):N7 mv g dt d du a (i+1):=
 ⟨hi,h.di.AQ hi b,h.cnt⟩
theorem N7.next{mv:List (List (List Int))}{g:Nat->Bool}{dt:List Int}{d:Int}{du:List Int}{c:Bool}(b:OL mv)(h:N7 mv g dt d du c mv.length)(i:d+QG dt<=mv.length+1):TM mv g du (d+1) c:=by
 have e:=h.di.d1;have f:=h.cnt;refine⟨h.di.len,by omega,by omega,λa=>?_,λa=>?_⟩
 ·subst a
  simp only [if_true] at f;exact⟨h.di.next,by omega⟩
 ·subst a
  exact h.di.fin b (by omega)
theorem ZP(mv:List (List (List Int)))(g:Nat->Bool)(dist:List Int)(q:OL mv)(P:mv.length<=1048576)(p:dist.length=mv.length)(N:∀i,i < mv.length->dist.getD i 0=if g i then 0 else -1) :
    Spec Tryz.prog TB 181 [(0,.cells 3 1 (dist.map AE))] 1 [DM mv,.o (.arr 0 1 0 mv.length)] (λx σ nx=>x=.t []/\nx=1/\∃dist',Sf mv g dist'/\σ=[(0,.cells 3 1 (dist'.map AE))]):=by
  refine eN Tryz.func181 rfl (by kernel_rfl) rfl ?_;intro Γ a;(repeat first|refine tM rfl ?_ |refine aU rfl ?_ |apply Aa);apply aB;refine Aj.A4 (α:={x:List Int×Int×Bool // TM mv g x.1 x.2.1 x.2.2}) (λ⟨⟨dt,d,more⟩,j⟩=>[(0,DM mv),(1,.o (.arr 0 1 0 mv.length)),(4,eB more),(5,eI .i64 d)]) (λ⟨⟨dt,d,more⟩,j⟩=>[(0,.cells 3 1 (dt.map AE))]) 1 (λ⟨⟨dt,d,more⟩,j⟩=>2*QG dt+(if more then 1 else 0)) (⟨(dist,1,true),TM.init p N⟩) [0] (Ed a rfl rfl) (by (simp[cX,zC,a])) ?_;rintro⟨⟨dt,d,more⟩,j⟩;(try dsimp only);simp only at j;(repeat first|refine tM rfl ?_ |refine aU rfl ?_ |apply Aa);(refine aC rfl ?_ ?_<;>rintro⟨⟩)
  · obtain⟨H,M⟩:=j.yes rfl
    have L:=H.d1;apply aK;refine aS (aB ?_);(repeat first|refine tM rfl ?_ |refine aU rfl ?_ |apply Aa);apply aB;refine Aj.A4 (α:={x:List Int×Bool×Nat // N7 mv g dt d x.1 x.2.1 x.2.2}) (λ⟨⟨du,h,i⟩,e⟩=>[(0,DM mv),(1,.o (.arr 0 1 0 mv.length)),(4,eB h),(5,eI .i64 d),(6,eI .i64 i)]) (λ⟨⟨du,h,i⟩,e⟩=>[(0,.cells 3 1 (du.map AE))]) 1 (λ⟨⟨du,h,i⟩,e⟩=>mv.length - i) (⟨(dt,false,0),N7.init H⟩) [0] (Ed a rfl rfl) (by (simp[cX,zC,a])) ?_;rintro⟨⟨du,h,i⟩,e⟩;(try dsimp only);simp only at e;have w:=e.di.len;have G:=e.le;(repeat first|refine tM rfl ?_ |refine s2 rfl λ_ s=>?_ |refine aU rfl ?_ |apply Aa);(refine aC rfl ?_ ?_<;>rintro⟨⟩)
    · obtain⟨y,B⟩:=get_some (l:=du) (k:=i) (by (simp only[oZ] at *;omega))
      have I:=HM (g:=AE) B;obtain⟨mi,m⟩:=get_some (l:=mv) (k:=i) (by (simp only[oZ] at *;omega));have F:=get_map (g:=Kw) m
      have c:i < mv.length:=by (simp only[oZ] at *;omega)
      have u:du.getD i 0=y:=by simp [List.getD,B]
      have n:mv.getD i []=mi:=by simp [List.getD,m]
      have f:=e.set c;have b:=e.AQ c;rw [u,n] at f b;apply aK;refine aS (aB ?_);(repeat' first|((first|refine sM rfl ?_ ?_|refine s4 rfl ‹_› rfl ?_ ?_);first|exact tI|omega) |refine s2 rfl λ_ s=>?_|(refine Af rfl ?_;refine gA rfl ?_;first| (refine nq (Iy rfl rfl ((.cons (.o (.pure rfl)) (.cons (.o (.full rfl (by simp [d5]) (by simp [w]))) (.cons (.o (.pure rfl)) .nil)))) (ZQ mi du (d - 1) (λr K v J=>by have:=q i c r (by rw [n];exact K) v J;exact⟨this.1,by omega⟩)) rfl) rfl ?_;intro _ s)) |refine s3 rfl ?_ ?_<;>rintro rfl |refine aU rfl ?_ |apply Aa|(refine aC rfl ?_ ?_<;>rintro⟨⟩)|apply aK|apply aE|apply aB|refine aR ⟨_,rfl,?_⟩)
      all_goals first
        | (refine⟨⟨(du,h,i+1),b (by grind)⟩,by dsimp only;(omega),[0],?_⟩
           simp[cX,zC,a]
           done)
        | (refine⟨⟨(du.set i d,true,i+1),f (by grind) (by grind)⟩,by dsimp only;(omega),[0],?_⟩
           rw [H0];simp[cX,zC,a]
           done)
    · obtain rfl:i=mv.length:=by (simp only[oZ] at *;omega)
      have A:=e.next q M;have z:=e.cnt;apply aE;(repeat first|(refine sM rfl ?_ ?_;first|exact tI|omega) |refine aU rfl ?_ |apply Aa);refine⟨⟨(du,d+1,h),A⟩,?_,[0],?_⟩
      · dsimp only
        cases h<;>simp at z |- <;> omega
      · simp[cX,zC,a]
  · apply aE
    exact⟨_,rfl,rfl,rfl,dt,j.no rfl,rfl⟩
theorem ZS(l:List Int)(a:Int):l.length=l.count a+(l.filter (· != a)).length:=by
 induction l with
 | nil=>rfl
 | cons b l c=>
  simp only [List.count_cons,qI,oR];by_cases h:b=a
  ·subst h;simp;omega
  ·simp [h];omega
theorem Gx:∀(n:Nat) (l:List Int),l.Nodup->(∀x∈l,0<=x/\x < n)->l.length<=n
 | 0,l,_,h=>by
  cases l with
  | nil=>simp
  | cons a l=>have:=h a (by simp);omega
 | n + 1,l,b,h=>by
  have i:=ZS l n;have g:=List.nodup_iff_count.1 b n
  have f:=Gx n (l.filter (· != (n:Int))) (b.filter _) λx c=>by
   obtain⟨e,d⟩:=oh.1 c;have:=h x e;simp at d;omega
  omega
def IP(dist:List Int)(d:Int)(acc:List Int)(j:Int):List Int:=if dist.getD j.toNat 0=d/\j∉acc then acc++[j] else acc
theorem XS(dist:List Int)(d:Int)(acc:List Int)(j:Int):IP dist d acc j=if dist.getD j.toNat 0=d/\j∉acc then acc++[j] else acc:=rfl
def FM(mv:List (List (List Int)))(dist at':List Int)(k:Nat)(d:Int):List Int:=at'.foldl (λacc x=>((mv.getD x.toNat []).getD k []).foldl (IP dist d) acc) []
def DC(n:Nat)(acc:List Int):Prop:=acc.Nodup/\∀x∈acc,0<=x/\x < n
theorem DC.add{n:Nat}{acc:List Int}(h:DC n acc){dist:List Int}{d j:Int}(f:0<=j/\j < n):DC n (IP dist d acc j):=by
 unfold IP;split
 ·rename_i g
  refine⟨pR.2 ⟨h.1,by simp,λa ha b hb=>?_⟩,λx c=>?_⟩
  ·simp at hb;subst hb;intro e;subst e;exact g.2 ha
  ·rcases em.1 c with c|c
   ·exact h.2 x c
   ·simp at c;subst c;exact f
 ·exact h
theorem DC.fold{n:Nat}{dist:List Int}{d:Int}:∀ {l acc:List Int},DC n acc->(∀j∈l,0<=j/\j < n)->DC n (l.foldl (IP dist d) acc)
 | [],_,h,_=>h
 | j::_,_,h,a=>by rw [pi];exact DC.fold (h.add (a j (by simp))) λx b=>a x (by simp [b])
theorem mem_row{mv:List (List (List Int))}(c:OL mv){x:Int}(d:0<=x/\x < mv.length)(k:Nat):∀j∈(mv.getD x.toNat []).getD k [],0<=j/\j < mv.length:=by
 intro j a
 cases b:(mv.getD x.toNat [])[k]? with
 | none=>
  have:(mv.getD x.toNat []).getD k []=[]:=by rw [List.getD,b];rfl
  rw [this] at a;cases a
 | some r=>
  have:(mv.getD x.toNat []).getD k []=r:=by rw [List.getD,b];rfl
  rw [this] at a;exact c x.toNat (by omega) r (co b) j a
theorem DC.iM{mv:List (List (List Int))}(a:OL mv){dist:List Int}{d:Int}{k:Nat}:∀ {l acc:List Int},DC mv.length acc->(∀x∈l,0<=x/\x < mv.length)->DC mv.length (l.foldl (λacc x=>((mv.getD x.toNat []).getD k []).foldl (IP dist d) acc) acc)
 | [],_,h,_=>h
 | j::_,_,h,b=>by rw [pi];exact DC.iM a (h.fold (mem_row a (b j (by simp)) k)) λx c=>b x (by simp [c])
theorem DC.nil{n:Nat}:DC n []:=⟨.nil,λx a=>(by cases a)⟩
theorem GL{α β:Type}{l:List α}{k:Nat}{x:α}(h:l[k]? = some x)(f:β->α->β)(b:β):(l.take (k+1)).foldl f b=f ((l.take k).foldl f b) x:=by
 rw [d8,h,qB];rfl
theorem UF(mv:List (List (List Int)))(dist at':List Int)(k:Nat)(d:Int)(B:OL mv)(hN:mv.length<=1048576)(U:dist.length=mv.length)(ha:∀x∈at',0<=x/\x < mv.length)(hal:at'.length<=1048576)(hk:∀i,i < mv.length->k < (mv.getD i []).length) :
 Pure Tryz.prog TB 183 [DM mv,Ak dist,Ak at',eI .i64 k,eI .i64 d] (Ak (FM mv dist at' k d)):=by
 have G:∀m,DC mv.length ((at'.take m).foldl (λacc x=>((mv.getD x.toNat []).getD k []).foldl (IP dist d) acc) []):=λm=>DC.iM B .nil λx n=>ha x (ol n);refine eN Tryz.func183 rfl (by kernel_rfl) rfl ?_;intro Γ c;refine Aj.bound 0 rfl λR=>?_;(repeat first|refine aU rfl ?_);(refine Af rfl ?_;refine CE (λ_ _=>CJ rfl) rfl ?_);(repeat first|refine aU rfl ?_ |apply Aa);(refine pW rfl ?_ rfl (by rfl);refine Bk rfl rfl rfl rfl (by simp) (by rfl) (by rfl) (by rfl) (by rfl) ?_);(repeat first|refine tM rfl ?_ |refine aU rfl ?_ |apply Aa);apply aB;refine Aj.A4 (α:={m:Nat // m<=at'.length}) (λ⟨m,M⟩=>[(0,DM mv),(1,Ak dist),(2,Ak at'),(3,eI .i64 k),(4,eI .i64 d),(11,.o (.arr 0 1 0 ((at'.take m).foldl (λacc x=>((mv.getD x.toNat []).getD k []).foldl (IP dist d) acc) []).length)),(12,eI .i64 m)]) (λ⟨m,M⟩=>[(0,.cells 3 1 (((at'.take m).foldl (λacc x=>((mv.getD x.toNat []).getD k []).foldl (IP dist d) acc) []).map AE))]) 1 (λ⟨m,M⟩=>at'.length - m) (⟨0,by omega⟩) [0] (Ed c rfl rfl) (by (simp[cX,zC,c])) ?_;rintro⟨m,M⟩;(try dsimp only);have s:=G m;have q:=λx=>GL (l:=at') (k:=m) (x:=x) (f:=λacc x=>((mv.getD x.toNat []).getD k []).foldl (IP dist d) acc) (b:=[]);generalize J:(at'.take m).foldl (λacc x=>((mv.getD x.toNat []).getD k []).foldl (IP dist d) acc) []=acc at *;(repeat first|refine sN rfl ?_ |refine tM rfl ?_ |refine s2 rfl λ_ t=>?_ |refine aU rfl ?_ |apply Aa);(refine aC rfl ?_ ?_<;>rintro⟨⟩)
 ·obtain⟨y,L⟩:=get_some (l:=at') (k:=m) (by (simp only[oZ] at *;omega))
  have Y:=get_map (g:=Br) L;have K:=ha y (co L);obtain⟨my,w⟩:=get_some (l:=mv) (k:=y.toNat) (by omega)
  have v:(mv.map Kw)[y.toNat]? = some (Kw my):=by simp [w]
  have A:=hk y.toNat (by omega)
  have p:mv.getD y.toNat []=my:=by simp [List.getD,w]
  rw [p] at A;obtain⟨r,u⟩:=get_some (l:=my) (k:=k) A;have hr':=get_map (g:=ES) u
  have F:my.getD k []=r:=by simp [List.getD,u]
  have h:=mem_row B K k;rw [p,F] at h;have e:=q y L;rw [p,F] at e;have hBr:=R (r.map Br) (.l (i:=y.toNat) (j:=0) (r:=Kw my) v rfl (.l (i:=k) (j:=0) (r:=ES r) (by simp [u]) rfl .refl));have P:∀j,DC mv.length ((r.take j).foldl (IP dist d) acc):=λj=>s.fold λx n=>h x (ol n);apply aK;refine aS (aB ?_);(repeat first|refine tM rfl ?_ |(refine s4 rfl ‹_› rfl ?_ ?_;omega) |refine aU rfl ?_ |apply Aa);apply aB;refine Aj.A4 (α:={j:Nat // j<=r.length}) (λ⟨j,N⟩=>[(0,DM mv),(1,Ak dist),(2,Ak at'),(3,eI .i64 k),(4,eI .i64 d),(11,.o (.arr 0 1 0 ((r.take j).foldl (IP dist d) acc).length)),(12,eI .i64 m),(13,Ak r),(14,eI .i64 j)]) (λ⟨j,N⟩=>[(0,.cells 3 1 (((r.take j).foldl (IP dist d) acc).map AE))]) 1 (λ⟨j,N⟩=>r.length - j) (⟨0,by omega⟩) [0] (Ed c rfl rfl) (by (simp[cX,zC,c])) ?_;rintro⟨j,N⟩;(try dsimp only);have H:=P j;have a:=λx=>GL (l:=r) (k:=j) (x:=x) (f:=IP dist d) (b:=acc);generalize I:(r.take j).foldl (IP dist d) acc=S at *;(repeat first|refine sN rfl ?_ |refine tM rfl ?_ |refine s2 rfl λ_ t=>?_ |refine aU rfl ?_ |apply Aa);(refine aC rfl ?_ ?_<;>rintro⟨⟩)
  ·obtain⟨x,n⟩:=get_some (l:=r) (k:=j) (by (simp only[oZ] at *;omega))
   have hx':=get_map (g:=Br) n;have Z:=h x (co n);obtain⟨z,T⟩:=get_some (l:=dist) (k:=x.toNat) (by omega)
   have X:(dist.map Br)[x.toNat]? = some (Br z):=by simp [T]
   have Q:dist.getD x.toNat 0=z:=by simp [List.getD,T]
   have a:=a x n;have V:=Gx _ _ H.1 H.2;rw [XS,Q] at a;apply aK;refine aS (aB ?_);(repeat' first|(refine sM rfl ?_ ?_;first|exact tI|simp only[oZ] at *;omega) |(refine s4 rfl ‹_› rfl ?_ ?_;omega) |refine s2 rfl λ_ t=>?_|(refine Af rfl ?_;refine gA rfl ?_;first| (refine nq (Iy rfl rfl ((.cons (.o (.full rfl (by simp [d5]) (by simp))) (.cons (.o (.pure rfl)) .nil))) (fM S x) rfl) rfl ?_;intro _ t)) |refine s3 rfl ?_ ?_<;>rintro rfl |refine aU rfl ?_ |apply Aa|(refine aC rfl ?_ ?_<;>rintro⟨⟩)|apply aK|apply aE|apply aB|refine aR ⟨_,rfl,?_⟩)
   all_goals try (rw [if_neg (by grind)] at a;refine⟨⟨j+1,by (simp only[oZ] at *;omega)⟩,by dsimp only;((simp only[oZ] at *;omega)),[0],?_⟩;simp[cX,zC,c,a];done)
   all_goals rw [if_pos (by grind)] at a
   (repeat first|refine tA rfl ?_);(refine pW rfl ?_ rfl (by rfl);refine Al rfl rfl rfl (by first| (simp;done)|(simp;(omega))) rfl (by intro r u;simp at u;subst u;rfl) (by rfl) (am rfl) (by simp;omega) ?_);(repeat first|(refine sX rfl ?_ ?_;first|exact tI|simp only[oZ] at *;omega) |refine aU rfl ?_ |apply Aa);refine⟨⟨j+1,by (simp only[oZ] at *;omega)⟩,by dsimp only;((simp only[oZ] at *;omega)),[1],?_⟩;simp[cX,zC,c,a]
  ·obtain rfl:j=r.length:=by (simp only[oZ] at *;omega)
   apply aE;rw [ge] at I;subst I;(repeat first|(refine sM rfl ?_ ?_;first|exact tI|omega) |refine aU rfl ?_ |apply Aa);refine⟨⟨m+1,by (simp only[oZ] at *;omega)⟩,by dsimp only;((simp only[oZ] at *;omega)),[0],?_⟩;simp[cX,zC,c,e,-List.getD_eq_getElem?_getD]
 ·obtain rfl:m=at'.length:=by (simp only[oZ] at *;omega)
  apply aE;(repeat first|refine tM rfl ?_ |refine aU rfl ?_ |apply Aa);rw [ge] at J;subst J;refine Aj.freeze [0] [(10,Ak (FM mv dist at' k d))] ⟨⟨_,rfl,.o (.full (by simp) rfl (by simp [d5,FM]) (by simp))⟩,trivial⟩ ?_;refine aR ⟨_,rfl,rfl⟩
end Go.Am
