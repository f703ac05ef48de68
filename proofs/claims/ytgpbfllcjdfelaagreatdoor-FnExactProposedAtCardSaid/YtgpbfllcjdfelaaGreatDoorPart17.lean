/-
  The nodes to which a letter leads.
-/
import Derived.Test.YtgpbfllcjdfelaaGreatDoorPart15
set_option linter.all false
namespace Go.Am
open Go Go.Proofs
set_option maxHeartbeats 1000000
set_option maxRecDepth 4000
attribute [local irreducible] AP BH Lex A4 Al Spec
variable {TB:Bg}
theorem MN{n:Net}(h:Dm n){st:List Int}(p:Fits (Ae n) st){l:Int}(u:0<=l)(t:l < 6){i:Nat}{c:List Int}{q:Int}(b:(Jm n st l)[i]? = some c)(g:st[i]? = some q) :
 Pure Tryz.prog TB 293 [It n,eI .i64 i,eI .i64 q,eI .i64 l] (Ag c):=by
 have d:=p.len;unfold Ae at d;simp only [cK,bK] at d
 have f:=(p.get i)
 have m:(n.ps.zipWith (λs q=>BW s q l) st).length=n.ps.length:=by rw [List.length_zipWith];omega
 have w:=(am.1 g).1;unfold Jm at b;by_cases hi:i < n.ps.length
 ·rw [bx (by omega)] at b
  obtain⟨s,k⟩:=get_some hi;rw [List.getElem?_zipWith,k,g] at b;simp only [Option.some.injEq] at b;subst b;have o:=f s.st q (by unfold Ae;rw [bx (by simpa using hi)];simp [k]) g;exact Lt n i s q l k (h.ps s (bm k)) o.1 o.2 u t h.np
 ·obtain⟨j,rfl⟩:∃j,i=n.ps.length+j:=⟨i - n.ps.length,by omega⟩
  rw [bz (by omega),m] at b
  have e:n.ps.length+j - n.ps.length=j:=by omega
  rw [e] at b
  have v:j < n.au.length:=by omega
  obtain⟨a,ha⟩:=get_some v;rw [List.getElem?_zipWith,ha,bX,g] at b;simp only [Option.some.injEq] at b;subst b;have o:=f a.nx.length q (by unfold Ae;rw [bz (by simp)];simp [ha]) g;have r:=Ls (TB:=TB) n j a q.toNat l ha (h.au a (bm ha)) (by omega) u t h.np h.na
  have x:((q.toNat:Nat):Int)=q:=by omega
  rw [x] at r
  push_cast
  exact r
theorem Oh{n:Net}(a:Dm n){st:List Int}(b:Fits (Ae n) st){l:Int}(f:0<=l)(e:l < 6)(k:Nat) :
 (∀v∈Fj ((Ae n).take k) ((Jm n st l).take k) [0],0<=v/\v < 1048576)/\(Fj ((Ae n).take k) ((Jm n st l).take k) [0]).length<=1048576:=by
 have c:=Qy ((Hv a b f e).take k) [0] 1 (by simp) (by omega) (by simp);have h:=(b.take k).2;have g:=JI a;rw [Int.one_mul] at c;exact⟨λv d=>by have:=c.1 v d;omega,by omega⟩
theorem Po{n:Net}(b:Dm n){st:List Int}(w:Fits (Ae n) st){l:Int}(P:0<=l)(N:l < 6) :
 Pure Tryz.prog TB 275 [It n,Ag (Ae n),Ag st,eI .i64 l] (Ag (Ef n (Ae n) st l)):=by
 have s:=Hv b w P N;have t:=Oh b w P N;have hpr:=JI b;have hfl:=w.len;have hcl:=s.len;unfold Ef;have d:∀(i:Nat) (c:List Int) (q:Int),(Jm n st l)[i]? = some c->st[i]? = some q->Pure Tryz.prog TB 293 [It n,eI .i64 i,eI .i64 q,eI .i64 l] (Ag c):=λi c q=>MN b w P N
 have S:(Ae n).length<=5:=by unfold Ae;have:=b.np;have:=b.na;simp;omega
 have f:=EU b;generalize Jm n st l=cs at *;generalize Ae n=zs at *;refine eN Tryz.func275 rfl (by kernel_rfl) rfl ?_;intro Z a;(repeat first|refine aU rfl ?_);(refine Av rfl ?_;refine BU (λ_ _=>CS rfl rfl rfl) rfl ?_);(refine Av rfl ?_;refine BU (λ_ _=>Bw rfl) rfl ?_);(repeat first|refine tA rfl ?_ |refine aU rfl ?_ |refine Aa ?_);refine aB ?_;refine Al.AS (α:={k:Nat // k<=zs.length}) (λ⟨k,G⟩=>[(1,Ag zs),(2,Ag st),(3,eI .i64 l),(4,.o (.ip (Jo n))),(9,Ag (Fj (zs.take k) (cs.take k) [0])),(10,eI .i64 k)]) (λ⟨k,G⟩=>[]) 0 (λ⟨k,G⟩=>zs.length - k) (⟨0,by omega⟩) [] (Dn a rfl rfl) (by (simp[cX,zC,a,Fj])) ?_;rintro⟨k,G⟩;(try dsimp only);(repeat first|refine sN rfl ?_ |refine tA rfl ?_ |refine s2 rfl λ_ u=>?_ |refine aU rfl ?_ |refine Aa ?_);(refine aC rfl ?_ ?_<;>rintro⟨⟩)
 ·obtain⟨z,v⟩:=get_some (l:=zs) (k:=k) (by (simp only[oZ] at *;omega))
  have T:=get_map (g:=Bp) v;obtain⟨c,K⟩:=get_some (l:=cs) (k:=k) (by (simp only[oZ] at *;omega));obtain⟨q,R⟩:=get_some (l:=st) (k:=k) (by (simp only[oZ] at *;omega));have hq':=get_map (g:=Bp) R;have e:=Mb [0] v K;have M:=t k;have L:=(t (k+1)).2;have y:=f z (bm v);obtain⟨J,hcn⟩:=s.get k z c v K;rw [e] at L;generalize Fj (zs.take k) (cs.take k) [0]=out at *;refine aK ?_;refine aS (aB ?_);(repeat first|refine tM rfl ?_ |(refine s4 rfl ‹_› rfl ?_ ?_;omega) |refine sP rfl (d k c q K R) rfl ?_ |refine aU rfl ?_ |refine Aa ?_ |refine rE (by kernel_rfl) ?_);(refine pW rfl ?_ rfl (by rfl);refine Cv rfl rfl rfl rfl (by simp) (by rfl) (by rfl) (by rfl) (by rfl) ?_);(repeat first|refine tM rfl ?_ |refine aU rfl ?_ |refine Aa ?_);refine aB ?_
  have p:∀m,(((out.take m).flatMap λo=>c.map λx=>o*z+x).length:Int)<=16777216:=by
   intro m;have h2:=J8 (out.take m) (λo=>c.map λx=>o*z+x) 16 (λx _=>by simp;omega)
   have h3:(out.take m).length<=out.length:=by simp;omega
   omega
  refine Al.AS (α:={m:Nat // m<=out.length}) (λ⟨m,F⟩=>[(1,Ag zs),(2,Ag st),(3,eI .i64 l),(4,.o (.ip (Jo n))),(9,Ag out),(10,eI .i64 k),(11,Ag c),(12,.o (.arr 0 1 0 ((out.take m).flatMap λo=>c.map λx=>o*z+x).length)),(13,eI .i64 m)]) (λ⟨m,F⟩=>[(0,.cells 3 1 (((out.take m).flatMap λo=>c.map λx=>o*z+x).map Az))]) 1 (λ⟨m,F⟩=>out.length - m) (⟨0,by omega⟩) [0] (Dn a rfl rfl) (by (simp[cX,zC,a])) ?_;rintro⟨m,F⟩;(try dsimp only);(repeat first|refine sN rfl ?_ |refine tM rfl ?_ |refine s2 rfl λ_ u=>?_ |refine aU rfl ?_ |refine Aa ?_);(refine aC rfl ?_ ?_<;>rintro⟨⟩)
  ·obtain⟨o,B⟩:=get_some (l:=out) (k:=m) (by (simp only[oZ] at *;omega))
   have ho':=get_map (g:=Bp) B;have h:=M.1 o (bm B);have hlm:=p m
   have h16:0<=o*z/\o*z<=16777216:=⟨dg h.1 (by omega),by
    have h5:o*z<=o*16:=dD y.2 h.1
    omega⟩
   have I:(out.take (m+1)).flatMap (λo=>c.map λx=>o*z+x)=(out.take m).flatMap (λo=>c.map λx=>o*z+x)++c.map λx=>o*z+x:=by
    rw [bF,B];simp
   refine aK ?_;refine aS (aB ?_);(repeat first|refine tM rfl ?_ |refine aU rfl ?_ |refine Aa ?_);refine aB ?_;generalize (out.take m).flatMap (λo=>c.map λx=>o*z+x)=pre at *;refine Al.AS (α:={j:Nat // j<=c.length}) (λ⟨j,H⟩=>[(1,Ag zs),(2,Ag st),(3,eI .i64 l),(4,.o (.ip (Jo n))),(9,Ag out),(10,eI .i64 k),(11,Ag c),(12,.o (.arr 0 1 0 (pre.length+j))),(13,eI .i64 m),(14,eI .i64 j)]) (λ⟨j,H⟩=>[(0,.cells 3 1 ((pre++(c.take j).map λx=>o*z+x).map Az))]) 1 (λ⟨j,H⟩=>c.length - j) (⟨0,by omega⟩) [0] (Dn a rfl rfl) (by (simp[cX,zC,a])) ?_;rintro⟨j,H⟩;(try dsimp only);(repeat first|refine sN rfl ?_ |refine tM rfl ?_ |refine s2 rfl λ_ u=>?_ |refine aU rfl ?_ |refine Aa ?_);(refine aC rfl ?_ ?_<;>rintro⟨⟩)
   ·obtain⟨x,A⟩:=get_some (l:=c) (k:=j) (by (simp only[oZ] at *;omega))
    have V:=get_map (g:=Bp) A;have U:=J x (bm A);refine aK ?_;refine aS (aB ?_);refine rG (LU [16]) (by kernel_rfl) ?_;(repeat first|(refine sA rfl ?_ ?_;first|exact tI|omega) |(refine s4 rfl ‹_› rfl ?_ ?_;omega));(refine pW rfl ?_ rfl (by rfl);refine AT rfl rfl rfl (by first| (simp;done)|(simp;(omega))) rfl (by intro r Q;simp at Q;subst Q;rfl) (by rfl) (bn rfl) (by simp;omega) ?_);(repeat first|(refine sX rfl ?_ ?_;first|exact tI|omega) |refine aU rfl ?_ |refine Aa ?_);refine⟨⟨j+1,by (simp only[oZ] at *;omega)⟩,by dsimp only;((simp only[oZ] at *;omega)),[1],?_⟩;simp[cX,zC,a,bF,A,cy]
   ·obtain rfl:j=c.length:=by (simp only[oZ] at *;omega)
    refine aE ?_;(repeat first|(refine sM rfl ?_ ?_;first|exact tI|omega) |refine aU rfl ?_ |refine Aa ?_);refine⟨⟨m+1,by (simp only[oZ] at *;omega)⟩,by dsimp only;((simp only[oZ] at *;omega)),[0],?_⟩;simp[cX,zC,a,I]
  ·obtain rfl:m=out.length:=by (simp only[oZ] at *;omega)
   refine aE ?_;rw [bO] at *;refine Al.freeze [0] [(1,Ag zs),(2,Ag st),(3,eI .i64 l),(4,.o (.ip (Jo n))),(10,eI .i64 k),(12,Ag (out.flatMap λo=>c.map λx=>o*z+x))] ⟨⟨_,rfl,.AU⟩,⟨_,rfl,.AU⟩,⟨_,rfl,.AU⟩,⟨_,rfl,.AU⟩,⟨_,rfl,.AU⟩,⟨_,rfl,.o (.full (by simp) rfl (by simp [bC]) (by simp))⟩,trivial⟩ ?_;(repeat first|(refine sA rfl ?_ ?_;first|exact tI|omega) |refine aU rfl ?_ |refine Aa ?_);refine⟨⟨k+1,by (simp only[oZ] at *;omega)⟩,by dsimp only;((simp only[oZ] at *;omega)),[],?_⟩;simp[cX,zC,a,e]
 ·obtain rfl:k=zs.length:=by (simp only[oZ] at *;omega)
  rw [bI (by omega),bI (by omega)];(repeat' first|refine tA rfl ?_ |refine aU rfl ?_ |refine Aa ?_|(refine aC rfl ?_ ?_<;>rintro⟨⟩)|refine aK ?_|refine aE ?_|refine aB ?_|refine aR ⟨_,rfl,?_⟩)
  all_goals rfl
abbrev Dt(l:List (List Int)):List C:=[.d (CG l)]
abbrev Cz(l:List (List (List Int))):E:=.o (.d (UA l))
theorem AK{s:Int}{k:Nat}{l:Int}(h:l∈Ay s k):0<=l/\l < k/\En s l.toNat=true:=by
 unfold Ay at h;obtain⟨i,hi,rfl⟩:=bB.1 h;obtain⟨b,a⟩:=dB.1 hi;have:=cG.1 b;exact⟨Int.natCast_nonneg _,by show ((i:Nat):Int) < k;omega,a⟩
theorem Mh:∀ {l:List Int},(∀z∈l,0 < z)->0 < AE l
 | [],_=>by simp [AE]
 | a::l,h=>Int.mul_pos (h a (by simp)) (Mh λz b=>h z (by simp [b]))
theorem Ir:∀ {zs:List Int} (_:∀z∈zs,0 < z) (n:Int),Fits zs (Bs zs n)
 | [],_,_=>.nil
 | z::zs,h,n=>by
  have a:=h z (by simp);exact .cons (Int.emod_nonneg _ (by omega)) (Int.emod_lt_of_pos _ a) (Ir (λx b=>h x (by simp [b])) n)
def DA(n:Net)(x:Nat):List (List Int):=(Ac n.ls).map λl=>Ef n (Ae n) (Bs (Ae n) x) l
def Cm(n:Net)(tot:Nat):List (List (List Int)):=(List.range tot).map (DA n)
theorem Hi{n:Net}{tot i:Nat}(h:i < tot):(Cm n tot)[i]? = some (DA n i):=by simp [Cm,h]
theorem KR{n:Net}(a:Dm n):(Ae n).length<=5:=by unfold Ae;have:=a.np;have:=a.na;simp;omega
theorem Pn{n:Net}(q:Dm n)(tot:Nat)(ht:tot<=1048576):Pure Tryz.prog TB 230 [It n,Ag (Ae n),eI .i64 tot] (Cz (Cm n tot)):=by
 have w:=KR q;have c:=EU q
 have e:∀(x:Nat),x < tot->Pure Tryz.prog TB 232 [Ag (Ae n),eI .i64 x] (Ag (Bs (Ae n) x)):=λx f=>
  I7 _ _ (by omega) (by omega) (λz h=>by have:=c z h;omega) (by omega)
 have p:∀(x:Nat) (l:Int),l∈Ac n.ls->Pure Tryz.prog TB 275 [It n,Ag (Ae n),Ag (Bs (Ae n) x),eI .i64 l] (Ag (Ef n (Ae n) (Bs (Ae n) x) l)):=λx l B=>by
  have F:=AK B;exact Po q (Ir (λz h=>by have:=c z h;omega) _) (by omega) (by omega)
 have A:(Ac n.ls).length<=6:=AZ n.ls 6;unfold Cm;refine eN Tryz.func230 rfl (by kernel_rfl) rfl ?_;intro Z a;(repeat first|refine aU rfl ?_);(refine Av rfl ?_;refine BU (λ_ _=>CS rfl rfl rfl) rfl ?_);(refine Av rfl ?_;refine BU (λ_ _=>Bw rfl) rfl ?_);(repeat first|refine aU rfl ?_ |refine Aa ?_);(refine pW rfl ?_ rfl (by rfl);refine Cv rfl rfl rfl rfl (by simp) (by rfl) (by rfl) (by rfl) (by rfl) ?_);(repeat first|refine tM rfl ?_ |refine sP rfl (C3 n.ls) rfl ?_ |refine aU rfl ?_ |refine Aa ?_);refine aB ?_;refine Al.AS (α:={k:Nat // k<=tot}) (λ⟨k,u⟩=>[(1,Ag (Ae n)),(2,eI .i64 tot),(3,.o (.ip (Jo n))),(7,.o (.arr 0 1 0 k)),(8,Ag (Ac n.ls)),(9,eI .i64 k)]) (λ⟨k,u⟩=>[(0,.cells 26 1 (((List.range k).map (DA n)).map Dt))]) 1 (λ⟨k,u⟩=>tot - k) (⟨0,by omega⟩) [0] (Dn a rfl rfl) (by (simp[cX,zC,a])) ?_;rintro⟨k,u⟩;(try dsimp only);(repeat first|refine tM rfl ?_ |refine s2 rfl λ_ v=>?_ |refine aU rfl ?_ |refine Aa ?_);(refine aC rfl ?_ ?_<;>rintro⟨⟩)
 ·have t:k < tot:=by (simp only[oZ] at *;omega)
  refine aK ?_;refine aS (aB ?_);(repeat first|refine tM rfl ?_ |refine sP rfl (e k t) rfl ?_ |refine aU rfl ?_ |refine Aa ?_);(refine pW rfl ?_ rfl (by rfl);refine Cv rfl rfl rfl rfl (by simp) (by rfl) (by rfl) (by rfl) (by rfl) ?_);(repeat first|refine tM rfl ?_ |refine aU rfl ?_ |refine Aa ?_);refine aB ?_;generalize hL:Ac n.ls=ls at *;refine Al.AS (α:={m:Nat // m<=ls.length}) (λ⟨m,s⟩=>[(1,Ag (Ae n)),(2,eI .i64 tot),(3,.o (.ip (Jo n))),(7,.o (.arr 0 1 0 k)),(8,Ag ls),(9,eI .i64 k),(10,Ag (Bs (Ae n) k)),(11,.o (.arr 1 1 0 m)),(12,eI .i64 m)]) (λ⟨m,s⟩=>[(0,.cells 26 1 (((List.range k).map (DA n)).map Dt)),(1,.cells 53 1 (((ls.take m).map λl=>Ef n (Ae n) (Bs (Ae n) k) l).map DD))]) 2 (λ⟨m,s⟩=>ls.length - m) (⟨0,by omega⟩) [0,1] (Dn a rfl rfl) (by (simp[cX,zC,a])) ?_;rintro⟨m,s⟩;(try dsimp only);(repeat first|refine sN rfl ?_ |refine tM rfl ?_ |refine s2 rfl λ_ v=>?_ |refine aU rfl ?_ |refine Aa ?_);(refine aC rfl ?_ ?_<;>rintro⟨⟩)
  ·obtain⟨x,f⟩:=get_some (l:=ls) (k:=m) (by (simp only[oZ] at *;omega))
   have y:=get_map (g:=Bp) f;have i:=p k x (bm f);refine aK ?_;refine aS (aB ?_);refine rG (LU [10]) (by kernel_rfl) ?_;(repeat first|refine tA rfl ?_ |(refine s4 rfl ‹_› rfl ?_ ?_;omega) |refine sP rfl (i) rfl ?_);(refine pW rfl ?_ rfl (by rfl);refine AT rfl rfl rfl (by first| (simp;done)|(simp;(omega))) rfl (by intro r d;simp at d;subst d;rfl) (by rfl) (bn rfl) (by simp;omega) ?_);(repeat first|(refine sX rfl ?_ ?_;first|exact tI|omega) |refine aU rfl ?_ |refine Aa ?_);refine⟨⟨m+1,by (simp only[oZ] at *;omega)⟩,by dsimp only;((simp only[oZ] at *;omega)),[0,2],?_⟩;simp[cX,zC,a,bF,f,cy]
  ·obtain rfl:m=ls.length:=by (simp only[oZ] at *;omega)
   refine aE ?_;rw [bO] at *
   have b:ls.map (λl=>Ef n (Ae n) (Bs (Ae n) k) l)=DA n k:=by rw [<-hL];rfl
   rw [b]
   have j:(DA n k).length=ls.length:=by rw [<-b];simp
   refine Al.freeze [1] [(1,Ag (Ae n)),(2,eI .i64 tot),(3,.o (.ip (Jo n))),(7,.o (.arr 0 1 0 k)),(8,Ag ls),(9,eI .i64 k),(11,Bu (DA n k))] ⟨⟨_,rfl,.AU⟩,⟨_,rfl,.AU⟩,⟨_,rfl,.AU⟩,⟨_,rfl,.AU⟩,⟨_,rfl,.AU⟩,⟨_,rfl,.AU⟩,⟨_,rfl,.o (.full (by simp) rfl (by simp [bC]) (by simp [j]))⟩,trivial⟩ ?_;(repeat first|refine tA rfl ?_ |refine aU rfl ?_);(refine pW rfl ?_ rfl (by rfl);refine AT rfl rfl rfl (by first| (simp;done)|(simp;(omega))) rfl (by intro r d;simp at d;subst d;rfl) (by rfl) (bn rfl) (by simp;omega) ?_);(repeat first|(refine sX rfl ?_ ?_;first|exact tI|omega) |refine aU rfl ?_ |refine Aa ?_);refine⟨⟨k+1,by omega⟩,by dsimp only;(omega),[2],?_⟩;simp[cX,zC,a,dU]
 ·obtain rfl:k=tot:=by (simp only[oZ] at *;omega)
  refine aE ?_;(repeat first|refine tM rfl ?_ |refine aU rfl ?_ |refine Aa ?_);refine Al.freeze [0] [(6,Cz ((List.range k).map (DA n)))] ⟨⟨_,rfl,.o (.full (by simp) rfl (by simp [bC]) (by simp))⟩,trivial⟩ ?_;refine aR ⟨_,rfl,rfl⟩
def Uk(n:Net)(st:List Int)(i:Nat):Bool:=((n.au[i]?.map (·.ac)).getD []).getD (st.getD (n.ps.length+i) 0).toNat false
def BS(n:Net)(st:List Int)(mv:List (List Int)):Bool:=
 if n.kd=0 then Uk n st 0 else if n.kd=1 then Uk n st 0 != Uk n st 1 else if n.kd=2 then Uk n st 0 && !Uk n st 1 else if n.kd=3 then !Uk n st 0 else
 if n.kd=5 then decide (st.getD n.ps.length 0=n.gl) else mv.all (·.isEmpty)
structure Vy (n:Net):Prop where
 one:n.kd=0\/n.kd=3\/n.kd=5->1<=n.au.length
 two:n.kd=1\/n.kd=2->2<=n.au.length
theorem N5{n:Net}(h:Dm n){st:List Int}(g:Fits (Ae n) st)(i:Nat)(hi:i < n.au.length):Pure Tryz.prog TB 276 [It n,Ag st,eI .i64 i] (eB (Uk n st i)):=by
 obtain⟨a,ha⟩:=get_some hi;have d:=h.au a (bm ha);have p:=Au d
 have e:(Ae n)[n.ps.length+i]? = some (a.nx.length:Int):=by unfold Ae;rw [bz (by simp)];simp [ha]
 have f:=g.len;obtain⟨q,c⟩:=get_some (l:=st) (k:=n.ps.length+i) (by have:=(am.1 e).1;omega);have o:=g.get _ _ _ e c;obtain⟨b,hb⟩:=get_some (l:=a.ac) (k:=q.toNat) (by omega);have m:=UC (TB:=TB) n st i a q b ha c o.1 hb
 have j:Uk n st i=b:=by simp [Uk,ha,List.getD,c,hb]
 rw [j];exact m
theorem Pm{n:Net}(h:Dm n)(d:Vy n){st:List Int}(i:Fits (Ae n) st)(mv:List (List Int)):Pure Tryz.prog TB 231 [It n,Ag st,Bu mv] (eB (BS n st mv)):=by
 have w:=N5 (TB:=TB) h i 0;have v:=N5 (TB:=TB) h i 1;have t:=d.one;have s:=d.two;have q:=h.np;have r:=h.na
 have p:n.ps.length+n.au.length=st.length:=by have:=i.len;unfold Ae at this;simpa using this
 have e:n.kd=5->(st.map Bp)[((n.ps.length:Nat):Int).toNat]? = some (Bp (st.getD n.ps.length 0)):=by
  intro z;obtain⟨x,c⟩:=get_some (l:=st) (k:=n.ps.length) (by omega);rw [get_map (g:=Bp) c];simp [List.getD,c]
 refine eN Tryz.func231 rfl (by kernel_rfl) rfl ?_;intro Z b;refine Al.bound 2 rfl λj=>?_;have y:=j (mv.map CK) .refl;(repeat' first|refine sN rfl ?_ |refine tA rfl ?_ |refine s2 rfl λ_ a=>?_ |(refine sC rfl (w (by (simp only[oZ] at *;omega))) ?_;intro _ a)|(refine sC rfl (v (by (simp only[oZ] at *;omega))) ?_;intro _ a) |refine s3 rfl ?_ ?_<;>rintro rfl |refine aU rfl ?_ |refine Aa ?_ |refine rE (by kernel_rfl) ?_|(refine aC rfl ?_ ?_<;>rintro⟨⟩)|refine aK ?_|refine aE ?_|refine aB ?_|refine aR ⟨_,rfl,?_⟩)
 all_goals try (show E.o _=E.o _;congr;unfold BS;grind)
 ·have e:=e (by grind)
  (repeat' first|refine tA rfl ?_ |(refine s4 rfl ‹_› rfl ?_ ?_;omega) |refine s2 rfl λ_ a=>?_ |refine Aa ?_|(refine aC rfl ?_ ?_<;>rintro⟨⟩)|refine aK ?_|refine aE ?_|refine aB ?_|refine aR ⟨_,rfl,?_⟩)
  show E.o _=E.o _;congr;unfold BS;grind
 refine Al.AS (α:={k:Nat // k<=mv.length/\(mv.take k).all (·.isEmpty)=true}) (λ⟨k,d,ha⟩=>[(2,Bu mv),(7,eI .i64 k)]) (λ⟨k,d,ha⟩=>[]) 0 (λ⟨k,d,ha⟩=>mv.length - k) (⟨0,by omega,rfl⟩) [] (Dn b rfl rfl) (by (simp[cX,zC,b])) ?_;rintro⟨k,d,ha⟩;(try dsimp only);(repeat first|refine sN rfl ?_ |refine tA rfl ?_ |refine s2 rfl λ_ a=>?_ |refine aU rfl ?_ |refine Aa ?_);(refine aC rfl ?_ ?_<;>rintro⟨⟩)
 ·obtain⟨x,c⟩:=get_some (l:=mv) (k:=k) (by (simp only[oZ] at *;omega))
  have m:=get_map (g:=CK) c;(repeat' first|refine sN rfl ?_ |(refine sA rfl ?_ ?_;first|exact tI|simp only[oZ] at *;omega) |(refine s4 rfl ‹_› rfl ?_ ?_;omega) |refine s2 rfl λ_ a=>?_ |refine aU rfl ?_ |refine Aa ?_|(refine aC rfl ?_ ?_<;>rintro⟨⟩)|refine aK ?_|refine aE ?_|refine aB ?_|refine aR ⟨_,rfl,?_⟩)
  ·have u:=Gs (f:=λx:List Int=>x.isEmpty) c (by cases x<;>grind)
   show E.o _=E.o _;congr;unfold BS;grind
  ·refine⟨⟨k+1,by (simp only[oZ] at *;omega),EI c ha (by cases x<;>grind)⟩,by dsimp only;((simp only[oZ] at *;omega)),[],?_⟩
   simp[cX,zC,b]
 ·(repeat' first|refine tA rfl ?_ |refine aU rfl ?_ |refine Aa ?_|(refine aC rfl ?_ ?_<;>rintro⟨⟩)|refine aK ?_|refine aE ?_|refine aB ?_|refine aR ⟨_,rfl,?_⟩)
  have u:=EG ha (by (simp only[oZ] at *;omega))
  show E.o _=E.o _;congr;unfold BS;grind
theorem Gc{α Y:Type}{l:List α}{g:α->Y}{k:Nat}{x:α}(h:l[k]? = some x):(l.map g)[0+((k:Nat):Int).toNat]? = some (g x):=by simp [h]
theorem Gq{l:List Int}{k:Nat}{x y:Int}:(l.map Az).set (0+((k:Nat):Int).toNat) (Aj (Az x) 0 (eC (eI .i64 y)))=(l.set k y).map Az:=by
 simp [Aj,eC,d4]
def Ly(l:List Int):Nat:=l.countP (decide <| · < 0)
theorem Oe:∀ {l:List Int} {k:Nat} {x y:Int},l[k]? = some x->x < 0->0<=y->Ly (l.set k y)+1=Ly l
 | [],k,x,y,h,_,_=>by simp at h
 | a::l,0,x,y,h,b,c=>by
  simp at h;subst h
  have:¬y < 0:=by omega
  simp [Ly,b,this]
 | a::l,k+1,x,y,h,b,c=>by
  have:=Oe (l:=l) (k:=k) (by simpa using h) b c;simp only [Ly,List.set_cons_succ,List.countP_cons] at this |-;omega
theorem Me{mv:List (List Int)}{dist:List Int}{d:Int}:HP mv dist d=true↔∃r∈mv,∃j∈r,dist.getD j.toNat 0=d:=by
 simp [HP,VG]
structure Mt (mv:List (List (List Int))) (g:Nat->Bool) (dist:List Int):Prop where
 len:dist.length=mv.length
 zero:∀i,i < mv.length->(dist.getD i 0=0↔g i=true)
 step:∀i,i < mv.length->0 < dist.getD i 0->∃r∈mv.getD i [],∃j∈r,dist.getD j.toNat 0=dist.getD i 0 - 1
 close:∀i,i < mv.length->∀r∈mv.getD i [],∀j∈r,0<=dist.getD j.toNat 0->0<=dist.getD i 0/\dist.getD i 0<=dist.getD j.toNat 0+1
 bound:∀i,i < mv.length->-1<=dist.getD i 0/\dist.getD i 0<=mv.length+1
structure DI (mv:List (List (List Int))) (g:Nat->Bool) (dist:List Int) (d:Int) (more:Bool) (i:Nat):Prop where
 len:dist.length=mv.length
 d1:1<=d
 zero:∀i,i < mv.length->(dist.getD i 0=0↔g i=true)
 step:∀i,i < mv.length->0 < dist.getD i 0->∃r∈mv.getD i [],∃j∈r,dist.getD j.toNat 0=dist.getD i 0 - 1
 lt:∀x,x < mv.length->-1<=dist.getD x 0/\dist.getD x 0<=d
 up:∀x,i<=x->x < mv.length->dist.getD x 0 < d
 last:more=false->∀x,x < mv.length->dist.getD x 0 < d
 close:∀x,x < mv.length->∀r∈mv.getD x [],∀j∈r,0<=dist.getD j.toNat 0->(dist.getD j.toNat 0 < d - 1\/x < i/\dist.getD j.toNat 0=d - 1)->0<=dist.getD x 0/\dist.getD x 0<=dist.getD j.toNat 0+1
def JO(mv:List (List (List Int))):Prop:=∀x,x < mv.length->∀r∈mv.getD x [],∀j∈r,0<=j/\j < mv.length
theorem NP{l:List Int}{k:Nat}{y:Int}(h:k < l.length):(l.set k y).getD k 0=y:=by simp [List.getD,h]
theorem Kf{l:List Int}{k x:Nat}{y:Int}(h:k≠x):(l.set k y).getD x 0=l.getD x 0:=by simp [List.getD,h]
theorem DI.set{mv:List (List (List Int))}{g:Nat->Bool}{dist:List Int}{d:Int}{more:Bool}{i:Nat}(h:DI mv g dist d more i)(hi:i < mv.length)(w:dist.getD i 0 < 0)(B:HP (mv.getD i []) dist (d - 1)=true):DI mv g (dist.set i d) d true (i+1):=by
 have v:=h.d1
 have G:i < dist.length:=by rw [h.len];exact hi
 obtain⟨z,p,A,u,t⟩:=Me.1 B;have l:(dist.set i d).getD i 0=d:=NP G;have f:∀x,x≠i->(dist.set i d).getD x 0=dist.getD x 0:=λx a=>Kf (Ne.symm a)
 have y:∀x,0<=dist.getD x 0->(dist.set i d).getD x 0=dist.getD x 0:=λx a=>f x λe=>by subst e;omega
 refine⟨by simp [h.len],v,λx a=>?_,λx a q=>?_,λx a=>?_,λx a o=>?_,λF=>(by cases F),λx a r m j n b c=>?_⟩
 ·by_cases e:x=i
  ·subst e;rw [l,<-h.zero x a];constructor<;>intro<;>omega
  ·rw [f x e];exact h.zero x a
 ·by_cases e:x=i
  ·subst e;rw [l] at q |-
   exact⟨z,p,A,u,by rw [y _ (by omega)];exact t⟩
  ·rw [f x e] at q |-
   obtain⟨r,m,j,n,s⟩:=h.step x a q;exact⟨r,m,j,n,by rw [y _ (by omega)];exact s⟩
 ·by_cases e:x=i
  ·subst e;rw [l];omega
  ·rw [f x e];exact h.lt x a
 ·rw [f x (by omega)];exact h.up x (by omega) o
 ·by_cases ej:j.toNat=i
  ·rw [ej,l] at c;omega
  ·rw [f _ ej] at b c |-
   by_cases e:x=i
   ·subst e;rw [l]
    refine⟨by omega,?_⟩
    rcases c with k|⟨_,k⟩
    ·have:=(h.close x a r m j n b (.inl k)).1;omega
    ·omega
   ·rw [f x e]
    exact h.close x a r m j n b (by rcases c with k|⟨k,H⟩;exact .inl k;exact .inr ⟨by omega,H⟩)
theorem DI.AU{mv:List (List (List Int))}{g:Nat->Bool}{dist:List Int}{d:Int}{more:Bool}{i:Nat}(h:DI mv g dist d more i)(hi:i < mv.length)(q:dist.getD i 0 < 0->HP (mv.getD i []) dist (d - 1)=false):DI mv g dist d more (i+1):=by
 refine⟨h.len,h.d1,h.zero,h.step,h.lt,λx b f=>h.up x (by omega) f,h.last,λx b r k j m a l=>?_⟩
 rcases l with p|⟨p,o⟩
 ·exact h.close x b r k j m a (.inl p)
 ·by_cases e:x=i
  ·subst e
   by_cases c:dist.getD x 0 < 0
   ·have s:=q c
    have n:=Me.2 ⟨r,k,j,m,o⟩;rw [s] at n;cases n
   ·have:=h.up x (bJ _) b
    omega
  ·exact h.close x b r k j m a (.inr ⟨by omega,o⟩)
theorem DI.next{mv:List (List (List Int))}{g:Nat->Bool}{dist:List Int}{d:Int}{more:Bool}(h:DI mv g dist d more mv.length):DI mv g dist (d+1) true 0:=by
 have k:=h.d1;refine⟨h.len,by omega,h.zero,h.step,λx a=>?_,λx _ a=>?_,λe=>(by cases e),λx a r c j i b f=>?_⟩
 ·have:=h.lt x a;omega
 ·have:=h.lt x a;omega
 ·exact h.close x a r c j i b (by omega)
theorem DI.fin{mv:List (List (List Int))}{g:Nat->Bool}{dist:List Int}{d:Int}(c:JO mv)(h:DI mv g dist d false mv.length)(k:d<=mv.length+1):Mt mv g dist:=by
 have i:=h.d1;refine⟨h.len,h.zero,h.step,λx a r e j f b=>?_,λx a=>?_⟩
 ·have l:=c x a r e j f
  have:=h.last rfl j.toNat (by omega);exact h.close x a r e j f b (by omega)
 ·have:=h.lt x a;have:=h.last rfl x a;omega
structure Nt (mv:List (List (List Int))) (g:Nat->Bool) (dt:List Int) (d:Int) (more:Bool):Prop where
 len:dt.length=mv.length
 d1:1<=d
 d2:d<=mv.length+2
 yes:more=true->DI mv g dt d true 0/\d+Ly dt<=mv.length+1
 no:more=false->Mt mv g dt
theorem UG(l:List Int):Ly l<=l.length:=List.countP_le_length
theorem Nt.init{mv:List (List (List Int))}{g:Nat->Bool}{dist:List Int}(a:dist.length=mv.length)(c:∀i,i < mv.length->dist.getD i 0=if g i then 0 else -1):Nt mv g dist 1 true:=by
 have b:∀x,x < mv.length->-1<=dist.getD x 0/\dist.getD x 0 < 1:=λx b=>by have:=c x b;split at this<;>omega
 have l:=UG dist;refine⟨a,by omega,by omega,λ_=>⟨⟨a,by omega,λx h=>?_,λx h k=>?_,λx h=>?_,λx _ h=>(b x h).2,λh=>(by cases h),λx h r f j m e d=>?_⟩,by omega⟩,λh=>(by cases h)⟩
 ·have:=c x h;split at this<;>simp_all
 ·have:=b x h;omega
 ·have:=b x h;omega
 ·omega
structure Jh (mv:List (List (List Int))) (g:Nat->Bool) (dt:List Int) (d:Int) (du:List Int) (m2:Bool) (i:Nat):Prop where
 le:i<=mv.length
 di:DI mv g du d m2 i
 cnt:Ly du+(if m2 then 1 else 0)<=Ly dt
theorem Jh.init{mv:List (List (List Int))}{g:Nat->Bool}{dt:List Int}{d:Int}(h:DI mv g dt d true 0):Jh mv g dt d dt false 0:=
 ⟨dP _,⟨h.len,h.d1,h.zero,h.step,h.lt,h.up,λ_ x a=>h.up x (dP _) a,h.close⟩,by simp⟩
theorem Jh.set{mv:List (List (List Int))}{g:Nat->Bool}{dt:List Int}{d:Int}{du:List Int}{b:Bool}{i:Nat}(h:Jh mv g dt d du b i)(hi:i < mv.length)(a:du.getD i 0 < 0)(c:HP (mv.getD i []) du (d - 1)=true):Jh mv g dt d (du.set i d) true (i+1):=by
 have k:=h.di.len;have e:=h.di.d1
 have j:du[i]? = some (du.getD i 0):=by
  have:i < du.length:=by omega
  simp [List.getD,this]
 have l:=Oe j a (y:=d) (by omega);have f:=h.cnt;refine⟨hi,h.di.set hi a c,?_⟩;simp only [if_true];split at f<;>omega
theorem Jh.AU{mv:List (List (List Int))}{g:Nat->Bool}{dt:List Int}{d:Int}{du:List Int}{a:Bool}{i:Nat}(h:Jh mv g dt d du a i)(hi:i < mv.length)(b:du.getD i 0 < 0->HP (mv.getD i []) du (d - 1)=false):Jh mv g dt d du a (i+1):=
 ⟨hi,h.di.AU hi b,h.cnt⟩
theorem Jh.next{mv:List (List (List Int))}{g:Nat->Bool}{dt:List Int}{d:Int}{du:List Int}{c:Bool}(b:JO mv)(h:Jh mv g dt d du c mv.length)(i:d+Ly dt<=mv.length+1):Nt mv g du (d+1) c:=by
 have e:=h.di.d1;have f:=h.cnt;refine⟨h.di.len,by omega,by omega,λa=>?_,λa=>?_⟩
 ·subst a
  simp only [if_true] at f;exact⟨h.di.next,by omega⟩
 ·subst a
  exact h.di.fin b (by omega)
theorem Rw(mv:List (List (List Int)))(g:Nat->Bool)(dist:List Int)(q:JO mv)(P:mv.length<=1048576)(p:dist.length=mv.length)(N:∀i,i < mv.length->dist.getD i 0=if g i then 0 else -1) :
    Spec Tryz.prog TB 233 [(0,.cells 3 1 (dist.map Az))] 1 [Cz mv,.o (.arr 0 1 0 mv.length)] (λx σ nx=>x=.t []/\nx=1/\∃dist',Mt mv g dist'/\σ=[(0,.cells 3 1 (dist'.map Az))]):=by
  refine eN Tryz.func233 rfl (by kernel_rfl) rfl ?_;intro Z a;(repeat first|refine tM rfl ?_ |refine aU rfl ?_ |refine Aa ?_);refine aB ?_;refine Al.AS (α:={x:List Int×Int×Bool // Nt mv g x.1 x.2.1 x.2.2}) (λ⟨⟨dt,d,more⟩,j⟩=>[(0,Cz mv),(1,.o (.arr 0 1 0 mv.length)),(4,eB more),(5,eI .i64 d)]) (λ⟨⟨dt,d,more⟩,j⟩=>[(0,.cells 3 1 (dt.map Az))]) 1 (λ⟨⟨dt,d,more⟩,j⟩=>2*Ly dt+(if more then 1 else 0)) (⟨(dist,1,true),Nt.init p N⟩) [0] (Dn a rfl rfl) (by (simp[cX,zC,a])) ?_;rintro⟨⟨dt,d,more⟩,j⟩;(try dsimp only);simp only at j;(repeat first|refine tM rfl ?_ |refine aU rfl ?_ |refine Aa ?_);(refine aC rfl ?_ ?_<;>rintro⟨⟩)
  · obtain⟨H,M⟩:=j.yes rfl
    have L:=H.d1;refine aK ?_;refine aS (aB ?_);(repeat first|refine tM rfl ?_ |refine aU rfl ?_ |refine Aa ?_);refine aB ?_;refine Al.AS (α:={x:List Int×Bool×Nat // Jh mv g dt d x.1 x.2.1 x.2.2}) (λ⟨⟨du,h,i⟩,e⟩=>[(0,Cz mv),(1,.o (.arr 0 1 0 mv.length)),(4,eB h),(5,eI .i64 d),(6,eI .i64 i)]) (λ⟨⟨du,h,i⟩,e⟩=>[(0,.cells 3 1 (du.map Az))]) 1 (λ⟨⟨du,h,i⟩,e⟩=>mv.length - i) (⟨(dt,false,0),Jh.init H⟩) [0] (Dn a rfl rfl) (by (simp[cX,zC,a])) ?_;rintro⟨⟨du,h,i⟩,e⟩;(try dsimp only);simp only at e;have w:=e.di.len;have G:=e.le;(repeat first|refine tM rfl ?_ |refine s2 rfl λ_ s=>?_ |refine aU rfl ?_ |refine Aa ?_);(refine aC rfl ?_ ?_<;>rintro⟨⟩)
    · obtain⟨y,B⟩:=get_some (l:=du) (k:=i) (by (simp only[oZ] at *;omega))
      have I:=Gc (g:=Az) B;obtain⟨mi,m⟩:=get_some (l:=mv) (k:=i) (by (simp only[oZ] at *;omega));have F:=get_map (g:=Hf) m
      have c:i < mv.length:=by (simp only[oZ] at *;omega)
      have u:du.getD i 0=y:=by simp [List.getD,B]
      have n:mv.getD i []=mi:=by simp [List.getD,m]
      have f:=e.set c;have b:=e.AU c;rw [u,n] at f b;refine aK ?_;refine aS (aB ?_);(repeat' first|((first|refine sM rfl ?_ ?_|refine s4 rfl ‹_› rfl ?_ ?_);first|exact tI|omega) |refine s2 rfl λ_ s=>?_|(refine Av rfl ?_;refine gA rfl ?_;first| (refine ao (Fs rfl rfl ((.cons (.o (.pure rfl)) (.cons (.o (.full rfl (by simp [bC]) (by simp [w]))) (.cons (.o (.pure rfl)) .nil)))) (Rx mi du (d - 1) (λr K v J=>by have:=q i c r (by rw [n];exact K) v J;exact⟨this.1,by omega⟩)) rfl) rfl ?_;intro _ s)) |refine s3 rfl ?_ ?_<;>rintro rfl |refine aU rfl ?_ |refine Aa ?_|(refine aC rfl ?_ ?_<;>rintro⟨⟩)|refine aK ?_|refine aE ?_|refine aB ?_|refine aR ⟨_,rfl,?_⟩)
      all_goals first
        | (refine⟨⟨(du,h,i+1),b (by grind)⟩,by dsimp only;(omega),[0],?_⟩
           simp[cX,zC,a]
           done)
        | (refine⟨⟨(du.set i d,true,i+1),f (by grind) (by grind)⟩,by dsimp only;(omega),[0],?_⟩
           rw [Gq];simp[cX,zC,a]
           done)
    · obtain rfl:i=mv.length:=by (simp only[oZ] at *;omega)
      have A:=e.next q M;have z:=e.cnt;refine aE ?_;(repeat first|(refine sM rfl ?_ ?_;first|exact tI|omega) |refine aU rfl ?_ |refine Aa ?_);refine⟨⟨(du,d+1,h),A⟩,?_,[0],?_⟩
      · dsimp only
        cases h<;>simp at z |- <;> omega
      · simp[cX,zC,a]
  · refine aE ?_
    exact⟨_,rfl,rfl,rfl,dt,j.no rfl,rfl⟩
theorem Rz(l:List Int)(a:Int):l.length=l.count a+(l.filter (· != a)).length:=by
 induction l with
 | nil=>rfl
 | cons b l c=>
  simp only [List.count_cons,List.filter_cons,cg];by_cases h:b=a
  ·subst h;simp;omega
  ·simp [h];omega
theorem DQ:∀(n:Nat) (l:List Int),l.Nodup->(∀x∈l,0<=x/\x < n)->l.length<=n
 | 0,l,_,h=>by
  cases l with
  | nil=>simp
  | cons a l=>have:=h a (by simp);omega
 | n + 1,l,b,h=>by
  have i:=Rz l n;have g:=List.nodup_iff_count.1 b n
  have f:=DQ n (l.filter (· != (n:Int))) (b.filter _) λx c=>by
   obtain⟨e,d⟩:=dB.1 c;have:=h x e;simp at d;omega
  omega
def FF(dist:List Int)(d:Int)(acc:List Int)(j:Int):List Int:=if dist.getD j.toNat 0=d/\j∉acc then acc++[j] else acc
theorem Qf(dist:List Int)(d:Int)(acc:List Int)(j:Int):FF dist d acc j=if dist.getD j.toNat 0=d/\j∉acc then acc++[j] else acc:=rfl
def Dx(mv:List (List (List Int)))(dist at':List Int)(k:Nat)(d:Int):List Int:=at'.foldl (λacc x=>((mv.getD x.toNat []).getD k []).foldl (FF dist d) acc) []
def Cr(n:Nat)(acc:List Int):Prop:=acc.Nodup/\∀x∈acc,0<=x/\x < n
theorem Cr.add{n:Nat}{acc:List Int}(h:Cr n acc){dist:List Int}{d j:Int}(f:0<=j/\j < n):Cr n (FF dist d acc j):=by
 unfold FF;split
 ·rename_i g
  refine⟨dp.2 ⟨h.1,by simp,λa ha b hb=>?_⟩,λx c=>?_⟩
  ·simp at hb;subst hb;intro e;subst e;exact g.2 ha
  ·rcases bE.1 c with c|c
   ·exact h.2 x c
   ·simp at c;subst c;exact f
 ·exact h
theorem Cr.fold{n:Nat}{dist:List Int}{d:Int}:∀ {l acc:List Int},Cr n acc->(∀j∈l,0<=j/\j < n)->Cr n (l.foldl (FF dist d) acc)
 | [],_,h,_=>h
 | j::_,_,h,a=>by rw [cY];exact Cr.fold (h.add (a j (by simp))) λx b=>a x (by simp [b])
theorem mem_row{mv:List (List (List Int))}(c:JO mv){x:Int}(d:0<=x/\x < mv.length)(k:Nat):∀j∈(mv.getD x.toNat []).getD k [],0<=j/\j < mv.length:=by
 intro j a
 cases b:(mv.getD x.toNat [])[k]? with
 | none=>
  have:(mv.getD x.toNat []).getD k []=[]:=by rw [List.getD,b];rfl
  rw [this] at a;cases a
 | some r=>
  have:(mv.getD x.toNat []).getD k []=r:=by rw [List.getD,b];rfl
  rw [this] at a;exact c x.toNat (by omega) r (bm b) j a
theorem Cr.VI{mv:List (List (List Int))}(a:JO mv){dist:List Int}{d:Int}{k:Nat}:∀ {l acc:List Int},Cr mv.length acc->(∀x∈l,0<=x/\x < mv.length)->Cr mv.length (l.foldl (λacc x=>((mv.getD x.toNat []).getD k []).foldl (FF dist d) acc) acc)
 | [],_,h,_=>h
 | j::_,_,h,b=>by rw [cY];exact Cr.VI a (h.fold (mem_row a (b j (by simp)) k)) λx c=>b x (by simp [c])
theorem Cr.nil{n:Nat}:Cr n []:=⟨.nil,λx a=>(by cases a)⟩
theorem Hd{α Y:Type}{l:List α}{k:Nat}{x:α}(h:l[k]? = some x)(f:Y->α->Y)(b:Y):(l.take (k+1)).foldl f b=f ((l.take k).foldl f b) x:=by
 rw [bF,h,List.foldl_append];rfl
theorem NZ(mv:List (List (List Int)))(dist at':List Int)(k:Nat)(d:Int)(B:JO mv)(hN:mv.length<=1048576)(U:dist.length=mv.length)(ha:∀x∈at',0<=x/\x < mv.length)(hal:at'.length<=1048576)(hk:∀i,i < mv.length->k < (mv.getD i []).length) :
 Pure Tryz.prog TB 235 [Cz mv,Ag dist,Ag at',eI .i64 k,eI .i64 d] (Ag (Dx mv dist at' k d)):=by
 have G:∀m,Cr mv.length ((at'.take m).foldl (λacc x=>((mv.getD x.toNat []).getD k []).foldl (FF dist d) acc) []):=λm=>Cr.VI B .nil λx n=>ha x (ce n);refine eN Tryz.func235 rfl (by kernel_rfl) rfl ?_;intro Z c;refine Al.bound 0 rfl λR=>?_;(repeat first|refine aU rfl ?_);(refine Av rfl ?_;refine BU (λ_ _=>Bw rfl) rfl ?_);(repeat first|refine aU rfl ?_ |refine Aa ?_);(refine pW rfl ?_ rfl (by rfl);refine Cv rfl rfl rfl rfl (by simp) (by rfl) (by rfl) (by rfl) (by rfl) ?_);(repeat first|refine tM rfl ?_ |refine aU rfl ?_ |refine Aa ?_);refine aB ?_;refine Al.AS (α:={m:Nat // m<=at'.length}) (λ⟨m,M⟩=>[(0,Cz mv),(1,Ag dist),(2,Ag at'),(3,eI .i64 k),(4,eI .i64 d),(11,.o (.arr 0 1 0 ((at'.take m).foldl (λacc x=>((mv.getD x.toNat []).getD k []).foldl (FF dist d) acc) []).length)),(12,eI .i64 m)]) (λ⟨m,M⟩=>[(0,.cells 3 1 (((at'.take m).foldl (λacc x=>((mv.getD x.toNat []).getD k []).foldl (FF dist d) acc) []).map Az))]) 1 (λ⟨m,M⟩=>at'.length - m) (⟨0,by omega⟩) [0] (Dn c rfl rfl) (by (simp[cX,zC,c])) ?_;rintro⟨m,M⟩;(try dsimp only);have s:=G m;have q:=λx=>Hd (l:=at') (k:=m) (x:=x) (f:=λacc x=>((mv.getD x.toNat []).getD k []).foldl (FF dist d) acc) (b:=[]);generalize J:(at'.take m).foldl (λacc x=>((mv.getD x.toNat []).getD k []).foldl (FF dist d) acc) []=acc at *;(repeat first|refine sN rfl ?_ |refine tM rfl ?_ |refine s2 rfl λ_ t=>?_ |refine aU rfl ?_ |refine Aa ?_);(refine aC rfl ?_ ?_<;>rintro⟨⟩)
 ·obtain⟨y,L⟩:=get_some (l:=at') (k:=m) (by (simp only[oZ] at *;omega))
  have hy':=get_map (g:=Bp) L;have K:=ha y (bm L);obtain⟨my,w⟩:=get_some (l:=mv) (k:=y.toNat) (by omega)
  have v:(mv.map Hf)[y.toNat]? = some (Hf my):=by simp [w]
  have A:=hk y.toNat (by omega)
  have p:mv.getD y.toNat []=my:=by simp [List.getD,w]
  rw [p] at A;obtain⟨r,u⟩:=get_some (l:=my) (k:=k) A;have hr':=get_map (g:=CK) u
  have F:my.getD k []=r:=by simp [List.getD,u]
  have h:=mem_row B K k;rw [p,F] at h;have e:=q y L;rw [p,F] at e;have hBr:=R (r.map Bp) (.l (i:=y.toNat) (j:=0) (r:=Hf my) v rfl (.l (i:=k) (j:=0) (r:=CK r) (by simp [u]) rfl .refl));have P:∀j,Cr mv.length ((r.take j).foldl (FF dist d) acc):=λj=>s.fold λx n=>h x (ce n);refine aK ?_;refine aS (aB ?_);(repeat first|refine tM rfl ?_ |(refine s4 rfl ‹_› rfl ?_ ?_;omega) |refine aU rfl ?_ |refine Aa ?_);refine aB ?_;refine Al.AS (α:={j:Nat // j<=r.length}) (λ⟨j,N⟩=>[(0,Cz mv),(1,Ag dist),(2,Ag at'),(3,eI .i64 k),(4,eI .i64 d),(11,.o (.arr 0 1 0 ((r.take j).foldl (FF dist d) acc).length)),(12,eI .i64 m),(13,Ag r),(14,eI .i64 j)]) (λ⟨j,N⟩=>[(0,.cells 3 1 (((r.take j).foldl (FF dist d) acc).map Az))]) 1 (λ⟨j,N⟩=>r.length - j) (⟨0,by omega⟩) [0] (Dn c rfl rfl) (by (simp[cX,zC,c])) ?_;rintro⟨j,N⟩;(try dsimp only);have H:=P j;have a:=λx=>Hd (l:=r) (k:=j) (x:=x) (f:=FF dist d) (b:=acc);generalize I:(r.take j).foldl (FF dist d) acc=S at *;(repeat first|refine sN rfl ?_ |refine tM rfl ?_ |refine s2 rfl λ_ t=>?_ |refine aU rfl ?_ |refine Aa ?_);(refine aC rfl ?_ ?_<;>rintro⟨⟩)
  ·obtain⟨x,n⟩:=get_some (l:=r) (k:=j) (by (simp only[oZ] at *;omega))
   have hx':=get_map (g:=Bp) n;have hxb:=h x (bm n);obtain⟨z,T⟩:=get_some (l:=dist) (k:=x.toNat) (by omega)
   have hz':(dist.map Bp)[x.toNat]? = some (Bp z):=by simp [T]
   have Q:dist.getD x.toNat 0=z:=by simp [List.getD,T]
   have a:=a x n;have V:=DQ _ _ H.1 H.2;rw [Qf,Q] at a;refine aK ?_;refine aS (aB ?_);(repeat' first|(refine sM rfl ?_ ?_;first|exact tI|simp only[oZ] at *;omega) |(refine s4 rfl ‹_› rfl ?_ ?_;omega) |refine s2 rfl λ_ t=>?_|(refine Av rfl ?_;refine gA rfl ?_;first| (refine ao (Fs rfl rfl ((.cons (.o (.full rfl (by simp [bC]) (by simp))) (.cons (.o (.pure rfl)) .nil))) (UB S x) rfl) rfl ?_;intro _ t)) |refine s3 rfl ?_ ?_<;>rintro rfl |refine aU rfl ?_ |refine Aa ?_|(refine aC rfl ?_ ?_<;>rintro⟨⟩)|refine aK ?_|refine aE ?_|refine aB ?_|refine aR ⟨_,rfl,?_⟩)
   all_goals try (rw [if_neg (by grind)] at a;refine⟨⟨j+1,by (simp only[oZ] at *;omega)⟩,by dsimp only;((simp only[oZ] at *;omega)),[0],?_⟩;simp[cX,zC,c,a];done)
   all_goals rw [if_pos (by grind)] at a
   (repeat first|refine tA rfl ?_);(refine pW rfl ?_ rfl (by rfl);refine AT rfl rfl rfl (by first| (simp;done)|(simp;(omega))) rfl (by intro r u;simp at u;subst u;rfl) (by rfl) (bn rfl) (by simp;omega) ?_);(repeat first|(refine sX rfl ?_ ?_;first|exact tI|simp only[oZ] at *;omega) |refine aU rfl ?_ |refine Aa ?_);refine⟨⟨j+1,by (simp only[oZ] at *;omega)⟩,by dsimp only;((simp only[oZ] at *;omega)),[1],?_⟩;simp[cX,zC,c,a]
  ·obtain rfl:j=r.length:=by (simp only[oZ] at *;omega)
   refine aE ?_;rw [bO] at I;subst I;(repeat first|(refine sM rfl ?_ ?_;first|exact tI|omega) |refine aU rfl ?_ |refine Aa ?_);refine⟨⟨m+1,by (simp only[oZ] at *;omega)⟩,by dsimp only;((simp only[oZ] at *;omega)),[0],?_⟩;simp[cX,zC,c,e,-List.getD_eq_getElem?_getD]
 ·obtain rfl:m=at'.length:=by (simp only[oZ] at *;omega)
  refine aE ?_;(repeat first|refine tM rfl ?_ |refine aU rfl ?_ |refine Aa ?_);rw [bO] at J;subst J;refine Al.freeze [0] [(10,Ag (Dx mv dist at' k d))] ⟨⟨_,rfl,.o (.full (by simp) rfl (by simp [bC,Dx]) (by simp))⟩,trivial⟩ ?_;refine aR ⟨_,rfl,rfl⟩
end Go.Am
namespace Go.Am
open Go
structure Gr where
 N:Nat
 succ:Int->Int->List Int
 goal:Int->Bool
 ls:List Int
 s0:Int
structure FM (g:Gr):Prop where
 s0:0<=g.s0/\g.s0 < g.N
 inn:∀x:Int,0<=x/\x < g.N->∀l∈g.ls,∀y∈g.succ x l,0<=y/\y < g.N
 srt:g.ls.Pairwise (· < ·)
def reach(g:Gr):List Int->Int->Int->Prop
 | [],a,x=>a=x
 | l::w,a,x=>∃y∈g.succ a l,reach g w y x
def over(g:Gr)(w:List Int):Prop:=∀l∈w,l∈g.ls
def RY(g:Gr)(w:List Int):Prop:=∃x,reach g w g.s0 x/\g.goal x=true
def OW:List Int->List Int->Prop
 | a::u,b::w=>a < b\/a=b/\OW u w
 | _,_=>False
def slt(u w:List Int):Prop:=u.length < w.length\/u.length=w.length/\OW u w
def BE(g:Gr):Option (List Int)->Prop
 | some w=>over g w/\RY g w/\∀u,over g u->RY g u->¬slt u w
 | none=>∀u,over g u->¬RY g u
theorem CT{g:Gr}:∀ {w:List Int} {l a x:Int},reach g (w++[l]) a x↔∃y,reach g w a y/\x∈g.succ y l
 | [],l,a,x=>by simp [reach]
 | m::w,l,a,x=>by
  simp only [cQ,reach,CT];constructor
  ·rintro⟨y,c,z,b,d⟩;exact⟨z,⟨y,c,b⟩,d⟩
  ·rintro⟨z,⟨y,c,b⟩,d⟩;exact⟨y,c,z,b,d⟩
theorem Cw{g:Gr}(c:FM g):∀ {w:List Int} {a x:Int},over g w->(0<=a/\a < g.N)->reach g w a x->0<=x/\x < g.N
 | [],a,x,_,ha,h=>by have h:a=x:=h;subst h;exact ha
 | l::w,a,x,b,ha,h=>by
  obtain⟨y,d,h⟩:=h;exact Cw c (λm e=>b m (by simp [e])) (c.inn a ha l (b l (by simp)) y d) h
theorem DS{g:Gr}{w:List Int}{l:Int}:over g (w++[l])↔over g w/\l∈g.ls:=by
 unfold over;simp only [bE,eF];constructor
 ·intro h;exact⟨λm a=>h m (.inl a),h l (.inr rfl)⟩
 ·rintro⟨c,b⟩ m (a|rfl);exact c m a;exact b
theorem Gg:∀ {u w:List Int} {m l:Int},u.length=w.length->(OW (u++[m]) (w++[l])↔OW u w\/u=w/\m < l)
 | [],[],m,l,_=>by simp [OW]
 | [],b::w,m,l,h=>by simp at h
 | a::u,[],m,l,h=>by simp at h
 | a :: u,b::w,m,l,h=>by
  simp only [cQ,OW,Gg (u:=u) (w:=w) (by simpa using h),List.cons.injEq];constructor
  ·rintro(h|⟨d,c|⟨c,e⟩⟩)
   ·exact .inl (.inl h)
   ·exact .inl (.inr ⟨d,c⟩)
   ·exact .inr ⟨⟨d,c⟩,e⟩
  ·rintro((h|⟨d,c⟩)|⟨⟨d,c⟩,e⟩)
   ·exact .inl h
   ·exact .inr ⟨d,.inl c⟩
   ·exact .inr ⟨d,.inr ⟨c,e⟩⟩
theorem MR:∀ {u w:List Int},u.length=w.length->OW u w\/u=w\/OW w u
 | [],[],_=>.inr (.inl rfl)
 | [],b::w,h=>by simp at h
 | a::u,[],h=>by simp at h
 | a :: u,b::w,h=>by
  simp only [OW,List.cons.injEq];have d:=MR (u:=u) (w:=w) (by simpa using h)
  rcases Int.lt_trichotomy a b with c|c|c
  ·exact .inl (.inl c)
  ·rcases d with d|d|d
   ·exact .inl (.inr ⟨c,d⟩)
   ·exact .inr (.inl ⟨c,d⟩)
   ·exact .inr (.inr (.inr ⟨c.symm,d⟩))
  ·exact .inr (.inr (.inl c))
theorem Vi{u w:List Int}(c:¬slt u w)(b:¬slt w u):u=w:=by
 unfold slt at c b
 have a:u.length=w.length:=by omega
 rcases MR a with h|h|h
 ·exact absurd (.inr ⟨a,h⟩) c
 ·exact h
 ·exact absurd (.inr ⟨a.symm,h⟩) b
theorem BE.unique{g:Gr}{r s:Option (List Int)}(b:BE g r)(a:BE g s):r=s:=by
 cases r with
 | none=>
  cases s with
  | none=>rfl
  | some w=>exact absurd a.2.1 (b w a.1)
 | some v=>
  cases s with
  | none=>exact absurd b.2.1 (a v b.1)
  | some w=>rw [Vi (a.2.2 v b.1 b.2.1) (b.2.2 w a.1 a.2.1)]
theorem N7:∀(l:List Int) (Q:Int->Prop),(∃x∈l,Q x)->∃x∈l,Q x/\∀y∈l,Q y->¬y < x
 | [],Q,h=>by obtain⟨x,d,_⟩:=h;cases d
 | a :: l,Q,h=>by
  by_cases ht:∃x∈l,Q x
  ·obtain⟨x,d,e,g⟩:=N7 l Q ht
   by_cases ha:Q a/\a < x
   ·refine⟨a,by simp,ha.1,λy c b=>?_⟩
    rcases cm.1 c with rfl|c
    ·omega
    ·have:=g y c b;omega
   ·refine⟨x,by simp [d],e,λy c b=>?_⟩
    rcases cm.1 c with rfl|c
    ·exact λf=>ha ⟨b,f⟩
    ·exact g y c b
  ·obtain⟨x,d,e⟩:=h
   rcases cm.1 d with rfl|d
   ·refine⟨x,by simp,e,λy c b=>?_⟩
    rcases cm.1 c with rfl|c
    ·omega
    ·exact absurd ⟨y,c,b⟩ ht
   ·exact absurd ⟨x,d,e⟩ ht
theorem Kk(ls:List Int):∀(n:Nat) (Q:List Int->Prop),(∃u:List Int,u.length=n/\(∀l∈u,l∈ls)/\Q u)->∃u:List Int,u.length=n/\(∀l∈u,l∈ls)/\Q u/\∀v:List Int,v.length=n->(∀l∈v,l∈ls)->Q v->¬OW v u
 | 0,Q,⟨u,g,f,i⟩=>by
  have:u=[]:=bM.1 g;subst this;exact⟨[],rfl,f,i,λv e _ _=>by have:v=[]:=bM.1 e;subst this;exact λh=>h⟩
 | n + 1,Q,⟨u,g,f,i⟩=>by
  cases u with
  | nil=>simp at g
  | cons a u=>
   obtain⟨x,p,⟨o,z,y,w⟩,q⟩:=N7 ls (λx=>∃u:List Int,u.length=n/\(∀l∈u,l∈ls)/\Q (x::u)) ⟨a,f a (by simp),u,by simpa using g,λl c=>f l (by simp [c]),i⟩;obtain⟨m,t,s,r,j⟩:=Kk ls n (λu=>Q (x::u)) ⟨o,z,y,w⟩;refine⟨x::m,by simp [t],λl c=>by rcases cm.1 c with rfl|c;exact p;exact s l c,r,λv e d k=>?_⟩
   cases v with
   | nil=>simp at e
   | cons b v=>
    have hb:=q b (d b (by simp)) ⟨v,by simpa using e,λl c=>d l (by simp [c]),k⟩;rintro(h|⟨h,A⟩)
    ·exact hb h
    ·subst h;exact j v (by simpa using e) (λl c=>d l (by simp [c])) k A
theorem J0(g:Gr):∃r,BE g r:=by
 by_cases h:∃u,over g u/\RY g u
 ·have key : ∀n,(∃u,u.length<=n/\over g u/\RY g u)->∃m,(∃u,u.length=m/\over g u/\RY g u)/\∀u,over g u->RY g u->m<=u.length:=by
   intro n
   induction n with
   | zero=>
    rintro⟨u,i,c,b⟩;exact⟨0,⟨u,by omega,c,b⟩,λ_ _ _=>dP _⟩
   | succ n j=>
    rintro⟨u,i,c,b⟩;by_cases e:∃u,u.length<=n/\over g u/\RY g u
    ·exact j e
    ·refine⟨n+1,⟨u,?_,c,b⟩,λv k f=>?_⟩
     ·have:¬u.length<=n:=λh=>e ⟨u,h,c,b⟩
      omega
     ·have:¬v.length<=n:=λh=>e ⟨v,h,k,f⟩
      omega
  obtain⟨u,a⟩:=h;obtain⟨m,⟨v,i,c,b⟩,l⟩:=key u.length ⟨u,bJ _,a⟩;obtain⟨w,t,q,p,o⟩:=Kk g.ls m (RY g) ⟨v,i,c,b⟩;refine⟨some w,q,p,λu a d=>?_⟩;rintro(h|⟨h,s⟩)
  ·have:=l u a d;omega
  ·exact o u (by omega) a d s
 ·exact⟨none,λu a d=>h ⟨u,a,d⟩⟩
structure Hq (g:Gr) (dx:Int->Int):Prop where
 zero:∀x:Int,0<=x/\x < g.N->(dx x=0↔g.goal x=true)
 step:∀x:Int,0<=x/\x < g.N->0 < dx x->∃l∈g.ls,∃j∈g.succ x l,dx j=dx x - 1
 close:∀x:Int,0<=x/\x < g.N->∀l∈g.ls,∀j∈g.succ x l,0<=dx j->0<=dx x/\dx x<=dx j+1
theorem Hq.Uv{g:Gr}(j:FM g){dx:Int->Int}(h:Hq g dx):∀ {u:List Int} {a x:Int},over g u->(0<=a/\a < g.N)->reach g u a x->0<=dx x->0<=dx a/\dx a<=u.length+dx x
 | [],a,x,_,_,c,d=>by have c:a=x:=c;subst c;simp;exact d
 | l::u,a,x,f,ha,⟨y,e,c⟩,d=>by
  have i:=f l (by simp);have b:=j.inn a ha l i y e;have n:=Hq.Uv j h (λm k=>f m (by simp [k])) b c d;have o:=h.close a ha l i y e n.1;simp only [cg];push_cast;omega
structure Jk (g:Gr) (dx:Int->Int) (w:List Int) (at':List Int) (d:Int):Prop where
 ov:over g w
 ne:at'≠[]
 acc:Cr g.N at'
 mem:∀x,x∈at'↔reach g w g.s0 x/\dx x=d
 len:w.length+d=dx g.s0
 d0:0<=d
 min:∀u,over g u->u.length=w.length->OW u w->∀x,reach g u g.s0 x->dx x≠d
theorem Jk.init{g:Gr}(d:FM g){dx:Int->Int}(e:0<=dx g.s0):Jk g dx [] [g.s0] (dx g.s0):=
 ⟨λl a=>(by cases a),by simp,⟨by simp,λx b=>by simp at b;subst b;exact d.s0⟩,λx=>by simp [reach];constructor<;>intro h<;>simp_all,by simp,e,λu _ c a=>by
  have:u=[]:=bM.1 c
  subst this;exact a.elim⟩
theorem Jk.aN{g:Gr}(a:FM g){dx:Int->Int}(e:Hq g dx){w at':List Int}(h:Jk g dx w at' 0):BE g (some w):=by
 refine⟨h.ov,?_,λu c k=>?_⟩
 ·cases at' with
  | nil=>exact absurd rfl h.ne
  | cons x l=>
   have f:=(h.mem x).1 (by simp);exact⟨x,f.1,(e.zero x (h.acc.2 x (by simp))).1 f.2⟩
 ·obtain⟨x,b,d⟩:=k
  have j:=(e.zero x (Cw a c a.s0 b)).2 d;have f:=e.Uv a c a.s0 b (by omega);have n:=h.len;rintro(i|⟨i,m⟩)
  ·omega
  ·exact h.min u c i m x b j
theorem Sm{g:Gr}(a:FM g){dx:Int->Int}(e:Hq g dx)(h:dx g.s0 < 0):BE g none:=by
 rintro u d ⟨x,c,b⟩;have f:=(e.zero x (Cw a d a.s0 c)).2 b;have i:=e.Uv a d a.s0 c (by omega);omega
theorem Jk.prog{g:Gr}{dx:Int->Int}(e:Hq g dx){w at':List Int}{d:Int}(h:Jk g dx w at' d)(f:0 < d):∃l∈g.ls,∃x∈at',∃y∈g.succ x l,dx y=d - 1:=by
 cases at' with
 | nil=>exact absurd rfl h.ne
 | cons x l=>
  have i:=(h.mem x).1 (by simp);obtain⟨l,a,j,b,c⟩:=e.step x (h.acc.2 x (by simp)) (by omega);exact⟨l,a,x,by simp,j,b,by omega⟩
theorem Jk.next{g:Gr}(s:FM g){dx:Int->Int}(I:Hq g dx){w at':List Int}{d:Int}(h:Jk g dx w at' d)(J:0 < d){l:Int}(H:l∈g.ls){at2:List Int}(ha:Cr g.N at2)(z:at2≠[])
 (A:∀y,y∈at2↔∃x∈at',y∈g.succ x l/\dx y=d - 1) (j:∀m∈g.ls,m < l->¬∃x∈at',∃y∈g.succ x m,dx y=d - 1):Jk g dx (w++[l]) at2 (d - 1):=by
 have G:=h.len
 have key:∀u m x y,over g u->u.length=w.length->m∈g.ls->reach g u g.s0 x->y∈g.succ x m->dx y=d - 1->dx x=d:=by
  intro u m x y r i A b c a;have n:=Cw s r s.s0 b;have t:=I.close x n m A y c (by omega);have K:=I.Uv s r s.s0 b (by omega);omega
 refine⟨DS.2 ⟨h.ov,H⟩,z,ha,λy=>?_,by simp;omega,by omega,λu r i B y c a=>?_⟩
 ·rw [A,CT]
  constructor
  ·rintro⟨x,b,c,a⟩
   exact⟨⟨x,((h.mem x).1 b).1,c⟩,a⟩
  ·rintro⟨⟨x,b,c⟩,a⟩
   exact⟨x,(h.mem x).2 ⟨b,key w l x y h.ov rfl H b c a⟩,c,a⟩
 ·have o:u≠[]:=λe=>by subst e;simp at i
  obtain⟨v,m,rfl⟩:∃v m,u=v++[m]:=⟨u.dropLast,u.getLast o,(dI o).symm⟩
  have f:v.length=w.length:=by simpa using i
  obtain⟨F,p⟩:=DS.1 r;obtain⟨x,b,k⟩:=CT.1 c;have q:=key v m x y F f p b k a
  rcases(Gg f).1 B with t|⟨rfl,t⟩
  ·exact h.min v F f t x b q
  ·exact j m p t ⟨x,(h.mem x).2 ⟨b,q⟩,y,k,a⟩
def Eo(w:List Int):List UInt8:=w.map λl=>UInt8.ofNat (97+l.toNat)
def Xw(r:Option (List Int)):E:=match r with
 | some w=>.t [(false,[.d (tD (Eo w))]),(false,[.d (bD true)])]
 | none=>.t [(false,[.d (tD [])]),(false,[.d (bD false)])]
end Go.Am
namespace Go.Am
open Go Go.Proofs
set_option maxHeartbeats 1000000
set_option maxRecDepth 4000
attribute [local irreducible] AP BH Lex A4 Al Spec
variable {TB:Bg}
def EE(n:Net):Gr:={ N:=(AE (Ae n)).toNat,succ:=λx l=>Ef n (Ae n) (Bs (Ae n) x) l,goal:=λx=>BS n (Bs (Ae n) x) (DA n x.toNat),ls:=Ac n.ls,s0:=Fc (Ae n) n.st 0 }
theorem C4(s:Int)(k:Nat):(Ay s k).Pairwise (· < ·):=by
 unfold Ay;rw [dF];refine(List.pairwise_lt_range.filter _).imp λ{a b} h=>?_
 show ((a:Nat):Int) < ((b:Nat):Int)
 omega
theorem Hy{n:Net}(b:Dm n)(x:Int):Fits (Ae n) (Bs (Ae n) x):=Ir (λz a=>by have:=EU b z a;omega) x
theorem Oi{n:Net}(a:Dm n){x l:Int}(c:l∈Ac n.ls){y:Int}(b:y∈Ef n (Ae n) (Bs (Ae n) x) l):0<=y/\y < AE (Ae n):=by
 have e:=AK c;have d:=Qy (Hv a (Hy a x) (l:=l) (by omega) (by omega)) [0] 1 (by simp) (by omega) (by simp);have:=d.1 y b;omega
theorem SE{n:Net}(b:Dm n)(a:Fits (Ae n) n.st):FM (EE n):=by
 have f:=JI b;have e:=a.enc 0 (by omega);refine⟨?_,λx _ l d y c=>?_,C4 _ _⟩
 ·show 0<=Fc _ _ _/\Fc _ _ _ < ((AE (Ae n)).toNat:Int)
  omega
 ·show 0<=y/\y < ((AE (Ae n)).toNat:Int)
  have:=Oi b d c;omega
theorem HN{n:Net}(c:Dm n):JO (Cm n (EE n).N):=by
 intro x a r b j e
 have a:x < (EE n).N:=by simpa [Cm] using a
 have g:(Cm n (EE n).N).getD x []=DA n x:=by rw [List.getD,Hi a];rfl
 rw [g] at b;obtain⟨l,d,rfl⟩:=bB.1 b;have h:=Oi c d e
 have f:(Cm n (EE n).N).length=(AE (Ae n)).toNat:=by simp [Cm,EE]
 rw [f];omega
theorem Ed{n:Net}{x:Int}(a:0<=x/\x < (EE n).N):(Cm n (EE n).N).getD x.toNat []=(Ac n.ls).map λl=>(EE n).succ x l:=by
 rw [List.getD,Hi (by omega)]
 have:((x.toNat:Nat):Int)=x:=by omega
 simp [DA,this,EE]
theorem Sy{n:Net}{dist:List Int}(h:Mt (Cm n (EE n).N) (λi=>BS n (Bs (Ae n) i) (DA n i)) dist):Hq (EE n) (λx=>dist.getD x.toNat 0):=by
 have o:(Cm n (EE n).N).length=(EE n).N:=by simp [Cm]
 refine⟨λx a=>?_,λx a k=>?_,λx a l b j d c=>?_⟩
 ·have g:=h.zero x.toNat (by omega)
  have e:((x.toNat:Nat):Int)=x:=by omega
  rw [e] at g;exact g
 ·obtain⟨r,f,j,d,m⟩:=h.step x.toNat (by omega) k
  rw [Ed a] at f;obtain⟨l,b,rfl⟩:=bB.1 f;exact⟨l,b,j,d,m⟩
 ·exact h.close x.toNat (by omega) _ (by rw [Ed a];exact bB.2 ⟨l,b,rfl⟩) j d c
theorem Ob{dist:List Int}{d y:Int}:∀ {l acc:List Int},y∈l.foldl (FF dist d) acc↔y∈acc\/y∈l/\dist.getD y.toNat 0=d
 | [],acc=>by simp
 | j::l,acc=>by
  rw [cY,Ob,Qf];split<;>grind
theorem SY{mv:List (List (List Int))}{dist:List Int}{k:Nat}{d y:Int}{l:List Int}:y∈Dx mv dist l k d↔∃x∈l,y∈(mv.getD x.toNat []).getD k []/\dist.getD y.toNat 0=d:=by
 have key:∀(l acc:List Int),y∈l.foldl (λacc x=>((mv.getD x.toNat []).getD k []).foldl (FF dist d) acc) acc↔y∈acc\/∃x∈l,y∈(mv.getD x.toNat []).getD k []/\dist.getD y.toNat 0=d:=by
  intro l
  induction l with
  | nil=>intro acc;simp
  | cons a l b=>
   intro acc;rw [cY,b,Ob];grind
 unfold Dx;rw [key];simp
theorem Sx{n:Net}{dist l:List Int}{k:Nat}{m:Int}(e:(Ac n.ls)[k]? = some m)(f:∀x∈l,0<=x/\x < (EE n).N){d y:Int} :
 y∈Dx (Cm n (EE n).N) dist l k d↔∃x∈l,y∈(EE n).succ x m/\dist.getD y.toNat 0=d:=by
 rw [SY];constructor
 ·rintro⟨x,a,b,c⟩
  rw [Ed (f x a)] at b;exact⟨x,a,by simpa [List.getD,e] using b,c⟩
 ·rintro⟨x,a,b,c⟩
  exact⟨x,a,by rw [Ed (f x a)];simpa [List.getD,e] using b,c⟩
theorem KE:∀ {zs:List Int} {k:Nat} {z:Int},zs[k]? = some z->AE (zs.take (k+1))=AE (zs.take k)*z
 | [],k,z,h=>by simp at h
 | a::zs,0,z,h=>by simp at h;subst h;simp [AE]
 | a::zs,k+1,z,h=>by
  simp only [dS,AE];rw [KE (by simpa using h),dO]
def dl(f:Nat->Int)(N i:Nat):List Int:=(List.range i).map f++List.replicate (N - i) 0
theorem Sz{f:Nat->Int}{N i:Nat}(h:i<=N):(dl f N i).length=N:=by simp [dl];omega
theorem VO{f:Nat->Int}{N i:Nat}(h:i < N):(dl f N i)[i]? = some 0:=by
 unfold dl;rw [bz (by simp)]
 have:0 < N - i:=by omega
 simp [this]
theorem VP{f:Nat->Int}{N i:Nat}(h:i < N):(dl f N i).set i (f i)=dl f N (i+1):=by
 unfold dl;rw [dH _ _ (by simp)]
 have:N - i=(N - (i+1))+1:=by omega
 rw [this,dU,cO];simp [da]
end Go.Am
