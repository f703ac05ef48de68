/-
  Choices.
-/
import Derived.Test.YtgpbfllcjdfelaaGreatDoorPart16
set_option linter.all false
namespace Go.Am
open Go Go.Proofs
set_option maxHeartbeats 1000000
set_option maxRecDepth 4000
attribute [local irreducible] AW BQ Lex A9 Aj Spec
variable {TB:Bp}
theorem O8(n:Net)(i:Nat)(a:AX)(q:Nat)(l:Int)(ha:n.au[i]? = some a)(b:AE a=true)(e:q < a.nx.length)(h:0<=l)(f:l < 6)(k:n.ps.length<=3)(m:n.au.length<=2) :
 Pure Tryz.prog TB 293 [Lp n,eI .i64 (n.ps.length+i),eI .i64 q,eI .i64 l] (Av [Cg a q l]):=by
 have hi:=(ce.1 ha).1;have c:=get_map (g:=AM) ha
 have o:((n.ps.length:Int)+i - n.ps.length).toNat=((i:Nat):Int).toNat:=by omega
 have p:(n.au.map AM)[((n.ps.length:Int)+i - n.ps.length).toNat]? = some (AM a):=by rw [o];exact c
 refine eN Tryz.func293 rfl (by kernel_rfl) rfl ?_;intro Z j;(repeat' first|refine sN rfl ?_ |(refine sA rfl ?_ ?_;first|exact tI|omega) |(refine s4 rfl ‹_› rfl ?_ ?_;omega) |refine s2 rfl λ_ d=>?_ |(refine sC rfl (VS a b q e l h f) ?_;intro _ d)|refine sP rfl (VS a b q e l h f) rfl ?_ |refine aU rfl ?_ |refine Aa ?_|(refine aC rfl ?_ ?_<;>rintro⟨⟩)|refine aK ?_|refine aE ?_|refine aB ?_|refine aR ⟨_,rfl,?_⟩)
 all_goals first| rfl|(exfalso;(simp only[oZ] at *;omega))
theorem O9(n:Net)(i:Nat)(s:Sys)(q l:Int)(x:n.ps[i]? = some s)(j:AZ s=true)(v:0<=q)(u:q < s.st)(I:0<=l)(F:l < 6)(A:n.ps.length<=3) :
    Pure Tryz.prog TB 293 [Lp n,eI .i64 i,eI .i64 q,eI .i64 l] (Av (BF s q l)):=by
  have hi:=(ce.1 x).1;have z:=get_map (g:=AJ) x;refine eN Tryz.func293 rfl (by kernel_rfl) rfl ?_;intro Z c;(repeat first|refine aU rfl ?_);(refine Ai rfl ?_;refine Cv (λ_ _=>C4 rfl rfl rfl) rfl ?_);(refine Ai rfl ?_;refine Cv (λ_ _=>Cy rfl) rfl ?_);(repeat first|refine sN rfl ?_ |refine tM rfl ?_ |refine s2 rfl λ_ b=>?_ |(refine sC rfl (FX _ _ (by omega) (by omega)) ?_;intro _ b) |refine aU rfl ?_ |refine Aa ?_);(refine aC rfl ?_ ?_<;>rintro⟨⟩)
  · exfalso;(simp only[oZ] at *;omega)
  refine aK ?_;(repeat first|refine tM rfl ?_ |(refine s4 rfl ‹_› rfl ?_ ?_;omega) |refine s2 rfl λ_ b=>?_ |(refine sC rfl (FX _ _ (by omega) (by omega)) ?_;intro _ b) |refine aU rfl ?_ |refine Aa ?_);(refine aC rfl ?_ ?_<;>rintro⟨⟩)
  · (repeat' first|refine tA rfl ?_ |refine aU rfl ?_ |refine Aa ?_|(refine aC rfl ?_ ?_<;>rintro⟨⟩)|refine aK ?_|refine aE ?_|refine aB ?_|refine aR ⟨_,rfl,?_⟩)
    rw [show BF s q l=[q] by unfold BF;rw [if_neg (by grind)]];rfl
  refine aK ?_;(repeat first|refine aU rfl ?_);(refine pW rfl ?_ rfl (by rfl);refine Bb rfl rfl rfl rfl (by simp) (by rfl) (by rfl) (by rfl) (by rfl) ?_);(repeat first|refine tM rfl ?_ |(refine s4 rfl ‹_› rfl ?_ ?_;omega) |refine aU rfl ?_ |refine Aa ?_);refine Aj.bound 10 rfl λw=>?_;have w:=w _ .refl;rw [f9] at w;refine aB ?_
  have h:AR s.al l.toNat=true:=by grind
  refine Aj.A6 (α:={k:Nat // k<=s.es.length}) (λ⟨k,hk⟩=>[(2,eI .i64 q),(3,eI .i64 l),(9,.o (.arr 0 1 0 (BF { s with es:=s.es.take k } q l).length)),(10,dW s.es),(11,eI .i64 k)]) (λ⟨k,hk⟩=>[(0,.cells 3 1 ((BF { s with es:=s.es.take k } q l).map AP))]) 1 (λ⟨k,hk⟩=>s.es.length - k) (⟨0,by omega⟩) [0] (Ea c rfl rfl) (by (simp[cX,zC,c,BF,h])) ?_;rintro⟨k,hk⟩;(try dsimp only);(repeat first|refine sN rfl ?_ |refine tM rfl ?_ |refine s2 rfl λ_ b=>?_ |refine aU rfl ?_ |refine Aa ?_)
  have m:∀k,(BF { s with es:=s.es.take k } q l).length<=16:=by
    intro k;have F:=LZ j (l:=l) v u;have H:=AQ j
    have G:(BF { s with es:=s.es.take k } q l).length<=(BF s q l).length:=by
      simp only [BF,h,if_true,f9];exact((List.take_sublist k s.es).filter _).length_le
    omega
  have a:∀e,s.es[k]? = some e->BF { s with es:=s.es.take (k+1) } q l=BF { s with es:=s.es.take k } q l++if e.f=q/\e.l=l then [e.t] else []:=by
    intro e p;simp only [BF,h,if_true,gt,p,Option.toList_some,mB,mn,nX,List.filter_nil];grind
  (refine aC rfl ?_ ?_<;>rintro⟨⟩)
  · obtain⟨e,p⟩:=get_some (l:=s.es) (k:=k) (by (simp only[oZ] at *;omega))
    have B:=get_map (g:=EA) p;have a:=a e p;refine aK ?_;refine aS (aB ?_);(repeat' first|(refine sM rfl ?_ ?_;first|exact tI|simp only[oZ] at *;omega) |(refine s4 rfl ‹_› rfl ?_ ?_;omega) |refine s2 rfl λ_ b=>?_ |refine s3 rfl ?_ ?_<;>rintro rfl |refine aU rfl ?_ |refine Aa ?_|(refine aC rfl ?_ ?_<;>rintro⟨⟩)|refine aK ?_|refine aE ?_|refine aB ?_|refine aR ⟨_,rfl,?_⟩)
    all_goals first
      | (rw [if_pos (by grind)] at a
         (repeat first|refine tA rfl ?_);(refine pW rfl ?_ rfl (by rfl);refine Aw rfl rfl rfl (by first| (simp;done)|(simp;(omega))) rfl (by intro r y;simp at y;subst y;rfl) (by rfl) (am rfl) (by have:=m k;simp;omega) ?_);(repeat first|(refine sX rfl ?_ ?_;first|exact tI|simp only[oZ] at *;omega) |refine aU rfl ?_ |refine Aa ?_);refine⟨⟨k+1,by (simp only[oZ] at *;omega)⟩,by dsimp only;((simp only[oZ] at *;omega)),[1],?_⟩;simp[cX,zC,c,a]
         done)
      | (rw [if_neg (by grind),l8] at a
         refine⟨⟨k+1,by (simp only[oZ] at *;omega)⟩,by dsimp only;((simp only[oZ] at *;omega)),[0],?_⟩;simp[cX,zC,c,a]
         done)
  · obtain rfl:k=s.es.length:=by (simp only[oZ] at *;omega)
    refine aE ?_;(repeat first|refine tM rfl ?_ |refine aU rfl ?_ |refine Aa ?_);refine Aj.freeze [0] [(8,.o (.d (EB (BF s q l))))] ⟨⟨_,rfl,.o (.full (by simp) rfl (by simp [d6]) (by simp))⟩,trivial⟩ ?_;refine aR ⟨_,rfl,rfl⟩
theorem QI{n:Net}(h:Dm n){st:List Int}(p:Fits (Ag n) st){l:Int}(u:0<=l)(t:l < 6){i:Nat}{c:List Int}{q:Int}(b:(Jx n st l)[i]? = some c)(g:st[i]? = some q) :
 Pure Tryz.prog TB 293 [Lp n,eI .i64 i,eI .i64 q,eI .i64 l] (Av c):=by
 have d:=p.len;unfold Ag at d;simp only [mI,f9] at d
 have f:=(p.get i)
 have m:(n.ps.zipWith (λs q=>BF s q l) st).length=n.ps.length:=by rw [List.length_zipWith];omega
 have w:=(ce.1 g).1;unfold Jx at b;by_cases hi:i < n.ps.length
 ·rw [d9 (by omega)] at b
  obtain⟨s,k⟩:=get_some hi;rw [oQ,k,g] at b;simp only [Option.some.injEq] at b;subst b;have o:=f s.st q (by unfold Ag;rw [d9 (by simpa using hi)];simp [k]) g;exact O9 n i s q l k (h.ps s (co k)) o.1 o.2 u t h.np
 ·obtain⟨j,rfl⟩:∃j,i=n.ps.length+j:=⟨i - n.ps.length,by omega⟩
  rw [em (by omega),m] at b
  have e:n.ps.length+j - n.ps.length=j:=by omega
  rw [e] at b
  have v:j < n.au.length:=by omega
  obtain⟨a,ha⟩:=get_some v;rw [oQ,ha,lS,g] at b;simp only [Option.some.injEq] at b;subst b;have o:=f a.nx.length q (by unfold Ag;rw [em (by simp)];simp [ha]) g;have r:=O8 (TB:=TB) n j a q.toNat l ha (h.au a (co ha)) (by omega) u t h.np h.na
  have x:((q.toNat:Nat):Int)=q:=by omega
  rw [x] at r
  push_cast
  exact r
theorem SG{n:Net}(a:Dm n){st:List Int}(b:Fits (Ag n) st){l:Int}(f:0<=l)(e:l < 6)(k:Nat) :
 (∀v∈Gk ((Ag n).take k) ((Jx n st l).take k) [0],0<=v/\v < 1048576)/\(Gk ((Ag n).take k) ((Jx n st l).take k) [0]).length<=1048576:=by
 have c:=QO ((Hs a b f e).take k) [0] 1 (by simp) (by omega) (by simp);have h:=(b.take k).2;have g:=Nl a;rw [pD] at c;exact⟨λv d=>by have:=c.1 v d;omega,by omega⟩
theorem Ur{n:Net}(b:Dm n){st:List Int}(w:Fits (Ag n) st){l:Int}(N:0<=l)(M:l < 6) :
 Pure Tryz.prog TB 275 [Lp n,Av (Ag n),Av st,eI .i64 l] (Av (Eo n (Ag n) st l)):=by
 have s:=Hs b w N M;have t:=SG b w N M;have X:=Nl b;have hfl:=w.len;have hcl:=s.len;unfold Eo;have d:∀(i:Nat) (c:List Int) (q:Int),(Jx n st l)[i]? = some c->st[i]? = some q->Pure Tryz.prog TB 293 [Lp n,eI .i64 i,eI .i64 q,eI .i64 l] (Av c):=λi c q=>QI b w N M
 have R:(Ag n).length<=5:=by unfold Ag;have:=b.np;have:=b.na;simp;omega
 have f:=Fz b;generalize Jx n st l=cs at *;generalize Ag n=zs at *;refine eN Tryz.func275 rfl (by kernel_rfl) rfl ?_;intro Z a;(repeat first|refine aU rfl ?_);(refine Ai rfl ?_;refine Cv (λ_ _=>C4 rfl rfl rfl) rfl ?_);(refine Ai rfl ?_;refine Cv (λ_ _=>Cy rfl) rfl ?_);(repeat first|refine tA rfl ?_ |refine aU rfl ?_ |refine Aa ?_);refine aB ?_;refine Aj.A6 (α:={k:Nat // k<=zs.length}) (λ⟨k,hk⟩=>[(1,Av zs),(2,Av st),(3,eI .i64 l),(4,.o (.ip (MW n))),(9,Av (Gk (zs.take k) (cs.take k) [0])),(10,eI .i64 k)]) (λ⟨k,hk⟩=>[]) 0 (λ⟨k,hk⟩=>zs.length - k) (⟨0,by omega⟩) [] (Ea a rfl rfl) (by (simp[cX,zC,a,Gk])) ?_;rintro⟨k,hk⟩;(try dsimp only);(repeat first|refine sN rfl ?_ |refine tA rfl ?_ |refine s2 rfl λ_ u=>?_ |refine aU rfl ?_ |refine Aa ?_);(refine aC rfl ?_ ?_<;>rintro⟨⟩)
 ·obtain⟨z,v⟩:=get_some (l:=zs) (k:=k) (by (simp only[oZ] at *;omega))
  have S:=get_map (g:=BB) v;obtain⟨c,J⟩:=get_some (l:=cs) (k:=k) (by (simp only[oZ] at *;omega));obtain⟨q,Q⟩:=get_some (l:=st) (k:=k) (by (simp only[oZ] at *;omega));have V:=get_map (g:=BB) Q;have e:=PJ [0] v J;have L:=t k;have K:=(t (k+1)).2;have y:=f z (co v);obtain⟨I,hcn⟩:=s.get k z c v J;rw [e] at K;generalize Gk (zs.take k) (cs.take k) [0]=out at *;refine aK ?_;refine aS (aB ?_);(repeat first|refine tM rfl ?_ |(refine s4 rfl ‹_› rfl ?_ ?_;omega) |refine sP rfl (d k c q J Q) rfl ?_ |refine aU rfl ?_ |refine Aa ?_ |refine rE (by kernel_rfl) ?_);(refine pW rfl ?_ rfl (by rfl);refine Bb rfl rfl rfl rfl (by simp) (by rfl) (by rfl) (by rfl) (by rfl) ?_);(repeat first|refine tM rfl ?_ |refine aU rfl ?_ |refine Aa ?_);refine aB ?_
  have p:∀m,(((out.take m).flatMap λo=>c.map λx=>o*z+x).length:Int)<=16777216:=by
   intro m;have h2:=Kk (out.take m) (λo=>c.map λx=>o*z+x) 16 (λx _=>by simp;omega)
   have h3:(out.take m).length<=out.length:=by simp;omega
   omega
  refine Aj.A6 (α:={m:Nat // m<=out.length}) (λ⟨m,F⟩=>[(1,Av zs),(2,Av st),(3,eI .i64 l),(4,.o (.ip (MW n))),(9,Av out),(10,eI .i64 k),(11,Av c),(12,.o (.arr 0 1 0 ((out.take m).flatMap λo=>c.map λx=>o*z+x).length)),(13,eI .i64 m)]) (λ⟨m,F⟩=>[(0,.cells 3 1 (((out.take m).flatMap λo=>c.map λx=>o*z+x).map AP))]) 1 (λ⟨m,F⟩=>out.length - m) (⟨0,by omega⟩) [0] (Ea a rfl rfl) (by (simp[cX,zC,a])) ?_;rintro⟨m,F⟩;(try dsimp only);(repeat first|refine sN rfl ?_ |refine tM rfl ?_ |refine s2 rfl λ_ u=>?_ |refine aU rfl ?_ |refine Aa ?_);(refine aC rfl ?_ ?_<;>rintro⟨⟩)
  ·obtain⟨o,B⟩:=get_some (l:=out) (k:=m) (by (simp only[oZ] at *;omega))
   have Y:=get_map (g:=BB) B;have h:=L.1 o (co B);have hlm:=p m
   have h16:0<=o*z/\o*z<=16777216:=⟨l4 h.1 (by omega),by
    have h5:o*z<=o*16:=ml y.2 h.1
    omega⟩
   have H:(out.take (m+1)).flatMap (λo=>c.map λx=>o*z+x)=(out.take m).flatMap (λo=>c.map λx=>o*z+x)++c.map λx=>o*z+x:=by
    rw [gt,B];simp
   refine aK ?_;refine aS (aB ?_);(repeat first|refine tM rfl ?_ |refine aU rfl ?_ |refine Aa ?_);refine aB ?_;generalize (out.take m).flatMap (λo=>c.map λx=>o*z+x)=pre at *;refine Aj.A6 (α:={j:Nat // j<=c.length}) (λ⟨j,G⟩=>[(1,Av zs),(2,Av st),(3,eI .i64 l),(4,.o (.ip (MW n))),(9,Av out),(10,eI .i64 k),(11,Av c),(12,.o (.arr 0 1 0 (pre.length+j))),(13,eI .i64 m),(14,eI .i64 j)]) (λ⟨j,G⟩=>[(0,.cells 3 1 ((pre++(c.take j).map λx=>o*z+x).map AP))]) 1 (λ⟨j,G⟩=>c.length - j) (⟨0,by omega⟩) [0] (Ea a rfl rfl) (by (simp[cX,zC,a])) ?_;rintro⟨j,G⟩;(try dsimp only);(repeat first|refine sN rfl ?_ |refine tM rfl ?_ |refine s2 rfl λ_ u=>?_ |refine aU rfl ?_ |refine Aa ?_);(refine aC rfl ?_ ?_<;>rintro⟨⟩)
   ·obtain⟨x,A⟩:=get_some (l:=c) (k:=j) (by (simp only[oZ] at *;omega))
    have U:=get_map (g:=BB) A;have T:=I x (co A);refine aK ?_;refine aS (aB ?_);refine rG (HQ [16]) (by kernel_rfl) ?_;(repeat first|(refine sA rfl ?_ ?_;first|exact tI|omega) |(refine s4 rfl ‹_› rfl ?_ ?_;omega));(refine pW rfl ?_ rfl (by rfl);refine Aw rfl rfl rfl (by first| (simp;done)|(simp;(omega))) rfl (by intro r P;simp at P;subst P;rfl) (by rfl) (am rfl) (by simp;omega) ?_);(repeat first|(refine sX rfl ?_ ?_;first|exact tI|omega) |refine aU rfl ?_ |refine Aa ?_);refine⟨⟨j+1,by (simp only[oZ] at *;omega)⟩,by dsimp only;((simp only[oZ] at *;omega)),[1],?_⟩;simp[cX,zC,a,gt,A,lX]
   ·obtain rfl:j=c.length:=by (simp only[oZ] at *;omega)
    refine aE ?_;(repeat first|(refine sM rfl ?_ ?_;first|exact tI|omega) |refine aU rfl ?_ |refine Aa ?_);refine⟨⟨m+1,by (simp only[oZ] at *;omega)⟩,by dsimp only;((simp only[oZ] at *;omega)),[0],?_⟩;simp[cX,zC,a,H]
  ·obtain rfl:m=out.length:=by (simp only[oZ] at *;omega)
   refine aE ?_;rw [i7] at *;refine Aj.freeze [0] [(1,Av zs),(2,Av st),(3,eI .i64 l),(4,.o (.ip (MW n))),(10,eI .i64 k),(12,Av (out.flatMap λo=>c.map λx=>o*z+x))] ⟨⟨_,rfl,.AL⟩,⟨_,rfl,.AL⟩,⟨_,rfl,.AL⟩,⟨_,rfl,.AL⟩,⟨_,rfl,.AL⟩,⟨_,rfl,.o (.full (by simp) rfl (by simp [d6]) (by simp))⟩,trivial⟩ ?_;(repeat first|(refine sA rfl ?_ ?_;first|exact tI|omega) |refine aU rfl ?_ |refine Aa ?_);refine⟨⟨k+1,by (simp only[oZ] at *;omega)⟩,by dsimp only;((simp only[oZ] at *;omega)),[],?_⟩;simp[cX,zC,a,e]
 ·obtain rfl:k=zs.length:=by (simp only[oZ] at *;omega)
  rw [lm (by omega),lm (by omega)];(repeat' first|refine tA rfl ?_ |refine aU rfl ?_ |refine Aa ?_|(refine aC rfl ?_ ?_<;>rintro⟨⟩)|refine aK ?_|refine aE ?_|refine aB ?_|refine aR ⟨_,rfl,?_⟩)
  all_goals rfl
abbrev VO(l:List (List Int)):List C:=[.d (C1 l)]
abbrev Dy(l:List (List (List Int))):E:=.o (.d (cI l))
theorem Ak{s:Int}{k:Nat}{l:Int}(h:l∈AG s k):0<=l/\l < k/\AR s l.toNat=true:=by
 unfold AG at h;obtain⟨i,hi,rfl⟩:=d8.1 h;obtain⟨b,a⟩:=lJ.1 hi;have:=lN.1 b;exact⟨Int.natCast_nonneg _,by show ((i:Nat):Int) < k;omega,a⟩
theorem PU:∀ {l:List Int},(∀z∈l,0 < z)->0 < Au l
 | [],_=>by simp [Au]
 | a::l,h=>Int.mul_pos (h a (by simp)) (PU λz b=>h z (by simp [b]))
theorem Lo:∀ {zs:List Int} (_:∀z∈zs,0 < z) (n:Int),Fits zs (Bq zs n)
 | [],_,_=>.nil
 | z::zs,h,n=>by
  have a:=h z (by simp);exact .cons (mq _ (by omega)) (mc _ a) (Lo (λx b=>h x (by simp [b])) n)
def Ez(n:Net)(x:Nat):List (List Int):=(Ac n.ls).map λl=>Eo n (Ag n) (Bq (Ag n) x) l
def Db(n:Net)(tot:Nat):List (List (List Int)):=(List.range tot).map (Ez n)
theorem JG{n:Net}{tot i:Nat}(h:i < tot):(Db n tot)[i]? = some (Ez n i):=by simp [Db,h]
theorem OC{n:Net}(a:Dm n):(Ag n).length<=5:=by unfold Ag;have:=a.np;have:=a.na;simp;omega
theorem Uq{n:Net}(q:Dm n)(tot:Nat)(ht:tot<=1048576):Pure Tryz.prog TB 230 [Lp n,Av (Ag n),eI .i64 tot] (Dy (Db n tot)):=by
 have v:=OC q;have c:=Fz q
 have e:∀(x:Nat),x < tot->Pure Tryz.prog TB 232 [Av (Ag n),eI .i64 x] (Av (Bq (Ag n) x)):=λx f=>
  Mu _ _ (by omega) (by omega) (λz h=>by have:=c z h;omega) (by omega)
 have p:∀(x:Nat) (l:Int),l∈Ac n.ls->Pure Tryz.prog TB 275 [Lp n,Av (Ag n),Av (Bq (Ag n) x),eI .i64 l] (Av (Eo n (Ag n) (Bq (Ag n) x) l)):=λx l A=>by
  have B:=Ak A;exact Ur q (Lo (λz h=>by have:=c z h;omega) _) (by omega) (by omega)
 have y:(Ac n.ls).length<=6:=AN n.ls 6;unfold Db;refine eN Tryz.func230 rfl (by kernel_rfl) rfl ?_;intro Z a;(repeat first|refine aU rfl ?_);(refine Ai rfl ?_;refine Cv (λ_ _=>C4 rfl rfl rfl) rfl ?_);(refine Ai rfl ?_;refine Cv (λ_ _=>Cy rfl) rfl ?_);(repeat first|refine aU rfl ?_ |refine Aa ?_);(refine pW rfl ?_ rfl (by rfl);refine Bb rfl rfl rfl rfl (by simp) (by rfl) (by rfl) (by rfl) (by rfl) ?_);(repeat first|refine tM rfl ?_ |refine sP rfl (C3 n.ls) rfl ?_ |refine aU rfl ?_ |refine Aa ?_);refine aB ?_;refine Aj.A6 (α:={k:Nat // k<=tot}) (λ⟨k,hk⟩=>[(1,Av (Ag n)),(2,eI .i64 tot),(3,.o (.ip (MW n))),(7,.o (.arr 0 1 0 k)),(8,Av (Ac n.ls)),(9,eI .i64 k)]) (λ⟨k,hk⟩=>[(0,.cells 26 1 (((List.range k).map (Ez n)).map VO))]) 1 (λ⟨k,hk⟩=>tot - k) (⟨0,by omega⟩) [0] (Ea a rfl rfl) (by (simp[cX,zC,a])) ?_;rintro⟨k,hk⟩;(try dsimp only);(repeat first|refine tM rfl ?_ |refine s2 rfl λ_ u=>?_ |refine aU rfl ?_ |refine Aa ?_);(refine aC rfl ?_ ?_<;>rintro⟨⟩)
 ·have t:k < tot:=by (simp only[oZ] at *;omega)
  refine aK ?_;refine aS (aB ?_);(repeat first|refine tM rfl ?_ |refine sP rfl (e k t) rfl ?_ |refine aU rfl ?_ |refine Aa ?_);(refine pW rfl ?_ rfl (by rfl);refine Bb rfl rfl rfl rfl (by simp) (by rfl) (by rfl) (by rfl) (by rfl) ?_);(repeat first|refine tM rfl ?_ |refine aU rfl ?_ |refine Aa ?_);refine aB ?_;generalize hL:Ac n.ls=ls at *;refine Aj.A6 (α:={m:Nat // m<=ls.length}) (λ⟨m,s⟩=>[(1,Av (Ag n)),(2,eI .i64 tot),(3,.o (.ip (MW n))),(7,.o (.arr 0 1 0 k)),(8,Av ls),(9,eI .i64 k),(10,Av (Bq (Ag n) k)),(11,.o (.arr 1 1 0 m)),(12,eI .i64 m)]) (λ⟨m,s⟩=>[(0,.cells 26 1 (((List.range k).map (Ez n)).map VO)),(1,.cells 53 1 (((ls.take m).map λl=>Eo n (Ag n) (Bq (Ag n) k) l).map Uf))]) 2 (λ⟨m,s⟩=>ls.length - m) (⟨0,by omega⟩) [0,1] (Ea a rfl rfl) (by (simp[cX,zC,a])) ?_;rintro⟨m,s⟩;(try dsimp only);(repeat first|refine sN rfl ?_ |refine tM rfl ?_ |refine s2 rfl λ_ u=>?_ |refine aU rfl ?_ |refine Aa ?_);(refine aC rfl ?_ ?_<;>rintro⟨⟩)
  ·obtain⟨x,f⟩:=get_some (l:=ls) (k:=m) (by (simp only[oZ] at *;omega))
   have w:=get_map (g:=BB) f;have i:=p k x (co f);refine aK ?_;refine aS (aB ?_);refine rG (HQ [10]) (by kernel_rfl) ?_;(repeat first|refine tA rfl ?_ |(refine s4 rfl ‹_› rfl ?_ ?_;omega) |refine sP rfl (i) rfl ?_);(refine pW rfl ?_ rfl (by rfl);refine Aw rfl rfl rfl (by first| (simp;done)|(simp;(omega))) rfl (by intro r d;simp at d;subst d;rfl) (by rfl) (am rfl) (by simp;omega) ?_);(repeat first|(refine sX rfl ?_ ?_;first|exact tI|omega) |refine aU rfl ?_ |refine Aa ?_);refine⟨⟨m+1,by (simp only[oZ] at *;omega)⟩,by dsimp only;((simp only[oZ] at *;omega)),[0,2],?_⟩;simp[cX,zC,a,gt,f,lX]
  ·obtain rfl:m=ls.length:=by (simp only[oZ] at *;omega)
   refine aE ?_;rw [i7] at *
   have b:ls.map (λl=>Eo n (Ag n) (Bq (Ag n) k) l)=Ez n k:=by rw [<-hL];rfl
   rw [b]
   have j:(Ez n k).length=ls.length:=by rw [<-b];simp
   refine Aj.freeze [1] [(1,Av (Ag n)),(2,eI .i64 tot),(3,.o (.ip (MW n))),(7,.o (.arr 0 1 0 k)),(8,Av ls),(9,eI .i64 k),(11,Fi (Ez n k))] ⟨⟨_,rfl,.AL⟩,⟨_,rfl,.AL⟩,⟨_,rfl,.AL⟩,⟨_,rfl,.AL⟩,⟨_,rfl,.AL⟩,⟨_,rfl,.AL⟩,⟨_,rfl,.o (.full (by simp) rfl (by simp [d6]) (by simp [j]))⟩,trivial⟩ ?_;(repeat first|refine tA rfl ?_ |refine aU rfl ?_);(refine pW rfl ?_ rfl (by rfl);refine Aw rfl rfl rfl (by first| (simp;done)|(simp;(omega))) rfl (by intro r d;simp at d;subst d;rfl) (by rfl) (am rfl) (by simp;omega) ?_);(repeat first|(refine sX rfl ?_ ?_;first|exact tI|omega) |refine aU rfl ?_ |refine Aa ?_);refine⟨⟨k+1,by omega⟩,by dsimp only;(omega),[2],?_⟩;simp[cX,zC,a,nE]
 ·obtain rfl:k=tot:=by (simp only[oZ] at *;omega)
  refine aE ?_;(repeat first|refine tM rfl ?_ |refine aU rfl ?_ |refine Aa ?_);refine Aj.freeze [0] [(6,Dy ((List.range k).map (Ez n)))] ⟨⟨_,rfl,.o (.full (by simp) rfl (by simp [d6]) (by simp))⟩,trivial⟩ ?_;refine aR ⟨_,rfl,rfl⟩
def Ws(n:Net)(st:List Int)(i:Nat):Bool:=((n.au[i]?.map (·.ac)).getD []).getD (st.getD (n.ps.length+i) 0).toNat false
def Cm(n:Net)(st:List Int)(mv:List (List Int)):Bool:=
 if n.kd=0 then Ws n st 0 else if n.kd=1 then Ws n st 0 != Ws n st 1 else if n.kd=2 then Ws n st 0 && !Ws n st 1 else if n.kd=3 then !Ws n st 0 else
 if n.kd=5 then decide (st.getD n.ps.length 0=n.gl) else mv.all (·.isEmpty)
structure YP (n:Net):Prop where
 one:n.kd=0\/n.kd=3\/n.kd=5->1<=n.au.length
 two:n.kd=1\/n.kd=2->2<=n.au.length
theorem Sw{n:Net}(h:Dm n){st:List Int}(g:Fits (Ag n) st)(i:Nat)(hi:i < n.au.length):Pure Tryz.prog TB 276 [Lp n,Av st,eI .i64 i] (eB (Ws n st i)):=by
 obtain⟨a,ha⟩:=get_some hi;have d:=h.au a (co ha);have p:=Ay d
 have e:(Ag n)[n.ps.length+i]? = some (a.nx.length:Int):=by unfold Ag;rw [em (by simp)];simp [ha]
 have f:=g.len;obtain⟨q,c⟩:=get_some (l:=st) (k:=n.ps.length+i) (by have:=(ce.1 e).1;omega);have o:=g.get _ _ _ e c;obtain⟨b,hb⟩:=get_some (l:=a.ac) (k:=q.toNat) (by omega);have m:=cO (TB:=TB) n st i a q b ha c o.1 hb
 have j:Ws n st i=b:=by simp [Ws,ha,List.getD,c,hb]
 rw [j];exact m
theorem Up{n:Net}(e:Dm n)(hk:YP n){st:List Int}(h:Fits (Ag n) st)(mv:List (List Int)):Pure Tryz.prog TB 231 [Lp n,Av st,Fi mv] (eB (Cm n st mv)):=by
 have v:=Sw (TB:=TB) e h 0;have u:=Sw (TB:=TB) e h 1;have s:=hk.one;have r:=hk.two;have p:=e.np;have q:=e.na
 have m:n.ps.length+n.au.length=st.length:=by have:=h.len;unfold Ag at this;simpa using this
 have d:n.kd=5->(st.map BB)[((n.ps.length:Nat):Int).toNat]? = some (BB (st.getD n.ps.length 0)):=by
  intro y;obtain⟨x,c⟩:=get_some (l:=st) (k:=n.ps.length) (by omega);rw [get_map (g:=BB) c];simp [List.getD,c]
 refine eN Tryz.func231 rfl (by kernel_rfl) rfl ?_;intro Z b;refine Aj.bound 2 rfl λi=>?_;have w:=i (mv.map Fs) .refl;(repeat' first|refine sN rfl ?_ |refine tA rfl ?_ |refine s2 rfl λ_ a=>?_ |(refine sC rfl (v (by (simp only[oZ] at *;omega))) ?_;intro _ a)|(refine sC rfl (u (by (simp only[oZ] at *;omega))) ?_;intro _ a) |refine s3 rfl ?_ ?_<;>rintro rfl |refine aU rfl ?_ |refine Aa ?_ |refine rE (by kernel_rfl) ?_|(refine aC rfl ?_ ?_<;>rintro⟨⟩)|refine aK ?_|refine aE ?_|refine aB ?_|refine aR ⟨_,rfl,?_⟩)
 all_goals try (show E.o _=E.o _;congr;unfold Cm;grind)
 ·have d:=d (by grind)
  (repeat' first|refine tA rfl ?_ |(refine s4 rfl ‹_› rfl ?_ ?_;omega) |refine s2 rfl λ_ a=>?_ |refine Aa ?_|(refine aC rfl ?_ ?_<;>rintro⟨⟩)|refine aK ?_|refine aE ?_|refine aB ?_|refine aR ⟨_,rfl,?_⟩)
  show E.o _=E.o _;congr;unfold Cm;grind
 refine Aj.A6 (α:={k:Nat // k<=mv.length/\(mv.take k).all (·.isEmpty)=true}) (λ⟨k,hk,ha⟩=>[(2,Fi mv),(7,eI .i64 k)]) (λ⟨k,hk,ha⟩=>[]) 0 (λ⟨k,hk,ha⟩=>mv.length - k) (⟨0,by omega,rfl⟩) [] (Ea b rfl rfl) (by (simp[cX,zC,b])) ?_;rintro⟨k,hk,ha⟩;(try dsimp only);(repeat first|refine sN rfl ?_ |refine tA rfl ?_ |refine s2 rfl λ_ a=>?_ |refine aU rfl ?_ |refine Aa ?_);(refine aC rfl ?_ ?_<;>rintro⟨⟩)
 ·obtain⟨x,c⟩:=get_some (l:=mv) (k:=k) (by (simp only[oZ] at *;omega))
  have j:=get_map (g:=Fs) c;(repeat' first|refine sN rfl ?_ |(refine sA rfl ?_ ?_;first|exact tI|simp only[oZ] at *;omega) |(refine s4 rfl ‹_› rfl ?_ ?_;omega) |refine s2 rfl λ_ a=>?_ |refine aU rfl ?_ |refine Aa ?_|(refine aC rfl ?_ ?_<;>rintro⟨⟩)|refine aK ?_|refine aE ?_|refine aB ?_|refine aR ⟨_,rfl,?_⟩)
  ·have t:=JZ (f:=λx:List Int=>x.isEmpty) c (by cases x<;>grind)
   show E.o _=E.o _;congr;unfold Cm;grind
  ·refine⟨⟨k+1,by (simp only[oZ] at *;omega),Il c ha (by cases x<;>grind)⟩,by dsimp only;((simp only[oZ] at *;omega)),[],?_⟩
   simp[cX,zC,b]
 ·(repeat' first|refine tA rfl ?_ |refine aU rfl ?_ |refine Aa ?_|(refine aC rfl ?_ ?_<;>rintro⟨⟩)|refine aK ?_|refine aE ?_|refine aB ?_|refine aR ⟨_,rfl,?_⟩)
  have t:=Ik ha (by (simp only[oZ] at *;omega))
  show E.o _=E.o _;congr;unfold Cm;grind
theorem GW{α β:Type}{l:List α}{g:α->β}{k:Nat}{x:α}(h:l[k]? = some x):(l.map g)[0+((k:Nat):Int).toNat]? = some (g x):=by simp [h]
theorem Hi{l:List Int}{k:Nat}{x y:Int}:(l.map AP).set (0+((k:Nat):Int).toNat) (Af (AP x) 0 (eC (eI .i64 y)))=(l.set k y).map AP:=by
 simp [Af,eC,mx]
def Pf(l:List Int):Nat:=l.countP (decide <| · < 0)
theorem SD:∀ {l:List Int} {k:Nat} {x y:Int},l[k]? = some x->x < 0->0<=y->Pf (l.set k y)+1=Pf l
 | [],k,x,y,h,_,_=>by simp at h
 | a::l,0,x,y,h,b,c=>by
  simp at h;subst h
  have:¬y < 0:=by omega
  simp [Pf,b,this]
 | a::l,k+1,x,y,h,b,c=>by
  have:=SD (l:=l) (k:=k) (by simpa using h) b c;simp only [Pf,List.set_cons_succ,List.countP_cons] at this |-;omega
theorem PM{mv:List (List Int)}{dist:List Int}{d:Int}:KA mv dist d=true↔∃r∈mv,∃j∈r,dist.getD j.toNat 0=d:=by
 simp [KA,eO]
structure Qg (mv:List (List (List Int))) (g:Nat->Bool) (dist:List Int):Prop where
 len:dist.length=mv.length
 zero:∀i,i < mv.length->(dist.getD i 0=0↔g i=true)
 step:∀i,i < mv.length->0 < dist.getD i 0->∃r∈mv.getD i [],∃j∈r,dist.getD j.toNat 0=dist.getD i 0 - 1
 close:∀i,i < mv.length->∀r∈mv.getD i [],∀j∈r,0<=dist.getD j.toNat 0->0<=dist.getD i 0/\dist.getD i 0<=dist.getD j.toNat 0+1
 bound:∀i,i < mv.length->-1<=dist.getD i 0/\dist.getD i 0<=mv.length+1
structure DI (mv:List (List (List Int))) (g:Nat->Bool) (dist:List Int) (d:Int) (more:Bool) (i:Nat):Prop where
 len:dist.length=mv.length
 d1:1<=d
 zero:∀i,i < mv.length->(dist.getD i 0=0↔g i=true)
 step:∀i,i < mv.length->0 < dist.getD i 0->∃r∈mv.getD i [],∃j∈r,dist.getD j.toNat 0=dist.getD i 0 - 1
 lt:∀x,x < mv.length->-1<=dist.getD x 0/\dist.getD x 0<=d
 up:∀x,i<=x->x < mv.length->dist.getD x 0 < d
 last:more=false->∀x,x < mv.length->dist.getD x 0 < d
 close:∀x,x < mv.length->∀r∈mv.getD x [],∀j∈r,0<=dist.getD j.toNat 0->(dist.getD j.toNat 0 < d - 1\/x < i/\dist.getD j.toNat 0=d - 1)->0<=dist.getD x 0/\dist.getD x 0<=dist.getD j.toNat 0+1
def Nu(mv:List (List (List Int))):Prop:=∀x,x < mv.length->∀r∈mv.getD x [],∀j∈r,0<=j/\j < mv.length
theorem Si{l:List Int}{k:Nat}{y:Int}(h:k < l.length):(l.set k y).getD k 0=y:=by simp [List.getD,h]
theorem NO{l:List Int}{k x:Nat}{y:Int}(h:k≠x):(l.set k y).getD x 0=l.getD x 0:=by simp [List.getD,h]
theorem DI.set{mv:List (List (List Int))}{g:Nat->Bool}{dist:List Int}{d:Int}{more:Bool}{i:Nat}(h:DI mv g dist d more i)(hi:i < mv.length)(w:dist.getD i 0 < 0)(B:KA (mv.getD i []) dist (d - 1)=true):DI mv g (dist.set i d) d true (i+1):=by
 have v:=h.d1
 have G:i < dist.length:=by rw [h.len];exact hi
 obtain⟨z,p,A,u,t⟩:=PM.1 B;have l:(dist.set i d).getD i 0=d:=Si G;have f:∀x,x≠i->(dist.set i d).getD x 0=dist.getD x 0:=λx a=>NO (Ne.symm a)
 have y:∀x,0<=dist.getD x 0->(dist.set i d).getD x 0=dist.getD x 0:=λx a=>f x λe=>by subst e;omega
 refine⟨by simp [h.len],v,λx a=>?_,λx a q=>?_,λx a=>?_,λx a o=>?_,λF=>(by cases F),λx a r m j n b c=>?_⟩
 ·by_cases e:x=i
  ·subst e;rw [l,<-h.zero x a];constructor<;>intro<;>omega
  ·rw [f x e];exact h.zero x a
 ·by_cases e:x=i
  ·subst e;rw [l] at q |-
   exact⟨z,p,A,u,by rw [y _ (by omega)];exact t⟩
  ·rw [f x e] at q |-
   obtain⟨r,m,j,n,s⟩:=h.step x a q;exact⟨r,m,j,n,by rw [y _ (by omega)];exact s⟩
 ·by_cases e:x=i
  ·subst e;rw [l];omega
  ·rw [f x e];exact h.lt x a
 ·rw [f x (by omega)];exact h.up x (by omega) o
 ·by_cases ej:j.toNat=i
  ·rw [ej,l] at c;omega
  ·rw [f _ ej] at b c |-
   by_cases e:x=i
   ·subst e;rw [l]
    refine⟨by omega,?_⟩
    rcases c with k|⟨_,k⟩
    ·have:=(h.close x a r m j n b (.inl k)).1;omega
    ·omega
   ·rw [f x e]
    exact h.close x a r m j n b (by rcases c with k|⟨k,H⟩;exact .inl k;exact .inr ⟨by omega,H⟩)
theorem DI.AL{mv:List (List (List Int))}{g:Nat->Bool}{dist:List Int}{d:Int}{more:Bool}{i:Nat}(h:DI mv g dist d more i)(hi:i < mv.length)(q:dist.getD i 0 < 0->KA (mv.getD i []) dist (d - 1)=false):DI mv g dist d more (i+1):=by
 refine⟨h.len,h.d1,h.zero,h.step,h.lt,λx b f=>h.up x (by omega) f,h.last,λx b r k j m a l=>?_⟩
 rcases l with p|⟨p,o⟩
 ·exact h.close x b r k j m a (.inl p)
 ·by_cases e:x=i
  ·subst e
   by_cases c:dist.getD x 0 < 0
   ·have s:=q c
    have n:=PM.2 ⟨r,k,j,m,o⟩;rw [s] at n;cases n
   ·have:=h.up x (io _) b
    omega
  ·exact h.close x b r k j m a (.inr ⟨by omega,o⟩)
theorem DI.next{mv:List (List (List Int))}{g:Nat->Bool}{dist:List Int}{d:Int}{more:Bool}(h:DI mv g dist d more mv.length):DI mv g dist (d+1) true 0:=by
 have k:=h.d1;refine⟨h.len,by omega,h.zero,h.step,λx a=>?_,λx _ a=>?_,λe=>(by cases e),λx a r c j i b f=>?_⟩
 ·have:=h.lt x a;omega
 ·have:=h.lt x a;omega
 ·exact h.close x a r c j i b (by omega)
theorem DI.fin{mv:List (List (List Int))}{g:Nat->Bool}{dist:List Int}{d:Int}(c:Nu mv)(h:DI mv g dist d false mv.length)(k:d<=mv.length+1):Qg mv g dist:=by
 have i:=h.d1;refine⟨h.len,h.zero,h.step,λx a r e j f b=>?_,λx a=>?_⟩
 ·have l:=c x a r e j f
  have:=h.last rfl j.toNat (by omega);exact h.close x a r e j f b (by omega)
 ·have:=h.lt x a;have:=h.last rfl x a;omega
structure RK (mv:List (List (List Int))) (g:Nat->Bool) (dt:List Int) (d:Int) (more:Bool):Prop where
 len:dt.length=mv.length
 d1:1<=d
 d2:d<=mv.length+2
 yes:more=true->DI mv g dt d true 0/\d+Pf dt<=mv.length+1
 no:more=false->Qg mv g dt
theorem cW(l:List Int):Pf l<=l.length:=List.countP_le_length
theorem RK.init{mv:List (List (List Int))}{g:Nat->Bool}{dist:List Int}(a:dist.length=mv.length)(c:∀i,i < mv.length->dist.getD i 0=if g i then 0 else -1):RK mv g dist 1 true:=by
 have b:∀x,x < mv.length->-1<=dist.getD x 0/\dist.getD x 0 < 1:=λx b=>by have:=c x b;split at this<;>omega
 have l:=cW dist;refine⟨a,by omega,by omega,λ_=>⟨⟨a,by omega,λx h=>?_,λx h k=>?_,λx h=>?_,λx _ h=>(b x h).2,λh=>(by cases h),λx h r f j m e d=>?_⟩,by omega⟩,λh=>(by cases h)⟩
 ·have:=c x h;split at this<;>simp_all
 ·have:=b x h;omega
 ·have:=b x h;omega
 ·omega
structure MN (mv:List (List (List Int))) (g:Nat->Bool) (dt:List Int) (d:Int) (du:List Int) (m2:Bool) (i:Nat):Prop where
 le:i<=mv.length
 di:DI mv g du d m2 i
 cnt:Pf du+(if m2 then 1 else 0)<=Pf dt
theorem MN.init{mv:List (List (List Int))}{g:Nat->Bool}{dt:List Int}{d:Int}(h:DI mv g dt d true 0):MN mv g dt d dt false 0:=
 ⟨me _,⟨h.len,h.d1,h.zero,h.step,h.lt,h.up,λ_ x a=>h.up x (me _) a,h.close⟩,by simp⟩
theorem MN.set{mv:List (List (List Int))}{g:Nat->Bool}{dt:List Int}{d:Int}{du:List Int}{b:Bool}{i:Nat}(h:MN mv g dt d du b i)(hi:i < mv.length)(a:du.getD i 0 < 0)(c:KA (mv.getD i []) du (d - 1)=true):MN mv g dt d (du.set i d) true (i+1):=by
 have k:=h.di.len;have e:=h.di.d1
 have j:du[i]? = some (du.getD i 0):=by
  have:i < du.length:=by omega
  simp [List.getD,this]
 have l:=SD j a (y:=d) (by omega);have f:=h.cnt;refine⟨hi,h.di.set hi a c,?_⟩;simp only [if_true];split at f<;>omega
theorem MN.AL{mv:List (List (List Int))}{g:Nat->Bool}{dt:List Int}{d:Int}{du:List Int}{a:Bool}{i:Nat}(h:MN mv g dt d du a i)(hi:i < mv.length)(b:du.getD i 0 < 0->KA (mv.getD i []) du (d - 1)=false):MN mv g dt d du a (i+1):=
 ⟨hi,h.di.AL hi b,h.cnt⟩
theorem MN.next{mv:List (List (List Int))}{g:Nat->Bool}{dt:List Int}{d:Int}{du:List Int}{c:Bool}(b:Nu mv)(h:MN mv g dt d du c mv.length)(i:d+Pf dt<=mv.length+1):RK mv g du (d+1) c:=by
 have e:=h.di.d1;have f:=h.cnt;refine⟨h.di.len,by omega,by omega,λa=>?_,λa=>?_⟩
 ·subst a
  simp only [if_true] at f;exact⟨h.di.next,by omega⟩
 ·subst a
  exact h.di.fin b (by omega)
theorem XD(mv:List (List (List Int)))(g:Nat->Bool)(dist:List Int)(q:Nu mv)(P:mv.length<=1048576)(p:dist.length=mv.length)(N:∀i,i < mv.length->dist.getD i 0=if g i then 0 else -1) :
    Spec Tryz.prog TB 233 [(0,.cells 3 1 (dist.map AP))] 1 [Dy mv,.o (.arr 0 1 0 mv.length)] (λx σ nx=>x=.t []/\nx=1/\∃dist',Qg mv g dist'/\σ=[(0,.cells 3 1 (dist'.map AP))]):=by
  refine eN Tryz.func233 rfl (by kernel_rfl) rfl ?_;intro Z a;(repeat first|refine tM rfl ?_ |refine aU rfl ?_ |refine Aa ?_);refine aB ?_;refine Aj.A6 (α:={x:List Int×Int×Bool // RK mv g x.1 x.2.1 x.2.2}) (λ⟨⟨dt,d,more⟩,j⟩=>[(0,Dy mv),(1,.o (.arr 0 1 0 mv.length)),(4,eB more),(5,eI .i64 d)]) (λ⟨⟨dt,d,more⟩,j⟩=>[(0,.cells 3 1 (dt.map AP))]) 1 (λ⟨⟨dt,d,more⟩,j⟩=>2*Pf dt+(if more then 1 else 0)) (⟨(dist,1,true),RK.init p N⟩) [0] (Ea a rfl rfl) (by (simp[cX,zC,a])) ?_;rintro⟨⟨dt,d,more⟩,j⟩;(try dsimp only);simp only at j;(repeat first|refine tM rfl ?_ |refine aU rfl ?_ |refine Aa ?_);(refine aC rfl ?_ ?_<;>rintro⟨⟩)
  · obtain⟨H,M⟩:=j.yes rfl
    have L:=H.d1;refine aK ?_;refine aS (aB ?_);(repeat first|refine tM rfl ?_ |refine aU rfl ?_ |refine Aa ?_);refine aB ?_;refine Aj.A6 (α:={x:List Int×Bool×Nat // MN mv g dt d x.1 x.2.1 x.2.2}) (λ⟨⟨du,h,i⟩,e⟩=>[(0,Dy mv),(1,.o (.arr 0 1 0 mv.length)),(4,eB h),(5,eI .i64 d),(6,eI .i64 i)]) (λ⟨⟨du,h,i⟩,e⟩=>[(0,.cells 3 1 (du.map AP))]) 1 (λ⟨⟨du,h,i⟩,e⟩=>mv.length - i) (⟨(dt,false,0),MN.init H⟩) [0] (Ea a rfl rfl) (by (simp[cX,zC,a])) ?_;rintro⟨⟨du,h,i⟩,e⟩;(try dsimp only);simp only at e;have w:=e.di.len;have G:=e.le;(repeat first|refine tM rfl ?_ |refine s2 rfl λ_ s=>?_ |refine aU rfl ?_ |refine Aa ?_);(refine aC rfl ?_ ?_<;>rintro⟨⟩)
    · obtain⟨y,B⟩:=get_some (l:=du) (k:=i) (by (simp only[oZ] at *;omega))
      have I:=GW (g:=AP) B;obtain⟨mi,m⟩:=get_some (l:=mv) (k:=i) (by (simp only[oZ] at *;omega));have F:=get_map (g:=JB) m
      have c:i < mv.length:=by (simp only[oZ] at *;omega)
      have u:du.getD i 0=y:=by simp [List.getD,B]
      have n:mv.getD i []=mi:=by simp [List.getD,m]
      have f:=e.set c;have b:=e.AL c;rw [u,n] at f b;refine aK ?_;refine aS (aB ?_);(repeat' first|((first|refine sM rfl ?_ ?_|refine s4 rfl ‹_› rfl ?_ ?_);first|exact tI|omega) |refine s2 rfl λ_ s=>?_|(refine Ai rfl ?_;refine gA rfl ?_;first| (refine kC (KG rfl rfl ((.cons (.o (.pure rfl)) (.cons (.o (.full rfl (by simp [d6]) (by simp [w]))) (.cons (.o (.pure rfl)) .nil)))) (XE mi du (d - 1) (λr K v J=>by have:=q i c r (by rw [n];exact K) v J;exact⟨this.1,by omega⟩)) rfl) rfl ?_;intro _ s)) |refine s3 rfl ?_ ?_<;>rintro rfl |refine aU rfl ?_ |refine Aa ?_|(refine aC rfl ?_ ?_<;>rintro⟨⟩)|refine aK ?_|refine aE ?_|refine aB ?_|refine aR ⟨_,rfl,?_⟩)
      all_goals first
        | (refine⟨⟨(du,h,i+1),b (by grind)⟩,by dsimp only;(omega),[0],?_⟩
           simp[cX,zC,a]
           done)
        | (refine⟨⟨(du.set i d,true,i+1),f (by grind) (by grind)⟩,by dsimp only;(omega),[0],?_⟩
           rw [Hi];simp[cX,zC,a]
           done)
    · obtain rfl:i=mv.length:=by (simp only[oZ] at *;omega)
      have A:=e.next q M;have z:=e.cnt;refine aE ?_;(repeat first|(refine sM rfl ?_ ?_;first|exact tI|omega) |refine aU rfl ?_ |refine Aa ?_);refine⟨⟨(du,d+1,h),A⟩,?_,[0],?_⟩
      · dsimp only
        cases h<;>simp at z |- <;> omega
      · simp[cX,zC,a]
  · refine aE ?_
    exact⟨_,rfl,rfl,rfl,dt,j.no rfl,rfl⟩
theorem XG(l:List Int)(a:Int):l.length=l.count a+(l.filter (· != a)).length:=by
 induction l with
 | nil=>rfl
 | cons b l c=>
  simp only [List.count_cons,nX,l7];by_cases h:b=a
  ·subst h;simp;omega
  ·simp [h];omega
theorem Fw:∀(n:Nat) (l:List Int),l.Nodup->(∀x∈l,0<=x/\x < n)->l.length<=n
 | 0,l,_,h=>by
  cases l with
  | nil=>simp
  | cons a l=>have:=h a (by simp);omega
 | n + 1,l,b,h=>by
  have i:=XG l n;have g:=List.nodup_iff_count.1 b n
  have f:=Fw n (l.filter (· != (n:Int))) (b.filter _) λx c=>by
   obtain⟨e,d⟩:=lJ.1 c;have:=h x e;simp at d;omega
  omega
def HV(dist:List Int)(d:Int)(acc:List Int)(j:Int):List Int:=if dist.getD j.toNat 0=d/\j∉acc then acc++[j] else acc
theorem Vs(dist:List Int)(d:Int)(acc:List Int)(j:Int):HV dist d acc j=if dist.getD j.toNat 0=d/\j∉acc then acc++[j] else acc:=rfl
def EX(mv:List (List (List Int)))(dist at':List Int)(k:Nat)(d:Int):List Int:=at'.foldl (λacc x=>((mv.getD x.toNat []).getD k []).foldl (HV dist d) acc) []
def Dk(n:Nat)(acc:List Int):Prop:=acc.Nodup/\∀x∈acc,0<=x/\x < n
theorem Dk.add{n:Nat}{acc:List Int}(h:Dk n acc){dist:List Int}{d j:Int}(f:0<=j/\j < n):Dk n (HV dist d acc j):=by
 unfold HV;split
 ·rename_i g
  refine⟨nJ.2 ⟨h.1,by simp,λa ha b hb=>?_⟩,λx c=>?_⟩
  ·simp at hb;subst hb;intro e;subst e;exact g.2 ha
  ·rcases f6.1 c with c|c
   ·exact h.2 x c
   ·simp at c;subst c;exact f
 ·exact h
theorem Dk.fold{n:Nat}{dist:List Int}{d:Int}:∀ {l acc:List Int},Dk n acc->(∀j∈l,0<=j/\j < n)->Dk n (l.foldl (HV dist d) acc)
 | [],_,h,_=>h
 | j::_,_,h,a=>by rw [mM];exact Dk.fold (h.add (a j (by simp))) λx b=>a x (by simp [b])
theorem mem_row{mv:List (List (List Int))}(c:Nu mv){x:Int}(d:0<=x/\x < mv.length)(k:Nat):∀j∈(mv.getD x.toNat []).getD k [],0<=j/\j < mv.length:=by
 intro j a
 cases b:(mv.getD x.toNat [])[k]? with
 | none=>
  have:(mv.getD x.toNat []).getD k []=[]:=by rw [List.getD,b];rfl
  rw [this] at a;cases a
 | some r=>
  have:(mv.getD x.toNat []).getD k []=r:=by rw [List.getD,b];rfl
  rw [this] at a;exact c x.toNat (by omega) r (co b) j a
theorem Dk.eU{mv:List (List (List Int))}(a:Nu mv){dist:List Int}{d:Int}{k:Nat}:∀ {l acc:List Int},Dk mv.length acc->(∀x∈l,0<=x/\x < mv.length)->Dk mv.length (l.foldl (λacc x=>((mv.getD x.toNat []).getD k []).foldl (HV dist d) acc) acc)
 | [],_,h,_=>h
 | j::_,_,h,b=>by rw [mM];exact Dk.eU a (h.fold (mem_row a (b j (by simp)) k)) λx c=>b x (by simp [c])
theorem Dk.nil{n:Nat}:Dk n []:=⟨.nil,λx a=>(by cases a)⟩
theorem Hx{α β:Type}{l:List α}{k:Nat}{x:α}(h:l[k]? = some x)(f:β->α->β)(b:β):(l.take (k+1)).foldl f b=f ((l.take k).foldl f b) x:=by
 rw [gt,h,ow];rfl
theorem Su(mv:List (List (List Int)))(dist at':List Int)(k:Nat)(d:Int)(B:Nu mv)(hN:mv.length<=1048576)(U:dist.length=mv.length)(ha:∀x∈at',0<=x/\x < mv.length)(hal:at'.length<=1048576)(hk:∀i,i < mv.length->k < (mv.getD i []).length) :
 Pure Tryz.prog TB 235 [Dy mv,Av dist,Av at',eI .i64 k,eI .i64 d] (Av (EX mv dist at' k d)):=by
 have G:∀m,Dk mv.length ((at'.take m).foldl (λacc x=>((mv.getD x.toNat []).getD k []).foldl (HV dist d) acc) []):=λm=>Dk.eU B .nil λx n=>ha x (lU n);refine eN Tryz.func235 rfl (by kernel_rfl) rfl ?_;intro Z c;refine Aj.bound 0 rfl λR=>?_;(repeat first|refine aU rfl ?_);(refine Ai rfl ?_;refine Cv (λ_ _=>Cy rfl) rfl ?_);(repeat first|refine aU rfl ?_ |refine Aa ?_);(refine pW rfl ?_ rfl (by rfl);refine Bb rfl rfl rfl rfl (by simp) (by rfl) (by rfl) (by rfl) (by rfl) ?_);(repeat first|refine tM rfl ?_ |refine aU rfl ?_ |refine Aa ?_);refine aB ?_;refine Aj.A6 (α:={m:Nat // m<=at'.length}) (λ⟨m,M⟩=>[(0,Dy mv),(1,Av dist),(2,Av at'),(3,eI .i64 k),(4,eI .i64 d),(11,.o (.arr 0 1 0 ((at'.take m).foldl (λacc x=>((mv.getD x.toNat []).getD k []).foldl (HV dist d) acc) []).length)),(12,eI .i64 m)]) (λ⟨m,M⟩=>[(0,.cells 3 1 (((at'.take m).foldl (λacc x=>((mv.getD x.toNat []).getD k []).foldl (HV dist d) acc) []).map AP))]) 1 (λ⟨m,M⟩=>at'.length - m) (⟨0,by omega⟩) [0] (Ea c rfl rfl) (by (simp[cX,zC,c])) ?_;rintro⟨m,M⟩;(try dsimp only);have s:=G m;have q:=λx=>Hx (l:=at') (k:=m) (x:=x) (f:=λacc x=>((mv.getD x.toNat []).getD k []).foldl (HV dist d) acc) (b:=[]);generalize J:(at'.take m).foldl (λacc x=>((mv.getD x.toNat []).getD k []).foldl (HV dist d) acc) []=acc at *;(repeat first|refine sN rfl ?_ |refine tM rfl ?_ |refine s2 rfl λ_ t=>?_ |refine aU rfl ?_ |refine Aa ?_);(refine aC rfl ?_ ?_<;>rintro⟨⟩)
 ·obtain⟨y,L⟩:=get_some (l:=at') (k:=m) (by (simp only[oZ] at *;omega))
  have Y:=get_map (g:=BB) L;have K:=ha y (co L);obtain⟨my,w⟩:=get_some (l:=mv) (k:=y.toNat) (by omega)
  have v:(mv.map JB)[y.toNat]? = some (JB my):=by simp [w]
  have A:=hk y.toNat (by omega)
  have p:mv.getD y.toNat []=my:=by simp [List.getD,w]
  rw [p] at A;obtain⟨r,u⟩:=get_some (l:=my) (k:=k) A;have hr':=get_map (g:=Fs) u
  have F:my.getD k []=r:=by simp [List.getD,u]
  have h:=mem_row B K k;rw [p,F] at h;have e:=q y L;rw [p,F] at e;have hBr:=R (r.map BB) (.l (i:=y.toNat) (j:=0) (r:=JB my) v rfl (.l (i:=k) (j:=0) (r:=Fs r) (by simp [u]) rfl .refl));have P:∀j,Dk mv.length ((r.take j).foldl (HV dist d) acc):=λj=>s.fold λx n=>h x (lU n);refine aK ?_;refine aS (aB ?_);(repeat first|refine tM rfl ?_ |(refine s4 rfl ‹_› rfl ?_ ?_;omega) |refine aU rfl ?_ |refine Aa ?_);refine aB ?_;refine Aj.A6 (α:={j:Nat // j<=r.length}) (λ⟨j,N⟩=>[(0,Dy mv),(1,Av dist),(2,Av at'),(3,eI .i64 k),(4,eI .i64 d),(11,.o (.arr 0 1 0 ((r.take j).foldl (HV dist d) acc).length)),(12,eI .i64 m),(13,Av r),(14,eI .i64 j)]) (λ⟨j,N⟩=>[(0,.cells 3 1 (((r.take j).foldl (HV dist d) acc).map AP))]) 1 (λ⟨j,N⟩=>r.length - j) (⟨0,by omega⟩) [0] (Ea c rfl rfl) (by (simp[cX,zC,c])) ?_;rintro⟨j,N⟩;(try dsimp only);have H:=P j;have a:=λx=>Hx (l:=r) (k:=j) (x:=x) (f:=HV dist d) (b:=acc);generalize I:(r.take j).foldl (HV dist d) acc=S at *;(repeat first|refine sN rfl ?_ |refine tM rfl ?_ |refine s2 rfl λ_ t=>?_ |refine aU rfl ?_ |refine Aa ?_);(refine aC rfl ?_ ?_<;>rintro⟨⟩)
  ·obtain⟨x,n⟩:=get_some (l:=r) (k:=j) (by (simp only[oZ] at *;omega))
   have hx':=get_map (g:=BB) n;have hxb:=h x (co n);obtain⟨z,T⟩:=get_some (l:=dist) (k:=x.toNat) (by omega)
   have X:(dist.map BB)[x.toNat]? = some (BB z):=by simp [T]
   have Q:dist.getD x.toNat 0=z:=by simp [List.getD,T]
   have a:=a x n;have V:=Fw _ _ H.1 H.2;rw [Vs,Q] at a;refine aK ?_;refine aS (aB ?_);(repeat' first|(refine sM rfl ?_ ?_;first|exact tI|simp only[oZ] at *;omega) |(refine s4 rfl ‹_› rfl ?_ ?_;omega) |refine s2 rfl λ_ t=>?_|(refine Ai rfl ?_;refine gA rfl ?_;first| (refine kC (KG rfl rfl ((.cons (.o (.full rfl (by simp [d6]) (by simp))) (.cons (.o (.pure rfl)) .nil))) (cM S x) rfl) rfl ?_;intro _ t)) |refine s3 rfl ?_ ?_<;>rintro rfl |refine aU rfl ?_ |refine Aa ?_|(refine aC rfl ?_ ?_<;>rintro⟨⟩)|refine aK ?_|refine aE ?_|refine aB ?_|refine aR ⟨_,rfl,?_⟩)
   all_goals try (rw [if_neg (by grind)] at a;refine⟨⟨j+1,by (simp only[oZ] at *;omega)⟩,by dsimp only;((simp only[oZ] at *;omega)),[0],?_⟩;simp[cX,zC,c,a];done)
   all_goals rw [if_pos (by grind)] at a
   (repeat first|refine tA rfl ?_);(refine pW rfl ?_ rfl (by rfl);refine Aw rfl rfl rfl (by first| (simp;done)|(simp;(omega))) rfl (by intro r u;simp at u;subst u;rfl) (by rfl) (am rfl) (by simp;omega) ?_);(repeat first|(refine sX rfl ?_ ?_;first|exact tI|simp only[oZ] at *;omega) |refine aU rfl ?_ |refine Aa ?_);refine⟨⟨j+1,by (simp only[oZ] at *;omega)⟩,by dsimp only;((simp only[oZ] at *;omega)),[1],?_⟩;simp[cX,zC,c,a]
  ·obtain rfl:j=r.length:=by (simp only[oZ] at *;omega)
   refine aE ?_;rw [i7] at I;subst I;(repeat first|(refine sM rfl ?_ ?_;first|exact tI|omega) |refine aU rfl ?_ |refine Aa ?_);refine⟨⟨m+1,by (simp only[oZ] at *;omega)⟩,by dsimp only;((simp only[oZ] at *;omega)),[0],?_⟩;simp[cX,zC,c,e,-List.getD_eq_getElem?_getD]
 ·obtain rfl:m=at'.length:=by (simp only[oZ] at *;omega)
  refine aE ?_;(repeat first|refine tM rfl ?_ |refine aU rfl ?_ |refine Aa ?_);rw [i7] at J;subst J;refine Aj.freeze [0] [(10,Av (EX mv dist at' k d))] ⟨⟨_,rfl,.o (.full (by simp) rfl (by simp [d6,EX]) (by simp))⟩,trivial⟩ ?_;refine aR ⟨_,rfl,rfl⟩
end Go.Am
namespace Go.Am
open Go
structure Gr where
 N:Nat
 succ:Int->Int->List Int
 goal:Int->Bool
 ls:List Int
 s0:Int
structure HU (g:Gr):Prop where
 s0:0<=g.s0/\g.s0 < g.N
 inn:∀x:Int,0<=x/\x < g.N->∀l∈g.ls,∀y∈g.succ x l,0<=y/\y < g.N
 srt:g.ls.Pairwise (· < ·)
def reach(g:Gr):List Int->Int->Int->Prop
 | [],a,x=>a=x
 | l::w,a,x=>∃y∈g.succ a l,reach g w y x
def over(g:Gr)(w:List Int):Prop:=∀l∈w,l∈g.ls
def PB(g:Gr)(w:List Int):Prop:=∃x,reach g w g.s0 x/\g.goal x=true
def TJ:List Int->List Int->Prop
 | a::u,b::w=>a < b\/a=b/\TJ u w
 | _,_=>False
def slt(u w:List Int):Prop:=u.length < w.length\/u.length=w.length/\TJ u w
def Ch(g:Gr):Option (List Int)->Prop
 | some w=>over g w/\PB g w/\∀u,over g u->PB g u->¬slt u w
 | none=>∀u,over g u->¬PB g u
theorem DY{g:Gr}:∀ {w:List Int} {l a x:Int},reach g (w++[l]) a x↔∃y,reach g w a y/\x∈g.succ y l
 | [],l,a,x=>by simp [reach]
 | m::w,l,a,x=>by
  simp only [mD,reach,DY];constructor
  ·rintro⟨y,c,z,b,d⟩;exact⟨z,⟨y,c,b⟩,d⟩
  ·rintro⟨z,⟨y,c,b⟩,d⟩;exact⟨y,c,z,b,d⟩
theorem Dt{g:Gr}(c:HU g):∀ {w:List Int} {a x:Int},over g w->(0<=a/\a < g.N)->reach g w a x->0<=x/\x < g.N
 | [],a,x,_,ha,h=>by have h:a=x:=h;subst h;exact ha
 | l::w,a,x,b,ha,h=>by
  obtain⟨y,d,h⟩:=h;exact Dt c (λm e=>b m (by simp [e])) (c.inn a ha l (b l (by simp)) y d) h
theorem Fx{g:Gr}{w:List Int}{l:Int}:over g (w++[l])↔over g w/\l∈g.ls:=by
 unfold over;simp only [f6,oe];constructor
 ·intro h;exact⟨λm a=>h m (.inl a),h l (.inr rfl)⟩
 ·rintro⟨c,b⟩ m (a|rfl);exact c m a;exact b
theorem IA:∀ {u w:List Int} {m l:Int},u.length=w.length->(TJ (u++[m]) (w++[l])↔TJ u w\/u=w/\m < l)
 | [],[],m,l,_=>by simp [TJ]
 | [],b::w,m,l,h=>by simp at h
 | a::u,[],m,l,h=>by simp at h
 | a :: u,b::w,m,l,h=>by
  simp only [mD,TJ,IA (u:=u) (w:=w) (by simpa using h),List.cons.injEq];constructor
  ·rintro(h|⟨d,c|⟨c,e⟩⟩)
   ·exact .inl (.inl h)
   ·exact .inl (.inr ⟨d,c⟩)
   ·exact .inr ⟨⟨d,c⟩,e⟩
  ·rintro((h|⟨d,c⟩)|⟨⟨d,c⟩,e⟩)
   ·exact .inl h
   ·exact .inr ⟨d,.inl c⟩
   ·exact .inr ⟨d,.inr ⟨c,e⟩⟩
theorem QL:∀ {u w:List Int},u.length=w.length->TJ u w\/u=w\/TJ w u
 | [],[],_=>.inr (.inl rfl)
 | [],b::w,h=>by simp at h
 | a::u,[],h=>by simp at h
 | a :: u,b::w,h=>by
  simp only [TJ,List.cons.injEq];have d:=QL (u:=u) (w:=w) (by simpa using h)
  rcases Int.lt_trichotomy a b with c|c|c
  ·exact .inl (.inl c)
  ·rcases d with d|d|d
   ·exact .inl (.inr ⟨c,d⟩)
   ·exact .inr (.inl ⟨c,d⟩)
   ·exact .inr (.inr (.inr ⟨c.symm,d⟩))
  ·exact .inr (.inr (.inl c))
theorem dF{u w:List Int}(c:¬slt u w)(b:¬slt w u):u=w:=by
 unfold slt at c b
 have a:u.length=w.length:=by omega
 rcases QL a with h|h|h
 ·exact absurd (.inr ⟨a,h⟩) c
 ·exact h
 ·exact absurd (.inr ⟨a.symm,h⟩) b
theorem Ch.unique{g:Gr}{r s:Option (List Int)}(b:Ch g r)(a:Ch g s):r=s:=by
 cases r with
 | none=>
  cases s with
  | none=>rfl
  | some w=>exact absurd a.2.1 (b w a.1)
 | some v=>
  cases s with
  | none=>exact absurd b.2.1 (a v b.1)
  | some w=>rw [dF (a.2.2 v b.1 b.2.1) (b.2.2 w a.1 a.2.1)]
theorem Sy:∀(l:List Int) (Q:Int->Prop),(∃x∈l,Q x)->∃x∈l,Q x/\∀y∈l,Q y->¬y < x
 | [],Q,h=>by obtain⟨x,d,_⟩:=h;cases d
 | a :: l,Q,h=>by
  by_cases ht:∃x∈l,Q x
  ·obtain⟨x,d,e,g⟩:=Sy l Q ht
   by_cases ha:Q a/\a < x
   ·refine⟨a,by simp,ha.1,λy c b=>?_⟩
    rcases lF.1 c with rfl|c
    ·omega
    ·have:=g y c b;omega
   ·refine⟨x,by simp [d],e,λy c b=>?_⟩
    rcases lF.1 c with rfl|c
    ·exact λf=>ha ⟨b,f⟩
    ·exact g y c b
  ·obtain⟨x,d,e⟩:=h
   rcases lF.1 d with rfl|d
   ·refine⟨x,by simp,e,λy c b=>?_⟩
    rcases lF.1 c with rfl|c
    ·omega
    ·exact absurd ⟨y,c,b⟩ ht
   ·exact absurd ⟨x,d,e⟩ ht
theorem NZ(ls:List Int):∀(n:Nat) (Q:List Int->Prop),(∃u:List Int,u.length=n/\(∀l∈u,l∈ls)/\Q u)->∃u:List Int,u.length=n/\(∀l∈u,l∈ls)/\Q u/\∀v:List Int,v.length=n->(∀l∈v,l∈ls)->Q v->¬TJ v u
 | 0,Q,⟨u,g,f,i⟩=>by
  have:u=[]:=lw.1 g;subst this;exact⟨[],rfl,f,i,λv e _ _=>by have:v=[]:=lw.1 e;subst this;exact λh=>h⟩
 | n + 1,Q,⟨u,g,f,i⟩=>by
  cases u with
  | nil=>simp at g
  | cons a u=>
   obtain⟨x,p,⟨o,z,y,w⟩,q⟩:=Sy ls (λx=>∃u:List Int,u.length=n/\(∀l∈u,l∈ls)/\Q (x::u)) ⟨a,f a (by simp),u,by simpa using g,λl c=>f l (by simp [c]),i⟩;obtain⟨m,t,s,r,j⟩:=NZ ls n (λu=>Q (x::u)) ⟨o,z,y,w⟩;refine⟨x::m,by simp [t],λl c=>by rcases lF.1 c with rfl|c;exact p;exact s l c,r,λv e d k=>?_⟩
   cases v with
   | nil=>simp at e
   | cons b v=>
    have hb:=q b (d b (by simp)) ⟨v,by simpa using e,λl c=>d l (by simp [c]),k⟩;rintro(h|⟨h,A⟩)
    ·exact hb h
    ·subst h;exact j v (by simpa using e) (λl c=>d l (by simp [c])) k A
theorem NJ(g:Gr):∃r,Ch g r:=by
 by_cases h:∃u,over g u/\PB g u
 ·have key : ∀n,(∃u,u.length<=n/\over g u/\PB g u)->∃m,(∃u,u.length=m/\over g u/\PB g u)/\∀u,over g u->PB g u->m<=u.length:=by
   intro n
   induction n with
   | zero=>
    rintro⟨u,i,c,b⟩;exact⟨0,⟨u,by omega,c,b⟩,λ_ _ _=>me _⟩
   | succ n j=>
    rintro⟨u,i,c,b⟩;by_cases e:∃u,u.length<=n/\over g u/\PB g u
    ·exact j e
    ·refine⟨n+1,⟨u,?_,c,b⟩,λv k f=>?_⟩
     ·have:¬u.length<=n:=λh=>e ⟨u,h,c,b⟩
      omega
     ·have:¬v.length<=n:=λh=>e ⟨v,h,k,f⟩
      omega
  obtain⟨u,a⟩:=h;obtain⟨m,⟨v,i,c,b⟩,l⟩:=key u.length ⟨u,io _,a⟩;obtain⟨w,t,q,p,o⟩:=NZ g.ls m (PB g) ⟨v,i,c,b⟩;refine⟨some w,q,p,λu a d=>?_⟩;rintro(h|⟨h,s⟩)
  ·have:=l u a d;omega
  ·exact o u (by omega) a d s
 ·exact⟨none,λu a d=>h ⟨u,a,d⟩⟩
structure JT (g:Gr) (dx:Int->Int):Prop where
 zero:∀x:Int,0<=x/\x < g.N->(dx x=0↔g.goal x=true)
 step:∀x:Int,0<=x/\x < g.N->0 < dx x->∃l∈g.ls,∃j∈g.succ x l,dx j=dx x - 1
 close:∀x:Int,0<=x/\x < g.N->∀l∈g.ls,∀j∈g.succ x l,0<=dx j->0<=dx x/\dx x<=dx j+1
theorem JT.cn{g:Gr}(j:HU g){dx:Int->Int}(h:JT g dx):∀ {u:List Int} {a x:Int},over g u->(0<=a/\a < g.N)->reach g u a x->0<=dx x->0<=dx a/\dx a<=u.length+dx x
 | [],a,x,_,_,c,d=>by have c:a=x:=c;subst c;simp;exact d
 | l::u,a,x,f,ha,⟨y,e,c⟩,d=>by
  have i:=f l (by simp);have b:=j.inn a ha l i y e;have n:=JT.cn j h (λm k=>f m (by simp [k])) b c d;have o:=h.close a ha l i y e n.1;simp only [l7];push_cast;omega
structure MP (g:Gr) (dx:Int->Int) (w:List Int) (at':List Int) (d:Int):Prop where
 ov:over g w
 ne:at'≠[]
 acc:Dk g.N at'
 mem:∀x,x∈at'↔reach g w g.s0 x/\dx x=d
 len:w.length+d=dx g.s0
 d0:0<=d
 min:∀u,over g u->u.length=w.length->TJ u w->∀x,reach g u g.s0 x->dx x≠d
theorem MP.init{g:Gr}(d:HU g){dx:Int->Int}(e:0<=dx g.s0):MP g dx [] [g.s0] (dx g.s0):=
 ⟨λl a=>(by cases a),by simp,⟨by simp,λx b=>by simp at b;subst b;exact d.s0⟩,λx=>by simp [reach];constructor<;>intro h<;>simp_all,by simp,e,λu _ c a=>by
  have:u=[]:=lw.1 c
  subst this;exact a.elim⟩
theorem MP.kU{g:Gr}(a:HU g){dx:Int->Int}(e:JT g dx){w at':List Int}(h:MP g dx w at' 0):Ch g (some w):=by
 refine⟨h.ov,?_,λu c k=>?_⟩
 ·cases at' with
  | nil=>exact absurd rfl h.ne
  | cons x l=>
   have f:=(h.mem x).1 (by simp);exact⟨x,f.1,(e.zero x (h.acc.2 x (by simp))).1 f.2⟩
 ·obtain⟨x,b,d⟩:=k
  have j:=(e.zero x (Dt a c a.s0 b)).2 d;have f:=e.cn a c a.s0 b (by omega);have n:=h.len;rintro(i|⟨i,m⟩)
  ·omega
  ·exact h.min u c i m x b j
theorem Y3{g:Gr}(a:HU g){dx:Int->Int}(e:JT g dx)(h:dx g.s0 < 0):Ch g none:=by
 rintro u d ⟨x,c,b⟩;have f:=(e.zero x (Dt a d a.s0 c)).2 b;have i:=e.cn a d a.s0 c (by omega);omega
theorem MP.prog{g:Gr}{dx:Int->Int}(e:JT g dx){w at':List Int}{d:Int}(h:MP g dx w at' d)(f:0 < d):∃l∈g.ls,∃x∈at',∃y∈g.succ x l,dx y=d - 1:=by
 cases at' with
 | nil=>exact absurd rfl h.ne
 | cons x l=>
  have i:=(h.mem x).1 (by simp);obtain⟨l,a,j,b,c⟩:=e.step x (h.acc.2 x (by simp)) (by omega);exact⟨l,a,x,by simp,j,b,by omega⟩
theorem MP.next{g:Gr}(s:HU g){dx:Int->Int}(I:JT g dx){w at':List Int}{d:Int}(h:MP g dx w at' d)(J:0 < d){l:Int}(H:l∈g.ls){at2:List Int}(ha:Dk g.N at2)(z:at2≠[])
 (A:∀y,y∈at2↔∃x∈at',y∈g.succ x l/\dx y=d - 1) (j:∀m∈g.ls,m < l->¬∃x∈at',∃y∈g.succ x m,dx y=d - 1):MP g dx (w++[l]) at2 (d - 1):=by
 have G:=h.len
 have key:∀u m x y,over g u->u.length=w.length->m∈g.ls->reach g u g.s0 x->y∈g.succ x m->dx y=d - 1->dx x=d:=by
  intro u m x y r i A b c a;have n:=Dt s r s.s0 b;have t:=I.close x n m A y c (by omega);have K:=I.cn s r s.s0 b (by omega);omega
 refine⟨Fx.2 ⟨h.ov,H⟩,z,ha,λy=>?_,by simp;omega,by omega,λu r i B y c a=>?_⟩
 ·rw [A,DY]
  constructor
  ·rintro⟨x,b,c,a⟩
   exact⟨⟨x,((h.mem x).1 b).1,c⟩,a⟩
  ·rintro⟨⟨x,b,c⟩,a⟩
   exact⟨x,(h.mem x).2 ⟨b,key w l x y h.ov rfl H b c a⟩,c,a⟩
 ·have o:u≠[]:=λe=>by subst e;simp at i
  obtain⟨v,m,rfl⟩:∃v m,u=v++[m]:=⟨u.dropLast,u.getLast o,(nS o).symm⟩
  have f:v.length=w.length:=by simpa using i
  obtain⟨F,p⟩:=Fx.1 r;obtain⟨x,b,k⟩:=DY.1 c;have q:=key v m x y F f p b k a
  rcases(IA f).1 B with t|⟨rfl,t⟩
  ·exact h.min v F f t x b q
  ·exact j m p t ⟨x,(h.mem x).2 ⟨b,q⟩,y,k,a⟩
def CA(w:List Int):List UInt8:=w.map λl=>UInt8.ofNat (97+l.toNat)
def gU(r:Option (List Int)):E:=match r with
 | some w=>.t [(false,[.d (tD (CA w))]),(false,[.d (bD true)])]
 | none=>.t [(false,[.d (tD [])]),(false,[.d (bD false)])]
end Go.Am
namespace Go.Am
open Go Go.Proofs
set_option maxHeartbeats 1000000
set_option maxRecDepth 4000
attribute [local irreducible] AW BQ Lex A9 Aj Spec
variable {TB:Bp}
def DJ(n:Net):Gr:={ N:=(Au (Ag n)).toNat,succ:=λx l=>Eo n (Ag n) (Bq (Ag n) x) l,goal:=λx=>Cm n (Bq (Ag n) x) (Ez n x.toNat),ls:=Ac n.ls,s0:=Dj (Ag n) n.st 0 }
theorem Dq(s:Int)(k:Nat):(AG s k).Pairwise (· < ·):=by
 unfold AG;rw [mY];refine(List.pairwise_lt_range.filter _).imp λ{a b} h=>?_
 show ((a:Nat):Int) < ((b:Nat):Int)
 omega
theorem Ki{n:Net}(b:Dm n)(x:Int):Fits (Ag n) (Bq (Ag n) x):=Lo (λz a=>by have:=Fz b z a;omega) x
theorem SH{n:Net}(a:Dm n){x l:Int}(c:l∈Ac n.ls){y:Int}(b:y∈Eo n (Ag n) (Bq (Ag n) x) l):0<=y/\y < Au (Ag n):=by
 have e:=Ak c;have d:=QO (Hs a (Ki a x) (l:=l) (by omega) (by omega)) [0] 1 (by simp) (by omega) (by simp);have:=d.1 y b;omega
theorem Lx{n:Net}(b:Dm n)(a:Fits (Ag n) n.st):HU (DJ n):=by
 have f:=Nl b;have e:=a.enc 0 (by omega);refine⟨?_,λx _ l d y c=>?_,Dq _ _⟩
 ·show 0<=Dj _ _ _/\Dj _ _ _ < ((Au (Ag n)).toNat:Int)
  omega
 ·show 0<=y/\y < ((Au (Ag n)).toNat:Int)
  have:=SH b d c;omega
theorem Kx{n:Net}(c:Dm n):Nu (Db n (DJ n).N):=by
 intro x a r b j e
 have a:x < (DJ n).N:=by simpa [Db] using a
 have g:(Db n (DJ n).N).getD x []=Ez n x:=by rw [List.getD,JG a];rfl
 rw [g] at b;obtain⟨l,d,rfl⟩:=d8.1 b;have h:=SH c d e
 have f:(Db n (DJ n).N).length=(Au (Ag n)).toNat:=by simp [Db,DJ]
 rw [f];omega
theorem Gb{n:Net}{x:Int}(a:0<=x/\x < (DJ n).N):(Db n (DJ n).N).getD x.toNat []=(Ac n.ls).map λl=>(DJ n).succ x l:=by
 rw [List.getD,JG (by omega)]
 have:((x.toNat:Nat):Int)=x:=by omega
 simp [Ez,this,DJ]
theorem Zl{n:Net}{dist:List Int}(h:Qg (Db n (DJ n).N) (λi=>Cm n (Bq (Ag n) i) (Ez n i)) dist):JT (DJ n) (λx=>dist.getD x.toNat 0):=by
 have o:(Db n (DJ n).N).length=(DJ n).N:=by simp [Db]
 refine⟨λx a=>?_,λx a k=>?_,λx a l b j d c=>?_⟩
 ·have g:=h.zero x.toNat (by omega)
  have e:((x.toNat:Nat):Int)=x:=by omega
  rw [e] at g;exact g
 ·obtain⟨r,f,j,d,m⟩:=h.step x.toNat (by omega) k
  rw [Gb a] at f;obtain⟨l,b,rfl⟩:=d8.1 f;exact⟨l,b,j,d,m⟩
 ·exact h.close x.toNat (by omega) _ (by rw [Gb a];exact d8.2 ⟨l,b,rfl⟩) j d c
theorem SB{dist:List Int}{d y:Int}:∀ {l acc:List Int},y∈l.foldl (HV dist d) acc↔y∈acc\/y∈l/\dist.getD y.toNat 0=d
 | [],acc=>by simp
 | j::l,acc=>by
  rw [mM,SB,Vs];split<;>grind
theorem ZG{mv:List (List (List Int))}{dist:List Int}{k:Nat}{d y:Int}{l:List Int}:y∈EX mv dist l k d↔∃x∈l,y∈(mv.getD x.toNat []).getD k []/\dist.getD y.toNat 0=d:=by
 have key:∀(l acc:List Int),y∈l.foldl (λacc x=>((mv.getD x.toNat []).getD k []).foldl (HV dist d) acc) acc↔y∈acc\/∃x∈l,y∈(mv.getD x.toNat []).getD k []/\dist.getD y.toNat 0=d:=by
  intro l
  induction l with
  | nil=>intro acc;simp
  | cons a l b=>
   intro acc;rw [mM,b,SB];grind
 unfold EX;rw [key];simp
theorem Zh{n:Net}{dist l:List Int}{k:Nat}{m:Int}(e:(Ac n.ls)[k]? = some m)(f:∀x∈l,0<=x/\x < (DJ n).N){d y:Int} :
 y∈EX (Db n (DJ n).N) dist l k d↔∃x∈l,y∈(DJ n).succ x m/\dist.getD y.toNat 0=d:=by
 rw [ZG];constructor
 ·rintro⟨x,a,b,c⟩
  rw [Gb (f x a)] at b;exact⟨x,a,by simpa [List.getD,e] using b,c⟩
 ·rintro⟨x,a,b,c⟩
  exact⟨x,a,by rw [Gb (f x a)];simpa [List.getD,e] using b,c⟩
theorem JI:∀ {zs:List Int} {k:Nat} {z:Int},zs[k]? = some z->Au (zs.take (k+1))=Au (zs.take k)*z
 | [],k,z,h=>by simp at h
 | a::zs,0,z,h=>by simp at h;subst h;simp [Au]
 | a::zs,k+1,z,h=>by
  simp only [n7,Au];rw [JI (by simpa using h),m7]
def dl(f:Nat->Int)(N i:Nat):List Int:=(List.range i).map f++List.replicate (N - i) 0
theorem Zm{f:Nat->Int}{N i:Nat}(h:i<=N):(dl f N i).length=N:=by simp [dl];omega
theorem fa{f:Nat->Int}{N i:Nat}(h:i < N):(dl f N i)[i]? = some 0:=by
 unfold dl;rw [em (by simp)]
 have:0 < N - i:=by omega
 simp [this]
theorem fb{f:Nat->Int}{N i:Nat}(h:i < N):(dl f N i).set i (f i)=dl f N (i+1):=by
 unfold dl;rw [nR _ _ (by simp)]
 have:N - i=(N - (i+1))+1:=by omega
 rw [this,nE,mn];simp [nZ]
end Go.Am
