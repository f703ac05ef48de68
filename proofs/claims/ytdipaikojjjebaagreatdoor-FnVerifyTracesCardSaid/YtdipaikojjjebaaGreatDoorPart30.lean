/-
  The reference's step from a set of states; its closure: walked.
-/
import Derived.Test.YtdipaikojjjebaaGreatDoorPart28
import Derived.Laws.StructEq
set_option linter.all false
namespace Go.Am
open Go Go.Proofs
set_option maxHeartbeats 1000000
set_option maxRecDepth 4000
attribute [local irreducible] A1 Cr Lex Bs Aj Spec
variable {TB:BA}
theorem Ug{es:List DM}{l:Int}{m k:Nat}{e:DM}(a:es[k]?=some e):Bo (es.take (k+1)) l m=if e.l=l/\m.testBit e.f.toNat=true then Bo (es.take k) l m ||| 2 ^ e.t.toNat else Bo (es.take k) l m:=by
 unfold Bo;rw[gt,a,nL];rfl
theorem Zm{s:Sys}(hs:Ay s=true){l:Int}{m k:Nat}:Bo (s.es.take k) l m<65536:=IA λj a=>by
 obtain⟨e,b,_,rfl⟩:=Cz.1 a;have hb:=BT hs (ma b);have c:=AE hs;unfold CI at hb;simp only[d4,decide_eq_true_eq]at hb;omega
theorem PF{s:Sys}(hs:Ay s=true)(l:Int){m:Nat}(B:m<65536):Pure Tryz.prog TB 99 [Bi s,eI .i64 (m:Nat),eI .i64 l] (eI .i64 (Bo s.es l m:Nat)):=by
 have F:=AE hs;refine eG Tryz.func99 rfl (by kernel_rfl) rfl ?_;intro Γ d;refine Aj.bound 0 rfl λv=>?_;have A:=v (s.es.map Dk) ⟨2,_,rfl,.refl⟩;rw[f7]at A;(repeat first|refine tA rfl ?_|refine aU rfl ?_|apply Aa);apply aB;refine aL (α:={k:Nat // k<=s.es.length}) [1,2,3] [] rfl rfl (λ⟨k,hk⟩=>[(7,eI .i64 (Bo (s.es.take k) l m:Nat)),(8,eI .i64 k)]) (λ⟨k,hk⟩=>[]) 0 (λ⟨k,hk⟩=>s.es.length-k) (⟨0,by omega⟩) d rfl (by (simp[cX,zC,d]<;>rfl)) ?_;rintro⟨k,hk⟩;(try dsimp only[cA,cB]);by_cases p:k<s.es.length
 ·obtain⟨e,r⟩:=get_some p
  have q:=get_map (g:=Dk) r
  have z:(s.es.map Dk)[((k:Nat):Int).toNat]?=some (Dk e):=by rw[i7];exact q
  have hb:=BT hs (co r);unfold CI at hb;simp only[d4,decide_eq_true_eq]at hb;have i:=Ug (l:=l) (m:=m) r;have w:=Zm hs (l:=l) (m:=m) (k:=k);have j:=NU (TB:=TB) (m:Nat) e.f (by omega) (by omega);rw[EW (by omega) (by omega)]at j;have u:=Zh (TB:=TB) e.t (by omega) (by omega)
  have y:2 ^ e.t.toNat<65536:=by
   have:2 ^ e.t.toNat<=2 ^ 15:=mc (by omega) (by omega);omega
  have o:=Vx (a:=Bo (s.es.take k) l m) (b:=2 ^ e.t.toNat) (by omega) (by omega);generalize 2 ^ e.t.toNat=x at *;(repeat first|refine sN rfl ?_|refine tA rfl ?_|refine s2 rfl λ_ c=>?_|refine aU rfl ?_|apply Aa)
  ((refine aC rfl ?_ ?_<;>rintro⟨⟩);all_goals try(exfalso;(simp only[oZ] at *;omega)))
  apply aK;refine aS (aB ?_)
  (repeat' first|(refine sA rfl ?_ ?_;first|exact tI|omega)|(refine s4 rfl ‹_› rfl ?_ ?_;omega)|refine s2 rfl λ_ c=>?_|(refine sC rfl (j) ?_;intro _ c)|refine sP rfl (u) rfl ?_|refine s3 rfl ?_ ?_<;>rintro rfl|refine aU rfl ?_|apply Aa|(refine aC rfl ?_ ?_<;>rintro⟨⟩));all_goals try contradiction
  ·refine⟨⟨k+1,by omega⟩,by dsimp only;(omega),[],?_⟩
   have n:Bo (s.es.take (k+1)) l m=Bo (s.es.take k) l m ||| x:=by rw[i,if_pos ⟨by simpa using ‹decide (e.l=l)=true›,c⟩]
   simp[cX,zC,d,o,n]
  ·have n:Bo (s.es.take (k+1)) l m=Bo (s.es.take k) l m:=by rw[i,if_neg (by simp[c])]
   apply aK;(repeat first|(refine sA rfl ?_ ?_;first|exact tI|omega)|refine aU rfl ?_|apply Aa);refine⟨⟨k+1,by omega⟩,by dsimp only;(omega),[],?_⟩;simp[cX,zC,d,n]
  ·have n:Bo (s.es.take (k+1)) l m=Bo (s.es.take k) l m:=by rw[i,if_neg (λh=>by simp[h.1]at c)]
   apply aK;(repeat first|(refine sA rfl ?_ ?_;first|exact tI|omega)|refine aU rfl ?_|apply Aa);refine⟨⟨k+1,by omega⟩,by dsimp only;(omega),[],?_⟩;simp[cX,zC,d,n]
 ·obtain rfl:k=s.es.length:=by omega
  rw[jp];(repeat first|refine sN rfl ?_|refine tA rfl ?_|refine s2 rfl λ_ c=>?_|refine aU rfl ?_|apply Aa)
  ((refine aC rfl ?_ ?_<;>rintro⟨⟩);all_goals try(exfalso;(simp only[oZ] at *;omega)))
  apply aE;(repeat first|refine tA rfl ?_|refine aU rfl ?_|apply Aa);(subst_vars;exact aR ⟨_,rfl,rfl⟩)
def Cl(t:CW)(G:PS)(i k:Nat):Prop:=∀p,p<t.q.nx.length->∀l∈CR t,(p<i\/(p=i/\l∈(CR t).take k))->∀j,(Bo t.s.es l (G p)).testBit j=true->(G (CN t.q p l).toNat).testBit j=true
structure lC (t:CW) (F0 F:PS) (i k:Nat) (G:PS) (b:Bool):Prop where
 ok:DF t G
 lo:∀p j,(F0 p).testBit j=true->(G p).testBit j=true
 hi:∀p j,(G p).testBit j=true->Qm t F0 p j
 le:∀p,F p<=G p
 yes:b=true->Sx G<Sx F
 no:b=false->G=F/\Cl t F i k
abbrev jy(r:DM×Bool):E:=.t [(true,(A2 r.1)),(false,[.d (bD r.2)])]
theorem Ub(a:W)(hs:a.length<=1000000):Spec Tryz.prog TB 176 [] 0 [eT a] (De (λ_:DM×Bool=>True) jy):=by
 refine eR Tryz.func176 rfl (by kernel_rfl) rfl ?_;intro Γ b;(repeat first|refine tA rfl ?_|refine aU rfl ?_|apply Aa);apply aB;refine aL (α:={k:Nat // k<=a.length}) [0] [] rfl rfl (λs=>[(2,.o (.ptr 0 3 0 0)),(4,eI .i64 s.1)]) (λs=>[(0,.cells 78 3 [A2 ⟨0,0,0⟩])]) 1 (λs=>a.length-s.1) (⟨0,by omega⟩) b rfl (by (simp[cX,zC,b,cN])) ?_;rintro⟨k,hk⟩;(try dsimp only[cA,cB]);by_cases p:k<a.length
 ·obtain⟨c,r⟩:=get_some (l:=a) (k:=(k:Int).toNat) (by omega)
  have q:=c.toNat_lt;have j:=cD (TB:=TB) a k c r;(repeat first|refine tA rfl ?_|refine s2 rfl λ_ d=>?_|refine aU rfl ?_|apply Aa)
  ((refine aC rfl ?_ ?_<;>rintro⟨⟩);all_goals try(exfalso;(simp only[oZ] at *;omega)))
  apply aK;refine aS (aB ?_)
  (repeat' first|refine tA rfl ?_|(refine s4 rfl ‹_› rfl ?_ ?_;omega)|refine s2 rfl λ_ d=>?_|refine s3 rfl ?_ ?_<;>rintro rfl|refine aU rfl ?_|apply Aa|(refine aC rfl ?_ ?_<;>rintro⟨⟩));all_goals try contradiction
  all_goals first|(exfalso;omega;done)|skip
  ·(repeat first|(refine Ag rfl ?_;refine gA rfl ?_;first|refine gS (λ_ _=>df rfl rfl (by omega) (by omega)) ?_))
   (refine pW rfl ?_ rfl (by rfl);refine Af [] rfl rfl (IE (TB:=TB) (a.take (k:Int).toNat) (by simp;omega)) ⟨rfl,by decide,by decide⟩ rfl trivial ?_;rintro n g h ⟨⟨f,t⟩,_,rfl,rfl,rfl⟩ _);(repeat first|(refine sA rfl ?_ ?_;first|exact tI|omega)|(refine Ag rfl ?_;refine gA rfl ?_;first|refine gS (λ_ _=>Ex rfl rfl (by omega) (by omega)) ?_)|refine aU rfl ?_|apply Aa);(refine pW rfl ?_ rfl (by rfl);refine Af [] rfl rfl (IE (TB:=TB) (a.drop ((k:Int)+1).toNat) (by simp;omega)) ⟨rfl,by decide,by decide⟩ rfl trivial ?_;rintro n g h ⟨⟨e,m⟩,_,rfl,rfl,rfl⟩ _);(repeat' first|refine tA rfl ?_|refine sP rfl (j) rfl ?_|(refine Ag rfl ?_;refine gA rfl ?_;first|refine gS (λ_ _=>AP rfl rfl (by rfl) (by rfl)) ?_)|refine s3 rfl ?_ ?_<;>rintro rfl|refine aU rfl ?_|apply Aa|(refine aC rfl ?_ ?_<;>rintro⟨⟩))
   all_goals first
    | exact aR ⟨_,rfl,[],jy (⟨f,(c.toNat:Int)-97,e⟩,m),[],⟨λi hi=>absurd hi (i8 i),kw⟩,rfl,trivial,(⟨f,(c.toNat:Int)-97,e⟩,m),trivial,rfl,rfl,rfl⟩
    | exact aR ⟨_,rfl,[],jy (⟨f,(c.toNat:Int)-97,e⟩,false),[],⟨λi hi=>absurd hi (i8 i),kw⟩,rfl,trivial,(⟨f,(c.toNat:Int)-97,e⟩,false),trivial,rfl,rfl,rfl⟩
  all_goals
   apply aK;(repeat first|(refine sA rfl ?_ ?_;first|exact tI|omega)|refine aU rfl ?_|apply Aa);refine⟨⟨k+1,by omega⟩,by dsimp only;(omega),[0],?_⟩;(simp[cX,zC,b,cN]<;>rfl)
 ·(repeat first|refine tA rfl ?_|refine s2 rfl λ_ d=>?_|refine aU rfl ?_|apply Aa)
  ((refine aC rfl ?_ ?_<;>rintro⟨⟩);all_goals try(exfalso;(simp only[oZ] at *;omega)))
  apply aE;(repeat first|refine tA rfl ?_|(refine Ag rfl ?_;refine gA rfl ?_;first|refine gS (λ_ _=>AP rfl rfl (by rfl) (by rfl)) ?_)|refine aU rfl ?_|apply Aa);exact aR ⟨_,rfl,[],jy (⟨0,0,0⟩,false),[],⟨λi hi=>absurd hi (i8 i),kw⟩,rfl,trivial,(⟨0,0,0⟩,false),trivial,rfl,rfl,rfl⟩
theorem HE(y:Sys)(hb:y.es.length<=100000):Spec Tryz.prog TB 177 [] 0 [Bi y] (De (λr:W=>r.length<=1000000) eT):=by
 have A:=Ed (TB:=TB) y;refine eR Tryz.func177 rfl (by kernel_rfl) rfl ?_;intro Γ d;(repeat first|refine tA rfl ?_|refine s2 rfl λ_ a=>?_|(refine sC rfl (A) ?_;intro _ a)|refine aU rfl ?_|apply Aa);(refine aC rfl ?_ ?_<;>rintro⟨⟩)
 ·(repeat first|refine tA rfl ?_|refine aU rfl ?_|apply Aa)
  exact aR ⟨_,rfl,[],eT [],[],⟨λi hi=>absurd hi (i8 i),kw⟩,rfl,trivial,[],mt _,rfl,rfl,rfl⟩
 have h:Ay y=true:=by (simp at a;subst a;assumption)
 have K:=AE h;apply aK;(repeat first|refine aU rfl ?_);refine rG ⟨Fj [(2,1),(6,1)],X6 [0,1,4,5,2,3,6,7,8]⟩ (by kernel_rfl) ?_;(repeat first|refine tA rfl ?_);(refine pW rfl ?_ rfl (by rfl);refine Af [] rfl rfl (Ek (TB:=TB) y.al) ⟨rfl,by decide,by decide⟩ rfl trivial ?_;rintro j b c ⟨u,x,rfl,rfl,rfl⟩ _);(repeat first|(refine sA rfl ?_ ?_;simp only[oZ] at *;omega));(refine pW rfl ?_ rfl (by rfl);refine Af [] rfl rfl (GP (TB:=TB) y.st (by omega)) ⟨rfl,by decide,by decide⟩ rfl trivial ?_;rintro j b c ⟨q,v,rfl,rfl,rfl⟩ _);(repeat first|(refine sA rfl ?_ ?_;first|exact tI|simp only[oZ] at *;omega)|refine aU rfl ?_|apply Aa);apply aB;refine aL (α:={z:Nat×W // z.1<=y.es.length/\z.2.length<=10+9*z.1}) [1] [] rfl rfl (λs=>[(3,eT s.1.2),(4,eI .i64 s.1.1)]) (λs=>[]) 0 (λs=>y.es.length-s.1.1) (⟨⟨0,u++[32]++q⟩,by simp;omega⟩) d rfl (by (simp[cX,zC,d])) ?_;rintro⟨⟨k,w⟩,hk,o⟩;(try dsimp only[cA,cB]);have hk:k<=y.es.length:=hk;have o:w.length<=10+9*k:=o;by_cases m:k<y.es.length
 ·obtain⟨e,p⟩:=get_some m
  have n:=get_map (g:=Dk) p
  have F:(y.es.map Dk)[((k:Nat):Int).toNat]?=some (Dk e):=by rw[i7];exact n
  have hb:=BT h (co p);unfold CI at hb;simp only[d4,decide_eq_true_eq]at hb;(repeat first|refine sN rfl ?_|refine tA rfl ?_|refine s2 rfl λ_ a=>?_|refine aU rfl ?_|apply Aa)
  ((refine aC rfl ?_ ?_<;>rintro⟨⟩);all_goals try(exfalso;(simp only[oZ] at *;omega)))
  apply aK;refine aS (aB ?_);(repeat first|refine tA rfl ?_|(refine s4 rfl ‹_› rfl ?_ ?_;omega)|refine aU rfl ?_|apply Aa);refine rG ⟨Fj [(3,10),(7,10),(11,10),(4,1001),(12,1001)],X6 [0,1,2,3,6,7,10,11,4,5,8,9,12,13,14]⟩ (by kernel_rfl) ?_;(repeat first|(refine sA rfl ?_ ?_;first|exact tI|simp only[oZ] at *;omega));(refine Ag rfl ?_;refine Cw ?_ rfl ⟨rfl,rfl⟩;refine Af [] rfl rfl (GP (TB:=TB) e.f (by omega)) ⟨rfl,by decide,by decide⟩ rfl trivial ?_;rintro j b c ⟨J,H,rfl,rfl,rfl⟩ _;refine⟨DO 0 rfl rfl,?_⟩);(repeat first|(refine sA rfl ?_ ?_;simp only[oZ] at *;omega)|refine sP rfl (Ls e.l (by omega) (by omega)) rfl ?_);(refine Ag rfl ?_;refine Cw ?_ rfl ⟨rfl,rfl⟩;refine Af [] rfl rfl (GP (TB:=TB) e.t (by omega)) ⟨rfl,by decide,by decide⟩ rfl trivial ?_;rintro j b c ⟨I,G,rfl,rfl,rfl⟩ _;refine⟨DO 0 rfl rfl,?_⟩);(repeat first|(refine sA rfl ?_ ?_;first|exact tI|omega|simp only[oZ] at *;omega)|refine aU rfl ?_|apply Aa);refine⟨⟨⟨k+1,w++[32]++J++[UInt8.ofNat (97+e.l.toNat)]++I⟩,by dsimp only;omega,by simp;omega⟩,by dsimp only;(omega),[],?_⟩;(simp[cX,zC,d,cN]<;>rfl)
 ·have B:k=y.es.length:=by omega
  (repeat first|refine sN rfl ?_|refine tA rfl ?_|refine s2 rfl λ_ a=>?_|refine aU rfl ?_|apply Aa)
  ((refine aC rfl ?_ ?_<;>rintro⟨⟩);all_goals try(exfalso;(simp only[oZ] at *;omega)))
  apply aE;(repeat first|refine tA rfl ?_|refine aU rfl ?_|apply Aa);exact aR ⟨_,rfl,[],eT w,[],⟨λi hi=>absurd hi (i8 i),kw⟩,rfl,trivial,w,by show w.length<=_;omega,rfl,rfl,rfl⟩
abbrev dL(r:Sys×Bool):E:=.t [(true,[.d (iD r.1.al),.d (iD r.1.st),.d (DY r.1.es)]),(false,[.d (bD r.2)])]
def Vu(al n:Int):List DM->Ab
 | []=>[(1,.cells 25 3 [[.d (iD al),.d (iD n),.d (.v (.slice none 0 0))]])]
 | e::l=>[(1,.cells 25 3 [[.d (iD al),.d (iD n),.arr 2 3 0 (l.length+1)]]),(2,.cells 78 3 ((e::l).map A2))]
theorem FG(f:W)(hs:f.length<=10000):Spec Tryz.prog TB 125 [] 0 [eT f] (De (λr:Sys×Bool=>r.1.es.length<=f.length+1) dL):=by
  refine eR Tryz.func125 rfl (by kernel_rfl) rfl ?_;intro Γ e;(repeat first|refine tA rfl ?_|refine aU rfl ?_|apply Aa);(refine pW rfl ?_ rfl (by rfl);refine Af [] rfl rfl (Lr (TB:=TB) f (by omega) 32) ⟨rfl,by decide,by decide⟩ rfl trivial ?_;rintro m b c ⟨ps,⟨R,Q,q⟩,rfl,rfl,rfl⟩ _);(repeat first|refine sN rfl ?_|refine tA rfl ?_|refine s2 rfl λ_ a=>?_|refine aU rfl ?_|apply Aa);by_cases S:ps.length<2
  · ((refine aC rfl ?_ ?_<;>rintro⟨⟩);all_goals try(exfalso;(simp only[oZ] at *;omega)))
    (repeat first|refine tA rfl ?_|(refine Ag rfl ?_;refine gA rfl ?_;first|refine gS (λ_ _=>AP rfl rfl (by rfl) (by rfl)) ?_)|refine aU rfl ?_|apply Aa);exact aR ⟨_,rfl,[],dL (⟨0,0,[]⟩,false),[],⟨λi hi=>absurd hi (i8 i),kw⟩,rfl,trivial,(⟨0,0,[]⟩,false),mt _,rfl,rfl,rfl⟩
  ((refine aC rfl ?_ ?_<;>rintro⟨⟩);all_goals try(exfalso;(simp only[oZ] at *;omega)))
  apply aK;obtain⟨K,X⟩:=get_some (l:=ps) (k:=(0:Int).toNat) (by simp;omega);have V:=get_map (g:=FX) X;obtain⟨y,F⟩:=get_some (l:=ps) (k:=(1:Int).toNat) (by simp;omega);have U:=get_map (g:=FX) F;have B:=q y (co F);(repeat first|refine tA rfl ?_|(refine s4 rfl ‹_› rfl ?_ ?_;omega)|refine aU rfl ?_);(refine pW rfl ?_ rfl (by rfl);refine Af [] rfl rfl (GF (TB:=TB) K) ⟨rfl,by decide,by decide⟩ rfl trivial ?_;rintro m b c ⟨⟨n,ok⟩,_,rfl,rfl,rfl⟩ _);(repeat first|refine tA rfl ?_|(refine s4 rfl ‹_› rfl ?_ ?_;omega)|refine aU rfl ?_|apply Aa);(refine pW rfl ?_ rfl (by rfl);refine Af [] rfl rfl (IE (TB:=TB) y (by omega)) ⟨rfl,by decide,by decide⟩ rfl trivial ?_;rintro m b c ⟨⟨st,M⟩,_,rfl,rfl,rfl⟩ _);(repeat first|refine tA rfl ?_|refine s2 rfl λ_ a=>?_|refine s3 rfl ?_ ?_<;>rintro rfl|refine aU rfl ?_|apply Aa)
  (repeat' first|refine tA rfl ?_|refine s2 rfl λ_ a=>?_|refine aU rfl ?_|apply Aa|(refine aC rfl ?_ ?_<;>rintro⟨⟩));all_goals try contradiction
  all_goals first
    | ((repeat first|refine tA rfl ?_|(refine Ag rfl ?_;refine gA rfl ?_;first|refine gS (λ_ _=>AP rfl rfl (by rfl) (by rfl)) ?_)|apply Aa)
       exact aR ⟨_,rfl,[],dL (⟨0,0,[]⟩,false),[],⟨λi hi=>absurd hi (i8 i),kw⟩,rfl,trivial,(⟨0,0,[]⟩,false),mt _,rfl,rfl,rfl⟩
       done)
    | skip
  apply aK;(repeat first|refine tA rfl ?_|(refine Ag rfl ?_;refine gA rfl ?_;first|refine gS (λ_ _=>SI rfl rfl (by rfl) (by rfl)) ?_)|refine aU rfl ?_|apply Aa);apply aB;refine aL (α:={z:Nat×List DM // (2<=z.1/\z.1<=ps.length)/\z.2.length+2=z.1}) [0,4] [] rfl rfl (λs=>[(2,.o (.ptr 0 3 0 0)),(9,.o (.ptr 1 3 0 0)),(10,eI .i64 s.1.1)]) (λs=>((0,.cells 25 3 [[.d (iD 0),.d (iD 0),.d (.l [])]])::Vu n st s.1.2)) 3 (λs=>ps.length-s.1.1) (⟨⟨2,[]⟩,by simp;omega⟩) e rfl (by (simp[cX,zC,e,Vu,cN])) ?_;rintro⟨⟨k,l⟩,hk,u⟩;(try dsimp only[cA,cB]);have hk:2<=k/\k<=ps.length:=hk;have u:l.length+2=k:=u;(repeat first|refine sN rfl ?_|refine tA rfl ?_|refine s2 rfl λ_ a=>?_|refine aU rfl ?_|apply Aa)
  ((refine aC rfl ?_ ?_<;>rintro⟨⟩);all_goals try (simp at a;done))
  · have x:k<ps.length:=by (simp only[oZ] at *;omega)
    obtain⟨w,A⟩:=get_some (l:=ps) (k:=k) x;have P:=get_map (g:=FX) A;have N:=q w (co A);apply aK;refine aS (aB ?_);(repeat first|refine tA rfl ?_|(refine s4 rfl ‹_› rfl ?_ ?_;omega)|refine aU rfl ?_);(refine pW rfl ?_ rfl (by rfl);refine Af [] rfl rfl (Ub (TB:=TB) w (by omega)) ⟨rfl,by decide,by decide⟩ rfl trivial ?_;rintro m b c ⟨⟨⟨I,H,G⟩,L⟩,_,rfl,rfl,rfl⟩ _);(repeat first|refine tA rfl ?_|refine s2 rfl λ_ a=>?_|refine aU rfl ?_|apply Aa);(refine aC rfl ?_ ?_<;>rintro⟨⟩)
    · (repeat first|refine tA rfl ?_|(refine Ag rfl ?_;refine gA rfl ?_;first|refine gS (λ_ _=>AP rfl rfl (by rfl) (by rfl)) ?_)|refine aU rfl ?_|apply Aa)
      exact aR ⟨_,rfl,[],dL (⟨0,0,[]⟩,false),[],⟨λi hi=>absurd hi (i8 i),kw⟩,rfl,trivial,(⟨0,0,[]⟩,false),mt _,rfl,rfl,rfl⟩
    apply aK
    cases l with
    | nil=>
      (repeat first|refine tA rfl ?_|refine aU rfl ?_);(refine pW rfl ?_ rfl (by rfl);refine Zw 61 rfl ?_;refine IH rfl rfl rfl (by intro r p;simp at p;subst p;rfl) (by rfl) (ce rfl) (by simp) (λh=>?_) (λ_=>?_))
      · exact absurd h (by simp)
      (repeat first|(refine sA rfl ?_ ?_;first|exact tI|omega)|refine aU rfl ?_|apply Aa);refine⟨⟨⟨k+1,[⟨I,H,G⟩]⟩,⟨by dsimp only;omega,by dsimp only;omega⟩,by simp at u;simp;omega⟩,by dsimp only;(omega),[0,1,4],?_⟩;(simp[cX,zC,e,cN,Vu,Ae,eC]<;>rfl)
    | cons j l=>
      (repeat first|refine tA rfl ?_|refine aU rfl ?_);(refine pW rfl ?_ rfl (by rfl);refine Al rfl rfl rfl (by first|(simp;done)|(simp;(omega))) rfl (by intro r p;simp at p;subst p;rfl) (by rfl) (ce rfl) (by simp at u |-;omega) ?_);(repeat first|(refine sA rfl ?_ ?_;first|exact tI|omega)|refine aU rfl ?_|apply Aa);refine⟨⟨⟨k+1,j::(l++[⟨I,H,G⟩])⟩,⟨by dsimp only;omega,by dsimp only;omega⟩,by simp at u |-;omega⟩,by dsimp only;(omega),[0,1,4],?_⟩;(simp[cX,zC,e,cN,Vu,Ae,eC]<;>rfl)
  apply aE
  have T:k=ps.length:=by (simp only[oZ] at *;omega)
  have t:l.length<=f.length+1:=by omega
  cases l with
  | nil=>
    refine Aj.AD [1] [(0,eT f),(2,.o (.ptr 0 3 0 0)),(9,.o (.ip (Av ⟨n,st,[]⟩)))] ⟨⟨_,rfl,.inl rfl⟩,⟨_,rfl,.inl rfl⟩,⟨_,rfl,.inr (.o (.box rfl (.cons .d (.cons .d (.cons .nl .nil)))))⟩,trivial⟩ ?_;(repeat first|refine tA rfl ?_|refine aU rfl ?_);(refine pW rfl ?_ rfl (by rfl);refine Af [] rfl rfl (HE (TB:=TB) ⟨n,st,[]⟩ (by simp)) ⟨rfl,by decide,by decide⟩ rfl trivial ?_;rintro m b c ⟨J,v,rfl,rfl,rfl⟩ _);(repeat first|refine tA rfl ?_|refine s2 rfl λ_ a=>?_|apply Aa);(refine aC rfl ?_ ?_<;>rintro⟨⟩)
    · (repeat first|refine tA rfl ?_|(refine Ag rfl ?_;refine gA rfl ?_;first|refine gS (λ_ _=>AP rfl rfl (by rfl) (by rfl)) ?_)|refine aU rfl ?_|apply Aa)
      exact aR ⟨_,rfl,[],dL (⟨0,0,[]⟩,false),[],⟨λi hi=>absurd hi (i8 i),kw⟩,rfl,trivial,(⟨0,0,[]⟩,false),mt _,rfl,rfl,rfl⟩
    apply aK;(repeat first|refine tA rfl ?_|refine aU rfl ?_|apply Aa);exact aR ⟨_,rfl,[],dL (⟨n,st,[]⟩,true),[],⟨λi hi=>absurd hi (i8 i),kw⟩,rfl,trivial,(⟨n,st,[]⟩,true),mt _,rfl,rfl,rfl⟩
  | cons j l=>
    refine Aj.AD [1,2] [(0,eT f),(2,.o (.ptr 0 3 0 0)),(9,.o (.ip (Av ⟨n,st,j::l⟩)))] ⟨⟨_,rfl,.inl rfl⟩,⟨_,rfl,.inl rfl⟩,⟨_,rfl,.inr (.o (.box rfl (.cons .d (.cons .d (.cons (.full rfl (by simp[d7]) (by simp)) .nil)))))⟩,trivial⟩ ?_;(repeat first|refine tA rfl ?_|refine aU rfl ?_);(refine pW rfl ?_ rfl (by rfl);refine Af [] rfl rfl (HE (TB:=TB) ⟨n,st,j::l⟩ (by simp at t |-;omega)) ⟨rfl,by decide,by decide⟩ rfl trivial ?_;rintro m b c ⟨J,v,rfl,rfl,rfl⟩ _);(repeat first|refine tA rfl ?_|refine s2 rfl λ_ a=>?_|apply Aa);(refine aC rfl ?_ ?_<;>rintro⟨⟩)
    · (repeat first|refine tA rfl ?_|(refine Ag rfl ?_;refine gA rfl ?_;first|refine gS (λ_ _=>AP rfl rfl (by rfl) (by rfl)) ?_)|refine aU rfl ?_|apply Aa)
      exact aR ⟨_,rfl,[],dL (⟨0,0,[]⟩,false),[],⟨λi hi=>absurd hi (i8 i),kw⟩,rfl,trivial,(⟨0,0,[]⟩,false),mt _,rfl,rfl,rfl⟩
    apply aK;(repeat first|refine tA rfl ?_|refine aU rfl ?_|apply Aa);exact aR ⟨_,rfl,[],dL (⟨n,st,j::l⟩,true),[],⟨λi hi=>absurd hi (i8 i),kw⟩,rfl,trivial,(⟨n,st,j::l⟩,true),t,rfl,rfl,rfl⟩
abbrev lg(r:CW×Bool):E:=.t [(true,(Qb r.1).map .d),(false,[.d (bD r.2)])]
theorem Cg(b:List UInt8)(hb:b.length<=2000)(p:Int)(P:0<=p/\p<800000000)(y:Sys)(N:y.es.length<=100000):Spec Tryz.prog TB 89 [(0,A6 b p)] 1 [.o (.ptr 0 2 0 0),Bi y] (Ix b p 5 (λs=>s.es.length<=y.es.length+1)):=by
 obtain⟨k,M,L,hk⟩:=A4 (TB:=TB) b hb p y.es.length (by omega);obtain⟨c,S,Q,K⟩:=A4 (TB:=TB) b hb (p+1) 30 (by omega);refine eR Tryz.func89 rfl (by kernel_rfl) rfl ?_;intro Γ a;(repeat first|refine tA rfl ?_|refine aU rfl ?_|apply Aa);refine R.Om [(0,2),(1,2),(2,2),(3,2),(5,2),(6,2),(9,3),(4,1),(7,1),(8,0),(10,5)] mixed (by kernel_rfl) rfl (by kernel_rfl) ?_;(repeat ((refine R.Ag rfl ?_;first|(refine R.yQ (md:=false) rfl rfl rfl ?_ ?_;exact tI)|refine R.yP rfl rfl rfl rfl ?_ )));(refine R.Ag rfl ?_;refine R.Kw (λ_=>?_) rfl rfl;refine Br rfl rfl rfl rfl (by simp) (by rfl) (by rfl) (by rfl) (by rfl) ?_);(refine R.Ag rfl ?_;refine R.Kw (λ_=>?_) rfl rfl;refine Al rfl rfl rfl (by simp) rfl (by intro r u;simp only[mu,d8]at u;obtain⟨_,_,rfl⟩:=u;rfl) (by rfl) (ce rfl) (by simp;omega) ?_);(repeat ((refine R.Ag rfl ?_;first|refine R.yA rfl rfl rfl rfl ?_|refine R.CO (λ_ _ _=>AP rfl rfl (by rfl) (by rfl)) rfl rfl ?_ )));refine R.NZ ?_;refine Aj.Aw [0] [] rfl rfl [(4,.o (.ptr 1 3 0 0)),(5,.o (.ptr 3 3 0 0))] [(0,A6 b p),(1,.cells 25 3 [[.d (iD 0),.d (iD 0),.d (.l [])]]),(2,.cells 78 3 (y.es.map A2)),(3,.cells 25 3 [[.d (iD y.al),.d (iD y.st),.arr 2 3 0 y.es.length]])] [0,1,3,4] (rl a rfl) (by (simp[cX,zC,a,cN,Ae,Bt,eC])) ?_;(try dsimp only[cA,cB]);(repeat first|refine tA rfl ?_|refine aU rfl ?_|apply Aa);(refine pW rfl ?_ rfl (by rfl);refine Af [0] rfl rfl (hk) ⟨rfl,by decide,by decide⟩ rfl (by simp[cX,zC,a,cN]) ?_;rintro t j m ⟨rfl,rfl,rfl⟩ _);(repeat first|refine tA rfl ?_|refine aU rfl ?_|apply Aa);(refine pW rfl ?_ rfl (by rfl);refine Af [0] rfl rfl (K) ⟨rfl,by decide,by decide⟩ rfl (by simp[cX,zC,a,cN]) ?_;rintro t j m ⟨rfl,rfl,rfl⟩ _);apply Aa;refine Aj.Aw [0] [] rfl rfl [(4,.o (.ptr 1 3 0 0)),(5,.o (.ptr 3 3 0 0)),(6,eI .i64 y.es.length),(7,eI .i64 k),(24,eI .i64 c)] [(0,A6 b (p+1+1)),(1,.cells 25 3 [[.d (iD 0),.d (iD 0),.d (.l [])]]),(2,.cells 78 3 (y.es.map A2)),(3,.cells 25 3 [[.d (iD y.al),.d (iD y.st),.arr 2 3 0 y.es.length]])] [0,1,2,3] (rl a rfl) (by (simp[cX,zC,a,cN])) ?_;(try dsimp only[cA,cB]);apply aB;(repeat first|refine tA rfl ?_|refine s2 rfl λ_ e=>?_|refine aU rfl ?_|apply Aa);(refine aC rfl ?_ ?_<;>rintro⟨⟩)
 ·obtain⟨z,G,v⟩:=CL (TB:=TB) b hb (p+1+1) (by omega) [64,-1,1,63] (by decide) (by decide)
  (repeat first|refine tA rfl ?_|refine aU rfl ?_);(refine pW rfl ?_ rfl (by rfl);refine Af [0] rfl rfl (v) ⟨rfl,by decide,by decide⟩ rfl (by simp[cX,zC,a,cN]) ?_;rintro t j m ⟨rfl,rfl,rfl⟩ _);(repeat first|refine tA rfl ?_|refine aU rfl ?_|apply Aa);refine Aj.Aw [] [] rfl rfl [(4,.o (.ptr 1 3 0 0))] [(0,A6 b (p+1+1+1)),(1,.cells 25 3 [[.d (iD (z)),.d (iD (y.st)),.arr 2 3 0 (y.es).length]]),(2,.cells 78 3 ((y.es).map A2))] [0,1,2] (rl a rfl) (by (simp[cX,zC,a,cN,Ae,eC])) ?_;(try dsimp only[cA,cB]);refine Aj.AD [1,2] [(4,.o (.ip (Av ⟨z,y.st,y.es⟩)))] ⟨⟨_,rfl,.inr (.o (.box rfl (.cons .d (.cons .d (.cons (.full rfl (by simp[d7]) (by simp)) .nil)))))⟩,trivial⟩ ?_;refine aR ⟨_,rfl,[0],Bi ⟨z,y.st,y.es⟩,[(0,A6 b (p+1+1+1))],⟨by intro i hi;match i with|0=>rfl,by decide⟩,rfl,by (simp[cX,zC,a,cN]),p+1+1+1,⟨z,y.st,y.es⟩,by omega,by first|(simp;done)|(simp;omega),rfl,rfl,rfl⟩
 (repeat first|refine tA rfl ?_|refine s2 rfl λ_ e=>?_|refine aU rfl ?_|apply Aa);(refine aC rfl ?_ ?_<;>rintro⟨⟩)
 ·obtain⟨z,G,v⟩:=CL (TB:=TB) b hb (p+1+1) (by omega) [0,17,-1,16,1] (by decide) (by decide)
  (repeat first|refine tA rfl ?_|refine aU rfl ?_);(refine pW rfl ?_ rfl (by rfl);refine Af [0] rfl rfl (v) ⟨rfl,by decide,by decide⟩ rfl (by simp[cX,zC,a,cN]) ?_;rintro t j m ⟨rfl,rfl,rfl⟩ _);(repeat first|refine tA rfl ?_|refine aU rfl ?_|apply Aa);refine Aj.Aw [] [] rfl rfl [(4,.o (.ptr 1 3 0 0))] [(0,A6 b (p+1+1+1)),(1,.cells 25 3 [[.d (iD (y.al)),.d (iD (z)),.arr 2 3 0 (y.es).length]]),(2,.cells 78 3 ((y.es).map A2))] [0,1,2] (rl a rfl) (by (simp[cX,zC,a,cN,Ae,eC])) ?_;(try dsimp only[cA,cB]);refine Aj.AD [1,2] [(4,.o (.ip (Av ⟨y.al,z,y.es⟩)))] ⟨⟨_,rfl,.inr (.o (.box rfl (.cons .d (.cons .d (.cons (.full rfl (by simp[d7]) (by simp)) .nil)))))⟩,trivial⟩ ?_;refine aR ⟨_,rfl,[0],Bi ⟨y.al,z,y.es⟩,[(0,A6 b (p+1+1+1))],⟨by intro i hi;match i with|0=>rfl,by decide⟩,rfl,by (simp[cX,zC,a,cN]),p+1+1+1,⟨y.al,z,y.es⟩,by omega,by first|(simp;done)|(simp;omega),rfl,rfl,rfl⟩
 (repeat first|refine tA rfl ?_|refine s2 rfl λ_ e=>?_|refine aU rfl ?_|apply Aa);(refine aC rfl ?_ ?_<;>rintro⟨⟩)
 ·by_cases v:y.es.length=0
  ·(repeat' first|refine tA rfl ?_|refine s2 rfl λ_ e=>?_|refine aU rfl ?_|apply Aa|(refine aC rfl ?_ ?_<;>rintro⟨⟩));all_goals try contradiction
   all_goals first
    | (exfalso;(simp only[oZ] at *;omega);done)
    | (apply aK;(repeat first|refine tA rfl ?_|refine aU rfl ?_|apply Aa);refine Aj.Aw [] [] rfl rfl [(4,.o (.ptr 1 3 0 0))] [(0,A6 b (p+1+1)),(1,.cells 25 3 [[.d (iD (y.al)),.d (iD (y.st)),.arr 2 3 0 (y.es).length]]),(2,.cells 78 3 ((y.es).map A2))] [0,1,2] (rl a rfl) (by (simp[cX,zC,a,cN,Ae,eC])) ?_;(try dsimp only[cA,cB]);refine Aj.AD [1,2] [(4,.o (.ip (Av ⟨y.al,y.st,y.es⟩)))] ⟨⟨_,rfl,.inr (.o (.box rfl (.cons .d (.cons .d (.cons (.full rfl (by simp[d7]) (by simp)) .nil)))))⟩,trivial⟩ ?_;refine aR ⟨_,rfl,[0],Bi ⟨y.al,y.st,y.es⟩,[(0,A6 b (p+1+1))],⟨by intro i hi;match i with|0=>rfl,by decide⟩,rfl,by (simp[cX,zC,a,cN]),p+1+1,⟨y.al,y.st,y.es⟩,by omega,by first|(simp;done)|(simp;omega),rfl,rfl,rfl⟩)
  obtain⟨⟨h,g,f⟩,x⟩:=get_some (l:=y.es) (k:=k.toNat) (by omega)
  have w:(y.es.map A2)[0+k.toNat]?=some (A2 ⟨h,g,f⟩):=by rw[lH];simp[x]
  obtain⟨z,G,q⟩:=CL (TB:=TB) b hb (p+1+1) (by omega) [-1,16,0,2] (by decide) (by decide)
  have n:(y.es.map A2).set (0+k.toNat) (A2 ⟨z,g,f⟩)=(y.es.set k.toNat ⟨z,g,f⟩).map A2:=by rw[lH,mM]
  (repeat first|refine tA rfl ?_|refine s2 rfl λ_ e=>?_|refine aU rfl ?_|apply Aa)
  ((refine aC rfl ?_ ?_<;>rintro⟨⟩);all_goals try(exfalso;(simp only[oZ] at *;omega)))
  refine rG (JG [(1,13),(5,1008),(6,2),(7,2),(8,1)]) (by kernel_rfl) ?_;(repeat first|refine tA rfl ?_);(refine Ag rfl ?_;refine Cw ?_ rfl ⟨rfl,rfl⟩;refine Af [0] rfl rfl (q) ⟨rfl,by decide,by decide⟩ rfl (by simp[cX,zC,a,cN]) ?_;rintro t j m ⟨rfl,rfl,rfl⟩ _;refine⟨DO 3 rfl rfl,?_⟩);(repeat first|(refine sA rfl ?_ ?_;first|exact tI|omega)|refine t4 rfl ‹_› rfl ?_|refine aU rfl ?_|apply Aa);refine Aj.Aw [] [] rfl rfl [(4,.o (.ptr 1 3 0 0))] [(0,A6 b (p+1+1+1)),(1,.cells 25 3 [[.d (iD (y.al)),.d (iD (y.st)),.arr 2 3 0 (y.es.set k.toNat ⟨z,g,f⟩).length]]),(2,.cells 78 3 ((y.es.set k.toNat ⟨z,g,f⟩).map A2))] [0,1,2] (rl a rfl) (by (simp[cX,zC,a,cN,Ae,eC,n])) ?_;(try dsimp only[cA,cB]);refine Aj.AD [1,2] [(4,.o (.ip (Av ⟨y.al,y.st,y.es.set k.toNat ⟨z,g,f⟩⟩)))] ⟨⟨_,rfl,.inr (.o (.box rfl (.cons .d (.cons .d (.cons (.full rfl (by simp[d7]) (by simp)) .nil)))))⟩,trivial⟩ ?_;refine aR ⟨_,rfl,[0],Bi ⟨y.al,y.st,y.es.set k.toNat ⟨z,g,f⟩⟩,[(0,A6 b (p+1+1+1))],⟨by intro i hi;match i with|0=>rfl,by decide⟩,rfl,by (simp[cX,zC,a,cN]),p+1+1+1,⟨y.al,y.st,y.es.set k.toNat ⟨z,g,f⟩⟩,by omega,by first|(simp;done)|(simp;omega),rfl,rfl,rfl⟩
 (repeat first|refine tA rfl ?_|refine s2 rfl λ_ e=>?_|refine aU rfl ?_|apply Aa);(refine aC rfl ?_ ?_<;>rintro⟨⟩)
 ·by_cases v:y.es.length=0
  ·(repeat' first|refine tA rfl ?_|refine s2 rfl λ_ e=>?_|refine aU rfl ?_|apply Aa|(refine aC rfl ?_ ?_<;>rintro⟨⟩));all_goals try contradiction
   all_goals first
    | (exfalso;(simp only[oZ] at *;omega);done)
    | (apply aK;(repeat first|refine tA rfl ?_|refine aU rfl ?_|apply Aa);refine Aj.Aw [] [] rfl rfl [(4,.o (.ptr 1 3 0 0))] [(0,A6 b (p+1+1)),(1,.cells 25 3 [[.d (iD (y.al)),.d (iD (y.st)),.arr 2 3 0 (y.es).length]]),(2,.cells 78 3 ((y.es).map A2))] [0,1,2] (rl a rfl) (by (simp[cX,zC,a,cN,Ae,eC])) ?_;(try dsimp only[cA,cB]);refine Aj.AD [1,2] [(4,.o (.ip (Av ⟨y.al,y.st,y.es⟩)))] ⟨⟨_,rfl,.inr (.o (.box rfl (.cons .d (.cons .d (.cons (.full rfl (by simp[d7]) (by simp)) .nil)))))⟩,trivial⟩ ?_;refine aR ⟨_,rfl,[0],Bi ⟨y.al,y.st,y.es⟩,[(0,A6 b (p+1+1))],⟨by intro i hi;match i with|0=>rfl,by decide⟩,rfl,by (simp[cX,zC,a,cN]),p+1+1,⟨y.al,y.st,y.es⟩,by omega,by first|(simp;done)|(simp;omega),rfl,rfl,rfl⟩)
  obtain⟨⟨h,g,f⟩,x⟩:=get_some (l:=y.es) (k:=k.toNat) (by omega)
  have w:(y.es.map A2)[0+k.toNat]?=some (A2 ⟨h,g,f⟩):=by rw[lH];simp[x]
  obtain⟨z,G,q⟩:=CL (TB:=TB) b hb (p+1+1) (by omega) [-1,16,0,3] (by decide) (by decide)
  have n:(y.es.map A2).set (0+k.toNat) (A2 ⟨h,g,z⟩)=(y.es.set k.toNat ⟨h,g,z⟩).map A2:=by rw[lH,mM]
  (repeat first|refine tA rfl ?_|refine s2 rfl λ_ e=>?_|refine aU rfl ?_|apply Aa)
  ((refine aC rfl ?_ ?_<;>rintro⟨⟩);all_goals try(exfalso;(simp only[oZ] at *;omega)))
  refine rG (JG [(1,13),(5,1008),(6,2),(7,2),(8,1)]) (by kernel_rfl) ?_;(repeat first|refine tA rfl ?_);(refine Ag rfl ?_;refine Cw ?_ rfl ⟨rfl,rfl⟩;refine Af [0] rfl rfl (q) ⟨rfl,by decide,by decide⟩ rfl (by simp[cX,zC,a,cN]) ?_;rintro t j m ⟨rfl,rfl,rfl⟩ _;refine⟨DO 3 rfl rfl,?_⟩);(repeat first|(refine sA rfl ?_ ?_;first|exact tI|omega)|refine t4 rfl ‹_› rfl ?_|refine aU rfl ?_|apply Aa);refine Aj.Aw [] [] rfl rfl [(4,.o (.ptr 1 3 0 0))] [(0,A6 b (p+1+1+1)),(1,.cells 25 3 [[.d (iD (y.al)),.d (iD (y.st)),.arr 2 3 0 (y.es.set k.toNat ⟨h,g,z⟩).length]]),(2,.cells 78 3 ((y.es.set k.toNat ⟨h,g,z⟩).map A2))] [0,1,2] (rl a rfl) (by (simp[cX,zC,a,cN,Ae,eC,n])) ?_;(try dsimp only[cA,cB]);refine Aj.AD [1,2] [(4,.o (.ip (Av ⟨y.al,y.st,y.es.set k.toNat ⟨h,g,z⟩⟩)))] ⟨⟨_,rfl,.inr (.o (.box rfl (.cons .d (.cons .d (.cons (.full rfl (by simp[d7]) (by simp)) .nil)))))⟩,trivial⟩ ?_;refine aR ⟨_,rfl,[0],Bi ⟨y.al,y.st,y.es.set k.toNat ⟨h,g,z⟩⟩,[(0,A6 b (p+1+1+1))],⟨by intro i hi;match i with|0=>rfl,by decide⟩,rfl,by (simp[cX,zC,a,cN]),p+1+1+1,⟨y.al,y.st,y.es.set k.toNat ⟨h,g,z⟩⟩,by omega,by first|(simp;done)|(simp;omega),rfl,rfl,rfl⟩
 (repeat first|refine tA rfl ?_|refine s2 rfl λ_ e=>?_|refine aU rfl ?_|apply Aa);(refine aC rfl ?_ ?_<;>rintro⟨⟩)
 ·by_cases v:y.es.length=0
  ·(repeat' first|refine tA rfl ?_|refine s2 rfl λ_ e=>?_|refine aU rfl ?_|apply Aa|(refine aC rfl ?_ ?_<;>rintro⟨⟩));all_goals try contradiction
   all_goals first
    | (exfalso;(simp only[oZ] at *;omega);done)
    | (apply aK;(repeat first|refine tA rfl ?_|refine aU rfl ?_|apply Aa);refine Aj.Aw [] [] rfl rfl [(4,.o (.ptr 1 3 0 0))] [(0,A6 b (p+1+1)),(1,.cells 25 3 [[.d (iD (y.al)),.d (iD (y.st)),.arr 2 3 0 (y.es).length]]),(2,.cells 78 3 ((y.es).map A2))] [0,1,2] (rl a rfl) (by (simp[cX,zC,a,cN,Ae,eC])) ?_;(try dsimp only[cA,cB]);refine Aj.AD [1,2] [(4,.o (.ip (Av ⟨y.al,y.st,y.es⟩)))] ⟨⟨_,rfl,.inr (.o (.box rfl (.cons .d (.cons .d (.cons (.full rfl (by simp[d7]) (by simp)) .nil)))))⟩,trivial⟩ ?_;refine aR ⟨_,rfl,[0],Bi ⟨y.al,y.st,y.es⟩,[(0,A6 b (p+1+1))],⟨by intro i hi;match i with|0=>rfl,by decide⟩,rfl,by (simp[cX,zC,a,cN]),p+1+1,⟨y.al,y.st,y.es⟩,by omega,by first|(simp;done)|(simp;omega),rfl,rfl,rfl⟩)
  obtain⟨⟨h,g,f⟩,x⟩:=get_some (l:=y.es) (k:=k.toNat) (by omega)
  have w:(y.es.map A2)[0+k.toNat]?=some (A2 ⟨h,g,f⟩):=by rw[lH];simp[x]
  obtain⟨z,G,q⟩:=CL (TB:=TB) b hb (p+1+1) (by omega) [-1,6,70,5,0] (by decide) (by decide)
  have n:(y.es.map A2).set (0+k.toNat) (A2 ⟨h,z,f⟩)=(y.es.set k.toNat ⟨h,z,f⟩).map A2:=by rw[lH,mM]
  (repeat first|refine tA rfl ?_|refine s2 rfl λ_ e=>?_|refine aU rfl ?_|apply Aa)
  ((refine aC rfl ?_ ?_<;>rintro⟨⟩);all_goals try(exfalso;(simp only[oZ] at *;omega)))
  refine rG (JG [(1,13),(5,1008),(6,2),(7,2),(8,1)]) (by kernel_rfl) ?_;(repeat first|refine tA rfl ?_);(refine Ag rfl ?_;refine Cw ?_ rfl ⟨rfl,rfl⟩;refine Af [0] rfl rfl (q) ⟨rfl,by decide,by decide⟩ rfl (by simp[cX,zC,a,cN]) ?_;rintro t j m ⟨rfl,rfl,rfl⟩ _;refine⟨DO 3 rfl rfl,?_⟩);(repeat first|(refine sA rfl ?_ ?_;first|exact tI|omega)|refine t4 rfl ‹_› rfl ?_|refine aU rfl ?_|apply Aa);refine Aj.Aw [] [] rfl rfl [(4,.o (.ptr 1 3 0 0))] [(0,A6 b (p+1+1+1)),(1,.cells 25 3 [[.d (iD (y.al)),.d (iD (y.st)),.arr 2 3 0 (y.es.set k.toNat ⟨h,z,f⟩).length]]),(2,.cells 78 3 ((y.es.set k.toNat ⟨h,z,f⟩).map A2))] [0,1,2] (rl a rfl) (by (simp[cX,zC,a,cN,Ae,eC,n])) ?_;(try dsimp only[cA,cB]);refine Aj.AD [1,2] [(4,.o (.ip (Av ⟨y.al,y.st,y.es.set k.toNat ⟨h,z,f⟩⟩)))] ⟨⟨_,rfl,.inr (.o (.box rfl (.cons .d (.cons .d (.cons (.full rfl (by simp[d7]) (by simp)) .nil)))))⟩,trivial⟩ ?_;refine aR ⟨_,rfl,[0],Bi ⟨y.al,y.st,y.es.set k.toNat ⟨h,z,f⟩⟩,[(0,A6 b (p+1+1+1))],⟨by intro i hi;match i with|0=>rfl,by decide⟩,rfl,by (simp[cX,zC,a,cN]),p+1+1+1,⟨y.al,y.st,y.es.set k.toNat ⟨h,z,f⟩⟩,by omega,by first|(simp;done)|(simp;omega),rfl,rfl,rfl⟩
 (repeat first|refine tA rfl ?_|refine s2 rfl λ_ e=>?_|refine aU rfl ?_|apply Aa);(refine aC rfl ?_ ?_<;>rintro⟨⟩)
 ·by_cases v:y.es.length=0
  ·(repeat' first|refine tA rfl ?_|refine s2 rfl λ_ e=>?_|refine aU rfl ?_|apply Aa|(refine aC rfl ?_ ?_<;>rintro⟨⟩));all_goals try contradiction
   all_goals first
    | (exfalso;(simp only[oZ] at *;omega);done)
    | (apply aK;(repeat first|refine tA rfl ?_|refine aU rfl ?_|apply Aa);refine Aj.Aw [] [] rfl rfl [(4,.o (.ptr 1 3 0 0))] [(0,A6 b (p+1+1)),(1,.cells 25 3 [[.d (iD (y.al)),.d (iD (y.st)),.arr 2 3 0 (y.es).length]]),(2,.cells 78 3 ((y.es).map A2))] [0,1,2] (rl a rfl) (by (simp[cX,zC,a,cN,Ae,eC])) ?_;(try dsimp only[cA,cB]);refine Aj.AD [1,2] [(4,.o (.ip (Av ⟨y.al,y.st,y.es⟩)))] ⟨⟨_,rfl,.inr (.o (.box rfl (.cons .d (.cons .d (.cons (.full rfl (by simp[d7]) (by simp)) .nil)))))⟩,trivial⟩ ?_;refine aR ⟨_,rfl,[0],Bi ⟨y.al,y.st,y.es⟩,[(0,A6 b (p+1+1))],⟨by intro i hi;match i with|0=>rfl,by decide⟩,rfl,by (simp[cX,zC,a,cN]),p+1+1,⟨y.al,y.st,y.es⟩,by omega,by first|(simp;done)|(simp;omega),rfl,rfl,rfl⟩)
  obtain⟨⟨h,g,f⟩,x⟩:=get_some (l:=y.es) (k:=k.toNat) (by omega)
  have w:(y.es.map A2)[0+k.toNat]?=some (A2 ⟨h,g,f⟩):=by rw[lH];simp[x]
  (repeat first|refine tA rfl ?_|refine s2 rfl λ_ e=>?_|refine aU rfl ?_|apply Aa)
  ((refine aC rfl ?_ ?_<;>rintro⟨⟩);all_goals try(exfalso;(simp only[oZ] at *;omega)))
  refine rG (JG [(1,13),(3,13),(6,12),(8,1),(10,1)]) (by kernel_rfl) ?_;(repeat first|(refine sA rfl ?_ ?_;first|exact tI|omega)|refine t4 rfl ‹_› rfl ?_);(refine pW rfl ?_ rfl (by rfl);refine Al rfl rfl rfl (by first|(simp;done)|(simp;(omega))) rfl (by intro r u;simp at u;subst u;rfl) (by rfl) (ce rfl) (by simp;omega) ?_);(repeat first|refine tA rfl ?_|refine aU rfl ?_|apply Aa);refine Aj.Aw [] [] rfl rfl [(4,.o (.ptr 1 3 0 0))] [(0,A6 b (p+1+1)),(1,.cells 25 3 [[.d (iD (y.al)),.d (iD (y.st)),.arr 2 3 0 (y.es++[(⟨h,g,f⟩:DM)]).length]]),(2,.cells 78 3 ((y.es++[(⟨h,g,f⟩:DM)]).map A2))] [0,1,4] (rl a rfl) (by (simp[cX,zC,a,cN,Ae,eC])) ?_;(try dsimp only[cA,cB]);refine Aj.AD [1,2] [(4,.o (.ip (Av ⟨y.al,y.st,y.es++[(⟨h,g,f⟩:DM)]⟩)))] ⟨⟨_,rfl,.inr (.o (.box rfl (.cons .d (.cons .d (.cons (.full rfl (by simp[d7]) (by simp)) .nil)))))⟩,trivial⟩ ?_;refine aR ⟨_,rfl,[0],Bi ⟨y.al,y.st,y.es++[(⟨h,g,f⟩:DM)]⟩,[(0,A6 b (p+1+1))],⟨by intro i hi;match i with|0=>rfl,by decide⟩,rfl,by (simp[cX,zC,a,cN]),p+1+1,⟨y.al,y.st,y.es++[(⟨h,g,f⟩:DM)]⟩,by omega,by first|(simp;done)|(simp;omega),rfl,rfl,rfl⟩
 (repeat first|refine tA rfl ?_|refine s2 rfl λ_ e=>?_|refine aU rfl ?_|apply Aa);(refine aC rfl ?_ ?_<;>rintro⟨⟩)
 ·obtain⟨F,_,_,J⟩:=A4 (TB:=TB) b hb (p+1+1) 4 (by omega)
  obtain⟨B,_,_,I⟩:=A4 (TB:=TB) b hb (p+1+1+1) 3 (by omega);obtain⟨A,_,_,H⟩:=A4 (TB:=TB) b hb (p+1+1+1+1) 4 (by omega);refine rG ⟨Fj [(1,13),(3,1008),(5,1008),(7,1008),(10,1),(12,1)],X6 [0,1,2,4,6,3,5,7,8,9,10,11,12]⟩ (by kernel_rfl) ?_;(repeat first|refine tA rfl ?_);(refine Ag rfl ?_;refine Cw ?_ rfl ⟨rfl,rfl⟩;refine Af [0] rfl rfl (J) ⟨rfl,by decide,by decide⟩ rfl (by simp[cX,zC,a,cN]) ?_;rintro t j m ⟨rfl,rfl,rfl⟩ _;refine⟨DO 3 rfl rfl,?_⟩);(refine Ag rfl ?_;refine Cw ?_ rfl ⟨rfl,rfl⟩;refine Af [0] rfl rfl (I) ⟨rfl,by decide,by decide⟩ rfl (by simp[cX,zC,a,cN]) ?_;rintro t j m ⟨rfl,rfl,rfl⟩ _;refine⟨DO 3 rfl rfl,?_⟩);(refine Ag rfl ?_;refine Cw ?_ rfl ⟨rfl,rfl⟩;refine Af [0] rfl rfl (H) ⟨rfl,by decide,by decide⟩ rfl (by simp[cX,zC,a,cN]) ?_;rintro t j m ⟨rfl,rfl,rfl⟩ _;refine⟨DO 3 rfl rfl,?_⟩);(repeat first|refine tA rfl ?_|(refine Ag rfl ?_;refine gA rfl ?_;first|refine gS (λ_ _=>AP rfl rfl (by rfl) (by rfl)) ?_));(refine pW rfl ?_ rfl (by rfl);refine Al rfl rfl rfl (by first|(simp;done)|(simp;(omega))) rfl (by intro r u;simp at u;subst u;rfl) (by rfl) (ce rfl) (by simp;omega) ?_);(repeat first|refine tA rfl ?_|refine aU rfl ?_|apply Aa);refine Aj.Aw [] [] rfl rfl [(4,.o (.ptr 1 3 0 0))] [(0,A6 b (p+1+1+1+1+1)),(1,.cells 25 3 [[.d (iD (y.al)),.d (iD (y.st)),.arr 2 3 0 (y.es++[(⟨F,B,A⟩:DM)]).length]]),(2,.cells 78 3 ((y.es++[(⟨F,B,A⟩:DM)]).map A2))] [0,1,4] (rl a rfl) (by (simp[cX,zC,a,cN,Ae,eC])) ?_;(try dsimp only[cA,cB]);refine Aj.AD [1,2] [(4,.o (.ip (Av ⟨y.al,y.st,y.es++[(⟨F,B,A⟩:DM)]⟩)))] ⟨⟨_,rfl,.inr (.o (.box rfl (.cons .d (.cons .d (.cons (.full rfl (by simp[d7]) (by simp)) .nil)))))⟩,trivial⟩ ?_;refine aR ⟨_,rfl,[0],Bi ⟨y.al,y.st,y.es++[(⟨F,B,A⟩:DM)]⟩,[(0,A6 b (p+1+1+1+1+1))],⟨by intro i hi;match i with|0=>rfl,by decide⟩,rfl,by (simp[cX,zC,a,cN]),p+1+1+1+1+1,⟨y.al,y.st,y.es++[(⟨F,B,A⟩:DM)]⟩,by omega,by first|(simp;done)|(simp;omega),rfl,rfl,rfl⟩
 apply aK;(repeat first|refine tA rfl ?_|refine aU rfl ?_|apply Aa);refine Aj.Aw [] [] rfl rfl [(4,.o (.ptr 1 3 0 0))] [(0,A6 b (p+1+1)),(1,.cells 25 3 [[.d (iD (y.al)),.d (iD (y.st)),.arr 2 3 0 (y.es).length]]),(2,.cells 78 3 ((y.es).map A2))] [0,1,2] (rl a rfl) (by (simp[cX,zC,a,cN,Ae,eC])) ?_;(try dsimp only[cA,cB]);refine Aj.AD [1,2] [(4,.o (.ip (Av ⟨y.al,y.st,y.es⟩)))] ⟨⟨_,rfl,.inr (.o (.box rfl (.cons .d (.cons .d (.cons (.full rfl (by simp[d7]) (by simp)) .nil)))))⟩,trivial⟩ ?_;refine aR ⟨_,rfl,[0],Bi ⟨y.al,y.st,y.es⟩,[(0,A6 b (p+1+1))],⟨by intro i hi;match i with|0=>rfl,by decide⟩,rfl,by (simp[cX,zC,a,cN]),p+1+1,⟨y.al,y.st,y.es⟩,by omega,by first|(simp;done)|(simp;omega),rfl,rfl,rfl⟩
noncomputable def aO(t:CW)(w:W):Bool:=Bu t && (within w t.al && LS t w)
theorem Lq(t:CW):Pure Tryz.prog TB 51 [g9 t] (eB (Bu t)):=by
 unfold Bu;refine eN Tryz.func51 rfl (by kernel_rfl) rfl ?_;intro Γ b;(repeat' first|refine tA rfl ?_|(refine sC rfl (Bh t.s) ?_;intro _ a)|(refine sC rfl (AL t.q) ?_;intro _ a)|(refine sC rfl (Gu t.al) ?_;intro _ a)|refine s3 rfl ?_ ?_<;>rintro rfl|refine aU rfl ?_|apply Aa|(refine aC rfl ?_ ?_<;>rintro⟨⟩)|apply aK|apply aE|apply aB|refine aR ⟨_,rfl,?_⟩)
 all_goals (show E.o _=E.o _;simp_all)
abbrev kQ(p:A5)(t:CW):E:=kP false p t.s t.q t.al
theorem OP(p:A5)(t:CW):Pure Tryz.prog TB 126 [kQ p t] (eI .i64 (if Bu t then t.al else -1)):=by
 have c:=Lq (TB:=TB) t;refine eN Tryz.func126 rfl (by kernel_rfl) rfl ?_;intro Γ b;(repeat' first|refine tA rfl ?_|refine s2 rfl λ_ a=>?_|(refine sC rfl (c) ?_;intro _ a)|refine s3 rfl ?_ ?_<;>rintro rfl|refine aU rfl ?_|apply Aa|(refine aC rfl ?_ ?_<;>rintro⟨⟩)|apply aK|apply aE|apply aB|refine aR ⟨_,rfl,?_⟩)
 all_goals first
  | (show E.o _=E.o _;congr;grind)
  | (exfalso;simp at *;done)
abbrev Mw(c:C):C:=.mv 129 [c]
theorem Pf[CG TB](p:A5){t:CW}(ht:Bu t=true)(ok:W->Prop):∃m,Ma t ok m/\AH Tryz.prog TB 66 0 [] 0 [kQ p t] (λx σ nx=>x=.t [(true,[.d (iD t.al),Mw (.ptr 0 14 0 0)]),(false,[.d (bD true)])]/\σ=LN t m/\nx=5):=by
 obtain⟨m,j,e⟩:=QT (TB:=TB) ht ok;refine⟨m,j,?_⟩;have f:=OP (TB:=TB) p t;rw[if_pos ht]at f
 have b:Bn t.al=true:=by unfold Bu at ht;simp only[d4]at ht;exact ht.2.2
 unfold Bn at b;simp only[decide_eq_true_eq]at b;refine AH.A3 (AH.Pg (m:=0) (ce rfl) Tryz.func66 rfl (by kernel_rfl) (ce rfl) ?_);intro Γ a;(repeat first|refine tA rfl ?_|refine sP rfl (f) rfl ?_|refine aU rfl ?_|apply Aa);apply aB;(repeat first|refine tA rfl ?_|refine s2 rfl λ_ c=>?_|refine aU rfl ?_|apply Aa)
 ((refine aC rfl ?_ ?_<;>rintro⟨⟩);all_goals try (simp at c;done))
 ·exfalso;(simp only[oZ] at *;omega)
 ·(repeat first|refine tA rfl ?_|refine aU rfl ?_|apply Aa)
  ((refine aC rfl ?_ ?_<;>rintro⟨⟩);all_goals try (simp at c;done))
  apply aK;(repeat first|refine tA rfl ?_|refine aU rfl ?_);(refine pW rfl ?_ rfl (by rfl);refine BR [] rfl rfl 0 (e) (by decide) ⟨rfl,by decide,by decide⟩ rfl (by simp[cX,zC,a,AZ]) ?_;rintro k g h ⟨rfl,rfl,rfl⟩ _);(repeat first|(refine Ag rfl ?_;refine gA rfl ?_;first|refine gS (λ_ _=>ki rfl) ?_));(repeat first|refine tA rfl ?_|(refine Ag rfl ?_;refine gA rfl ?_;first|refine gS (λ_ _=>AP rfl rfl (by rfl) (by rfl)) ?_));apply Aa;refine aR ⟨_,rfl,[1,2,3,4,5],.t [(true,[.d (iD t.al),Mw (.ptr 0 14 0 0)]),(false,[.d (bD true)])],LN t m,⟨by intro i hi;omega,by decide⟩,rfl,by (simp[cX,zC,a,AZ]),rfl,rfl,rfl⟩
def CU(te:HS):Bool:=if te.kn then AJ te.p else Bu ⟨te.s,te.q,te.al⟩
def Bc(te:HS):Int:=if te.kn then te.p.al else te.al
noncomputable def Cv(te:HS)(w:W):Bool:=if te.kn then LA te.p w else LS ⟨te.s,te.q,te.al⟩ w
def RD(te:HS)(ok:W->Prop):Prop:=te.kn=false->gb ⟨te.s,te.q,te.al⟩ ok
abbrev gp(al:Int):W->Prop:=λw=>AO (Bg al) w/\w.length<=1048576
theorem jP{tabs:List (Nat×Obj)}[CG ⟨tabs,none⟩]{t:CW}{ok:W->Prop}(ht:Bu t=true)(a:∀w,ok w->gp t.al w)(b:gb t ok){r:Nat}:IY Tryz.prog ⟨tabs,some (ON t ok,r)⟩ (Mw (Oh r)) (LS t) ok:=
 ⟨rfl,λe ha d=>ZP (es:=[eT _]) e (by simp[I6,ha]) rfl (aP ht b d (λc f=>QL ((a _ d).1 c f)) (a _ d).2) rfl⟩
theorem jf{tabs:List (Nat×Obj)}{h:Option (Hid×Nat)}{b:Nat}{vals:List Value}(a:La ⟨tabs,none⟩ b vals):La ⟨tabs,h⟩ b vals:=⟨a.out⟩
theorem fR{tabs:List (Nat×Obj)}{h:Option (Hid×Nat)}(a:CG ⟨tabs,none⟩):CG ⟨tabs,h⟩:=by
 cases a
 constructor<;>(apply jf;assumption)
end Go.Am
namespace Go.Am
open Go
theorem EX{c:MC}:∀ {u w:List Int} {q r:Int},Hh c (u++w) q r↔∃y,Hh c u q y/\Hh c w y r
 | [],w,q,r=>⟨λh=>⟨q,rfl,h⟩,λ⟨y,a,b⟩=>by have a:y=q:=a;subst a;exact b⟩
 | l :: u,w,q,r=>by
  constructor
  ·rintro⟨y,d,h⟩
   obtain⟨z,a,b⟩:=EX.1 h;exact⟨z,⟨y,d,a⟩,b⟩
  ·rintro⟨z,⟨y,d,a⟩,b⟩
   exact⟨y,d,EX.2 ⟨z,a,b⟩⟩
theorem MT{s:Sys}(hs:Ay s=true):∀ {w:List Int} {q r:Int},0<=q/\q<s.st->Hh (I8 s) w q r->0<=r/\r<s.st
 | [],q,r,a,h=>by have h:r=q:=h;subst h;exact a
 | l::w,q,r,a,⟨y,b,h⟩=>MT hs (It hs a.1 a.2 b) h
theorem Ru{a:A5}(ha:AJ a=true):∀ {w:List Int} {q:Int},(∀l∈w,0<=l/\l<6)->0<=q/\q<a.nx.length->0<=Dc (fA a) q w/\Dc (fA a) q w<a.nx.length
 | [],q,_,c=>c
 | l::w,q,b,c=>by
  have d:=b l (by simp);exact Ru ha (w:=w) (λm e=>b m (by simp[e])) (Eo ha (q:=q.toNat) (by omega) d.1 d.2)
theorem XK{t:CW}{F:PS}{u:W}{c:UInt8}:FV t F (u++[c])=EK t ((c.toNat:Int)-97) (FV t F u):=by rw[Ox];rfl
theorem IS{s:Sys}{q l r:Int}(h:AT s.al l.toNat=true):r∈BN s q l↔∃e∈s.es,e.f=q/\e.l=l/\e.t=r:=by
 unfold BN;rw[if_pos h];simp only[d8,lw,d4,decide_eq_true_eq];constructor
 ·rintro⟨e,⟨d,c,b⟩,a⟩;exact⟨e,d,c,b,a⟩
 ·rintro⟨e,d,c,b,a⟩;exact⟨e,⟨d,c,b⟩,a⟩
section
variable {t:CW}(ht:Bu t=true)
include ht
theorem VW{F0:PS}(A:DF t F0){p j:Nat}:Qm t F0 p j↔∃(a b:Nat) (u:List Int),(F0 a).testBit b=true/\(∀l∈u,l∈CR t)/\Hh (I8 t.s) u b j/\(p:Int)=Dc (fA t.q) a u:=by
 constructor
 ·intro h
  induction h with
  | @base p j hb=>exact⟨p,j,[],hb,by simp,rfl,rfl⟩
  | @step p j e i o n I r=>
   obtain⟨a,b,u,z,k,c,d⟩:=r;have H:=Hc ht o;have hL:=DT ht n;have g:=i.lt ht A;have hg:=Eo (DA ht) g.1 hL.1 hL.2.1;refine⟨a,b,u++[e.l],z,λl x=>?_,?_,?_⟩
   ·rcases f6.1 x with h|h
    ·exact k l h
    ·simp at h;subst h;exact n
   ·refine EX.2 ⟨j,c,(e.t.toNat:Int),?_,rfl⟩
    exact(IS hL.2.2).2 ⟨e,o,by omega,rfl,by omega⟩
   ·rw[KA,<-d]
    show ((CN t.q p e.l).toNat:Int)=CN t.q ((p:Int).toNat) e.l
    rw[i7];omega
 ·rintro⟨a,b,u,z,k,c,d⟩
  have key:∀(u:List Int) (a b:Nat),Qm t F0 a b->(∀l∈u,l∈CR t)->∀ {p j:Nat},Hh (I8 t.s) u b j->(p:Int)=Dc (fA t.q) a u->Qm t F0 p j:=λu=>by
   induction u with
   | nil=>
    intro a b i _ p j c d;have c:(j:Int)=b:=c;have d:(p:Int)=a:=d
    obtain rfl:j=b:=by omega
    obtain rfl:p=a:=by omega
    exact i
   | cons l u r=>
    intro a b i k p j c d;have n:=k l (by simp);have hL:=DT ht n;have g:=i.lt ht A;have hg:=Eo (DA ht) g.1 hL.1 hL.2.1;obtain⟨y,F,c⟩:=c;obtain⟨e,o,K,B,J⟩:=(IS hL.2.2).1 F;have H:=Hc ht o;have w:=Qm.step i o (by rw[B];exact n) (show e.f.toNat=b by omega)
    have v:((e.t.toNat:Nat):Int)=y:=by omega
    refine r _ _ w (λm G=>k m (by simp[G])) (by rw[v];exact c) ?_;rw[d,B]
    show Dc (fA t.q) (CN t.q ((a:Int).toNat) l) u=_
    rw[i7];congr 1;omega
  exact key u a b (.base z) k c d
theorem Zu{F:PS}(n:DF t F){l:Int}(u:0<=l/\l<6){p' j:Nat}:(VJ t l F p').testBit j=true↔∃p a:Nat,(F p).testBit a=true/\CN t.q p l=(p':Int)/\(j:Int)∈BN t.s a l:=by
 rw[Kp]
 have g:∀ {p a:Nat},(F p).testBit a=true->p<t.q.nx.length:=λ{p a} h=>by
  rcases l5 p t.q.nx.length with b|b
  ·exact b
  ·rw[n.z p b]at h;simp at h
 unfold Fe;by_cases hb:AT t.s.al l.toNat=true
 ·simp only [hb,if_true]
  constructor
  ·rintro⟨p,b,d,c⟩
   obtain⟨e,i,⟨m,k⟩,r⟩:=Cz.1 c;have o:=Hc ht i;exact⟨p,e.f.toNat,k,d,(IS hb).2 ⟨e,i,by omega,m,by omega⟩⟩
  ·rintro⟨p,a,b,d,c⟩
   obtain⟨e,i,m,k,r⟩:=(IS hb).1 c;have o:=Hc ht i;refine⟨p,g b,d,Cz.2 ⟨e,i,⟨k,?_⟩,by omega⟩⟩;rw[show e.f.toNat=a by omega];exact b
 ·simp only [hb,if_false,nF]
  have hs:∀a:Nat,BN t.s a l=[(a:Int)]:=λa=>by unfold BN;rw[if_neg hb]
  constructor
  ·rintro⟨p,b,d,c⟩
   exact⟨p,j,c,d,by rw[hs];simp⟩
  ·rintro⟨p,a,b,d,c⟩
   rw[hs]at c
   obtain rfl:j=a:=by simp at c;omega
   exact⟨p,g b,d,b⟩
end
def Bl(al:Int)(u:List Int):List Int:=u.filter λl=>AT al l.toNat
def KG(t:CW)(u:List Int):Prop:=∀l∈u,l∈CR t\/l∈Ac t.al
theorem cr{t:CW}{l:Int}(h:l∈CR t):AT t.al l.toNat=false:=by
 unfold CR at h;have:=(lw.1 h).2
 simpa using this
theorem RH{t:CW}{u:List Int}(d:KG t u)(h:Bl t.al u=[]):∀l∈u,l∈CR t:=λl b=>by
 rcases d l b with a|a
 ·exact a
 ·exfalso
  have c:l∈Bl t.al u:=lw.2 ⟨b,(Ai a).2.2⟩;rw[h]at c;cases c
theorem QB{t:CW}{u:List Int}(h:∀l∈u,l∈CR t):Bl t.al u=[]:=ow.2 λl a=>by rw[cr (h l a)];simp
theorem Vn{t:CW}{F:PS}(g:DF t F):HL t F=true↔∃p j:Nat,(F p).testBit j=true/\TH t.q p=false:=by
 unfold HL;rw[po];constructor
 ·rintro⟨p,c,h⟩
  simp only[d4,decide_eq_true_eq,nc]at h
  have:∃j,(F p).testBit j=true:=Classical.byContradiction λf=>h.1 (EM λj=>by
   cases hb:(F p).testBit j
   ·rfl
   ·exact absurd ⟨j,hb⟩ f)
  obtain⟨j,d⟩:=this;exact⟨p,j,d,by unfold TH;rw[i7];exact h.2⟩
 ·rintro⟨p,j,a,b⟩
  have c:p<t.q.nx.length:=by
   rcases l5 p t.q.nx.length with h|h
   ·exact h
   ·rw[g.z p h]at a;simp at a
  refine⟨p,lS.2 c,?_⟩;unfold TH at b;rw[i7]at b;simp only[d4,decide_eq_true_eq,nc];exact⟨λe=>by rw[e]at a;simp at a,b⟩
theorem P6{t:CW}:∀(w:List Int) {F:PS},KB t F (DD w)=false↔∃k,k<=w.length/\HL t (FV t F (DD (w.take k)))=true
 | [],F=>by
  show (!HL t F)=false↔_
  constructor
  ·intro h
   exact⟨0,by simp,by show HL t F=true;simpa using h⟩
  ·rintro⟨k,_,h⟩
   have h:HL t F=true:=by simpa[DD,FV]using h
   rw[h];rfl
 | l :: w,F=>by
  have c:=λF=>P6 (t:=t) w (F:=F);have e:KB t F (DD (l::w))=(!HL t F && KB t (EK t (((lb l).toNat:Int)-97) F) (DD w)):=rfl;rw[e];constructor
  ·intro h
   cases hb:HL t F
   ·rw[hb]at h
    obtain⟨k,b,a⟩:=(c _).1 h;exact⟨k+1,by simpa using b,a⟩
   ·exact⟨0,by simp,hb⟩
  ·rintro⟨k,b,a⟩
   cases k with
   | zero=>
    have a:HL t F=true:=a;rw[a];rfl
   | succ k=>
    have:=(c (EK t (((lb l).toNat:Int)-97) F)).2 ⟨k,by simpa using b,a⟩;rw[this,Bool.and_false]
theorem dr{α:Type}{P:List α->Prop}(c:P [])(b:∀w l,P w->P (w++[l]))(w:List α):P w:=by
 rw[<-List.reverse_reverse w]
 induction w.reverse with
 | nil=>exact c
 | cons l u a=>rw[List.reverse_cons];exact b _ l a
section
variable {t:CW}(ht:Bu t=true)
include ht
theorem YP{F0:PS}(a:DF t F0){p j:Nat}:(WX t F0 p).testBit j=true↔∃(b c:Nat) (u:List Int),(F0 b).testBit c=true/\(∀l∈u,l∈CR t)/\Hh (I8 t.s) u c j/\(p:Int)=Dc (fA t.q) b u:=by
 rw[MS,VW ht a];constructor
 ·exact λh=>h.2
 ·intro h
  exact⟨((VW ht a).2 h).lt ht a |>.2,h⟩
theorem Nc:∀(w:List Int) {F:PS},DF t F->(∀l∈w,0<=l/\l<6)->DF t (FV t F (DD w))
 | [],F,h,_=>h
 | l :: w,F,h,b=>by
  have a:=b l (by simp)
  have e:FV t F (DD (l::w))=FV t (EK t l F) (DD w):=by
   show FV t (EK t (((lb l).toNat:Int)-97) F) (DD w)=_
   rw[Lu a.1 a.2]
  rw[e];exact Nc w (N6 ht a h) λm c=>b m (by simp[c])
theorem Wv:∀(w:List Int),(∀l∈w,l∈Ac t.al)->∀ {p j:Nat},((FV t (CT t) (DD w) p).testBit j=true↔∃u,KG t u/\Bl t.al u=w/\Hh (I8 t.s) u 0 j/\(p:Int)=Dc (fA t.q) 0 u):=λw=>by
 refine dr (P:=λw=>(∀l∈w,l∈Ac t.al)->∀ {p j:Nat},((FV t (CT t) (DD w) p).testBit j=true↔∃u,KG t u/\Bl t.al u=w/\Hh (I8 t.s) u 0 j/\(p:Int)=Dc (fA t.q) 0 u)) ?_ ?_ w
 ·intro _ p j
  show (WX t KV p).testBit j=true↔_
  rw[YP ht (OY ht)]
  have R:∀ {y z:Nat},(KV y).testBit z=true↔y=0/\z=0:=λ{y z} => by
   unfold KV;split
   ·rename_i h
    subst h;have e:(1:Nat)=2 ^ 0:=rfl;rw[e,nj];simp[eq_comm]
   ·rename_i h;simp[h]
  constructor
  ·rintro⟨y,z,u,b,d,x,v⟩
   obtain⟨rfl,rfl⟩:=R.1 b;exact⟨u,λl hl=>.inl (d l hl),QB d,x,v⟩
  ·rintro⟨u,b,d,x,v⟩
   exact⟨0,0,u,R.2 ⟨rfl,rfl⟩,RH b d,x,v⟩
 ·intro w l A G p j
  have o:=G l (by simp);have c:=Ai o;have A:=λp j=>A (λm a=>G m (by simp[a])) (p:=p) (j:=j)
  have g:=Nc ht w (F:=CT t) (G0 ht) λm a=>by have:=Ai (G m (by simp[a]));omega
  have e:FV t (CT t) (DD (w++[l]))=WX t (VJ t l (FV t (CT t) (DD w))):=by
   have M:DD (w++[l])=DD w++[lb l]:=by simp[DD,lb]
   rw[M,XK,Lu c.1 (by omega)];rfl
  rw[e,YP ht (Lw ht ⟨c.1,by omega⟩ g)];constructor
  ·rintro⟨p1,Y,h,b,d,x,v⟩
   obtain⟨N,Q,h5,h6,h7⟩:=(Zu ht g ⟨c.1,by omega⟩).1 b;obtain⟨u,i,B,L,K⟩:=(A N Q).1 h5;refine⟨u++l::h,λm a=>?_,?_,EX.2 ⟨Q,L,Y,h7,x⟩,?_⟩
   ·rcases f6.1 a with a|a
    ·exact i m a
    ·rcases lJ.1 a with rfl|a
     ·exact .inr o
     ·exact .inl (d m a)
   ·unfold Bl at *
    rw[mO,B,mI (by simpa using c.2.2)];have:=QB d;unfold Bl at this;rw[this]
   ·rw[KA,<-K,v]
    show _=Dc (fA t.q) (CN t.q ((N:Int).toNat) l) h
    rw[i7,h6]
  ·rintro⟨u,i,B,L,K⟩
   unfold Bl at B;obtain⟨f,u2,rfl,M,e2⟩:=List.filter_eq_append_iff.1 B;obtain⟨b,d,rfl,e3,e4,e5⟩:=List.filter_eq_cons_iff.1 e2;have r:∀m∈b,m∈CR t:=RH (λm a=>i m (by simp[a])) (by unfold Bl;exact ow.2 e3);have J:∀m∈d,m∈CR t:=RH (λm a=>i m (by simp[a])) e5;obtain⟨X,U,c2⟩:=EX.1 L;obtain⟨n,T,k,S,c5⟩:=EX.1 c2
   have hs:Ay t.s=true:=by unfold Bu at ht;simp only[d4]at ht;exact ht.1
   have Z:=AE hs;have H:=DA ht;have hqn:=AS H
   have I:∀m∈f++(b++l::d),0<=m/\m<6:=λm a=>by
    rcases i m a with h|h
    ·have:=DT ht h;omega
    ·have:=Ai h;omega
   have b1:=MT hs ⟨by omega,by omega⟩ U;have V:=MT hs b1 T;have b3:=It hs V.1 V.2 S;have a2:=Ru H (w:=f++b) (q:=0) (λm a=>I m (by rcases f6.1 a with h|h<;>simp[h])) ⟨by omega,by omega⟩;have a3:=Eo H (q:=(Dc (fA t.q) 0 (f++b)).toNat) (by omega) c.1 (show l<6 by omega);refine⟨(CN t.q (Dc (fA t.q) 0 (f++b)).toNat l).toNat,k.toNat,d,(Zu ht g ⟨c.1,by omega⟩).2 ⟨(Dc (fA t.q) 0 (f++b)).toNat,n.toNat,(A _ _).2 ⟨f++b,λm a=>?_,?_,?_,by omega⟩,by omega,?_⟩,J,?_,?_⟩
   ·rcases f6.1 a with a|a
    ·exact i m (by simp[a])
    ·exact .inl (r m a)
   ·have:=QB r
    unfold Bl at *;rw[mO,M,this,mq]
   ·rw[show ((n.toNat:Nat):Int)=n by omega]
    exact EX.2 ⟨X,U,T⟩
   ·rw[show ((n.toNat:Nat):Int)=n by omega,show ((k.toNat:Nat):Int)=k by omega];exact S
   ·rw[show ((k.toNat:Nat):Int)=k by omega];exact c5
   ·rw[show (((CN t.q (Dc (fA t.q) 0 (f++b)).toNat l).toNat:Nat):Int)=CN t.q (Dc (fA t.q) 0 (f++b)).toNat l by omega,K,<-oo,KA];rfl
theorem HA{w:List Int}(v:∀l∈w,l∈Ac t.al):LS t (DD w)=false↔∃u,KG t u/\Bl t.al u <+: w/\Cp t.s u/\C5 t.q u=false:=by
 unfold LS;rw[P6];constructor
 ·rintro⟨k,H,G⟩
  have d:∀l∈w.take k,l∈Ac t.al:=λl o=>v l (ma o)
  have c:=Nc ht (w.take k) (G0 ht) λm f=>by have:=Ai (d m f);omega
  obtain⟨p,j,F,B⟩:=(Vn c).1 G;obtain⟨u,n,g,i,r⟩:=(Wv ht _ d).1 F;exact⟨u,n,by rw[g];exact List.take_prefix _ _,⟨_,i⟩,by unfold C5;rw[<-r];exact B⟩
 ·rintro⟨u,n,g,⟨q,i⟩,r⟩
  refine⟨(Bl t.al u).length,g.length_le,?_⟩;have e:w.take (Bl t.al u).length=Bl t.al u:=(List.prefix_iff_eq_take.1 g).symm;rw[e];have x:∀l∈Bl t.al u,l∈Ac t.al:=λl o=>v l (g.subset o)
  have hs:Ay t.s=true:=by unfold Bu at ht;simp only[d4]at ht;exact ht.1
  have z:=AE hs;have y:=DA ht;have A:=AS y
  have c:=Nc ht (Bl t.al u) (G0 ht) λm f=>by have:=Ai (x m f);omega
  have b:=MT hs (⟨by omega,by omega⟩:(0:Int)<=0/\(0:Int)<t.s.st) i
  have a:=Ru y (w:=u) (q:=0) (λm f=>by
   rcases n m f with h|h
   ·have:=DT ht h;omega
   ·have:=Ai h;omega) ⟨by omega,by omega⟩
  refine(Vn c).2 ⟨(Dc (fA t.q) 0 u).toNat,q.toNat,(Wv ht _ x).2 ⟨u,n,rfl,?_,by omega⟩,?_⟩
  ·rw[show ((q.toNat:Nat):Int)=q by omega];exact i
  ·rw[show (((Dc (fA t.q) 0 u).toNat:Nat):Int)=Dc (fA t.q) 0 u by omega];exact r
end
end Go.Am
namespace Go.Am
open Go Go.Proofs
set_option maxHeartbeats 1000000
set_option maxRecDepth 4000
attribute [local irreducible] A1 Cr Lex Bs Aj Spec
def ig(P:Program)(t it:TypeId):Bool:=match (P.fieldsOf t).toList with
 | [c,b,a]=>decide (c.name≠ "_") && c.type == it && c.offset == 0 && (decide (b.name≠ "_") && b.type == it && b.offset == 1) && (decide (a.name≠ "_") && a.type == it && a.offset == 2)
 | _=>false
theorem Qy {P:Program} {it:TypeId} (c:P.underlying it=some (.int .i64)) {xs ys:Array Value} {a b:Int} {fl:Field} {fs:List Field} {o:Nat} (h:(decide (fl.name≠ "_") && fl.type == it && fl.offset == o)=true) (i:xs[o]?=some (.int .i64 a)) (g:ys[o]?=some (.int .i64 b)) (w:World) :
 (Op.eqFields 9999 xs ys (fl::fs)).run P w=if a=b then (Op.eqFields 9999 xs ys fs).run P w else .ok false w:=by
 simp only[d4,decide_eq_true_eq,beq_iff_eq]at h;obtain⟨⟨l,k⟩,j⟩:=h
 have f:(part it xs o).run P w=.ok (.int .i64 a) w:=by simp[part,isAgg,run_underlying c,i]
 have e:(part it ys o).run P w=.ok (.int .i64 b) w:=by simp[part,isAgg,run_underlying c,g]
 have d:(Op.equalIn 9999 it (.int .i64 a) (.int .i64 b)).run P w=.ok (a == b) w:=run_equalIn_int w 9998 it .i64 .i64 a b c;rw[Op.eqFields,if_pos l,k,j];simp only[lK,f,e,d,lc];by_cases h:a=b
 ·simp[h]
 ·simp[h]
section
variable {TB:BA}{Γ:Ctx}{d:Option Tmp}{ty:TypeId}{pos:String}{af:Array Edge}{g:Option (Nat×Bool)}{f:Env}{σ:Ab}{nx:Nat}
theorem bW:ig Tryz.prog 78 3=true:=by kernel_rfl
theorem aJ(a b:DM)(w:World):(Op.equalIn 10000 78 (.agg #[.int .i64 a.f,.int .i64 a.l,.int .i64 a.t]) (.agg #[.int .i64 b.f,.int .i64 b.l,.int .i64 b.t])).run Tryz.prog w=.ok (decide (a.f=b.f/\a.l=b.l/\a.t=b.t)) w:=by
 have d:Tryz.prog.underlying 3=some (.int .i64):=by kernel_rfl
 have c:=bW;rw[show (10000:Nat)=9999+1 from rfl,run_equalIn_struct w 9999 78 _ _ (by kernel_rfl) (by kernel_rfl)];unfold ig at c;split at c
 ·rename_i x v u i
  rw[i];simp only[d4 (b:=(_ && _)),d4]at c;obtain⟨⟨⟨⟨s,r⟩,q⟩,⟨p,o⟩,n⟩,⟨m,k⟩,j⟩:=c;rw[Qy d (by rw[s,r,q];rfl) rfl rfl,Qy d (by rw[p,o,n];rfl) rfl rfl,Qy d (by rw[m,k,j];rfl) rfl rfl,Op.eqFields];by_cases h:a.f=b.f<;>by_cases g:a.l=b.l<;>by_cases e:a.t=b.t<;>simp[h,g,e]
 ·cases c
theorem dN{V:View}{a b c:Int}{vs:Array Value}(h:C1 V [.d (iD a),.d (iD b),.d (iD c)] vs):vs = #[.int .i64 a,.int .i64 b,.int .i64 c]:=by
 obtain⟨j,g⟩:=h;have hs:vs.size=3:=j;apply Array.ext
 ·simpa using hs
 ·intro i hi f
  have e:vs[i]?=some vs[i]:=lI hi
  match i,f with
  | 0,_=>exact AF.val (g 0 _ _ rfl e)
  | 1,_=>exact AF.val (g 1 _ _ rfl e)
  | 2,_=>exact AF.val (g 2 _ _ rfl e)
def eH(a b:DM):Bool:=decide (a.f=b.f/\a.l=b.l/\a.t=b.t)
theorem Uu{x y:Operand}{yt:TypeId}{a b:DM}(j:ev f x=some (TV a))(i:ev f y=some (TV b)):A1 Tryz.prog TB Γ ⟨d,.binOp .eql 78 x y yt,ty,pos,af,g⟩ f σ nx (eB (eH a b)):=
 AI λV ρ h _=>by
  obtain⟨xs,l,e⟩:=h.get (by simp[Op.operands]) j;obtain⟨ys,k,c⟩:=h.get (by simp[Op.operands]) i;have o:=dN e;have n:=dN c;refine⟨.bool (eH a b),?_,.d (.v rfl)⟩;have m:execOp ρ ⟨d,.binOp .eql 78 x y yt,ty,pos,af,g⟩=(do let v <-(do eqGuard .eql 78 x y (ρ x) (ρ y);binOp .eql 78 (ρ x) (ρ y));pure (.value v)):=rfl
  have hg:Tryz.prog.eqGuardType Tryz.prog.depth 78=false:=by kernel_rfl
  rw[m,l,k,o,n];simp only[lK,run_eqGuard_agg V.w .eql 78 x y _ _ hg,run_eql_struct,aJ,lc,Sem.run_pure];rfl
end
end Go.Am
