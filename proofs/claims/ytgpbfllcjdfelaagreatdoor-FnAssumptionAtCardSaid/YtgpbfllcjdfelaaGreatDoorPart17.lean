/-
  Systems as texts and back: walked: any that are not too big will do.
-/
import Derived.Test.YtgpbfllcjdfelaaGreatDoorPart15
set_option linter.all false
namespace Go.Am
open Go Go.Proofs
set_option maxHeartbeats 1000000
set_option maxRecDepth 4000
attribute [local irreducible] A9 CY Lex BV Ak Spec
variable {TB:BR}
abbrev ny(r:Ej×Bool):E:=.t [(true,(Bg r.1)),(false,[.d (bD r.2)])]
theorem Xv(a:W)(u:a.length<=1000000):Spec Tryz.prog TB 242 [] 0 [eT a] (Es (λ_:Ej×Bool=>True) ny):=by
 refine eR Tryz.func242 rfl (by kernel_rfl) rfl ?_;intro Z b;(repeat first|refine tA rfl ?_|refine aU rfl ?_|apply Aa);apply aB;refine aL (α:={k:Nat // k<=a.length}) [0] [] rfl rfl (λs=>[(2,.o (.ptr 0 3 0 0)),(4,eI .i64 s.1)]) (λs=>[(0,.cells 158 3 [Bg ⟨0,0,0⟩])]) 1 (λs=>a.length-s.1) (⟨0,by omega⟩) b rfl (by (simp[cX,zC,b,cN])) ?_;rintro⟨k,hk⟩;(try dsimp only[cA,cB]);by_cases p:k<a.length
 ·obtain⟨c,r⟩:=get_some (l:=a) (k:=(k:Int).toNat) (by omega)
  have q:=c.toNat_lt;have j:=IG (TB:=TB) a k c r;(repeat first|refine tA rfl ?_|refine s2 rfl λ_ d=>?_|refine aU rfl ?_|apply Aa)
  ((refine aC rfl ?_ ?_<;>rintro⟨⟩);all_goals try(exfalso;(simp only[oZ] at *;omega)))
  apply aK;refine aS (aB ?_)
  (repeat' first|refine tA rfl ?_|(refine s4 rfl ‹_› rfl ?_ ?_;omega)|refine s2 rfl λ_ d=>?_|refine s3 rfl ?_ ?_<;>rintro rfl|refine aU rfl ?_|apply Aa|(refine aC rfl ?_ ?_<;>rintro⟨⟩));all_goals try contradiction
  all_goals first|(exfalso;omega;done)|skip
  ·(repeat first|(refine Af rfl ?_;refine gA rfl ?_;first|refine gS (λ_ _=>ZB rfl rfl (by omega) (by omega)) ?_))
   (refine pW rfl ?_ rfl (by rfl);refine Aj [] rfl rfl (JY (TB:=TB) (a.take (k:Int).toNat) (by simp;omega)) ⟨rfl,by decide,by decide⟩ rfl trivial ?_;rintro n g h ⟨⟨f,t⟩,_,rfl,rfl,rfl⟩ _);(repeat first|(refine sA rfl ?_ ?_;first|exact tI|omega)|(refine Af rfl ?_;refine gA rfl ?_;first|refine gS (λ_ _=>Et rfl rfl (by omega) (by omega)) ?_)|refine aU rfl ?_|apply Aa);(refine pW rfl ?_ rfl (by rfl);refine Aj [] rfl rfl (JY (TB:=TB) (a.drop ((k:Int)+1).toNat) (by simp;omega)) ⟨rfl,by decide,by decide⟩ rfl trivial ?_;rintro n g h ⟨⟨e,m⟩,_,rfl,rfl,rfl⟩ _);(repeat' first|refine tA rfl ?_|refine sP rfl (j) rfl ?_|(refine Af rfl ?_;refine gA rfl ?_;first|refine gS (λ_ _=>AA rfl rfl (by rfl) (by rfl)) ?_)|refine s3 rfl ?_ ?_<;>rintro rfl|refine aU rfl ?_|apply Aa|(refine aC rfl ?_ ?_<;>rintro⟨⟩))
   all_goals first
    | exact aR ⟨_,rfl,[],ny (⟨f,(c.toNat:Int)-97,e⟩,m),[],⟨λi hi=>absurd hi (jp i),lm⟩,rfl,trivial,(⟨f,(c.toNat:Int)-97,e⟩,m),trivial,rfl,rfl,rfl⟩
    | exact aR ⟨_,rfl,[],ny (⟨f,(c.toNat:Int)-97,e⟩,false),[],⟨λi hi=>absurd hi (jp i),lm⟩,rfl,trivial,(⟨f,(c.toNat:Int)-97,e⟩,false),trivial,rfl,rfl,rfl⟩
  all_goals
   apply aK;(repeat first|(refine sA rfl ?_ ?_;first|exact tI|omega)|refine aU rfl ?_|apply Aa);refine⟨⟨k+1,by omega⟩,by dsimp only;(omega),[0],?_⟩;(simp[cX,zC,b,cN]<;>rfl)
 ·(repeat first|refine tA rfl ?_|refine s2 rfl λ_ d=>?_|refine aU rfl ?_|apply Aa)
  ((refine aC rfl ?_ ?_<;>rintro⟨⟩);all_goals try(exfalso;(simp only[oZ] at *;omega)))
  apply aE;(repeat first|refine tA rfl ?_|(refine Af rfl ?_;refine gA rfl ?_;first|refine gS (λ_ _=>AA rfl rfl (by rfl) (by rfl)) ?_)|refine aU rfl ?_|apply Aa);exact aR ⟨_,rfl,[],ny (⟨0,0,0⟩,false),[],⟨λi hi=>absurd hi (jp i),lm⟩,rfl,trivial,(⟨0,0,0⟩,false),trivial,rfl,rfl,rfl⟩
theorem I0(y:Sys)(hb:y.es.length<=100000):Spec Tryz.prog TB 243 [] 0 [Bl y] (Es (λr:W=>r.length<=1000000) eT):=by
 have A:=Ch (TB:=TB) y;refine eR Tryz.func243 rfl (by kernel_rfl) rfl ?_;intro Z d;(repeat first|refine tA rfl ?_|refine s2 rfl λ_ a=>?_|(refine sC rfl (A) ?_;intro _ a)|refine aU rfl ?_|apply Aa);(refine aC rfl ?_ ?_<;>rintro⟨⟩)
 ·(repeat first|refine tA rfl ?_|refine aU rfl ?_|apply Aa)
  exact aR ⟨_,rfl,[],eT [],[],⟨λi hi=>absurd hi (jp i),lm⟩,rfl,trivial,[],qg _,rfl,rfl,rfl⟩
 have h:AW y=true:=by (simp at a;subst a;assumption)
 have K:=AU h;apply aK;(repeat first|refine aU rfl ?_);refine rG ⟨Gm [(2,1),(6,1)],cH [0,1,4,5,2,3,6,7,8]⟩ (by kernel_rfl) ?_;(repeat first|refine tA rfl ?_);(refine pW rfl ?_ rfl (by rfl);refine Aj [] rfl rfl (E4 (TB:=TB) y.al) ⟨rfl,by decide,by decide⟩ rfl trivial ?_;rintro j b c ⟨u,x,rfl,rfl,rfl⟩ _);(repeat first|(refine sA rfl ?_ ?_;simp only[oZ] at *;omega));(refine pW rfl ?_ rfl (by rfl);refine Aj [] rfl rfl (H0 (TB:=TB) y.st (by omega)) ⟨rfl,by decide,by decide⟩ rfl trivial ?_;rintro j b c ⟨q,v,rfl,rfl,rfl⟩ _);(repeat first|(refine sA rfl ?_ ?_;first|exact tI|simp only[oZ] at *;omega)|refine aU rfl ?_|apply Aa);apply aB;refine aL (α:={z:Nat×W // z.1<=y.es.length/\z.2.length<=10+9*z.1}) [1] [] rfl rfl (λs=>[(3,eT s.1.2),(4,eI .i64 s.1.1)]) (λs=>[]) 0 (λs=>y.es.length-s.1.1) (⟨⟨0,u++[32]++q⟩,by simp;omega⟩) d rfl (by (simp[cX,zC,d])) ?_;rintro⟨⟨k,w⟩,hk,o⟩;(try dsimp only[cA,cB]);have hk:k<=y.es.length:=hk;have o:w.length<=10+9*k:=o;by_cases m:k<y.es.length
 ·obtain⟨e,p⟩:=get_some m
  have n:=get_map (g:=Dr) p
  have F:(y.es.map Dr)[((k:Nat):Int).toNat]?=some (Dr e):=by rw[f9];exact n
  have hb:=Dm h (co p);unfold DL at hb;simp only[d4,decide_eq_true_eq]at hb;(repeat first|refine sN rfl ?_|refine tA rfl ?_|refine s2 rfl λ_ a=>?_|refine aU rfl ?_|apply Aa)
  ((refine aC rfl ?_ ?_<;>rintro⟨⟩);all_goals try(exfalso;(simp only[oZ] at *;omega)))
  apply aK;refine aS (aB ?_);(repeat first|refine tA rfl ?_|(refine s4 rfl ‹_› rfl ?_ ?_;omega)|refine aU rfl ?_|apply Aa);refine rG ⟨Gm [(3,10),(7,10),(11,10),(4,1001),(12,1001)],cH [0,1,2,3,6,7,10,11,4,5,8,9,12,13,14]⟩ (by kernel_rfl) ?_;(repeat first|(refine sA rfl ?_ ?_;first|exact tI|simp only[oZ] at *;omega));(refine Af rfl ?_;refine Dd ?_ rfl ⟨rfl,rfl⟩;refine Aj [] rfl rfl (H0 (TB:=TB) e.f (by omega)) ⟨rfl,by decide,by decide⟩ rfl trivial ?_;rintro j b c ⟨J,H,rfl,rfl,rfl⟩ _;refine⟨ER 0 rfl rfl,?_⟩);(repeat first|(refine sA rfl ?_ ?_;simp only[oZ] at *;omega)|refine sP rfl (Ia e.l (by omega) (by omega)) rfl ?_);(refine Af rfl ?_;refine Dd ?_ rfl ⟨rfl,rfl⟩;refine Aj [] rfl rfl (H0 (TB:=TB) e.t (by omega)) ⟨rfl,by decide,by decide⟩ rfl trivial ?_;rintro j b c ⟨I,G,rfl,rfl,rfl⟩ _;refine⟨ER 0 rfl rfl,?_⟩);(repeat first|(refine sA rfl ?_ ?_;first|exact tI|omega|simp only[oZ] at *;omega)|refine aU rfl ?_|apply Aa);refine⟨⟨⟨k+1,w++[32]++J++[UInt8.ofNat (97+e.l.toNat)]++I⟩,by dsimp only;omega,by simp;omega⟩,by dsimp only;(omega),[],?_⟩;(simp[cX,zC,d,cN]<;>rfl)
 ·have B:k=y.es.length:=by omega
  (repeat first|refine sN rfl ?_|refine tA rfl ?_|refine s2 rfl λ_ a=>?_|refine aU rfl ?_|apply Aa)
  ((refine aC rfl ?_ ?_<;>rintro⟨⟩);all_goals try(exfalso;(simp only[oZ] at *;omega)))
  apply aE;(repeat first|refine tA rfl ?_|refine aU rfl ?_|apply Aa);exact aR ⟨_,rfl,[],eT w,[],⟨λi hi=>absurd hi (jp i),lm⟩,rfl,trivial,w,by show w.length<=_;omega,rfl,rfl,rfl⟩
abbrev jt(r:Sys×Bool):E:=.t [(true,[.d (iD r.1.al),.d (iD r.1.st),.d (Ez r.1.es)]),(false,[.d (bD r.2)])]
def N5(al n:Int):List Ej->Ab
 | []=>[(1,.cells 25 3 [[.d (iD al),.d (iD n),.d (.v (.slice none 0 0))]])]
 | e::l=>[(1,.cells 25 3 [[.d (iD al),.d (iD n),.arr 2 3 0 (l.length+1)]]),(2,.cells 158 3 ((e::l).map Bg))]
theorem GO(f:W)(Y:f.length<=10000):Spec Tryz.prog TB 183 [] 0 [eT f] (Es (λr:Sys×Bool=>r.1.es.length<=f.length+1) jt):=by
  refine eR Tryz.func183 rfl (by kernel_rfl) rfl ?_;intro Z e;(repeat first|refine tA rfl ?_|refine aU rfl ?_|apply Aa);(refine pW rfl ?_ rfl (by rfl);refine Aj [] rfl rfl (Ns (TB:=TB) f (by omega) 32) ⟨rfl,by decide,by decide⟩ rfl trivial ?_;rintro m b c ⟨ps,⟨R,Q,q⟩,rfl,rfl,rfl⟩ _);(repeat first|refine sN rfl ?_|refine tA rfl ?_|refine s2 rfl λ_ a=>?_|refine aU rfl ?_|apply Aa);by_cases S:ps.length<2
  · ((refine aC rfl ?_ ?_<;>rintro⟨⟩);all_goals try(exfalso;(simp only[oZ] at *;omega)))
    (repeat first|refine tA rfl ?_|(refine Af rfl ?_;refine gA rfl ?_;first|refine gS (λ_ _=>AA rfl rfl (by rfl) (by rfl)) ?_)|refine aU rfl ?_|apply Aa);exact aR ⟨_,rfl,[],jt (⟨0,0,[]⟩,false),[],⟨λi hi=>absurd hi (jp i),lm⟩,rfl,trivial,(⟨0,0,[]⟩,false),qg _,rfl,rfl,rfl⟩
  ((refine aC rfl ?_ ?_<;>rintro⟨⟩);all_goals try(exfalso;(simp only[oZ] at *;omega)))
  apply aK;obtain⟨K,X⟩:=get_some (l:=ps) (k:=(0:Int).toNat) (by simp;omega);have V:=get_map (g:=CR) X;obtain⟨y,F⟩:=get_some (l:=ps) (k:=(1:Int).toNat) (by simp;omega);have U:=get_map (g:=CR) F;have B:=q y (co F);(repeat first|refine tA rfl ?_|(refine s4 rfl ‹_› rfl ?_ ?_;omega)|refine aU rfl ?_);(refine pW rfl ?_ rfl (by rfl);refine Aj [] rfl rfl (HP (TB:=TB) K) ⟨rfl,by decide,by decide⟩ rfl trivial ?_;rintro m b c ⟨⟨n,ok⟩,_,rfl,rfl,rfl⟩ _);(repeat first|refine tA rfl ?_|(refine s4 rfl ‹_› rfl ?_ ?_;omega)|refine aU rfl ?_|apply Aa);(refine pW rfl ?_ rfl (by rfl);refine Aj [] rfl rfl (JY (TB:=TB) y (by omega)) ⟨rfl,by decide,by decide⟩ rfl trivial ?_;rintro m b c ⟨⟨st,M⟩,_,rfl,rfl,rfl⟩ _);(repeat first|refine tA rfl ?_|refine s2 rfl λ_ a=>?_|refine s3 rfl ?_ ?_<;>rintro rfl|refine aU rfl ?_|apply Aa)
  (repeat' first|refine tA rfl ?_|refine s2 rfl λ_ a=>?_|refine aU rfl ?_|apply Aa|(refine aC rfl ?_ ?_<;>rintro⟨⟩));all_goals try contradiction
  all_goals first
    | ((repeat first|refine tA rfl ?_|(refine Af rfl ?_;refine gA rfl ?_;first|refine gS (λ_ _=>AA rfl rfl (by rfl) (by rfl)) ?_)|apply Aa)
       exact aR ⟨_,rfl,[],jt (⟨0,0,[]⟩,false),[],⟨λi hi=>absurd hi (jp i),lm⟩,rfl,trivial,(⟨0,0,[]⟩,false),qg _,rfl,rfl,rfl⟩
       done)
    | skip
  apply aK;(repeat first|refine tA rfl ?_|(refine Af rfl ?_;refine gA rfl ?_;first|refine gS (λ_ _=>P6 rfl rfl (by rfl) (by rfl)) ?_)|refine aU rfl ?_|apply Aa);apply aB;refine aL (α:={z:Nat×List Ej // (2<=z.1/\z.1<=ps.length)/\z.2.length+2=z.1}) [0,4] [] rfl rfl (λs=>[(2,.o (.ptr 0 3 0 0)),(9,.o (.ptr 1 3 0 0)),(10,eI .i64 s.1.1)]) (λs=>((0,.cells 25 3 [[.d (iD 0),.d (iD 0),.d (.l [])]])::N5 n st s.1.2)) 3 (λs=>ps.length-s.1.1) (⟨⟨2,[]⟩,by simp;omega⟩) e rfl (by (simp[cX,zC,e,N5,cN])) ?_;rintro⟨⟨k,l⟩,hk,u⟩;(try dsimp only[cA,cB]);have hk:2<=k/\k<=ps.length:=hk;have u:l.length+2=k:=u;(repeat first|refine sN rfl ?_|refine tA rfl ?_|refine s2 rfl λ_ a=>?_|refine aU rfl ?_|apply Aa)
  ((refine aC rfl ?_ ?_<;>rintro⟨⟩);all_goals try (simp at a;done))
  · have x:k<ps.length:=by (simp only[oZ] at *;omega)
    obtain⟨w,A⟩:=get_some (l:=ps) (k:=k) x;have P:=get_map (g:=CR) A;have N:=q w (co A);apply aK;refine aS (aB ?_);(repeat first|refine tA rfl ?_|(refine s4 rfl ‹_› rfl ?_ ?_;omega)|refine aU rfl ?_);(refine pW rfl ?_ rfl (by rfl);refine Aj [] rfl rfl (Xv (TB:=TB) w (by omega)) ⟨rfl,by decide,by decide⟩ rfl trivial ?_;rintro m b c ⟨⟨⟨I,H,G⟩,L⟩,_,rfl,rfl,rfl⟩ _);(repeat first|refine tA rfl ?_|refine s2 rfl λ_ a=>?_|refine aU rfl ?_|apply Aa);(refine aC rfl ?_ ?_<;>rintro⟨⟩)
    · (repeat first|refine tA rfl ?_|(refine Af rfl ?_;refine gA rfl ?_;first|refine gS (λ_ _=>AA rfl rfl (by rfl) (by rfl)) ?_)|refine aU rfl ?_|apply Aa)
      exact aR ⟨_,rfl,[],jt (⟨0,0,[]⟩,false),[],⟨λi hi=>absurd hi (jp i),lm⟩,rfl,trivial,(⟨0,0,[]⟩,false),qg _,rfl,rfl,rfl⟩
    apply aK
    cases l with
    | nil=>
      (repeat first|refine tA rfl ?_|refine aU rfl ?_);(refine pW rfl ?_ rfl (by rfl);refine Zn 61 rfl ?_;refine ET rfl rfl rfl (by intro r p;simp at p;subst p;rfl) (by rfl) (am rfl) (by simp) (λh=>?_) (λ_=>?_))
      · exact absurd h (by simp)
      (repeat first|(refine sA rfl ?_ ?_;first|exact tI|omega)|refine aU rfl ?_|apply Aa);refine⟨⟨⟨k+1,[⟨I,H,G⟩]⟩,⟨by dsimp only;omega,by dsimp only;omega⟩,by simp at u;simp;omega⟩,by dsimp only;(omega),[0,1,4],?_⟩;(simp[cX,zC,e,cN,N5,Ae,eC]<;>rfl)
    | cons j l=>
      (repeat first|refine tA rfl ?_|refine aU rfl ?_);(refine pW rfl ?_ rfl (by rfl);refine Au rfl rfl rfl (by first|(simp;done)|(simp;(omega))) rfl (by intro r p;simp at p;subst p;rfl) (by rfl) (am rfl) (by simp at u |-;omega) ?_);(repeat first|(refine sA rfl ?_ ?_;first|exact tI|omega)|refine aU rfl ?_|apply Aa);refine⟨⟨⟨k+1,j::(l++[⟨I,H,G⟩])⟩,⟨by dsimp only;omega,by dsimp only;omega⟩,by simp at u |-;omega⟩,by dsimp only;(omega),[0,1,4],?_⟩;(simp[cX,zC,e,cN,N5,Ae,eC]<;>rfl)
  apply aE
  have T:k=ps.length:=by (simp only[oZ] at *;omega)
  have t:l.length<=f.length+1:=by omega
  cases l with
  | nil=>
    refine Ak.AB [1] [(0,eT f),(2,.o (.ptr 0 3 0 0)),(9,.o (.ip (AI ⟨n,st,[]⟩)))] ⟨⟨_,rfl,.inl rfl⟩,⟨_,rfl,.inl rfl⟩,⟨_,rfl,.inr (.o (.box rfl (.cons .d (.cons .d (.cons .nl .nil)))))⟩,trivial⟩ ?_;(repeat first|refine tA rfl ?_|refine aU rfl ?_);(refine pW rfl ?_ rfl (by rfl);refine Aj [] rfl rfl (I0 (TB:=TB) ⟨n,st,[]⟩ (by simp)) ⟨rfl,by decide,by decide⟩ rfl trivial ?_;rintro m b c ⟨J,v,rfl,rfl,rfl⟩ _);(repeat first|refine tA rfl ?_|refine s2 rfl λ_ a=>?_|apply Aa);(refine aC rfl ?_ ?_<;>rintro⟨⟩)
    · (repeat first|refine tA rfl ?_|(refine Af rfl ?_;refine gA rfl ?_;first|refine gS (λ_ _=>AA rfl rfl (by rfl) (by rfl)) ?_)|refine aU rfl ?_|apply Aa)
      exact aR ⟨_,rfl,[],jt (⟨0,0,[]⟩,false),[],⟨λi hi=>absurd hi (jp i),lm⟩,rfl,trivial,(⟨0,0,[]⟩,false),qg _,rfl,rfl,rfl⟩
    apply aK;(repeat first|refine tA rfl ?_|refine aU rfl ?_|apply Aa);exact aR ⟨_,rfl,[],jt (⟨n,st,[]⟩,true),[],⟨λi hi=>absurd hi (jp i),lm⟩,rfl,trivial,(⟨n,st,[]⟩,true),qg _,rfl,rfl,rfl⟩
  | cons j l=>
    refine Ak.AB [1,2] [(0,eT f),(2,.o (.ptr 0 3 0 0)),(9,.o (.ip (AI ⟨n,st,j::l⟩)))] ⟨⟨_,rfl,.inl rfl⟩,⟨_,rfl,.inl rfl⟩,⟨_,rfl,.inr (.o (.box rfl (.cons .d (.cons .d (.cons (.full rfl (by simp[d5]) (by simp)) .nil)))))⟩,trivial⟩ ?_;(repeat first|refine tA rfl ?_|refine aU rfl ?_);(refine pW rfl ?_ rfl (by rfl);refine Aj [] rfl rfl (I0 (TB:=TB) ⟨n,st,j::l⟩ (by simp at t |-;omega)) ⟨rfl,by decide,by decide⟩ rfl trivial ?_;rintro m b c ⟨J,v,rfl,rfl,rfl⟩ _);(repeat first|refine tA rfl ?_|refine s2 rfl λ_ a=>?_|apply Aa);(refine aC rfl ?_ ?_<;>rintro⟨⟩)
    · (repeat first|refine tA rfl ?_|(refine Af rfl ?_;refine gA rfl ?_;first|refine gS (λ_ _=>AA rfl rfl (by rfl) (by rfl)) ?_)|refine aU rfl ?_|apply Aa)
      exact aR ⟨_,rfl,[],jt (⟨0,0,[]⟩,false),[],⟨λi hi=>absurd hi (jp i),lm⟩,rfl,trivial,(⟨0,0,[]⟩,false),qg _,rfl,rfl,rfl⟩
    apply aK;(repeat first|refine tA rfl ?_|refine aU rfl ?_|apply Aa);exact aR ⟨_,rfl,[],jt (⟨n,st,j::l⟩,true),[],⟨λi hi=>absurd hi (jp i),lm⟩,rfl,trivial,(⟨n,st,j::l⟩,true),t,rfl,rfl,rfl⟩
theorem TQ{n x v:Nat}{G:PS}:((ND n G).map AE).set x (AE (v:Int))=(ND n (Yv G x v)).map AE:=by
 apply qy;intro i;rw[ti];by_cases hi:i<n
 ·have a:∀H:PS,((ND n H).map AE)[i]?=some (AE (H i:Int)):=λH=>by simp[hi]
  rw[a,a];unfold Yv;by_cases e:x=i
  ·subst e;rw[if_pos rfl,if_pos (by simpa using hi),if_pos rfl]
  ·rw[if_neg e,if_neg (λh=>e h.symm)]
 ·have a:∀H:PS,((ND n H).map AE)[i]?=none:=λH=>ol (by simp;omega)
  rw[a,a];by_cases e:x=i
  ·subst e;rw[if_pos rfl,if_neg (by simpa using hi)]
  ·rw[if_neg e]
theorem TP{n x:Nat}{G:PS}(h:x<n):((ND n G).map AE)[0+((x:Nat):Int).toNat]?=some (AE (G x:Int)):=by rw[ms,f9];simp[h]
theorem Us.start{t:CO}{F0 F:PS}(a:C7 t F)(c:∀p j,(F0 p).testBit j=true->(F p).testBit j=true)(b:∀p j,(F p).testBit j=true->QP t F0 p j):Us t F0 F 0 0 F false:=
 ⟨a,c,b,λ_=>i9 _,λh=>(by cases h),λ_=>⟨rfl,λp _ l _ h=>by simp at h⟩⟩
theorem PM{t:CO}(ht:Bi t=true){F0:PS}(K:C7 t F0):Spec Tryz.prog TB 248 [(0,.cells 3 1 ((ND t.q.nx.length F0).map AE))] 1 [QY t,.o (.arr 0 1 0 t.q.nx.length)] (λx σ nx=>x=.o (.arr 0 1 0 t.q.nx.length)/\σ=[(0,.cells 3 1 ((ND t.q.nx.length (Tf t F0)).map AE))]/\nx=1):=by
 have P:AW t.s=true:=by unfold Bi at ht;simp only[d4]at ht;exact ht.1
 have A:Bb t.al=true:=by unfold Bi at ht;simp only[d4]at ht;exact ht.2.2
 have y:=AU P;have g:=CB ht;have hah:=AP g;have H:=iY y.1 A;have I:=y.1;unfold Bb at I;simp only[decide_eq_true_eq]at I
 have R:Pure Tryz.prog TB 68 [eI .i64 (t.s.al-Gn .i64 t.s.al t.al)] (Al (Cy t)):=by
  have:=Cm (TB:=TB) (t.s.al-Gn .i64 t.s.al t.al);rw[H.1,JB y.1 A]at this;rw[H.1];exact this
 have hll:(Cy t).length<=6:=by
  unfold Cy;have V:(Ac t.s.al).length<=6:=AH _ _;exact lc (qY _ _) V
 refine eR Tryz.func248 rfl (by kernel_rfl) rfl ?_;intro Z c;(repeat first|(refine sA rfl ?_ ?_;first|exact tI|omega)|refine sP rfl (R) rfl ?_|refine aU rfl ?_|apply Aa);apply aB;refine aL (α:={s:PS×Bool // C7 t s.1/\(∀p j,(F0 p).testBit j=true->(s.1 p).testBit j=true)/\(∀p j,(s.1 p).testBit j=true->QP t F0 p j)/\(s.2=false->s.1=Tf t F0)}) [1,2,5] [] rfl rfl (λs=>[(6,eB s.1.2)]) (λs=>[(0,.cells 3 1 ((ND t.q.nx.length s.1.1).map AE))]) 1 (λs=>(if s.1.2 then OC s.1.1+1 else 0)) (⟨⟨F0,true⟩,K,λ_ _ h=>h,λ_ _ h=>.base h,λh=>by cases h⟩) c rfl (by (simp[cX,zC,c])) ?_;rintro⟨⟨F,b⟩,U,V,h2,h3⟩;(try dsimp only[cA,cB]);have U:C7 t F:=U
 cases b with
 | false=>
  obtain rfl:F=Tf t F0:=h3 rfl;(repeat first|refine tA rfl ?_|refine aU rfl ?_|apply Aa);(refine aC rfl ?_ ?_<;>rintro⟨⟩);apply aE;(repeat first|refine tA rfl ?_|refine aU rfl ?_|apply Aa);refine aR ⟨_,rfl,[0],.o (.arr 0 1 0 t.q.nx.length),_,⟨by intro i hi;match i with|0=>rfl,by decide⟩,rfl,?_,rfl,rfl,rfl⟩;(simp[cX,zC,c])
 | true =>
  (repeat first|refine tA rfl ?_|refine aU rfl ?_|apply Aa);(refine aC rfl ?_ ?_<;>rintro⟨⟩);apply aK;apply aB;(repeat first|refine tA rfl ?_|refine aU rfl ?_|apply Aa);apply aB;refine aL (α:={s:Nat×PS×Bool // s.1<=t.q.nx.length/\Us t F0 F s.1 0 s.2.1 s.2.2}) [1,2,5] [] rfl rfl (λs=>[(6,eB s.1.2.2),(7,eI .i64 s.1.1)]) (λs=>[(0,.cells 3 1 ((ND t.q.nx.length s.1.2.1).map AE))]) 1 (λs=>t.q.nx.length-s.1.1) (⟨⟨0,F,false⟩,by simp,.start U V h2⟩) c rfl (by (simp[cX,zC,c])) ?_;rintro⟨⟨i,G,b⟩,hi,w⟩;(try dsimp only[cA,cB]);have hi:i<=t.q.nx.length:=hi;have w:Us t F0 F i 0 G b:=w;by_cases u:i<t.q.nx.length
  ·(repeat first|refine tA rfl ?_|refine s2 rfl λ_ d=>?_|refine aU rfl ?_|apply Aa)
   ((refine aC rfl ?_ ?_<;>rintro⟨⟩);all_goals try(exfalso;(simp only[oZ] at *;omega)))
   apply aK;refine aS (aB ?_);(repeat first|refine tA rfl ?_|refine aU rfl ?_|apply Aa);apply aB;refine aL (α:={s:Nat×PS×Bool // s.1<=(Cy t).length/\Us t F0 F i s.1 s.2.1 s.2.2}) [1,2,5,7] [] rfl rfl (λs=>[(6,eB s.1.2.2),(8,eI .i64 s.1.1)]) (λs=>[(0,.cells 3 1 ((ND t.q.nx.length s.1.2.1).map AE))]) 1 (λs=>(Cy t).length-s.1.1) (⟨⟨0,G,b⟩,by simp,w⟩) c rfl (by (simp[cX,zC,c])) ?_;rintro⟨⟨k,G',b'⟩,hk,e⟩;(try dsimp only[cA,cB]);have hk:k<=(Cy t).length:=hk;have e:Us t F0 F i k G' b':=e;clear w;by_cases S:k<(Cy t).length
   ·obtain⟨l,r⟩:=get_some S
    have f:=DV ht (co r)
    have hl':((Cy t).map Bw)[((k:Nat):Int).toNat]?=some (Bw l):=by rw[f9];simp[r]
    have J:=J0 (TB:=TB) t.q g i u l f.1 f.2.1;have T:=Dz g u f.1 f.2.1
    obtain⟨x,L⟩:∃x:Nat,BS t.q i l=x:=⟨(BS t.q i l).toNat,by omega⟩
    rw[L]at J T;have M:=Sc (TB:=TB) P l (e.ok.lt i)
    have Y:Cu t.s.es l (G' i)<65536:=by
     have:=Vu P (l:=l) (m:=G' i) (k:=t.s.es.length);rwa[io]at this
    have r1:=TP (n:=t.q.nx.length) (G:=G') (x:=x) (by omega);have r2:=TP (n:=t.q.nx.length) (G:=G') (x:=i) u;have X:=e.ok.lt x;have z:=OP (a:=G' x) (b:=Cu t.s.es l (G' i)) (by omega) (by omega);have B:=TQ (n:=t.q.nx.length) (x:=x) (v:=G' x ||| Cu t.s.es l (G' i)) (G:=G');(repeat first|refine sN rfl ?_|refine tA rfl ?_|refine s2 rfl λ_ d=>?_|refine aU rfl ?_|apply Aa)
    ((refine aC rfl ?_ ?_<;>rintro⟨⟩);all_goals try(exfalso;(simp only[oZ] at *;omega)))
    apply aK;refine aS (aB ?_);(repeat first|refine aU rfl ?_);refine rG (Gk []) (by kernel_rfl) ?_;(repeat first|refine tA rfl ?_|(refine s4 rfl ‹_› rfl ?_ ?_;omega)|refine sP rfl (J) rfl ?_|refine aU rfl ?_|apply Aa);refine rG (Gk []) (by kernel_rfl) ?_;(repeat first|((first|refine sA rfl ?_ ?_|refine s4 rfl ‹_› rfl ?_ ?_);first|exact tI|omega)|refine s2 rfl λ_ d=>?_|refine sP rfl (M) rfl ?_|refine aU rfl ?_|apply Aa);(refine aC rfl ?_ ?_<;>rintro⟨⟩)
    ·have Q:G' x ||| Cu t.s.es l (G' i)≠G' x:=by
      rw[z]at d;simp only[decide_eq_true_eq]at d;omega
     (repeat first|(refine sA rfl ?_ ?_;first|exact tI|omega)|refine t4 rfl ‹_› rfl ?_|refine aU rfl ?_|apply Aa);have N:=e.Qv ht u r L Q;generalize Yv G' x (G' x ||| Cu t.s.es l (G' i))=G2 at *;refine⟨⟨⟨k+1,G2,true⟩,by omega,N⟩,by dsimp only;(omega),[0],?_⟩
     simp[cX,zC,c,z];simpa[d5]using B
    ·have he:G' x ||| Cu t.s.es l (G' i)=G' x:=by
      rw[z]at d;simp only[decide_eq_false_iff_not]at d;omega
     apply aK;(repeat first|(refine sA rfl ?_ ?_;first|exact tI|omega)|refine aU rfl ?_|apply Aa);refine⟨⟨⟨k+1,G',b'⟩,by omega,e.m9 ht r L he⟩,by dsimp only;(omega),[0],?_⟩;simp[cX,zC,c]
   ·obtain rfl:k=(Cy t).length:=by omega
    (repeat first|refine sN rfl ?_|refine tA rfl ?_|refine s2 rfl λ_ d=>?_|refine aU rfl ?_|apply Aa)
    ((refine aC rfl ?_ ?_<;>rintro⟨⟩);all_goals try(exfalso;(simp only[oZ] at *;omega)))
    apply aE;(repeat first|(refine sA rfl ?_ ?_;first|exact tI|omega)|refine aU rfl ?_|apply Aa);refine⟨⟨⟨i+1,G',b'⟩,by omega,e.row⟩,by dsimp only;(omega),[0],?_⟩;simp[cX,zC,c]
  ·obtain rfl:i=t.q.nx.length:=by omega
   (repeat first|refine tA rfl ?_|refine s2 rfl λ_ d=>?_|refine aU rfl ?_|apply Aa)
   ((refine aC rfl ?_ ?_<;>rintro⟨⟩);all_goals try(exfalso;(simp only[oZ] at *;omega)))
   apply aE;refine⟨⟨⟨G,b⟩,w.ok,w.lo,w.hi,λhb=>by have hb:b=false:=hb;subst hb;exact w.done ht K⟩,by cases b<;>simp_all[w.yes],[0],?_⟩;simp[cX,zC,c]
theorem UI{A:W->Bool}{ls:List UInt8}{m:Nat}{u:A3}{w:W}{R:Option A3}(b:R=Bv A ls (m+1) u)(a:Bk A ls u=some w)(c:u.rows.length<12):R=Bv A ls m ⟨u.rows++[w],u.cols⟩:=by
 rw[b]
 conv=>lhs;unfold Bv
 rw[a];dsimp only;rw[if_neg (by omega)]
theorem Jr{t:Ex}{al:Int}{A:W->Bool}(hT:KK Tryz.prog TB 67 154 t al A)(tab:A3)(hz:WJ tab) :
 Pure Tryz.prog TB 43 [EY t,DU tab] (I7 (if A4 A al tab then Bv A (A2 al) 13 tab else none)):=by
 have N:=FK hT tab hz;by_cases v:A4 A al tab=true
 ·rw [if_pos v]
  rw[v]at N;have g:cU al tab:=(Ep v).1;have H:=g.r1;have L:=g.c1;have T:=g.rl;have Y:=g.cl;refine eG Tryz.func43 rfl (by kernel_rfl) rfl ?_;intro Z e;(repeat first|refine tA rfl ?_|refine s2 rfl λ_ i=>?_|refine sP rfl (N) rfl ?_|refine aU rfl ?_|apply Aa)
  ((refine aC rfl ?_ ?_<;>rintro⟨⟩);all_goals try (simp at i;done))
  apply aK;(repeat first|refine aU rfl ?_);refine R.Rz [(0,2),(1,2),(2,2),(4,2),(5,2),(6,2),(9,3),(3,1),(7,1),(8,2),(10,5)] mixed (by kernel_rfl) rfl (by kernel_rfl) ?_;(repeat ((refine R.Af rfl ?_;first|(refine R.yQ (md:=false) rfl rfl rfl ?_ ?_;exact tI)|refine R.yP rfl rfl rfl rfl ?_|refine R.CG (λ_ _ _=>TU (by rfl) (by rfl)) rfl rfl ?_ )));(refine R.Af rfl ?_;refine R.Kx (λ_=>?_) rfl rfl;refine ET rfl rfl rfl (by intro r k;simp at k;obtain⟨_,_,rfl⟩:=k;rfl) (by rfl) (am rfl) (by simp;omega) (λh=>?_) (λ_=>?_))
  ·exfalso;simp at h;rw[h]at H;simp at H
  (refine R.Af rfl ?_;refine R.Kx (λ_=>?_) rfl rfl;refine ET rfl rfl rfl (by intro r k;simp at k;obtain⟨_,_,rfl⟩:=k;rfl) (by rfl) (am rfl) (by simp;omega) (λh=>?_) (λ_=>?_))
  ·exfalso;simp at h;rw[h]at L;simp at L
  (repeat ((refine R.Af rfl ?_;first|refine R.yA rfl rfl rfl rfl ?_|refine R.CG (λ_ _ _=>AA rfl rfl (by rfl) (by rfl)) rfl rfl ?_ )));refine R.Rt ?_;apply aS;refine Ak.Az [2] [] rfl rfl [(4,.o (.ptr 0 2 0 0)),(6,.o (.ptr 3 2 0 0))] [(0,.cells 47 2 [[.d (.l []),.d (.l [])]]),(1,.cells 9 1 (tab.rows.map En)),(2,.cells 9 1 (tab.cols.map En)),(3,.cells 47 2 [[.arr 1 1 0 tab.rows.length,.arr 2 1 0 tab.cols.length]])] [0,1,2,3] (rl e rfl) (by (simp[cX,zC,e])) ?_;(try dsimp only[cA,cB]);have s:=KZ hT tab hz
  have G:∀l:List W,((l.map En).drop 0).take l.length=(l.map CR).map (λr=>r.map C.d):=λl=>by rw[qm,ge (by simp)];simp[d5]
  have K:∀u:A3,jF [(0,.cells 47 2 [[.d (.l []),.d (.l [])]]),(1,.cells 9 1 (u.rows.map En)),(2,.cells 9 1 (u.cols.map En)),(3,.cells 47 2 [[.arr 1 1 0 u.rows.length,.arr 2 1 0 u.cols.length]])] [EY t,.a [.arr 1 1 0 u.rows.length,.arr 2 1 0 u.cols.length]] [EY t,DU u]:=λu=>
   .cons (.cons (.pure rfl) (.cons (.pure rfl) (.cons (.pure rfl) (.cons (.pure rfl) (.cons (.pure rfl) (.cons (.pure rfl) (.cons (.pure rfl) (.cons (.pure rfl) (.cons (.pure rfl) (.cons (.pure rfl) (.cons (.pure rfl) .nil))))))))))) (.cons (.cons (.arr rfl (by simp) (G _)) (.cons (.arr rfl (by simp) (G _)) .nil)) .nil)
  have I:∀x:A3,aD (Bk A (A2 al) x)=.t [(false,[.d (tD ((Bk A (A2 al) x).getD []))]),(false,[.d (bD (Bk A (A2 al) x).isSome)])]:=λx=>by cases Bk A (A2 al) x<;>rfl
  rw[I]at s;(repeat first|refine tA rfl ?_|(refine Af rfl ?_;refine gA rfl ?_;first|refine gQ (IQ rfl rfl ((K tab)) (s) rfl) rfl ?_)|refine aU rfl ?_|apply Aa)
  obtain⟨R,hR⟩:∃R,R=Bv A (A2 al) 13 tab:=⟨_,rfl⟩
  rw[<-hR];apply aB;refine aL (α:={p:Nat×A3 // p.1<=13/\13<=p.1+p.2.rows.length/\p.2.rows.length<=12/\p.2.cols.length<=20/\(∀w∈p.2.rows,w.length<=50000+p.2.rows.length)/\(∀w∈p.2.cols,w.length<=4000)/\R=Bv A (A2 al) p.1 p.2}) [2,4,6] [0] rfl rfl (λ⟨⟨m,u⟩,M,q,n,j,b,c,z⟩=>[(7,eT ((Bk A (A2 al) u).getD [])),(8,eB (Bk A (A2 al) u).isSome)]) (λ⟨⟨m,u⟩,M,q,n,j,b,c,z⟩=>[(1,.cells 9 1 (u.rows.map En)),(2,.cells 9 1 (u.cols.map En)),(3,.cells 47 2 [[.arr 1 1 0 u.rows.length,.arr 2 1 0 u.cols.length]])]) 4 (λ⟨⟨m,u⟩,M,q,n,j,b,c,z⟩=>m) (⟨(13,tab),by simp,by simp,T,Y,λw F=>by have:=(g.rw w F).1;show w.length<=50000+tab.rows.length;omega,λw F=>(g.cw w F).1,hR⟩) e rfl (by (simp[cX,zC,e])) ?_;rintro⟨⟨m,u⟩,M,q,n,j,b,c,z⟩;(try dsimp only[cA,cB]);dsimp only at M q n j b c z
  have Q:Bk A (A2 al) u=none\/∃w,Bk A (A2 al) u=some w:=by cases Bk A (A2 al) u<;>simp
  rcases Q with y|⟨w,y⟩
  ·rw [y]
   have V:R=some u:=by
    rw[z]
    obtain⟨m',rfl⟩:∃m',m=m'+1:=⟨m-1,by omega⟩
    simp[Bv,y]
   (repeat first|refine tA rfl ?_|refine aU rfl ?_|apply Aa)
   ((refine aC rfl ?_ ?_<;>rintro⟨⟩);all_goals try (simp at i;done))
   apply aE;(repeat first|refine tA rfl ?_|refine aU rfl ?_|apply Aa);refine Ak.settle [(4,.o (.ip [BX u.rows,BX u.cols])),(5,eB true)] ⟨⟨_,rfl,.o (.box rfl (.cons (.full rfl (by simp[d5]) (by simp)) (.cons (.full rfl (by simp[d5]) (by simp)) .nil)))⟩,⟨_,rfl,.o .d⟩,trivial⟩ ?_;refine aR ⟨_,rfl,?_⟩;rw[V];rfl
  ·rw [y]
   obtain⟨m',rfl⟩:∃m',m=m'+1:=⟨m-1,by omega⟩
   obtain⟨⟨r,k,l,hl,F⟩,_⟩:=IN y
   have B:w.length<=50000+(u.rows++[w]).length:=by
    have:=b r k;rw[F];simp;omega
   (repeat first|refine tA rfl ?_|refine aU rfl ?_|apply Aa)
   ((refine aC rfl ?_ ?_<;>rintro⟨⟩);all_goals try (simp at i;done))
   apply aK;apply aB;(repeat first|refine tA rfl ?_|refine s2 rfl λ_ i=>?_|refine aU rfl ?_|apply Aa);(refine aC rfl ?_ ?_<;>rintro⟨⟩)
   ·have h12:u.rows.length=12:=by (simp only[oZ] at *;omega)
    have V:R=none:=by
     rw[z];simp[Bv,y,h12]
    (repeat first|refine tA rfl ?_|(refine Af rfl ?_;refine gA rfl ?_;first|refine gS (λ_ _=>AA rfl rfl (by rfl) (by rfl)) ?_)|refine aU rfl ?_|apply Aa);refine Ak.settle [(4,.o (.ip [.l [],.l []])),(5,eB false)] ⟨⟨_,rfl,.o (.box rfl (.cons .d (.cons .d .nil)))⟩,⟨_,rfl,.o .d⟩,trivial⟩ ?_;refine aR ⟨_,rfl,?_⟩;rw[V];rfl
   ·have X:u.rows.length<12:=by (simp only[oZ] at *;omega)
    have S:=UI z y X
    have P:WJ ⟨u.rows++[w],u.cols⟩:=⟨by simp;omega,by dsimp only;omega,λx f=>by
     rcases d9.1 f with f|f
     ·have:=b x f;omega
     ·simp at f;subst f;simp at B;omega,λx f=>by have:=c x f;omega⟩
    have J:=KZ hT ⟨u.rows++[w],u.cols⟩ P;rw[I]at J;apply aK;(repeat first|refine tA rfl ?_|refine aU rfl ?_);(refine pW rfl ?_ rfl (by rfl);refine Au rfl rfl rfl (by first|(simp;done)|(simp;(omega))) rfl (by intro r k;simp at k;subst k;rfl) (by rfl) (am rfl) (by simp;omega) ?_);(repeat first|refine tA rfl ?_);apply Aa
    have U:∀x∈u.rows++[w],x.length<=50000+(u.rows++[w]).length:=λx f=>by
     rcases d9.1 f with f|f
     ·have:=b x f;simp;omega
     ·simp at f;subst f;exact B
    refine Ak.Az [2,4,6] [] rfl rfl [] [(0,.cells 47 2 [[.d (.l []),.d (.l [])]]),(1,.cells 9 1 ((u.rows++[w]).map En)),(2,.cells 9 1 (u.cols.map En)),(3,.cells 47 2 [[.arr 1 1 0 (u.rows++[w]).length,.arr 2 1 0 u.cols.length]])] [0,4,2,3] (rl e rfl) (by (simp[cX,zC,e])) ?_;(try dsimp only[cA,cB]);(repeat first|refine tA rfl ?_|(refine Af rfl ?_;refine gA rfl ?_;first|refine gQ (IQ rfl rfl ((K ⟨u.rows++[w],u.cols⟩)) (J) rfl) rfl ?_)|refine aU rfl ?_|apply Aa);refine⟨⟨⟨m',⟨u.rows++[w],u.cols⟩⟩,by dsimp only;omega,by simp;omega,by simp;omega,j,U,c,S⟩,by dsimp only;(omega),[0,1,2,3],?_⟩;simp[cX,zC,e]
 ·have v:A4 A al tab=false:=by simpa using v
  rw[if_neg (by simp[v])];rw[v]at N;refine eG Tryz.func43 rfl (by kernel_rfl) rfl ?_;intro Z e;(repeat first|refine tA rfl ?_|refine s2 rfl λ_ i=>?_|refine sP rfl (N) rfl ?_|refine aU rfl ?_|apply Aa)
  ((refine aC rfl ?_ ?_<;>rintro⟨⟩);all_goals try (simp at i;done))
  (repeat first|refine tA rfl ?_|(refine Af rfl ?_;refine gA rfl ?_;first|refine gS (λ_ _=>AA rfl rfl (by rfl) (by rfl)) ?_)|refine aU rfl ?_|apply Aa);refine Ak.settle [(4,.o (.ip [.l [],.l []])),(5,eB false)] ⟨⟨_,rfl,.o (.box rfl (.cons .d (.cons .d .nil)))⟩,⟨_,rfl,.o .d⟩,trivial⟩ ?_;refine aR ⟨_,rfl,rfl⟩
def KG(m n:Nat):Nat:=(List.range n).countP (m.testBit ·)
theorem P9(m n:Nat):KG m (n+1)=if m.testBit n then KG m n+1 else KG m n:=by
 unfold KG;rw[q8,List.countP_append];cases h:m.testBit n<;>simp[h]
theorem fq(m n:Nat):KG m n<=n:=by
 unfold KG;have:=List.countP_le_length (p:=(m.testBit ·)) (l:=List.range n);rwa[sE]at this
theorem Nt(m:Nat)(e:m<2 ^ 62)(n:Nat)(h:n<=60):Pure Tryz.prog TB 266 [eI .i64 (m:Nat),eI .i64 (n:Nat)] (eI .i64 (KG m n:Nat)):=by
 refine eG Tryz.func266 rfl (by kernel_rfl) rfl ?_;intro Z a;(repeat first|refine tA rfl ?_|refine aU rfl ?_|apply Aa);apply aB;refine aL (α:={k:Nat // k<=n}) [0,1] [] rfl rfl (λ⟨k,hk⟩=>[(5,eI .i64 (KG m k:Nat)),(6,eI .i64 k)]) (λ⟨k,hk⟩=>[]) 0 (λ⟨k,hk⟩=>n-k) (⟨0,by omega⟩) a rfl (by (simp[cX,zC,a]<;>rfl)) ?_;rintro⟨k,hk⟩;(try dsimp only[cA,cB]);by_cases f:k<n
 ·have g:=fq m k
  have c:=P9 m k;have d:=Da (TB:=TB) (m:Nat) (k:Int) (by omega) (by omega);rw[Dq e (by omega)]at d;(repeat first|refine tA rfl ?_|refine s2 rfl λ_ b=>?_|refine aU rfl ?_|apply Aa)
  ((refine aC rfl ?_ ?_<;>rintro⟨⟩);all_goals try(exfalso;(simp only[oZ] at *;omega)))
  apply aK;refine aS (aB ?_);(repeat first|refine tA rfl ?_|(refine sC rfl (d) ?_;intro _ b)|refine aU rfl ?_|apply Aa);(refine aC rfl ?_ ?_<;>rintro⟨⟩)
  ·have hb:m.testBit k=true:=by simpa using b
   rw[if_pos hb]at c;(repeat first|(refine sA rfl ?_ ?_;first|exact tI|omega)|refine aU rfl ?_|apply Aa);refine⟨⟨k+1,by omega⟩,by dsimp only;(omega),[],?_⟩;simp[cX,zC,a,c]
  ·have hb:m.testBit k=false:=by simpa using b
   rw[if_neg (by simp[hb])]at c;apply aK;(repeat first|(refine sA rfl ?_ ?_;first|exact tI|omega)|refine aU rfl ?_|apply Aa);refine⟨⟨k+1,by omega⟩,by dsimp only;(omega),[],?_⟩;simp[cX,zC,a,c]
 ·obtain rfl:k=n:=by omega
  (repeat first|refine tA rfl ?_|refine s2 rfl λ_ b=>?_|refine aU rfl ?_|apply Aa)
  ((refine aC rfl ?_ ?_<;>rintro⟨⟩);all_goals try(exfalso;(simp only[oZ] at *;omega)))
  apply aE;(repeat first|refine tA rfl ?_|refine aU rfl ?_|apply Aa);(subst_vars;exact aR ⟨_,rfl,rfl⟩)
def gY(al n:Int)(l:List Ej):Ab:=(0,.cells 25 3 [[.d (iD 0),.d (iD 0),.d (.l [])]])::N5 al n l
theorem Xs(n:Int)(d:0<=n)(g:n<=16):Pure Tryz.prog TB 206 [eI .i64 n] (eI .i64 ((2 ^ n.toNat:Nat):Int)):=by
 have a:IntKind.i64.wrap (1*2 ^ (min n.toNat IntKind.i64.bits))=((2 ^ n.toNat:Nat):Int):=by
  have e:min n.toNat IntKind.i64.bits=n.toNat:=by
   have:IntKind.i64.bits=64:=rfl;omega
  rw[e,tc];have f:2 ^ n.toNat<2 ^ 17:=rF (by omega) (by omega)
  have c:(2:Int) ^ n.toNat=((2 ^ n.toNat:Nat):Int):=by push_cast;rfl
  rw[c];generalize 2 ^ n.toNat=p at *;exact IntWalk.i64_in _ (by omega)
 refine eN Tryz.func206 rfl (by kernel_rfl) rfl ?_;intro Z b;(repeat' first|(refine sA rfl ?_ ?_;first|exact tI|omega)|(refine Af rfl ?_;refine gA rfl ?_;first|refine gS (λ_ _=>fp rfl rfl d a) ?_)|refine aU rfl ?_|apply Aa|(refine aC rfl ?_ ?_<;>rintro⟨⟩)|apply aK|apply aE|apply aB|refine aR ⟨_,rfl,?_⟩);rfl
abbrev oO(r:CO×Bool):E:=.t [(true,(Ja r.1).map .d),(false,[.d (bD r.2)])]
theorem Fw(b:List UInt8)(hb:b.length<=2000)(p:Int)(P:0<=p/\p<800000000)(y:Sys)(N:y.es.length<=100000):Spec Tryz.prog TB 197 [(0,Bt b p)] 1 [.o (.ptr 0 2 0 0),Bl y] (Lz b p 5 (λs=>s.es.length<=y.es.length+1)):=by
 obtain⟨k,M,L,hk⟩:=Bs (TB:=TB) b hb p y.es.length (by omega);obtain⟨c,S,Q,K⟩:=Bs (TB:=TB) b hb (p+1) 30 (by omega);refine eR Tryz.func197 rfl (by kernel_rfl) rfl ?_;intro Z a;(repeat first|refine tA rfl ?_|refine aU rfl ?_|apply Aa);refine R.Rz [(0,2),(1,2),(2,2),(3,2),(5,2),(6,2),(9,3),(4,1),(7,1),(8,0),(10,5)] mixed (by kernel_rfl) rfl (by kernel_rfl) ?_;(repeat ((refine R.Af rfl ?_;first|(refine R.yQ (md:=false) rfl rfl rfl ?_ ?_;exact tI)|refine R.yP rfl rfl rfl rfl ?_ )));(refine R.Af rfl ?_;refine R.Kx (λ_=>?_) rfl rfl;refine Bh rfl rfl rfl rfl (by simp) (by rfl) (by rfl) (by rfl) (by rfl) ?_);(refine R.Af rfl ?_;refine R.Kx (λ_=>?_) rfl rfl;refine Au rfl rfl rfl (by simp) rfl (by intro r u;simp only[qt,d8]at u;obtain⟨_,_,rfl⟩:=u;rfl) (by rfl) (am rfl) (by simp;omega) ?_);(repeat ((refine R.Af rfl ?_;first|refine R.yA rfl rfl rfl rfl ?_|refine R.CG (λ_ _ _=>AA rfl rfl (by rfl) (by rfl)) rfl rfl ?_ )));refine R.Rt ?_;refine Ak.Az [0] [] rfl rfl [(4,.o (.ptr 1 3 0 0)),(5,.o (.ptr 3 3 0 0))] [(0,Bt b p),(1,.cells 25 3 [[.d (iD 0),.d (iD 0),.d (.l [])]]),(2,.cells 158 3 (y.es.map Bg)),(3,.cells 25 3 [[.d (iD y.al),.d (iD y.st),.arr 2 3 0 y.es.length]])] [0,1,3,4] (rl a rfl) (by (simp[cX,zC,a,cN,Ae,Bp,eC])) ?_;(try dsimp only[cA,cB]);(repeat first|refine tA rfl ?_|refine aU rfl ?_|apply Aa);(refine pW rfl ?_ rfl (by rfl);refine Aj [0] rfl rfl (hk) ⟨rfl,by decide,by decide⟩ rfl (by simp[cX,zC,a,cN]) ?_;rintro t j m ⟨rfl,rfl,rfl⟩ _);(repeat first|refine tA rfl ?_|refine aU rfl ?_|apply Aa);(refine pW rfl ?_ rfl (by rfl);refine Aj [0] rfl rfl (K) ⟨rfl,by decide,by decide⟩ rfl (by simp[cX,zC,a,cN]) ?_;rintro t j m ⟨rfl,rfl,rfl⟩ _);apply Aa;refine Ak.Az [0] [] rfl rfl [(4,.o (.ptr 1 3 0 0)),(5,.o (.ptr 3 3 0 0)),(6,eI .i64 y.es.length),(7,eI .i64 k),(24,eI .i64 c)] [(0,Bt b (p+1+1)),(1,.cells 25 3 [[.d (iD 0),.d (iD 0),.d (.l [])]]),(2,.cells 158 3 (y.es.map Bg)),(3,.cells 25 3 [[.d (iD y.al),.d (iD y.st),.arr 2 3 0 y.es.length]])] [0,1,2,3] (rl a rfl) (by (simp[cX,zC,a,cN])) ?_;(try dsimp only[cA,cB]);apply aB;(repeat first|refine tA rfl ?_|refine s2 rfl λ_ e=>?_|refine aU rfl ?_|apply Aa);(refine aC rfl ?_ ?_<;>rintro⟨⟩)
 ·obtain⟨z,G,v⟩:=Dc (TB:=TB) b hb (p+1+1) (by omega) [64,-1,1,63] (by decide) (by decide)
  (repeat first|refine tA rfl ?_|refine aU rfl ?_);(refine pW rfl ?_ rfl (by rfl);refine Aj [0] rfl rfl (v) ⟨rfl,by decide,by decide⟩ rfl (by simp[cX,zC,a,cN]) ?_;rintro t j m ⟨rfl,rfl,rfl⟩ _);(repeat first|refine tA rfl ?_|refine aU rfl ?_|apply Aa);refine Ak.Az [] [] rfl rfl [(4,.o (.ptr 1 3 0 0))] [(0,Bt b (p+1+1+1)),(1,.cells 25 3 [[.d (iD (z)),.d (iD (y.st)),.arr 2 3 0 (y.es).length]]),(2,.cells 158 3 ((y.es).map Bg))] [0,1,2] (rl a rfl) (by (simp[cX,zC,a,cN,Ae,eC])) ?_;(try dsimp only[cA,cB]);refine Ak.AB [1,2] [(4,.o (.ip (AI ⟨z,y.st,y.es⟩)))] ⟨⟨_,rfl,.inr (.o (.box rfl (.cons .d (.cons .d (.cons (.full rfl (by simp[d5]) (by simp)) .nil)))))⟩,trivial⟩ ?_;refine aR ⟨_,rfl,[0],Bl ⟨z,y.st,y.es⟩,[(0,Bt b (p+1+1+1))],⟨by intro i hi;match i with|0=>rfl,by decide⟩,rfl,by (simp[cX,zC,a,cN]),p+1+1+1,⟨z,y.st,y.es⟩,by omega,by first|(simp;done)|(simp;omega),rfl,rfl,rfl⟩
 (repeat first|refine tA rfl ?_|refine s2 rfl λ_ e=>?_|refine aU rfl ?_|apply Aa);(refine aC rfl ?_ ?_<;>rintro⟨⟩)
 ·obtain⟨z,G,v⟩:=Dc (TB:=TB) b hb (p+1+1) (by omega) [0,17,-1,16,1] (by decide) (by decide)
  (repeat first|refine tA rfl ?_|refine aU rfl ?_);(refine pW rfl ?_ rfl (by rfl);refine Aj [0] rfl rfl (v) ⟨rfl,by decide,by decide⟩ rfl (by simp[cX,zC,a,cN]) ?_;rintro t j m ⟨rfl,rfl,rfl⟩ _);(repeat first|refine tA rfl ?_|refine aU rfl ?_|apply Aa);refine Ak.Az [] [] rfl rfl [(4,.o (.ptr 1 3 0 0))] [(0,Bt b (p+1+1+1)),(1,.cells 25 3 [[.d (iD (y.al)),.d (iD (z)),.arr 2 3 0 (y.es).length]]),(2,.cells 158 3 ((y.es).map Bg))] [0,1,2] (rl a rfl) (by (simp[cX,zC,a,cN,Ae,eC])) ?_;(try dsimp only[cA,cB]);refine Ak.AB [1,2] [(4,.o (.ip (AI ⟨y.al,z,y.es⟩)))] ⟨⟨_,rfl,.inr (.o (.box rfl (.cons .d (.cons .d (.cons (.full rfl (by simp[d5]) (by simp)) .nil)))))⟩,trivial⟩ ?_;refine aR ⟨_,rfl,[0],Bl ⟨y.al,z,y.es⟩,[(0,Bt b (p+1+1+1))],⟨by intro i hi;match i with|0=>rfl,by decide⟩,rfl,by (simp[cX,zC,a,cN]),p+1+1+1,⟨y.al,z,y.es⟩,by omega,by first|(simp;done)|(simp;omega),rfl,rfl,rfl⟩
 (repeat first|refine tA rfl ?_|refine s2 rfl λ_ e=>?_|refine aU rfl ?_|apply Aa);(refine aC rfl ?_ ?_<;>rintro⟨⟩)
 ·by_cases v:y.es.length=0
  ·(repeat' first|refine tA rfl ?_|refine s2 rfl λ_ e=>?_|refine aU rfl ?_|apply Aa|(refine aC rfl ?_ ?_<;>rintro⟨⟩));all_goals try contradiction
   all_goals first
    | (exfalso;(simp only[oZ] at *;omega);done)
    | (apply aK;(repeat first|refine tA rfl ?_|refine aU rfl ?_|apply Aa);refine Ak.Az [] [] rfl rfl [(4,.o (.ptr 1 3 0 0))] [(0,Bt b (p+1+1)),(1,.cells 25 3 [[.d (iD (y.al)),.d (iD (y.st)),.arr 2 3 0 (y.es).length]]),(2,.cells 158 3 ((y.es).map Bg))] [0,1,2] (rl a rfl) (by (simp[cX,zC,a,cN,Ae,eC])) ?_;(try dsimp only[cA,cB]);refine Ak.AB [1,2] [(4,.o (.ip (AI ⟨y.al,y.st,y.es⟩)))] ⟨⟨_,rfl,.inr (.o (.box rfl (.cons .d (.cons .d (.cons (.full rfl (by simp[d5]) (by simp)) .nil)))))⟩,trivial⟩ ?_;refine aR ⟨_,rfl,[0],Bl ⟨y.al,y.st,y.es⟩,[(0,Bt b (p+1+1))],⟨by intro i hi;match i with|0=>rfl,by decide⟩,rfl,by (simp[cX,zC,a,cN]),p+1+1,⟨y.al,y.st,y.es⟩,by omega,by first|(simp;done)|(simp;omega),rfl,rfl,rfl⟩)
  obtain⟨⟨h,g,f⟩,x⟩:=get_some (l:=y.es) (k:=k.toNat) (by omega)
  have w:(y.es.map Bg)[0+k.toNat]?=some (Bg ⟨h,g,f⟩):=by rw[ms];simp[x]
  obtain⟨z,G,q⟩:=Dc (TB:=TB) b hb (p+1+1) (by omega) [-1,16,0,2] (by decide) (by decide)
  have n:(y.es.map Bg).set (0+k.toNat) (Bg ⟨z,g,f⟩)=(y.es.set k.toNat ⟨z,g,f⟩).map Bg:=by rw[ms,qC]
  (repeat first|refine tA rfl ?_|refine s2 rfl λ_ e=>?_|refine aU rfl ?_|apply Aa)
  ((refine aC rfl ?_ ?_<;>rintro⟨⟩);all_goals try(exfalso;(simp only[oZ] at *;omega)))
  refine rG (Ju [(1,13),(5,1008),(6,2),(7,2),(8,1)]) (by kernel_rfl) ?_;(repeat first|refine tA rfl ?_);(refine Af rfl ?_;refine Dd ?_ rfl ⟨rfl,rfl⟩;refine Aj [0] rfl rfl (q) ⟨rfl,by decide,by decide⟩ rfl (by simp[cX,zC,a,cN]) ?_;rintro t j m ⟨rfl,rfl,rfl⟩ _;refine⟨ER 3 rfl rfl,?_⟩);(repeat first|(refine sA rfl ?_ ?_;first|exact tI|omega)|refine t4 rfl ‹_› rfl ?_|refine aU rfl ?_|apply Aa);refine Ak.Az [] [] rfl rfl [(4,.o (.ptr 1 3 0 0))] [(0,Bt b (p+1+1+1)),(1,.cells 25 3 [[.d (iD (y.al)),.d (iD (y.st)),.arr 2 3 0 (y.es.set k.toNat ⟨z,g,f⟩).length]]),(2,.cells 158 3 ((y.es.set k.toNat ⟨z,g,f⟩).map Bg))] [0,1,2] (rl a rfl) (by (simp[cX,zC,a,cN,Ae,eC,n])) ?_;(try dsimp only[cA,cB]);refine Ak.AB [1,2] [(4,.o (.ip (AI ⟨y.al,y.st,y.es.set k.toNat ⟨z,g,f⟩⟩)))] ⟨⟨_,rfl,.inr (.o (.box rfl (.cons .d (.cons .d (.cons (.full rfl (by simp[d5]) (by simp)) .nil)))))⟩,trivial⟩ ?_;refine aR ⟨_,rfl,[0],Bl ⟨y.al,y.st,y.es.set k.toNat ⟨z,g,f⟩⟩,[(0,Bt b (p+1+1+1))],⟨by intro i hi;match i with|0=>rfl,by decide⟩,rfl,by (simp[cX,zC,a,cN]),p+1+1+1,⟨y.al,y.st,y.es.set k.toNat ⟨z,g,f⟩⟩,by omega,by first|(simp;done)|(simp;omega),rfl,rfl,rfl⟩
 (repeat first|refine tA rfl ?_|refine s2 rfl λ_ e=>?_|refine aU rfl ?_|apply Aa);(refine aC rfl ?_ ?_<;>rintro⟨⟩)
 ·by_cases v:y.es.length=0
  ·(repeat' first|refine tA rfl ?_|refine s2 rfl λ_ e=>?_|refine aU rfl ?_|apply Aa|(refine aC rfl ?_ ?_<;>rintro⟨⟩));all_goals try contradiction
   all_goals first
    | (exfalso;(simp only[oZ] at *;omega);done)
    | (apply aK;(repeat first|refine tA rfl ?_|refine aU rfl ?_|apply Aa);refine Ak.Az [] [] rfl rfl [(4,.o (.ptr 1 3 0 0))] [(0,Bt b (p+1+1)),(1,.cells 25 3 [[.d (iD (y.al)),.d (iD (y.st)),.arr 2 3 0 (y.es).length]]),(2,.cells 158 3 ((y.es).map Bg))] [0,1,2] (rl a rfl) (by (simp[cX,zC,a,cN,Ae,eC])) ?_;(try dsimp only[cA,cB]);refine Ak.AB [1,2] [(4,.o (.ip (AI ⟨y.al,y.st,y.es⟩)))] ⟨⟨_,rfl,.inr (.o (.box rfl (.cons .d (.cons .d (.cons (.full rfl (by simp[d5]) (by simp)) .nil)))))⟩,trivial⟩ ?_;refine aR ⟨_,rfl,[0],Bl ⟨y.al,y.st,y.es⟩,[(0,Bt b (p+1+1))],⟨by intro i hi;match i with|0=>rfl,by decide⟩,rfl,by (simp[cX,zC,a,cN]),p+1+1,⟨y.al,y.st,y.es⟩,by omega,by first|(simp;done)|(simp;omega),rfl,rfl,rfl⟩)
  obtain⟨⟨h,g,f⟩,x⟩:=get_some (l:=y.es) (k:=k.toNat) (by omega)
  have w:(y.es.map Bg)[0+k.toNat]?=some (Bg ⟨h,g,f⟩):=by rw[ms];simp[x]
  obtain⟨z,G,q⟩:=Dc (TB:=TB) b hb (p+1+1) (by omega) [-1,16,0,3] (by decide) (by decide)
  have n:(y.es.map Bg).set (0+k.toNat) (Bg ⟨h,g,z⟩)=(y.es.set k.toNat ⟨h,g,z⟩).map Bg:=by rw[ms,qC]
  (repeat first|refine tA rfl ?_|refine s2 rfl λ_ e=>?_|refine aU rfl ?_|apply Aa)
  ((refine aC rfl ?_ ?_<;>rintro⟨⟩);all_goals try(exfalso;(simp only[oZ] at *;omega)))
  refine rG (Ju [(1,13),(5,1008),(6,2),(7,2),(8,1)]) (by kernel_rfl) ?_;(repeat first|refine tA rfl ?_);(refine Af rfl ?_;refine Dd ?_ rfl ⟨rfl,rfl⟩;refine Aj [0] rfl rfl (q) ⟨rfl,by decide,by decide⟩ rfl (by simp[cX,zC,a,cN]) ?_;rintro t j m ⟨rfl,rfl,rfl⟩ _;refine⟨ER 3 rfl rfl,?_⟩);(repeat first|(refine sA rfl ?_ ?_;first|exact tI|omega)|refine t4 rfl ‹_› rfl ?_|refine aU rfl ?_|apply Aa);refine Ak.Az [] [] rfl rfl [(4,.o (.ptr 1 3 0 0))] [(0,Bt b (p+1+1+1)),(1,.cells 25 3 [[.d (iD (y.al)),.d (iD (y.st)),.arr 2 3 0 (y.es.set k.toNat ⟨h,g,z⟩).length]]),(2,.cells 158 3 ((y.es.set k.toNat ⟨h,g,z⟩).map Bg))] [0,1,2] (rl a rfl) (by (simp[cX,zC,a,cN,Ae,eC,n])) ?_;(try dsimp only[cA,cB]);refine Ak.AB [1,2] [(4,.o (.ip (AI ⟨y.al,y.st,y.es.set k.toNat ⟨h,g,z⟩⟩)))] ⟨⟨_,rfl,.inr (.o (.box rfl (.cons .d (.cons .d (.cons (.full rfl (by simp[d5]) (by simp)) .nil)))))⟩,trivial⟩ ?_;refine aR ⟨_,rfl,[0],Bl ⟨y.al,y.st,y.es.set k.toNat ⟨h,g,z⟩⟩,[(0,Bt b (p+1+1+1))],⟨by intro i hi;match i with|0=>rfl,by decide⟩,rfl,by (simp[cX,zC,a,cN]),p+1+1+1,⟨y.al,y.st,y.es.set k.toNat ⟨h,g,z⟩⟩,by omega,by first|(simp;done)|(simp;omega),rfl,rfl,rfl⟩
 (repeat first|refine tA rfl ?_|refine s2 rfl λ_ e=>?_|refine aU rfl ?_|apply Aa);(refine aC rfl ?_ ?_<;>rintro⟨⟩)
 ·by_cases v:y.es.length=0
  ·(repeat' first|refine tA rfl ?_|refine s2 rfl λ_ e=>?_|refine aU rfl ?_|apply Aa|(refine aC rfl ?_ ?_<;>rintro⟨⟩));all_goals try contradiction
   all_goals first
    | (exfalso;(simp only[oZ] at *;omega);done)
    | (apply aK;(repeat first|refine tA rfl ?_|refine aU rfl ?_|apply Aa);refine Ak.Az [] [] rfl rfl [(4,.o (.ptr 1 3 0 0))] [(0,Bt b (p+1+1)),(1,.cells 25 3 [[.d (iD (y.al)),.d (iD (y.st)),.arr 2 3 0 (y.es).length]]),(2,.cells 158 3 ((y.es).map Bg))] [0,1,2] (rl a rfl) (by (simp[cX,zC,a,cN,Ae,eC])) ?_;(try dsimp only[cA,cB]);refine Ak.AB [1,2] [(4,.o (.ip (AI ⟨y.al,y.st,y.es⟩)))] ⟨⟨_,rfl,.inr (.o (.box rfl (.cons .d (.cons .d (.cons (.full rfl (by simp[d5]) (by simp)) .nil)))))⟩,trivial⟩ ?_;refine aR ⟨_,rfl,[0],Bl ⟨y.al,y.st,y.es⟩,[(0,Bt b (p+1+1))],⟨by intro i hi;match i with|0=>rfl,by decide⟩,rfl,by (simp[cX,zC,a,cN]),p+1+1,⟨y.al,y.st,y.es⟩,by omega,by first|(simp;done)|(simp;omega),rfl,rfl,rfl⟩)
  obtain⟨⟨h,g,f⟩,x⟩:=get_some (l:=y.es) (k:=k.toNat) (by omega)
  have w:(y.es.map Bg)[0+k.toNat]?=some (Bg ⟨h,g,f⟩):=by rw[ms];simp[x]
  obtain⟨z,G,q⟩:=Dc (TB:=TB) b hb (p+1+1) (by omega) [-1,6,70,5,0] (by decide) (by decide)
  have n:(y.es.map Bg).set (0+k.toNat) (Bg ⟨h,z,f⟩)=(y.es.set k.toNat ⟨h,z,f⟩).map Bg:=by rw[ms,qC]
  (repeat first|refine tA rfl ?_|refine s2 rfl λ_ e=>?_|refine aU rfl ?_|apply Aa)
  ((refine aC rfl ?_ ?_<;>rintro⟨⟩);all_goals try(exfalso;(simp only[oZ] at *;omega)))
  refine rG (Ju [(1,13),(5,1008),(6,2),(7,2),(8,1)]) (by kernel_rfl) ?_;(repeat first|refine tA rfl ?_);(refine Af rfl ?_;refine Dd ?_ rfl ⟨rfl,rfl⟩;refine Aj [0] rfl rfl (q) ⟨rfl,by decide,by decide⟩ rfl (by simp[cX,zC,a,cN]) ?_;rintro t j m ⟨rfl,rfl,rfl⟩ _;refine⟨ER 3 rfl rfl,?_⟩);(repeat first|(refine sA rfl ?_ ?_;first|exact tI|omega)|refine t4 rfl ‹_› rfl ?_|refine aU rfl ?_|apply Aa);refine Ak.Az [] [] rfl rfl [(4,.o (.ptr 1 3 0 0))] [(0,Bt b (p+1+1+1)),(1,.cells 25 3 [[.d (iD (y.al)),.d (iD (y.st)),.arr 2 3 0 (y.es.set k.toNat ⟨h,z,f⟩).length]]),(2,.cells 158 3 ((y.es.set k.toNat ⟨h,z,f⟩).map Bg))] [0,1,2] (rl a rfl) (by (simp[cX,zC,a,cN,Ae,eC,n])) ?_;(try dsimp only[cA,cB]);refine Ak.AB [1,2] [(4,.o (.ip (AI ⟨y.al,y.st,y.es.set k.toNat ⟨h,z,f⟩⟩)))] ⟨⟨_,rfl,.inr (.o (.box rfl (.cons .d (.cons .d (.cons (.full rfl (by simp[d5]) (by simp)) .nil)))))⟩,trivial⟩ ?_;refine aR ⟨_,rfl,[0],Bl ⟨y.al,y.st,y.es.set k.toNat ⟨h,z,f⟩⟩,[(0,Bt b (p+1+1+1))],⟨by intro i hi;match i with|0=>rfl,by decide⟩,rfl,by (simp[cX,zC,a,cN]),p+1+1+1,⟨y.al,y.st,y.es.set k.toNat ⟨h,z,f⟩⟩,by omega,by first|(simp;done)|(simp;omega),rfl,rfl,rfl⟩
 (repeat first|refine tA rfl ?_|refine s2 rfl λ_ e=>?_|refine aU rfl ?_|apply Aa);(refine aC rfl ?_ ?_<;>rintro⟨⟩)
 ·by_cases v:y.es.length=0
  ·(repeat' first|refine tA rfl ?_|refine s2 rfl λ_ e=>?_|refine aU rfl ?_|apply Aa|(refine aC rfl ?_ ?_<;>rintro⟨⟩));all_goals try contradiction
   all_goals first
    | (exfalso;(simp only[oZ] at *;omega);done)
    | (apply aK;(repeat first|refine tA rfl ?_|refine aU rfl ?_|apply Aa);refine Ak.Az [] [] rfl rfl [(4,.o (.ptr 1 3 0 0))] [(0,Bt b (p+1+1)),(1,.cells 25 3 [[.d (iD (y.al)),.d (iD (y.st)),.arr 2 3 0 (y.es).length]]),(2,.cells 158 3 ((y.es).map Bg))] [0,1,2] (rl a rfl) (by (simp[cX,zC,a,cN,Ae,eC])) ?_;(try dsimp only[cA,cB]);refine Ak.AB [1,2] [(4,.o (.ip (AI ⟨y.al,y.st,y.es⟩)))] ⟨⟨_,rfl,.inr (.o (.box rfl (.cons .d (.cons .d (.cons (.full rfl (by simp[d5]) (by simp)) .nil)))))⟩,trivial⟩ ?_;refine aR ⟨_,rfl,[0],Bl ⟨y.al,y.st,y.es⟩,[(0,Bt b (p+1+1))],⟨by intro i hi;match i with|0=>rfl,by decide⟩,rfl,by (simp[cX,zC,a,cN]),p+1+1,⟨y.al,y.st,y.es⟩,by omega,by first|(simp;done)|(simp;omega),rfl,rfl,rfl⟩)
  obtain⟨⟨h,g,f⟩,x⟩:=get_some (l:=y.es) (k:=k.toNat) (by omega)
  have w:(y.es.map Bg)[0+k.toNat]?=some (Bg ⟨h,g,f⟩):=by rw[ms];simp[x]
  (repeat first|refine tA rfl ?_|refine s2 rfl λ_ e=>?_|refine aU rfl ?_|apply Aa)
  ((refine aC rfl ?_ ?_<;>rintro⟨⟩);all_goals try(exfalso;(simp only[oZ] at *;omega)))
  refine rG (Ju [(1,13),(3,13),(6,12),(8,1),(10,1)]) (by kernel_rfl) ?_;(repeat first|(refine sA rfl ?_ ?_;first|exact tI|omega)|refine t4 rfl ‹_› rfl ?_);(refine pW rfl ?_ rfl (by rfl);refine Au rfl rfl rfl (by first|(simp;done)|(simp;(omega))) rfl (by intro r u;simp at u;subst u;rfl) (by rfl) (am rfl) (by simp;omega) ?_);(repeat first|refine tA rfl ?_|refine aU rfl ?_|apply Aa);refine Ak.Az [] [] rfl rfl [(4,.o (.ptr 1 3 0 0))] [(0,Bt b (p+1+1)),(1,.cells 25 3 [[.d (iD (y.al)),.d (iD (y.st)),.arr 2 3 0 (y.es++[(⟨h,g,f⟩:Ej)]).length]]),(2,.cells 158 3 ((y.es++[(⟨h,g,f⟩:Ej)]).map Bg))] [0,1,4] (rl a rfl) (by (simp[cX,zC,a,cN,Ae,eC])) ?_;(try dsimp only[cA,cB]);refine Ak.AB [1,2] [(4,.o (.ip (AI ⟨y.al,y.st,y.es++[(⟨h,g,f⟩:Ej)]⟩)))] ⟨⟨_,rfl,.inr (.o (.box rfl (.cons .d (.cons .d (.cons (.full rfl (by simp[d5]) (by simp)) .nil)))))⟩,trivial⟩ ?_;refine aR ⟨_,rfl,[0],Bl ⟨y.al,y.st,y.es++[(⟨h,g,f⟩:Ej)]⟩,[(0,Bt b (p+1+1))],⟨by intro i hi;match i with|0=>rfl,by decide⟩,rfl,by (simp[cX,zC,a,cN]),p+1+1,⟨y.al,y.st,y.es++[(⟨h,g,f⟩:Ej)]⟩,by omega,by first|(simp;done)|(simp;omega),rfl,rfl,rfl⟩
 (repeat first|refine tA rfl ?_|refine s2 rfl λ_ e=>?_|refine aU rfl ?_|apply Aa);(refine aC rfl ?_ ?_<;>rintro⟨⟩)
 ·obtain⟨F,_,_,J⟩:=Bs (TB:=TB) b hb (p+1+1) 4 (by omega)
  obtain⟨B,_,_,I⟩:=Bs (TB:=TB) b hb (p+1+1+1) 3 (by omega);obtain⟨A,_,_,H⟩:=Bs (TB:=TB) b hb (p+1+1+1+1) 4 (by omega);refine rG ⟨Gm [(1,13),(3,1008),(5,1008),(7,1008),(10,1),(12,1)],cH [0,1,2,4,6,3,5,7,8,9,10,11,12]⟩ (by kernel_rfl) ?_;(repeat first|refine tA rfl ?_);(refine Af rfl ?_;refine Dd ?_ rfl ⟨rfl,rfl⟩;refine Aj [0] rfl rfl (J) ⟨rfl,by decide,by decide⟩ rfl (by simp[cX,zC,a,cN]) ?_;rintro t j m ⟨rfl,rfl,rfl⟩ _;refine⟨ER 3 rfl rfl,?_⟩);(refine Af rfl ?_;refine Dd ?_ rfl ⟨rfl,rfl⟩;refine Aj [0] rfl rfl (I) ⟨rfl,by decide,by decide⟩ rfl (by simp[cX,zC,a,cN]) ?_;rintro t j m ⟨rfl,rfl,rfl⟩ _;refine⟨ER 3 rfl rfl,?_⟩);(refine Af rfl ?_;refine Dd ?_ rfl ⟨rfl,rfl⟩;refine Aj [0] rfl rfl (H) ⟨rfl,by decide,by decide⟩ rfl (by simp[cX,zC,a,cN]) ?_;rintro t j m ⟨rfl,rfl,rfl⟩ _;refine⟨ER 3 rfl rfl,?_⟩);(repeat first|refine tA rfl ?_|(refine Af rfl ?_;refine gA rfl ?_;first|refine gS (λ_ _=>AA rfl rfl (by rfl) (by rfl)) ?_));(refine pW rfl ?_ rfl (by rfl);refine Au rfl rfl rfl (by first|(simp;done)|(simp;(omega))) rfl (by intro r u;simp at u;subst u;rfl) (by rfl) (am rfl) (by simp;omega) ?_);(repeat first|refine tA rfl ?_|refine aU rfl ?_|apply Aa);refine Ak.Az [] [] rfl rfl [(4,.o (.ptr 1 3 0 0))] [(0,Bt b (p+1+1+1+1+1)),(1,.cells 25 3 [[.d (iD (y.al)),.d (iD (y.st)),.arr 2 3 0 (y.es++[(⟨F,B,A⟩:Ej)]).length]]),(2,.cells 158 3 ((y.es++[(⟨F,B,A⟩:Ej)]).map Bg))] [0,1,4] (rl a rfl) (by (simp[cX,zC,a,cN,Ae,eC])) ?_;(try dsimp only[cA,cB]);refine Ak.AB [1,2] [(4,.o (.ip (AI ⟨y.al,y.st,y.es++[(⟨F,B,A⟩:Ej)]⟩)))] ⟨⟨_,rfl,.inr (.o (.box rfl (.cons .d (.cons .d (.cons (.full rfl (by simp[d5]) (by simp)) .nil)))))⟩,trivial⟩ ?_;refine aR ⟨_,rfl,[0],Bl ⟨y.al,y.st,y.es++[(⟨F,B,A⟩:Ej)]⟩,[(0,Bt b (p+1+1+1+1+1))],⟨by intro i hi;match i with|0=>rfl,by decide⟩,rfl,by (simp[cX,zC,a,cN]),p+1+1+1+1+1,⟨y.al,y.st,y.es++[(⟨F,B,A⟩:Ej)]⟩,by omega,by first|(simp;done)|(simp;omega),rfl,rfl,rfl⟩
 apply aK;(repeat first|refine tA rfl ?_|refine aU rfl ?_|apply Aa);refine Ak.Az [] [] rfl rfl [(4,.o (.ptr 1 3 0 0))] [(0,Bt b (p+1+1)),(1,.cells 25 3 [[.d (iD (y.al)),.d (iD (y.st)),.arr 2 3 0 (y.es).length]]),(2,.cells 158 3 ((y.es).map Bg))] [0,1,2] (rl a rfl) (by (simp[cX,zC,a,cN,Ae,eC])) ?_;(try dsimp only[cA,cB]);refine Ak.AB [1,2] [(4,.o (.ip (AI ⟨y.al,y.st,y.es⟩)))] ⟨⟨_,rfl,.inr (.o (.box rfl (.cons .d (.cons .d (.cons (.full rfl (by simp[d5]) (by simp)) .nil)))))⟩,trivial⟩ ?_;refine aR ⟨_,rfl,[0],Bl ⟨y.al,y.st,y.es⟩,[(0,Bt b (p+1+1))],⟨by intro i hi;match i with|0=>rfl,by decide⟩,rfl,by (simp[cX,zC,a,cN]),p+1+1,⟨y.al,y.st,y.es⟩,by omega,by first|(simp;done)|(simp;omega),rfl,rfl,rfl⟩
theorem SG{n:Nat}:List.replicate n (AE 0)=(ND n λ_=>0).map AE:=by
 apply qy;intro i;by_cases h:i<n
 ·simp[h]
 ·rw[ol (by simp;omega),ol (by simp;omega)]
theorem X9{n:Nat}:(List.replicate n (AE 0)).set 0 (AE 1)=(ND n Jb).map AE:=by
 rw[SG];have:=TQ (n:=n) (x:=0) (v:=1) (G:=λ_=>0)
 have e:Yv (λ_=>0) 0 1=Jb:=by funext p;rfl
 rw[e]at this;exact this
theorem XD{t:CO}(ht:Bi t=true):Pure Tryz.prog TB 186 [QY t] (Al (ND t.q.nx.length (Cz t))):=by
 have g:=AP (CB ht);have c:=PM (TB:=TB) ht (MR ht);rw[show Tf t Jb=Cz t from rfl]at c;have b:=X9 (n:=t.q.nx.length)
 have f:(List.replicate t.q.nx.length (AE 0))[0+(0:Int).toNat]?=some (AE 0):=by rw[List.getElem?_replicate,if_pos];simp;omega
 refine eG Tryz.func186 rfl (by kernel_rfl) rfl ?_;intro Z a;(repeat first|refine sN rfl ?_|refine tA rfl ?_|refine aU rfl ?_|apply Aa);(refine pW rfl ?_ rfl (by rfl);refine Li rfl rfl (by rfl) (by rfl) (am rfl) (by omega) (by omega) (by omega) ?_);(repeat first|(refine sA rfl ?_ ?_;first|exact tI|omega)|refine t4 rfl ‹_› rfl ?_|refine aU rfl ?_|apply Aa);(refine pW rfl ?_ rfl (by rfl);refine Aj [0] rfl rfl (c) ⟨rfl,by decide,by decide⟩ rfl (by simp[cX,zC,a,b]) ?_;rintro h d e ⟨rfl,rfl,rfl⟩ _);(repeat first|refine tA rfl ?_);apply Aa;refine Ak.Az [] [] rfl rfl [(2,.o (.arr 0 1 0 t.q.nx.length))] [(0,.cells 3 1 ((ND t.q.nx.length (Cz t)).map AE))] [0] (rl a rfl) (by (simp[cX,zC,a,b])) ?_;(try dsimp only[cA,cB]);refine Ak.settle [(2,Al (ND t.q.nx.length (Cz t)))] ⟨⟨_,rfl,.o (.full rfl (by simp[d5]) (by simp))⟩,trivial⟩ ?_;refine aR ⟨_,rfl,rfl⟩
theorem dV{t:CO}(ht:Bi t=true){F:PS}:Pure Tryz.prog TB 187 [QY t,Al (ND t.q.nx.length F)] (eB (Fu t F)):=by
 have p:=AP (CB ht)
 have n:(ND t.q.nx.length F).length=t.q.nx.length:=by simp
 have d:Fu t F=HW t F t.q.nx.length:=rfl;refine eG Tryz.func187 rfl (by kernel_rfl) rfl ?_;intro Z a;(repeat first|refine tA rfl ?_|refine aU rfl ?_|apply Aa);apply aB;refine aL (α:={k:Nat // k<=t.q.nx.length/\HW t F k=false}) [1,2] [] rfl rfl (λ⟨k,hk,hb⟩=>[(5,eI .i64 k)]) (λ⟨k,hk,hb⟩=>[]) 0 (λ⟨k,hk,hb⟩=>t.q.nx.length-k) (⟨0,by omega,rfl⟩) a rfl (by (simp[cX,zC,a])) ?_;rintro⟨k,hk,hb⟩;(try dsimp only[cA,cB]);by_cases h:k<t.q.nx.length
 ·have s:((ND t.q.nx.length F).map Bw)[((k:Nat):Int).toNat]?=some (Bw (F k:Int)):=by rw[f9];simp[h]
  obtain⟨b,f⟩:=get_some (l:=t.q.ac) (k:=((k:Nat):Int).toNat) (by omega);have o:=get_map (g:=HU) f
  have i:t.q.ac.getD k false=b:=by rw[f9]at f;simp[List.getD,f]
  have j:=KN (t:=t) (F:=F) (k:=k);rw[i,hb]at j;(repeat first|refine sN rfl ?_|refine tA rfl ?_|refine s2 rfl λ_ c=>?_|refine aU rfl ?_|apply Aa)
  ((refine aC rfl ?_ ?_<;>rintro⟨⟩);all_goals try(exfalso;(simp only[oZ] at *;omega)))
  apply aK;refine aS (aB ?_)
  (repeat' first|refine tA rfl ?_|(refine s4 rfl ‹_› rfl ?_ ?_;omega)|refine s2 rfl λ_ c=>?_|refine s3 rfl ?_ ?_<;>rintro rfl|refine aU rfl ?_|apply Aa|(refine aC rfl ?_ ?_<;>rintro⟨⟩));all_goals try contradiction
  ·have m:Fu t F=true:=by
    have u:=of_decide_eq_true ‹decide ((F k:Int)≠0)=true›
    have r:F k≠0:=by omega
    rw[d];unfold HW;exact rt.2 ⟨k,pG.2 h,by rw[i,c];simp[r]⟩
   rw[m];(subst_vars;exact aR ⟨_,rfl,rfl⟩)
  ·have e:HW t F (k+1)=false:=by rw[j];simp_all
   apply aK;(repeat first|(refine sA rfl ?_ ?_;first|exact tI|omega)|refine aU rfl ?_|apply Aa);refine⟨⟨k+1,by omega,e⟩,by dsimp only;(omega),[],?_⟩;simp[cX,zC,a]
  ·have e:HW t F (k+1)=false:=by rw[j];simp at c;simp;omega
   apply aK;(repeat first|(refine sA rfl ?_ ?_;first|exact tI|omega)|refine aU rfl ?_|apply Aa);refine⟨⟨k+1,by omega,e⟩,by dsimp only;(omega),[],?_⟩;simp[cX,zC,a]
 ·obtain rfl:k=t.q.nx.length:=by omega
  rw[d,hb];(repeat first|refine sN rfl ?_|refine tA rfl ?_|refine s2 rfl λ_ c=>?_|refine aU rfl ?_|apply Aa)
  ((refine aC rfl ?_ ?_<;>rintro⟨⟩);all_goals try(exfalso;(simp only[oZ] at *;omega)))
  apply aE;(repeat first|refine tA rfl ?_|refine aU rfl ?_|apply Aa);(subst_vars;exact aR ⟨_,rfl,rfl⟩)
def Pt(o:Option AV):E:=match o with
 | some p=>.t [(true,[.d (iD p.al),.d (CA p.nx),.d (E5 p.ac)]),(false,[.d (bD true)])]
 | none=>.t [(true,[.d (iD 0),.d (.l []),.d (.l [])]),(false,[.d (bD false)])]
theorem HF{t:Ex}{al:Int}{A:W->Bool}(v:KK Tryz.prog TB 67 154 t al A)(tab:A3)(f:WJ tab) :
 Pure Tryz.prog TB 20 [EY t,DU tab] (Pt (if BE A al tab then some (AY A al tab) else none)):=by
 have x:=Qy v tab f;by_cases i:BE A al tab=true
 ·rw [if_pos i]
  rw[i]at x;obtain⟨y,V,N⟩:=JV i;have e:=(Ep y).1;have U:=e.r1;have S:=e.rl;have N:=e.cl;have h2:=v.alph;have h3:=Cm (TB:=TB) al;have h4:Pure Tryz.prog TB 69 [EY t,BW tab.cols,BW tab.rows] (BW (AS A tab)):=La v tab.cols tab.rows f.cl (λw R=>by have:=f.rb w R;omega) f.cb f.rl;have hla:(Ac al).length<=6:=AH al 6
  have Y:(AS A tab).length=tab.rows.length:=by simp[AS]
  refine eG Tryz.func20 rfl (by kernel_rfl) rfl ?_;intro Z c;(repeat first|refine tA rfl ?_|refine s2 rfl λ_ a=>?_|refine sP rfl (x) rfl ?_|refine aU rfl ?_|apply Aa)
  ((refine aC rfl ?_ ?_<;>rintro⟨⟩);all_goals try (simp at a;done))
  apply aK;(repeat first|refine tX rfl ?_|refine sP rfl (h2) rfl ?_|refine aU rfl ?_);(refine pW rfl ?_ rfl (by rfl);refine J7 1 1 53 2 1 4 rfl rfl (by decide) rfl rfl (by rfl) (by rfl) ?_);(repeat first|refine tX rfl ?_|refine sP rfl (h3) rfl ?_|refine sP rfl (h4) rfl ?_|refine aU rfl ?_|apply Aa);apply aB;refine aL (α:={k:Nat // k<=tab.rows.length}) [2,3,4,6,7,8] [0] rfl rfl (λ⟨k,hk⟩=>[(9,eI .i64 k)]) (λ⟨k,hk⟩=>[(1,.cells 53 1 (((AY A al tab).nx.take k).map λr=>[.d (EO r)])),(2,.cells 4 1 (((AY A al tab).ac.take k).map λb=>[.d (bD b)])),(3,.cells 29 3 [[.d (iD al),.arr 1 1 0 k,.arr 2 1 0 k]])]) 4 (λ⟨k,hk⟩=>tab.rows.length-k) (⟨0,by omega⟩) c rfl (by (simp[cX,zC,c])) ?_;rintro⟨k,hk⟩;(try dsimp only[cA,cB])
  have X:(AY A al tab).nx.length=tab.rows.length:=by simp[AY]
  have hac:(AY A al tab).ac.length=tab.rows.length:=by simp[AY]
  by_cases I:k<tab.rows.length
  ·obtain⟨r,n⟩:=get_some I
   have Q:=get_map (g:=CR) n;have m:=co n;have T:=f.rb r m
   have hm:(AS A tab)[k]?=some (marks A tab.cols r):=by simp[AS,n]
   have hm':=get_map (g:=CR) hm
   have hm0:(marks A tab.cols r)[(0:Int).toNat]?=some (Si (A r)):=by
    have:=e.c0;simp[marks,this]
   (repeat first|refine sN rfl ?_|refine tX rfl ?_|refine s2 rfl λ_ a=>?_|refine aU rfl ?_|apply Aa);refine Ak.cond rfl (λhb=>?_) (λhb=>?_)<;>cases hb
   rotate_left
   ·exfalso;(simp only[oZ] at *;omega)
   apply aK;refine aS (aB ?_);(repeat first|refine aU rfl ?_);(refine pW rfl ?_ rfl (by rfl);refine Bh rfl rfl rfl rfl (by simp) (by rfl) (by rfl) (by rfl) (by rfl) ?_);(repeat first|refine tX rfl ?_|refine aU rfl ?_|apply Aa);apply aB;refine aL (α:={j:Nat // j<=(Ac al).length}) [2,3,4,6,7,8,9] [0,1,2,3] rfl rfl (λ⟨j,L⟩=>[(10,.o (.arr 4 1 0 j)),(11,eI .i64 j)]) (λ⟨j,L⟩=>[(4,.cells 3 1 (((Ac al).take j).map λl=>[.d (iD ((C9 A tab (r++[lb l]):Nat):Int))]))]) 5 (λ⟨j,L⟩=>(Ac al).length-j) (⟨0,by omega⟩) c rfl (by (simp[cX,zC,c])) ?_;rintro⟨j,L⟩;(try dsimp only[cA,cB]);by_cases s:j<(Ac al).length
   ·obtain⟨l,K⟩:=get_some s
    have hl':=get_map (g:=Bw) K;have q:=co K;have J:=Ai q;have z:Pure Tryz.prog TB 72 [eI .i64 l] (eT [lb l]):=Ia l J.1 (by omega);have p:=Nr v tab.cols (r++[lb l]) f.cl (by simp;omega) f.cb;have H:marks A tab.cols (r++[lb l])∈AS A tab:=He V r m (lb l) (OQ q);have M:Pure Tryz.prog TB 70 [BW (AS A tab),eT (marks A tab.cols (r++[lb l]))] (eI .i64 (C9 A tab (r++[lb l]):Nat)):=Vi (AS A tab) _ H (by omega);(repeat first|refine sN rfl ?_|refine tX rfl ?_|refine s2 rfl λ_ a=>?_|refine aU rfl ?_|apply Aa);refine Ak.cond rfl (λhb=>?_) (λhb=>?_)<;>cases hb
    rotate_left
    ·exfalso;(simp only[oZ] at *;omega)
    apply aK;refine aS (aB ?_);refine rG (Gk [19]) (by kernel_rfl) ?_;(repeat first|(refine sA rfl ?_ ?_;first|exact tI|simp only[oZ] at *;omega)|(refine s4 rfl ‹_› rfl ?_ ?_;omega)|refine sP rfl (z) rfl ?_|refine sP rfl (p) rfl ?_|refine sP rfl (M) rfl ?_);(refine pW rfl ?_ rfl (by rfl);refine Au rfl rfl rfl (by first|(simp;done)|(simp;(omega))) rfl (by intro r h;simp at h;subst h;rfl) (by rfl) (am rfl) (by simp;omega) ?_);(repeat first|(refine sA rfl ?_ ?_;first|exact tI|omega)|refine aU rfl ?_|apply Aa);refine⟨⟨j+1,by omega⟩,by dsimp only;(omega),[0,1,2,3,5],?_⟩;(simp[cX,zC,c,f6,K])
   ·obtain rfl:j=(Ac al).length:=by omega
    have G:(AY A al tab).nx.take (k+1)=(AY A al tab).nx.take k++[(Ac al).map λl=>((C9 A tab (r++[lb l]):Nat):Int)]:=by
     rw[f6];simp[AY,n]
    have u:(AY A al tab).ac.take (k+1)=(AY A al tab).ac.take k++[A r]:=by
     rw[f6];simp[AY,n]
    rw[io];(repeat first|refine sN rfl ?_|refine tX rfl ?_|refine s2 rfl λ_ a=>?_|refine aU rfl ?_|apply Aa);refine Ak.cond rfl (λhb=>?_) (λhb=>?_)<;>cases hb
    ·exfalso;(simp only[oZ] at *;omega)
    apply aE;refine Ak.Tn [4] [2,3,4,6,7,8,9] rfl [(10,Al ((Ac al).map λl=>((C9 A tab (r++[lb l]):Nat):Int)))] ⟨⟨_,rfl,.o (.full (by simp) rfl (by simp[d5]) (by simp))⟩,trivial⟩ ?_;(try dsimp only[cA,cB]);(repeat first|refine tA rfl ?_|refine aU rfl ?_);(refine pW rfl ?_ rfl (by rfl);refine Au rfl rfl rfl (by first|(simp;done)|(simp;(omega))) rfl (by intro r h;simp at h;subst h;rfl) (by rfl) (am rfl) (by simp;omega) ?_);(repeat first|refine tA rfl ?_|apply Aa);refine rG (Gk [9,11]) (by kernel_rfl) ?_;(repeat first|refine tA rfl ?_|(refine s4 rfl ‹_› rfl ?_ ?_;omega)|refine s2 rfl λ_ a=>?_);rename_i b
    have P:b=A r:=by
     cases hA:A r<;>cases b<;>simp[hA,Si]at a<;>rfl
    subst P;(refine pW rfl ?_ rfl (by rfl);refine Au rfl rfl rfl (by first|(simp;done)|(simp;(omega))) rfl (by intro r h;simp at h;subst h;rfl) (by rfl) (am rfl) (by simp;omega) ?_);(repeat first|(refine sA rfl ?_ ?_;first|exact tI|omega)|refine aU rfl ?_|apply Aa);refine⟨⟨k+1,by omega⟩,by dsimp only;(omega),[0,5,6,3],?_⟩;(simp[cX,zC,c,G,u])
  ·obtain rfl:k=tab.rows.length:=by omega
   have F:(AY A al tab).nx.take tab.rows.length=(AY A al tab).nx:=ge (by simp[AY]);have B:(AY A al tab).ac.take tab.rows.length=(AY A al tab).ac:=ge (by simp[AY]);rw[F,B];(repeat first|refine sN rfl ?_|refine tX rfl ?_|refine s2 rfl λ_ a=>?_|refine aU rfl ?_|apply Aa);refine Ak.cond rfl (λhb=>?_) (λhb=>?_)<;>cases hb
   ·exfalso;(simp only[oZ] at *;omega)
   apply aE;(repeat first|refine tX rfl ?_|refine aU rfl ?_|apply Aa);refine Ak.settle [(4,.o (.ip [iD al,CA (AY A al tab).nx,E5 (AY A al tab).ac])),(5,eB true)] ⟨⟨_,rfl,.o (.box rfl (.cons .d (.cons (.full rfl (by simp[d5]) (by simp[AY])) (.cons (.full rfl (by simp[d5]) (by simp[AY])) .nil))))⟩,⟨_,rfl,.o .d⟩,trivial⟩ ?_;refine aR ⟨_,rfl,rfl⟩
 ·have i:BE A al tab=false:=by simpa using i
  rw[if_neg (by simp[i])];rw[i]at x;refine eG Tryz.func20 rfl (by kernel_rfl) rfl ?_;intro Z c;(repeat first|refine tA rfl ?_|refine s2 rfl λ_ a=>?_|refine sP rfl (x) rfl ?_|refine aU rfl ?_|apply Aa)
  ((refine aC rfl ?_ ?_<;>rintro⟨⟩);all_goals try (simp at a;done))
  (repeat first|refine tA rfl ?_|(refine Af rfl ?_;refine gA rfl ?_;first|refine gS (λ_ _=>AA rfl rfl (by rfl) (by rfl)) ?_)|refine aU rfl ?_|apply Aa);refine Ak.settle [(4,.o (.ip [iD 0,.l [],.l []])),(5,eB false)] ⟨⟨_,rfl,.o (.box rfl (.cons .d (.cons .d (.cons .d .nil))))⟩,⟨_,rfl,.o .d⟩,trivial⟩ ?_;refine aR ⟨_,rfl,rfl⟩
theorem ig{t:CO}{l:Int}{F:PS}{k x:Nat}(h:BS t.q k l=(x:Int)):El t l F (k+1)=Yv (El t l F k) x (El t l F k x ||| Dt t.s l (F k)):=by
 rw[J6];funext p;unfold Yv;rw[h];by_cases e:p=x
 ·subst e;simp
 ·rw[if_neg e,if_neg (by omega)]
theorem bk{t:CO}(ht:Bi t=true){F:PS}(w:C7 t F){l:Int}(m:0<=l/\l<6):Pure Tryz.prog TB 189 [QY t,Al (ND t.q.nx.length F),eI .i64 l] (Al (ND t.q.nx.length (Ds t l F))):=by
 have K:AW t.s=true:=by unfold Bi at ht;simp only[d4]at ht;exact ht.1
 have e:=CB ht;have N:=AP e;have u:=PM (TB:=TB) ht (Lh ht m w);rw[show Tf t (WL t l F)=Ds t l F from rfl]at u
 have L:(ND t.q.nx.length F).length=t.q.nx.length:=by simp
 have P:List.replicate t.q.nx.length (AE 0)=(ND t.q.nx.length (El t l F 0)).map AE:=SG;have y:[zC (Value.int IntKind.i64 0)]=AE 0:=rfl;have r:=Da (TB:=TB) t.s.al l m.1 (by omega);refine eG Tryz.func189 rfl (by kernel_rfl) rfl ?_;intro Z c;(repeat first|refine sN rfl ?_|refine tA rfl ?_|refine aU rfl ?_|apply Aa);(refine pW rfl ?_ rfl (by rfl);refine Li rfl rfl (by rfl) (by rfl) (am rfl) (by omega) (by omega) (by omega) ?_);(repeat first|refine tA rfl ?_|refine aU rfl ?_|apply Aa);apply aB;refine aL (α:={k:Nat // k<=t.q.nx.length}) [1,2,3] [] rfl rfl (λs=>[(7,.o (.arr 0 1 0 t.q.nx.length)),(8,eI .i64 s.1)]) (λs=>[(0,.cells 3 1 ((ND t.q.nx.length (El t l F s.1)).map AE))]) 1 (λs=>t.q.nx.length-s.1) (⟨0,by omega⟩) c rfl (by (simp[cX,zC,c,P,y])) ?_;rintro⟨k,hk⟩;(try dsimp only[cA,cB]);by_cases i:k<t.q.nx.length
 ·have S:((ND t.q.nx.length F).map Bw)[((k:Nat):Int).toNat]?=some (Bw (F k:Int)):=by rw[f9];simp[i]
  have j:=J0 (TB:=TB) t.q e k i l m.1 m.2;have A:=Dz e i m.1 m.2
  obtain⟨x,B⟩:∃x:Nat,BS t.q k l=x:=⟨(BS t.q k l).toNat,by omega⟩
  have z:=ig (F:=F) B;rw[B]at j A;have p:=Sc (TB:=TB) K l (w.lt k);have R:=TP (n:=t.q.nx.length) (G:=El t l F k) (x:=x) (by omega);have M:=Zm ht (l:=l) w k x;have J:=JK ht (l:=l) (w.lt k);have h:=OP (a:=El t l F k x) (b:=Dt t.s l (F k)) (by omega) (by omega);have d:=TQ (n:=t.q.nx.length) (x:=x) (v:=El t l F k x ||| Dt t.s l (F k)) (G:=El t l F k);rw[<-z]at d;(repeat first|refine sN rfl ?_|refine tA rfl ?_|refine s2 rfl λ_ f=>?_|refine aU rfl ?_|apply Aa)
  ((refine aC rfl ?_ ?_<;>rintro⟨⟩);all_goals try(exfalso;(simp only[oZ] at *;omega)))
  apply aK;refine aS (aB ?_);(repeat first|refine tA rfl ?_|(refine s4 rfl ‹_› rfl ?_ ?_;omega)|(refine sC rfl (r) ?_;intro _ f)|refine aU rfl ?_|apply Aa);(refine aC rfl ?_ ?_<;>rintro⟨⟩)
  ·have g:Dt t.s l (F k)=Cu t.s.es l (F k):=by unfold Dt;rw[if_pos f]
   rw[<-g]at p;(repeat first|(refine sA rfl ?_ ?_;first|exact tI|omega)|refine t4 rfl ‹_› rfl ?_|refine sP rfl (p) rfl ?_|refine sP rfl (j) rfl ?_|refine aU rfl ?_|apply Aa);refine⟨⟨k+1,by omega⟩,by dsimp only;(omega),[0],?_⟩
   simp[cX,zC,c,h];simpa[d5]using d
  ·have g:Dt t.s l (F k)=F k:=by unfold Dt;rw[if_neg (by simp[f])]
   rw[g]at h d;apply aK;(repeat first|(refine sA rfl ?_ ?_;first|exact tI|omega)|refine t4 rfl ‹_› rfl ?_|refine sP rfl (j) rfl ?_|refine aU rfl ?_|apply Aa);refine⟨⟨k+1,by omega⟩,by dsimp only;(omega),[0],?_⟩
   simp[cX,zC,c,h];simpa[d5]using d
 ·obtain rfl:k=t.q.nx.length:=by omega
  rw[show El t l F t.q.nx.length=WL t l F from rfl];(repeat first|refine sN rfl ?_|refine tA rfl ?_|refine s2 rfl λ_ f=>?_|refine aU rfl ?_|apply Aa)
  ((refine aC rfl ?_ ?_<;>rintro⟨⟩);all_goals try(exfalso;(simp only[oZ] at *;omega)))
  apply aE;(repeat first|refine tA rfl ?_|refine aU rfl ?_);(refine pW rfl ?_ rfl (by rfl);refine Aj [0] rfl rfl (u) ⟨rfl,by decide,by decide⟩ rfl (by simp[cX,zC,c]) ?_;rintro Q H I ⟨rfl,rfl,rfl⟩ _);(repeat first|refine tA rfl ?_);apply Aa;refine Ak.Az [] [] rfl rfl [(6,.o (.arr 0 1 0 t.q.nx.length))] [(0,.cells 3 1 ((ND t.q.nx.length (Ds t l F)).map AE))] [0] (rl c rfl) (by (simp[cX,zC,c])) ?_;(try dsimp only[cA,cB]);refine Ak.settle [(6,Al (ND t.q.nx.length (Ds t l F)))] ⟨⟨_,rfl,.o (.full rfl (by simp[d5]) (by simp))⟩,trivial⟩ ?_;refine aR ⟨_,rfl,rfl⟩
theorem Im(t:CO):Pure Tryz.prog TB 114 [QY t] (eB (Bi t)):=by
 unfold Bi;refine eN Tryz.func114 rfl (by kernel_rfl) rfl ?_;intro Z b;(repeat' first|refine tA rfl ?_|(refine sC rfl (Ch t.s) ?_;intro _ a)|(refine sC rfl (Bq t.q) ?_;intro _ a)|(refine sC rfl (Dw t.al) ?_;intro _ a)|refine s3 rfl ?_ ?_<;>rintro rfl|refine aU rfl ?_|apply Aa|(refine aC rfl ?_ ?_<;>rintro⟨⟩)|apply aK|apply aE|apply aB|refine aR ⟨_,rfl,?_⟩)
 all_goals (show E.o _=E.o _;simp_all)
noncomputable def KH(t:CO)(w:W):Bool:=Bi t && (within w t.al && LS t w)
theorem YG{w:W}{al:Int}(h:within w al=true):∀c∈w,0<=(c.toNat:Int)-97/\(c.toNat:Int)-97<6:=λc a=>IL (EI h c a)
theorem Ok(t:CO)(w:W)(A:w.length<=1099511627776):Pure Tryz.prog TB 210 [QY t,eT w] (eB (KH t w)):=by
 have n:=Im (TB:=TB) t;have m:=Er (TB:=TB) w t.al A;by_cases h:(Bi t && within w t.al)=true
 ·have ht:Bi t=true:=by revert h;cases Bi t<;>simp
  have g:within w t.al=true:=by revert h;cases within w t.al<;>simp
  have z:=YG g
  have y:KH t w=LS t w:=by unfold KH;rw[ht,g];rfl
  rw[y];rw[ht]at n;rw[g]at m;have j:=XD (TB:=TB) ht;refine eG Tryz.func210 rfl (by kernel_rfl) rfl ?_;intro Z d
  (repeat' first|refine tA rfl ?_|refine s2 rfl λ_ a=>?_|refine sP rfl (n) rfl ?_|refine sP rfl (m) rfl ?_|refine sP rfl (j) rfl ?_|refine s3 rfl ?_ ?_<;>rintro rfl|refine aU rfl ?_|apply Aa|(refine aC rfl ?_ ?_<;>rintro⟨⟩));all_goals try contradiction
  apply aK;(repeat first|refine tA rfl ?_|refine sP rfl (j) rfl ?_|refine aU rfl ?_|apply Aa);apply aB;refine aL (α:={x:Nat×PS // x.1<=w.length/\C7 t x.2/\Gg t x.2 (w.drop x.1)=LS t w}) [1,2] [] rfl rfl (λs=>[(5,Al (ND t.q.nx.length s.1.2)),(6,eI .i64 s.1.1)]) (λs=>[]) 0 (λs=>w.length-s.1.1) (⟨⟨0,Cz t⟩,by simp,GI ht,rfl⟩) d rfl (by (simp[cX,zC,d])) ?_;rintro⟨⟨i,F⟩,hi,l,e⟩;(try dsimp only[cA,cB]);have hi:i<=w.length:=hi;have l:C7 t F:=l;have e:Gg t F (w.drop i)=LS t w:=e;have f:=dV (TB:=TB) ht (F:=F);by_cases p:i<w.length
  ·obtain⟨c,v⟩:=get_some p
   have u:w[((i:Nat):Int).toNat]?=some c:=by simpa using v
   have k:=z c (co v);have r:=IG (TB:=TB) w i c u;have o:=bk (TB:=TB) ht l k;have hno:=Mn ht k l;rw[BB v,Gg]at e;generalize Fu t F=b at *
   (repeat' first|refine tA rfl ?_|refine s2 rfl λ_ a=>?_|refine sP rfl (f) rfl ?_|refine s3 rfl ?_ ?_<;>rintro rfl|refine aU rfl ?_|apply Aa|(refine aC rfl ?_ ?_<;>rintro⟨⟩));all_goals try contradiction
   all_goals first|(exfalso;(simp only[oZ] at *;omega);done)|skip
   ·have hb:b=false:=by simpa using a
    subst hb;apply aK;refine aS (aB ?_);refine rG (Gk []) (by kernel_rfl) ?_;(repeat first|(refine sA rfl ?_ ?_;first|exact tI|omega)|refine sP rfl (r) rfl ?_|refine sP rfl (o) rfl ?_|refine aU rfl ?_|apply Aa);refine⟨⟨⟨i+1,Ds t ((c.toNat:Int)-97) F⟩,by omega,hno,by simpa using e⟩,by dsimp only;(omega),[],?_⟩;simp[cX,zC,d]
   ·have hb:b=true:=by simpa using a
    subst hb
    have e:LS t w=false:=by simpa using e.symm
    rw[e];apply aE;(repeat first|refine tA rfl ?_|refine s2 rfl λ_ a=>?_|refine sP rfl (f) rfl ?_|refine aU rfl ?_|apply Aa);(subst_vars;exact aR ⟨_,rfl,rfl⟩)
  ·obtain rfl:i=w.length:=by omega
   rw[rv,Gg]at e;rw[<-e]
   (repeat' first|refine tA rfl ?_|refine s2 rfl λ_ a=>?_|refine sP rfl (f) rfl ?_|refine s3 rfl ?_ ?_<;>rintro rfl|refine aU rfl ?_|apply Aa|(refine aC rfl ?_ ?_<;>rintro⟨⟩));all_goals try contradiction
   all_goals first|(exfalso;(simp only[oZ] at *;omega);done)|skip
   apply aE;(repeat first|refine tA rfl ?_|refine s2 rfl λ_ a=>?_|refine sP rfl (f) rfl ?_|refine aU rfl ?_|apply Aa);(subst_vars;exact aR ⟨_,rfl,rfl⟩)
 ·have y:KH t w=false:=by unfold KH;revert h;cases Bi t<;>cases within w t.al<;>simp
  rw[y];refine eG Tryz.func210 rfl (by kernel_rfl) rfl ?_;intro Z d
  (repeat' first|refine tA rfl ?_|refine s2 rfl λ_ a=>?_|(refine sC rfl (n) ?_;intro _ a)|(refine sC rfl (m) ?_;intro _ a)|refine s3 rfl ?_ ?_<;>rintro rfl|refine aU rfl ?_|apply Aa|(refine aC rfl ?_ ?_<;>rintro⟨⟩));all_goals try contradiction
  all_goals first
   | (subst_vars;exact aR ⟨_,rfl,rfl⟩)
   | (exfalso;simp_all;done)
theorem OF(t:Ex)(hk:t.kn=false):Pure Tryz.prog TB 67 [EY t] (eI .i64 (if Bi ⟨t.s,t.q,t.al⟩ then t.al else -1)):=by
 obtain⟨kn,p,s,q,al⟩:=t;dsimp only at hk;subst hk;have c:=Im (TB:=TB) ⟨s,q,al⟩;refine eN Tryz.func67 rfl (by kernel_rfl) rfl ?_;intro Z b;(repeat' first|refine tA rfl ?_|refine s2 rfl λ_ a=>?_|(refine sC rfl (c) ?_;intro _ a)|refine s3 rfl ?_ ?_<;>rintro rfl|refine aU rfl ?_|apply Aa|(refine aC rfl ?_ ?_<;>rintro⟨⟩)|apply aK|apply aE|apply aB|refine aR ⟨_,rfl,?_⟩)
 all_goals first
  | (show E.o _=E.o _;congr;grind)
  | (exfalso;simp at *;done)
theorem Pf(t:Ex)(hk:t.kn=false)(w:W)(b:w.length<=1099511627776):Pure Tryz.prog TB 154 [EY t,eT w] (eB (KH ⟨t.s,t.q,t.al⟩ w)):=by
 obtain⟨kn,p,s,q,al⟩:=t;dsimp only at hk;subst hk;have c:=Ok (TB:=TB) ⟨s,q,al⟩ w b;refine eN Tryz.func154 rfl (by kernel_rfl) rfl ?_;intro Z a;(repeat' first|refine tA rfl ?_|refine sP rfl (c) rfl ?_|refine aU rfl ?_|apply Aa|(refine aC rfl ?_ ?_<;>rintro⟨⟩)|apply aK|apply aE|apply aB|refine aR ⟨_,rfl,?_⟩)
 all_goals rfl
theorem jN{t:Ex}(hk:t.kn=false):KK Tryz.prog TB 67 154 t (if Bi ⟨t.s,t.q,t.al⟩ then t.al else -1) (KH ⟨t.s,t.q,t.al⟩):=⟨OF t hk,Pf t hk⟩
def Pe(A:W->Bool)(al:Int)(t:A3)(w:W):Option A3:=if A4 A al t && Gz al w then FO t w else none
theorem QS{t:Ex}{al:Int}{A:W->Bool}(n:KK Tryz.prog TB 67 154 t al A)(tab:A3)(q:WJ tab)(w:W)(y:w.length<=1048576) :
 Pure Tryz.prog TB 213 [EY t,DU tab,eT w] (I7 (Pe A al tab w)):=by
 have i:=FK n tab q;have g:=PI n w (by omega);have f:=Jx (TB:=TB) tab.cols w (by have:=q.cl;omega);by_cases e:(A4 A al tab && Gz al w)=true
 ·have ha:Pe A al tab w=FO tab w:=by unfold Pe;rw[if_pos e]
  rw[ha];rw[d4]at e;rw[e.1]at i;rw[e.2]at g;have b:cU al tab:=(Ep e.1).1;have k:=b.r1;have l:=b.c1;have s:=b.rl;have v:=b.cl;by_cases m:tab.cols.length=20\/w∈tab.cols
  ·have p:FO tab w=none:=by unfold FO;rw[if_pos m]
   rw[p];refine eG Tryz.func213 rfl (by kernel_rfl) rfl ?_;intro Z j;(repeat' first|refine sN rfl ?_|refine tA rfl ?_|(refine s2 rfl λ_ a=>?_;try (simp only[qv,qD]at a;subst a))|refine sP rfl (i) rfl ?_|refine sP rfl (g) rfl ?_|(refine sC rfl (f) ?_;intro _ a)|(refine Af rfl ?_;refine gA rfl ?_;first|refine gS (λ_ _=>AA rfl rfl (by rfl) (by rfl)) ?_)|refine s3 rfl ?_ ?_<;>rintro rfl|refine aU rfl ?_|apply Aa|refine rE (by kernel_rfl) ?_|(refine aC rfl ?_ ?_<;>rintro⟨⟩)|apply aK|apply aE|apply aB|refine aR ⟨_,rfl,?_⟩)
   all_goals first
    | rfl
    | (exfalso;clear i g f n;simp at *;grind;done)
    | skip
  ·have p:FO tab w=some ⟨tab.rows,tab.cols++[w]⟩:=by unfold FO;rw[if_neg m]
   rw[p];have u:decide (w∈tab.cols)=false:=decide_eq_false λh=>m (.inr h);have x:tab.cols.length≠20:=λh=>m (.inl h);rw[u]at f;refine eG Tryz.func213 rfl (by kernel_rfl) rfl ?_;intro Z j;(repeat first|refine sN rfl ?_|refine tA rfl ?_|(refine s2 rfl λ_ a=>?_;try (simp only[qv,qD]at a;subst a))|refine sP rfl (i) rfl ?_|refine sP rfl (g) rfl ?_|refine sP rfl (f) rfl ?_|refine aU rfl ?_|apply Aa);refine Ak.cond rfl (λhb=>?_) (λhb=>?_)<;>cases hb
   ·exfalso;(simp only[oZ] at *;omega)
   apply aK;(repeat first|refine aU rfl ?_);refine rG (oP [0,1,2,4,5,6,8,9,3,7,10,11,12,13] [3,7,10,12] [0,1,2,4,5,6,8,9]) (by kernel_rfl) ?_;(repeat first|refine tX rfl ?_|(refine Af rfl ?_;refine gA rfl ?_;first|refine gS (λ_ _=>TU (by rfl) (by rfl)) ?_|refine gS (λ_ _=>P8 rfl rfl rfl rfl rfl (by rfl) (by rfl) (by rfl) (by rfl) (by rfl)) ?_));(refine pW rfl ?_ rfl (by rfl);refine ET rfl rfl rfl (by intro r c;simp at c;obtain⟨_,_,rfl⟩:=c;rfl) (by rfl) (am rfl) (by simp;omega) (λh=>?_) (λ_=>?_))
   ·exfalso;simp at h;rw[h]at k;simp at k
   (repeat first|(refine Af rfl ?_;refine gA rfl ?_;first|refine gS (λ_ _=>TU (by rfl) (by rfl)) ?_|refine gS (λ_ _=>P8 rfl rfl rfl rfl rfl (by rfl) (by rfl) (by rfl) (by rfl) (by rfl)) ?_));(refine pW rfl ?_ rfl (by rfl);refine ET rfl rfl rfl (by intro r c;simp at c;obtain⟨_,_,rfl⟩:=c;rfl) (by rfl) (am rfl) (by simp;omega) (λh=>?_) (λ_=>?_))
   ·exfalso;simp at h;rw[h]at l;simp at l
   (refine pW rfl ?_ rfl (by rfl);refine Au rfl rfl rfl (by first|(simp;done)|(simp;(omega))) rfl (by intro r c;simp at c;subst c;rfl) (by rfl) (am rfl) (by simp;omega) ?_);(repeat first|refine tA rfl ?_|(refine Af rfl ?_;refine gA rfl ?_;first|refine gS (λ_ _=>AA rfl rfl (by rfl) (by rfl)) ?_)|apply Aa);refine Ak.settle [(6,.o (.ip [BX tab.rows,BX (tab.cols++[w])])),(7,eB true)] ⟨⟨_,rfl,.o (.box rfl (.cons (.full rfl (by simp[d5]) (by simp)) (.cons (.full rfl (by simp[d5]) (by simp)) .nil)))⟩,⟨_,rfl,.o .d⟩,trivial⟩ ?_;refine aR ⟨_,rfl,rfl⟩
 ·have ha:Pe A al tab w=none:=by unfold Pe;rw[if_neg e]
  rw[ha];refine eG Tryz.func213 rfl (by kernel_rfl) rfl ?_;intro Z j;(repeat' first|refine sN rfl ?_|refine tA rfl ?_|(refine s2 rfl λ_ a=>?_;try (simp only[qv,qD]at a;subst a))|(refine sC rfl (i) ?_;intro _ a)|(refine sC rfl (g) ?_;intro _ a)|(refine sC rfl (f) ?_;intro _ a)|(refine Af rfl ?_;refine gA rfl ?_;first|refine gS (λ_ _=>AA rfl rfl (by rfl) (by rfl)) ?_)|refine s3 rfl ?_ ?_<;>rintro rfl|refine aU rfl ?_|apply Aa|refine rE (by kernel_rfl) ?_|(refine aC rfl ?_ ?_<;>rintro⟨⟩)|apply aK|apply aE|apply aB|refine aR ⟨_,rfl,?_⟩)
  all_goals first
   | rfl
   | (exfalso;clear i g f n;simp at *;grind;done)
   | skip
theorem Tt(w:W)(i:Nat)(c:UInt8)(b:w[((i:Nat):Int).toNat]?=some c):Pure Tryz.prog TB 82 [eT w,eI .i64 i] (eI .i64 (if Gx c then (c.toNat:Int)-97 else -1)):=by
 by_cases h:Gx c=true
 ·rw[if_pos h]
  rw[FQ,decide_eq_true_eq]at h;exact HA w i c b h
 ·rw [if_neg h]
  rw[FQ,decide_eq_true_eq]at h;have hb:=c.toNat_lt;refine eN Tryz.func82 rfl (by kernel_rfl) rfl ?_;intro Z a;(repeat' first|(refine sA rfl ?_ ?_;first|exact tI|omega)|(refine s4 rfl ‹_› rfl ?_ ?_;omega)|refine s2 rfl λ_ d=>?_|refine s3 rfl ?_ ?_<;>rintro rfl|refine aU rfl ?_|apply Aa|(refine aC rfl ?_ ?_<;>rintro⟨⟩)|apply aK|apply aE|apply aB|refine aR ⟨_,rfl,?_⟩)
  all_goals first
   | rfl
   | (exfalso;grind)
theorem U9(al:Int)(c:UInt8):hasB al (if Gx c then (c.toNat:Int)-97 else -1)=IF al c:=by
 unfold IF hasB;by_cases h:Gx c=true
 ·rw[if_pos h,h]
  rw[FQ,decide_eq_true_eq]at h
  have e:((c.toNat:Int)-97).toNat=c.toNat-97:=by omega
  rw[e];simp;omega
 ·rw[if_neg h]
  simp[h]
def FA(A:W->Bool)(al:Int)(t:A3)(w:W):Option W:=if BE A al t && Gz al w then CM A t w else none
theorem PH{al:Int}{w:W}(h:Gz al w=true):AN (A2 al) w/\w.length<=4000/\within w al=true:=by
 unfold Gz at h;rw[d4,decide_eq_true_eq]at h;exact⟨EI h.1,h.2,h.1⟩
theorem cY{A:W->Bool}{al:Int}{t:A3}{w:W}(ha:Bb al=true)(a:BU A (A2 al) t)(c:t.rows.length<=12)(b:Gz al w=true):QR (AY A al t) w=MY A t w:=by
 obtain⟨e,f,d⟩:=PH b;unfold QR;rw[LI ha a c,Lw a e]
 show (true && (within w al && _))=_
 rw[d];rfl
theorem Wq{A:W->Bool}{t:A3}{w:W}{k q:Nat}{c:UInt8}{R:Option W}(d:w[k]?=some c)(a:R=splitAt A t (A w) q (w.drop k)) :
 (A (t.rows.getD (C9 A t (t.rows.getD q []++[c])) []++w.drop (k+1))≠A w->R=some (w.drop (k+1)))/\(A (t.rows.getD (C9 A t (t.rows.getD q []++[c])) []++w.drop (k+1))=A w->R=splitAt A t (A w) (C9 A t (t.rows.getD q []++[c])) (w.drop (k+1))):=by
 have:=MC (L:=A) (t:=t) (b:=A w) (q:=q) d;rw[this]at a;exact⟨λh=>by rw[a,if_pos h],λh=>by rw[a,if_neg (by simpa using h)]⟩
theorem RB{t:Ex}{al:Int}{A:W->Bool}(G:KK Tryz.prog TB 67 154 t al A)(hal:0<=al->Bb al=true)(tab:A3)(P:WJ tab)(w:W)(hw:w.length<=1048576) :
 Pure Tryz.prog TB 212 [EY t,DU tab,eT w] (aD (FA A al tab w)):=by
 have n:=HF G tab P;have q:=PI G w (by omega);have h4:=G.ask w (by omega);by_cases r:BE A al tab=true
 ·rw [if_pos r]at n
  obtain⟨Q,ho,f⟩:=JV r;have d:=(Ep Q).1;have ha:=hal d.pos;have hau:=LI ha f d.rl;have I:=Pd (TB:=TB) (AY A al tab) w (by omega);by_cases i:Gz al w=true
  ·rw [i]at q
   rw[cY ha f d.rl i]at I
   have u:FA A al tab w=CM A tab w:=by unfold FA;rw[r,i];rfl
   rw[u];by_cases J:MY A tab w=A w
   ·have y:CM A tab w=none:=by unfold CM;rw[if_pos J]
    rw[y];rw[J]at I;refine eG Tryz.func212 rfl (by kernel_rfl) rfl ?_;intro Z b;(repeat' first|refine tA rfl ?_|(refine s2 rfl λ_ a=>?_;try (simp only[qv,qD]at a;subst a))|refine sP rfl (n) rfl ?_|refine sP rfl (q) rfl ?_|refine sP rfl (I) rfl ?_|refine sP rfl (h4) rfl ?_|refine aU rfl ?_|apply Aa|refine rE (by kernel_rfl) ?_|(refine aC rfl ?_ ?_<;>rintro⟨⟩)|apply aK|apply aE|apply aB|refine aR ⟨_,rfl,?_⟩)
    all_goals first
     | rfl
     | (exfalso;grind;done)
   ·obtain⟨R,M⟩:∃R,R=CM A tab w:=⟨_,rfl⟩
    rw[<-M]
    have M:R=splitAt A tab (A w) 0 (w.drop 0):=by rw[M];unfold CM;rw[if_neg J];rfl
    obtain⟨m,hw4,_⟩:=PH i;have hrl:=d.rl;have T:=d.r1;refine eG Tryz.func212 rfl (by kernel_rfl) rfl ?_;intro Z b;(repeat first|refine tA rfl ?_|refine sP rfl (n) rfl ?_|refine sP rfl (q) rfl ?_|refine sP rfl (I) rfl ?_|refine sP rfl (h4) rfl ?_|refine aU rfl ?_|apply Aa);refine rG (Gk []) (by kernel_rfl) ?_;(repeat first|refine tA rfl ?_|(refine s2 rfl λ_ a=>?_;try (simp only[qv,qD]at a;subst a))|refine sP rfl (n) rfl ?_|refine sP rfl (q) rfl ?_|refine sP rfl (I) rfl ?_|refine sP rfl (h4) rfl ?_|apply Aa);refine Ak.cond rfl (λhb=>?_) (λhb=>?_)<;>cases hb
    ·exfalso;exact J (by simpa using a)
    apply aK;(repeat first|refine tA rfl ?_|refine aU rfl ?_|apply Aa);have h0:0<tab.rows.length:=T;apply aB;refine aL (α:={k:Nat // k<=w.length/\R=splitAt A tab (A w) (runM A tab 0 (w.take k)) (w.drop k)/\A (tab.rows.getD (runM A tab 0 (w.take k)) []++w.drop k)=A w}) [2,3,4,8] [0] rfl rfl (λ⟨k,hk,p,H⟩=>[(10,eI .i64 (runM A tab 0 (w.take k):Nat)),(11,eI .i64 k)]) (λ⟨k,hk,p,H⟩=>[]) 1 (λ⟨k,hk,p,H⟩=>w.length-k) (⟨0,by omega,M,by simp[d.r0,runM]⟩) b rfl (by (simp[cX,zC,b]<;>rfl)) ?_;rintro⟨k,hk,p,H⟩;(try dsimp only[cA,cB]);have x:=f.run (w.take k) 0 (J9 m k) h0;by_cases X:k<w.length
    ·obtain⟨c,K⟩:=get_some X
     have hc':w[((k:Nat):Int).toNat]?=some c:=by simpa using K
     have F:=m c (co K);have B:=IL F;have Y:=IG (TB:=TB) w k c hc'
     have hnl:(AY A al tab).nx.length=tab.rows.length:=by simp[AY]
     have z:=J0 (TB:=TB) (AY A al tab) hau (runM A tab 0 (w.take k)) (by omega) ((c.toNat:Int)-97) B.1 B.2;have s:=NI (L:=A) (t:=tab) K 0;have v:=f.run (w.take (k+1)) 0 (J9 m (k+1)) h0;rw[LU (L:=A) (al:=al) (t:=tab) x F,<-s]at z;have e:=Wq K p;rw[<-s]at e;obtain⟨N,l⟩:=get_some x;have hx1':=get_map (g:=CR) l;obtain⟨o,j⟩:=get_some v;have hx2':=get_map (g:=CR) j
     have e1:tab.rows.getD (runM A tab 0 (w.take k)) []=N:=by simp[l]
     have e2:tab.rows.getD (runM A tab 0 (w.take (k+1))) []=o:=by simp[j]
     have hr1b:=P.rb N (co l);have hr2b:=P.rb o (co j);rw[e1]at H;rw[e2]at e
     have V:Pure Tryz.prog TB 154 [EY t,eT (N++w.drop ((k:Nat):Int).toNat)] (eB (A w)):=by
      rw[f9,<-H];exact G.ask _ (by simp;omega)
     have ek:(((k:Nat):Int)+1).toNat=k+1:=by omega
     have U:Pure Tryz.prog TB 154 [EY t,eT (o++w.drop (((k:Nat):Int)+1).toNat)] (eB (A (o++w.drop (k+1)))):=by
      rw[ek];exact G.ask _ (by simp;omega)
     have hd1:(w.drop ((k:Nat):Int).toNat).length<=1048576:=by simp;omega
     have hd2:(w.drop (((k:Nat):Int)+1).toNat).length<=1048576:=by simp;omega
     (repeat first|refine tA rfl ?_|refine s2 rfl λ_ a=>?_|refine aU rfl ?_|apply Aa);refine Ak.cond rfl (λhb=>?_) (λhb=>?_)<;>cases hb
     rotate_left
     ·exfalso;(simp only[oZ] at *;omega)
     (repeat' first|(refine sA rfl ?_ ?_;first|exact tI|omega)|(refine s4 rfl ‹_› rfl ?_ ?_;omega)|refine s2 rfl λ_ a=>?_|refine sP rfl (Y) rfl ?_|refine sP rfl (z) rfl ?_|refine sP rfl (V) rfl ?_|refine sP rfl (U) rfl ?_|(refine Af rfl ?_;refine gA rfl ?_;first|refine gS (λ_ _=>Et rfl rfl (by omega) (by omega)) ?_)|refine aU rfl ?_|apply Aa|refine rE (by kernel_rfl) ?_|(refine aC rfl ?_ ?_<;>rintro⟨⟩)|apply aK|apply aE|apply aB|refine aR ⟨_,rfl,?_⟩)
     ·have y:=e.1 (by intro h;rw[h]at a;simp at a)
      rw[y]
      show E.t _=E.t _
      rw[ek]
     ·have S:=e.2 (by simpa using (by simpa using a:A w=A (o++w.drop (k+1))).symm)
      have hA2:A (tab.rows.getD (runM A tab 0 (w.take (k+1))) []++w.drop (k+1))=A w:=by rw[e2];exact(by simpa using a:A w=A (o++w.drop (k+1))).symm
      refine⟨⟨k+1,by omega,S,hA2⟩,by dsimp only;(omega),[0],?_⟩;simp[cX,zC,b]
    ·obtain rfl:k=w.length:=by omega
     rw[rv]at p;have y:R=none:=p;rw[y];(repeat first|refine tA rfl ?_|refine s2 rfl λ_ a=>?_|refine aU rfl ?_|apply Aa);refine Ak.cond rfl (λhb=>?_) (λhb=>?_)<;>cases hb
     ·exfalso;(simp only[oZ] at *;omega)
     (repeat' first|refine tA rfl ?_|refine aU rfl ?_|apply Aa|(refine aC rfl ?_ ?_<;>rintro⟨⟩)|apply aK|apply aE|apply aB|refine aR ⟨_,rfl,?_⟩);rfl
  ·have i:Gz al w=false:=by simpa using i
   rw[i]at q
   have u:FA A al tab w=none:=by unfold FA;rw[i];simp
   rw[u];refine eG Tryz.func212 rfl (by kernel_rfl) rfl ?_;intro Z b;(repeat' first|refine tA rfl ?_|(refine s2 rfl λ_ a=>?_;try (simp only[qv,qD]at a;subst a))|refine sP rfl (n) rfl ?_|refine sP rfl (q) rfl ?_|refine aU rfl ?_|apply Aa|refine rE (by kernel_rfl) ?_|(refine aC rfl ?_ ?_<;>rintro⟨⟩)|apply aK|apply aE|apply aB|refine aR ⟨_,rfl,?_⟩)
   all_goals first
    | rfl
    | (exfalso;grind;done)
 ·have u:FA A al tab w=none:=by unfold FA;simp[r]
  rw[if_neg r]at n;rw[u];refine eG Tryz.func212 rfl (by kernel_rfl) rfl ?_;intro Z b;(repeat' first|refine tA rfl ?_|(refine s2 rfl λ_ a=>?_;try (simp only[qv,qD]at a;subst a))|refine sP rfl (n) rfl ?_|refine aU rfl ?_|apply Aa|refine rE (by kernel_rfl) ?_|(refine aC rfl ?_ ?_<;>rintro⟨⟩)|apply aK|apply aE|apply aB|refine aR ⟨_,rfl,?_⟩)
  all_goals first
   | rfl
   | (exfalso;grind;done)
theorem Nq(t:CO):Pure Tryz.prog TB 106 [QY t] (eB (Bi t)):=by
 unfold Bi;refine eN Tryz.func106 rfl (by kernel_rfl) rfl ?_;intro Z b;(repeat' first|refine tA rfl ?_|(refine sC rfl (Cg t.s) ?_;intro _ a)|(refine sC rfl (Bj t.q) ?_;intro _ a)|(refine sC rfl (HI t.al) ?_;intro _ a)|refine s3 rfl ?_ ?_<;>rintro rfl|refine aU rfl ?_|apply Aa|(refine aC rfl ?_ ?_<;>rintro⟨⟩)|apply aK|apply aE|apply aB|refine aR ⟨_,rfl,?_⟩)
 all_goals (show E.o _=E.o _;simp_all)
abbrev o3(p:AV)(t:CO):E:=oY false p t.s t.q t.al
theorem QE(p:AV)(t:CO):Pure Tryz.prog TB 143 [o3 p t] (eI .i64 (if Bi t then t.al else -1)):=by
 have c:=Nq (TB:=TB) t;refine eN Tryz.func143 rfl (by kernel_rfl) rfl ?_;intro Z b;(repeat' first|refine tA rfl ?_|refine s2 rfl λ_ a=>?_|(refine sC rfl (c) ?_;intro _ a)|refine s3 rfl ?_ ?_<;>rintro rfl|refine aU rfl ?_|apply Aa|(refine aC rfl ?_ ?_<;>rintro⟨⟩)|apply aK|apply aE|apply aB|refine aR ⟨_,rfl,?_⟩)
 all_goals first
  | (show E.o _=E.o _;congr;grind)
  | (exfalso;simp at *;done)
abbrev JL(c:C):C:=.mv 145 [c]
theorem Rx[Dp TB](p:AV){t:CO}(ht:Bi t=true)(ok:W->Prop):∃m,NW t ok m/\AK Tryz.prog TB 62 0 [] 0 [o3 p t] (λx σ nx=>x=.t [(true,[.d (iD t.al),JL (.ptr 0 14 0 0)]),(false,[.d (bD true)])]/\σ=NJ t m/\nx=5):=by
 obtain⟨m,j,e⟩:=TD (TB:=TB) ht ok;refine⟨m,j,?_⟩;have f:=QE (TB:=TB) p t;rw[if_pos ht]at f
 have b:Bb t.al=true:=by unfold Bi at ht;simp only[d4]at ht;exact ht.2.2
 unfold Bb at b;simp only[decide_eq_true_eq]at b;refine AK.Bd (AK.OU (m:=0) (am rfl) Tryz.func62 rfl (by kernel_rfl) (am rfl) ?_);intro Z a;(repeat first|refine tA rfl ?_|refine sP rfl (f) rfl ?_|refine aU rfl ?_|apply Aa);apply aB;(repeat first|refine tA rfl ?_|refine s2 rfl λ_ c=>?_|refine aU rfl ?_|apply Aa)
 ((refine aC rfl ?_ ?_<;>rintro⟨⟩);all_goals try (simp at c;done))
 ·exfalso;(simp only[oZ] at *;omega)
 ·(repeat first|refine tA rfl ?_|refine aU rfl ?_|apply Aa)
  ((refine aC rfl ?_ ?_<;>rintro⟨⟩);all_goals try (simp at c;done))
  apply aK;(repeat first|refine tA rfl ?_|refine aU rfl ?_);(refine pW rfl ?_ rfl (by rfl);refine BI [] rfl rfl 0 (e) (by decide) ⟨rfl,by decide,by decide⟩ rfl (by simp[cX,zC,a,A1]) ?_;rintro k g h ⟨rfl,rfl,rfl⟩ _);(repeat first|(refine Af rfl ?_;refine gA rfl ?_;first|refine gS (λ_ _=>og rfl) ?_));(repeat first|refine tA rfl ?_|(refine Af rfl ?_;refine gA rfl ?_;first|refine gS (λ_ _=>AA rfl rfl (by rfl) (by rfl)) ?_));apply Aa;refine aR ⟨_,rfl,[1,2,3,4,5],.t [(true,[.d (iD t.al),JL (.ptr 0 14 0 0)]),(false,[.d (bD true)])],NJ t m,⟨by intro i hi;omega,by decide⟩,rfl,by (simp[cX,zC,a,A1]),rfl,rfl,rfl⟩
def CN(te:Ex):Bool:=if te.kn then AT te.p else Bi ⟨te.s,te.q,te.al⟩
def A0(te:Ex):Int:=if te.kn then te.p.al else te.al
noncomputable def Cb(te:Ex)(w:W):Bool:=if te.kn then LA te.p w else LS ⟨te.s,te.q,te.al⟩ w
def QD(te:Ex)(ok:W->Prop):Prop:=te.kn=false->lB ⟨te.s,te.q,te.al⟩ ok
abbrev kK(al:Int):W->Prop:=λw=>AN (A2 al) w/\w.length<=1048576
theorem nO{tabs:List (Nat×Obj)}[Dp ⟨tabs,none⟩]{t:CO}{ok:W->Prop}(ht:Bi t=true)(a:∀w,ok w->kK t.al w)(b:lB t ok){r:Nat}:Jj Tryz.prog ⟨tabs,some (MG t ok,r)⟩ (JL (Mw r)) (LS t) ok:=
 ⟨rfl,λe ha d=>eW (es:=[eT _]) e (by simp[Kw,ha]) rfl (fL ht b d (λc f=>IL ((a _ d).1 c f)) (a _ d).2) rfl⟩
theorem nc{tabs:List (Nat×Obj)}{h:Option (Hid×Nat)}{b:Nat}{vals:List Value}(a:MW ⟨tabs,none⟩ b vals):MW ⟨tabs,h⟩ b vals:=⟨a.out⟩
theorem lh{tabs:List (Nat×Obj)}{h:Option (Hid×Nat)}(a:Dp ⟨tabs,none⟩):Dp ⟨tabs,h⟩:=by
 cases a
 constructor<;>(apply nc;assumption)
def Yt:List W:=[[97,98,32,50,32,48,97,49,32,49,98,48],[97,98,99,32,51,32,48,97,49,32,49,98,50,32,50,99,48],[97,98,32,51,32,48,97,48,32,48,97,49,32,48,98,48,32,49,98,50,32,50,97,50],[98,99,32,50,32,48,98,49,32,49,99,48],[98,99,32,51,32,48,98,49,32,48,99,48,32,49,99,50,32,50,98,50,32,50,99,50],[45,32,49],[97,32,49,32,48,97,48],[97,99,32,52,32,48,97,49,32,48,97,50,32,49,99,51,32,50,97,50,32,51,97,48,32,51,99,51],[97,98,99,32,52,32,48,97,48,32,48,98,49,32,49,98,50,32,49,99,48,32,50,99,51,32,51,97,49],[97,98,32,53,32,48,97,48,32,48,97,49,32,48,98,48,32,49,97,50,32,49,98,50,32,50,97,51,32,50,98,51,32,51,97,52,32,51,98,52],[97,98,100,32,51,32,48,97,49,32,48,100,48,32,49,98,48,32,49,100,50]]
theorem cg:∀w∈Yt,w.length<=60:=by decide
theorem Xw:Pure Tryz.prog TB 285 [] (BW Yt):=by
 refine eN Tryz.func285 rfl (by kernel_rfl) rfl ?_;intro Z a;(repeat first|refine tA rfl ?_|refine aU rfl ?_|apply Aa);refine aR ⟨_,rfl,rfl⟩
theorem Sa(b:List UInt8)(hb:b.length<=2000)(p:Int)(N:0<=p/\p<700000000):Spec Tryz.prog TB 254 [(0,Bt b p)] 1 [.o (.ptr 0 2 0 0)] (Lz b p 410 (λs=>s.es.length<=400)):=by
 obtain⟨c,Q,P,I⟩:=Bs (TB:=TB) b hb p 3 (by omega);obtain⟨w,H,J⟩:=mr (TB:=TB) b hb (p+1) (by omega) Yt (by decide) (by decide);have G:=cg w H;have z:=GO (TB:=TB) w (by omega);have g:∀q:Int,p<=q/\q<=p+2->∃(l j k:Int),(0<=j/\j<=8)/\Spec Tryz.prog TB 51 [(0,Bt b q)] 1 [.o (.ptr 0 2 0 0),Al [3,6,7,5,1,0,12]] (λx σ nx=>x=eI .i64 l/\σ=[(0,Bt b (q+1))]/\nx=1)/\
  Spec Tryz.prog TB 51 [(0,Bt b (q+1))] 1 [.o (.ptr 0 2 0 0),Al [3,2,4,1,5]] (λx σ nx=>x=eI .i64 j/\σ=[(0,Bt b (q+1+1))]/\nx=1)/\
  Spec Tryz.prog TB 51 [(0,Bt b (q+1+1))] 1 [.o (.ptr 0 2 0 0),Al [3,2,4,6]] (λx σ nx=>x=eI .i64 k/\σ=[(0,Bt b (q+1+1+1))]/\nx=1):=λq A=>by
  obtain⟨l,M,u⟩:=Dc (TB:=TB) b hb q (by omega) [3,6,7,5,1,0,12] (by decide) (by decide);obtain⟨j,v,t⟩:=Dc (TB:=TB) b hb (q+1) (by omega) [3,2,4,1,5] (by decide) (by decide);obtain⟨k,L,r⟩:=Dc (TB:=TB) b hb (q+1+1) (by omega) [3,2,4,6] (by decide) (by decide);exact⟨l,j,k,by simp at v;omega,u,t,r⟩
 refine eR Tryz.func254 rfl (by kernel_rfl) rfl ?_;intro Z a;(repeat first|refine tA rfl ?_|refine aU rfl ?_|apply Aa);(refine pW rfl ?_ rfl (by rfl);refine Aj [0] rfl rfl (I) ⟨rfl,by decide,by decide⟩ rfl (by simp[cX,zC,a,cN]) ?_;rintro h d e ⟨rfl,rfl,rfl⟩ _);(repeat first|refine s2 rfl λ_ K=>?_|apply Aa);(refine aC rfl ?_ ?_<;>rintro⟨⟩)
 ·(repeat first|refine tA rfl ?_|refine sP rfl (Xw) rfl ?_|refine aU rfl ?_)
  (refine pW rfl ?_ rfl (by rfl);refine Aj [0] rfl rfl (J) ⟨rfl,by decide,by decide⟩ rfl (by simp[cX,zC,a,cN]) ?_;rintro h d e ⟨rfl,rfl,rfl⟩ _);(refine pW rfl ?_ rfl (by rfl);refine Aj [] rfl rfl (z) ⟨rfl,by decide,by decide⟩ rfl trivial ?_;rintro h d e ⟨⟨y,ok⟩,F,rfl,rfl,rfl⟩ _);have B:y.es.length<=w.length+1:=F;(repeat first|refine tA rfl ?_|refine aU rfl ?_|apply Aa);(refine aC rfl ?_ ?_<;>rintro⟨⟩)
  ·(repeat first|refine tA rfl ?_|refine aU rfl ?_|apply Aa)
   exact aR ⟨_,rfl,[0],Bl y,[(0,Bt b (p+1+1))],⟨by intro i hi;match i with|0=>rfl,by decide⟩,rfl,by (simp[cX,zC,a,cN]),p+1+1,y,by omega,by show y.es.length<=400;omega,rfl,rfl,rfl⟩
  apply aK;obtain⟨l,j,k,v,u,t,r⟩:=g (p+1+1) (by omega);have f:=Jz (TB:=TB) b hb (p+1+1+1+1+1) (by omega) l j k (by omega);(repeat first|refine tA rfl ?_|refine aU rfl ?_);(refine pW rfl ?_ rfl (by rfl);refine Aj [0] rfl rfl (u) ⟨rfl,by decide,by decide⟩ rfl (by simp[cX,zC,a,cN]) ?_;rintro h d e ⟨rfl,rfl,rfl⟩ _);(repeat first|refine tA rfl ?_);(refine pW rfl ?_ rfl (by rfl);refine Aj [0] rfl rfl (t) ⟨rfl,by decide,by decide⟩ rfl (by simp[cX,zC,a,cN]) ?_;rintro h d e ⟨rfl,rfl,rfl⟩ _);(repeat first|refine tA rfl ?_);(refine pW rfl ?_ rfl (by rfl);refine Aj [0] rfl rfl (r) ⟨rfl,by decide,by decide⟩ rfl (by simp[cX,zC,a,cN]) ?_;rintro h d e ⟨rfl,rfl,rfl⟩ _);(refine pW rfl ?_ rfl (by rfl);refine BI [0] rfl rfl 1 (f) (by decide) ⟨rfl,by decide,by decide⟩ rfl (by simp[cX,zC,a,cN]) ?_;rintro h d e ⟨q,n,A,m,rfl,rfl,rfl⟩ _);(repeat first|refine tA rfl ?_|apply Aa);exact aR ⟨_,rfl,[0],Bl n,[(0,Bt b q)],⟨by intro i hi;match i with|0=>rfl,by decide⟩,rfl,by (simp[cX,zC,a,cN]),q,n,by omega,m.2.2,rfl,rfl,rfl⟩
 apply aK;obtain⟨l,j,k,v,u,t,r⟩:=g (p+1) (by omega);have f:=Jz (TB:=TB) b hb (p+1+1+1+1) (by omega) l j k (by omega);(repeat first|refine tA rfl ?_|refine aU rfl ?_);(refine pW rfl ?_ rfl (by rfl);refine Aj [0] rfl rfl (u) ⟨rfl,by decide,by decide⟩ rfl (by simp[cX,zC,a,cN]) ?_;rintro h d e ⟨rfl,rfl,rfl⟩ _);(repeat first|refine tA rfl ?_);(refine pW rfl ?_ rfl (by rfl);refine Aj [0] rfl rfl (t) ⟨rfl,by decide,by decide⟩ rfl (by simp[cX,zC,a,cN]) ?_;rintro h d e ⟨rfl,rfl,rfl⟩ _);(repeat first|refine tA rfl ?_);(refine pW rfl ?_ rfl (by rfl);refine Aj [0] rfl rfl (r) ⟨rfl,by decide,by decide⟩ rfl (by simp[cX,zC,a,cN]) ?_;rintro h d e ⟨rfl,rfl,rfl⟩ _);(refine pW rfl ?_ rfl (by rfl);refine BI [0] rfl rfl 1 (f) (by decide) ⟨rfl,by decide,by decide⟩ rfl (by simp[cX,zC,a,cN]) ?_;rintro h d e ⟨q,n,A,m,rfl,rfl,rfl⟩ _);(repeat first|refine tA rfl ?_|apply Aa);exact aR ⟨_,rfl,[0],Bl n,[(0,Bt b q)],⟨by intro i hi;match i with|0=>rfl,by decide⟩,rfl,by (simp[cX,zC,a,cN]),q,n,by omega,m.2.2,rfl,rfl,rfl⟩
abbrev KU(r:Sys×AV×Sys):E:=.t [(true,(AI r.1).map .d),(true,(AL r.2.1).map .d),(true,(AI r.2.2).map .d)]
structure lN (r:Sys×AV×Sys):Prop where
 a:r.1.es.length<=400
 b:MS 41 r.2.1
 c:r.2.2.es.length<=400
def gn(b:List UInt8)(p m:Int)(x:E)(σ:Ab)(nx:Nat):Prop:=∃(p':Int) (r:Sys×AV×Sys),(p<=p'/\p'<=p+m)/\lN r/\x=KU r/\σ=[(0,Bt b p')]/\nx=1
theorem MS.upto{m n:Nat}{a:AV}(h:MS m a)(c:m<=n):MS n a:=⟨by have:=h.nx;omega,by have:=h.ac;omega,λr b=>by have:=h.row r b;omega⟩
theorem jv{C X:Int->Sys->Prop}{Y:Prop}(h:∀q s,C q s->X q s)(hk:(∀q s,C q s->X q s)->Y):Y:=hk h
theorem XE(b:List UInt8)(hb:b.length<=2000)(p:Int)(T:0<=p/\p<600000000):Spec Tryz.prog TB 194 [(0,Bt b p)] 1 [.o (.ptr 0 2 0 0)] (gn b p 2000):=by
 have S:=PJ (TB:=TB) b hb p (by omega);refine eR Tryz.func194 rfl (by kernel_rfl) rfl ?_;intro Z a;(repeat first|refine tA rfl ?_|refine aU rfl ?_|apply Aa);(refine pW rfl ?_ rfl (by rfl);refine Aj [0] rfl rfl (S) ⟨rfl,by decide,by decide⟩ rfl (by simp[cX,zC,a,cN]) ?_;rintro t e f ⟨K,H,N,z,rfl,rfl,rfl⟩ _);(repeat first|refine tA rfl ?_|refine aU rfl ?_|apply Aa);have R:=PJ (TB:=TB) b hb K (by omega);(refine pW rfl ?_ rfl (by rfl);refine Aj [0] rfl rfl (R) ⟨rfl,by decide,by decide⟩ rfl (by simp[cX,zC,a,cN]) ?_;rintro t e f ⟨x,w,M,y,rfl,rfl,rfl⟩ _);(repeat first|refine tA rfl ?_|refine aU rfl ?_|apply Aa);obtain⟨c,c1,Y,P⟩:=Bs (TB:=TB) b hb x 4 (by omega);(refine pW rfl ?_ rfl (by rfl);refine Aj [0] rfl rfl (P) ⟨rfl,by decide,by decide⟩ rfl (by simp[cX,zC,a,cN]) ?_;rintro t e f ⟨rfl,rfl,rfl⟩ _);apply jv (C:=λq s=>(p<=q/\q<=p+1300)/\s.es.length<=400)
 case hk=>
  intro hk;(repeat first|refine s2 rfl λ_ G=>?_|apply Aa);(refine aC rfl ?_ ?_<;>rintro⟨⟩)
  ·(repeat first|refine tA rfl ?_|refine aU rfl ?_)
   have F:=Sa (TB:=TB) b hb (x+1) (by omega);(refine pW rfl ?_ rfl (by rfl);refine Aj [0] rfl rfl (F) ⟨rfl,by decide,by decide⟩ rfl (by simp[cX,zC,a,cN]) ?_;rintro t e f ⟨g,j,v,n,rfl,rfl,rfl⟩ _);(repeat first|refine tA rfl ?_);apply Aa;refine Ak.Az [0] [] rfl rfl [(2,.o (.ptr 1 3 0 0)),(3,.o (.ptr 2 3 0 0)),(4,.o (.ptr 3 3 0 0)),(5,.o (.ptr 4 3 0 0)),(6,.o (.ptr 5 3 0 0))] [(0,Bt b g),(1,.cells 25 3 [[.d (iD 0),.d (iD 0),.d (.l [])]]),(2,.cells 29 3 [[.d (iD 0),.d (.l []),.d (.l [])]]),(3,.cells 25 3 [[.d (iD 0),.d (iD 0),.d (.l [])]]),(4,.cells 25 3 [(AI j).map .d]),(5,.cells 25 3 [(AI w).map .d])] [0,1,2,3,4,5] (rl a rfl) (by (simp[cX,zC,a,cN,Ae,eC])) ?_;(try dsimp only[cA,cB]);exact hk g j ⟨by omega,n⟩
  ·apply aK
   generalize v:x+1=g at *;refine Ak.Az [0] [] rfl rfl [(2,.o (.ptr 1 3 0 0)),(3,.o (.ptr 2 3 0 0)),(4,.o (.ptr 3 3 0 0)),(5,.o (.ptr 4 3 0 0)),(6,.o (.ptr 5 3 0 0))] [(0,Bt b g),(1,.cells 25 3 [[.d (iD 0),.d (iD 0),.d (.l [])]]),(2,.cells 29 3 [[.d (iD 0),.d (.l []),.d (.l [])]]),(3,.cells 25 3 [[.d (iD 0),.d (iD 0),.d (.l [])]]),(4,.cells 25 3 [(AI H).map .d]),(5,.cells 25 3 [(AI w).map .d])] [0,1,2,3,4,5] (rl a rfl) (by (simp[cX,zC,a,cN,Ae,eC])) ?_;(try dsimp only[cA,cB]);exact hk g H ⟨by omega,z.2⟩
 case h =>
  intro g j ⟨v,n⟩;(repeat first|refine tA rfl ?_|refine aU rfl ?_);obtain⟨X,V,U,A⟩:=Bs (TB:=TB) b hb g 4 (by omega);(refine pW rfl ?_ rfl (by rfl);refine Aj [0] rfl rfl (A) ⟨rfl,by decide,by decide⟩ rfl (by simp[cX,zC,a,cN]) ?_;rintro t e f ⟨rfl,rfl,rfl⟩ _);apply jv (C:=λq s=>(p<=q/\q<=p+1800)/\s.es.length<=400)
  case hk=>
   intro hk;(repeat first|refine s2 rfl λ_ G=>?_|apply Aa);(refine aC rfl ?_ ?_<;>rintro⟨⟩)
   ·(repeat first|refine tA rfl ?_|refine aU rfl ?_)
    have F:=Sa (TB:=TB) b hb (g+1) (by omega);(refine pW rfl ?_ rfl (by rfl);refine Aj [0] rfl rfl (F) ⟨rfl,by decide,by decide⟩ rfl (by simp[cX,zC,a,cN]) ?_;rintro t e f ⟨k,r,u,m,rfl,rfl,rfl⟩ _);(repeat first|refine tA rfl ?_);apply Aa;refine Ak.Az [0] [] rfl rfl [(2,.o (.ptr 1 3 0 0)),(3,.o (.ptr 2 3 0 0)),(4,.o (.ptr 3 3 0 0)),(5,.o (.ptr 4 3 0 0)),(6,.o (.ptr 5 3 0 0))] [(0,Bt b k),(1,.cells 25 3 [[.d (iD 0),.d (iD 0),.d (.l [])]]),(2,.cells 29 3 [[.d (iD 0),.d (.l []),.d (.l [])]]),(3,.cells 25 3 [[.d (iD 0),.d (iD 0),.d (.l [])]]),(4,.cells 25 3 [(AI j).map .d]),(5,.cells 25 3 [(AI r).map .d])] [0,1,2,3,4,5] (rl a rfl) (by (simp[cX,zC,a,cN,Ae,eC])) ?_;(try dsimp only[cA,cB]);exact hk k r ⟨by omega,m⟩
   ·apply aK
    generalize u:g+1=k at *;refine Ak.Az [0] [] rfl rfl [(2,.o (.ptr 1 3 0 0)),(3,.o (.ptr 2 3 0 0)),(4,.o (.ptr 3 3 0 0)),(5,.o (.ptr 4 3 0 0)),(6,.o (.ptr 5 3 0 0))] [(0,Bt b k),(1,.cells 25 3 [[.d (iD 0),.d (iD 0),.d (.l [])]]),(2,.cells 29 3 [[.d (iD 0),.d (.l []),.d (.l [])]]),(3,.cells 25 3 [[.d (iD 0),.d (iD 0),.d (.l [])]]),(4,.cells 25 3 [(AI j).map .d]),(5,.cells 25 3 [(AI w).map .d])] [0,1,2,3,4,5] (rl a rfl) (by (simp[cX,zC,a,cN,Ae,eC])) ?_;(try dsimp only[cA,cB]);exact hk k w ⟨by omega,y.2⟩
  case h=>
   intro k r ⟨u,m⟩;have Q:=Rr (TB:=TB) b hb k (by omega) (GY .i64 j.al r.al);(repeat first|refine aU rfl ?_);refine rG ⟨Gm [(0,14),(3,14),(5,15),(7,1048),(8,15),(9,1032),(10,1032),(11,1)],cH [0,1,2,3,4,5,6,8,7,9,10,11]⟩ (by kernel_rfl) ?_;(repeat first|refine tA rfl ?_);(refine Af rfl ?_;refine Dd ?_ rfl ⟨rfl,rfl⟩;refine Aj [0] rfl rfl (Q) ⟨rfl,by decide,by decide⟩ rfl (by simp[cX,zC,a,cN]) ?_;rintro t e f ⟨I,J,L,B,rfl,rfl,rfl⟩ _;refine⟨KD 4 5 rfl rfl rfl,?_⟩);(refine Af rfl ?_;refine TN ?_ rfl ⟨rfl,rfl⟩;refine DE rfl rfl rfl rfl (by rfl) rfl (am rfl) ?_;refine⟨ER 5 rfl rfl,?_⟩);(refine Af rfl ?_;refine TN ?_ rfl ⟨rfl,rfl⟩;refine DE rfl rfl rfl rfl (by rfl) rfl (am rfl) ?_;refine⟨ER 5 rfl rfl,?_⟩);(repeat first|refine tA rfl ?_|apply Aa);exact aR ⟨_,rfl,[0],KU (j,J,r),[(0,Bt b I)],⟨by intro i hi;match i with|0=>rfl,by decide⟩,rfl,by (simp[cX,zC,a,cN]),I,(j,J,r),by omega,⟨n,B.upto (by omega),m⟩,rfl,rfl,rfl⟩
def Ix(A:W->Bool)(al:Int)(t:A3):Option A3:=if A4 A al t then Bv A (A2 al) 13 t else none
def ME(A:W->Bool)(al:Int)(t:A3)(w:W):Option A3:=(FA A al t w).bind λv=>(Pe A al t v).bind λu=>Ix A al u
theorem X8{A:W->Bool}{al:Int}{t:A3}{w v:W}(h:FA A al t w=some v):v.length<=w.length:=by
 unfold FA at h;split at h
 ·obtain⟨p,_,rfl⟩:=IW h
  simp
 ·cases h
theorem gr{A:W->Bool}{al:Int}{t u:A3}{w:W}(h:Pe A al t w=some u):WJ u:=by
 unfold Pe at h;split at h
 ·rename_i d
  rw[d4]at d;have b:=(Ep d.1).1;have f:=PH d.2;unfold FO at h;split at h
  ·cases h
  ·injection h with h
   subst h;have c:=b.sz;have e:=b.cl;refine⟨c.rl,by simp;omega,c.rb,λx a=>?_⟩
   rcases d9.1 a with a|a
   ·exact c.cb x a
   ·simp at a;subst a;omega
 ·cases h
theorem Rs{t:Ex}{al:Int}{A:W->Bool}(g:KK Tryz.prog TB 67 154 t al A)(hal:0<=al->Bb al=true)(tab:A3)(h:WJ tab)(w:W)(j:w.length<=1048576) :
 Pure Tryz.prog TB 132 [EY t,DU tab,eT w] (I7 (ME A al tab w)):=by
 have e:=RB g hal tab h w j
 rcases b:FA A al tab w with _|v
 ·have d:ME A al tab w=none:=by unfold ME;rw[b];rfl
  rw[d];rw[b]at e;refine eG Tryz.func132 rfl (by kernel_rfl) rfl ?_;intro Z c;(repeat' first|refine tA rfl ?_|(refine s2 rfl λ_ a=>?_;try (simp only[qv,qD]at a;subst a))|refine sP rfl (e) rfl ?_|(refine Af rfl ?_;refine gA rfl ?_;first|refine gS (λ_ _=>AA rfl rfl (by rfl) (by rfl)) ?_)|refine aU rfl ?_|apply Aa|(refine aC rfl ?_ ?_<;>rintro⟨⟩)|apply aK|apply aE|apply aB|refine aR ⟨_,rfl,?_⟩)
  all_goals rfl
 ·rw [b]at e
  have l:=X8 b;have f:=QS g tab h v (by omega)
  rcases ha:Pe A al tab v with _|u
  ·have d:ME A al tab w=none:=by unfold ME;rw[b];simp[ha]
   rw[d];rw[ha]at f;refine eG Tryz.func132 rfl (by kernel_rfl) rfl ?_;intro Z c;(repeat' first|refine tA rfl ?_|(refine s2 rfl λ_ a=>?_;try (simp only[qv,qD]at a;subst a))|refine sP rfl (e) rfl ?_|refine sP rfl (f) rfl ?_|(refine Af rfl ?_;refine gA rfl ?_;first|refine gS (λ_ _=>AA rfl rfl (by rfl) (by rfl)) ?_)|refine aU rfl ?_|apply Aa|(refine aC rfl ?_ ?_<;>rintro⟨⟩)|apply aK|apply aE|apply aB|refine aR ⟨_,rfl,?_⟩)
   all_goals rfl
  ·have d:ME A al tab w=Ix A al u:=by unfold ME;rw[b];simp[ha]
   rw[d];rw[ha]at f;have i:Pure Tryz.prog TB 43 [EY t,DU u] (I7 (Ix A al u)):=Jr g u (gr ha)
   rcases k:Ix A al u with _|x<;>rw[k]at i<;>(
    refine eG Tryz.func132 rfl (by kernel_rfl) rfl ?_;intro Z c;(repeat' first|refine tA rfl ?_|(refine s2 rfl λ_ a=>?_;try (simp only[qv,qD]at a;subst a))|refine sP rfl (e) rfl ?_|refine sP rfl (f) rfl ?_|refine sP rfl (i) rfl ?_|(refine Af rfl ?_;refine gA rfl ?_;first|refine gS (λ_ _=>AA rfl rfl (by rfl) (by rfl)) ?_)|refine aU rfl ?_|apply Aa|(refine aC rfl ?_ ?_<;>rintro⟨⟩)|apply aK|apply aE|apply aB|refine aR ⟨_,rfl,?_⟩)
    all_goals rfl)
theorem aj(a b:List Int):Pure Tryz.prog TB 56 [Al a,Al b] (eB (decide (a=b))):=by
  refine eN Tryz.func56 rfl (by kernel_rfl) rfl ?_;intro Z c;refine Ak.bound 0 rfl λj=>?_;have j:=j (a.map Bw) .refl;rw[gt]at j;(repeat first|refine sN rfl ?_|refine tA rfl ?_|refine s2 rfl λ_ d=>?_|refine aU rfl ?_|apply Aa);(refine aC rfl ?_ ?_<;>rintro⟨⟩)
  · (repeat first|refine tA rfl ?_|refine aU rfl ?_|apply Aa)
    refine aR ⟨_,rfl,?_⟩
    have r:a≠b:=λh=>by subst h;(simp only[oZ] at *;omega)
    show E.o _=E.o _;congr;grind
  apply aK
  have s:a.length=b.length:=by (simp only[oZ] at *;omega)
  (repeat first|refine tA rfl ?_|refine aU rfl ?_|apply Aa);apply aB;refine Ak.A5 (α:={k:Nat // k<=a.length/\a.take k=b.take k}) (λ⟨k,hk,e⟩=>[(0,Al a),(1,Al b),(5,eI .i64 k)]) (λ⟨k,hk,e⟩=>[]) 0 (λ⟨k,hk,e⟩=>a.length-k) (⟨0,by omega,by simp⟩) [] (Ei c rfl rfl) (by (simp[cX,zC,c])) ?_;rintro⟨k,hk,e⟩;(try dsimp only);(repeat first|refine sN rfl ?_|refine tA rfl ?_|refine s2 rfl λ_ d=>?_|refine aU rfl ?_|apply Aa)
  ((refine aC rfl ?_ ?_<;>rintro⟨⟩);all_goals try (simp at d;done))
  · have f:k<a.length:=by (simp only[oZ] at *;omega)
    obtain⟨x,n⟩:=get_some (l:=a) (k:=k) f;obtain⟨y,m⟩:=get_some (l:=b) (k:=k) (by omega);have q:=get_map (g:=Bw) n;have p:=get_map (g:=Bw) m;apply aK;refine aS (aB ?_);(repeat first|refine aU rfl ?_);refine rG (Gk []) (by kernel_rfl) ?_;(repeat first|refine tA rfl ?_|(refine s4 rfl ‹_› rfl ?_ ?_;omega)|refine s2 rfl λ_ d=>?_|apply Aa);(refine aC rfl ?_ ?_<;>rintro⟨⟩)
    all_goals first
      | ((repeat first|refine tA rfl ?_|refine aU rfl ?_|apply Aa)
         refine aR ⟨_,rfl,?_⟩
         show E.o _=E.o _;congr;grind
         done)
      | (apply aK
         (repeat first|(refine sA rfl ?_ ?_;first|exact tI|omega)|refine aU rfl ?_|apply Aa);refine⟨⟨k+1,by omega,by rw[f6,f6,n,m];grind⟩,by dsimp only;(omega),[],?_⟩
         simp[cX,zC,c])
  · apply aE
    (repeat first|refine tA rfl ?_|refine aU rfl ?_|apply Aa);refine aR ⟨_,rfl,?_⟩
    have i:a.length<=k:=by (simp only[oZ] at *;omega)
    rw[ge i,ge (by omega)]at e
    show E.o _=E.o _;congr;grind
theorem WT(a b:List Bool):Pure Tryz.prog TB 55 [Pu a,Pu b] (eB (decide (a=b))):=by
  refine eN Tryz.func55 rfl (by kernel_rfl) rfl ?_;intro Z c;refine Ak.bound 0 rfl λj=>?_;have j:=j (a.map HU) .refl;rw[gt]at j;(repeat first|refine sN rfl ?_|refine tA rfl ?_|refine s2 rfl λ_ d=>?_|refine aU rfl ?_|apply Aa);(refine aC rfl ?_ ?_<;>rintro⟨⟩)
  · (repeat first|refine tA rfl ?_|refine aU rfl ?_|apply Aa)
    refine aR ⟨_,rfl,?_⟩
    have r:a≠b:=λh=>by subst h;(simp only[oZ] at *;omega)
    show E.o _=E.o _;congr;grind
  apply aK
  have s:a.length=b.length:=by (simp only[oZ] at *;omega)
  (repeat first|refine tA rfl ?_|refine aU rfl ?_|apply Aa);apply aB;refine Ak.A5 (α:={k:Nat // k<=a.length/\a.take k=b.take k}) (λ⟨k,hk,e⟩=>[(0,Pu a),(1,Pu b),(5,eI .i64 k)]) (λ⟨k,hk,e⟩=>[]) 0 (λ⟨k,hk,e⟩=>a.length-k) (⟨0,by omega,by simp⟩) [] (Ei c rfl rfl) (by (simp[cX,zC,c])) ?_;rintro⟨k,hk,e⟩;(try dsimp only);(repeat first|refine sN rfl ?_|refine tA rfl ?_|refine s2 rfl λ_ d=>?_|refine aU rfl ?_|apply Aa)
  ((refine aC rfl ?_ ?_<;>rintro⟨⟩);all_goals try (simp at d;done))
  · have f:k<a.length:=by (simp only[oZ] at *;omega)
    obtain⟨x,n⟩:=get_some (l:=a) (k:=k) f;obtain⟨y,m⟩:=get_some (l:=b) (k:=k) (by omega);have q:=get_map (g:=HU) n;have p:=get_map (g:=HU) m;apply aK;refine aS (aB ?_);(repeat first|refine aU rfl ?_);refine rG (Gk []) (by kernel_rfl) ?_;(repeat first|refine tA rfl ?_|(refine s4 rfl ‹_› rfl ?_ ?_;omega)|refine s2 rfl λ_ d=>?_|apply Aa);(refine aC rfl ?_ ?_<;>rintro⟨⟩)
    all_goals first
      | ((repeat first|refine tA rfl ?_|refine aU rfl ?_|apply Aa)
         refine aR ⟨_,rfl,?_⟩
         show E.o _=E.o _;congr;grind
         done)
      | (apply aK
         (repeat first|(refine sA rfl ?_ ?_;first|exact tI|omega)|refine aU rfl ?_|apply Aa);refine⟨⟨k+1,by omega,by rw[f6,f6,n,m];grind⟩,by dsimp only;(omega),[],?_⟩
         simp[cX,zC,c])
  · apply aE
    (repeat first|refine tA rfl ?_|refine aU rfl ?_|apply Aa);refine aR ⟨_,rfl,?_⟩
    have i:a.length<=k:=by (simp only[oZ] at *;omega)
    rw[ge i,ge (by omega)]at e
    show E.o _=E.o _;congr;grind
theorem QT(a b:AV):Pure Tryz.prog TB 15 [AX a,AX b] (eB (decide (a.al=b.al/\a.nx=b.nx/\a.ac=b.ac))):=by
  have p:=WT (TB:=TB) a.ac b.ac;refine eN Tryz.func15 rfl (by kernel_rfl) rfl ?_;intro Z d;refine Ak.bound 0 rfl λj=>?_;have j:=j (a.nx.map EP) ⟨1,_,rfl,.refl⟩;rw[gt]at j;(repeat first|refine tA rfl ?_|refine s2 rfl λ_ c=>?_|(refine sC rfl (p) ?_;intro _ c)|refine s3 rfl ?_ ?_<;>rintro rfl|refine aU rfl ?_|apply Aa);(repeat' first|refine sN rfl ?_|refine tA rfl ?_|refine s2 rfl λ_ c=>?_|(refine sC rfl (p) ?_;intro _ c)|refine s3 rfl ?_ ?_<;>rintro rfl|refine aU rfl ?_|apply Aa|(refine aC rfl ?_ ?_<;>rintro⟨⟩))
  all_goals first
    | (refine aR ⟨_,rfl,?_⟩
       show E.o _=E.o _;congr;grind
       done)
    | skip
  · rename_i t bb e
    have u:a.ac=b.ac:=by simp at c;rw[c]at e;exact of_decide_eq_true e
    have hal:a.al=b.al:=by simpa using ‹decide (a.al≠b.al)=false›
    have s:a.nx.length=b.nx.length:=by (simp only[oZ] at *;omega)
    apply aK;(repeat first|refine tA rfl ?_|refine aU rfl ?_|apply Aa);apply aB;refine Ak.A5 (α:={k:Nat // k<=a.nx.length/\a.nx.take k=b.nx.take k}) (λ⟨k,hk,f⟩=>[(2,.o (.ip (AL a))),(3,.o (.ip (AL b))),(5,eI .i64 k)]) (λ⟨k,hk,f⟩=>[]) 0 (λ⟨k,hk,f⟩=>a.nx.length-k) (⟨0,by omega,by simp⟩) [] (Ei d rfl rfl) (by (simp[cX,zC,d])) ?_;rintro⟨k,hk,f⟩;(try dsimp only);(repeat first|refine sN rfl ?_|refine tA rfl ?_|refine s2 rfl λ_ c=>?_|refine aU rfl ?_|apply Aa)
    ((refine aC rfl ?_ ?_<;>rintro⟨⟩);all_goals try (simp at c;done))
    · have h:k<a.nx.length:=by (simp only[oZ] at *;omega)
      obtain⟨x,n⟩:=get_some (l:=a.nx) (k:=k) h;obtain⟨y,m⟩:=get_some (l:=b.nx) (k:=k) (by omega);have r:=get_map (g:=EP) n;have q:=get_map (g:=EP) m;have v:=aj (TB:=TB) x y;apply aK;refine aS (aB ?_);(repeat first|refine aU rfl ?_);refine rG (Gk []) (by kernel_rfl) ?_;(repeat first|refine tA rfl ?_|(refine s4 rfl ‹_› rfl ?_ ?_;omega)|refine s2 rfl λ_ c=>?_|(refine sC rfl (v) ?_;intro _ c)|apply Aa);(refine aC rfl ?_ ?_<;>rintro⟨⟩)
      all_goals first
        | ((repeat first|refine tA rfl ?_|refine aU rfl ?_|apply Aa)
           refine aR ⟨_,rfl,?_⟩
           show E.o _=E.o _;congr;grind
           done)
        | (apply aK
           (repeat first|(refine sA rfl ?_ ?_;first|exact tI|omega)|refine aU rfl ?_|apply Aa);refine⟨⟨k+1,by omega,by rw[f6,f6,n,m];grind⟩,by dsimp only;(omega),[],?_⟩
           simp[cX,zC,d])
    · apply aE
      (repeat first|refine tA rfl ?_|refine aU rfl ?_|apply Aa);refine aR ⟨_,rfl,?_⟩
      have i:a.nx.length<=k:=by (simp only[oZ] at *;omega)
      rw[ge i,ge (by omega)]at f
      show E.o _=E.o _;congr;grind
structure oK (t:CO):Prop where
 s:t.s.es.length<=401
 q:MS 60 t.q
structure oJ (te:Ex):Prop where
 pn:te.p.nx.length<=1048576
 pa:te.p.ac.length<=1048576
 pr:∀r∈te.p.nx,r.length<=1048576
 es:te.s.es.length<=1048576
 qn:te.q.nx.length<=1048576
 qa:te.q.ac.length<=1048576
 qr:∀r∈te.q.nx,r.length<=1048576
end Go.Am
namespace Go.Am
open Go
theorem cW{p:AV}(a:AT p=true):Uo (QR p) (LA p) p.al:=λw b c=>by
 unfold QR;rw[a,Hb b c (AP a).1];rfl
theorem cZ{A L:W->Bool}{al:Int}{b:Nat}{t:A3}(h:Uo A L al)(ht:Ho al b t)(hb:b<=20100)(hk:BU L (A2 al) t){w:W}(a:AN (A2 al) w):MY A t w=MY L t w:=by
 rw[<-Lw (hk.nK h ht hb) a,<-Lw hk a,UE h ht hb]
theorem X7{A L:W->Bool}{al:Int}{b:Nat}{t:A3}(h:Uo A L al)(ht:Ho al b t)(hb:b<=20100)(hk:BU L (A2 al) t){w:W}(a:AN (A2 al) w)(c:w.length<=20000):CM A t w=CM L t w:=by
 have d:0<t.rows.length:=(ce.1 hk.r0).1;unfold CM;rw[cZ h ht hb hk a,h w a (by omega),Ol h ht hb hk (L w) w 0 d a c]
section
variable {α:Type}{f:Nat->α}{l:List α}{i:Nat}
end
end Go.Am
namespace Go.Am
theorem IE{α:Type}{l:List α}{k:Nat}{x d:α}(h:l[k]?=some x):l.getD k d=x:=by rw[qp,h];rfl
def fA(a:AV)(q l:Int):Int:=BS a q.toNat l
def KA(a:AV)(q:Int):Bool:=a.ac.getD q.toNat false
def KI(a:AV):AV:=match VD a.nx.length (fA a) (Ac a.al) 0 with
 | some p=>⟨a.al,p.2,p.1.map (KA a)⟩
 | none=>⟨a.al,[],[]⟩
theorem OO{a:AV}(h:O9 a){q:Nat}(f:q<a.nx.length){l:Int}(j:0<=l)(i:l<6):0<=BS a q l/\BS a q l<a.nx.length:=by
 obtain⟨row,e,g,d⟩:=h.2 q f;unfold BS;split
 ·rename_i hb
  have b:(AM a.al l.toNat).length<row.length:=by rw[g];exact II (by omega) hb
  obtain⟨y,c⟩:=get_some b;have:=d _ y c
  simpa[List.getD,e,c]using this
 ·omega
theorem Kj{a:AV}:∀(w:List Int) (q:Int),(∀l∈w,l∈Ac a.al)->C3 (fA a) q w=DJ a q (Dg w)
 | [],q,_=>rfl
 | l::w,q,h=>by
  have c:=Ai (h l (by simp));have e:DJ a q (Dg (l::w))=DJ a (BS a q.toNat (((lb l).toNat:Int)-97)) (Dg w):=rfl;rw[e,IH c.1 (by omega)];exact Kj w _ λm b=>h m (by simp[b])
theorem br{s l:Int}(h:l∈Ac s):(Ac s)[(AM s l.toNat).length]?=some l:=by
 obtain⟨k,hk⟩:=sT.1 h;rw[FJ hk];exact hk
theorem lr{a:AV}(h:O9 a)(p:1<=a.nx.length):∃nd rows,VD a.nx.length (fA a) (Ac a.al) 0=some (nd,rows)/\ab (fA a) (Ac a.al) 0 nd rows/\nd.length<=a.nx.length/\(∀q∈nd,0<=q/\q<a.nx.length)/\KI a=⟨a.al,rows,nd.map (KA a)⟩:=by
 have g:∀q l:Int,0<=q/\q<((a.nx.length:Nat):Int)->l∈Ac a.al->0<=fA a q l/\fA a q l<((a.nx.length:Nat):Int):=λq l b d=>by
  have d:=Ai d;exact OO h (q:=q.toNat) (by omega) d.1 (by omega)
 obtain⟨⟨nd,rows⟩,c⟩:=bF (lim:=a.nx.length) (f:=fA a) (ls:=Ac a.al) (s:=0) g (by omega);obtain⟨i,o,_⟩:=iu p c;refine⟨nd,rows,c,i,o,λq b=>?_,by unfold KI;rw[c]⟩;obtain⟨w,n,rfl⟩:=i.rc q b
 have key:∀(w:List Int) (q:Int),(∀l∈w,l∈Ac a.al)->0<=q/\q<((a.nx.length:Nat):Int)->0<=C3 (fA a) q w/\C3 (fA a) q w<((a.nx.length:Nat):Int):=λw=>by
  induction w with
  | nil=>exact λq _ b=>b
  | cons l w j=>exact λq e b=>j _ (λm k=>e m (by simp[k])) (g q l b (e l (by simp)))
 exact key w 0 n (by omega)
theorem kI{a:AV}{nd:List Int}{rows:List (List Int)}(h:ab (fA a) (Ac a.al) 0 nd rows){ac:List Bool}{i:Nat}{q l:Int}(hi:nd[i]?=some q)(b:l∈Ac a.al):BS ⟨a.al,rows,ac⟩ i l=((nd.idxOf (BS a q.toNat l):Nat):Int):=by
 have c:=h.row i q hi;have hb:=Ai b;unfold BS;rw[if_pos hb.2.2]
 show (rows.getD i []).getD _ 0=_
 rw[qp,qp,c,ro,i8,br b,qT,ro];rfl
theorem gU{nd:List Int}{x:Int}(h:x∈nd):nd[nd.idxOf x]?=some x:=by
 rw[d6 (sv.2 h),List.getElem_idxOf]
theorem TG{a:AV}{nd:List Int}{rows:List (List Int)}(h:ab (fA a) (Ac a.al) 0 nd rows){ac:List Bool}:∀(w:W) {i:Nat} {q:Int},AN (A2 a.al) w->nd[i]?=some q->∃j:Nat,DJ ⟨a.al,rows,ac⟩ i w=j/\nd[j]?=some (DJ a q w)
 | [],i,q,_,hi=>⟨i,rfl,hi⟩
 | c :: w,i,q,f,hi=>by
  obtain⟨l,b,rfl⟩:=d8.1 (f c (by simp));have hb:=Ai b;have e:=kI h (ac:=ac) hi b;have g:=h.cl q (co hi) l b;obtain⟨j,n,m⟩:=TG h (ac:=ac) w (λd k=>f d (by simp[k])) (gU g);refine⟨j,?_,?_⟩
  ·show DJ _ (BS _ ((i:Int).toNat) (((lb l).toNat:Int)-97)) w=_
   rw[IH hb.1 (by omega),f9,e];exact n
  ·show nd[j]?=some (DJ a (BS a q.toNat (((lb l).toNat:Int)-97)) w)
   rw[IH hb.1 (by omega)];exact m
theorem jm{a:AV}(h:O9 a)(g:1<=a.nx.length){w:W}(d:AN (A2 a.al) w):LA (KI a) w=LA a w:=by
 obtain⟨nd,rows,_,c,_,_,e⟩:=lr h g;obtain⟨j,b,f⟩:=TG c (ac:=nd.map (KA a)) w d c.st;rw[e];unfold LA;have b:DJ ⟨a.al,rows,nd.map (KA a)⟩ 0 w=(j:Int):=b;rw[b]
 show (nd.map (KA a)).getD ((j:Int).toNat) false=_
 rw[f9,qp,i8,f];rfl
theorem gb(a:AV):(KI a).al=a.al:=by
 unfold KI;split<;>rfl
theorem o8{a:AV}(h:O9 a)(s:1<=a.nx.length):O9 (KI a)/\1<=(KI a).nx.length/\(KI a).nx.length<=a.nx.length/\(KI a).ac.length=(KI a).nx.length/\∀i,i<(KI a).nx.length->∃w,AN (A2 a.al) w/\DJ (KI a) 0 w=(i:Nat):=by
 obtain⟨nd,rows,_,c,A,z,e⟩:=lr h s;have u:=c.len;have o:=(ce.1 c.st).1;have t:=h.1;rw[e];refine⟨⟨?_,λq g=>?_⟩,?_,?_,?_,λi hi=>?_⟩
 ·show rows.length<=64;omega
 ·have g:q<rows.length:=g
  obtain⟨x,d⟩:=get_some (l:=nd) (k:=q) (by omega);refine⟨_,c.row q x d,by simp,λk y b=>?_⟩;rw[i8]at b
  cases hk:(Ac a.al)[k]? with
  | none=>rw[hk]at b;cases b
  | some l=>
   rw[hk]at b
   injection b with b
   have b:((nd.idxOf (fA a x l):Nat):Int)=y:=b;have p:=c.cl x (co d) l (co hk);have:=sv.2 p
   show 0<=y/\y<((rows.length:Nat):Int)
   omega
 ·show 1<=rows.length;omega
 ·show rows.length<=_;omega
 ·show (nd.map (KA a)).length=rows.length;rw[gt];omega
 ·have hi:i<rows.length:=hi
  obtain⟨x,d⟩:=get_some (l:=nd) (k:=i) (by omega);obtain⟨w,f,n⟩:=c.rc x (co d);rw[Kj w 0 f]at n;obtain⟨j,r,m⟩:=TG c (ac:=nd.map (KA a)) (Dg w) (QI f) c.st;rw[n,<-d]at m;refine⟨Dg w,QI f,r.trans ?_⟩;have v:=(List.getElem?_inj (by omega) c.nodup).1 (m.symm);omega
def oH(a:AV)(q r:Int):Prop:=∀w,AN (A2 a.al) w->KA a (DJ a q w)=KA a (DJ a r w)
theorem k9{a:AV}(h:O9 a){q:Nat}(e:q<a.nx.length):a.nx[q]?=some ((Ac a.al).map (BS a q)):=by
 obtain⟨row,d,g,_⟩:=h.2 q e;rw[d];congr 1;apply qy;intro i;rw[i8]
 cases b:(Ac a.al)[i]? with
 | none=>
  have:=rH.1 b;rw[ol (by omega)];rfl
 | some l=>
  have hb:=Ai (co b);have f:=(ce.1 b).1;obtain⟨y,c⟩:=get_some (l:=row) (k:=i) (by omega);rw[c,qT];congr 1;unfold BS;rw[if_pos hb.2.2,FJ b,qp,qp,d,ro,c];rfl
structure pE (a:AV) (ks:List (List Int)):Prop where
 len:ks.length=a.nx.length
 ac:∀q r:Nat,q<a.nx.length->r<a.nx.length->ks[q]?=ks[r]?->KA a q=KA a r
 go:∀q r:Nat,q<a.nx.length->r<a.nx.length->ks[q]?=ks[r]?->∀l∈Ac a.al,ks[(BS a q l).toNat]?=ks[(BS a r l).toNat]?
 res:∀q r:Nat,q<a.nx.length->r<a.nx.length->oH a q r->ks[q]?=ks[r]?
structure cK (a:AV):Prop where
 b:O9 a
 n1:1<=a.nx.length
 ac:a.ac.length=a.nx.length
theorem YX{a:AV}(h:AT a=true):cK a:=by
 have:=AP h;exact⟨YW h,this.2.1,this.2.2.2⟩
theorem jl(a:AV)(w:W):LA a w=KA a (DJ a 0 w):=rfl
section
variable {a:AV}(h:cK a)
include h
end
structure oz (a m:AV):Prop where
 al:m.al=a.al
 g:cK m
 n2:m.nx.length<=a.nx.length
 lang:∀w,AN (A2 a.al) w->LA m w=LA a w
 rc:∀i:Nat,i<m.nx.length->∃w,AN (A2 a.al) w/\DJ m 0 w=i
 ds:∀i j:Nat,i<m.nx.length->j<m.nx.length->oH m i j->i=j
end Go.Am
namespace Go.Am
open Go Go.Proofs
set_option maxHeartbeats 1000000
set_option maxRecDepth 4000
attribute [local irreducible] A9 CY Lex BV Ak Spec
variable {TB:BR}
def lZ(o:Option (List Int×List (List Int))):E:=match o with
 | some p=>.t [(false,[.d (EO p.1)]),(false,[.d (CA p.2)]),(false,[.d (bD true)])]
 | none=>.t [(false,[.d (.l [])]),(false,[.d (.l [])]),(false,[.d (bD false)])]
theorem VE{lim:Nat}{f:Int->Int->Int}{ls:List Int}{s0:Int}{g:FuncId}{caps:List C}{R:Int->Prop}(h1:1<=lim/\lim<=64)(hll:ls.length<=6)(hs:R s0)(hR:∀q l,R q->l∈ls->R (f q l))
 (hg:∀q l,R q->l∈ls->Pure Tryz.prog TB g ([eI .i64 q,eI .i64 l]++caps.map .o) (eI .i64 (f q l))) (hc:C.C1 caps=true) (c:∀r,C.Cp r caps=caps) :
 Pure Tryz.prog TB 111 [eI .i64 s0,Al ls,eI .i64 lim,.o (.fn g caps)] (lZ (VD lim f ls s0)):=by
 unfold VD;generalize V:Jn lim f ls lim [s0] []=A;refine eG Tryz.func111 rfl (by kernel_rfl) rfl ?_;intro Z e;(repeat first|refine tX rfl ?_|refine aU rfl ?_|apply Aa);(refine pW rfl ?_ rfl (by rfl);refine Bh rfl rfl rfl rfl (by simp[eC]) (by rfl) (by rfl) (by rfl) (by rfl) ?_);(repeat first|refine tX rfl ?_|refine aU rfl ?_|apply Aa);(refine pW rfl ?_ rfl (by rfl);refine Nv ?_);(repeat first|refine tA rfl ?_);(refine Af rfl ?_;refine Hh ?_ rfl (by rfl);refine ky (eu (l:=[]) rfl rfl rfl rfl rfl ?_));(repeat first|refine tM rfl ?_|refine aU rfl ?_|apply Aa);(refine pW rfl ?_ rfl (by rfl);refine Gu 1 53 ?_);(repeat first|refine tM rfl ?_|refine aU rfl ?_|apply Aa);apply aB;refine aL (α:={z:List Int×List (List Int) // Jn lim f ls (lim-z.2.length) z.1 z.2=A/\z.2.length<=z.1.length/\1<=z.1.length/\z.1.length<=lim/\∀q∈z.1,R q}) [1,2,3,12] [] rfl rfl (λs=>[(11,.o (.arr 0 1 0 s.1.1.length)),(13,.o (.arr 2 1 0 s.1.2.length)),(14,eI .i64 s.1.2.length)]) (λs=>[(0,.cells 3 1 (s.1.1.map AE)),(1,.mp (Lf (kv s.1.1))),(2,.cells 53 1 (s.1.2.map λr=>[.d (EO r)]))]) 3 (λs=>lim-s.1.2.length) (⟨⟨[s0],[]⟩,by simpa using V,by simp,by simp,by simpa using h1.1,by simpa using hs⟩) e rfl (by (simp[cX,zC,e,c,eC,Bp,Ae,kv])) ?_;rintro⟨⟨nd,rows⟩,u,G,H,F,w⟩;(try dsimp only[cA,cB]);have u:Jn lim f ls (lim-rows.length) nd rows=A:=u;have G:rows.length<=nd.length:=G;have H:1<=nd.length:=H;have F:nd.length<=lim:=F;have w:∀q∈nd,R q:=w;by_cases N:rows.length<nd.length
 ·obtain⟨q,M⟩:=get_some N
  obtain⟨k,hk⟩:∃k,lim-rows.length=k+1:=⟨lim-rows.length-1,by omega⟩
  rw[hk]at u;simp only[Jn,M]at u;generalize T:JD lim f q nd [] ls=B at u;have L:=w q (co M);(repeat first|refine tA rfl ?_|refine s2 rfl λ_ b=>?_|refine aU rfl ?_|apply Aa)
  ((refine aC rfl ?_ ?_<;>rintro⟨⟩);all_goals try(exfalso;(simp only[oZ] at *;omega)))
  apply aK;refine aS (aB ?_);(repeat first|refine aU rfl ?_);(refine pW rfl ?_ rfl (by rfl);refine Gu 1 3 ?_);(repeat first|refine sN rfl ?_|refine tM rfl ?_|refine aU rfl ?_|apply Aa);apply aB;refine aL (α:={z:(List Int×List Int)×Nat // z.2<=ls.length/\JD lim f q z.1.1 z.1.2 (ls.drop z.2)=B/\z.1.2.length=z.2/\nd.length<=z.1.1.length/\z.1.1.length<=lim/\(∀q∈z.1.1,R q)/\z.1.1[rows.length]?=some q}) [1,2,3,12,13,14,32,33] [2] rfl rfl (λs=>[(11,.o (.arr 0 1 0 s.1.1.1.length)),(15,.o (.arr 3 1 0 s.1.2)),(34,eI .i64 s.1.2)]) (λs=>[(0,.cells 3 1 (s.1.1.1.map AE)),(1,.mp (Lf (kv s.1.1.1))),(3,.cells 3 1 (s.1.1.2.map AE))]) 4 (λs=>ls.length-s.1.2) (⟨⟨⟨nd,[]⟩,0⟩,by simp,T,rfl,i9 _,F,w,M⟩) e rfl (by (simp[cX,zC,e,c,eC,Bp,Ae,Mb])) ?_;rintro⟨⟨⟨a,row⟩,j⟩,X,i,m,x,v,t,n⟩;(try dsimp only[cA,cB]);have X:j<=ls.length:=X;have i:JD lim f q a row (ls.drop j)=B:=i;have m:row.length=j:=m;have x:nd.length<=a.length:=x;have v:a.length<=lim:=v;have t:∀q∈a,R q:=t;have n:a[rows.length]?=some q:=n;by_cases Q:j<ls.length
  ·obtain⟨l,P⟩:=get_some Q
   have hl':=get_map (g:=Bw) P;have I:=co P;have hf:=hg q l L I;have S:=hR q l L I
   have hq':(a.map AE)[0+((rows.length:Nat):Int).toNat]?=some (AE q):=by rw[ms,f9];simp[n]
   rw[BB P]at i;simp only[JD]at i;have p:=aN a (f q l);generalize f q l=y at *;(repeat first|refine s2 rfl λ_ b=>?_|refine aU rfl ?_|apply Aa)
   ((refine aC rfl ?_ ?_<;>rintro⟨⟩);all_goals try(exfalso;(simp only[oZ] at *;omega)))
   apply aK;refine aS (aB ?_);(repeat first|((first|refine sA rfl ?_ ?_|refine s4 rfl ‹_› rfl ?_ ?_);first|exact tI|omega)|(refine Af rfl ?_;refine gA rfl ?_;first|refine gS (λ_ _=>A8 rfl rfl (by simp[E.BT,C.BT,C.C1,hc]) hf rfl) ?_)|refine aU rfl ?_|apply Aa);by_cases J:y∈a
   ·rw[if_pos J]at i p
    (repeat first|refine tA rfl ?_|refine s2 rfl λ_ b=>?_|(refine Af rfl ?_;refine gA rfl ?_;first|refine gQ (fo p rfl rfl rfl) rfl ?_)|refine aU rfl ?_|apply Aa)
    ((refine aC rfl ?_ ?_<;>rintro⟨⟩);all_goals try (simp at b;done))
    apply aK;(repeat first|refine tA rfl ?_|refine aU rfl ?_);(refine pW rfl ?_ rfl (by rfl);refine Au rfl rfl rfl (by first|(simp;done)|(simp;(omega))) rfl (by intro r c;simp at c;subst c;rfl) (by rfl) (am rfl) (by simp;omega) ?_);(repeat first|(refine sA rfl ?_ ?_;first|exact tI|omega)|refine aU rfl ?_|apply Aa);refine⟨⟨⟨⟨a,row++[((a.idxOf y:Nat):Int)]⟩,j+1⟩,by dsimp only;omega,i,by simp[m],x,v,t,n⟩,by dsimp only;(omega),[0,1,2,4],?_⟩;simp[cX,zC,e,c,Mb]
   ·rw [if_neg J]at i p
    (repeat first|refine tA rfl ?_|refine s2 rfl λ_ b=>?_|(refine Af rfl ?_;refine gA rfl ?_;first|refine gQ (fm p rfl rfl rfl) rfl ?_)|refine aU rfl ?_|apply Aa)
    ((refine aC rfl ?_ ?_<;>rintro⟨⟩);all_goals try (simp at b;done))
    by_cases K:a.length=lim
    ·rw[if_pos K]at i
     subst i;(repeat first|refine tA rfl ?_|refine s2 rfl λ_ b=>?_|refine aU rfl ?_|apply Aa)
     ((refine aC rfl ?_ ?_<;>rintro⟨⟩);all_goals try(exfalso;(simp only[oZ] at *;omega)))
     (repeat first|refine tA rfl ?_|refine aU rfl ?_|apply Aa);have u:none=A:=u;subst u;exact aR ⟨_,rfl,rfl⟩
    ·rw[if_neg K]at i
     (repeat first|refine tA rfl ?_|refine s2 rfl λ_ b=>?_|refine aU rfl ?_|apply Aa)
     ((refine aC rfl ?_ ?_<;>rintro⟨⟩);all_goals try(exfalso;(simp only[oZ] at *;omega)))
     apply aK;(repeat first|refine tA rfl ?_|refine aU rfl ?_|apply Aa);(refine Af rfl ?_;refine Hh ?_ rfl (by rfl);refine eu rfl rfl rfl rfl p ?_);rw[<-ie];(repeat first|refine tA rfl ?_|refine aU rfl ?_|apply Aa);(refine pW rfl ?_ rfl (by rfl);refine Au rfl rfl rfl (by first|(simp;done)|(simp;(omega))) rfl (by intro r c;simp at c;subst c;rfl) (by rfl) (am rfl) (by simp;omega) ?_);(repeat first|refine tA rfl ?_|refine aU rfl ?_|apply Aa);(refine pW rfl ?_ rfl (by rfl);refine Au rfl rfl rfl (by first|(simp;done)|(simp;(omega))) rfl (by intro r c;simp at c;subst c;rfl) (by rfl) (am rfl) (by simp;omega) ?_);(repeat first|(refine sA rfl ?_ ?_;first|exact tI|omega)|refine aU rfl ?_|apply Aa);refine⟨⟨⟨⟨a++[y],row++[(a.length:Int)]⟩,j+1⟩,by dsimp only;omega,i,by simp[m],by simp;omega,by simp;omega,λz Y=>by rcases d9.1 Y with h|h;exact t z h;simp at h;subst h;exact S,by rw[em (by omega)];exact n⟩,by dsimp only;(omega),[4,1,2,5],?_⟩;simp[cX,zC,e,c,Mb]
  ·obtain rfl:j=ls.length:=by omega
   rw[rv]at i;simp only[JD]at i;subst i;simp only at u;(repeat first|refine s2 rfl λ_ b=>?_|refine aU rfl ?_|apply Aa)
   ((refine aC rfl ?_ ?_<;>rintro⟨⟩);all_goals try(exfalso;(simp only[oZ] at *;omega)))
   apply aE;refine Ak.Tn [3] [1,2,3,11,12,13,14] rfl [(15,Al row)] ⟨⟨_,rfl,.o (.full (by simp) rfl (by simp[d5]) (by simpa using m))⟩,trivial⟩ ?_;(try dsimp only[cA,cB]);(repeat first|refine tA rfl ?_|refine aU rfl ?_);(refine pW rfl ?_ rfl (by rfl);refine Au rfl rfl rfl (by first|(simp;done)|(simp;(omega))) rfl (by intro r c;simp at c;subst c;rfl) (by rfl) (am rfl) (by simp;omega) ?_);(repeat first|(refine sA rfl ?_ ?_;first|exact tI|omega)|refine aU rfl ?_|apply Aa);refine⟨⟨⟨a,rows++[row]⟩,by show Jn lim f ls (lim-(rows++[row]).length) a _=A;rw[qw,List.length_singleton,show lim-(rows.length+1)=k by omega];exact u,by simp;omega,by dsimp only;omega,v,t⟩,by dsimp only;((simp only[oZ] at *;omega)),[0,1,4],?_⟩;simp[cX,zC,e,c,Mb]
 ·have U:A=some (nd,rows):=by
   rw[<-u]
   cases lim-rows.length with
   | zero=>rfl
   | succ k=>simp only[Jn];rw[ol (by omega)]
  subst U;(repeat first|refine tA rfl ?_|refine s2 rfl λ_ b=>?_|refine aU rfl ?_|apply Aa)
  ((refine aC rfl ?_ ?_<;>rintro⟨⟩);all_goals try(exfalso;(simp only[oZ] at *;omega)))
  apply aE;refine Ak.settle [(11,Al nd),(13,Fa rows)] ⟨⟨_,rfl,.o (.full rfl (by simp[d5]) (by simp))⟩,⟨_,rfl,.o (.full rfl (by simp[d5]) (by simp))⟩,trivial⟩ ?_;(repeat first|refine tA rfl ?_|refine aU rfl ?_|apply Aa);(subst_vars;exact aR ⟨_,rfl,rfl⟩)
theorem TE{t:Ex}{al:Int}{A:W->Bool}(f:KK Tryz.prog TB 67 154 t al A):Pure Tryz.prog TB 128 [EY t] (I7 (Ix A al BA)):=by
 have c:Pure Tryz.prog TB 43 [EY t,DU BA] (I7 (Ix A al BA)):=Jr f BA ⟨by decide,by decide,λw a=>by simp[BA]at a;subst a;simp,λw a=>by simp[BA]at a;subst a;simp⟩
 rcases e:Ix A al BA with _|x<;>rw[e]at c<;>(
  refine eG Tryz.func128 rfl (by kernel_rfl) rfl ?_;intro Z d;(repeat' first|refine sN rfl ?_|((first|refine sA rfl ?_ ?_|refine s4 rfl ‹_› rfl ?_ ?_);first|exact tI|omega|simp only[oZ] at *;omega)|(refine s2 rfl λ_ b=>?_;try (simp only[qv,qD]at b;subst b))|refine sP rfl (c) rfl ?_|(refine Af rfl ?_;refine gA rfl ?_;first|refine gS (λ_ _=>AA rfl rfl (by rfl) (by rfl)) ?_)|refine s3 rfl ?_ ?_<;>rintro rfl|refine aU rfl ?_|apply Aa|refine rE (by kernel_rfl) ?_|(refine aC rfl ?_ ?_<;>rintro⟨⟩)|apply aK|apply aE|apply aB|refine aR ⟨_,rfl,?_⟩)
  all_goals rfl)
end Go.Am
namespace Go.Am
open Go
abbrev Ot:=Int->Int->List Int
def Kr(c:Ot):List Int->Int->Int->Prop
 | [],q,r=>r=q
 | l::w,q,r=>∃y,y∈c q l/\Kr c w y r
def LB:List Ot->List Int->List Int->List Int->Prop
 | [],_,[],[]=>True
 | c::cs,w,q::st,r::st'=>Kr c w q r/\LB cs w st st'
 | _,_,_,_=>False
def Uv:List Ot->Int->List Int->List Int->Prop
 | [],_,[],[]=>True
 | c::cs,l,q::st,r::st'=>r∈c q l/\Uv cs l st st'
 | _,_,_,_=>False
theorem Kq:∀ {cs:List Ot} {l:Int} {w st st':List Int},LB cs (l::w) st st'↔∃st1,Uv cs l st st1/\LB cs w st1 st'
 | [],l,w,[],[]=>⟨λ_=>⟨[],trivial,trivial⟩,λ_=>trivial⟩
 | [],l,w,[],_::_=>⟨λh=>h.elim,λ⟨st1,a,b⟩=>by cases st1<;>simp[Uv,LB]at a b⟩
 | [],l,w,_::_,st'=>⟨λh=>by cases st'<;>exact h.elim,λ⟨st1,a,b⟩=>by cases st1<;>exact a.elim⟩
 | c::cs,l,w,[],st'=>⟨λh=>by cases st'<;>exact h.elim,λ⟨st1,a,b⟩=>by cases st1<;>exact a.elim⟩
 | c::cs,l,w,q::st,[]=>⟨λh=>h.elim,λ⟨st1,a,b⟩=>by cases st1<;>first|exact a.elim|exact b.elim⟩
 | c :: cs,l,w,q::st,r::st'=>by
  have d:=Kq (cs:=cs) (l:=l) (w:=w) (st:=st) (st':=st');constructor
  ·rintro⟨⟨y,e,a⟩,b⟩
   obtain⟨st1,g,f⟩:=d.1 b;exact⟨y::st1,⟨e,g⟩,a,f⟩
  ·rintro⟨st1,a,b⟩
   cases st1 with
   | nil=>exact a.elim
   | cons y st1=>exact⟨⟨y,a.1,b.1⟩,d.2 ⟨st1,a.2,b.2⟩⟩
def Ef(n:Net):List Ot:=n.ps.map (λs q l=>BN s q l)++n.au.map (λa q l=>[BS a q.toNat l])
def SH:List Int->List (List Int)->Prop
 | [],[]=>True
 | x::xs,c::cs=>x∈c/\SH xs cs
 | _,_=>False
theorem Zj:∀ {zs:List Int} {cs:List (List Int)} {out:List Int} {v:Int},cs.length=zs.length->(v∈Hr zs cs out↔∃o∈out,∃st1,SH st1 cs/\v=DH zs st1 o)
 | [],[],out,v,_=>by
  constructor
  ·intro h;exact⟨v,h,[],trivial,rfl⟩
  ·rintro⟨o,a,st1,h,rfl⟩
   cases st1 with
   | nil=>exact a
   | cons x st1=>exact h.elim
 | [],_::_,_,_,h=>by simp at h
 | _::_,[],_,_,h=>by simp at h
 | z :: zs,c::cs,out,v,h=>by
  have g:=Zj (zs:=zs) (cs:=cs) (out:=out.flatMap λo=>c.map λx=>o*z+x) (v:=v) (by simpa using h)
  show v∈Hr zs cs _↔_
  rw[g];constructor
  ·rintro⟨o,a,st1,b,e⟩
   obtain⟨f,d,j⟩:=qJ.1 a;obtain⟨x,i,rfl⟩:=d8.1 j;exact⟨f,d,x::st1,⟨i,b⟩,e⟩
  ·rintro⟨o,a,st1,b,e⟩
   cases st1 with
   | nil=>exact b.elim
   | cons x st1=>exact⟨o*z+x,qJ.2 ⟨o,a,d8.2 ⟨x,b.1,rfl⟩⟩,st1,b.2,e⟩
theorem Ir:∀ {cs:List Ot} {l:Int} {st st1:List Int},cs.length=st.length->(SH st1 (cs.zipWith (λc q=>c q l) st)↔Uv cs l st st1)
 | [],l,[],st1,_=>by
  cases st1 with
  | nil=>exact⟨λ_=>trivial,λ_=>trivial⟩
  | cons x st1=>exact⟨λh=>h.elim,λh=>h.elim⟩
 | [],_,_::_,_,h=>by simp at h
 | _::_,_,[],_,h=>by simp at h
 | c::cs,l,q::st,st1,h=>by
  have a:=λst1=>Ir (cs:=cs) (l:=l) (st:=st) (st1:=st1) (by simpa using h)
  cases st1 with
  | nil=>exact⟨λh=>h.elim,λh=>h.elim⟩
  | cons x st1=>exact⟨λh=>⟨h.1,(a st1).1 h.2⟩,λh=>⟨h.1,(a st1).2 h.2⟩⟩
theorem Te{n:Net}{st:List Int}(h:n.ps.length+n.au.length=st.length)(l:Int):KR n st l=(Ef n).zipWith (λc q=>c q l) st:=by
 unfold KR Ef;have e:st=st.take n.ps.length++st.drop n.ps.length:=(qo _ _).symm
 conv=>rhs;rw[e]
 rw[List.zipWith_append (by simp;omega),List.zipWith_map_left,List.zipWith_map_left];congr 1;exact GC _ _ _
theorem Tj:∀ {zs ss:List Int},Fits zs ss->∀n:Int,DH zs ss n=n*Aw zs+DH zs ss 0
 | _,_,.nil,n=>by simp[DH,Aw]
 | _,_,@Fits.cons z s zs ss c b a,n=>by
  show DH zs ss (n*z+s)=n*(z*Aw zs)+DH zs ss (0*z+s)
  rw[Tj a (n*z+s),Tj a (0*z+s),rI,rI,rn,Int.zero_mul,Int.zero_mul,Int.zero_add,Int.add_assoc]
theorem OL:∀ {zs ss:List Int},Fits zs ss->∀m:Int,BH zs (DH zs ss m)=ss
 | _,_,.nil,m=>rfl
 | _,_,@Fits.cons z s zs ss d c a,m=>by
  show (DH zs ss (m*z+s) / Aw zs%z)::BH zs (DH zs ss (m*z+s))=s::ss
  rw[OL a];congr 1;have e:=a.pos;have b:=a.enc 0 (by omega);rw[Int.zero_add,tc]at b;rw[Tj a,Int.add_comm,Int.add_mul_ediv_right _ _ (by omega),Int.ediv_eq_zero_of_lt b.1 b.2,Int.zero_add,Int.add_comm,Int.add_mul_emod_self_right,Int.emod_eq_of_lt d c]
theorem LF:∀ {zs:List Int} {cs:List (List Int)} {st:List Int},FM zs cs->SH st cs->Fits zs st
 | _,_,[],.nil,_=>.nil
 | _,_,_::_,.nil,h=>h.elim
 | _,_,[],.cons _ _ _,h=>h.elim
 | _,_,x::st,.cons a c b,h=>.cons (a x h.1).1 (a x h.1).2 (LF b h.2)
theorem MM:∀ {cs:List Ot} {st st':List Int},cs.length=st.length->(LB cs [] st st'↔st'=st)
 | [],[],[],_=>⟨λ_=>rfl,λ_=>trivial⟩
 | [],[],_::_,_=>⟨λh=>h.elim,λh=>by cases h⟩
 | [],_::_,_,h=>by simp at h
 | _::_,[],_,h=>by simp at h
 | c::cs,q::st,[],h=>⟨λh=>h.elim,λh=>by cases h⟩
 | c :: cs,q::st,r::st',h=>by
  have d:=MM (cs:=cs) (st:=st) (st':=st') (by simpa using h);constructor
  ·rintro⟨a,b⟩
   have a:r=q:=a;rw[d.1 b,a]
  ·intro h
   injection h with a b
   exact⟨a,d.2 b⟩
theorem Ij{n:Net}(q:Ea n):∀ {w:List Int} {st:List Int} {x:Int},Fits (Ag n) st->(∀l∈w,0<=l/\l<6)->(reach (EN n) w (DH (Ag n) st 0) x↔∃st',LB (Ef n) w st st'/\Fits (Ag n) st'/\x=DH (Ag n) st' 0)
 | [],st,x,e,_=>by
  have j:=e.len
  have f:(Ef n).length=st.length:=by simp[Ef,Ag]at j |-;omega
  constructor
  ·intro h
   exact⟨st,(MM f).2 rfl,e,h.symm⟩
  ·rintro⟨st',a,_,b⟩
   rw[(MM f).1 a]at b;exact b.symm
 | l :: w,st,x,e,k=>by
  have j:=e.len
  have f:(Ef n).length=st.length:=by simp[Ef,Ag]at j |-;omega
  have g:=k l (by simp);have d:=Iw q e g.1 g.2
  have c:n.ps.length+n.au.length=st.length:=by simp[Ag]at j;omega
  have v:(EN n).succ (DH (Ag n) st 0) l=Hr (Ag n) (KR n st l) [0]:=by
   show Fy n (Ag n) (BH (Ag n) (DH (Ag n) st 0)) l=_
   rw[OL e];rfl
  have key:∀y,y∈(EN n).succ (DH (Ag n) st 0) l↔∃st1,Uv (Ef n) l st st1/\Fits (Ag n) st1/\y=DH (Ag n) st1 0:=λy=>by
   rw[v,Zj d.len.symm];constructor
   ·rintro⟨o,p,st1,a,b⟩
    have p:o=0:=by simpa using p
    subst p;exact⟨st1,(Ir f).1 (by rw[<-Te c];exact a),LF d a,b⟩
   ·rintro⟨st1,a,_,b⟩
    exact⟨0,by simp,st1,by rw[Te c];exact(Ir f).2 a,b⟩
  constructor
  ·rintro⟨y,u,h⟩
   obtain⟨st1,a,b,rfl⟩:=(key y).1 u;obtain⟨st',t,s⟩:=(Ij q b λm r=>k m (by simp[r])).1 h;exact⟨st',Kq.2 ⟨st1,a,t⟩,s⟩
  ·rintro⟨st',t,s⟩
   obtain⟨st1,a,z⟩:=Kq.1 t;have i:Fits (Ag n) st1:=LF d (by rw[Te c];exact(Ir f).2 a);exact⟨_,(key _).2 ⟨st1,a,i,rfl⟩,(Ij q i λm r=>k m (by simp[r])).2 ⟨st',z,s⟩⟩
theorem NT{n:Net}(g:Ea n):∀ {w:List Int} {st st':List Int},Fits (Ag n) st->(∀l∈w,0<=l/\l<6)->LB (Ef n) w st st'->Fits (Ag n) st'
 | [],st,st',b,_,h=>by
  have c:=b.len
  have e:(Ef n).length=st.length:=by simp[Ef,Ag]at c |-;omega
  rw[(MM e).1 h];exact b
 | l::w,st,st',b,f,h=>by
  have c:=b.len
  have e:(Ef n).length=st.length:=by simp[Ef,Ag]at c |-;omega
  have a:=f l (by simp)
  have d:n.ps.length+n.au.length=st.length:=by simp[Ag]at c;omega
  obtain⟨st1,k,j⟩:=Kq.1 h;exact NT g (LF (Iw g b a.1 a.2) (by rw[Te d];exact(Ir e).2 k)) (λm i=>f m (by simp[i])) j
theorem GS{a:AV}:∀ {w:List Int} {q r:Int},Kr (λq l=>[BS a q.toNat l]) w q r↔r=C3 (fA a) q w
 | [],q,r=>Iff.rfl
 | l::w,q,r=>by
  have b:=GS (a:=a) (w:=w) (q:=fA a q l) (r:=r)
  show (∃y,y∈[BS a q.toNat l]/\Kr _ w y r)↔_
  simp only[sw,exists_eq_left];exact b
abbrev NM(s:Sys):Ot:=λq l=>BN s q l
abbrev nP(a:AV):Ot:=λq l=>[BS a q.toNat l]
def Hq(s:Sys)(w:List Int):Prop:=∃q,Kr (NM s) w 0 q
def Hp(a:AV)(w:List Int):Bool:=KA a (C3 (fA a) 0 w)
theorem nU{s:Sys}{a p:AV}(h:DC s a p=true){w:List Int}(v:over (EN (ED s a p)) w):Tq (EN (ED s a p)) w↔Hq s w/\Hp a w=true/\Hp p w=false:=by
 obtain⟨m,hk,i⟩:=OS h
 have d:∀l∈w,0<=l/\l<6:=λl z=>by have:=Ai (v l z);omega
 have t:∀ {q k j:Int},Fits (Ag (ED s a p)) [q,k,j]->(EN (ED s a p)).goal (DH (Ag (ED s a p)) [q,k,j] 0)=(KA a k && !KA p j):=λi=>by
  unfold EN;dsimp only;rw[OL i];rfl
 unfold Tq;constructor
 ·rintro⟨x,u,b⟩
  obtain⟨st',c,n,rfl⟩:=(Ij m i d).1 u
  match st',c,n,b with
  | [q,k,j],c,n,b=>
   rw[t n]at b;obtain⟨o,f,e,_⟩:=c;have f:=GS.1 f;have e:=GS.1 e;subst f e;refine⟨⟨q,o⟩,?_,?_⟩
   ·unfold Hp;revert b;cases KA a (C3 (fA a) 0 w)<;>simp
   ·unfold Hp;revert b;cases KA p (C3 (fA p) 0 w)<;>simp
  | [],c,_,_=>exact c.elim
  | [_],c,_,_=>exact c.2.elim
  | [_,_],c,_,_=>exact c.2.2.elim
  | _::_::_::_::_,c,_,_=>exact c.2.2.2.elim
 ·rintro⟨⟨q,o⟩,f,e⟩
  have r:LB (Ef (ED s a p)) w [0,0,0] [q,C3 (fA a) 0 w,C3 (fA p) 0 w]:=⟨o,GS.2 rfl,GS.2 rfl,trivial⟩
  have y:=λx=>Ij (w:=w) (x:=x) m i d;have g:Fits (Ag (ED s a p)) [q,C3 (fA a) 0 w,C3 (fA p) 0 w]:=NT m i d r;refine⟨_,(y _).2 ⟨_,r,g,rfl⟩,?_⟩;rw[t g];unfold Hp at f e;rw[f,e];rfl
theorem JT{w:List Int}:∀ {cs ds:List Ot} {st st2 x:List Int},cs.length=st.length->(LB (cs++ds) w (st++st2) x↔∃y z,x=y++z/\LB cs w st y/\LB ds w st2 z)
 | [],ds,[],st2,x,_=>by
  constructor
  ·intro h;exact⟨[],x,rfl,trivial,h⟩
  ·rintro⟨y,z,rfl,b,d⟩
   cases y with
   | nil=>exact d
   | cons a y=>exact b.elim
 | [],_,_::_,_,_,h=>by simp at h
 | _::_,_,[],_,_,h=>by simp at h
 | c :: cs,ds,q::st,st2,x,h=>by
  have f:=λx=>JT (w:=w) (cs:=cs) (ds:=ds) (st:=st) (st2:=st2) (x:=x) (by simpa using h);constructor
  ·intro e
   cases x with
   | nil=>exact e.elim
   | cons r x=>
    obtain⟨y,z,b,d,g⟩:=(f x).1 e.2;exact⟨r::y,z,by rw[b];rfl,⟨e.1,d⟩,g⟩
  ·rintro⟨y,z,rfl,b,d⟩
   cases y with
   | nil=>exact b.elim
   | cons r y=>exact⟨b.1,(f _).2 ⟨y,z,rfl,b.2,d⟩⟩
theorem QM{w:List Int}:∀ {l:List Sys},(∃y,LB (l.map NM) w (List.replicate l.length 0) y)↔∀s∈l,Hq s w
 | []=>Iff.intro (λ_ s c=>absurd c sQ) (λ_=>⟨[],trivial⟩)
 | s :: l=>by
  have a:=QM (w:=w) (l:=l);constructor
  ·rintro⟨y,h⟩ t ht
   cases y with
   | nil=>exact h.elim
   | cons r y=>
    rcases mt.1 ht with rfl|ht
    ·exact⟨r,h.1⟩
    ·exact a.1 ⟨y,h.2⟩ t ht
  ·intro h
   obtain⟨r,d⟩:=h s (by simp);obtain⟨y,b⟩:=a.2 λt ht=>h t (by simp[ht]);exact⟨r::y,d,b⟩
theorem QL{w:List Int}:∀ {cs:List Ot} {st st':List Int},LB cs w st st'->st'.length=cs.length
 | [],[],[],_=>rfl
 | [],[],_::_,h=>h.elim
 | [],_::_,[],h=>h.elim
 | [],_::_,_::_,h=>h.elim
 | _::_,[],[],h=>h.elim
 | _::_,[],_::_,h=>h.elim
 | _::_,_::_,[],h=>h.elim
 | c::cs,q::st,r::st',h=>by simp[QL h.2]
theorem ki{l:List Sys}{p:AV}(h:(Bc l && AT p)=true){w:List Int}(G:over (EN (C0 l p)) w):Tq (EN (C0 l p)) w↔(∀s∈l,Hq s w)/\Hp p w=false:=by
 obtain⟨v,hk,n⟩:=OR h
 have f:∀m∈w,0<=m/\m<6:=λm H=>by have:=Ai (G m H);omega
 have A:∀ {y:List Int} {r:Int},y.length=l.length->Fits (Ag (C0 l p)) (y++[r])->(EN (C0 l p)).goal (DH (Ag (C0 l p)) (y++[r]) 0) = !KA p r:=λ{y r} k n=>by
  unfold EN;dsimp only;rw[OL n]
  show (!bG (C0 l p) (y++[r]) 0)=_
  unfold bG KA
  have e:(y++[r]).getD ((C0 l p).ps.length+0) 0=r:=IE (by
   show (y++[r])[l.length+0]?=some r
   rw[r6,<-k];simp)
  rw[e];rfl
 have g:(C0 l p).st=List.replicate l.length 0++[0]:=by
  show List.replicate (l.length+1) 0=_
  rw[List.replicate_succ']
 have j:Ef (C0 l p)=l.map NM++[nP p]:=rfl
 have b:(l.map NM).length=(List.replicate l.length (0:Int)).length:=by simp
 have u:=λx=>Ij (w:=w) (x:=x) v n f;unfold Tq;constructor
 ·rintro⟨x,F,a⟩
  obtain⟨st',o,d,rfl⟩:=(u x).1 F;rw[g,j]at o;obtain⟨y,z,rfl,B,c⟩:=(JT b).1 o
  have q:y.length=l.length:=by rw[QL B];simp
  match z,c,d,a with
  | [r],c,d,a=>
   rw[A q d]at a;have I:=GS.1 c.1;subst I;exact⟨QM.1 ⟨y,B⟩,by unfold Hp;revert a;cases KA p (C3 (fA p) 0 w)<;>simp⟩
  | [],c,_,_=>exact c.elim
  | _::_::_,c,_,_=>exact c.2.elim
 ·rintro⟨o,d⟩
  obtain⟨y,k⟩:=QM.2 o
  have t:LB (Ef (C0 l p)) w (C0 l p).st (y++[C3 (fA p) 0 w]):=by
   rw[g,j];exact(JT b).2 ⟨y,_,rfl,k,GS.2 rfl,trivial⟩
  have i:=NT v n f t;refine⟨_,(u _).2 ⟨_,t,i,rfl⟩,?_⟩;rw[A (by rw[QL k];simp) i];unfold Hp at d;rw[d];rfl
theorem FU{c:Ot}:∀ {u w:List Int} {q r:Int},Kr c (u++w) q r↔∃y,Kr c u q y/\Kr c w y r
 | [],w,q,r=>⟨λh=>⟨q,rfl,h⟩,λ⟨y,a,b⟩=>by have a:y=q:=a;subst a;exact b⟩
 | l :: u,w,q,r=>by
  constructor
  ·rintro⟨y,d,h⟩
   obtain⟨z,a,b⟩:=FU.1 h;exact⟨z,⟨y,d,a⟩,b⟩
  ·rintro⟨z,⟨y,d,a⟩,b⟩
   exact⟨y,d,FU.2 ⟨z,a,b⟩⟩
theorem OK{s:Sys}(b:AW s=true):∀ {w:List Int} {q r:Int},0<=q/\q<s.st->Kr (NM s) w q r->0<=r/\r<s.st
 | [],q,r,a,h=>by have h:r=q:=h;subst h;exact a
 | l::w,q,r,a,⟨y,c,h⟩=>OK b (JR b a.1 a.2 c) h
theorem Ub{a:AV}(ha:AT a=true):∀ {w:List Int} {q:Int},(∀l∈w,0<=l/\l<6)->0<=q/\q<a.nx.length->0<=C3 (fA a) q w/\C3 (fA a) q w<a.nx.length
 | [],q,_,c=>c
 | l::w,q,b,c=>by
  have d:=b l (by simp);exact Ub ha (w:=w) (λm e=>b m (by simp[e])) (Dz ha (q:=q.toNat) (by omega) d.1 d.2)
theorem bU{t:CO}{F:PS}{u:W}{c:UInt8}:Hj t F (u++[c])=Ds t ((c.toNat:Int)-97) (Hj t F u):=by rw[Qo];rfl
theorem Km{s:Sys}{q l r:Int}(h:A6 s.al l.toNat=true):r∈BN s q l↔∃e∈s.es,e.f=q/\e.l=l/\e.t=r:=by
 unfold BN;rw[if_pos h];simp only[d8,pO,d4,decide_eq_true_eq];constructor
 ·rintro⟨e,⟨d,c,b⟩,a⟩;exact⟨e,d,c,b,a⟩
 ·rintro⟨e,d,c,b,a⟩;exact⟨e,⟨d,c,b⟩,a⟩
section
variable {t:CO}(ht:Bi t=true)
include ht
theorem ZC{F0:PS}(A:C7 t F0){p j:Nat}:QP t F0 p j↔∃(a b:Nat) (u:List Int),(F0 a).testBit b=true/\(∀l∈u,l∈Cy t)/\Kr (NM t.s) u b j/\(p:Int)=C3 (fA t.q) a u:=by
 constructor
 ·intro h
  induction h with
  | @base p j hb=>exact⟨p,j,[],hb,by simp,rfl,rfl⟩
  | @step p j e i o n J r=>
   obtain⟨a,b,u,z,k,c,d⟩:=r;have I:=Iq ht o;have hL:=DV ht n;have g:=i.lt ht A;have H:=Dz (CB ht) g.1 hL.1 hL.2.1;refine⟨a,b,u++[e.l],z,λl x=>?_,?_,?_⟩
   ·rcases d9.1 x with h|h
    ·exact k l h
    ·simp at h;subst h;exact n
   ·refine FU.2 ⟨j,c,(e.t.toNat:Int),?_,rfl⟩
    exact(Km hL.2.2).2 ⟨e,o,by omega,rfl,by omega⟩
   ·rw[JJ,<-d]
    show ((BS t.q p e.l).toNat:Int)=BS t.q ((p:Int).toNat) e.l
    rw[f9];omega
 ·rintro⟨a,b,u,z,k,c,d⟩
  have key:∀(u:List Int) (a b:Nat),QP t F0 a b->(∀l∈u,l∈Cy t)->∀ {p j:Nat},Kr (NM t.s) u b j->(p:Int)=C3 (fA t.q) a u->QP t F0 p j:=λu=>by
   induction u with
   | nil=>
    intro a b i _ p j c d;have c:(j:Int)=b:=c;have d:(p:Int)=a:=d
    obtain rfl:j=b:=by omega
    obtain rfl:p=a:=by omega
    exact i
   | cons l u r=>
    intro a b i k p j c d;have n:=k l (by simp);have hL:=DV ht n;have g:=i.lt ht A;have H:=Dz (CB ht) g.1 hL.1 hL.2.1;obtain⟨y,F,c⟩:=c;obtain⟨e,o,L,B,K⟩:=(Km hL.2.2).1 F;have I:=Iq ht o;have w:=QP.step i o (by rw[B];exact n) (show e.f.toNat=b by omega)
    have v:((e.t.toNat:Nat):Int)=y:=by omega
    refine r _ _ w (λm G=>k m (by simp[G])) (by rw[v];exact c) ?_;rw[d,B]
    show C3 (fA t.q) (BS t.q ((a:Int).toNat) l) u=_
    rw[f9];congr 1;omega
  exact key u a b (.base z) k c d
theorem ep{F:PS}(o:C7 t F){l:Int}(v:0<=l/\l<6){p' j:Nat}:(WL t l F p').testBit j=true↔∃p a:Nat,(F p).testBit a=true/\BS t.q p l=(p':Int)/\(j:Int)∈BN t.s a l:=by
 rw[Mi]
 have g:∀ {p a:Nat},(F p).testBit a=true->p<t.q.nx.length:=λ{p a} h=>by
  rcases pT p t.q.nx.length with b|b
  ·exact b
  ·rw[o.z p b]at h;simp at h
 unfold Dt;by_cases hb:A6 t.s.al l.toNat=true
 ·simp only [hb,if_true]
  constructor
  ·rintro⟨p,b,d,c⟩
   obtain⟨e,i,⟨n,k⟩,u⟩:=DW.1 c;have r:=Iq ht i;exact⟨p,e.f.toNat,k,d,(Km hb).2 ⟨e,i,by omega,n,by omega⟩⟩
  ·rintro⟨p,a,b,d,c⟩
   obtain⟨e,i,n,k,u⟩:=(Km hb).1 c;have r:=Iq ht i;refine⟨p,g b,d,DW.2 ⟨e,i,⟨k,?_⟩,by omega⟩⟩;rw[show e.f.toNat=a by omega];exact b
 ·simp only [hb,if_false,rU]
  have m:∀a:Nat,BN t.s a l=[(a:Int)]:=λa=>by unfold BN;rw[if_neg hb]
  constructor
  ·rintro⟨p,b,d,c⟩
   exact⟨p,j,c,d,by rw[m];simp⟩
  ·rintro⟨p,a,b,d,c⟩
   rw[m]at c
   obtain rfl:j=a:=by simp at c;omega
   exact⟨p,g b,d,b⟩
end
def Cf(al:Int)(u:List Int):List Int:=u.filter λl=>A6 al l.toNat
def ZU(t:CO)(u:List Int):Prop:=∀l∈u,l∈Cy t\/l∈Ac t.al
theorem gP{t:CO}{l:Int}(h:l∈Cy t):A6 t.al l.toNat=false:=by
 unfold Cy at h;have:=(pO.1 h).2
 simpa using this
theorem Um{t:CO}{u:List Int}(d:ZU t u)(h:Cf t.al u=[]):∀l∈u,l∈Cy t:=λl b=>by
 rcases d l b with a|a
 ·exact a
 ·exfalso
  have c:l∈Cf t.al u:=pO.2 ⟨b,(Ai a).2.2⟩;rw[h]at c;cases c
theorem Tp{t:CO}{u:List Int}(h:∀l∈u,l∈Cy t):Cf t.al u=[]:=sK.2 λl a=>by rw[gP (h l a)];simp
theorem YY{t:CO}{F:PS}(g:C7 t F):Fu t F=true↔∃p j:Nat,(F p).testBit j=true/\KA t.q p=false:=by
 unfold Fu;rw[rt];constructor
 ·rintro⟨p,c,h⟩
  simp only[d4,decide_eq_true_eq,rh]at h
  have:∃j,(F p).testBit j=true:=Classical.byContradiction λf=>h.1 (HX λj=>by
   cases hb:(F p).testBit j
   ·rfl
   ·exact absurd ⟨j,hb⟩ f)
  obtain⟨j,d⟩:=this;exact⟨p,j,d,by unfold KA;rw[f9];exact h.2⟩
 ·rintro⟨p,j,a,b⟩
  have c:p<t.q.nx.length:=by
   rcases pT p t.q.nx.length with h|h
   ·exact h
   ·rw[g.z p h]at a;simp at a
  refine⟨p,pG.2 c,?_⟩;unfold KA at b;rw[f9]at b;simp only[d4,decide_eq_true_eq,rh];exact⟨λe=>by rw[e]at a;simp at a,b⟩
theorem SB{t:CO}:∀(w:List Int) {F:PS},Gg t F (Dg w)=false↔∃k,k<=w.length/\Fu t (Hj t F (Dg (w.take k)))=true
 | [],F=>by
  show (!Fu t F)=false↔_
  constructor
  ·intro h
   exact⟨0,by simp,by show Fu t F=true;simpa using h⟩
  ·rintro⟨k,_,h⟩
   have h:Fu t F=true:=by simpa[Dg,Hj]using h
   rw[h];rfl
 | l :: w,F=>by
  have c:=λF=>SB (t:=t) w (F:=F);have e:Gg t F (Dg (l::w))=(!Fu t F && Gg t (Ds t (((lb l).toNat:Int)-97) F) (Dg w)):=rfl;rw[e];constructor
  ·intro h
   cases hb:Fu t F
   ·rw[hb]at h
    obtain⟨k,b,a⟩:=(c _).1 h;exact⟨k+1,by simpa using b,a⟩
   ·exact⟨0,by simp,hb⟩
  ·rintro⟨k,b,a⟩
   cases k with
   | zero=>
    have a:Fu t F=true:=a;rw[a];rfl
   | succ k=>
    have:=(c (Ds t (((lb l).toNat:Int)-97) F)).2 ⟨k,by simpa using b,a⟩;rw[this,Bool.and_false]
theorem iV{α:Type}{P:List α->Prop}(c:P [])(b:∀w l,P w->P (w++[l]))(w:List α):P w:=by
 rw[<-List.reverse_reverse w]
 induction w.reverse with
 | nil=>exact c
 | cons l u a=>rw[List.reverse_cons];exact b _ l a
section
variable {t:CO}(ht:Bi t=true)
include ht
theorem dr{F0:PS}(a:C7 t F0){p j:Nat}:(Tf t F0 p).testBit j=true↔∃(b c:Nat) (u:List Int),(F0 b).testBit c=true/\(∀l∈u,l∈Cy t)/\Kr (NM t.s) u c j/\(p:Int)=C3 (fA t.q) b u:=by
 rw[OJ,ZC ht a];constructor
 ·exact λh=>h.2
 ·intro h
  exact⟨((ZC ht a).2 h).lt ht a |>.2,h⟩
theorem O4:∀(w:List Int) {F:PS},C7 t F->(∀l∈w,0<=l/\l<6)->C7 t (Hj t F (Dg w))
 | [],F,h,_=>h
 | l :: w,F,h,b=>by
  have a:=b l (by simp)
  have e:Hj t F (Dg (l::w))=Hj t (Ds t l F) (Dg w):=by
   show Hj t (Ds t (((lb l).toNat:Int)-97) F) (Dg w)=_
   rw[IH a.1 a.2]
  rw[e];exact O4 w (Mn ht a h) λm c=>b m (by simp[c])
theorem ZJ:∀(w:List Int),(∀l∈w,l∈Ac t.al)->∀ {p j:Nat},((Hj t (Cz t) (Dg w) p).testBit j=true↔∃u,ZU t u/\Cf t.al u=w/\Kr (NM t.s) u 0 j/\(p:Int)=C3 (fA t.q) 0 u):=λw=>by
 refine iV (P:=λw=>(∀l∈w,l∈Ac t.al)->∀ {p j:Nat},((Hj t (Cz t) (Dg w) p).testBit j=true↔∃u,ZU t u/\Cf t.al u=w/\Kr (NM t.s) u 0 j/\(p:Int)=C3 (fA t.q) 0 u)) ?_ ?_ w
 ·intro _ p j
  show (Tf t Jb p).testBit j=true↔_
  rw[dr ht (MR ht)]
  have S:∀ {y z:Nat},(Jb y).testBit z=true↔y=0/\z=0:=λ{y z} => by
   unfold Jb;split
   ·rename_i h
    subst h;have e:(1:Nat)=2 ^ 0:=rfl;rw[e,qV];simp[eq_comm]
   ·rename_i h;simp[h]
  constructor
  ·rintro⟨y,z,u,b,d,x,v⟩
   obtain⟨rfl,rfl⟩:=S.1 b;exact⟨u,λl hl=>.inl (d l hl),Tp d,x,v⟩
  ·rintro⟨u,b,d,x,v⟩
   exact⟨0,0,u,S.2 ⟨rfl,rfl⟩,Um b d,x,v⟩
 ·intro w l A H p j
  have o:=H l (by simp);have c:=Ai o;have A:=λp j=>A (λm a=>H m (by simp[a])) (p:=p) (j:=j)
  have g:=O4 ht w (F:=Cz t) (GI ht) λm a=>by have:=Ai (H m (by simp[a]));omega
  have e:Hj t (Cz t) (Dg (w++[l]))=Tf t (WL t l (Hj t (Cz t) (Dg w))):=by
   have N:Dg (w++[l])=Dg w++[lb l]:=by simp[Dg,lb]
   rw[N,bU,IH c.1 (by omega)];rfl
  rw[e,dr ht (Lh ht ⟨c.1,by omega⟩ g)];constructor
  ·rintro⟨p1,j1,h,b,d,x,v⟩
   obtain⟨Q,R,h5,h6,h7⟩:=(ep ht g ⟨c.1,by omega⟩).1 b;obtain⟨u,i,G,M,L⟩:=(A Q R).1 h5;refine⟨u++l::h,λm a=>?_,?_,FU.2 ⟨R,M,j1,h7,x⟩,?_⟩
   ·rcases d9.1 a with a|a
    ·exact i m a
    ·rcases mt.1 a with rfl|a
     ·exact .inr o
     ·exact .inl (d m a)
   ·unfold Cf at *
    rw[qG,G,qH (by simpa using c.2.2)];have:=Tp d;unfold Cf at this;rw[this]
   ·rw[JJ,<-L,v]
    show _=C3 (fA t.q) (BS t.q ((Q:Int).toNat) l) h
    rw[f9,h6]
  ·rintro⟨u,i,G,M,L⟩
   unfold Cf at G;obtain⟨f,u2,rfl,N,e2⟩:=List.filter_eq_append_iff.1 G;obtain⟨b,d,rfl,e3,e4,e5⟩:=List.filter_eq_cons_iff.1 e2;have r:∀m∈b,m∈Cy t:=Um (λm a=>i m (by simp[a])) (by unfold Cf;exact sK.2 e3);have K:∀m∈d,m∈Cy t:=Um (λm a=>i m (by simp[a])) e5;obtain⟨Y,V,c2⟩:=FU.1 M;obtain⟨n,U,k,T,c5⟩:=FU.1 c2
   have B:AW t.s=true:=by unfold Bi at ht;simp only[d4]at ht;exact ht.1
   have hst:=AU B;have I:=CB ht;have hqn:=AP I
   have J:∀m∈f++(b++l::d),0<=m/\m<6:=λm a=>by
    rcases i m a with h|h
    ·have:=DV ht h;omega
    ·have:=Ai h;omega
   have b1:=OK B ⟨by omega,by omega⟩ V;have X:=OK B b1 U;have b3:=JR B X.1 X.2 T;have a2:=Ub I (w:=f++b) (q:=0) (λm a=>J m (by rcases d9.1 a with h|h<;>simp[h])) ⟨by omega,by omega⟩;have a3:=Dz I (q:=(C3 (fA t.q) 0 (f++b)).toNat) (by omega) c.1 (show l<6 by omega);refine⟨(BS t.q (C3 (fA t.q) 0 (f++b)).toNat l).toNat,k.toNat,d,(ep ht g ⟨c.1,by omega⟩).2 ⟨(C3 (fA t.q) 0 (f++b)).toNat,n.toNat,(A _ _).2 ⟨f++b,λm a=>?_,?_,?_,by omega⟩,by omega,?_⟩,K,?_,?_⟩
   ·rcases d9.1 a with a|a
    ·exact i m (by simp[a])
    ·exact .inl (r m a)
   ·have:=Tp r
    unfold Cf at *;rw[qG,N,this,pX]
   ·rw[show ((n.toNat:Nat):Int)=n by omega]
    exact FU.2 ⟨Y,V,U⟩
   ·rw[show ((n.toNat:Nat):Int)=n by omega,show ((k.toNat:Nat):Int)=k by omega];exact T
   ·rw[show ((k.toNat:Nat):Int)=k by omega];exact c5
   ·rw[show (((BS t.q (C3 (fA t.q) 0 (f++b)).toNat l).toNat:Nat):Int)=BS t.q (C3 (fA t.q) 0 (f++b)).toNat l by omega,L,<-sG,JJ];rfl
theorem QJ{w:List Int}(v:∀l∈w,l∈Ac t.al):LS t (Dg w)=false↔∃u,ZU t u/\Cf t.al u <+: w/\Hq t.s u/\Hp t.q u=false:=by
 unfold LS;rw[SB];constructor
 ·rintro⟨k,I,H⟩
  have d:∀l∈w.take k,l∈Ac t.al:=λl o=>v l (pL o)
  have c:=O4 ht (w.take k) (GI ht) λm f=>by have:=Ai (d m f);omega
  obtain⟨p,j,G,F⟩:=(YY c).1 H;obtain⟨u,n,g,i,r⟩:=(ZJ ht _ d).1 G;exact⟨u,n,by rw[g];exact List.take_prefix _ _,⟨_,i⟩,by unfold Hp;rw[<-r];exact F⟩
 ·rintro⟨u,n,g,⟨q,i⟩,r⟩
  refine⟨(Cf t.al u).length,g.length_le,?_⟩;have e:w.take (Cf t.al u).length=Cf t.al u:=(List.prefix_iff_eq_take.1 g).symm;rw[e];have x:∀l∈Cf t.al u,l∈Ac t.al:=λl o=>v l (g.subset o)
  have y:AW t.s=true:=by unfold Bi at ht;simp only[d4]at ht;exact ht.1
  have A:=AU y;have z:=CB ht;have B:=AP z
  have c:=O4 ht (Cf t.al u) (GI ht) λm f=>by have:=Ai (x m f);omega
  have b:=OK y (⟨by omega,by omega⟩:(0:Int)<=0/\(0:Int)<t.s.st) i
  have a:=Ub z (w:=u) (q:=0) (λm f=>by
   rcases n m f with h|h
   ·have:=DV ht h;omega
   ·have:=Ai h;omega) ⟨by omega,by omega⟩
  refine(YY c).2 ⟨(C3 (fA t.q) 0 u).toNat,q.toNat,(ZJ ht _ x).2 ⟨u,n,rfl,?_,by omega⟩,?_⟩
  ·rw[show ((q.toNat:Nat):Int)=q by omega];exact i
  ·rw[show (((C3 (fA t.q) 0 u).toNat:Nat):Int)=C3 (fA t.q) 0 u by omega];exact r
end
theorem Js{s:Sys}:∀ {u:List Int} {q r:Int},Kr (NM s) u q r↔Kr (NM s) (Cf s.al u) q r
 | [],q,r=>Iff.rfl
 | l :: u,q,r=>by
  have c:=λq=>Js (s:=s) (u:=u) (q:=q) (r:=r);by_cases hb:A6 s.al l.toNat=true
  ·have e:Cf s.al (l::u)=l::Cf s.al u:=qH hb
   rw[e];exact⟨λ⟨y,a,b⟩=>⟨y,a,(c y).1 b⟩,λ⟨y,a,b⟩=>⟨y,a,(c y).2 b⟩⟩
  ·have e:Cf s.al (l::u)=Cf s.al u:=rS hb
   have d:NM s q l=[q]:=by show BN s q l=_;unfold BN;rw[if_neg hb]
   rw[e,<-c q];constructor
   ·rintro⟨y,a,b⟩
    rw[d]at a
    obtain rfl:y=q:=by simpa using a
    exact b
   ·intro h
    exact⟨q,by rw[d];simp,h⟩
theorem Wu{s:Sys}{u v:List Int}(h:Cf s.al u=Cf s.al v):Hq s u↔Hq s v:=by
 unfold Hq;constructor
 ·rintro⟨q,a⟩;exact⟨q,Js.2 (h▸Js.1 a)⟩
 ·rintro⟨q,a⟩;exact⟨q,Js.2 (h.symm▸Js.1 a)⟩
theorem Qm{a:AV}(ha:AT a=true):∀ {u:List Int} {q:Int},(∀l∈u,0<=l/\l<6)->0<=q/\q<a.nx.length->C3 (fA a) q u=C3 (fA a) q (Cf a.al u)
 | [],q,_,_=>rfl
 | l :: u,q,c,f=>by
  have d:=c l (by simp);have h:=Dz ha (q:=q.toNat) (by omega) d.1 d.2;have b:=λq=>Qm ha (u:=u) (q:=q) λm g=>c m (by simp[g]);by_cases hb:A6 a.al l.toNat=true
  ·have e:Cf a.al (l::u)=l::Cf a.al u:=qH hb
   rw[e];exact b _ h
  ·have e:Cf a.al (l::u)=Cf a.al u:=rS hb
   have i:BS a q.toNat l=q:=by unfold BS;rw[if_neg hb];omega
   rw[e]
   show C3 (fA a) (BS a q.toNat l) u=_
   rw[i];exact b _ f
def Jg(u:List Int):Prop:=∀l∈u,0<=l/\l<6
theorem SS{a:AV}(ha:AT a=true){u v:List Int}(c:Jg u)(b:Jg v)(h:Cf a.al u=Cf a.al v):Hp a u=Hp a v:=by
 have d:=AP ha;unfold Hp;rw[Qm ha c ⟨by omega,by omega⟩,Qm ha b ⟨by omega,by omega⟩,h]
theorem aa{al:Int}{u:List Int}(a:Jg u):Jg (Cf al u):=λl b=>a l (pO.1 b).1
theorem YB{al:Int}{u:List Int}(a:Jg u):∀l∈Cf al u,l∈Ac al:=λl b=>by
 obtain⟨d,c⟩:=pO.1 b;have:=a l d
 obtain⟨n,rfl⟩:∃n:Nat,l=n:=⟨l.toNat,by omega⟩
 exact Ek.2 ⟨by omega,c⟩
theorem Hd{al:Int}{u:List Int}(a:∀l∈u,l∈Ac al):Jg u:=λl b=>by have:=Ai (a l b);omega
theorem Un{al bl:Int}{u:List Int}(h:∀l∈u,A6 al l.toNat=true->A6 bl l.toNat=true):Cf al (Cf bl u)=Cf al u:=by
 unfold Cf;rw[List.filter_filter];refine sH λl a=>?_;cases ha:A6 al l.toNat
 ·rfl
 ·rw[h l a ha];rfl
theorem iG{al:Int}:∀ {v w:List Int},w <+: Cf al v->∃v',v' <+: v/\Cf al v'=w:=λ{v w} ⟨z,h⟩=>by
 obtain⟨a,c,rfl,b,_⟩:=List.filter_eq_append_iff.1 h.symm;exact⟨a,td _ _,b⟩
theorem fT{s:Sys}{u v:List Int}(h:u <+: v)(a:Hq s v):Hq s u:=by
 obtain⟨z,rfl⟩:=h;obtain⟨q,b⟩:=a;obtain⟨y,c,_⟩:=FU.1 b;exact⟨y,c⟩
theorem merge{A B:Int->Bool}:∀(u:List Int) {v:List Int},(∀l∈u,A l=true)->(∀l∈v,B l=true)->u.filter B=v.filter A->∃x:List Int,x.filter A=u/\x.filter B=v/\∀l∈x,l∈u\/l∈v
 | [],v,_,b,h=>⟨v,h.symm,List.filter_eq_self.2 b,λl n=>.inr n⟩
 | l :: u, v,g,b,h=>by
  have i:=g l (by simp);by_cases c:B l=true
  ·rw [qH c]at h
   obtain⟨k,j,rfl,p,q,o⟩:=List.filter_eq_cons_iff.1 h.symm;obtain⟨x,f,e,d⟩:=merge u (v:=j) (λm a=>g m (by simp[a])) (λm a=>b m (by simp[a])) o.symm;refine⟨k++l::x,?_,?_,λm a=>?_⟩
   ·rw[qG,sK.2 p,qH i,f];rfl
   ·rw[qG,List.filter_eq_self.2 λm a=>b m (by simp[a]),qH c,e]
   ·rcases d9.1 a with a|a
    ·exact .inr (by simp[a])
    ·rcases mt.1 a with rfl|a
     ·exact .inl (by simp)
     ·rcases d m a with h|h
      ·exact .inl (by simp[h])
      ·exact .inr (by simp[h])
  ·rw [rS c]at h
   obtain⟨x,f,e,d⟩:=merge u (v:=v) (λm a=>g m (by simp[a])) b h;refine⟨l::x,?_,?_,λm a=>?_⟩
   ·rw[qH i,f]
   ·rw[rS c,e]
   ·rcases mt.1 a with rfl|a
    ·exact .inl (by simp)
    ·rcases d m a with h|h
     ·exact .inl (by simp[h])
     ·exact .inr h
theorem Na{a b:Int}(ha:Bb a=true)(hb:Bb b=true){n:Nat}(c:n<64):A6 (GY .i64 a b) n=(A6 a n || A6 b n):=by
 unfold Bb at ha hb;simp only[decide_eq_true_eq]at ha hb
 obtain⟨x,rfl⟩:∃x:Nat,a=x:=⟨a.toNat,by omega⟩
 obtain⟨y,rfl⟩:∃y:Nat,b=y:=⟨b.toNat,by omega⟩
 have h:=LX (a:=x) (b:=y) (by omega) (by omega);rw[h.1,Dq (by omega) c,Dq (by omega) c,Dq (by omega) c,qP]
theorem gz{a b:Int}(ha:Bb a=true)(hb:Bb b=true){n:Nat}(c:n<64):A6 (Gn .i64 a b) n=(A6 a n && A6 b n):=by
 unfold Bb at ha hb;simp only[decide_eq_true_eq]at ha hb
 obtain⟨x,rfl⟩:∃x:Nat,a=x:=⟨a.toNat,by omega⟩
 obtain⟨y,rfl⟩:∃y:Nat,b=y:=⟨b.toNat,by omega⟩
 have h:=LV (a:=x) (b:=y) (by omega) (by omega);have d:x &&& y<64:=Nat.lt_of_le_of_lt sZ (by omega);rw[h,Dq (by omega) c,Dq (by omega) c,Dq (by omega) c,rV]
structure FN (s:Sys) (p:AV) (t:Sys) (al:Int):Prop where
 hs:AW s=true
 hp:AT p=true
 ht:AW t=true
 hal:al=AQ s p t
section
variable {s t:Sys}{p:AV}{al:Int}(hI:FN s p t al)
include hI
theorem km{n:Nat}(a:n<64):A6 al n=((A6 s.al n || A6 p.al n) && A6 t.al n):=by
 have c:=(AU hI.hs).1;have b:=(AP hI.hp).1;have d:=(AU hI.ht).1;rw[hI.hal];unfold AQ;rw[hI.hs,hI.hp,hI.ht];simp only[tg,if_true];rw[gz (LW c b) d a,Na c b a]
theorem PC:Bb al=true:=by
 have g:=(AU hI.hs).1;have f:=(AP hI.hp).1;have i:=(AU hI.ht).1;have h:=LW g f;rw[hI.hal];unfold AQ;rw[hI.hs,hI.hp,hI.ht];simp only[tg,if_true];unfold Bb at *;simp only[decide_eq_true_eq] at *
 obtain⟨x,d⟩:∃x:Nat,GY .i64 s.al p.al=x:=⟨(GY .i64 s.al p.al).toNat,by omega⟩
 obtain⟨y,c⟩:∃y:Nat,t.al=y:=⟨t.al.toNat,by omega⟩
 have:=LV (a:=x) (b:=y) (by omega) (by omega);have e:x &&& y<64:=Nat.lt_of_le_of_lt sZ (by omega);rw[d,c,this];omega
theorem FF:Bi ⟨s,p,al⟩=true:=by
 unfold Bi;rw[hI.hs,hI.hp,PC hI];rfl
theorem WB{v:List Int}(y:∀l∈v,l∈Ac t.al)(ht:Hq t v)(G:LS ⟨s,p,al⟩ (Dg (Cf al v))=false):∃x,Jg x/\(∀l∈x,A6 s.al l.toNat=true\/A6 t.al l.toNat=true)/\Hq s x/\Hq t x/\Hp p x=false:=by
 have m:=Hd y;obtain⟨u,A,J,I,H⟩:=(QJ (FF hI) (YB m)).1 G
 have d:Jg u:=λl a=>by
  rcases A l a with h|h
  ·have:=DV (FF hI) h;omega
  ·have:=Ai h;omega
 obtain⟨v',w,F⟩:=iG J;have g:∀l∈v',l∈Ac t.al:=λl a=>y l (w.subset a);have b:=λ(l:Int) (h:0<=l/\l<6)=>km hI (n:=l.toNat) (by omega)
 have q:∀l∈u,(A6 s.al l.toNat || A6 al l.toNat)=true:=λl a=>by
  rcases A l a with h|h
  ·rw[(DV (FF hI) h).2.2];rfl
  ·rw[(Ai h).2.2,s6]
 have o:∀l∈v',A6 t.al l.toNat=true:=λl a=>(Ai (g l a)).2.2
 have e:u.filter (λl=>A6 t.al l.toNat)=v'.filter λl=>A6 s.al l.toNat || A6 al l.toNat:=by
  have L:u.filter (λl=>A6 t.al l.toNat)=Cf al u:=sH λl a=>by
   have c:=q l a;rw[b l (d l a)]at c |-;revert c;cases A6 s.al l.toNat<;>cases A6 p.al l.toNat<;>cases A6 t.al l.toNat<;>simp
  have K:v'.filter (λl=>A6 s.al l.toNat || A6 al l.toNat)=Cf al v':=sH λl a=>by
   have c:=o l a;rw[b l (Hd g l a),c];cases A6 s.al l.toNat<;>cases A6 p.al l.toNat<;>simp
  rw[L,K,F]
 obtain⟨x,B,k,r⟩:=merge u q o e
 have f:Jg x:=λl a=>by
  rcases r l a with h|h
  ·exact d l h
  ·exact Hd g l h
 have i:∀l∈x,A6 s.al l.toNat=true\/A6 t.al l.toNat=true:=λl a=>by
  rcases r l a with h|h
  ·have c:=q l h
   rw[b l (d l h)]at c;revert c;cases A6 s.al l.toNat<;>cases A6 p.al l.toNat<;>cases A6 t.al l.toNat<;>simp
  ·exact .inr (o l h)
 have j:∀ {bl:Int},(∀l∈x,A6 bl l.toNat=true->(A6 s.al l.toNat || A6 al l.toNat)=true)->Cf bl u=Cf bl x:=λ{bl} h=>by
  rw[<-B]
  show List.filter _ (List.filter _ x)=List.filter _ x
  rw[List.filter_filter];refine sH λl a=>?_;cases hb:A6 bl l.toNat
  ·rfl
  ·rw[h l a hb];rfl
 refine⟨x,f,i,(Wu (j λl _ h=>by rw[h];rfl)).1 I,?_,?_⟩
 ·have:=fT w ht
  refine(Wu ?_).1 this;have k:Cf t.al x=v':=k;rw[<-k,Un λ_ _ h=>h]
 ·rw[<-H]
  refine SS hI.hp f d (j λl z h=>?_).symm;have:=b l (f l z);rw[h,s6,qc]at this
  rcases i l z with c|c
  ·rw[c];rfl
  ·rw[this,c,s6]
end
theorem J8{al:Int}{u:List Int}(c:Jg u)(h:∀l∈u,A6 al l.toNat=true):∀l∈u,l∈Ac al:=λl a=>by
 have:=c l a
 obtain⟨n,rfl⟩:∃n:Nat,l=n:=⟨l.toNat,by omega⟩
 have b:=h _ a;rw[f9]at b;exact Ek.2 ⟨by omega,b⟩
theorem WV{g:Gr}{w:List Int}(h:Dh g=some w):over g w/\Tq g w/\∀u,over g u->Tq g u->¬slt u w:=by
 have:=C8 g;rw[h]at this;exact this
theorem gu{g:Gr}(h:Dh g=none):∀u,over g u->¬Tq g u:=by
 have:=C8 g;rw[h]at this;exact this
theorem Lr{s:Sys}{a p:AV}{w:List Int}(h:Ec s a p=some w):DC s a p=true/\(∀l∈w,l∈Ac (GY .i64 s.al a.al))/\Hq s w/\Hp a w=true/\Hp p w=false:=by
 unfold Ec at h;by_cases b:DC s a p=true
 ·rw[if_pos b]at h
  obtain⟨c,d,_⟩:=WV h;exact⟨b,c,(nU b c).1 d⟩
 ·rw[if_neg b]at h;cases h
theorem YA{l:List Sys}{p:AV}{w:List Int}(h:BO l p=some w):(Bc l && AT p)=true/\(∀m∈w,m∈Ac (BD l))/\(∀s∈l,Hq s w)/\Hp p w=false:=by
 unfold BO at h;by_cases a:(Bc l && AT p)=true
 ·rw[if_pos a]at h
  obtain⟨b,c,_⟩:=WV h;exact⟨a,b,(ki a b).1 c⟩
 ·rw[if_neg a]at h;cases h
theorem Xp{l:List Sys}{p:AV}(c:(Bc l && AT p)=true):Jw l p=true↔∀w,(∀m∈w,m∈Ac (BD l))->(∀s∈l,Hq s w)->Hp p w=true:=by
 unfold Jw BO;rw[c,qc,if_pos rfl];constructor
 ·intro h w e b
  cases a:Dh (EN (C0 l p)) with
  | some x=>rw[a]at h;cases h
  | none=>
   have:=gu a w e;rw[ki c e]at this;cases d:Hp p w
   ·exact absurd ⟨b,d⟩ this
   ·rfl
 ·intro h
  cases a:Dh (EN (C0 l p)) with
  | none=>rfl
  | some x=>
   obtain⟨b,g,_⟩:=WV a;obtain⟨d,f⟩:=(ki c b).1 g;rw[h x b d]at f;cases f
theorem UG(n:Nat)(a:n<64):A6 0 n=false:=by
 have:=Dq (s:=0) (n:=n) (by omega) a;rw[show ((0:Nat):Int)=0 from rfl]at this;rw[this];simp
theorem Kf{t:Sys}:Bc [t]=AW t:=by simp[Bc]
theorem NB{s t:Sys}:Bc [s,t]=(AW s && AW t):=by simp[Bc]
theorem Y0{t:Sys}(ht:AW t=true){n:Nat}(a:n<64):A6 (BD [t]) n=A6 t.al n:=by
 unfold BD;rw[Kf,ht,if_pos rfl]
 show A6 (GY .i64 0 t.al) n=_
 rw[Na (by decide) (AU ht).1 a,UG n a,sf]
theorem Y3{s t:Sys}(a:AW s=true)(ht:AW t=true){n:Nat}(b:n<64):A6 (BD [s,t]) n=(A6 s.al n || A6 t.al n):=by
 unfold BD;rw[NB,a,ht,tg,if_pos rfl]
 show A6 (GY .i64 (GY .i64 0 s.al) t.al) n=_
 have c:Bb 0=true:=by decide
 rw[Na (LW c (AU a).1) (AU ht).1 b,Na c (AU a).1 b,UG n b,sf]
theorem kL{t:Sys}(ht:AW t=true){u:List Int}:(∀l∈u,l∈Ac (BD [t]))↔∀l∈u,l∈Ac t.al:=by
 constructor
 ·intro h
  have a:=Hd h
  exact J8 a λl b=>by rw[<-Y0 ht (by have:=a l b;omega)];exact(Ai (h l b)).2.2
 ·intro h
  have a:=Hd h
  exact J8 a λl b=>by rw[Y0 ht (by have:=a l b;omega)];exact(Ai (h l b)).2.2
theorem iz{s t:Sys}(c:AW s=true)(ht:AW t=true){u:List Int}:(∀l∈u,l∈Ac (BD [s,t]))↔Jg u/\∀l∈u,A6 s.al l.toNat=true\/A6 t.al l.toNat=true:=by
 constructor
 ·intro h
  have a:=Hd h;refine⟨a,λl b=>?_⟩;have:=(Ai (h l b)).2.2;rw[Y3 c ht (by have:=a l b;omega),pK]at this;exact this
 ·rintro⟨a,h⟩
  exact J8 a λl b=>by rw[Y3 c ht (by have:=a l b;omega),pK];exact h l b
theorem mw{a b:Int}(ha:Bb a=true)(hb:Bb b=true){u:List Int}:(∀l∈u,l∈Ac (GY .i64 a b))↔Jg u/\∀l∈u,A6 a l.toNat=true\/A6 b l.toNat=true:=by
 constructor
 ·intro h
  have c:=Hd h;refine⟨c,λl d=>?_⟩;have:=(Ai (h l d)).2.2;rw[Na ha hb (by have:=c l d;omega),pK]at this;exact this
 ·rintro⟨c,h⟩
  exact J8 c λl d=>by rw[Na ha hb (by have:=c l d;omega),pK];exact h l d
theorem jf{s t:Sys}{w:List Int}:(∀x∈[s,t],Hq x w)↔Hq s w/\Hq t w:=by simp
theorem iA{t:Sys}{w:List Int}:(∀x∈[t],Hq x w)↔Hq t w:=by simp
theorem Uj{s t:Sys}{p:AV}{al:Int}(hI:FN s p t al){v:List Int}(g:∀l∈v,l∈Ac t.al)(ht:Hq t v)(h:LS ⟨s,p,al⟩ (Dg (Cf al v))=false):Jw [s,t] p=false:=by
 have a:(Bc [s,t] && AT p)=true:=by rw[NB,hI.hs,hI.ht,hI.hp];rfl
 obtain⟨x,f,e,d,c,b⟩:=WB hI g ht h;cases hk:Jw [s,t] p
 ·rfl
 ·rw[Xp a]at hk
  rw[hk x ((iz hI.hs hI.ht).2 ⟨f,e⟩) (jf.2 ⟨d,c⟩)]at b;cases b
theorem cR{a:AV}{w:List Int}(b:∀l∈w,l∈Ac a.al):LA a (Dg w)=Hp a w:=by
 unfold Hp;rw[Kj w 0 b];rfl
theorem YD{s t:Sys}{p a:AV}{al:Int}(hI:FN s p t al)(ha:AT a=true)(hal:a.al=al){u:List Int}(h:Ec s a p=some u):(∀l∈Cf al u,l∈Ac al)/\LA a (Dg (Cf al u))=true/\LS ⟨s,p,al⟩ (Dg (Cf al u))=false:=by
 obtain⟨o,i,j,n,k⟩:=Lr h;have e:=Hd i;have c:=YB (al:=al) e;have d:=((mw (AU hI.hs).1 (AP ha).1).1 i).2;refine⟨c,?_,(QJ (FF hI) c).2 ⟨u,λl b=>?_,sL _,j,k⟩⟩
 ·rw[cR (by rw[hal];exact c),<-n]
  exact SS ha (aa e) e (by rw[hal,Un λ_ _ h=>h])
 ·have hb:=e l b
  rw[hal]at d;by_cases f:A6 al l.toNat=true
  ·exact .inr (J8 (u:=[l]) (by intro m b;simp at b;subst b;exact hb) (by intro m b;simp at b;subst b;exact f) l (by simp))
  ·refine .inl ?_
   unfold Cy;refine pO.2 ⟨?_,by simpa using f⟩;have g:A6 s.al l.toNat=true:=(d l b).resolve_right f;exact J8 (u:=[l]) (by intro m b;simp at b;subst b;exact hb) (by intro m b;simp at b;subst b;exact g) l (by simp)
theorem Hu{t:Sys}{a:AV}{v:List Int}(h:BO [t] a=some v):AW t=true/\AT a=true/\(∀l∈v,l∈Ac t.al)/\Hq t v/\Hp a v=false:=by
 obtain⟨b,d,c,e⟩:=YA h;rw[d4,Kf]at b;exact⟨b.1,b.2,(kL b.1).1 d,iA.1 c,e⟩
theorem Xa{t:Sys}{a:AV}{v:List Int}(h:BO [t] a=some v):(∀l∈Cf a.al v,l∈Ac a.al)/\LA a (Dg (Cf a.al v))=false:=by
 obtain⟨i,f,e,g,d⟩:=Hu h;have c:=Hd e;have b:=YB (al:=a.al) c;refine⟨b,?_⟩;rw[cR b,<-d];exact SS f (aa c) c (by rw[Un λ_ _ h=>h])
end Go.Am
namespace Go.Am
open Go Go.Proofs
set_option maxHeartbeats 1000000
set_option maxRecDepth 4000
attribute [local irreducible] A9 CY Lex BV Ak Spec
section
variable {P:Program}{TB:BR}{Z:Ctx}{d:Option Tmp}{ty:TypeId}{pos:String}{af:Array Edge}{g:Option (Nat×Bool)}{f:Env}{σ:Ab}{nx:Nat}
end
variable {TB:BR}
theorem cU.short{al:Int}{t:A3}(h:cU al t):∀(i:Nat) w,t.rows[i]?=some w->w.length<=i:=by
 intro i
 induction i using Nat.strongRecOn with
 | ind i b=>
  intro w hi
  rcases qk i with rfl|e
  ·have:=h.r0.symm.trans hi
   injection this with this
   subst this;simp
  ·obtain⟨c,j,d,a⟩:=h.pre i w hi e
   have:=b j d _ a;rw[List.length_dropLast]at this;omega
theorem cU.bd{al:Int}{t:A3}(h:cU al t):Ho al 20000 t:=by
 refine⟨λw b=>⟨(h.rw w b).2,?_⟩,λx a=>⟨(h.cw x a).2,by have:=(h.cw x a).1;omega⟩,h.rl,h.cl⟩;obtain⟨i,hi,c⟩:=pR b;have:=h.short i w (by rw[d6 hi,c]);have:=h.rl;omega
end Go.Am
namespace Go.Am
open Go Go.Proofs
set_option maxHeartbeats 1000000
set_option maxRecDepth 4000
attribute [local irreducible] A9 CY Lex BV Ak Spec
variable {TB:BR}
theorem Dv(L:W->Bool)(al:Int)(t:A3):BE L al t=(A4 L al t && (Bk L (A2 al) t).isNone):=rfl
end Go.Am
namespace Go.Am
open Go Go.Proofs
def EX(n:Nat)(p:W->Prop):Prop:=∃l:List W,l.length<=n/\∀w,p w->w∈l
theorem EX.or{a b:Nat}{p q:W->Prop}(h:EX a p)(f:EX b q):EX (a+b) (λw=>p w\/q w):=by
 obtain⟨l,i,e⟩:=h;obtain⟨l',g,d⟩:=f;exact⟨l++l',by simp;omega,λw c=>d9.2 (c.imp (e w) (d w))⟩
theorem EX.sub{a b:Nat}{p q:W->Prop}(h:EX a p)(d:∀w,q w->p w)(hb:a<=b):EX b q:=by
 obtain⟨l,f,e⟩:=h;exact⟨l,by omega,λw c=>e w (d w c)⟩
theorem EX.none{n:Nat}{p:W->Prop}(h:∀w,¬p w):EX n p:=⟨[],by simp,λw a=>absurd a (h w)⟩
theorem PQ{α β:Type}(f:α->List β)(b:Nat):∀(l:List α),(∀x∈l,(f x).length<=b)->(l.flatMap f).length<=l.length*b
 | [],_=>by simp
 | x::l,h=>by
  have d:=PQ f b l λy a=>h y (by simp[a]);have c:=h x (by simp);rw[rX,qw,p9,Nat.succ_mul];omega
theorem EX.ex{α:Type}{n b:Nat}{p:W->Prop}{q:α->W->Prop}(l:List α)(i:l.length<=n)(g:∀x∈l,EX b (q x))(h:∀w,p w->∃x∈l,q x w):EX (n*b) p:=by
 classical
 have e:∀x:α,∃k:List W,x∈l->k.length<=b/\∀w,q x w->w∈k:=λx=>by
  by_cases a:x∈l
  ·obtain⟨k,m,j⟩:=g x a;exact⟨k,λ_=>⟨m,j⟩⟩
  ·exact⟨[],λh=>absurd h a⟩
 have d:=λx=>Classical.choose_spec (e x);refine⟨l.flatMap λx=>Classical.choose (e x),lc (PQ _ b l λx a=>(d x a).1) (p8 b i),λw f=>?_⟩;obtain⟨x,a,c⟩:=h w f;exact qJ.2 ⟨x,a,(d x a).2 w c⟩
theorem EX.map{α:Type}{n:Nat}{p:W->Prop}(f:α->W)(l:List α)(c:l.length<=n)(h:∀w,p w->∃x∈l,w=f x):EX n p:=
 ⟨l.map f,by simpa using c,λw b=>by obtain⟨x,a,rfl⟩:=h w b;exact d8.2 ⟨x,a,rfl⟩⟩
theorem hX(al:Int):(A2 al).length<=6:=by
 unfold A2;rw[gt];exact AH al 6
theorem Nh{al:Int}{b:Nat}{t:A3}(h:Ho al b t):EX 1764 (NX (A2 al) t):=by
 have c:=h.rl;have g:=h.cl;refine EX.ex (n:=12) (b:=147) (q:=λr v=>∃m:W,(m=[]\/∃l∈A2 al,m=[l])/\∃x:W,(x=[]\/x∈t.cols)/\v=r++m++x) t.rows c (λr _=>?_) λw a=>a;refine EX.ex (n:=7) (b:=21) (q:=λm v=>∃x:W,(x=[]\/x∈t.cols)/\v=r++m++x) ([]::(A2 al).map λl=>[l]) (by have:=hX al;simp;omega) (λm _=>?_) λw a=>?_
 ·exact EX.map (λx=>r++m++x) ([]::t.cols) (by simp;omega) λw ⟨x,d,a⟩=>⟨x,by simpa using d,a⟩
 ·obtain⟨m,e,i⟩:=a
  refine⟨m,?_,i⟩
  rcases e with rfl|⟨l,f,rfl⟩
  ·simp
  ·exact pN _ (d8.2 ⟨l,f,rfl⟩)
theorem RX{L:W->Bool}{ls:List UInt8}:∀(n:Nat) (t:A3),(Fb L ls n t).length<=n+1
 | 0,t=>by simp[Fb]
 | n + 1,t=>by
  unfold Fb
  cases Bk L ls t with
  | none=>simp
  | some w=>
   dsimp only;split
   ·simp
   ·have:=RX (L:=L) (ls:=ls) n ⟨t.rows++[w],t.cols⟩
    simp;omega
theorem RS{L:W->Bool}{al:Int}{b:Nat}{t:A3}(h:Ho al b t):EX 24696 (λv=>∃y∈Fb L (A2 al) 13 t,NX (A2 al) y v):=
 EX.ex (n:=14) (b:=1764) (q:=λy v=>NX (A2 al) y v) (Fb L (A2 al) 13 t) (RX 13 t) (λy a=>Nh (h.grow a)) λw c=>c
theorem aM{al:Int}{b:Nat}{t:A3}(h:Ho al b t){w:W}(e:w.length<=20000):EX 260013 (YV t w):=by
 have c:=h.rl
 refine EX.ex (n:=13) (b:=20001) (q:=λr v=>∃k:Nat,v=r++w.drop k) ([]::t.rows) (by simp;omega) (λr _=>?_) λv ⟨r,d,a⟩=>⟨r,by simpa using d,a⟩
 refine EX.map (λk=>r++w.drop k) (List.range 20001) (by simp) λv ⟨k,a⟩=>?_;by_cases hk:k<20001
 ·exact⟨k,pG.2 hk,a⟩
 ·exact⟨20000,by simp,by rw[a,qK (by omega),qK (by omega)]⟩
theorem aJ{L:W->Bool}{al:Int}{t:A3}(h:Ho al 20000 t){w:W}(f:AN (A2 al) w)(g:w.length<=20000):EX 286473 (YU L (A2 al) t w):=by
 refine((Nh h).or ((aM h g).or (b:=24696) ?_)).sub (b:=286473) (λv e=>e) (by omega)
 cases i:CM L t w with
 | none=>exact .none λv ⟨x,a,_⟩=>by cases a
 | some x=>
  cases ha:FO t x with
  | none=>exact .none λv ⟨x',a,u,d,_⟩=>by injection a with a;subst a;rw[ha]at d;cases d
  | some u=>
   obtain⟨p,_,rfl⟩:=IW i
   exact(RS (L:=L) (SU h (λc j=>f c (by simp[j])) (by simp at g;omega) ha)).sub (λv ⟨x',a,u',d,e⟩=>by
    injection a with a;subst a
    rw[ha]at d;injection d with d;subst d;exact e) (i9 _)
def okB(al:Int)(w:W):Prop:=AN (A2 al) w/\w.length<=50000
theorem JE(al:Int):SQ (okB al) al:=λw b a=>⟨b,a⟩
theorem ZS{α:Type}:∀(l m:List α),l.Nodup->(∀x∈l,x∈m)->l.length<=m.length
 | [],_,_,_=>by simp
 | x :: l,m,d,f=>by
  obtain⟨a,b,rfl⟩:=List.append_of_mem (f x (by simp));rw[tE]at d
  have h:=ZS l (a++b) d.2 λy e=>by
   have c:=f y (pN _ e);simp only[d9,mt]at c |-
   rcases c with c|rfl|c
   ·exact .inl c
   ·exact absurd e d.1
   ·exact .inr c
  simp at h |-;omega
theorem gJ{t:CO}{n:Nat}{p:W->Prop}{al:Int}(h:EX n p)(j:n<=20000000)(hb:∀w,p w->okB al w):lB t p:=by
 obtain⟨k,hk,e⟩:=h;intro l c f
 have a:l ⊆ Cz t::(k.filter λw=>w.length<=50000).flatMap λw=>(List.range 50001).map λi=>Hj t (Cz t) (w.take i):=λF g=>by
  rcases f F g with rfl|⟨u,v,d,rfl⟩
  ·simp
  ·have b:=(hb _ d).2
   refine pN _ (qJ.2 ⟨u++v,pO.2 ⟨e _ d,by simpa using b⟩,d8.2 ⟨u.length,pG.2 (by simp at b;omega),by simp⟩⟩)
 have b:=ZS _ _ c a;have q:=PQ (λw:W=>(List.range 50001).map λi=>Hj t (Cz t) (w.take i)) 50001 (k.filter λw=>w.length<=50000) (λx _=>by simp);have o:(k.filter λw=>w.length<=50000).length<=n:=lc (qY _ _) hk;rw[p9]at b;have m:(k.filter λw=>decide (w.length<=50000)).length*50001<=20000000*50001:=p8 _ (by omega);omega
theorem mu{al:Int}{w:W}(h:okB al w):kK al w:=⟨h.1,lc h.2 (by omega)⟩
theorem jd{te:Ex}{n:Nat}{p:W->Prop}(h:EX n p)(c:n<=20000000)(hb:∀w,p w->okB (A0 te) w):(∀w,p w->kK (A0 te) w)/\QD te p:=by
 refine⟨λw b=>mu (hb w b),?_⟩;obtain⟨kn,a,s,q,al⟩:=te
 cases kn with
 | true=>intro h;cases h
 | false=>exact λ_=>gJ h c hb
end Go.Am
namespace Go.Am
open Go Go.Proofs
set_option maxHeartbeats 1000000
set_option maxRecDepth 4000
attribute [local irreducible] A9 CY Lex BV Ak Spec
variable {TB:BR}
theorem Hn{te:Ex}(a:CN te=true):Bb (A0 te)=true:=by
 obtain⟨kn,p,s,q,al⟩:=te
 cases kn with
 | true=>exact(AP a).1
 | false=>
  have ht:Bi ⟨s,q,al⟩=true:=a;unfold Bi at ht;simp only[d4]at ht;exact ht.2.2
noncomputable def HH(te:Ex)(x:A3):Option A3:=if (CN te && A4 (Cb te) (A0 te) x)=true then Bv (Cb te) (A2 (A0 te)) 13 x else none
noncomputable def Rw(te:Ex):Option A3:=if CN te=true then Bv (Cb te) (A2 (A0 te)) 13 BA else none
noncomputable def Tb(te:Ex)(x:A3):Option AV:=if (CN te && BE (Cb te) (A0 te) x)=true then some (AY (Cb te) (A0 te) x) else none
section
variable {tabs:List (Nat×Obj)}[hTb:Dp ⟨tabs,none⟩]{te:Ex}
include hTb
end
noncomputable def Fi(te:Ex)(w:W):Bool:=if te.kn then QR te.p w else KH ⟨te.s,te.q,te.al⟩ w
def DZ(te:Ex):Int:=if CN te then A0 te else -1
theorem SA{t:CO}(ht:Bi t=true):Uo (KH t) (LS t) t.al:=λw b c=>by
 have a:Bb t.al=true:=by unfold Bi at ht;simp only[d4]at ht;exact ht.2.2
 unfold KH;rw[ht,Hb b c a];rfl
theorem Ip{te:Ex}(a:CN te=true):Uo (Fi te) (Cb te) (A0 te):=by
 obtain⟨kn,p,s,q,al⟩:=te
 cases kn with
 | true=>exact cW a
 | false=>exact SA (t:=⟨s,q,al⟩) a
theorem cu{A:W->Bool}{t:A3}:A4 A (-1) t=false:=by
 cases h:A4 A (-1) t
 ·rfl
 ·have:=(Ep h).1.pos;omega
theorem Yx{A L:W->Bool}{al:Int}(h:Uo A L al)(t:A3):A4 A al t=A4 L al t:=by
 unfold A4;cases a:Gs al t
 ·rfl
 ·rw[Ik h (VY a).bd (by omega)]
theorem Du(te:Ex)(x:A3):(CN te && A4 (Cb te) (A0 te) x)=A4 (Fi te) (DZ te) x:=by
 unfold DZ;cases a:CN te
 ·simp[cu]
 ·rw[if_pos rfl,qc,Yx (Ip a)]
theorem DG{te:Ex}{x:A3}(h:A4 (Fi te) (DZ te) x=true):CN te=true/\DZ te=A0 te/\A4 (Cb te) (A0 te) x=true/\cU (A0 te) x/\(AS (Cb te) x).Nodup:=by
 rw[<-Du,d4]at h;exact⟨h.1,by unfold DZ;rw[if_pos h.1],h.2,(Ep h.2).1,(Ep h.2).2⟩
theorem Zg{al:Int}(ha:Bb al=true){w:W}(h:AN (A2 al) w)(a:w.length<=4000):Gz al w=true:=by
 unfold Gz;rw[Hb h (by omega) ha,decide_eq_true a];rfl
theorem dZ{L:W->Bool}{x:A3}(h:(AS L x).Nodup){i k:Nat}{u w:W}(hi:x.rows[i]?=some u)(hk:x.rows[k]?=some w)(a:k<i):marks L x.cols u≠marks L x.cols w:=by
 intro b
 have d:(AS L x)[i]?=some (marks L x.cols u):=by unfold AS;simp[hi]
 have c:(AS L x)[k]?=some (marks L x.cols u):=by unfold AS;simp[hk,b]
 obtain⟨j,g⟩:=ce.1 d;obtain⟨f,e⟩:=ce.1 c;exact pH.1 h k i f j a (by rw[g,e])
theorem Po{L:W->Bool}{ls:List UInt8}:∀ {n:Nat} {t u:A3},TOk L ls t->Bv L ls n t=some u->TOk L ls u/\Bk L ls u=none/\t.rows <+: u.rows/\u.cols=t.cols/\(t.rows.length<=12->u.rows.length<=12)/\(Bk L ls t≠none->t.rows.length<u.rows.length)/\(Bk L ls t=none->u=t)
 | 0,t,u,_,h=>by simp[Bv]at h
 | n + 1,t,u,hk,h=>by
  unfold Bv at h
  cases a:Bk L ls t with
  | none=>
   rw[a]at h
   injection h with h;subst h
   exact⟨hk,a,sL _,rfl,id,λh=>absurd rfl h,λ_=>rfl⟩
  | some w=>
   rw[a]at h;dsimp only at h;split at h
   ·cases h
   ·rename_i i
    obtain⟨g,f,b,e,d,k,j⟩:=Po (hk.push a) h;have c:=(td t.rows [w]).trans b;refine⟨g,f,c,e,λh=>d (by simp;omega),λ_=>?_,λh=>by cases h⟩;have:=b.length_le;simp at this;omega
theorem gD{te:Ex}{x u:A3}(h:A4 (Fi te) (DZ te) x=true)(d:HH te x=some u):A4 (Fi te) (DZ te) u=true/\Bk (Cb te) (A2 (A0 te)) u=none/\x.rows <+: u.rows/\u.cols=x.cols/\(Bk (Cb te) (A2 (A0 te)) x≠none->x.rows.length<u.rows.length)/\(Bk (Cb te) (A2 (A0 te)) x=none->u=x):=by
 obtain⟨e,r,g,b,q⟩:=DG h;unfold HH at d;rw[e,g,qc,if_pos rfl]at d;obtain⟨f,n,m,c,l,k,j⟩:=Po (IZ g) d;refine⟨?_,n,m,c,k,j⟩;rw[<-Du,e,qc];have o:=l b.rl;refine Kp (Hn e) b.pos f o (by rw[c];exact b.cl) (λw a=>?_) (λw a=>by rw[c]at a;exact(b.cw w a).1);obtain⟨i,hi,p⟩:=pR a;have:=f.short i w (by rw[d6 hi,p]);omega
theorem UJ(te:Ex)(x:A3):(if A4 (Fi te) (DZ te) x then Bv (Fi te) (A2 (DZ te)) 13 x else none)=HH te x:=by
 unfold HH;rw[Du];by_cases a:A4 (Fi te) (DZ te) x=true
 ·obtain⟨d,c,f,b,e⟩:=DG a
  rw[a,c,if_pos rfl,if_pos rfl];exact Pn (Ip d) 13 b.bd (by omega)
 ·rw[Bool.not_eq_true]at a;rw[a,if_neg qq,if_neg qq]
theorem RO{te:Ex}{x:A3}(h:A4 (Fi te) (DZ te) x=true):(CN te && BE (Cb te) (A0 te) x)=(Bk (Cb te) (A2 (A0 te)) x).isNone:=by
 obtain⟨b,e,a,d,c⟩:=DG h;rw[b,Dv,a];rfl
structure pF (n m:Nat) (t:A3):Prop where
 rl:t.rows.length<=n
 cl:t.cols.length<=n
 rb:∀w∈t.rows,w.length<=m
 cb:∀w∈t.cols,w.length<=m
section
variable {P:Program}{Z:Ctx}{d:Option Tmp}{ty:TypeId}{pos:String}{af:Array Edge}{g:Option (Nat×Bool)}{L:List (Nat×E)}{σ:Ab}{nx:Nat}
end
noncomputable def MZ(te:Ex)(x:A3)(w:W):Option A3:=if (CN te && A4 (Cb te) (A0 te) x && Gz (A0 te) w)=true then FO x w else none
theorem jJ(te:Ex)(x:A3)(w:W):Pe (Fi te) (DZ te) x w=MZ te x w:=by
 unfold Pe MZ;rw[Du];cases a:A4 (Fi te) (DZ te) x
 ·rw[rK,rK]
 ·rw[(DG a).2.1]
section
variable {tabs:List (Nat×Obj)}[hTb:Dp ⟨tabs,none⟩]{te:Ex}
include hTb
end
noncomputable def Hl(te:Ex)(x:A3)(w:W):Option W:=if (CN te && BE (Cb te) (A0 te) x && Gz (A0 te) w)=true then CM (Cb te) x w else none
noncomputable def MD(te:Ex)(x:A3)(w:W):Option A3:=if (CN te && BE (Cb te) (A0 te) x && Gz (A0 te) w)=true then Hm (Cb te) (A2 (A0 te)) x w else none
section
variable {tabs:List (Nat×Obj)}[hTb:Dp ⟨tabs,none⟩]{te:Ex}
include hTb
end
end Go.Am
namespace Go.Am
open Go Go.Proofs
set_option maxHeartbeats 1000000
set_option maxRecDepth 4000
attribute [local irreducible] A9 CY Lex BV Ak Spec
variable {tabs:List (Nat×Obj)}
theorem gZ{al:Int}{w:W}(h:Gz al w=true):AN (A2 al) w/\w.length<=4000:=by
 unfold Gz at h;rw[d4,decide_eq_true_eq]at h;exact⟨EI h.1,h.2⟩
theorem XI{L:W->Bool}{cols:List W}{c w:W}:marks L (cols++[c]) w=marks L cols w++[Si (L (w++c))]:=by simp[marks]
theorem WS{te:Ex}{x u:A3}{w:W}(h:MZ te x w=some u):A4 (Fi te) (DZ te) x=true/\AN (A2 (A0 te)) w/\w.length<=4000/\u=⟨x.rows,x.cols++[w]⟩/\A4 (Fi te) (DZ te) u=true/\MZ te u w=none:=by
 unfold MZ at h;by_cases d:(CN te && A4 (Cb te) (A0 te) x && Gz (A0 te) w)=true
 ·rw [if_pos d]at h
  rw[Du,d4]at d;obtain⟨g,o⟩:=d;obtain⟨m,l⟩:=gZ o;obtain⟨k,t,s,f,j⟩:=DG g;unfold FO at h;split at h
  ·cases h
  rename_i i
  injection h with h
  subst h;rw[not_or]at i;have hk:=IZ s;have p:=f.cl;have q:=f.c1;refine⟨g,m,l,rfl,?_,?_⟩
  ·rw [<-Du,k,qc]
   refine Kp (Hn k) f.pos ⟨hk.r0,by rw[em (by omega)];exact hk.c0,hk.pre,hk.onR,λc d=>?_,?_,?_⟩ f.rl (by simp;omega) (λr n=>(f.rw r n).1) (λc d=>?_)
   ·rcases d9.1 d with d|d
    ·exact hk.onC c d
    ·simp at d;subst d;exact m
   ·have e:(AS (Cb te) ⟨x.rows,x.cols++[w]⟩).map List.dropLast=AS (Cb te) x:=by
     unfold AS;rw[qt]
     exact qM λr _=>by simp[d5,XI]
    rw[<-e]at j;exact(qS.1 j).imp λh e=>h (by rw[e])
   ·exact qL.2 ⟨hk.ndC,by simp,λa ha b hb=>by simp at hb;subst hb;exact λe=>i.2 (e▸ha)⟩
   ·rcases d9.1 d with d|d
    ·exact(f.cw c d).1
    ·simp at d;subst d;exact l
  ·unfold MZ FO
   split
   ·rw[if_pos (.inr (by simp))]
   ·rfl
 ·rw[if_neg d]at h;cases h
end Go.Am
namespace Go.Am
open Go Go.Proofs
set_option maxHeartbeats 1000000
set_option maxRecDepth 4000
attribute [local irreducible] A9 CY Lex BV Ak Spec
variable {tabs:List (Nat×Obj)}
theorem jP(te:Ex)(x:A3):(if BE (Fi te) (DZ te) x then some (AY (Fi te) (DZ te) x) else none)=Tb te x:=by
 rw[Dv];cases b:A4 (Fi te) (DZ te) x
 ·rw[rK,if_neg qq]
  unfold Tb;rw[Dv,<-Bool.and_assoc,Du,b];rfl
 ·obtain⟨a,e,d,c,f⟩:=DG b
  rw[e,NA (Ip a) c.bd (by omega),UE (Ip a) c.bd (by omega),qc];unfold Tb;rw[Dv,a,d,qc,qc]
theorem lS{te:Ex}{x:A3}{a:AV}(h:Tb te x=some a):A4 (Fi te) (DZ te) x=true/\Bk (Cb te) (A2 (A0 te)) x=none/\BU (Cb te) (A2 (A0 te)) x/\a=AY (Cb te) (A0 te) x/\AT a=true/\a.al=A0 te/\a.nx.length=x.rows.length/\a.ac=x.rows.map (Cb te):=by
 unfold Tb at h;by_cases b:(CN te && BE (Cb te) (A0 te) x)=true
 ·rw[if_pos b]at h
  injection h with h
  subst h;rw[d4]at b;obtain⟨d,f,c⟩:=JV b.2
  have e:A4 (Fi te) (DZ te) x=true:=by rw[<-Du,b.1,d];rfl
  exact⟨e,f,c,rfl,LI (Hn b.1) c (Ep d).1.rl,rfl,by simp[AY],rfl⟩
 ·rw[if_neg b]at h;cases h
end Go.Am
namespace Go.Am
open Go Go.Proofs
set_option maxHeartbeats 1000000
set_option maxRecDepth 4000
attribute [local irreducible] A9 CY Lex BV Ak Spec
variable {tabs:List (Nat×Obj)}
theorem eE{L:W->Bool}{ls:List UInt8}{t:A3}(g:t.cols=[[]])(c:2<=t.rows.length)(e:(AS L t).Nodup):Bk L ls t=none:=by
 cases d:Bk L ls t with
 | none=>rfl
 | some w=>
  exfalso;have f:=(IN d).2;obtain⟨a,ha⟩:=get_some (l:=t.rows) (k:=0) (by omega);obtain⟨b,hb⟩:=get_some (l:=t.rows) (k:=1) (by omega);have ne:=dZ e hb ha (by omega);have h:marks L t.cols a∈AS L t:=List.mem_map_of_mem (co ha);have c:marks L t.cols b∈AS L t:=List.mem_map_of_mem (co hb)
  have hk:∀v:W,marks L t.cols v=[Si (L v)]:=λv=>by rw[g];simp[marks]
  rw[hk]at f h c ne;rw[hk]at ne;cases m:L a<;>cases j:L b<;>cases i:L w<;>simp_all
theorem ml(L:W->Bool)(ls:List UInt8):∃u,Bv L ls 13 BA=some u/\u.cols=[[]]/\u.rows.length<=2:=by
 unfold Bv
 cases h:Bk L ls BA with
 | none=>exact⟨BA,rfl,rfl,by decide⟩
 | some w=>
  dsimp only;rw[if_neg (by decide)];unfold Bv;have hk:=(NP L ls).push h;have a:=eE (ls:=ls) (t:=⟨BA.rows++[w],BA.cols⟩) rfl (by simp[BA]) hk.nd;rw[a];exact⟨_,rfl,rfl,by simp[BA]⟩
theorem kD{te:Ex}(h:CN te=true):∃u,Rw te=some u/\A4 (Fi te) (DZ te) u=true/\Bk (Cb te) (A2 (A0 te)) u=none/\u.cols=[[]]/\u.rows.length<=2/\BU (Cb te) (A2 (A0 te)) u/\0<=A0 te:=by
 obtain⟨u,e,c,g⟩:=ml (Cb te) (A2 (A0 te));obtain⟨b,d,o,n,m,l,k⟩:=Po (NP _ _) e;have ha:=Hn h
 have f:0<=A0 te:=by unfold Bb at ha;simp only[d4,decide_eq_true_eq]at ha;omega
 refine⟨u,by unfold Rw;rw[if_pos h,e],?_,d,c,g,⟨b,He d⟩,f⟩;rw[<-Du,h,qc];refine Kp ha f b (by omega) (by rw[c];decide) (λw a=>?_) (λw a=>by rw[c]at a;simp at a;subst a;simp);obtain⟨i,hi,j⟩:=pR a;have:=b.short i w (by rw[d6 hi,j]);omega
theorem kC(te:Ex):Ix (Fi te) (DZ te) BA=Rw te:=by
 have h:=UJ te BA;unfold Ix;refine h.trans ?_;unfold HH Rw;cases hk:CN te
 ·rfl
 ·have ha:=Hn hk
  have c:0<=A0 te:=by unfold Bb at ha;simp only[d4,decide_eq_true_eq]at ha;omega
  have b:=Kn (A0 te);rw[Kp ha c (NP _ _) (by decide) (by decide) (λw a=>by have:=(b.onR w a).2;omega) (λw a=>by simp[BA]at a;subst a;simp)];rfl
end Go.Am
namespace Go.Am
open Go Go.Proofs
set_option maxHeartbeats 1000000
set_option maxRecDepth 4000
attribute [local irreducible] A9 CY Lex BV Ak Spec
theorem dw(te:Ex)(x:A3):BE (Fi te) (DZ te) x=(CN te && BE (Cb te) (A0 te) x):=by
 rw[Dv,Dv,<-Bool.and_assoc,Du];cases a:A4 (Fi te) (DZ te) x
 ·rw[rK,rK]
 ·obtain⟨d,c,f,b,e⟩:=DG a
  rw[c,NA (Ip d) b.bd (by omega)]
theorem Pp{te:Ex}{x:A3}(h:(CN te && BE (Cb te) (A0 te) x)=true):A4 (Fi te) (DZ te) x=true/\Bk (Cb te) (A2 (A0 te)) x=none/\BU (Cb te) (A2 (A0 te)) x:=by
 rw[d4]at h;obtain⟨c,b,a⟩:=JV h.2;exact⟨by rw[<-Du,h.1,c];rfl,b,a⟩
theorem fS(te:Ex)(x:A3)(w:W):FA (Fi te) (DZ te) x w=Hl te x w:=by
 unfold FA Hl;rw[dw];cases d:(CN te && BE (Cb te) (A0 te) x)
 ·rw[rK,rK,if_neg qq,if_neg qq]
 ·obtain⟨c,i,b⟩:=Pp d
  obtain⟨g,f,k,e,j⟩:=DG c;rw[f,qc];by_cases a:Gz (A0 te) w=true
  ·obtain⟨h,l,_⟩:=PH a
   rw[if_pos a,if_pos a,X7 (Ip g) e.bd (by omega) b h (by omega)]
  ·rw[if_neg a,if_neg a]
theorem Wk{te:Ex}{x:A3}{w v:W}(h:Hl te x w=some v):(CN te && BE (Cb te) (A0 te) x)=true/\AN (A2 (A0 te)) w/\w.length<=4000/\MY (Cb te) x w≠Cb te w/\splitAt (Cb te) x (Cb te w) 0 w=some v/\Split (Cb te) (A2 (A0 te)) x w v:=by
 unfold Hl at h;by_cases a:(CN te && BE (Cb te) (A0 te) x && Gz (A0 te) w)=true
 ·rw [if_pos a]at h
  rw[d4]at a;obtain⟨a,f⟩:=a;obtain⟨i,j,b⟩:=Pp a;obtain⟨c,g,_⟩:=PH f;unfold CM at h;by_cases ha:MY (Cb te) x w=Cb te w
  ·rw[if_pos ha]at h;cases h
  ·rw[if_neg ha]at h
   obtain⟨v',e,d⟩:=Ws b (Cb te w) w 0 [] c b.r0 rfl ha;rw[e]at h
   injection h with h;subst h
   exact⟨a,c,g,ha,e,d⟩
 ·rw[if_neg a]at h;cases h
theorem Wv(te:Ex)(x:A3)(w:W):MD te x w=(Hl te x w).bind λv=>(MZ te x v).bind λu=>HH te u:=by
 unfold MD
 cases a:Hl te x w with
 | none=>
  unfold Hl at a;split
  ·rename_i b
   rw[if_pos b]at a;unfold Hm;rw[a];rfl
  ·rfl
 | some v=>
  obtain⟨b,s,l,ha,e,g⟩:=Wk a
  have i:(CN te && BE (Cb te) (A0 te) x && Gz (A0 te) w)=true:=by
   unfold Hl at a;split at a
   ·assumption
   ·cases a
  rw[if_pos i];obtain⟨j,A,q⟩:=Pp b;obtain⟨r,H,G,F,B⟩:=DG j;unfold Hm CM;rw[if_neg ha,e]
  show (FO x v).bind _=(MZ te x v).bind _
  obtain⟨p,_,k⟩:=g.suf;have h:Gz (A0 te) v=true:=Zg (Hn r) (λc b=>s c (by rw[k];simp[b])) (by rw[k]at l;simp at l;omega)
  have d:MZ te x v=FO x v:=by unfold MZ;rw[Du,j,h];rfl
  rw[d]
  cases o:FO x v with
  | none=>rfl
  | some u=>
   obtain⟨_,_,_,_,f,_⟩:=WS (d.trans o);obtain⟨n,z,m,y,t⟩:=DG f
   show Bv _ _ 13 u=HH te u
   unfold HH;rw[n,m];rfl
theorem iW(te:Ex)(x:A3)(w:W):ME (Fi te) (DZ te) x w=MD te x w:=by
 rw[Wv];unfold ME;rw[fS];congr 1;funext v;rw[jJ];congr 1;funext u;exact UJ te u
theorem Wt{te:Ex}{x u:A3}{w v:W}(h:Hl te x w=some v)(ha:MZ te x v=some u):Bk (Cb te) (A2 (A0 te)) u≠none:=by
 obtain⟨i,k,j,g,e,a⟩:=Wk h;obtain⟨_,_,_,rfl,_,_⟩:=WS ha;obtain⟨r,d,c,b,f⟩:=a.opens;exact iB (t:=⟨x.rows,x.cols++[v]⟩) d b f
theorem lg{te:Ex}{x y:A3}{w:W}(h:MD te x w=some y):(Hl te x w).isSome=true/\A4 (Fi te) (DZ te) x=true/\A4 (Fi te) (DZ te) y=true/\Bk (Cb te) (A2 (A0 te)) y=none/\x.rows <+: y.rows/\x.rows.length<y.rows.length/\∃v,y.cols=x.cols++[v]:=by
 rw[Wv]at h
 cases b:Hl te x w with
 | none=>rw[b]at h;cases h
 | some v=>
  rw[b]at h;have h:(MZ te x v).bind (λu=>HH te u)=some y:=h
  cases ha:MZ te x v with
  | none=>rw[ha]at h;cases h
  | some u=>
   rw[ha]at h;have h:HH te u=some y:=h;have c:=Wt b ha;obtain⟨j,_,_,rfl,a,_⟩:=WS ha;obtain⟨i,g,f,e,d,k⟩:=gD a h;exact⟨rfl,j,i,g,f,d c,v,e⟩
end Go.Am
namespace Go.Am
end Go.Am
