/-
  Systems as texts and back: walked: any that are not too big will do.
-/
import Derived.Test.YtgpbfllcjdfelaaGreatDoorPart33
import Derived.Test.YtgpbfllcjdfelaaGreatDoorPart34
set_option linter.all false
namespace Go.Am
open Go Go.Proofs
set_option maxHeartbeats 1000000
set_option maxRecDepth 4000
attribute [local irreducible] AW BQ Lex A9 Aj Spec
variable {TB:Bp}
abbrev jw(r:Ec×Bool):E:=.t [(true,(A5 r.1)),(false,[.d (bD r.2)])]
theorem Uk(a:W)(u:a.length<=1000000):Spec Tryz.prog TB 242 [] 0 [eT a] (Dv (λ_:Ec×Bool=>True) jw):=by
 refine eR Tryz.func242 rfl (by kernel_rfl) rfl ?_;intro Z b;(repeat first|refine tA rfl ?_ |refine aU rfl ?_ |refine Aa ?_);refine aB ?_;refine aL (α:={k:Nat // k<=a.length}) [0] [] rfl rfl (λs=>[(2,.o (.ptr 0 3 0 0)),(4,eI .i64 s.1)]) (λs=>[(0,.cells 158 3 [A5 ⟨0,0,0⟩])]) 1 (λs=>a.length - s.1) (⟨0,by omega⟩) b rfl (by (simp[cX,zC,b,cN])) ?_;rintro⟨k,hk⟩;(try dsimp only[cA,cB]);by_cases p:k < a.length
 ·obtain⟨c,r⟩:=get_some (l:=a) (k:=(k:Int).toNat) (by omega)
  have q:=c.toNat_lt;have j:=cL (TB:=TB) a k c r;(repeat first|refine tA rfl ?_ |refine s2 rfl λ_ d=>?_ |refine aU rfl ?_ |refine Aa ?_)
  ((refine aC rfl ?_ ?_<;>rintro⟨⟩);all_goals try(exfalso;(simp only[oZ] at *;omega)))
  refine aK ?_;refine aS (aB ?_)
  (repeat' first|refine tA rfl ?_ |(refine s4 rfl ‹_› rfl ?_ ?_;omega) |refine s2 rfl λ_ d=>?_ |refine s3 rfl ?_ ?_<;>rintro rfl |refine aU rfl ?_ |refine Aa ?_|(refine aC rfl ?_ ?_<;>rintro⟨⟩));all_goals try contradiction
  all_goals first| (exfalso;omega;done)|skip
  ·(repeat first| (refine Ai rfl ?_;refine gA rfl ?_;first| refine gS (λ_ _=>dv rfl rfl (by omega) (by omega)) ?_))
   (refine pW rfl ?_ rfl (by rfl);refine Ae [] rfl rfl (IU (TB:=TB) (a.take (k:Int).toNat) (by simp;omega)) ⟨rfl,by decide,by decide⟩ rfl trivial ?_;rintro n g h ⟨⟨f,t⟩,_,rfl,rfl,rfl⟩ _);(repeat first|(refine sA rfl ?_ ?_;first|exact tI|omega)|(refine Ai rfl ?_;refine gA rfl ?_;first| refine gS (λ_ _=>Er rfl rfl (by omega) (by omega)) ?_) |refine aU rfl ?_ |refine Aa ?_);(refine pW rfl ?_ rfl (by rfl);refine Ae [] rfl rfl (IU (TB:=TB) (a.drop ((k:Int)+1).toNat) (by simp;omega)) ⟨rfl,by decide,by decide⟩ rfl trivial ?_;rintro n g h ⟨⟨e,m⟩,_,rfl,rfl,rfl⟩ _);(repeat' first|refine tA rfl ?_ |refine sP rfl (j) rfl ?_|(refine Ai rfl ?_;refine gA rfl ?_;first| refine gS (λ_ _=>AV rfl rfl (by rfl) (by rfl)) ?_) |refine s3 rfl ?_ ?_<;>rintro rfl |refine aU rfl ?_ |refine Aa ?_|(refine aC rfl ?_ ?_<;>rintro⟨⟩))
   all_goals first
    | exact aR ⟨_,rfl,[],jw (⟨f,(c.toNat:Int) - 97,e⟩,m),[],⟨λi hi=>absurd hi (i8 i),kw⟩,rfl,trivial,(⟨f,(c.toNat:Int) - 97,e⟩,m),trivial,rfl,rfl,rfl⟩
    | exact aR ⟨_,rfl,[],jw (⟨f,(c.toNat:Int) - 97,e⟩,false),[],⟨λi hi=>absurd hi (i8 i),kw⟩,rfl,trivial,(⟨f,(c.toNat:Int) - 97,e⟩,false),trivial,rfl,rfl,rfl⟩
  all_goals
   refine aK ?_;(repeat first|(refine sA rfl ?_ ?_;first|exact tI|omega) |refine aU rfl ?_ |refine Aa ?_);refine⟨⟨k+1,by omega⟩,by dsimp only;(omega),[0],?_⟩;(simp[cX,zC,b,cN]<;>rfl)
 ·(repeat first|refine tA rfl ?_ |refine s2 rfl λ_ d=>?_ |refine aU rfl ?_ |refine Aa ?_)
  ((refine aC rfl ?_ ?_<;>rintro⟨⟩);all_goals try(exfalso;(simp only[oZ] at *;omega)))
  refine aE ?_;(repeat first|refine tA rfl ?_|(refine Ai rfl ?_;refine gA rfl ?_;first| refine gS (λ_ _=>AV rfl rfl (by rfl) (by rfl)) ?_) |refine aU rfl ?_ |refine Aa ?_);exact aR ⟨_,rfl,[],jw (⟨0,0,0⟩,false),[],⟨λi hi=>absurd hi (i8 i),kw⟩,rfl,trivial,(⟨0,0,0⟩,false),trivial,rfl,rfl,rfl⟩
theorem HN(y:Sys)(hb:y.es.length<=100000):Spec Tryz.prog TB 243 [] 0 [BN y] (Dv (λr:W=>r.length<=1000000) eT):=by
 have A:=JM (TB:=TB) y;refine eR Tryz.func243 rfl (by kernel_rfl) rfl ?_;intro Z d;(repeat first|refine tA rfl ?_ |refine s2 rfl λ_ a=>?_ |(refine sC rfl (A) ?_;intro _ a) |refine aU rfl ?_ |refine Aa ?_);(refine aC rfl ?_ ?_<;>rintro⟨⟩)
 ·(repeat first|refine tA rfl ?_ |refine aU rfl ?_ |refine Aa ?_)
  exact aR ⟨_,rfl,[],eT [],[],⟨λi hi=>absurd hi (i8 i),kw⟩,rfl,trivial,[],me _,rfl,rfl,rfl⟩
 have h:AZ y=true:=by (simp at a;subst a;assumption)
 have K:=AQ h;refine aK ?_;(repeat first|refine aU rfl ?_);refine rG ⟨FU [(2,1),(6,1)],Y7 [0,1,4,5,2,3,6,7,8]⟩ (by kernel_rfl) ?_;(repeat first|refine tA rfl ?_);(refine pW rfl ?_ rfl (by rfl);refine Ae [] rfl rfl (Ef (TB:=TB) y.al) ⟨rfl,by decide,by decide⟩ rfl trivial ?_;rintro j b c ⟨u,x,rfl,rfl,rfl⟩ _);(repeat first|(refine sA rfl ?_ ?_;simp only[oZ] at *;omega));(refine pW rfl ?_ rfl (by rfl);refine Ae [] rfl rfl (GY (TB:=TB) y.st (by omega)) ⟨rfl,by decide,by decide⟩ rfl trivial ?_;rintro j b c ⟨q,v,rfl,rfl,rfl⟩ _);(repeat first|(refine sA rfl ?_ ?_;first|exact tI|simp only[oZ] at *;omega) |refine aU rfl ?_ |refine Aa ?_);refine aB ?_;refine aL (α:={z:Nat×W // z.1<=y.es.length/\z.2.length<=10+9*z.1}) [1] [] rfl rfl (λs=>[(3,eT s.1.2),(4,eI .i64 s.1.1)]) (λs=>[]) 0 (λs=>y.es.length - s.1.1) (⟨⟨0,u++[32]++q⟩,by simp;omega⟩) d rfl (by (simp[cX,zC,d])) ?_;rintro⟨⟨k,w⟩,hk,o⟩;(try dsimp only[cA,cB]);have hk:k<=y.es.length:=hk;have o:w.length<=10+9*k:=o;by_cases m:k < y.es.length
 ·obtain⟨e,p⟩:=get_some m
  have n:=get_map (g:=EA) p
  have F:(y.es.map EA)[((k:Nat):Int).toNat]? = some (EA e):=by rw [i9];exact n
  have hb:=ER h (co p);unfold Ek at hb;simp only [d4,decide_eq_true_eq] at hb;(repeat first|refine sN rfl ?_ |refine tA rfl ?_ |refine s2 rfl λ_ a=>?_ |refine aU rfl ?_ |refine Aa ?_)
  ((refine aC rfl ?_ ?_<;>rintro⟨⟩);all_goals try(exfalso;(simp only[oZ] at *;omega)))
  refine aK ?_;refine aS (aB ?_);(repeat first|refine tA rfl ?_ |(refine s4 rfl ‹_› rfl ?_ ?_;omega) |refine aU rfl ?_ |refine Aa ?_);refine rG ⟨FU [(3,10),(7,10),(11,10),(4,1001),(12,1001)],Y7 [0,1,2,3,6,7,10,11,4,5,8,9,12,13,14]⟩ (by kernel_rfl) ?_;(repeat first|(refine sA rfl ?_ ?_;first|exact tI|simp only[oZ] at *;omega));(refine Ai rfl ?_;refine Cw ?_ rfl ⟨rfl,rfl⟩;refine Ae [] rfl rfl (GY (TB:=TB) e.f (by omega)) ⟨rfl,by decide,by decide⟩ rfl trivial ?_;rintro j b c ⟨J,H,rfl,rfl,rfl⟩ _;refine⟨BO 0 rfl rfl,?_⟩);(repeat first|(refine sA rfl ?_ ?_;simp only[oZ] at *;omega) |refine sP rfl (LF e.l (by omega) (by omega)) rfl ?_);(refine Ai rfl ?_;refine Cw ?_ rfl ⟨rfl,rfl⟩;refine Ae [] rfl rfl (GY (TB:=TB) e.t (by omega)) ⟨rfl,by decide,by decide⟩ rfl trivial ?_;rintro j b c ⟨I,G,rfl,rfl,rfl⟩ _;refine⟨BO 0 rfl rfl,?_⟩);(repeat first|(refine sA rfl ?_ ?_;first|exact tI|omega|simp only[oZ] at *;omega) |refine aU rfl ?_ |refine Aa ?_);refine⟨⟨⟨k+1,w++[32]++J++[UInt8.ofNat (97+e.l.toNat)]++I⟩,by dsimp only;omega,by simp;omega⟩,by dsimp only;(omega),[],?_⟩;(simp[cX,zC,d,cN]<;>rfl)
 ·have B:k=y.es.length:=by omega
  (repeat first|refine sN rfl ?_ |refine tA rfl ?_ |refine s2 rfl λ_ a=>?_ |refine aU rfl ?_ |refine Aa ?_)
  ((refine aC rfl ?_ ?_<;>rintro⟨⟩);all_goals try(exfalso;(simp only[oZ] at *;omega)))
  refine aE ?_;(repeat first|refine tA rfl ?_ |refine aU rfl ?_ |refine Aa ?_);exact aR ⟨_,rfl,[],eT w,[],⟨λi hi=>absurd hi (i8 i),kw⟩,rfl,trivial,w,by show w.length<=_;omega,rfl,rfl,rfl⟩
abbrev dX(r:Sys×Bool):E:=.t [(true,[.d (iD r.1.al),.d (iD r.1.st),.d (Ej r.1.es)]),(false,[.d (bD r.2)])]
def VK(al n:Int):List Ec->Ab
 | []=>[(1,.cells 25 3 [[.d (iD al),.d (iD n),.d (.v (.slice none 0 0))]])]
 | e::l=>[(1,.cells 25 3 [[.d (iD al),.d (iD n),.arr 2 3 0 (l.length+1)]]),(2,.cells 158 3 ((e::l).map A5))]
theorem FM(f:W)(Y:f.length<=10000):Spec Tryz.prog TB 183 [] 0 [eT f] (Dv (λr:Sys×Bool=>r.1.es.length<=f.length+1) dX):=by
  refine eR Tryz.func183 rfl (by kernel_rfl) rfl ?_;intro Z e;(repeat first|refine tA rfl ?_ |refine aU rfl ?_ |refine Aa ?_);(refine pW rfl ?_ rfl (by rfl);refine Ae [] rfl rfl (LC (TB:=TB) f (by omega) 32) ⟨rfl,by decide,by decide⟩ rfl trivial ?_;rintro m b c ⟨ps,⟨R,Q,q⟩,rfl,rfl,rfl⟩ _);(repeat first|refine sN rfl ?_ |refine tA rfl ?_ |refine s2 rfl λ_ a=>?_ |refine aU rfl ?_ |refine Aa ?_);by_cases S:ps.length < 2
  · ((refine aC rfl ?_ ?_<;>rintro⟨⟩);all_goals try(exfalso;(simp only[oZ] at *;omega)))
    (repeat first|refine tA rfl ?_|(refine Ai rfl ?_;refine gA rfl ?_;first| refine gS (λ_ _=>AV rfl rfl (by rfl) (by rfl)) ?_) |refine aU rfl ?_ |refine Aa ?_);exact aR ⟨_,rfl,[],dX (⟨0,0,[]⟩,false),[],⟨λi hi=>absurd hi (i8 i),kw⟩,rfl,trivial,(⟨0,0,[]⟩,false),me _,rfl,rfl,rfl⟩
  ((refine aC rfl ?_ ?_<;>rintro⟨⟩);all_goals try(exfalso;(simp only[oZ] at *;omega)))
  refine aK ?_;obtain⟨K,X⟩:=get_some (l:=ps) (k:=(0:Int).toNat) (by simp;omega);have V:=get_map (g:=Gh) X;obtain⟨y,F⟩:=get_some (l:=ps) (k:=(1:Int).toNat) (by simp;omega);have U:=get_map (g:=Gh) F;have B:=q y (co F);(repeat first|refine tA rfl ?_ |(refine s4 rfl ‹_› rfl ?_ ?_;omega) |refine aU rfl ?_);(refine pW rfl ?_ rfl (by rfl);refine Ae [] rfl rfl (GM (TB:=TB) K) ⟨rfl,by decide,by decide⟩ rfl trivial ?_;rintro m b c ⟨⟨n,ok⟩,_,rfl,rfl,rfl⟩ _);(repeat first|refine tA rfl ?_ |(refine s4 rfl ‹_› rfl ?_ ?_;omega) |refine aU rfl ?_ |refine Aa ?_);(refine pW rfl ?_ rfl (by rfl);refine Ae [] rfl rfl (IU (TB:=TB) y (by omega)) ⟨rfl,by decide,by decide⟩ rfl trivial ?_;rintro m b c ⟨⟨st,M⟩,_,rfl,rfl,rfl⟩ _);(repeat first|refine tA rfl ?_ |refine s2 rfl λ_ a=>?_ |refine s3 rfl ?_ ?_<;>rintro rfl |refine aU rfl ?_ |refine Aa ?_)
  (repeat' first|refine tA rfl ?_ |refine s2 rfl λ_ a=>?_ |refine aU rfl ?_ |refine Aa ?_|(refine aC rfl ?_ ?_<;>rintro⟨⟩));all_goals try contradiction
  all_goals first
    | ((repeat first|refine tA rfl ?_|(refine Ai rfl ?_;refine gA rfl ?_;first| refine gS (λ_ _=>AV rfl rfl (by rfl) (by rfl)) ?_) |refine Aa ?_)
       exact aR ⟨_,rfl,[],dX (⟨0,0,[]⟩,false),[],⟨λi hi=>absurd hi (i8 i),kw⟩,rfl,trivial,(⟨0,0,[]⟩,false),me _,rfl,rfl,rfl⟩
       done)
    | skip
  refine aK ?_;(repeat first|refine tA rfl ?_|(refine Ai rfl ?_;refine gA rfl ?_;first| refine gS (λ_ _=>SU rfl rfl (by rfl) (by rfl)) ?_) |refine aU rfl ?_ |refine Aa ?_);refine aB ?_;refine aL (α:={z:Nat×List Ec // (2<=z.1/\z.1<=ps.length)/\z.2.length+2=z.1}) [0,4] [] rfl rfl (λs=>[(2,.o (.ptr 0 3 0 0)),(9,.o (.ptr 1 3 0 0)),(10,eI .i64 s.1.1)]) (λs=>((0,.cells 25 3 [[.d (iD 0),.d (iD 0),.d (.l [])]])::VK n st s.1.2)) 3 (λs=>ps.length - s.1.1) (⟨⟨2,[]⟩,by simp;omega⟩) e rfl (by (simp[cX,zC,e,VK,cN])) ?_;rintro⟨⟨k,l⟩,hk,u⟩;(try dsimp only[cA,cB]);have hk:2<=k/\k<=ps.length:=hk;have u:l.length+2=k:=u;(repeat first|refine sN rfl ?_ |refine tA rfl ?_ |refine s2 rfl λ_ a=>?_ |refine aU rfl ?_ |refine Aa ?_)
  ((refine aC rfl ?_ ?_<;>rintro⟨⟩);all_goals try (simp at a;done))
  · have x:k < ps.length:=by (simp only[oZ] at *;omega)
    obtain⟨w,A⟩:=get_some (l:=ps) (k:=k) x;have P:=get_map (g:=Gh) A;have N:=q w (co A);refine aK ?_;refine aS (aB ?_);(repeat first|refine tA rfl ?_ |(refine s4 rfl ‹_› rfl ?_ ?_;omega) |refine aU rfl ?_);(refine pW rfl ?_ rfl (by rfl);refine Ae [] rfl rfl (Uk (TB:=TB) w (by omega)) ⟨rfl,by decide,by decide⟩ rfl trivial ?_;rintro m b c ⟨⟨⟨I,H,G⟩,L⟩,_,rfl,rfl,rfl⟩ _);(repeat first|refine tA rfl ?_ |refine s2 rfl λ_ a=>?_ |refine aU rfl ?_ |refine Aa ?_);(refine aC rfl ?_ ?_<;>rintro⟨⟩)
    · (repeat first|refine tA rfl ?_|(refine Ai rfl ?_;refine gA rfl ?_;first| refine gS (λ_ _=>AV rfl rfl (by rfl) (by rfl)) ?_) |refine aU rfl ?_ |refine Aa ?_)
      exact aR ⟨_,rfl,[],dX (⟨0,0,[]⟩,false),[],⟨λi hi=>absurd hi (i8 i),kw⟩,rfl,trivial,(⟨0,0,[]⟩,false),me _,rfl,rfl,rfl⟩
    refine aK ?_
    cases l with
    | nil=>
      (repeat first|refine tA rfl ?_ |refine aU rfl ?_);(refine pW rfl ?_ rfl (by rfl);refine ZP 61 rfl ?_;refine LK rfl rfl rfl (by intro r p;simp at p;subst p;rfl) (by rfl) (am rfl) (by simp) (λh=>?_) (λ_=>?_))
      · exact absurd h (by simp)
      (repeat first|(refine sA rfl ?_ ?_;first|exact tI|omega) |refine aU rfl ?_ |refine Aa ?_);refine⟨⟨⟨k+1,[⟨I,H,G⟩]⟩,⟨by dsimp only;omega,by dsimp only;omega⟩,by simp at u;simp;omega⟩,by dsimp only;(omega),[0,1,4],?_⟩;(simp[cX,zC,e,cN,VK,Af,eC]<;>rfl)
    | cons j l=>
      (repeat first|refine tA rfl ?_ |refine aU rfl ?_);(refine pW rfl ?_ rfl (by rfl);refine Aw rfl rfl rfl (by first| (simp;done)|(simp;(omega))) rfl (by intro r p;simp at p;subst p;rfl) (by rfl) (am rfl) (by simp at u |-;omega) ?_);(repeat first|(refine sA rfl ?_ ?_;first|exact tI|omega) |refine aU rfl ?_ |refine Aa ?_);refine⟨⟨⟨k+1,j::(l++[⟨I,H,G⟩])⟩,⟨by dsimp only;omega,by dsimp only;omega⟩,by simp at u |-;omega⟩,by dsimp only;(omega),[0,1,4],?_⟩;(simp[cX,zC,e,cN,VK,Af,eC]<;>rfl)
  refine aE ?_
  have T:k=ps.length:=by (simp only[oZ] at *;omega)
  have t:l.length<=f.length+1:=by omega
  cases l with
  | nil=>
    refine Aj.AH [1] [(0,eT f),(2,.o (.ptr 0 3 0 0)),(9,.o (.ip (AJ ⟨n,st,[]⟩)))] ⟨⟨_,rfl,.inl rfl⟩,⟨_,rfl,.inl rfl⟩,⟨_,rfl,.inr (.o (.box rfl (.cons .d (.cons .d (.cons .nl .nil)))))⟩,trivial⟩ ?_;(repeat first|refine tA rfl ?_ |refine aU rfl ?_);(refine pW rfl ?_ rfl (by rfl);refine Ae [] rfl rfl (HN (TB:=TB) ⟨n,st,[]⟩ (by simp)) ⟨rfl,by decide,by decide⟩ rfl trivial ?_;rintro m b c ⟨J,v,rfl,rfl,rfl⟩ _);(repeat first|refine tA rfl ?_ |refine s2 rfl λ_ a=>?_ |refine Aa ?_);(refine aC rfl ?_ ?_<;>rintro⟨⟩)
    · (repeat first|refine tA rfl ?_|(refine Ai rfl ?_;refine gA rfl ?_;first| refine gS (λ_ _=>AV rfl rfl (by rfl) (by rfl)) ?_) |refine aU rfl ?_ |refine Aa ?_)
      exact aR ⟨_,rfl,[],dX (⟨0,0,[]⟩,false),[],⟨λi hi=>absurd hi (i8 i),kw⟩,rfl,trivial,(⟨0,0,[]⟩,false),me _,rfl,rfl,rfl⟩
    refine aK ?_;(repeat first|refine tA rfl ?_ |refine aU rfl ?_ |refine Aa ?_);exact aR ⟨_,rfl,[],dX (⟨n,st,[]⟩,true),[],⟨λi hi=>absurd hi (i8 i),kw⟩,rfl,trivial,(⟨n,st,[]⟩,true),me _,rfl,rfl,rfl⟩
  | cons j l=>
    refine Aj.AH [1,2] [(0,eT f),(2,.o (.ptr 0 3 0 0)),(9,.o (.ip (AJ ⟨n,st,j::l⟩)))] ⟨⟨_,rfl,.inl rfl⟩,⟨_,rfl,.inl rfl⟩,⟨_,rfl,.inr (.o (.box rfl (.cons .d (.cons .d (.cons (.full rfl (by simp [d6]) (by simp)) .nil)))))⟩,trivial⟩ ?_;(repeat first|refine tA rfl ?_ |refine aU rfl ?_);(refine pW rfl ?_ rfl (by rfl);refine Ae [] rfl rfl (HN (TB:=TB) ⟨n,st,j::l⟩ (by simp at t |-;omega)) ⟨rfl,by decide,by decide⟩ rfl trivial ?_;rintro m b c ⟨J,v,rfl,rfl,rfl⟩ _);(repeat first|refine tA rfl ?_ |refine s2 rfl λ_ a=>?_ |refine Aa ?_);(refine aC rfl ?_ ?_<;>rintro⟨⟩)
    · (repeat first|refine tA rfl ?_|(refine Ai rfl ?_;refine gA rfl ?_;first| refine gS (λ_ _=>AV rfl rfl (by rfl) (by rfl)) ?_) |refine aU rfl ?_ |refine Aa ?_)
      exact aR ⟨_,rfl,[],dX (⟨0,0,[]⟩,false),[],⟨λi hi=>absurd hi (i8 i),kw⟩,rfl,trivial,(⟨0,0,[]⟩,false),me _,rfl,rfl,rfl⟩
    refine aK ?_;(repeat first|refine tA rfl ?_ |refine aU rfl ?_ |refine Aa ?_);exact aR ⟨_,rfl,[],dX (⟨n,st,j::l⟩,true),[],⟨λi hi=>absurd hi (i8 i),kw⟩,rfl,trivial,(⟨n,st,j::l⟩,true),t,rfl,rfl,rfl⟩
abbrev kW(r:CR×Bool):E:=.t [(true,(P8 r.1).map .d),(false,[.d (bD r.2)])]
theorem EL(b:List UInt8)(hb:b.length<=2000)(p:Int)(P:0<=p/\p < 800000000)(y:Sys)(N:y.es.length<=100000):Spec Tryz.prog TB 197 [(0,A0 b p)] 1 [.o (.ptr 0 2 0 0),BN y] (JX b p 5 (λs=>s.es.length<=y.es.length+1)):=by
 obtain⟨k,M,L,hk⟩:=A3 (TB:=TB) b hb p y.es.length (by omega);obtain⟨c,S,Q,K⟩:=A3 (TB:=TB) b hb (p+1) 30 (by omega);refine eR Tryz.func197 rfl (by kernel_rfl) rfl ?_;intro Z a;(repeat first|refine tA rfl ?_ |refine aU rfl ?_ |refine Aa ?_);refine R.Pj [(0,2),(1,2),(2,2),(3,2),(5,2),(6,2),(9,3),(4,1),(7,1),(8,0),(10,5)] mixed (by kernel_rfl) rfl (by kernel_rfl) ?_;(repeat ((refine R.Ai rfl ?_;first|(refine R.yQ (md:=false) rfl rfl rfl ?_ ?_;exact tI) |refine R.yP rfl rfl rfl rfl ?_ )));(refine R.Ai rfl ?_;refine R.KF (λ_=>?_) rfl rfl;refine Bb rfl rfl rfl rfl (by simp) (by rfl) (by rfl) (by rfl) (by rfl) ?_);(refine R.Ai rfl ?_;refine R.KF (λ_=>?_) rfl rfl;refine Aw rfl rfl rfl (by simp) rfl (by intro r u;simp only [mr,d8] at u;obtain⟨_,_,rfl⟩:=u;rfl) (by rfl) (am rfl) (by simp;omega) ?_);(repeat ((refine R.Ai rfl ?_;first|refine R.yA rfl rfl rfl rfl ?_|refine R.Cv (λ_ _ _=>AV rfl rfl (by rfl) (by rfl)) rfl rfl ?_ )));refine R.Pd ?_;refine Aj.AA [0] [] rfl rfl [(4,.o (.ptr 1 3 0 0)),(5,.o (.ptr 3 3 0 0))] [(0,A0 b p),(1,.cells 25 3 [[.d (iD 0),.d (iD 0),.d (.l [])]]),(2,.cells 158 3 (y.es.map A5)),(3,.cells 25 3 [[.d (iD y.al),.d (iD y.st),.arr 2 3 0 y.es.length]])] [0,1,3,4] (rl a rfl) (by (simp[cX,zC,a,cN,Af,BV,eC])) ?_;(try dsimp only[cA,cB]);(repeat first|refine tA rfl ?_ |refine aU rfl ?_ |refine Aa ?_);(refine pW rfl ?_ rfl (by rfl);refine Ae [0] rfl rfl (hk) ⟨rfl,by decide,by decide⟩ rfl (by simp[cX,zC,a,cN]) ?_;rintro t j m ⟨rfl,rfl,rfl⟩ _);(repeat first|refine tA rfl ?_ |refine aU rfl ?_ |refine Aa ?_);(refine pW rfl ?_ rfl (by rfl);refine Ae [0] rfl rfl (K) ⟨rfl,by decide,by decide⟩ rfl (by simp[cX,zC,a,cN]) ?_;rintro t j m ⟨rfl,rfl,rfl⟩ _);refine Aa ?_;refine Aj.AA [0] [] rfl rfl [(4,.o (.ptr 1 3 0 0)),(5,.o (.ptr 3 3 0 0)),(6,eI .i64 y.es.length),(7,eI .i64 k),(24,eI .i64 c)] [(0,A0 b (p+1+1)),(1,.cells 25 3 [[.d (iD 0),.d (iD 0),.d (.l [])]]),(2,.cells 158 3 (y.es.map A5)),(3,.cells 25 3 [[.d (iD y.al),.d (iD y.st),.arr 2 3 0 y.es.length]])] [0,1,2,3] (rl a rfl) (by (simp[cX,zC,a,cN])) ?_;(try dsimp only[cA,cB]);refine aB ?_;(repeat first|refine tA rfl ?_ |refine s2 rfl λ_ e=>?_ |refine aU rfl ?_ |refine Aa ?_);(refine aC rfl ?_ ?_<;>rintro⟨⟩)
 ·obtain⟨z,G,v⟩:=CB (TB:=TB) b hb (p+1+1) (by omega) [64,-1,1,63] (by decide) (by decide)
  (repeat first|refine tA rfl ?_ |refine aU rfl ?_);(refine pW rfl ?_ rfl (by rfl);refine Ae [0] rfl rfl (v) ⟨rfl,by decide,by decide⟩ rfl (by simp[cX,zC,a,cN]) ?_;rintro t j m ⟨rfl,rfl,rfl⟩ _);(repeat first|refine tA rfl ?_ |refine aU rfl ?_ |refine Aa ?_);refine Aj.AA [] [] rfl rfl [(4,.o (.ptr 1 3 0 0))] [(0,A0 b (p+1+1+1)),(1,.cells 25 3 [[.d (iD (z)),.d (iD (y.st)),.arr 2 3 0 (y.es).length]]),(2,.cells 158 3 ((y.es).map A5))] [0,1,2] (rl a rfl) (by (simp[cX,zC,a,cN,Af,eC])) ?_;(try dsimp only[cA,cB]);refine Aj.AH [1,2] [(4,.o (.ip (AJ ⟨z,y.st,y.es⟩)))] ⟨⟨_,rfl,.inr (.o (.box rfl (.cons .d (.cons .d (.cons (.full rfl (by simp [d6]) (by simp)) .nil)))))⟩,trivial⟩ ?_;refine aR ⟨_,rfl,[0],BN ⟨z,y.st,y.es⟩,[(0,A0 b (p+1+1+1))],⟨by intro i hi;match i with|0=>rfl,by decide⟩,rfl,by (simp[cX,zC,a,cN]),p+1+1+1,⟨z,y.st,y.es⟩,by omega,by first|(simp;done)|(simp;omega),rfl,rfl,rfl⟩
 (repeat first|refine tA rfl ?_ |refine s2 rfl λ_ e=>?_ |refine aU rfl ?_ |refine Aa ?_);(refine aC rfl ?_ ?_<;>rintro⟨⟩)
 ·obtain⟨z,G,v⟩:=CB (TB:=TB) b hb (p+1+1) (by omega) [0,17,-1,16,1] (by decide) (by decide)
  (repeat first|refine tA rfl ?_ |refine aU rfl ?_);(refine pW rfl ?_ rfl (by rfl);refine Ae [0] rfl rfl (v) ⟨rfl,by decide,by decide⟩ rfl (by simp[cX,zC,a,cN]) ?_;rintro t j m ⟨rfl,rfl,rfl⟩ _);(repeat first|refine tA rfl ?_ |refine aU rfl ?_ |refine Aa ?_);refine Aj.AA [] [] rfl rfl [(4,.o (.ptr 1 3 0 0))] [(0,A0 b (p+1+1+1)),(1,.cells 25 3 [[.d (iD (y.al)),.d (iD (z)),.arr 2 3 0 (y.es).length]]),(2,.cells 158 3 ((y.es).map A5))] [0,1,2] (rl a rfl) (by (simp[cX,zC,a,cN,Af,eC])) ?_;(try dsimp only[cA,cB]);refine Aj.AH [1,2] [(4,.o (.ip (AJ ⟨y.al,z,y.es⟩)))] ⟨⟨_,rfl,.inr (.o (.box rfl (.cons .d (.cons .d (.cons (.full rfl (by simp [d6]) (by simp)) .nil)))))⟩,trivial⟩ ?_;refine aR ⟨_,rfl,[0],BN ⟨y.al,z,y.es⟩,[(0,A0 b (p+1+1+1))],⟨by intro i hi;match i with|0=>rfl,by decide⟩,rfl,by (simp[cX,zC,a,cN]),p+1+1+1,⟨y.al,z,y.es⟩,by omega,by first|(simp;done)|(simp;omega),rfl,rfl,rfl⟩
 (repeat first|refine tA rfl ?_ |refine s2 rfl λ_ e=>?_ |refine aU rfl ?_ |refine Aa ?_);(refine aC rfl ?_ ?_<;>rintro⟨⟩)
 ·by_cases v:y.es.length=0
  ·(repeat' first|refine tA rfl ?_ |refine s2 rfl λ_ e=>?_ |refine aU rfl ?_ |refine Aa ?_|(refine aC rfl ?_ ?_<;>rintro⟨⟩));all_goals try contradiction
   all_goals first
    | (exfalso;(simp only[oZ] at *;omega);done)
    | (refine aK ?_;(repeat first|refine tA rfl ?_ |refine aU rfl ?_ |refine Aa ?_);refine Aj.AA [] [] rfl rfl [(4,.o (.ptr 1 3 0 0))] [(0,A0 b (p+1+1)),(1,.cells 25 3 [[.d (iD (y.al)),.d (iD (y.st)),.arr 2 3 0 (y.es).length]]),(2,.cells 158 3 ((y.es).map A5))] [0,1,2] (rl a rfl) (by (simp[cX,zC,a,cN,Af,eC])) ?_;(try dsimp only[cA,cB]);refine Aj.AH [1,2] [(4,.o (.ip (AJ ⟨y.al,y.st,y.es⟩)))] ⟨⟨_,rfl,.inr (.o (.box rfl (.cons .d (.cons .d (.cons (.full rfl (by simp [d6]) (by simp)) .nil)))))⟩,trivial⟩ ?_;refine aR ⟨_,rfl,[0],BN ⟨y.al,y.st,y.es⟩,[(0,A0 b (p+1+1))],⟨by intro i hi;match i with|0=>rfl,by decide⟩,rfl,by (simp[cX,zC,a,cN]),p+1+1,⟨y.al,y.st,y.es⟩,by omega,by first|(simp;done)|(simp;omega),rfl,rfl,rfl⟩)
  obtain⟨⟨h,g,f⟩,x⟩:=get_some (l:=y.es) (k:=k.toNat) (by omega)
  have w:(y.es.map A5)[0+k.toNat]? = some (A5 ⟨h,g,f⟩):=by rw [lE];simp [x]
  obtain⟨z,G,q⟩:=CB (TB:=TB) b hb (p+1+1) (by omega) [-1,16,0,2] (by decide) (by decide)
  have n:(y.es.map A5).set (0+k.toNat) (A5 ⟨z,g,f⟩)=(y.es.set k.toNat ⟨z,g,f⟩).map A5:=by rw [lE,mx]
  (repeat first|refine tA rfl ?_ |refine s2 rfl λ_ e=>?_ |refine aU rfl ?_ |refine Aa ?_)
  ((refine aC rfl ?_ ?_<;>rintro⟨⟩);all_goals try(exfalso;(simp only[oZ] at *;omega)))
  refine rG (GI [(1,13),(5,1008),(6,2),(7,2),(8,1)]) (by kernel_rfl) ?_;(repeat first|refine tA rfl ?_);(refine Ai rfl ?_;refine Cw ?_ rfl ⟨rfl,rfl⟩;refine Ae [0] rfl rfl (q) ⟨rfl,by decide,by decide⟩ rfl (by simp[cX,zC,a,cN]) ?_;rintro t j m ⟨rfl,rfl,rfl⟩ _;refine⟨BO 3 rfl rfl,?_⟩);(repeat first|(refine sA rfl ?_ ?_;first|exact tI|omega) |refine t4 rfl ‹_› rfl ?_ |refine aU rfl ?_ |refine Aa ?_);refine Aj.AA [] [] rfl rfl [(4,.o (.ptr 1 3 0 0))] [(0,A0 b (p+1+1+1)),(1,.cells 25 3 [[.d (iD (y.al)),.d (iD (y.st)),.arr 2 3 0 (y.es.set k.toNat ⟨z,g,f⟩).length]]),(2,.cells 158 3 ((y.es.set k.toNat ⟨z,g,f⟩).map A5))] [0,1,2] (rl a rfl) (by (simp[cX,zC,a,cN,Af,eC,n])) ?_;(try dsimp only[cA,cB]);refine Aj.AH [1,2] [(4,.o (.ip (AJ ⟨y.al,y.st,y.es.set k.toNat ⟨z,g,f⟩⟩)))] ⟨⟨_,rfl,.inr (.o (.box rfl (.cons .d (.cons .d (.cons (.full rfl (by simp [d6]) (by simp)) .nil)))))⟩,trivial⟩ ?_;refine aR ⟨_,rfl,[0],BN ⟨y.al,y.st,y.es.set k.toNat ⟨z,g,f⟩⟩,[(0,A0 b (p+1+1+1))],⟨by intro i hi;match i with|0=>rfl,by decide⟩,rfl,by (simp[cX,zC,a,cN]),p+1+1+1,⟨y.al,y.st,y.es.set k.toNat ⟨z,g,f⟩⟩,by omega,by first|(simp;done)|(simp;omega),rfl,rfl,rfl⟩
 (repeat first|refine tA rfl ?_ |refine s2 rfl λ_ e=>?_ |refine aU rfl ?_ |refine Aa ?_);(refine aC rfl ?_ ?_<;>rintro⟨⟩)
 ·by_cases v:y.es.length=0
  ·(repeat' first|refine tA rfl ?_ |refine s2 rfl λ_ e=>?_ |refine aU rfl ?_ |refine Aa ?_|(refine aC rfl ?_ ?_<;>rintro⟨⟩));all_goals try contradiction
   all_goals first
    | (exfalso;(simp only[oZ] at *;omega);done)
    | (refine aK ?_;(repeat first|refine tA rfl ?_ |refine aU rfl ?_ |refine Aa ?_);refine Aj.AA [] [] rfl rfl [(4,.o (.ptr 1 3 0 0))] [(0,A0 b (p+1+1)),(1,.cells 25 3 [[.d (iD (y.al)),.d (iD (y.st)),.arr 2 3 0 (y.es).length]]),(2,.cells 158 3 ((y.es).map A5))] [0,1,2] (rl a rfl) (by (simp[cX,zC,a,cN,Af,eC])) ?_;(try dsimp only[cA,cB]);refine Aj.AH [1,2] [(4,.o (.ip (AJ ⟨y.al,y.st,y.es⟩)))] ⟨⟨_,rfl,.inr (.o (.box rfl (.cons .d (.cons .d (.cons (.full rfl (by simp [d6]) (by simp)) .nil)))))⟩,trivial⟩ ?_;refine aR ⟨_,rfl,[0],BN ⟨y.al,y.st,y.es⟩,[(0,A0 b (p+1+1))],⟨by intro i hi;match i with|0=>rfl,by decide⟩,rfl,by (simp[cX,zC,a,cN]),p+1+1,⟨y.al,y.st,y.es⟩,by omega,by first|(simp;done)|(simp;omega),rfl,rfl,rfl⟩)
  obtain⟨⟨h,g,f⟩,x⟩:=get_some (l:=y.es) (k:=k.toNat) (by omega)
  have w:(y.es.map A5)[0+k.toNat]? = some (A5 ⟨h,g,f⟩):=by rw [lE];simp [x]
  obtain⟨z,G,q⟩:=CB (TB:=TB) b hb (p+1+1) (by omega) [-1,16,0,3] (by decide) (by decide)
  have n:(y.es.map A5).set (0+k.toNat) (A5 ⟨h,g,z⟩)=(y.es.set k.toNat ⟨h,g,z⟩).map A5:=by rw [lE,mx]
  (repeat first|refine tA rfl ?_ |refine s2 rfl λ_ e=>?_ |refine aU rfl ?_ |refine Aa ?_)
  ((refine aC rfl ?_ ?_<;>rintro⟨⟩);all_goals try(exfalso;(simp only[oZ] at *;omega)))
  refine rG (GI [(1,13),(5,1008),(6,2),(7,2),(8,1)]) (by kernel_rfl) ?_;(repeat first|refine tA rfl ?_);(refine Ai rfl ?_;refine Cw ?_ rfl ⟨rfl,rfl⟩;refine Ae [0] rfl rfl (q) ⟨rfl,by decide,by decide⟩ rfl (by simp[cX,zC,a,cN]) ?_;rintro t j m ⟨rfl,rfl,rfl⟩ _;refine⟨BO 3 rfl rfl,?_⟩);(repeat first|(refine sA rfl ?_ ?_;first|exact tI|omega) |refine t4 rfl ‹_› rfl ?_ |refine aU rfl ?_ |refine Aa ?_);refine Aj.AA [] [] rfl rfl [(4,.o (.ptr 1 3 0 0))] [(0,A0 b (p+1+1+1)),(1,.cells 25 3 [[.d (iD (y.al)),.d (iD (y.st)),.arr 2 3 0 (y.es.set k.toNat ⟨h,g,z⟩).length]]),(2,.cells 158 3 ((y.es.set k.toNat ⟨h,g,z⟩).map A5))] [0,1,2] (rl a rfl) (by (simp[cX,zC,a,cN,Af,eC,n])) ?_;(try dsimp only[cA,cB]);refine Aj.AH [1,2] [(4,.o (.ip (AJ ⟨y.al,y.st,y.es.set k.toNat ⟨h,g,z⟩⟩)))] ⟨⟨_,rfl,.inr (.o (.box rfl (.cons .d (.cons .d (.cons (.full rfl (by simp [d6]) (by simp)) .nil)))))⟩,trivial⟩ ?_;refine aR ⟨_,rfl,[0],BN ⟨y.al,y.st,y.es.set k.toNat ⟨h,g,z⟩⟩,[(0,A0 b (p+1+1+1))],⟨by intro i hi;match i with|0=>rfl,by decide⟩,rfl,by (simp[cX,zC,a,cN]),p+1+1+1,⟨y.al,y.st,y.es.set k.toNat ⟨h,g,z⟩⟩,by omega,by first|(simp;done)|(simp;omega),rfl,rfl,rfl⟩
 (repeat first|refine tA rfl ?_ |refine s2 rfl λ_ e=>?_ |refine aU rfl ?_ |refine Aa ?_);(refine aC rfl ?_ ?_<;>rintro⟨⟩)
 ·by_cases v:y.es.length=0
  ·(repeat' first|refine tA rfl ?_ |refine s2 rfl λ_ e=>?_ |refine aU rfl ?_ |refine Aa ?_|(refine aC rfl ?_ ?_<;>rintro⟨⟩));all_goals try contradiction
   all_goals first
    | (exfalso;(simp only[oZ] at *;omega);done)
    | (refine aK ?_;(repeat first|refine tA rfl ?_ |refine aU rfl ?_ |refine Aa ?_);refine Aj.AA [] [] rfl rfl [(4,.o (.ptr 1 3 0 0))] [(0,A0 b (p+1+1)),(1,.cells 25 3 [[.d (iD (y.al)),.d (iD (y.st)),.arr 2 3 0 (y.es).length]]),(2,.cells 158 3 ((y.es).map A5))] [0,1,2] (rl a rfl) (by (simp[cX,zC,a,cN,Af,eC])) ?_;(try dsimp only[cA,cB]);refine Aj.AH [1,2] [(4,.o (.ip (AJ ⟨y.al,y.st,y.es⟩)))] ⟨⟨_,rfl,.inr (.o (.box rfl (.cons .d (.cons .d (.cons (.full rfl (by simp [d6]) (by simp)) .nil)))))⟩,trivial⟩ ?_;refine aR ⟨_,rfl,[0],BN ⟨y.al,y.st,y.es⟩,[(0,A0 b (p+1+1))],⟨by intro i hi;match i with|0=>rfl,by decide⟩,rfl,by (simp[cX,zC,a,cN]),p+1+1,⟨y.al,y.st,y.es⟩,by omega,by first|(simp;done)|(simp;omega),rfl,rfl,rfl⟩)
  obtain⟨⟨h,g,f⟩,x⟩:=get_some (l:=y.es) (k:=k.toNat) (by omega)
  have w:(y.es.map A5)[0+k.toNat]? = some (A5 ⟨h,g,f⟩):=by rw [lE];simp [x]
  obtain⟨z,G,q⟩:=CB (TB:=TB) b hb (p+1+1) (by omega) [-1,6,70,5,0] (by decide) (by decide)
  have n:(y.es.map A5).set (0+k.toNat) (A5 ⟨h,z,f⟩)=(y.es.set k.toNat ⟨h,z,f⟩).map A5:=by rw [lE,mx]
  (repeat first|refine tA rfl ?_ |refine s2 rfl λ_ e=>?_ |refine aU rfl ?_ |refine Aa ?_)
  ((refine aC rfl ?_ ?_<;>rintro⟨⟩);all_goals try(exfalso;(simp only[oZ] at *;omega)))
  refine rG (GI [(1,13),(5,1008),(6,2),(7,2),(8,1)]) (by kernel_rfl) ?_;(repeat first|refine tA rfl ?_);(refine Ai rfl ?_;refine Cw ?_ rfl ⟨rfl,rfl⟩;refine Ae [0] rfl rfl (q) ⟨rfl,by decide,by decide⟩ rfl (by simp[cX,zC,a,cN]) ?_;rintro t j m ⟨rfl,rfl,rfl⟩ _;refine⟨BO 3 rfl rfl,?_⟩);(repeat first|(refine sA rfl ?_ ?_;first|exact tI|omega) |refine t4 rfl ‹_› rfl ?_ |refine aU rfl ?_ |refine Aa ?_);refine Aj.AA [] [] rfl rfl [(4,.o (.ptr 1 3 0 0))] [(0,A0 b (p+1+1+1)),(1,.cells 25 3 [[.d (iD (y.al)),.d (iD (y.st)),.arr 2 3 0 (y.es.set k.toNat ⟨h,z,f⟩).length]]),(2,.cells 158 3 ((y.es.set k.toNat ⟨h,z,f⟩).map A5))] [0,1,2] (rl a rfl) (by (simp[cX,zC,a,cN,Af,eC,n])) ?_;(try dsimp only[cA,cB]);refine Aj.AH [1,2] [(4,.o (.ip (AJ ⟨y.al,y.st,y.es.set k.toNat ⟨h,z,f⟩⟩)))] ⟨⟨_,rfl,.inr (.o (.box rfl (.cons .d (.cons .d (.cons (.full rfl (by simp [d6]) (by simp)) .nil)))))⟩,trivial⟩ ?_;refine aR ⟨_,rfl,[0],BN ⟨y.al,y.st,y.es.set k.toNat ⟨h,z,f⟩⟩,[(0,A0 b (p+1+1+1))],⟨by intro i hi;match i with|0=>rfl,by decide⟩,rfl,by (simp[cX,zC,a,cN]),p+1+1+1,⟨y.al,y.st,y.es.set k.toNat ⟨h,z,f⟩⟩,by omega,by first|(simp;done)|(simp;omega),rfl,rfl,rfl⟩
 (repeat first|refine tA rfl ?_ |refine s2 rfl λ_ e=>?_ |refine aU rfl ?_ |refine Aa ?_);(refine aC rfl ?_ ?_<;>rintro⟨⟩)
 ·by_cases v:y.es.length=0
  ·(repeat' first|refine tA rfl ?_ |refine s2 rfl λ_ e=>?_ |refine aU rfl ?_ |refine Aa ?_|(refine aC rfl ?_ ?_<;>rintro⟨⟩));all_goals try contradiction
   all_goals first
    | (exfalso;(simp only[oZ] at *;omega);done)
    | (refine aK ?_;(repeat first|refine tA rfl ?_ |refine aU rfl ?_ |refine Aa ?_);refine Aj.AA [] [] rfl rfl [(4,.o (.ptr 1 3 0 0))] [(0,A0 b (p+1+1)),(1,.cells 25 3 [[.d (iD (y.al)),.d (iD (y.st)),.arr 2 3 0 (y.es).length]]),(2,.cells 158 3 ((y.es).map A5))] [0,1,2] (rl a rfl) (by (simp[cX,zC,a,cN,Af,eC])) ?_;(try dsimp only[cA,cB]);refine Aj.AH [1,2] [(4,.o (.ip (AJ ⟨y.al,y.st,y.es⟩)))] ⟨⟨_,rfl,.inr (.o (.box rfl (.cons .d (.cons .d (.cons (.full rfl (by simp [d6]) (by simp)) .nil)))))⟩,trivial⟩ ?_;refine aR ⟨_,rfl,[0],BN ⟨y.al,y.st,y.es⟩,[(0,A0 b (p+1+1))],⟨by intro i hi;match i with|0=>rfl,by decide⟩,rfl,by (simp[cX,zC,a,cN]),p+1+1,⟨y.al,y.st,y.es⟩,by omega,by first|(simp;done)|(simp;omega),rfl,rfl,rfl⟩)
  obtain⟨⟨h,g,f⟩,x⟩:=get_some (l:=y.es) (k:=k.toNat) (by omega)
  have w:(y.es.map A5)[0+k.toNat]? = some (A5 ⟨h,g,f⟩):=by rw [lE];simp [x]
  (repeat first|refine tA rfl ?_ |refine s2 rfl λ_ e=>?_ |refine aU rfl ?_ |refine Aa ?_)
  ((refine aC rfl ?_ ?_<;>rintro⟨⟩);all_goals try(exfalso;(simp only[oZ] at *;omega)))
  refine rG (GI [(1,13),(3,13),(6,12),(8,1),(10,1)]) (by kernel_rfl) ?_;(repeat first|(refine sA rfl ?_ ?_;first|exact tI|omega) |refine t4 rfl ‹_› rfl ?_);(refine pW rfl ?_ rfl (by rfl);refine Aw rfl rfl rfl (by first| (simp;done)|(simp;(omega))) rfl (by intro r u;simp at u;subst u;rfl) (by rfl) (am rfl) (by simp;omega) ?_);(repeat first|refine tA rfl ?_ |refine aU rfl ?_ |refine Aa ?_);refine Aj.AA [] [] rfl rfl [(4,.o (.ptr 1 3 0 0))] [(0,A0 b (p+1+1)),(1,.cells 25 3 [[.d (iD (y.al)),.d (iD (y.st)),.arr 2 3 0 (y.es++[(⟨h,g,f⟩:Ec)]).length]]),(2,.cells 158 3 ((y.es++[(⟨h,g,f⟩:Ec)]).map A5))] [0,1,4] (rl a rfl) (by (simp[cX,zC,a,cN,Af,eC])) ?_;(try dsimp only[cA,cB]);refine Aj.AH [1,2] [(4,.o (.ip (AJ ⟨y.al,y.st,y.es++[(⟨h,g,f⟩:Ec)]⟩)))] ⟨⟨_,rfl,.inr (.o (.box rfl (.cons .d (.cons .d (.cons (.full rfl (by simp [d6]) (by simp)) .nil)))))⟩,trivial⟩ ?_;refine aR ⟨_,rfl,[0],BN ⟨y.al,y.st,y.es++[(⟨h,g,f⟩:Ec)]⟩,[(0,A0 b (p+1+1))],⟨by intro i hi;match i with|0=>rfl,by decide⟩,rfl,by (simp[cX,zC,a,cN]),p+1+1,⟨y.al,y.st,y.es++[(⟨h,g,f⟩:Ec)]⟩,by omega,by first|(simp;done)|(simp;omega),rfl,rfl,rfl⟩
 (repeat first|refine tA rfl ?_ |refine s2 rfl λ_ e=>?_ |refine aU rfl ?_ |refine Aa ?_);(refine aC rfl ?_ ?_<;>rintro⟨⟩)
 ·obtain⟨F,_,_,J⟩:=A3 (TB:=TB) b hb (p+1+1) 4 (by omega)
  obtain⟨B,_,_,I⟩:=A3 (TB:=TB) b hb (p+1+1+1) 3 (by omega);obtain⟨A,_,_,H⟩:=A3 (TB:=TB) b hb (p+1+1+1+1) 4 (by omega);refine rG ⟨FU [(1,13),(3,1008),(5,1008),(7,1008),(10,1),(12,1)],Y7 [0,1,2,4,6,3,5,7,8,9,10,11,12]⟩ (by kernel_rfl) ?_;(repeat first|refine tA rfl ?_);(refine Ai rfl ?_;refine Cw ?_ rfl ⟨rfl,rfl⟩;refine Ae [0] rfl rfl (J) ⟨rfl,by decide,by decide⟩ rfl (by simp[cX,zC,a,cN]) ?_;rintro t j m ⟨rfl,rfl,rfl⟩ _;refine⟨BO 3 rfl rfl,?_⟩);(refine Ai rfl ?_;refine Cw ?_ rfl ⟨rfl,rfl⟩;refine Ae [0] rfl rfl (I) ⟨rfl,by decide,by decide⟩ rfl (by simp[cX,zC,a,cN]) ?_;rintro t j m ⟨rfl,rfl,rfl⟩ _;refine⟨BO 3 rfl rfl,?_⟩);(refine Ai rfl ?_;refine Cw ?_ rfl ⟨rfl,rfl⟩;refine Ae [0] rfl rfl (H) ⟨rfl,by decide,by decide⟩ rfl (by simp[cX,zC,a,cN]) ?_;rintro t j m ⟨rfl,rfl,rfl⟩ _;refine⟨BO 3 rfl rfl,?_⟩);(repeat first|refine tA rfl ?_|(refine Ai rfl ?_;refine gA rfl ?_;first| refine gS (λ_ _=>AV rfl rfl (by rfl) (by rfl)) ?_));(refine pW rfl ?_ rfl (by rfl);refine Aw rfl rfl rfl (by first| (simp;done)|(simp;(omega))) rfl (by intro r u;simp at u;subst u;rfl) (by rfl) (am rfl) (by simp;omega) ?_);(repeat first|refine tA rfl ?_ |refine aU rfl ?_ |refine Aa ?_);refine Aj.AA [] [] rfl rfl [(4,.o (.ptr 1 3 0 0))] [(0,A0 b (p+1+1+1+1+1)),(1,.cells 25 3 [[.d (iD (y.al)),.d (iD (y.st)),.arr 2 3 0 (y.es++[(⟨F,B,A⟩:Ec)]).length]]),(2,.cells 158 3 ((y.es++[(⟨F,B,A⟩:Ec)]).map A5))] [0,1,4] (rl a rfl) (by (simp[cX,zC,a,cN,Af,eC])) ?_;(try dsimp only[cA,cB]);refine Aj.AH [1,2] [(4,.o (.ip (AJ ⟨y.al,y.st,y.es++[(⟨F,B,A⟩:Ec)]⟩)))] ⟨⟨_,rfl,.inr (.o (.box rfl (.cons .d (.cons .d (.cons (.full rfl (by simp [d6]) (by simp)) .nil)))))⟩,trivial⟩ ?_;refine aR ⟨_,rfl,[0],BN ⟨y.al,y.st,y.es++[(⟨F,B,A⟩:Ec)]⟩,[(0,A0 b (p+1+1+1+1+1))],⟨by intro i hi;match i with|0=>rfl,by decide⟩,rfl,by (simp[cX,zC,a,cN]),p+1+1+1+1+1,⟨y.al,y.st,y.es++[(⟨F,B,A⟩:Ec)]⟩,by omega,by first|(simp;done)|(simp;omega),rfl,rfl,rfl⟩
 refine aK ?_;(repeat first|refine tA rfl ?_ |refine aU rfl ?_ |refine Aa ?_);refine Aj.AA [] [] rfl rfl [(4,.o (.ptr 1 3 0 0))] [(0,A0 b (p+1+1)),(1,.cells 25 3 [[.d (iD (y.al)),.d (iD (y.st)),.arr 2 3 0 (y.es).length]]),(2,.cells 158 3 ((y.es).map A5))] [0,1,2] (rl a rfl) (by (simp[cX,zC,a,cN,Af,eC])) ?_;(try dsimp only[cA,cB]);refine Aj.AH [1,2] [(4,.o (.ip (AJ ⟨y.al,y.st,y.es⟩)))] ⟨⟨_,rfl,.inr (.o (.box rfl (.cons .d (.cons .d (.cons (.full rfl (by simp [d6]) (by simp)) .nil)))))⟩,trivial⟩ ?_;refine aR ⟨_,rfl,[0],BN ⟨y.al,y.st,y.es⟩,[(0,A0 b (p+1+1))],⟨by intro i hi;match i with|0=>rfl,by decide⟩,rfl,by (simp[cX,zC,a,cN]),p+1+1,⟨y.al,y.st,y.es⟩,by omega,by first|(simp;done)|(simp;omega),rfl,rfl,rfl⟩
end Go.Am
namespace Go.Am
open Go
set_option linter.unusedVariables false
theorem EY{c:MM}:∀ {u w:List Int} {q r:Int},Jb c (u++w) q r↔∃y,Jb c u q y/\Jb c w y r
 | [],w,q,r=>⟨λh=>⟨q,rfl,h⟩,λ⟨y,a,b⟩=>by have a:y=q:=a;subst a;exact b⟩
 | l :: u,w,q,r=>by
  constructor
  ·rintro⟨y,d,h⟩
   obtain⟨z,a,b⟩:=EY.1 h;exact⟨z,⟨y,d,a⟩,b⟩
  ·rintro⟨z,⟨y,d,a⟩,b⟩
   exact⟨y,d,EY.2 ⟨z,a,b⟩⟩
theorem Nc{s:Sys}(b:AZ s=true):∀ {w:List Int} {q r:Int},0<=q/\q < s.st->Jb (LY s) w q r->0<=r/\r < s.st
 | [],q,r,a,h=>by have h:r=q:=h;subst h;exact a
 | l::w,q,r,a,⟨y,c,h⟩=>Nc b (IL b a.1 a.2 c) h
theorem Ru{a:AX}(ha:AE a=true):∀ {w:List Int} {q:Int},(∀l∈w,0<=l/\l < 6)->0<=q/\q < a.nx.length->0<=Dd (fA a) q w/\Dd (fA a) q w < a.nx.length
 | [],q,_,c=>c
 | l::w,q,b,c=>by
  have d:=b l (by simp);exact Ru ha (w:=w) (λm e=>b m (by simp [e])) (CK ha (q:=q.toNat) (by omega) d.1 d.2)
theorem X8{t:CR}{F:PS}{u:W}{c:UInt8}:Gf t F (u++[c])=ED t ((c.toNat:Int) - 97) (Gf t F u):=by rw [Ow];rfl
theorem I7{s:Sys}{q l r:Int}(h:AR s.al l.toNat=true):r∈BF s q l↔∃e∈s.es,e.f=q/\e.l=l/\e.t=r:=by
 unfold BF;rw [if_pos h];simp only [d8,lJ,d4,decide_eq_true_eq];constructor
 ·rintro⟨e,⟨d,c,b⟩,a⟩;exact⟨e,d,c,b,a⟩
 ·rintro⟨e,d,c,b,a⟩;exact⟨e,⟨d,c,b⟩,a⟩
section
variable {t:CR}(ht:Bv t=true)
include ht
theorem WD{F0:PS}(A:DG t F0){p j:Nat}:Qn t F0 p j↔∃(a b:Nat) (u:List Int),(F0 a).testBit b=true/\(∀l∈u,l∈C0 t)/\Jb (LY t.s) u b j/\(p:Int)=Dd (fA t.q) a u:=by
 constructor
 ·intro h
  induction h with
  | @base p j hb=>exact⟨p,j,[],hb,by simp,rfl,rfl⟩
  | @step p j e i o n J r=>
   obtain⟨a,b,u,z,k,c,d⟩:=r;have I:=Hl ht o;have hL:=Em ht n;have g:=i.lt ht A;have H:=CK (DB ht) g.1 hL.1 hL.2.1;refine⟨a,b,u++[e.l],z,λl x=>?_,?_,?_⟩
   ·rcases f6.1 x with h|h
    ·exact k l h
    ·simp at h;subst h;exact n
   ·refine EY.2 ⟨j,c,(e.t.toNat:Int),?_,rfl⟩
    exact(I7 hL.2.2).2 ⟨e,o,by omega,rfl,by omega⟩
   ·rw [KJ,<-d]
    show ((Cg t.q p e.l).toNat:Int)=Cg t.q ((p:Int).toNat) e.l
    rw [i9];omega
 ·rintro⟨a,b,u,z,k,c,d⟩
  have key:∀(u:List Int) (a b:Nat),Qn t F0 a b->(∀l∈u,l∈C0 t)->∀ {p j:Nat},Jb (LY t.s) u b j->(p:Int)=Dd (fA t.q) a u->Qn t F0 p j:=λu=>by
   induction u with
   | nil=>
    intro a b i _ p j c d;have c:(j:Int)=b:=c;have d:(p:Int)=a:=d
    obtain rfl:j=b:=by omega
    obtain rfl:p=a:=by omega
    exact i
   | cons l u r=>
    intro a b i k p j c d;have n:=k l (by simp);have hL:=Em ht n;have g:=i.lt ht A;have H:=CK (DB ht) g.1 hL.1 hL.2.1;obtain⟨y,F,c⟩:=c;obtain⟨e,o,L,B,K⟩:=(I7 hL.2.2).1 F;have I:=Hl ht o;have w:=Qn.step i o (by rw [B];exact n) (show e.f.toNat=b by omega)
    have v:((e.t.toNat:Nat):Int)=y:=by omega
    refine r _ _ w (λm G=>k m (by simp [G])) (by rw [v];exact c) ?_;rw [d,B]
    show Dd (fA t.q) (Cg t.q ((a:Int).toNat) l) u=_
    rw [i9];congr 1;omega
  exact key u a b (.base z) k c d
theorem ZN{F:PS}(o:DG t F){l:Int}(v:0<=l/\l < 6){p' j:Nat}:(VY t l F p').testBit j=true↔∃p a:Nat,(F p).testBit a=true/\Cg t.q p l=(p':Int)/\(j:Int)∈BF t.s a l:=by
 rw [Ky]
 have g:∀ {p a:Nat},(F p).testBit a=true->p < t.q.nx.length:=λ{p a} h=>by
  rcases l9 p t.q.nx.length with b|b
  ·exact b
  ·rw [o.z p b] at h;simp at h
 unfold Fe;by_cases hb:AR t.s.al l.toNat=true
 ·simp only [hb,if_true]
  constructor
  ·rintro⟨p,b,d,c⟩
   obtain⟨e,i,⟨n,k⟩,u⟩:=EN.1 c;have r:=Hl ht i;exact⟨p,e.f.toNat,k,d,(I7 hb).2 ⟨e,i,by omega,n,by omega⟩⟩
  ·rintro⟨p,a,b,d,c⟩
   obtain⟨e,i,n,k,u⟩:=(I7 hb).1 c;have r:=Hl ht i;refine⟨p,g b,d,EN.2 ⟨e,i,⟨k,?_⟩,by omega⟩⟩;rw [show e.f.toNat=a by omega];exact b
 ·simp only [hb,if_false,nG]
  have m:∀a:Nat,BF t.s a l=[(a:Int)]:=λa=>by unfold BF;rw [if_neg hb]
  constructor
  ·rintro⟨p,b,d,c⟩
   exact⟨p,j,c,d,by rw [m];simp⟩
  ·rintro⟨p,a,b,d,c⟩
   rw [m] at c
   obtain rfl:j=a:=by simp at c;omega
   exact⟨p,g b,d,b⟩
end
def Bu(al:Int)(u:List Int):List Int:=u.filter λl=>AR al l.toNat
def WV(t:CR)(u:List Int):Prop:=∀l∈u,l∈C0 t\/l∈Ac t.al
theorem cD{t:CR}{l:Int}(h:l∈C0 t):AR t.al l.toNat=false:=by
 unfold C0 at h;have:=(lJ.1 h).2
 simpa using this
theorem RG{t:CR}{u:List Int}(d:WV t u)(h:Bu t.al u=[]):∀l∈u,l∈C0 t:=λl b=>by
 rcases d l b with a|a
 ·exact a
 ·exfalso
  have c:l∈Bu t.al u:=lJ.2 ⟨b,(Ak a).2.2⟩;rw [h] at c;cases c
theorem QG{t:CR}{u:List Int}(h:∀l∈u,l∈C0 t):Bu t.al u=[]:=oJ.2 λl a=>by rw [cD (h l a)];simp
theorem VA{t:CR}{F:PS}(g:DG t F):HX t F=true↔∃p j:Nat,(F p).testBit j=true/\TP t.q p=false:=by
 unfold HX;rw [oL];constructor
 ·rintro⟨p,c,h⟩
  simp only [d4,decide_eq_true_eq,mW] at h
  have:∃j,(F p).testBit j=true:=Classical.byContradiction λf=>h.1 (GU λj=>by
   cases hb:(F p).testBit j
   ·rfl
   ·exact absurd ⟨j,hb⟩ f)
  obtain⟨j,d⟩:=this;exact⟨p,j,d,by unfold TP;rw [i9];exact h.2⟩
 ·rintro⟨p,j,a,b⟩
  have c:p < t.q.nx.length:=by
   rcases l9 p t.q.nx.length with h|h
   ·exact h
   ·rw [g.z p h] at a;simp at a
  refine⟨p,lN.2 c,?_⟩;unfold TP at b;rw [i9] at b;simp only [d4,decide_eq_true_eq,mW];exact⟨λe=>by rw [e] at a;simp at a,b⟩
theorem P5{t:CR}:∀(w:List Int) {F:PS},KL t F (CA w)=false↔∃k,k<=w.length/\HX t (Gf t F (CA (w.take k)))=true
 | [],F=>by
  show (!HX t F)=false↔_
  constructor
  ·intro h
   exact⟨0,by simp,by show HX t F=true;simpa using h⟩
  ·rintro⟨k,_,h⟩
   have h:HX t F=true:=by simpa [CA,Gf] using h
   rw [h];rfl
 | l :: w,F=>by
  have c:=λF=>P5 (t:=t) w (F:=F);have e:KL t F (CA (l::w))=(!HX t F && KL t (ED t (((lb l).toNat:Int) - 97) F) (CA w)):=rfl;rw [e];constructor
  ·intro h
   cases hb:HX t F
   ·rw [hb] at h
    obtain⟨k,b,a⟩:=(c _).1 h;exact⟨k+1,by simpa using b,a⟩
   ·exact⟨0,by simp,hb⟩
  ·rintro⟨k,b,a⟩
   cases k with
   | zero=>
    have a:HX t F=true:=a;rw [a];rfl
   | succ k=>
    have:=(c (ED t (((lb l).toNat:Int) - 97) F)).2 ⟨k,by simpa using b,a⟩;rw [this,Bool.and_false]
theorem dG{α:Type}{P:List α->Prop}(c:P [])(b:∀w l,P w->P (w++[l]))(w:List α):P w:=by
 rw [<-List.reverse_reverse w]
 induction w.reverse with
 | nil=>exact c
 | cons l u a=>rw [List.reverse_cons];exact b _ l a
section
variable {t:CR}(ht:Bv t=true)
include ht
theorem Zg{F0:PS}(a:DG t F0){p j:Nat}:(Xi t F0 p).testBit j=true↔∃(b c:Nat) (u:List Int),(F0 b).testBit c=true/\(∀l∈u,l∈C0 t)/\Jb (LY t.s) u c j/\(p:Int)=Dd (fA t.q) b u:=by
 rw [Nb,WD ht a];constructor
 ·exact λh=>h.2
 ·intro h
  exact⟨((WD ht a).2 h).lt ht a |>.2,h⟩
theorem Nq:∀(w:List Int) {F:PS},DG t F->(∀l∈w,0<=l/\l < 6)->DG t (Gf t F (CA w))
 | [],F,h,_=>h
 | l :: w,F,h,b=>by
  have a:=b l (by simp)
  have e:Gf t F (CA (l::w))=Gf t (ED t l F) (CA w):=by
   show Gf t (ED t (((lb l).toNat:Int) - 97) F) (CA w)=_
   rw [JE a.1 a.2]
  rw [e];exact Nq w (N9 ht a h) λm c=>b m (by simp [c])
theorem WL:∀(w:List Int),(∀l∈w,l∈Ac t.al)->∀ {p j:Nat},((Gf t (CP t) (CA w) p).testBit j=true↔∃u,WV t u/\Bu t.al u=w/\Jb (LY t.s) u 0 j/\(p:Int)=Dd (fA t.q) 0 u):=λw=>by
 refine dG (P:=λw=>(∀l∈w,l∈Ac t.al)->∀ {p j:Nat},((Gf t (CP t) (CA w) p).testBit j=true↔∃u,WV t u/\Bu t.al u=w/\Jb (LY t.s) u 0 j/\(p:Int)=Dd (fA t.q) 0 u)) ?_ ?_ w
 ·intro _ p j
  show (Xi t Le p).testBit j=true↔_
  rw [Zg ht (OV ht)]
  have S:∀ {y z:Nat},(Le y).testBit z=true↔y=0/\z=0:=λ{y z} => by
   unfold Le;split
   ·rename_i h
    subst h;have e:(1:Nat)=2 ^ 0:=rfl;rw [e,m8];simp [eq_comm]
   ·rename_i h;simp [h]
  constructor
  ·rintro⟨y,z,u,b,d,x,v⟩
   obtain⟨rfl,rfl⟩:=S.1 b;exact⟨u,λl hl=>.inl (d l hl),QG d,x,v⟩
  ·rintro⟨u,b,d,x,v⟩
   exact⟨0,0,u,S.2 ⟨rfl,rfl⟩,RG b d,x,v⟩
 ·intro w l A H p j
  have o:=H l (by simp);have c:=Ak o;have A:=λp j=>A (λm a=>H m (by simp [a])) (p:=p) (j:=j)
  have g:=Nq ht w (F:=CP t) (Hj ht) λm a=>by have:=Ak (H m (by simp [a]));omega
  have e:Gf t (CP t) (CA (w++[l]))=Xi t (VY t l (Gf t (CP t) (CA w))):=by
   have N:CA (w++[l])=CA w++[lb l]:=by simp [CA,lb]
   rw [N,X8,JE c.1 (by omega)];rfl
  rw [e,Zg ht (LI ht ⟨c.1,by omega⟩ g)];constructor
  ·rintro⟨p1,j1,h,b,d,x,v⟩
   obtain⟨Q,R,h5,h6,h7⟩:=(ZN ht g ⟨c.1,by omega⟩).1 b;obtain⟨u,i,G,M,L⟩:=(A Q R).1 h5;refine⟨u++l::h,λm a=>?_,?_,EY.2 ⟨R,M,j1,h7,x⟩,?_⟩
   ·rcases f6.1 a with a|a
    ·exact i m a
    ·rcases lF.1 a with rfl|a
     ·exact .inr o
     ·exact .inl (d m a)
   ·unfold Bu at *
    rw [mB,G,mC (by simpa using c.2.2)];have:=QG d;unfold Bu at this;rw [this]
   ·rw [KJ,<-L,v]
    show _=Dd (fA t.q) (Cg t.q ((Q:Int).toNat) l) h
    rw [i9,h6]
  ·rintro⟨u,i,G,M,L⟩
   unfold Bu at G;obtain⟨f,u2,rfl,N,e2⟩:=List.filter_eq_append_iff.1 G;obtain⟨b,d,rfl,e3,e4,e5⟩:=List.filter_eq_cons_iff.1 e2;have r:∀m∈b,m∈C0 t:=RG (λm a=>i m (by simp [a])) (by unfold Bu;exact oJ.2 e3);have K:∀m∈d,m∈C0 t:=RG (λm a=>i m (by simp [a])) e5;obtain⟨Y,V,c2⟩:=EY.1 M;obtain⟨n,U,k,T,c5⟩:=EY.1 c2
   have B:AZ t.s=true:=by unfold Bv at ht;simp only [d4] at ht;exact ht.1
   have hst:=AQ B;have I:=DB ht;have hqn:=Ay I
   have J:∀m∈f++(b++l::d),0<=m/\m < 6:=λm a=>by
    rcases i m a with h|h
    ·have:=Em ht h;omega
    ·have:=Ak h;omega
   have b1:=Nc B ⟨by omega,by omega⟩ V;have X:=Nc B b1 U;have b3:=IL B X.1 X.2 T;have a2:=Ru I (w:=f++b) (q:=0) (λm a=>J m (by rcases f6.1 a with h|h<;>simp [h])) ⟨by omega,by omega⟩;have a3:=CK I (q:=(Dd (fA t.q) 0 (f++b)).toNat) (by omega) c.1 (show l < 6 by omega);refine⟨(Cg t.q (Dd (fA t.q) 0 (f++b)).toNat l).toNat,k.toNat,d,(ZN ht g ⟨c.1,by omega⟩).2 ⟨(Dd (fA t.q) 0 (f++b)).toNat,n.toNat,(A _ _).2 ⟨f++b,λm a=>?_,?_,?_,by omega⟩,by omega,?_⟩,K,?_,?_⟩
   ·rcases f6.1 a with a|a
    ·exact i m (by simp [a])
    ·exact .inl (r m a)
   ·have:=QG r
    unfold Bu at *;rw [mB,N,this,l8]
   ·rw [show ((n.toNat:Nat):Int)=n by omega]
    exact EY.2 ⟨Y,V,U⟩
   ·rw [show ((n.toNat:Nat):Int)=n by omega,show ((k.toNat:Nat):Int)=k by omega];exact T
   ·rw [show ((k.toNat:Nat):Int)=k by omega];exact c5
   ·rw [show (((Cg t.q (Dd (fA t.q) 0 (f++b)).toNat l).toNat:Nat):Int)=Cg t.q (Dd (fA t.q) 0 (f++b)).toNat l by omega,L,<-ox,KJ];rfl
theorem OQ{w:List Int}(v:∀l∈w,l∈Ac t.al):LS t (CA w)=false↔∃u,WV t u/\Bu t.al u <+: w/\EF t.s u/\CQ t.q u=false:=by
 unfold LS;rw [P5];constructor
 ·rintro⟨k,I,H⟩
  have d:∀l∈w.take k,l∈Ac t.al:=λl o=>v l (lU o)
  have c:=Nq ht (w.take k) (Hj ht) λm f=>by have:=Ak (d m f);omega
  obtain⟨p,j,G,F⟩:=(VA c).1 H;obtain⟨u,n,g,i,r⟩:=(WL ht _ d).1 G;exact⟨u,n,by rw [g];exact List.take_prefix _ _,⟨_,i⟩,by unfold CQ;rw [<-r];exact F⟩
 ·rintro⟨u,n,g,⟨q,i⟩,r⟩
  refine⟨(Bu t.al u).length,g.length_le,?_⟩;have e:w.take (Bu t.al u).length=Bu t.al u:=(List.prefix_iff_eq_take.1 g).symm;rw [e];have x:∀l∈Bu t.al u,l∈Ac t.al:=λl o=>v l (g.subset o)
  have y:AZ t.s=true:=by unfold Bv at ht;simp only [d4] at ht;exact ht.1
  have A:=AQ y;have z:=DB ht;have B:=Ay z
  have c:=Nq ht (Bu t.al u) (Hj ht) λm f=>by have:=Ak (x m f);omega
  have b:=Nc y (⟨by omega,by omega⟩:(0:Int)<=0/\(0:Int) < t.s.st) i
  have a:=Ru z (w:=u) (q:=0) (λm f=>by
   rcases n m f with h|h
   ·have:=Em ht h;omega
   ·have:=Ak h;omega) ⟨by omega,by omega⟩
  refine(VA c).2 ⟨(Dd (fA t.q) 0 u).toNat,q.toNat,(WL ht _ x).2 ⟨u,n,rfl,?_,by omega⟩,?_⟩
  ·rw [show ((q.toNat:Nat):Int)=q by omega];exact i
  ·rw [show (((Dd (fA t.q) 0 u).toNat:Nat):Int)=Dd (fA t.q) 0 u by omega];exact r
end
end Go.Am
namespace Go.Am
open Go Go.Proofs
set_option maxHeartbeats 1000000
set_option maxRecDepth 4000
attribute [local irreducible] AW BQ Lex A9 Aj Spec
variable {TB:Bp}
theorem Lz(t:CR):Pure Tryz.prog TB 106 [ia t] (eB (Bv t)):=by
 unfold Bv;refine eN Tryz.func106 rfl (by kernel_rfl) rfl ?_;intro Z b;(repeat' first|refine tA rfl ?_ |(refine sC rfl (BS t.s) ?_;intro _ a)|(refine sC rfl (AY t.q) ?_;intro _ a)|(refine sC rfl (GC t.al) ?_;intro _ a) |refine s3 rfl ?_ ?_<;>rintro rfl |refine aU rfl ?_ |refine Aa ?_|(refine aC rfl ?_ ?_<;>rintro⟨⟩)|refine aK ?_|refine aE ?_|refine aB ?_|refine aR ⟨_,rfl,?_⟩)
 all_goals (show E.o _=E.o _;simp_all)
abbrev kK(p:AX)(t:CR):E:=kJ false p t.s t.q t.al
theorem OL(p:AX)(t:CR):Pure Tryz.prog TB 143 [kK p t] (eI .i64 (if Bv t then t.al else -1)):=by
 have c:=Lz (TB:=TB) t;refine eN Tryz.func143 rfl (by kernel_rfl) rfl ?_;intro Z b;(repeat' first|refine tA rfl ?_ |refine s2 rfl λ_ a=>?_ |(refine sC rfl (c) ?_;intro _ a) |refine s3 rfl ?_ ?_<;>rintro rfl |refine aU rfl ?_ |refine Aa ?_|(refine aC rfl ?_ ?_<;>rintro⟨⟩)|refine aK ?_|refine aE ?_|refine aB ?_|refine aR ⟨_,rfl,?_⟩)
 all_goals first
  | (show E.o _=E.o _;congr;grind)
  | (exfalso;simp at *;done)
abbrev MG(c:C):C:=.mv 145 [c]
theorem Pg[Dx TB](p:AX){t:CR}(ht:Bv t=true)(ok:W->Prop):∃m,Mj t ok m/\AK Tryz.prog TB 62 0 [] 0 [kK p t] (λx σ nx=>x=.t [(true,[.d (iD t.al),MG (.ptr 0 14 0 0)]),(false,[.d (bD true)])]/\σ=LV t m/\nx=5):=by
 obtain⟨m,j,e⟩:=QU (TB:=TB) ht ok;refine⟨m,j,?_⟩;have f:=OL (TB:=TB) p t;rw [if_pos ht] at f
 have b:Bm t.al=true:=by unfold Bv at ht;simp only [d4] at ht;exact ht.2.2
 unfold Bm at b;simp only [decide_eq_true_eq] at b;refine AK.A7 (AK.PR (m:=0) (am rfl) Tryz.func62 rfl (by kernel_rfl) (am rfl) ?_);intro Z a;(repeat first|refine tA rfl ?_ |refine sP rfl (f) rfl ?_ |refine aU rfl ?_ |refine Aa ?_);refine aB ?_;(repeat first|refine tA rfl ?_ |refine s2 rfl λ_ c=>?_ |refine aU rfl ?_ |refine Aa ?_)
 ((refine aC rfl ?_ ?_<;>rintro⟨⟩);all_goals try (simp at c;done))
 ·exfalso;(simp only[oZ] at *;omega)
 ·(repeat first|refine tA rfl ?_ |refine aU rfl ?_ |refine Aa ?_)
  ((refine aC rfl ?_ ?_<;>rintro⟨⟩);all_goals try (simp at c;done))
  refine aK ?_;(repeat first|refine tA rfl ?_ |refine aU rfl ?_);(refine pW rfl ?_ rfl (by rfl);refine Cf [] rfl rfl 0 (e) (by decide) ⟨rfl,by decide,by decide⟩ rfl (by simp[cX,zC,a,A1]) ?_;rintro k g h ⟨rfl,rfl,rfl⟩ _);(repeat first| (refine Ai rfl ?_;refine gA rfl ?_;first| refine gS (λ_ _=>kg rfl) ?_));(repeat first|refine tA rfl ?_|(refine Ai rfl ?_;refine gA rfl ?_;first| refine gS (λ_ _=>AV rfl rfl (by rfl) (by rfl)) ?_));refine Aa ?_;refine aR ⟨_,rfl,[1,2,3,4,5],.t [(true,[.d (iD t.al),MG (.ptr 0 14 0 0)]),(false,[.d (bD true)])],LV t m,⟨by intro i hi;omega,by decide⟩,rfl,by (simp[cX,zC,a,A1]),rfl,rfl,rfl⟩
def C7(te:Ii):Bool:=if te.kn then AE te.p else Bv ⟨te.s,te.q,te.al⟩
def Bi(te:Ii):Int:=if te.kn then te.p.al else te.al
noncomputable def CI(te:Ii)(w:W):Bool:=if te.kn then LA te.p w else LS ⟨te.s,te.q,te.al⟩ w
def RD(te:Ii)(ok:W->Prop):Prop:=te.kn=false->gx ⟨te.s,te.q,te.al⟩ ok
abbrev gE(al:Int):W->Prop:=λw=>AU (Bo al) w/\w.length<=1048576
theorem jM{tabs:List (Nat×Obj)}[Dx ⟨tabs,none⟩]{t:CR}{ok:W->Prop}(ht:Bv t=true)(a:∀w,ok w->gE t.al w)(b:gx t ok){r:Nat}:Ja Tryz.prog ⟨tabs,some (OK t ok,r)⟩ (MG (Oi r)) (LS t) ok:=
 ⟨rfl,λe ha d=>aj (es:=[eT _]) e (by simp [Jf,ha]) rfl (bu ht b d (λc f=>Ni ((a _ d).1 c f)) (a _ d).2) rfl⟩
theorem jf{tabs:List (Nat×Obj)}{h:Option (Hid×Nat)}{b:Nat}{vals:List Value}(a:Li ⟨tabs,none⟩ b vals):Li ⟨tabs,h⟩ b vals:=⟨a.out⟩
theorem gj{tabs:List (Nat×Obj)}{h:Option (Hid×Nat)}(a:Dx ⟨tabs,none⟩):Dx ⟨tabs,h⟩:=by
 cases a
 constructor<;>(apply jf;assumption)
end Go.Am
namespace Go.Am
open Go Go.Proofs
set_option linter.unusedVariables false
def Ed(n:Nat)(p:W->Prop):Prop:=∃l:List W,l.length<=n/\∀w,p w->w∈l
theorem Ed.or{a b:Nat}{p q:W->Prop}(h:Ed a p)(f:Ed b q):Ed (a+b) (λw=>p w\/q w):=by
 obtain⟨l,i,e⟩:=h;obtain⟨l',g,d⟩:=f;exact⟨l++l',by simp;omega,λw c=>f6.2 (c.imp (e w) (d w))⟩
theorem Ed.sub{a b:Nat}{p q:W->Prop}(h:Ed a p)(d:∀w,q w->p w)(hb:a<=b):Ed b q:=by
 obtain⟨l,f,e⟩:=h;exact⟨l,by omega,λw c=>e w (d w c)⟩
theorem Ed.none{n:Nat}{p:W->Prop}(h:∀w,¬p w):Ed n p:=⟨[],by simp,λw a=>absurd a (h w)⟩
theorem N0{α β:Type}(f:α->List β)(b:Nat):∀(l:List α),(∀x∈l,(f x).length<=b)->(l.flatMap f).length<=l.length*b
 | [],_=>by simp
 | x::l,h=>by
  have d:=N0 f b l λy a=>h y (by simp [a]);have c:=h x (by simp);rw [nr,mI,l7,Nat.succ_mul];omega
theorem Ed.ex{α:Type}{n b:Nat}{p:W->Prop}{q:α->W->Prop}(l:List α)(i:l.length<=n)(g:∀x∈l,Ed b (q x))(h:∀w,p w->∃x∈l,q x w):Ed (n*b) p:=by
 classical
 have e:∀x:α,∃k:List W,x∈l->k.length<=b/\∀w,q x w->w∈k:=λx=>by
  by_cases a:x∈l
  ·obtain⟨k,m,j⟩:=g x a;exact⟨k,λ_=>⟨m,j⟩⟩
  ·exact⟨[],λh=>absurd h a⟩
 have d:=λx=>Classical.choose_spec (e x);refine⟨l.flatMap λx=>Classical.choose (e x),jp (N0 _ b l λx a=>(d x a).1) (l5 b i),λw f=>?_⟩;obtain⟨x,a,c⟩:=h w f;exact mJ.2 ⟨x,a,(d x a).2 w c⟩
theorem Ed.map{α:Type}{n:Nat}{p:W->Prop}(f:α->W)(l:List α)(c:l.length<=n)(h:∀w,p w->∃x∈l,w=f x):Ed n p:=
 ⟨l.map f,by simpa using c,λw b=>by obtain⟨x,a,rfl⟩:=h w b;exact d8.2 ⟨x,a,rfl⟩⟩
theorem cQ(al:Int):(Bo al).length<=6:=by
 unfold Bo;rw [f9];exact AN al 6
theorem Lq{al:Int}{b:Nat}{t:Bl}(h:Ie al b t):Ed 1764 (Mk (Bo al) t):=by
 have c:=h.rl;have g:=h.cl;refine Ed.ex (n:=12) (b:=147) (q:=λr v=>∃m:W,(m=[]\/∃l∈Bo al,m=[l])/\∃x:W,(x=[]\/x∈t.cols)/\v=r++m++x) t.rows c (λr _=>?_) λw a=>a;refine Ed.ex (n:=7) (b:=21) (q:=λm v=>∃x:W,(x=[]\/x∈t.cols)/\v=r++m++x) ([]::(Bo al).map λl=>[l]) (by have:=cQ al;simp;omega) (λm _=>?_) λw a=>?_
 ·exact Ed.map (λx=>r++m++x) ([]::t.cols) (by simp;omega) λw ⟨x,d,a⟩=>⟨x,by simpa using d,a⟩
 ·obtain⟨m,e,i⟩:=a
  refine⟨m,?_,i⟩
  rcases e with rfl|⟨l,f,rfl⟩
  ·simp
  ·exact lP _ (d8.2 ⟨l,f,rfl⟩)
theorem PA{L:W->Bool}{ls:List UInt8}:∀(n:Nat) (t:Bl),(El L ls n t).length<=n+1
 | 0,t=>by simp [El]
 | n + 1,t=>by
  unfold El
  cases BC L ls t with
  | none=>simp
  | some w=>
   dsimp only;split
   ·simp
   ·have:=PA (L:=L) (ls:=ls) n ⟨t.rows++[w],t.cols⟩
    simp;omega
theorem Px{L:W->Bool}{al:Int}{b:Nat}{t:Bl}(h:Ie al b t):Ed 24696 (λv=>∃y∈El L (Bo al) 13 t,Mk (Bo al) y v):=
 Ed.ex (n:=14) (b:=1764) (q:=λy v=>Mk (Bo al) y v) (El L (Bo al) 13 t) (PA 13 t) (λy a=>Lq (h.grow a)) λw c=>c
theorem Xv{al:Int}{b:Nat}{t:Bl}(h:Ie al b t){w:W}(e:w.length<=20000):Ed 260013 (Vy t w):=by
 have c:=h.rl
 refine Ed.ex (n:=13) (b:=20001) (q:=λr v=>∃k:Nat,v=r++w.drop k) ([]::t.rows) (by simp;omega) (λr _=>?_) λv ⟨r,d,a⟩=>⟨r,by simpa using d,a⟩
 refine Ed.map (λk=>r++w.drop k) (List.range 20001) (by simp) λv ⟨k,a⟩=>?_;by_cases hk:k < 20001
 ·exact⟨k,lN.2 hk,a⟩
 ·exact⟨20000,by simp,by rw [a,mH (by omega),mH (by omega)]⟩
theorem Xu{L:W->Bool}{al:Int}{t:Bl}(h:Ie al 20000 t){w:W}(f:AU (Bo al) w)(g:w.length<=20000):Ed 286473 (Vx L (Bo al) t w):=by
 refine((Lq h).or ((Xv h g).or (b:=24696) ?_)).sub (b:=286473) (λv e=>e) (by omega)
 cases i:Ew L t w with
 | none=>exact .none λv ⟨x,a,_⟩=>by cases a
 | some x=>
  cases ha:Hr t x with
  | none=>exact .none λv ⟨x',a,u,d,_⟩=>by injection a with a;subst a;rw [ha] at d;cases d
  | some u=>
   obtain⟨p,_,rfl⟩:=JN i
   exact(Px (L:=L) (Qo h (λc j=>f c (by simp [j])) (by simp at g;omega) ha)).sub (λv ⟨x',a,u',d,e⟩=>by
    injection a with a;subst a
    rw [ha] at d;injection d with d;subst d;exact e) (io _)
def okB(al:Int)(w:W):Prop:=AU (Bo al) w/\w.length<=50000
theorem ID(al:Int):Qm (okB al) al:=λw b a=>⟨b,a⟩
theorem WT{α:Type}:∀(l m:List α),l.Nodup->(∀x∈l,x∈m)->l.length<=m.length
 | [],_,_,_=>by simp
 | x :: l,m,d,f=>by
  obtain⟨a,b,rfl⟩:=List.append_of_mem (f x (by simp));rw [List.nodup_cons] at d
  have h:=WT l (a++b) d.2 λy e=>by
   have c:=f y (lP _ e);simp only [f6,lF] at c |-
   rcases c with c|rfl|c
   ·exact .inl c
   ·exact absurd e d.1
   ·exact .inr c
  simp at h |-;omega
theorem cr{t:CR}{n:Nat}{p:W->Prop}{al:Int}(h:Ed n p)(j:n<=20000000)(hb:∀w,p w->okB al w):gx t p:=by
 obtain⟨k,hk,e⟩:=h;intro l c f
 have a:l ⊆ CP t::(k.filter λw=>w.length<=50000).flatMap λw=>(List.range 50001).map λi=>Gf t (CP t) (w.take i):=λF g=>by
  rcases f F g with rfl|⟨u,v,d,rfl⟩
  ·simp
  ·have b:=(hb _ d).2
   refine lP _ (mJ.2 ⟨u++v,lJ.2 ⟨e _ d,by simpa using b⟩,d8.2 ⟨u.length,lN.2 (by simp at b;omega),by simp⟩⟩)
 have b:=WT _ _ c a;have q:=N0 (λw:W=>(List.range 50001).map λi=>Gf t (CP t) (w.take i)) 50001 (k.filter λw=>w.length<=50000) (λx _=>by simp);have o:(k.filter λw=>w.length<=50000).length<=n:=jp (nn _ _) hk;rw [l7] at b;have m:(k.filter λw=>decide (w.length<=50000)).length*50001<=20000000*50001:=l5 _ (by omega);omega
theorem iB{al:Int}{w:W}(h:okB al w):gE al w:=⟨h.1,jp h.2 (by omega)⟩
theorem dM{te:Ii}{n:Nat}{p:W->Prop}(h:Ed n p)(c:n<=20000000)(hb:∀w,p w->okB (Bi te) w):(∀w,p w->gE (Bi te) w)/\RD te p:=by
 refine⟨λw b=>iB (hb w b),?_⟩;obtain⟨kn,a,s,q,al⟩:=te
 cases kn with
 | true=>intro h;cases h
 | false=>exact λ_=>cr h c hb
end Go.Am
namespace Go.Am
open Go Go.Proofs
set_option maxHeartbeats 1000000
set_option maxRecDepth 4000
attribute [local irreducible] AW BQ Lex A9 Aj Spec
variable {TB:Bp}
theorem KR{te:Ii}(a:C7 te=true):Bm (Bi te)=true:=by
 obtain⟨kn,p,s,q,al⟩:=te
 cases kn with
 | true=>exact(Ay a).1
 | false=>
  have ht:Bv ⟨s,q,al⟩=true:=a;unfold Bv at ht;simp only [d4] at ht;exact ht.2.2
noncomputable def Jy(te:Ii)(x:Bl):Option Bl:=if (C7 te && BH (CI te) (Bi te) x)=true then BR (CI te) (Bo (Bi te)) 13 x else none
noncomputable def XQ(te:Ii):Option Bl:=if C7 te=true then BR (CI te) (Bo (Bi te)) 13 BT else none
section
variable {tabs:List (Nat×Obj)}[hTb:Dx ⟨tabs,none⟩]{te:Ii}
include hTb
end
noncomputable def Mb(te:Ii)(w:W):Bool:=if te.kn then eF te.p w else bt ⟨te.s,te.q,te.al⟩ w
def JP(te:Ii):Int:=if C7 te then Bi te else -1
theorem Ys{t:CR}(ht:Bv t=true):eu (bt t) (LS t) t.al:=λw b c=>by
 have a:Bm t.al=true:=by unfold Bv at ht;simp only [d4] at ht;exact ht.2.2
 unfold bt;rw [ht,Ga b c a];rfl
theorem bJ{te:Ii}(a:C7 te=true):eu (Mb te) (CI te) (Bi te):=by
 obtain⟨kn,p,s,q,al⟩:=te
 cases kn with
 | true=>exact YT a
 | false=>exact Ys (t:=⟨s,q,al⟩) a
end Go.Am
