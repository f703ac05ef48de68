/-
  Systems as texts and back: walked: any that are not too big will do.
-/
import Derived.Test.YtgpbfllcjdfelaaGreatDoorPart29
set_option linter.all false
namespace Go.Am
open Go Go.Proofs
set_option maxHeartbeats 1000000
set_option maxRecDepth 4000
attribute [local irreducible] AU BZ Lex Br Aj Spec
variable {TB:Bp}
abbrev iL(r:D0×Bool):E:=.t [(true,(A7 r.1)),(false,[.d (bD r.2)])]
theorem SF(a:W)(u:a.length<=1000000):Spec Tryz.prog TB 242 [] 0 [eT a] (CZ (λ_:D0×Bool=>True) iL):=by
 refine eR Tryz.func242 rfl (by kernel_rfl) rfl ?_;intro Γ b;(repeat first|refine tA rfl ?_ |refine aU rfl ?_ |refine Aa ?_);refine aB ?_;refine aL (U:={k:Nat // k<=a.length}) [0] [] rfl rfl (λs=>[(2,.o (.ptr 0 3 0 0)),(4,eI .i64 s.1)]) (λs=>[(0,.cells 158 3 [A7 ⟨0,0,0⟩])]) 1 (λs=>a.length - s.1) (⟨0,by omega⟩) b rfl (by (simp[cX,zC,b,cN])) ?_;rintro⟨k,hk⟩;(try dsimp only[cA,cB]);by_cases p:k < a.length
 ·obtain⟨c,r⟩:=get_some (l:=a) (k:=(k:Int).toNat) (by omega)
  have q:=c.toNat_lt;have j:=Jk (TB:=TB) a k c r;(repeat first|refine tA rfl ?_ |refine s2 rfl λ_ d=>?_ |refine aU rfl ?_ |refine Aa ?_)
  ((refine aC rfl ?_ ?_<;>rintro⟨⟩);all_goals try(exfalso;(simp only[oZ] at *;omega)))
  refine aK ?_;refine aS (aB ?_)
  (repeat' first|refine tA rfl ?_ |(refine s4 rfl ‹_› rfl ?_ ?_;omega) |refine s2 rfl λ_ d=>?_ |refine s3 rfl ?_ ?_<;>rintro rfl |refine aU rfl ?_ |refine Aa ?_|(refine aC rfl ?_ ?_<;>rintro⟨⟩));all_goals try contradiction
  all_goals first| (exfalso;omega;done)|skip
  ·(repeat first| (refine Ag rfl ?_;refine gA rfl ?_;first| refine gS (λ_ _=>PF rfl rfl (by omega) (by omega)) ?_))
   (refine pW rfl ?_ rfl (by rfl);refine Ae [] rfl rfl (HV (TB:=TB) (a.take (k:Int).toNat) (by simp;omega)) ⟨rfl,by decide,by decide⟩ rfl trivial ?_;rintro n g h ⟨⟨f,t⟩,_,rfl,rfl,rfl⟩ _);(repeat first|(refine sA rfl ?_ ?_;first|exact tI|omega)|(refine Ag rfl ?_;refine gA rfl ?_;first| refine gS (λ_ _=>ER rfl rfl (by omega) (by omega)) ?_) |refine aU rfl ?_ |refine Aa ?_);(refine pW rfl ?_ rfl (by rfl);refine Ae [] rfl rfl (HV (TB:=TB) (a.drop ((k:Int)+1).toNat) (by simp;omega)) ⟨rfl,by decide,by decide⟩ rfl trivial ?_;rintro n g h ⟨⟨e,m⟩,_,rfl,rfl,rfl⟩ _);(repeat' first|refine tA rfl ?_ |refine sP rfl (j) rfl ?_|(refine Ag rfl ?_;refine gA rfl ?_;first| refine gS (λ_ _=>AG rfl rfl (by rfl) (by rfl)) ?_) |refine s3 rfl ?_ ?_<;>rintro rfl |refine aU rfl ?_ |refine Aa ?_|(refine aC rfl ?_ ?_<;>rintro⟨⟩))
   all_goals first
    | exact aR ⟨_,rfl,[],iL (⟨f,(c.toNat:Int) - 97,e⟩,m),[],⟨λi hi=>absurd hi (i8 i),jp⟩,rfl,trivial,(⟨f,(c.toNat:Int) - 97,e⟩,m),trivial,rfl,rfl,rfl⟩
    | exact aR ⟨_,rfl,[],iL (⟨f,(c.toNat:Int) - 97,e⟩,false),[],⟨λi hi=>absurd hi (i8 i),jp⟩,rfl,trivial,(⟨f,(c.toNat:Int) - 97,e⟩,false),trivial,rfl,rfl,rfl⟩
  all_goals
   refine aK ?_;(repeat first|(refine sA rfl ?_ ?_;first|exact tI|omega) |refine aU rfl ?_ |refine Aa ?_);refine⟨⟨k+1,by omega⟩,by dsimp only;(omega),[0],?_⟩;(simp[cX,zC,b,cN]<;>rfl)
 ·(repeat first|refine tA rfl ?_ |refine s2 rfl λ_ d=>?_ |refine aU rfl ?_ |refine Aa ?_)
  ((refine aC rfl ?_ ?_<;>rintro⟨⟩);all_goals try(exfalso;(simp only[oZ] at *;omega)))
  refine aE ?_;(repeat first|refine tA rfl ?_|(refine Ag rfl ?_;refine gA rfl ?_;first| refine gS (λ_ _=>AG rfl rfl (by rfl) (by rfl)) ?_) |refine aU rfl ?_ |refine Aa ?_);exact aR ⟨_,rfl,[],iL (⟨0,0,0⟩,false),[],⟨λi hi=>absurd hi (i8 i),jp⟩,rfl,trivial,(⟨0,0,0⟩,false),trivial,rfl,rfl,rfl⟩
theorem Hg(y:Sys)(hb:y.es.length<=100000):Spec Tryz.prog TB 243 [] 0 [Dm y] (CZ (λr:W=>r.length<=1000000) eT):=by
 have x:=CR (TB:=TB) y;refine eR Tryz.func243 rfl (by kernel_rfl) rfl ?_;intro Γ d;(repeat first|refine tA rfl ?_ |refine s2 rfl λ_ a=>?_ |(refine sC rfl (x) ?_;intro _ a) |refine aU rfl ?_ |refine Aa ?_);(refine aC rfl ?_ ?_<;>rintro⟨⟩)
 ·(repeat first|refine tA rfl ?_ |refine aU rfl ?_ |refine Aa ?_)
  exact aR ⟨_,rfl,[],eT [],[],⟨λi hi=>absurd hi (i8 i),jp⟩,rfl,trivial,[],k9 _,rfl,rfl,rfl⟩
 have h:BD y=true:=by (simp at a;subst a;assumption)
 have J:=Ch h;refine aK ?_;(repeat first|refine aU rfl ?_);refine rG ⟨Fe [(2,1),(6,1)],Xm [0,1,4,5,2,3,6,7,8]⟩ (by kernel_rfl) ?_;(repeat first|refine tA rfl ?_);(refine pW rfl ?_ rfl (by rfl);refine Ae [] rfl rfl (DG (TB:=TB) y.al) ⟨rfl,by decide,by decide⟩ rfl trivial ?_;rintro j b c ⟨q,v,rfl,rfl,rfl⟩ _);(repeat first|(refine sA rfl ?_ ?_;simp only[oZ] at *;omega));(refine pW rfl ?_ rfl (by rfl);refine Ae [] rfl rfl (Gx (TB:=TB) y.st (by omega)) ⟨rfl,by decide,by decide⟩ rfl trivial ?_;rintro j b c ⟨p,u,rfl,rfl,rfl⟩ _);(repeat first|(refine sA rfl ?_ ?_;first|exact tI|simp only[oZ] at *;omega) |refine aU rfl ?_ |refine Aa ?_);refine aB ?_;refine aL (U:={z:Nat×W // z.1<=y.es.length/\z.2.length<=10+9*z.1}) [1] [] rfl rfl (λs=>[(3,eT s.1.2),(4,eI .i64 s.1.1)]) (λs=>[]) 0 (λs=>y.es.length - s.1.1) (⟨⟨0,q++[32]++p⟩,by simp;omega⟩) d rfl (by (simp[cX,zC,d])) ?_;rintro⟨⟨k,w⟩,hk,hw⟩;(try dsimp only[cA,cB]);have hk:k<=y.es.length:=hk;have hw:w.length<=10+9*k:=hw;by_cases m:k < y.es.length
 ·obtain⟨e,o⟩:=get_some m
  have n:=get_map (g:=Dr) o
  have B:(y.es.map Dr)[((k:Nat):Int).toNat]? = some (Dr e):=by rw [f6];exact n
  have hb:=CS h (co o);unfold C8 at hb;simp only [d5,decide_eq_true_eq] at hb;(repeat first|refine sN rfl ?_ |refine tA rfl ?_ |refine s2 rfl λ_ a=>?_ |refine aU rfl ?_ |refine Aa ?_)
  ((refine aC rfl ?_ ?_<;>rintro⟨⟩);all_goals try(exfalso;(simp only[oZ] at *;omega)))
  refine aK ?_;refine aS (aB ?_);(repeat first|refine tA rfl ?_ |(refine s4 rfl ‹_› rfl ?_ ?_;omega) |refine aU rfl ?_ |refine Aa ?_);refine rG ⟨Fe [(3,10),(7,10),(11,10),(4,1001),(12,1001)],Xm [0,1,2,3,6,7,10,11,4,5,8,9,12,13,14]⟩ (by kernel_rfl) ?_;(repeat first|(refine sA rfl ?_ ?_;first|exact tI|simp only[oZ] at *;omega));(refine Ag rfl ?_;refine BE ?_ rfl ⟨rfl,rfl⟩;refine Ae [] rfl rfl (Gx (TB:=TB) e.f (by omega)) ⟨rfl,by decide,by decide⟩ rfl trivial ?_;rintro j b c ⟨I,G,rfl,rfl,rfl⟩ _;refine⟨Cy 0 rfl rfl,?_⟩);(repeat first|(refine sA rfl ?_ ?_;simp only[oZ] at *;omega) |refine sP rfl (Gy e.l (by omega) (by omega)) rfl ?_);(refine Ag rfl ?_;refine BE ?_ rfl ⟨rfl,rfl⟩;refine Ae [] rfl rfl (Gx (TB:=TB) e.t (by omega)) ⟨rfl,by decide,by decide⟩ rfl trivial ?_;rintro j b c ⟨H,F,rfl,rfl,rfl⟩ _;refine⟨Cy 0 rfl rfl,?_⟩);(repeat first|(refine sA rfl ?_ ?_;first|exact tI|omega|simp only[oZ] at *;omega) |refine aU rfl ?_ |refine Aa ?_);refine⟨⟨⟨k+1,w++[32]++I++[UInt8.ofNat (97+e.l.toNat)]++H⟩,by dsimp only;omega,by simp;omega⟩,by dsimp only;(omega),[],?_⟩;(simp[cX,zC,d,cN]<;>rfl)
 ·have A:k=y.es.length:=by omega
  (repeat first|refine sN rfl ?_ |refine tA rfl ?_ |refine s2 rfl λ_ a=>?_ |refine aU rfl ?_ |refine Aa ?_)
  ((refine aC rfl ?_ ?_<;>rintro⟨⟩);all_goals try(exfalso;(simp only[oZ] at *;omega)))
  refine aE ?_;(repeat first|refine tA rfl ?_ |refine aU rfl ?_ |refine Aa ?_);exact aR ⟨_,rfl,[],eT w,[],⟨λi hi=>absurd hi (i8 i),jp⟩,rfl,trivial,w,by show w.length<=_;omega,rfl,rfl,rfl⟩
abbrev cC(r:Sys×Bool):E:=.t [(true,[.d (iD r.1.al),.d (iD r.1.st),.d (Gb r.1.es)]),(false,[.d (bD r.2)])]
def Jf(al n:Int):List D0->Ab
 | []=>[(1,.cells 25 3 [[.d (iD al),.d (iD n),.d (.v (.slice none 0 0))]])]
 | e::l=>[(1,.cells 25 3 [[.d (iD al),.d (iD n),.arr 2 3 0 (l.length+1)]]),(2,.cells 158 3 ((e::l).map A7))]
theorem Hn(f:W)(Y:f.length<=10000):Spec Tryz.prog TB 183 [] 0 [eT f] (CZ (λr:Sys×Bool=>r.1.es.length<=f.length+1) cC):=by
  refine eR Tryz.func183 rfl (by kernel_rfl) rfl ?_;intro Γ e;(repeat first|refine tA rfl ?_ |refine aU rfl ?_ |refine Aa ?_);(refine pW rfl ?_ rfl (by rfl);refine Ae [] rfl rfl (Kj (TB:=TB) f (by omega) 32) ⟨rfl,by decide,by decide⟩ rfl trivial ?_;rintro m b c ⟨ps,⟨Q,P,q⟩,rfl,rfl,rfl⟩ _);(repeat first|refine sN rfl ?_ |refine tA rfl ?_ |refine s2 rfl λ_ a=>?_ |refine aU rfl ?_ |refine Aa ?_);by_cases R:ps.length < 2
  · ((refine aC rfl ?_ ?_<;>rintro⟨⟩);all_goals try(exfalso;(simp only[oZ] at *;omega)))
    (repeat first|refine tA rfl ?_|(refine Ag rfl ?_;refine gA rfl ?_;first| refine gS (λ_ _=>AG rfl rfl (by rfl) (by rfl)) ?_) |refine aU rfl ?_ |refine Aa ?_);exact aR ⟨_,rfl,[],cC (⟨0,0,[]⟩,false),[],⟨λi hi=>absurd hi (i8 i),jp⟩,rfl,trivial,(⟨0,0,[]⟩,false),k9 _,rfl,rfl,rfl⟩
  ((refine aC rfl ?_ ?_<;>rintro⟨⟩);all_goals try(exfalso;(simp only[oZ] at *;omega)))
  refine aK ?_;obtain⟨J,X⟩:=get_some (l:=ps) (k:=(0:Int).toNat) (by simp;omega);have V:=get_map (g:=BU) X;obtain⟨y,B⟩:=get_some (l:=ps) (k:=(1:Int).toNat) (by simp;omega);have T:=get_map (g:=BU) B;have A:=q y (co B);(repeat first|refine tA rfl ?_ |(refine s4 rfl ‹_› rfl ?_ ?_;omega) |refine aU rfl ?_);(refine pW rfl ?_ rfl (by rfl);refine Ae [] rfl rfl (Gi (TB:=TB) J) ⟨rfl,by decide,by decide⟩ rfl trivial ?_;rintro m b c ⟨⟨n,ok⟩,_,rfl,rfl,rfl⟩ _);(repeat first|refine tA rfl ?_ |(refine s4 rfl ‹_› rfl ?_ ?_;omega) |refine aU rfl ?_ |refine Aa ?_);(refine pW rfl ?_ rfl (by rfl);refine Ae [] rfl rfl (HV (TB:=TB) y (by omega)) ⟨rfl,by decide,by decide⟩ rfl trivial ?_;rintro m b c ⟨⟨st,L⟩,_,rfl,rfl,rfl⟩ _);(repeat first|refine tA rfl ?_ |refine s2 rfl λ_ a=>?_ |refine s3 rfl ?_ ?_<;>rintro rfl |refine aU rfl ?_ |refine Aa ?_)
  (repeat' first|refine tA rfl ?_ |refine s2 rfl λ_ a=>?_ |refine aU rfl ?_ |refine Aa ?_|(refine aC rfl ?_ ?_<;>rintro⟨⟩));all_goals try contradiction
  all_goals first
    | ((repeat first|refine tA rfl ?_|(refine Ag rfl ?_;refine gA rfl ?_;first| refine gS (λ_ _=>AG rfl rfl (by rfl) (by rfl)) ?_) |refine Aa ?_)
       exact aR ⟨_,rfl,[],cC (⟨0,0,[]⟩,false),[],⟨λi hi=>absurd hi (i8 i),jp⟩,rfl,trivial,(⟨0,0,[]⟩,false),k9 _,rfl,rfl,rfl⟩
       done)
    | skip
  refine aK ?_;(repeat first|refine tA rfl ?_|(refine Ag rfl ?_;refine gA rfl ?_;first| refine gS (λ_ _=>MY rfl rfl (by rfl) (by rfl)) ?_) |refine aU rfl ?_ |refine Aa ?_);refine aB ?_;refine aL (U:={z:Nat×List D0 // (2<=z.1/\z.1<=ps.length)/\z.2.length+2=z.1}) [0,4] [] rfl rfl (λs=>[(2,.o (.ptr 0 3 0 0)),(9,.o (.ptr 1 3 0 0)),(10,eI .i64 s.1.1)]) (λs=>((0,.cells 25 3 [[.d (iD 0),.d (iD 0),.d (.l [])]])::Jf n st s.1.2)) 3 (λs=>ps.length - s.1.1) (⟨⟨2,[]⟩,by simp;omega⟩) e rfl (by (simp[cX,zC,e,Jf,cN])) ?_;rintro⟨⟨k,l⟩,hk,u⟩;(try dsimp only[cA,cB]);have hk:2<=k/\k<=ps.length:=hk;have u:l.length+2=k:=u;(repeat first|refine sN rfl ?_ |refine tA rfl ?_ |refine s2 rfl λ_ a=>?_ |refine aU rfl ?_ |refine Aa ?_)
  ((refine aC rfl ?_ ?_<;>rintro⟨⟩);all_goals try (simp at a;done))
  · have x:k < ps.length:=by (simp only[oZ] at *;omega)
    obtain⟨w,hw⟩:=get_some (l:=ps) (k:=k) x;have N:=get_map (g:=BU) hw;have M:=q w (co hw);refine aK ?_;refine aS (aB ?_);(repeat first|refine tA rfl ?_ |(refine s4 rfl ‹_› rfl ?_ ?_;omega) |refine aU rfl ?_);(refine pW rfl ?_ rfl (by rfl);refine Ae [] rfl rfl (SF (TB:=TB) w (by omega)) ⟨rfl,by decide,by decide⟩ rfl trivial ?_;rintro m b c ⟨⟨⟨H,G,F⟩,K⟩,_,rfl,rfl,rfl⟩ _);(repeat first|refine tA rfl ?_ |refine s2 rfl λ_ a=>?_ |refine aU rfl ?_ |refine Aa ?_);(refine aC rfl ?_ ?_<;>rintro⟨⟩)
    · (repeat first|refine tA rfl ?_|(refine Ag rfl ?_;refine gA rfl ?_;first| refine gS (λ_ _=>AG rfl rfl (by rfl) (by rfl)) ?_) |refine aU rfl ?_ |refine Aa ?_)
      exact aR ⟨_,rfl,[],cC (⟨0,0,[]⟩,false),[],⟨λi hi=>absurd hi (i8 i),jp⟩,rfl,trivial,(⟨0,0,[]⟩,false),k9 _,rfl,rfl,rfl⟩
    refine aK ?_
    cases l with
    | nil=>
      (repeat first|refine tA rfl ?_ |refine aU rfl ?_);(refine pW rfl ?_ rfl (by rfl);refine QW 61 rfl ?_;refine Df rfl rfl rfl (by intro r p;simp at p;subst p;rfl) (by rfl) (ce rfl) (by simp) (λh=>?_) (λ_=>?_))
      · exact absurd h (by simp)
      (repeat first|(refine sA rfl ?_ ?_;first|exact tI|omega) |refine aU rfl ?_ |refine Aa ?_);refine⟨⟨⟨k+1,[⟨H,G,F⟩]⟩,⟨by dsimp only;omega,by dsimp only;omega⟩,by simp at u;simp;omega⟩,by dsimp only;(omega),[0,1,4],?_⟩;(simp[cX,zC,e,cN,Jf,Af,eC]<;>rfl)
    | cons j l=>
      (repeat first|refine tA rfl ?_ |refine aU rfl ?_);(refine pW rfl ?_ rfl (by rfl);refine Aw rfl rfl rfl (by first| (simp;done)|(simp;(omega))) rfl (by intro r p;simp at p;subst p;rfl) (by rfl) (ce rfl) (by simp at u |-;omega) ?_);(repeat first|(refine sA rfl ?_ ?_;first|exact tI|omega) |refine aU rfl ?_ |refine Aa ?_);refine⟨⟨⟨k+1,j::(l++[⟨H,G,F⟩])⟩,⟨by dsimp only;omega,by dsimp only;omega⟩,by simp at u |-;omega⟩,by dsimp only;(omega),[0,1,4],?_⟩;(simp[cX,zC,e,cN,Jf,Af,eC]<;>rfl)
  refine aE ?_
  have S:k=ps.length:=by (simp only[oZ] at *;omega)
  have t:l.length<=f.length+1:=by omega
  cases l with
  | nil=>
    refine Aj.AH [1] [(0,eT f),(2,.o (.ptr 0 3 0 0)),(9,.o (.ip (Cz ⟨n,st,[]⟩)))] ⟨⟨_,rfl,.inl rfl⟩,⟨_,rfl,.inl rfl⟩,⟨_,rfl,.inr (.o (.box rfl (.cons .d (.cons .d (.cons .nl .nil)))))⟩,trivial⟩ ?_;(repeat first|refine tA rfl ?_ |refine aU rfl ?_);(refine pW rfl ?_ rfl (by rfl);refine Ae [] rfl rfl (Hg (TB:=TB) ⟨n,st,[]⟩ (by simp)) ⟨rfl,by decide,by decide⟩ rfl trivial ?_;rintro m b c ⟨I,v,rfl,rfl,rfl⟩ _);(repeat first|refine tA rfl ?_ |refine s2 rfl λ_ a=>?_ |refine Aa ?_);(refine aC rfl ?_ ?_<;>rintro⟨⟩)
    · (repeat first|refine tA rfl ?_|(refine Ag rfl ?_;refine gA rfl ?_;first| refine gS (λ_ _=>AG rfl rfl (by rfl) (by rfl)) ?_) |refine aU rfl ?_ |refine Aa ?_)
      exact aR ⟨_,rfl,[],cC (⟨0,0,[]⟩,false),[],⟨λi hi=>absurd hi (i8 i),jp⟩,rfl,trivial,(⟨0,0,[]⟩,false),k9 _,rfl,rfl,rfl⟩
    refine aK ?_;(repeat first|refine tA rfl ?_ |refine aU rfl ?_ |refine Aa ?_);exact aR ⟨_,rfl,[],cC (⟨n,st,[]⟩,true),[],⟨λi hi=>absurd hi (i8 i),jp⟩,rfl,trivial,(⟨n,st,[]⟩,true),k9 _,rfl,rfl,rfl⟩
  | cons j l=>
    refine Aj.AH [1,2] [(0,eT f),(2,.o (.ptr 0 3 0 0)),(9,.o (.ip (Cz ⟨n,st,j::l⟩)))] ⟨⟨_,rfl,.inl rfl⟩,⟨_,rfl,.inl rfl⟩,⟨_,rfl,.inr (.o (.box rfl (.cons .d (.cons .d (.cons (.full rfl (by simp [d4]) (by simp)) .nil)))))⟩,trivial⟩ ?_;(repeat first|refine tA rfl ?_ |refine aU rfl ?_);(refine pW rfl ?_ rfl (by rfl);refine Ae [] rfl rfl (Hg (TB:=TB) ⟨n,st,j::l⟩ (by simp at t |-;omega)) ⟨rfl,by decide,by decide⟩ rfl trivial ?_;rintro m b c ⟨I,v,rfl,rfl,rfl⟩ _);(repeat first|refine tA rfl ?_ |refine s2 rfl λ_ a=>?_ |refine Aa ?_);(refine aC rfl ?_ ?_<;>rintro⟨⟩)
    · (repeat first|refine tA rfl ?_|(refine Ag rfl ?_;refine gA rfl ?_;first| refine gS (λ_ _=>AG rfl rfl (by rfl) (by rfl)) ?_) |refine aU rfl ?_ |refine Aa ?_)
      exact aR ⟨_,rfl,[],cC (⟨0,0,[]⟩,false),[],⟨λi hi=>absurd hi (i8 i),jp⟩,rfl,trivial,(⟨0,0,[]⟩,false),k9 _,rfl,rfl,rfl⟩
    refine aK ?_;(repeat first|refine tA rfl ?_ |refine aU rfl ?_ |refine Aa ?_);exact aR ⟨_,rfl,[],cC (⟨n,st,j::l⟩,true),[],⟨λi hi=>absurd hi (i8 i),jp⟩,rfl,trivial,(⟨n,st,j::l⟩,true),t,rfl,rfl,rfl⟩
def NY(al:Int)(w:W):Bool:=within w al && decide (w.length<=4000)
theorem SB{t:FB}{al:Int}{A:W->Bool}(e:I0 Tryz.prog TB 67 154 t al A)(w:W)(c:w.length<=1099511627776):Pure Tryz.prog TB 270 [C7 t,eT w] (eB (NY al w)):=by
 have g:=e.alph;have f:=Dw (TB:=TB) w al c
 have d:NY al w=(within w al && decide ((w.length:Int)<=4000)):=by unfold NY;congr 1;rw [decide_eq_decide];omega
 rw [d];refine eN Tryz.func270 rfl (by kernel_rfl) rfl ?_;intro Γ b;(repeat' first|refine tA rfl ?_ |refine s2 rfl λ_ a=>?_ |refine sP rfl (g) rfl ?_|(refine sC rfl (f) ?_;intro _ a) |refine s3 rfl ?_ ?_<;>rintro rfl |refine aU rfl ?_ |refine Aa ?_|(refine aC rfl ?_ ?_<;>rintro⟨⟩)|refine aK ?_|refine aE ?_|refine aB ?_|refine aR ⟨_,rfl,?_⟩)
 all_goals (show E.o _=E.o _;congr;grind)
def A1(A:W->Bool)(al:Int)(t:A9):Bool:=Eo al t && decide (AJ A t).Nodup
theorem Ut{l:List W}{k:Nat}{x:W}(c:l[k]? = some x)(h:(l.take k).Nodup)(d:x∉l.take k):(l.take (k+1)).Nodup:=by
 rw [io,c,lQ];refine⟨h,by simp,λa ha b hb e=>?_⟩;simp at hb;subst hb;exact d (e ▸ ha)
theorem dO{l:List W}{k:Nat}{x:W}(a:l[k]? = some x)(b:x∈l.take k):¬l.Nodup:=by
 intro h;obtain⟨c,rfl⟩:=am.1 a;rw [<-lv k l,lQ] at h;exact h.2.2 _ b _ (by rw [mr c];exact ml) rfl
theorem Et{t:FB}{al:Int}{A:W->Bool}(q:I0 Tryz.prog TB 67 154 t al A)(tab:A9)(c:TS tab):Pure Tryz.prog TB 25 [C7 t,CW tab] (eB (A1 A al tab)):=by
 have s:=q.alph;have r:=QK (TB:=TB) al tab c;have z:=IM q tab.cols tab.rows c.cl (λw hw=>by have:=c.rb w hw;omega) c.cb c.rl;by_cases p:Eo al tab=true
 ·have h:A1 A al tab=decide (AJ A tab).Nodup:=by unfold A1;rw [p];rfl
  rw [h];have n:Pure Tryz.prog TB 69 [C7 t,Bx tab.cols,Bx tab.rows] (Bx (AJ A tab)):=z
  have y:(AJ A tab).length=tab.rows.length:=by simp [AJ]
  have v:=c.rl;generalize AJ A tab=l at *;refine eN Tryz.func25 rfl (by kernel_rfl) rfl ?_;intro Γ b;(repeat' first|refine tA rfl ?_ |refine s2 rfl λ_ a=>?_ |refine sP rfl (s) rfl ?_|(refine sC rfl (r) ?_;intro _ a)|refine sP rfl (n) rfl ?_ |refine aU rfl ?_ |refine Aa ?_ |refine rE (by kernel_rfl) ?_|(refine aC rfl ?_ ?_<;>rintro⟨⟩)|refine aK ?_|refine aE ?_|refine aB ?_|refine aR ⟨_,rfl,?_⟩)
  all_goals first
   | (exfalso;grind;done)
   | skip
  refine aL (U:={k:Nat // k<=l.length/\(l.take k).Nodup}) [5] [] rfl rfl (λ⟨k,hk,e⟩=>[(6,eI .i64 k)]) (λ⟨k,hk,e⟩=>[]) 0 (λ⟨k,hk,e⟩=>l.length - k) (⟨0,by omega,by simp⟩) b rfl (by (simp[cX,zC,b])) ?_;rintro⟨k,hk,e⟩;(try dsimp only[cA,cB]);by_cases j:k < l.length
  ·obtain⟨x,f⟩:=get_some j
   have u:=get_map (g:=BU) f
   have m:Pure Tryz.prog TB 78 [.o (.d (.l ((l.map BU).take ((k:Nat):Int).toNat))),eT x] (eB (decide (x∈l.take k))):=by
    rw [f6,<-m9];exact Hz _ _ (by simp;omega)
   (repeat first|refine sN rfl ?_ |refine tA rfl ?_ |refine s2 rfl λ_ a=>?_ |refine aU rfl ?_ |refine Aa ?_);(refine aC rfl ?_ ?_<;>rintro⟨⟩)
   ·(repeat' first|(refine sA rfl ?_ ?_;first|exact tI|omega) |(refine s4 rfl ‹_› rfl ?_ ?_;omega) |(refine sC rfl (m) ?_;intro _ a)|(refine Ag rfl ?_;refine gA rfl ?_;first| refine gS (λ_ _=>Ie rfl rfl (by simp) (by omega) (by (simp only[oZ] at *;omega))) ?_) |refine aU rfl ?_ |refine Aa ?_ |refine rE (by kernel_rfl) ?_|(refine aC rfl ?_ ?_<;>rintro⟨⟩)|refine aK ?_|refine aE ?_|refine aB ?_|refine aR ⟨_,rfl,?_⟩)
    ·show eB false=eB _
     rw [decide_eq_false (dO f (by simpa using a))]
    ·have i:=Ut f e (by simpa using a)
     refine⟨⟨k+1,by omega,i⟩,by dsimp only;(omega),[],?_⟩;simp[cX,zC,b]
   ·exfalso;(simp only[oZ] at *;omega)
  ·rw [kD (by omega)] at e
   (repeat first|refine sN rfl ?_ |refine tA rfl ?_ |refine s2 rfl λ_ a=>?_ |refine aU rfl ?_ |refine Aa ?_);(refine aC rfl ?_ ?_<;>rintro⟨⟩)
   ·exfalso;(simp only[oZ] at *;omega)
   ·(repeat' first|refine tA rfl ?_ |refine aU rfl ?_ |refine Aa ?_|(refine aC rfl ?_ ?_<;>rintro⟨⟩)|refine aK ?_|refine aE ?_|refine aB ?_|refine aR ⟨_,rfl,?_⟩)
    rw [decide_eq_true e]
 ·have h:A1 A al tab=false:=by unfold A1;simp [p]
  rw [h];refine eN Tryz.func25 rfl (by kernel_rfl) rfl ?_;intro Γ b;(repeat' first|refine tA rfl ?_ |refine s2 rfl λ_ a=>?_ |refine sP rfl (s) rfl ?_|(refine sC rfl (r) ?_;intro _ a) |refine aU rfl ?_ |refine Aa ?_ |refine rE (by kernel_rfl) ?_|(refine aC rfl ?_ ?_<;>rintro⟨⟩)|refine aK ?_|refine aE ?_|refine aB ?_|refine aR ⟨_,rfl,?_⟩)
  all_goals first
   | rfl
   | (exfalso;grind;done)
theorem IL{t:FB}{al:Int}{A:W->Bool}(F:I0 Tryz.prog TB 67 154 t al A)(tab:A9)(f:TS tab):Pure Tryz.prog TB 104 [C7 t,CW tab] (XE (Bb A (A2 al) tab)):=by
 have N:=F.alph;have M:=Cp (TB:=TB) al;have L:Pure Tryz.prog TB 69 [C7 t,Bx tab.cols,Bx tab.rows] (Bx (AJ A tab)):=IM F tab.cols tab.rows f.cl (λw hw=>by have:=f.rb w hw;omega) f.cb f.rl;have H:=f.rl;have J:(Ac al).length<=6:=AK al 6;refine eN Tryz.func104 rfl (by kernel_rfl) rfl ?_;intro Γ a;(repeat' first|refine tA rfl ?_ |refine sP rfl (N) rfl ?_|refine sP rfl (M) rfl ?_|refine sP rfl (L) rfl ?_ |refine aU rfl ?_ |refine Aa ?_|(refine aC rfl ?_ ?_<;>rintro⟨⟩)|refine aK ?_|refine aE ?_|refine aB ?_|refine aR ⟨_,rfl,?_⟩);refine aL (U:={k:Nat // k<=tab.rows.length/\∀w∈Ck (A2 al) (tab.rows.take k),marks A tab.cols w∈AJ A tab}) [2,3,6,7] [] rfl rfl (λ⟨k,hk,b⟩=>[(8,eI .i64 k)]) (λ⟨k,hk,b⟩=>[]) 0 (λ⟨k,hk,b⟩=>tab.rows.length - k) (⟨0,by omega,by simp [Ck]⟩) a rfl (by (simp[cX,zC,a])) ?_;rintro⟨k,hk,b⟩;(try dsimp only[cA,cB]);by_cases u:k < tab.rows.length
 ·obtain⟨r, d⟩:=get_some u
  have G:=get_map (g:=BU) d;have I:=f.rb r (co d);(repeat first|refine sN rfl ?_ |refine tA rfl ?_ |refine s2 rfl λ_ e=>?_ |refine aU rfl ?_ |refine Aa ?_);(refine aC rfl ?_ ?_<;>rintro⟨⟩)
  ·refine aK ?_
   refine aS (aB ?_);(repeat first|refine tA rfl ?_ |refine aU rfl ?_ |refine Aa ?_);refine aB ?_;refine aL (U:={j:Nat // j<=(Ac al).length/\∀x∈(A2 al).take j,marks A tab.cols (r++[x])∈AJ A tab}) [2,3,6,7,8] [] rfl rfl (λ⟨j,z,c⟩=>[(9,eI .i64 j)]) (λ⟨j,z,c⟩=>[]) 0 (λ⟨j,z,c⟩=>(Ac al).length - j) (⟨0,by omega,by simp⟩) a rfl (by (simp[cX,zC,a])) ?_;rintro⟨j,z,c⟩;(try dsimp only[cA,cB]);by_cases o:j < (Ac al).length
   ·obtain⟨l,y⟩:=get_some o
    have K:=get_map (g:=CN) y;have v:=Au (co y)
    have m:(A2 al)[j]? = some (lb l):=by simp [A2,y]
    have s:Pure Tryz.prog TB 72 [eI .i64 l] (eT [lb l]):=Gy l v.1 (by omega);have i:=Ki F tab.cols (r++[lb l]) f.cl (by simp;omega) f.cb;have B:=Hz (TB:=TB) (AJ A tab) (marks A tab.cols (r++[lb l])) (by simp [AJ];omega);(repeat first|refine sN rfl ?_ |refine tA rfl ?_ |refine s2 rfl λ_ e=>?_ |refine aU rfl ?_ |refine Aa ?_);(refine aC rfl ?_ ?_<;>rintro⟨⟩)
    ·(repeat' first|(refine sA rfl ?_ ?_;first|exact tI|omega|simp only[oZ] at *;omega) |(refine s4 rfl ‹_› rfl ?_ ?_;omega) |refine s2 rfl λ_ e=>?_ |refine sP rfl (s) rfl ?_|refine sP rfl (i) rfl ?_|(refine sC rfl (B) ?_;intro _ e) |refine aU rfl ?_ |refine Aa ?_ |refine rE (by kernel_rfl) ?_|(refine aC rfl ?_ ?_<;>rintro⟨⟩)|refine aK ?_|refine aE ?_|refine aB ?_|refine aR ⟨_,rfl,?_⟩)
     ·have hno:marks A tab.cols (r++[lb l])∉AJ A tab:=by grind
      rw [Uy d m b c hno];rfl
     ·have h:marks A tab.cols (r++[lb l])∈AJ A tab:=by grind
      have p:∀x∈(A2 al).take (j+1),marks A tab.cols (r++[x])∈AJ A tab:=λx d=>by
       rw [io,m] at d
       rcases em.1 d with d|d
       ·exact c x d
       ·simp at d;subst d;exact h
      refine⟨⟨j+1,by omega,p⟩,by dsimp only;(omega),[],?_⟩;simp[cX,zC,a]
    ·exfalso;(simp only[oZ] at *;omega)
   ·have n:∀w∈Ck (A2 al) (tab.rows.take (k+1)),marks A tab.cols w∈AJ A tab:=λw hw=>by
     rw [MM d] at hw
     rcases em.1 hw with hw|hw
     ·exact b w hw
     ·obtain⟨x,q,rfl⟩:=d8.1 hw
      exact c x (by rw [kD (by simp [A2];omega)];exact q)
    (repeat first|refine sN rfl ?_ |refine tA rfl ?_ |refine s2 rfl λ_ e=>?_ |refine aU rfl ?_ |refine Aa ?_);(refine aC rfl ?_ ?_<;>rintro⟨⟩)
    ·exfalso;(simp only[oZ] at *;omega)
    ·(repeat' first|(refine sA rfl ?_ ?_;first|exact tI|omega) |refine aU rfl ?_ |refine Aa ?_|(refine aC rfl ?_ ?_<;>rintro⟨⟩)|refine aK ?_|refine aE ?_|refine aB ?_|refine aR ⟨_,rfl,?_⟩)
     refine⟨⟨k+1,by omega,n⟩,by dsimp only;(omega),[],?_⟩;simp[cX,zC,a]
  ·exfalso;(simp only[oZ] at *;omega)
 ·have hno:Bb A (A2 al) tab=none:=mh.2 λw hw=>by
   have:=b w (by rw [kD (by omega)];exact hw)
   simpa using this
  rw [hno];(repeat first|refine sN rfl ?_ |refine tA rfl ?_ |refine s2 rfl λ_ e=>?_ |refine aU rfl ?_ |refine Aa ?_);(refine aC rfl ?_ ?_<;>rintro⟨⟩)
  ·exfalso;(simp only[oZ] at *;omega)
  ·(repeat' first|refine tA rfl ?_ |refine aU rfl ?_ |refine Aa ?_|(refine aC rfl ?_ ?_<;>rintro⟨⟩)|refine aK ?_|refine aE ?_|refine aB ?_|refine aR ⟨_,rfl,?_⟩)
   rfl
theorem Ir{t:FB}{al:Int}{A:W->Bool}(e:I0 Tryz.prog TB 67 154 t al A)(tab:A9)(c:TS tab):Pure Tryz.prog TB 152 [C7 t,CW tab] (XE (if A1 A al tab then Bb A (A2 al) tab else none)):=by
 have g:=Et e tab c;have f:=IL e tab c;by_cases d:A1 A al tab=true
 ·rw [if_pos d]
  cases h:Bb A (A2 al) tab<;>rw [h] at f<;>(
   refine eN Tryz.func152 rfl (by kernel_rfl) rfl ?_;intro Γ b;(repeat' first|refine tA rfl ?_ |refine s2 rfl λ_ a=>?_ |(refine sC rfl (g) ?_;intro _ a)|refine sP rfl (f) rfl ?_ |refine aU rfl ?_ |refine Aa ?_|(refine aC rfl ?_ ?_<;>rintro⟨⟩)|refine aK ?_|refine aE ?_|refine aB ?_|refine aR ⟨_,rfl,?_⟩)
   all_goals first
    | rfl
    | (exfalso;grind;done))
 ·rw [if_neg d]
  refine eN Tryz.func152 rfl (by kernel_rfl) rfl ?_;intro Γ b;(repeat' first|refine tA rfl ?_ |refine s2 rfl λ_ a=>?_ |(refine sC rfl (g) ?_;intro _ a) |refine aU rfl ?_ |refine Aa ?_|(refine aC rfl ?_ ?_<;>rintro⟨⟩)|refine aK ?_|refine aE ?_|refine aB ?_|refine aR ⟨_,rfl,?_⟩)
  all_goals first
   | rfl
   | (exfalso;grind;done)
def Dx(A:W->Bool)(al:Int)(t:A9):Bool:=A1 A al t && (Bb A (A2 al) t).isNone
theorem Nw{t:FB}{al:Int}{A:W->Bool}(g:I0 Tryz.prog TB 67 154 t al A)(tab:A9)(f:TS tab):Pure Tryz.prog TB 66 [C7 t,CW tab] (eB (Dx A al tab)):=by
 have h:=Et g tab f;have b:=Ir g tab f;by_cases c:A1 A al tab=true
 ·rw [if_pos c] at b
  have e:Dx A al tab=(Bb A (A2 al) tab).isNone:=by unfold Dx;rw [c];rfl
  rw [e]
  cases i:Bb A (A2 al) tab<;>rw [i] at b<;>(
   refine eN Tryz.func66 rfl (by kernel_rfl) rfl ?_;intro Γ d;(repeat' first|refine tA rfl ?_ |refine s2 rfl λ_ a=>?_ |(refine sC rfl (h) ?_;intro _ a)|refine sP rfl (b) rfl ?_ |refine s3 rfl ?_ ?_<;>rintro rfl |refine aU rfl ?_ |refine Aa ?_|(refine aC rfl ?_ ?_<;>rintro⟨⟩)|refine aK ?_|refine aE ?_|refine aB ?_|refine aR ⟨_,rfl,?_⟩)
   all_goals first
    | rfl
    | (exfalso;grind;done)
    | (show E.o _=E.o _;congr;first| grind|(simp at *;assumption)))
 ·rw [if_neg c] at b
  have e:Dx A al tab=false:=by unfold Dx;simp [c]
  rw [e];refine eN Tryz.func66 rfl (by kernel_rfl) rfl ?_;intro Γ d;(repeat' first|refine tA rfl ?_ |refine s2 rfl λ_ a=>?_ |(refine sC rfl (h) ?_;intro _ a)|refine sP rfl (b) rfl ?_ |refine s3 rfl ?_ ?_<;>rintro rfl |refine aU rfl ?_ |refine Aa ?_|(refine aC rfl ?_ ?_<;>rintro⟨⟩)|refine aK ?_|refine aE ?_|refine aB ?_|refine aR ⟨_,rfl,?_⟩)
  all_goals first
   | rfl
   | (exfalso;grind;done)
theorem dB{l:List W}{s:W}{k:Nat}(a:l[k]? = some s)(b:s∉l.take k):l.idxOf s=k:=by
 have c:k < l.length:=(am.1 a).1
 have e:l=l.take k++s::l.drop (k+1):=by rw [<-CX a,lv]
 rw [e,me,if_neg b,nR];simp;omega
theorem QJ(l:List W)(s:W)(m:s∈l)(o:l.length<=1099511627776):Pure Tryz.prog TB 70 [Bx l,eT s] (eI .i64 (l.idxOf s:Nat)):=by
 refine eN Tryz.func70 rfl (by kernel_rfl) rfl ?_;intro Γ a;(repeat first|refine tA rfl ?_ |refine aU rfl ?_ |refine Aa ?_);refine aB ?_;refine aL (U:={k:Nat // k<=l.length/\s∉l.take k}) [0,1] [] rfl rfl (λ⟨k,hk,b⟩=>[(5,eI .i64 k)]) (λ⟨k,hk,b⟩=>[]) 0 (λ⟨k,hk,b⟩=>l.length - k) (⟨0,by omega,by simp⟩) a rfl (by (simp[cX,zC,a])) ?_;rintro⟨k,hk,b⟩;(try dsimp only[cA,cB])
 have i:k < l.length:=by
  rcases lc k l.length with h|h
  ·exact h
  ·rw [kD h] at b;exact absurd m b
 obtain⟨x,d⟩:=get_some (l:=l) (k:=k) i;have j:=get_map (g:=BU) d;by_cases e:x=s
 ·subst e
  have n:=dB d b;rw [n];(repeat first|refine tA rfl ?_ |(refine s4 rfl ‹_› rfl ?_ ?_;omega) |refine s2 rfl λ_ c=>?_ |refine aU rfl ?_ |refine Aa ?_);(refine aC rfl ?_ ?_<;>rintro⟨⟩)
  ·exfalso;simp at c
  ·(repeat' first|refine tA rfl ?_ |refine aU rfl ?_ |refine Aa ?_|(refine aC rfl ?_ ?_<;>rintro⟨⟩)|refine aK ?_|refine aE ?_|refine aB ?_|refine aR ⟨_,rfl,?_⟩)
   rfl
 ·have f:s∉l.take (k+1):=by
   rw [io,d];intro h
   rcases em.1 h with h|h
   ·exact b h
   ·simp at h;exact e h.symm
  (repeat first|refine tA rfl ?_ |(refine s4 rfl ‹_› rfl ?_ ?_;omega) |refine s2 rfl λ_ c=>?_ |refine aU rfl ?_ |refine Aa ?_);(refine aC rfl ?_ ?_<;>rintro⟨⟩)
  ·(repeat' first|(refine sA rfl ?_ ?_;first|exact tI|omega) |refine aU rfl ?_ |refine Aa ?_|(refine aC rfl ?_ ?_<;>rintro⟨⟩)|refine aK ?_|refine aE ?_|refine aB ?_|refine aR ⟨_,rfl,?_⟩)
   refine⟨⟨k+1,by omega,f⟩,by dsimp only;(omega),[],?_⟩;simp[cX,zC,a]
  ·exfalso;simp [e] at c
def Ph(s:Sys)(p:AY)(o:Sys):Int:=if BD s && (AL p && BD o) then Ew .i64 (VI .i64 s.al p.al) o.al else -1
theorem Mt(s:Sys)(p:AY)(o:Sys):Pure Tryz.prog TB 204 [Dm s,Bi p,Dm o] (eI .i64 (Ph s p o)):=by
 unfold Ph;refine eN Tryz.func204 rfl (by kernel_rfl) rfl ?_;intro Γ b;(repeat' first|refine tA rfl ?_ |refine s2 rfl λ_ a=>?_ |(refine sC rfl (CR s) ?_;intro _ a)|(refine sC rfl (BJ p) ?_;intro _ a)|(refine sC rfl (CR o) ?_;intro _ a) |refine s3 rfl ?_ ?_<;>rintro rfl |refine aU rfl ?_ |refine Aa ?_|(refine aC rfl ?_ ?_<;>rintro⟨⟩)|refine aK ?_|refine aE ?_|refine aB ?_|refine aR ⟨_,rfl,?_⟩)
 all_goals first
  | (show E.o _=E.o _;simp_all;done)
  | trace_state
def EA(m n:Nat):Nat:=(List.range n).countP (m.testBit ·)
theorem Tg(m n:Nat):EA m (n+1)=if m.testBit n then EA m n+1 else EA m n:=by
 unfold EA;rw [mE,List.countP_append];cases h:m.testBit n<;>simp [h]
theorem Zo(m n:Nat):EA m n<=n:=by
 unfold EA;have:=List.countP_le_length (p:=(m.testBit ·)) (l:=List.range n);rwa [mK] at this
theorem Kk(m:Nat)(e:m < 2 ^ 62)(n:Nat)(h:n<=60):Pure Tryz.prog TB 266 [eI .i64 (m:Nat),eI .i64 (n:Nat)] (eI .i64 (EA m n:Nat)):=by
 refine eG Tryz.func266 rfl (by kernel_rfl) rfl ?_;intro Γ a;(repeat first|refine tA rfl ?_ |refine aU rfl ?_ |refine Aa ?_);refine aB ?_;refine aL (U:={k:Nat // k<=n}) [0,1] [] rfl rfl (λ⟨k,hk⟩=>[(5,eI .i64 (EA m k:Nat)),(6,eI .i64 k)]) (λ⟨k,hk⟩=>[]) 0 (λ⟨k,hk⟩=>n - k) (⟨0,by omega⟩) a rfl (by (simp[cX,zC,a]<;>rfl)) ?_;rintro⟨k,hk⟩;(try dsimp only[cA,cB]);by_cases f:k < n
 ·have g:=Zo m k
  have c:=Tg m k;have d:=Dt (TB:=TB) (m:Nat) (k:Int) (by omega) (by omega);rw [Jb e (by omega)] at d;(repeat first|refine tA rfl ?_ |refine s2 rfl λ_ b=>?_ |refine aU rfl ?_ |refine Aa ?_)
  ((refine aC rfl ?_ ?_<;>rintro⟨⟩);all_goals try(exfalso;(simp only[oZ] at *;omega)))
  refine aK ?_;refine aS (aB ?_);(repeat first|refine tA rfl ?_ |(refine sC rfl (d) ?_;intro _ b) |refine aU rfl ?_ |refine Aa ?_);(refine aC rfl ?_ ?_<;>rintro⟨⟩)
  ·have hb:m.testBit k=true:=by simpa using b
   rw [if_pos hb] at c;(repeat first|(refine sA rfl ?_ ?_;first|exact tI|omega) |refine aU rfl ?_ |refine Aa ?_);refine⟨⟨k+1,by omega⟩,by dsimp only;(omega),[],?_⟩;simp[cX,zC,a,c]
  ·have hb:m.testBit k=false:=by simpa using b
   rw [if_neg (by simp [hb])] at c;refine aK ?_;(repeat first|(refine sA rfl ?_ ?_;first|exact tI|omega) |refine aU rfl ?_ |refine Aa ?_);refine⟨⟨k+1,by omega⟩,by dsimp only;(omega),[],?_⟩;simp[cX,zC,a,c]
 ·obtain rfl:k=n:=by omega
  (repeat first|refine tA rfl ?_ |refine s2 rfl λ_ b=>?_ |refine aU rfl ?_ |refine Aa ?_)
  ((refine aC rfl ?_ ?_<;>rintro⟨⟩);all_goals try(exfalso;(simp only[oZ] at *;omega)))
  refine aE ?_;(repeat first|refine tA rfl ?_ |refine aU rfl ?_ |refine Aa ?_);(subst_vars;exact aR ⟨_,rfl,rfl⟩)
def XX(al n:Int)(l:List D0):Ab:=(0,.cells 25 3 [[.d (iD 0),.d (iD 0),.d (.l [])]])::Jf al n l
theorem VM{y:Sys}(M:BD y=true)(S:y.es.length<=100000)(m:Nat)(G:m < 2 ^ 62):Spec Tryz.prog TB 205 [] 0 [Dm y,eI .i64 (m:Nat)] (CZ (λr:Sys=>r.es.length<=y.es.length) Dm):=by
 have T:=Ch M
 obtain⟨a,F,P⟩:∃a:Nat,y.st=a/\a<=16:=⟨y.st.toNat,by omega,by omega⟩
 have u:=Kk (TB:=TB) m G a (by omega);rw [<-F] at u;refine eR Tryz.func205 rfl (by kernel_rfl) rfl ?_;intro Γ b;(repeat first|refine tA rfl ?_ |refine aU rfl ?_ |refine Aa ?_);refine rG (NI [(7,1),(8,1)]) (by kernel_rfl) ?_;(repeat first|refine tX rfl ?_ |refine sP rfl (u) rfl ?_|(refine Ag rfl ?_;refine gA rfl ?_;first| refine gS (λ_ _=>MY rfl rfl (by rfl) (by rfl)) ?_) |refine aU rfl ?_ |refine Aa ?_);refine aB ?_;refine aL (U:={z:Nat×List D0 // z.1<=y.es.length/\z.2.length<=z.1}) [1,2] [] rfl rfl (λs=>[(4,.o (.ptr 0 3 0 0)),(5,.o (.ptr 1 3 0 0)),(6,eI .i64 s.1.1)]) (λs=>XX y.al (EA m a:Nat) s.1.2) 3 (λs=>y.es.length - s.1.1) (⟨⟨0,[]⟩,by simp⟩) b rfl (by (simp[cX,zC,b,XX,Jf,cN])) ?_;rintro⟨⟨k,l⟩,hk,c⟩;(try dsimp only[cA,cB]);have hk:k<=y.es.length:=hk;have c:l.length<=k:=c;by_cases H:k < y.es.length
 ·obtain⟨e,N⟩:=get_some H
  have L:=get_map (g:=Dr) N
  have R:(y.es.map Dr)[((k:Nat):Int).toNat]? = some (Dr e):=by rw [f6];exact L
  have hb:=CS M (co N);unfold C8 at hb;simp only [d5,decide_eq_true_eq] at hb
  obtain⟨A,K⟩:∃A:Nat,e.f=A:=⟨e.f.toNat,by omega⟩
  obtain⟨x,B⟩:∃x:Nat,e.t=x:=⟨e.t.toNat,by omega⟩
  have J:=Dt (TB:=TB) (m:Nat) e.f (by omega) (by omega);have I:=Dt (TB:=TB) (m:Nat) e.t (by omega) (by omega);have n:=Kk (TB:=TB) m G A (by omega);have j:=Kk (TB:=TB) m G x (by omega);rw [<-K] at n;rw [<-B] at j;(repeat first|refine sN rfl ?_ |refine tA rfl ?_ |refine s2 rfl λ_ p=>?_ |refine aU rfl ?_ |refine Aa ?_)
  ((refine aC rfl ?_ ?_<;>rintro⟨⟩);all_goals try(exfalso;(simp only[oZ] at *;omega)))
  refine aK ?_;refine aS (aB ?_)
  (repeat' first|refine tA rfl ?_ |(refine s4 rfl ‹_› rfl ?_ ?_;omega) |(refine sC rfl (J) ?_;intro _ p)|(refine sC rfl (I) ?_;intro _ p) |refine s3 rfl ?_ ?_<;>rintro rfl |refine aU rfl ?_ |refine Aa ?_|(refine aC rfl ?_ ?_<;>rintro⟨⟩));all_goals try contradiction
  ·obtain⟨eN,w⟩:∃eN:D0,eN=⟨(EA m A:Nat),e.l,(EA m x:Nat)⟩:=⟨_,rfl⟩
   cases l with
   | nil=>
    refine rG (NI [(1,11),(4,13),(7,13),(10,13),(14,1),(16,1)]) (by kernel_rfl) ?_;(repeat first|refine tA rfl ?_ |refine sP rfl (n) rfl ?_|refine sP rfl (j) rfl ?_|(refine Ag rfl ?_;refine gA rfl ?_;first| refine gS (λ_ _=>AG rfl rfl (by rfl) (by rfl)) ?_));(refine pW rfl ?_ rfl (by rfl);refine QW 38 rfl ?_;refine Df rfl rfl rfl (by intro r v;simp at v;subst v;rfl) (by rfl) (ce rfl) (by simp) (λh=>?_) (λ_=>?_))
    ·exact absurd h (by simp)
    (repeat first|(refine sX rfl ?_ ?_;first|exact tI|omega) |refine aU rfl ?_ |refine Aa ?_);refine⟨⟨⟨k+1,[eN]⟩,by dsimp only;omega,by simp⟩,by dsimp only;(omega),[0,1,4],?_⟩;(simp[cX,zC,b,cN,XX,Jf,Af,eC,w]<;>rfl)
   | cons q l=>
    refine rG (NI [(1,11),(4,13),(7,13),(10,13),(14,1),(16,1)]) (by kernel_rfl) ?_;(repeat first|refine tA rfl ?_ |refine sP rfl (n) rfl ?_|refine sP rfl (j) rfl ?_|(refine Ag rfl ?_;refine gA rfl ?_;first| refine gS (λ_ _=>AG rfl rfl (by rfl) (by rfl)) ?_));(refine pW rfl ?_ rfl (by rfl);refine Aw rfl rfl rfl (by first| (simp;done)|(simp;(omega))) rfl (by intro r v;simp at v;subst v;rfl) (by rfl) (ce rfl) (by simp at c |-;omega) ?_);(repeat first|(refine sX rfl ?_ ?_;first|exact tI|omega) |refine aU rfl ?_ |refine Aa ?_);refine⟨⟨⟨k+1,q::(l++[eN])⟩,by dsimp only;omega,by simp at c |-;omega⟩,by dsimp only;(omega),[0,1,4],?_⟩;(simp[cX,zC,b,cN,XX,Jf,Af,eC,w]<;>rfl)
  all_goals
   refine aK ?_;(repeat first|(refine sA rfl ?_ ?_;first|exact tI|omega) |refine aU rfl ?_ |refine Aa ?_);refine⟨⟨⟨k+1,l⟩,by dsimp only;omega,by dsimp only;omega⟩,by dsimp only;(omega),[0,1,2],?_⟩
   cases l<;>(simp[cX,zC,b,cN,XX,Jf]<;>rfl)
 ·have Q:k=y.es.length:=by omega
  (repeat first|refine sN rfl ?_ |refine tA rfl ?_ |refine s2 rfl λ_ p=>?_ |refine aU rfl ?_ |refine Aa ?_)
  ((refine aC rfl ?_ ?_<;>rintro⟨⟩);all_goals try(exfalso;(simp only[oZ] at *;omega)))
  refine aE ?_
  cases l with
  | nil=>
   refine Aj.AH [1] [(4,.o (.ptr 0 3 0 0)),(5,.o (.ip (Cz ⟨y.al,(EA m a:Nat),[]⟩)))] ⟨⟨_,rfl,.inl rfl⟩,⟨_,rfl,.inr (.o (.box rfl (.cons .d (.cons .d (.cons .nl .nil)))))⟩,trivial⟩ ?_;(repeat first|refine tA rfl ?_ |refine aU rfl ?_ |refine Aa ?_);exact aR ⟨_,rfl,[],Dm ⟨y.al,(EA m a:Nat),[]⟩,[],⟨λi hi=>absurd hi (i8 i),jp⟩,rfl,trivial,⟨y.al,(EA m a:Nat),[]⟩,k9 _,rfl,rfl,rfl⟩
  | cons q l=>
   refine Aj.AH [1,2] [(4,.o (.ptr 0 3 0 0)),(5,.o (.ip (Cz ⟨y.al,(EA m a:Nat),q::l⟩)))] ⟨⟨_,rfl,.inl rfl⟩,⟨_,rfl,.inr (.o (.box rfl (.cons .d (.cons .d (.cons (.full rfl (by simp [d4]) (by simp)) .nil)))))⟩,trivial⟩ ?_;(repeat first|refine tA rfl ?_ |refine aU rfl ?_ |refine Aa ?_);exact aR ⟨_,rfl,[],Dm ⟨y.al,(EA m a:Nat),q::l⟩,[],⟨λi hi=>absurd hi (i8 i),jp⟩,rfl,trivial,⟨y.al,(EA m a:Nat),q::l⟩,by show (q::l).length<=_;omega,rfl,rfl,rfl⟩
theorem SC(n:Int)(d:0<=n)(g:n<=16):Pure Tryz.prog TB 206 [eI .i64 n] (eI .i64 ((2 ^ n.toNat:Nat):Int)):=by
 have a:IntKind.i64.wrap (1*2 ^ (min n.toNat IntKind.i64.bits))=((2 ^ n.toNat:Nat):Int):=by
  have e:min n.toNat IntKind.i64.bits=n.toNat:=by
   have:IntKind.i64.bits=64:=rfl;omega
  rw [e,Int.one_mul];have f:2 ^ n.toNat < 2 ^ 17:=ms (by omega) (by omega)
  have c:(2:Int) ^ n.toNat=((2 ^ n.toNat:Nat):Int):=by push_cast;rfl
  rw [c];generalize 2 ^ n.toNat=p at *;exact IntWalk.i64_in _ (by omega)
 refine eN Tryz.func206 rfl (by kernel_rfl) rfl ?_;intro Γ b;(repeat' first|(refine sA rfl ?_ ?_;first|exact tI|omega)|(refine Ag rfl ?_;refine gA rfl ?_;first| refine gS (λ_ _=>Zl rfl rfl d a) ?_) |refine aU rfl ?_ |refine Aa ?_|(refine aC rfl ?_ ?_<;>rintro⟨⟩)|refine aK ?_|refine aE ?_|refine aB ?_|refine aR ⟨_,rfl,?_⟩);rfl
abbrev jm(r:Cw×Bool):E:=.t [(true,(ZR r.1).map .d),(false,[.d (bD r.2)])]
theorem ay(m:Nat)(al:Int):Hf m ⟨al,[],[]⟩:=⟨k9 _,k9 _,λr a=>by cases a⟩
theorem Oi(x:Sys)(p:AY)(o:Sys)(w:x.es.length<=100000)(hp:Hf 1000000 p):Spec Tryz.prog TB 127 [] 0 [Dm x,Bi p,Dm o] (CZ (λr:Cw×Bool=>r.1.s.es.length<=x.es.length/\∀m,Hf m p->Hf m r.1.q) jm):=by
 have n:=Mt (TB:=TB) x p o
 have e:Ph x p o < 0\/(0<=Ph x p o/\BD x=true):=by
  unfold Ph;cases h:BD x
  ·left;simp
  ·rcases Int.lt_or_le (Ph x p o) 0 with b|b
   ·left;unfold Ph at b;rw [h] at b;exact b
   ·right;refine⟨?_,rfl⟩;unfold Ph at b;rw [h] at b;exact b
 generalize Ph x p o=ai at *;refine eR Tryz.func127 rfl (by kernel_rfl) rfl ?_;intro Γ a;(repeat first|refine tA rfl ?_ |refine s2 rfl λ_ G=>?_ |refine sP rfl (n) rfl ?_ |refine aU rfl ?_ |refine Aa ?_)
 rcases e with F|⟨F,u⟩
 ·((refine aC rfl ?_ ?_<;>rintro⟨⟩);all_goals try(exfalso;(simp only[oZ] at *;omega)))
  (repeat first|refine tA rfl ?_|(refine Ag rfl ?_;refine gA rfl ?_;first| refine gS (λ_ _=>AG rfl rfl (by rfl) (by rfl)) ?_) |refine aU rfl ?_ |refine Aa ?_);exact aR ⟨_,rfl,[],jm (⟨⟨0,0,[]⟩,⟨0,[],[]⟩,0⟩,false),[],⟨λi hi=>absurd hi (i8 i),jp⟩,rfl,trivial,(⟨⟨0,0,[]⟩,⟨0,[],[]⟩,0⟩,false),⟨k9 _,λm _=>ay m 0⟩,rfl,rfl,rfl⟩
 have H:=Ch u;have t:=SC (TB:=TB) x.st (by omega) (by omega);have y:2 ^ x.st.toNat<=2 ^ 16:=lC (by omega) (by omega);have z:0 < 2 ^ x.st.toNat:=nn _
 have k:((2 ^ x.st.toNat:Nat):Int) - 1=((2 ^ x.st.toNat - 1:Nat):Int):=by omega
 have c:=VM (TB:=TB) u w (2 ^ x.st.toNat - 1) (by omega);rw [<-k] at c;generalize 2 ^ x.st.toNat=pw at *
 ((refine aC rfl ?_ ?_<;>rintro⟨⟩);all_goals try(exfalso;(simp only[oZ] at *;omega)))
 refine aK ?_;(repeat first|refine aU rfl ?_);refine rG ⟨Fe [(5,1),(7,1),(10,1)],Xm [0,1,2,3,4,6,8,5,7,9,10,11]⟩ (by kernel_rfl) ?_;(repeat first|(refine sX rfl ?_ ?_;first|exact tI|omega) |refine sP rfl (t) rfl ?_);(refine pW rfl ?_ rfl (by rfl);refine Ae [] rfl rfl (c) ⟨rfl,by decide,by decide⟩ rfl trivial ?_;rintro v f g ⟨s1,j,rfl,rfl,rfl⟩ _);(refine pW rfl ?_ rfl (by rfl);refine BG [] rfl rfl 0 (Kl p hp) (by decide) ⟨rfl,by decide,by decide⟩ rfl (by simp[cX,zC,a,cN]) ?_;rintro v f g ⟨l,B,rfl,rfl,rfl⟩ _);(repeat first|refine tX rfl ?_|(refine Ag rfl ?_;refine gA rfl ?_;first| refine gS (λ_ _=>AG rfl rfl (by rfl) (by rfl)) ?_) |refine Aa ?_);refine Aj.Ak [] [] rfl rfl [(6,.o (.ptr 0 7 0 0)),(7,eB true)] [(0,.cells 42 7 [[.d (iD s1.al),.d (iD s1.st),.d (Gb s1.es),.d (iD p.al),.arr 1 1 0 l.length,.arr 2 1 0 p.ac.length,.d (iD ai)]]),(1,.cells 53 1 (AA l)),(2,.cells 4 1 (p.ac.map AP)),(3,.sld 3 (sI l))] [0,1,2,3] (rl a rfl) (by (simp[cX,zC,a,cN,BC,Af,eC])) ?_;(try dsimp only[cA,cB]);refine Aj.AH [0,1,2,3] [(6,.o (.ip (ZR ⟨s1,⟨p.al,l.map (·.2),p.ac⟩,ai⟩))),(7,eB true)] ⟨⟨_,rfl,.inr (.o (.box rfl (.cons .d (.cons .d (.cons .d (.cons .d (.cons (.LN (s:=3) rfl rfl) (.cons (.full rfl (by simp [d4]) (by simp)) (.cons .d .nil)))))))))⟩,⟨_,rfl,.inl rfl⟩,trivial⟩ ?_;exact aR ⟨_,rfl,[],jm (⟨s1,⟨p.al,l.map (·.2),p.ac⟩,ai⟩,true),[],⟨λi hi=>absurd hi (i8 i),jp⟩,rfl,trivial,(⟨s1,⟨p.al,l.map (·.2),p.ac⟩,ai⟩,true),⟨j,λm A=>by rw [B];exact A⟩,rfl,rfl,rfl⟩
theorem Pz{n x v:Nat}{G:PS}:((Kz n G).map AE).set x (AE (v:Int))=(Kz n (Tz G x v)).map AE:=by
 apply lG;intro i;rw [n9];by_cases hi:i < n
 ·have a:∀H:PS,((Kz n H).map AE)[i]? = some (AE (H i:Int)):=λH=>by simp [hi]
  rw [a,a];unfold Tz;by_cases e:x=i
  ·subst e;rw [if_pos rfl,if_pos (by simpa using hi),if_pos rfl]
  ·rw [if_neg e,if_neg (λh=>e h.symm)]
 ·have a:∀H:PS,((Kz n H).map AE)[i]? = none:=λH=>kE (by simp;omega)
  rw [a,a];by_cases e:x=i
  ·subst e;rw [if_pos rfl,if_neg (by simpa using hi)]
  ·rw [if_neg e]
theorem Py{n x:Nat}{G:PS}(h:x < n):((Kz n G).map AE)[0+((x:Nat):Int).toNat]? = some (AE (G x:Int)):=by rw [kG,f6];simp [h]
theorem P7.start{t:Cw}{F0 F:PS}(a:C6 t F)(c:∀p j,(F0 p).testBit j=true->(F p).testBit j=true)(b:∀p j,(F p).testBit j=true->PX t F0 p j):P7 t F0 F 0 0 F false:=
 ⟨a,c,b,λ_=>i7 _,λh=>(by cases h),λ_=>⟨rfl,λp _ l _ h=>by simp at h⟩⟩
theorem MA{t:Cw}(ht:A3 t=true){F0:PS}(K:C6 t F0):Spec Tryz.prog TB 248 [(0,.cells 3 1 ((Kz t.q.nx.length F0).map AE))] 1 [Im t,.o (.arr 0 1 0 t.q.nx.length)] (λx σ nx=>x=.o (.arr 0 1 0 t.q.nx.length)/\σ=[(0,.cells 3 1 ((Kz t.q.nx.length (RY t F0)).map AE))]/\nx=1):=by
 have P:BD t.s=true:=by unfold A3 at ht;simp only [d5] at ht;exact ht.1
 have A:BO t.al=true:=by unfold A3 at ht;simp only [d5] at ht;exact ht.2.2
 have y:=Ch P;have g:=CT ht;have hah:=Ax g;have H:=bW y.1 A;have I:=y.1;unfold BO at I;simp only [decide_eq_true_eq] at I
 have R:Pure Tryz.prog TB 68 [eI .i64 (t.s.al - Ew .i64 t.s.al t.al)] (AW (CG t)):=by
  have:=Cp (TB:=TB) (t.s.al - Ew .i64 t.s.al t.al);rw [H.1,HB y.1 A] at this;rw [H.1];exact this
 have hll:(CG t).length<=6:=by
  unfold CG;have X:(Ac t.s.al).length<=6:=AK _ _;exact i9 (mS _ _) X
 refine eR Tryz.func248 rfl (by kernel_rfl) rfl ?_;intro Γ c;(repeat first|(refine sA rfl ?_ ?_;first|exact tI|omega) |refine sP rfl (R) rfl ?_ |refine aU rfl ?_ |refine Aa ?_);refine aB ?_;refine aL (U:={s:PS×Bool // C6 t s.1/\(∀p j,(F0 p).testBit j=true->(s.1 p).testBit j=true)/\(∀p j,(s.1 p).testBit j=true->PX t F0 p j)/\(s.2=false->s.1=RY t F0)}) [1,2,5] [] rfl rfl (λs=>[(6,eB s.1.2)]) (λs=>[(0,.cells 3 1 ((Kz t.q.nx.length s.1.1).map AE))]) 1 (λs=>(if s.1.2 then Lr s.1.1+1 else 0)) (⟨⟨F0,true⟩,K,λ_ _ h=>h,λ_ _ h=>.base h,λh=>by cases h⟩) c rfl (by (simp[cX,zC,c])) ?_;rintro⟨⟨F,b⟩,V,X,h2,h3⟩;(try dsimp only[cA,cB]);have V:C6 t F:=V
 cases b with
 | false=>
  obtain rfl:F=RY t F0:=h3 rfl;(repeat first|refine tA rfl ?_ |refine aU rfl ?_ |refine Aa ?_);(refine aC rfl ?_ ?_<;>rintro⟨⟩);refine aE ?_;(repeat first|refine tA rfl ?_ |refine aU rfl ?_ |refine Aa ?_);refine aR ⟨_,rfl,[0],.o (.arr 0 1 0 t.q.nx.length),_,⟨by intro i hi;match i with|0=>rfl,by decide⟩,rfl,?_,rfl,rfl,rfl⟩;(simp[cX,zC,c])
 | true =>
  (repeat first|refine tA rfl ?_ |refine aU rfl ?_ |refine Aa ?_);(refine aC rfl ?_ ?_<;>rintro⟨⟩);refine aK ?_;refine aB ?_;(repeat first|refine tA rfl ?_ |refine aU rfl ?_ |refine Aa ?_);refine aB ?_;refine aL (U:={s:Nat×PS×Bool // s.1<=t.q.nx.length/\P7 t F0 F s.1 0 s.2.1 s.2.2}) [1,2,5] [] rfl rfl (λs=>[(6,eB s.1.2.2),(7,eI .i64 s.1.1)]) (λs=>[(0,.cells 3 1 ((Kz t.q.nx.length s.1.2.1).map AE))]) 1 (λs=>t.q.nx.length - s.1.1) (⟨⟨0,F,false⟩,by simp,.start V X h2⟩) c rfl (by (simp[cX,zC,c])) ?_;rintro⟨⟨i,G,b⟩,hi,w⟩;(try dsimp only[cA,cB]);have hi:i<=t.q.nx.length:=hi;have w:P7 t F0 F i 0 G b:=w;by_cases u:i < t.q.nx.length
  ·(repeat first|refine tA rfl ?_ |refine s2 rfl λ_ d=>?_ |refine aU rfl ?_ |refine Aa ?_)
   ((refine aC rfl ?_ ?_<;>rintro⟨⟩);all_goals try(exfalso;(simp only[oZ] at *;omega)))
   refine aK ?_;refine aS (aB ?_);(repeat first|refine tA rfl ?_ |refine aU rfl ?_ |refine Aa ?_);refine aB ?_;refine aL (U:={s:Nat×PS×Bool // s.1<=(CG t).length/\P7 t F0 F i s.1 s.2.1 s.2.2}) [1,2,5,7] [] rfl rfl (λs=>[(6,eB s.1.2.2),(8,eI .i64 s.1.1)]) (λs=>[(0,.cells 3 1 ((Kz t.q.nx.length s.1.2.1).map AE))]) 1 (λs=>(CG t).length - s.1.1) (⟨⟨0,G,b⟩,by simp,w⟩) c rfl (by (simp[cX,zC,c])) ?_;rintro⟨⟨k,G',b'⟩,hk,e⟩;(try dsimp only[cA,cB]);have hk:k<=(CG t).length:=hk;have e:P7 t F0 F i k G' b':=e;clear w;by_cases S:k < (CG t).length
   ·obtain⟨l,r⟩:=get_some S
    have f:=GR ht (co r)
    have hl':((CG t).map CN)[((k:Nat):Int).toNat]? = some (CN l):=by rw [f6];simp [r]
    have J:=Pj (TB:=TB) t.q g i u l f.1 f.2.1;have T:=DA g u f.1 f.2.1
    obtain⟨x,L⟩:∃x:Nat,Bj t.q i l=x:=⟨(Bj t.q i l).toNat,by omega⟩
    rw [L] at J T;have M:=OC (TB:=TB) P l (e.ok.lt i)
    have Z:BQ t.s.es l (G' i) < 65536:=by
     have:=QP P (l:=l) (m:=G' i) (k:=t.s.es.length);rwa [kz] at this
    have r1:=Py (n:=t.q.nx.length) (G:=G') (x:=x) (by omega);have r2:=Py (n:=t.q.nx.length) (G:=G') (x:=i) u;have Y:=e.ok.lt x;have z:=LF (a:=G' x) (b:=BQ t.s.es l (G' i)) (by omega) (by omega);have B:=Pz (n:=t.q.nx.length) (x:=x) (v:=G' x ||| BQ t.s.es l (G' i)) (G:=G');(repeat first|refine sN rfl ?_ |refine tA rfl ?_ |refine s2 rfl λ_ d=>?_ |refine aU rfl ?_ |refine Aa ?_)
    ((refine aC rfl ?_ ?_<;>rintro⟨⟩);all_goals try(exfalso;(simp only[oZ] at *;omega)))
    refine aK ?_;refine aS (aB ?_);(repeat first|refine aU rfl ?_);refine rG (It []) (by kernel_rfl) ?_;(repeat first|refine tA rfl ?_ |(refine s4 rfl ‹_› rfl ?_ ?_;omega) |refine sP rfl (J) rfl ?_ |refine aU rfl ?_ |refine Aa ?_);refine rG (It []) (by kernel_rfl) ?_;(repeat first|((first|refine sA rfl ?_ ?_|refine s4 rfl ‹_› rfl ?_ ?_);first|exact tI|omega) |refine s2 rfl λ_ d=>?_ |refine sP rfl (M) rfl ?_ |refine aU rfl ?_ |refine Aa ?_);(refine aC rfl ?_ ?_<;>rintro⟨⟩)
    ·have Q:G' x ||| BQ t.s.es l (G' i)≠G' x:=by
      rw [z] at d;simp only [decide_eq_true_eq] at d;omega
     (repeat first|(refine sA rfl ?_ ?_;first|exact tI|omega) |refine t4 rfl ‹_› rfl ?_ |refine aU rfl ?_ |refine Aa ?_);have N:=e.Nu ht u r L Q;generalize Tz G' x (G' x ||| BQ t.s.es l (G' i))=G2 at *;refine⟨⟨⟨k+1,G2,true⟩,by omega,N⟩,by dsimp only;(omega),[0],?_⟩
     simp[cX,zC,c,z];simpa [d4] using B
    ·have he:G' x ||| BQ t.s.es l (G' i)=G' x:=by
      rw [z] at d;simp only [decide_eq_false_iff_not] at d;omega
     refine aK ?_;(repeat first|(refine sA rfl ?_ ?_;first|exact tI|omega) |refine aU rfl ?_ |refine Aa ?_);refine⟨⟨⟨k+1,G',b'⟩,by omega,e.ie ht r L he⟩,by dsimp only;(omega),[0],?_⟩;simp[cX,zC,c]
   ·obtain rfl:k=(CG t).length:=by omega
    (repeat first|refine sN rfl ?_ |refine tA rfl ?_ |refine s2 rfl λ_ d=>?_ |refine aU rfl ?_ |refine Aa ?_)
    ((refine aC rfl ?_ ?_<;>rintro⟨⟩);all_goals try(exfalso;(simp only[oZ] at *;omega)))
    refine aE ?_;(repeat first|(refine sA rfl ?_ ?_;first|exact tI|omega) |refine aU rfl ?_ |refine Aa ?_);refine⟨⟨⟨i+1,G',b'⟩,by omega,e.row⟩,by dsimp only;(omega),[0],?_⟩;simp[cX,zC,c]
  ·obtain rfl:i=t.q.nx.length:=by omega
   (repeat first|refine tA rfl ?_ |refine s2 rfl λ_ d=>?_ |refine aU rfl ?_ |refine Aa ?_)
   ((refine aC rfl ?_ ?_<;>rintro⟨⟩);all_goals try(exfalso;(simp only[oZ] at *;omega)))
   refine aE ?_;refine⟨⟨⟨G,b⟩,w.ok,w.lo,w.hi,λhb=>by have hb:b=false:=hb;subst hb;exact w.done ht K⟩,by cases b<;>simp_all [w.yes],[0],?_⟩;simp[cX,zC,c]
end Go.Am
namespace Go.Am
open Go
set_option linter.unusedVariables false
theorem Qy{f:Nat->Bool}{n k:Nat}(h:DN f n=true)(a:0 < k)(hk:k < n):f k=true:=by
 unfold DN at h;have:=(f7.1 h) k (kB.2 hk);simp at this
 rcases this with h|h
 ·omega
 ·exact h
structure Vm (al:Int) (t:A9):Prop where
 pos:0<=al
 r1:1<=t.rows.length
 rl:t.rows.length<=12
 c1:1<=t.cols.length
 cl:t.cols.length<=20
 r0:t.rows[0]? = some []
 c0:t.cols[0]? = some []
 rw:∀w∈t.rows,w.length<=50000/\AD (A2 al) w
 cw:∀w∈t.cols,w.length<=4000/\AD (A2 al) w
 pre:∀(i:Nat) w,t.rows[i]? = some w->0 < i->w≠[]/\∃j,j < i/\t.rows[j]? = some w.dropLast
 ndC:t.cols.Nodup
theorem QQ{U:Type}{l:List U}{k:Nat}{x:U}(h:x∈l.take k):∃j,j < k/\l[j]? = some x:=by
 obtain⟨j,a,b⟩:=lw h
 have c:j < k:=by simp at a;omega
 refine⟨j,c,?_⟩;rw [<-b,List.getElem_take,d7]
theorem Qi{U:Type}{l:List U}{j k:Nat}{x:U}(h:l[j]? = some x)(a:j < k):x∈l.take k:=by
 have:(l.take k)[j]? = some x:=by rw [kT,if_pos a];exact h
 exact co this
theorem TH{w:W}{al:Int}(h:within w al=true):w.length<=50000:=by
 unfold within at h;simp only [d5,decide_eq_true_eq] at h;exact h.1
theorem Ns{al:Int}{t:A9}(h:Eo al t=true):Vm al t:=by
 unfold Eo HI at h;simp only [d5,decide_eq_true_eq] at h;obtain⟨⟨u,p,o,n,m⟩,s,r⟩:=h
 have d:∀(i:Nat) w,t.rows[i]? = some w->0 < i->w≠[]/\within w al=true/\w.dropLast∈t.rows.take i:=λi w hi b=>by
  have:=Qy s b (am.1 hi).1;unfold rowAt at this;rw [hi] at this;simp only [d5,decide_eq_true_eq,oe,decide_eq_false_iff_not] at this;exact⟨λe=>this.1 (by rw [e];rfl),this.2.1,this.2.2⟩
 have f:∀(i:Nat) w,t.cols[i]? = some w->0 < i->w.length<=4000/\within w al=true/\w∉t.cols.take i:=λi w hi b=>by
  have:=Qy r b (am.1 hi).1;unfold Hs at this;rw [hi] at this;simp only [d5,decide_eq_true_eq,oe,decide_eq_false_iff_not] at this;exact this
 refine⟨u,p.1,p.2,o.1,o.2,n,m,λw hw=>?_,λw hw=>?_,λi w hi b=>?_,?_⟩
 ·obtain⟨i,hi,g⟩:=lw hw
  have a:t.rows[i]? = some w:=by rw [d7 hi,g]
  rcases lH i with b|b
  ·subst b
   rw [n] at a;injection a with a;subst a
   exact⟨by simp,λc l=>by cases l⟩
  ·have:=d i w a b
   exact⟨TH this.2.1,Ep this.2.1⟩
 ·obtain⟨i,hi,g⟩:=lw hw
  have a:t.cols[i]? = some w:=by rw [d7 hi,g]
  rcases lH i with b|b
  ·subst b
   rw [m] at a;injection a with a;subst a
   exact⟨by simp,λc l=>by cases l⟩
  ·have:=f i w a b
   exact⟨this.1,Ep this.2.1⟩
 ·have:=d i w hi b
  exact⟨this.1,QQ this.2.2⟩
 ·unfold List.Nodup
  rw [kO];intro i j hi q k g;have:=f j t.cols[j] (d7 q) (by omega);exact this.2.2 (Qi (by rw [d7 hi,g]) k)
theorem CE{A:W->Bool}{al:Int}{t:A9}(h:A1 A al t=true):Vm al t/\(AJ A t).Nodup:=by
 unfold A1 at h;rw [d5,decide_eq_true_eq] at h;exact⟨Ns h.1,h.2⟩
theorem TE{A:W->Bool}{al:Int}{t:A9}(h:A1 A al t=true):TOk A (A2 al) t:=by
 obtain⟨a,b⟩:=CE h;exact⟨a.r0,a.c0,a.pre,λw hw=>(a.rw w hw).2,λw hw=>(a.cw w hw).2,b,a.ndC⟩
theorem Vu{A:W->Bool}{al:Int}{t:A9}(h:Dx A al t=true):A1 A al t=true/\Bb A (A2 al) t=none/\Dk A (A2 al) t:=by
 unfold Dx at h;rw [d5] at h
 have a:Bb A (A2 al) t=none:=by simpa using h.2
 exact⟨h.1,a,⟨TE h.1,MV a⟩⟩
def WU(A L:W->Bool)(al:Int):Prop:=∀w,AD (A2 al) w->w.length<=50000->A w=L w
theorem YR{ls:List UInt8}{u w:W}(a:AD ls u)(hw:AD ls w):AD ls (u++w):=λc b=>by
 rcases em.1 b with h|h
 ·exact a c h
 ·exact hw c h
theorem OG{A L:W->Bool}{al:Int}(h:WU A L al){cols:List W}{w:W}(hw:AD (A2 al) w)(b:∀x∈cols,AD (A2 al) x/\w.length+x.length<=50000):marks A cols w=marks L cols w:=by
 rw [marks,marks,ma];intro x a;rw [h _ (YR hw (b x a).1) (by simp;exact(b x a).2)]
theorem KD{A L:W->Bool}{al:Int}{b:Nat}{t:A9}(h:WU A L al)(ht:Iq al b t)(hb:b<=20100):AJ A t=AJ L t:=by
 rw [AJ,AJ,ma];intro r c;have:=ht.onR r c
 exact OG h this.1 λx a=>⟨(ht.onC x a).1,by have:=(ht.onC x a).2;omega⟩
theorem QX{A L:W->Bool}{al:Int}{b:Nat}{t:A9}(h:WU A L al)(ht:Iq al b t)(hb:b<=20100){r:W}{l:UInt8}(e:r∈t.rows)(f:l∈A2 al):marks A t.cols (r++[l])=marks L t.cols (r++[l]):=by
 have:=ht.onR r e
 refine OG h (YR this.1 (λc d=>by simp at d;subst d;exact f)) λx a=>⟨(ht.onC x a).1,by have:=(ht.onC x a).2;simp;omega⟩
theorem Qu{U:Type}{p q:U->Bool}:∀ {l:List U},(∀x∈l,p x=q x)->l.find? p=l.find? q
 | [],_=>rfl
 | x::l,h=>by
  rw [ow,ow,h x (by simp),Qu (l:=l) λy a=>h y (by simp [a])]
theorem VZ{A L:W->Bool}{al:Int}{b:Nat}{t:A9}(h:WU A L al)(ht:Iq al b t)(hb:b<=20100):Bb A (A2 al) t=Bb L (A2 al) t:=by
 unfold Bb;refine Qu λw hw=>?_;unfold Ck at hw;simp only [lY,d8] at hw;obtain⟨r,a,l,c,rfl⟩:=hw;rw [KD h ht hb,QX h ht hb a c]
theorem So{A L:W->Bool}{al:Int}(h:WU A L al):∀(n:Nat) {b:Nat} {t:A9},Iq al b t->b+n<=20100->Bw A (A2 al) n t=Bw L (A2 al) n t
 | 0,_,_,_,_=>rfl
 | n + 1,b,t,ht,hb=>by
  unfold Bw;rw [VZ h ht (by omega)]
  cases d:Bb L (A2 al) t with
  | none=>rfl
  | some w=>
   dsimp only;by_cases a:t.rows.length=12
   ·rw [if_pos a,if_pos a]
   ·rw [if_neg a,if_neg a]
    have c:=ht.rl;exact So h n (ht.push d (by omega)) (by omega)
theorem XQ{A L:W->Bool}{al:Int}{b:Nat}{t:A9}(h:WU A L al)(ht:Iq al b t)(hb:b<=20100){r:W}{l:UInt8}(a:r∈t.rows)(c:l∈A2 al):EF A t (r++[l])=EF L t (r++[l]):=by
 unfold EF;rw [KD h ht hb,QX h ht hb a c]
theorem fI{A L:W->Bool}{al:Int}{b:Nat}{t:A9}(h:WU A L al)(ht:Iq al b t)(hb:b<=20100):Bn A al t=Bn L al t:=by
 unfold Bn;congr 1
 ·refine ma.2 λr a=>ma.2 λl c=>?_
  rw [XQ h ht hb a (LI c)]
 ·refine ma.2 λr a=>?_
  have:=ht.onR r a;rw [h r this.1 (by omega)]
end Go.Am
namespace Go.Am
open Go Go.Proofs
set_option maxHeartbeats 1000000
set_option maxRecDepth 4000
attribute [local irreducible] AU BZ Lex Br Aj Spec
variable {TB:Bp}
theorem OX{n:Nat}:List.replicate n (AE 0)=(Kz n λ_=>0).map AE:=by
 apply lG;intro i;by_cases h:i < n
 ·simp [h]
 ·rw [kE (by simp;omega),kE (by simp;omega)]
theorem Ts{n:Nat}:(List.replicate n (AE 0)).set 0 (AE 1)=(Kz n JP).map AE:=by
 rw [OX];have:=Pz (n:=n) (x:=0) (v:=1) (G:=λ_=>0)
 have e:Tz (λ_=>0) 0 1=JP:=by funext p;rfl
 rw [e] at this;exact this
theorem SM{t:Cw}(ht:A3 t=true):Pure Tryz.prog TB 186 [Im t] (AW (Kz t.q.nx.length (CD t))):=by
 have g:=Ax (CT ht);have c:=MA (TB:=TB) ht (NH ht);rw [show RY t JP=CD t from rfl] at c;have b:=Ts (n:=t.q.nx.length)
 have f:(List.replicate t.q.nx.length (AE 0))[0+(0:Int).toNat]? = some (AE 0):=by rw [nA,if_pos];simp;omega
 refine eG Tryz.func186 rfl (by kernel_rfl) rfl ?_;intro Γ a;(repeat first|refine sN rfl ?_ |refine tA rfl ?_ |refine aU rfl ?_ |refine Aa ?_);(refine pW rfl ?_ rfl (by rfl);refine IS rfl rfl (by rfl) (by rfl) (ce rfl) (by omega) (by omega) (by omega) ?_);(repeat first|(refine sA rfl ?_ ?_;first|exact tI|omega) |refine t4 rfl ‹_› rfl ?_ |refine aU rfl ?_ |refine Aa ?_);(refine pW rfl ?_ rfl (by rfl);refine Ae [0] rfl rfl (c) ⟨rfl,by decide,by decide⟩ rfl (by simp[cX,zC,a,b]) ?_;rintro h d e ⟨rfl,rfl,rfl⟩ _);(repeat first|refine tA rfl ?_);refine Aa ?_;refine Aj.Ak [] [] rfl rfl [(2,.o (.arr 0 1 0 t.q.nx.length))] [(0,.cells 3 1 ((Kz t.q.nx.length (CD t)).map AE))] [0] (rl a rfl) (by (simp[cX,zC,a,b])) ?_;(try dsimp only[cA,cB]);refine Aj.settle [(2,AW (Kz t.q.nx.length (CD t)))] ⟨⟨_,rfl,.o (.full rfl (by simp [d4]) (by simp))⟩,trivial⟩ ?_;refine aR ⟨_,rfl,rfl⟩
theorem Ys{t:Cw}(ht:A3 t=true){F:PS}:Pure Tryz.prog TB 187 [Im t,AW (Kz t.q.nx.length F)] (eB (JV t F)):=by
 have p:=Ax (CT ht)
 have n:(Kz t.q.nx.length F).length=t.q.nx.length:=by simp
 have d:JV t F=Gs t F t.q.nx.length:=rfl;refine eG Tryz.func187 rfl (by kernel_rfl) rfl ?_;intro Γ a;(repeat first|refine tA rfl ?_ |refine aU rfl ?_ |refine Aa ?_);refine aB ?_;refine aL (U:={k:Nat // k<=t.q.nx.length/\Gs t F k=false}) [1,2] [] rfl rfl (λ⟨k,hk,hb⟩=>[(5,eI .i64 k)]) (λ⟨k,hk,hb⟩=>[]) 0 (λ⟨k,hk,hb⟩=>t.q.nx.length - k) (⟨0,by omega,rfl⟩) a rfl (by (simp[cX,zC,a])) ?_;rintro⟨k,hk,hb⟩;(try dsimp only[cA,cB]);by_cases h:k < t.q.nx.length
 ·have s:((Kz t.q.nx.length F).map CN)[((k:Nat):Int).toNat]? = some (CN (F k:Int)):=by rw [f6];simp [h]
  obtain⟨b,f⟩:=get_some (l:=t.q.ac) (k:=((k:Nat):Int).toNat) (by omega);have o:=get_map (g:=IB) f
  have i:t.q.ac.getD k false=b:=by rw [f6] at f;simp [List.getD,f]
  have j:=ID (t:=t) (F:=F) (k:=k);rw [i,hb] at j;(repeat first|refine sN rfl ?_ |refine tA rfl ?_ |refine s2 rfl λ_ c=>?_ |refine aU rfl ?_ |refine Aa ?_)
  ((refine aC rfl ?_ ?_<;>rintro⟨⟩);all_goals try(exfalso;(simp only[oZ] at *;omega)))
  refine aK ?_;refine aS (aB ?_)
  (repeat' first|refine tA rfl ?_ |(refine s4 rfl ‹_› rfl ?_ ?_;omega) |refine s2 rfl λ_ c=>?_ |refine s3 rfl ?_ ?_<;>rintro rfl |refine aU rfl ?_ |refine Aa ?_|(refine aC rfl ?_ ?_<;>rintro⟨⟩));all_goals try contradiction
  ·have m:JV t F=true:=by
    have u:=of_decide_eq_true ‹decide ((F k:Int)≠0)=true›
    have r:F k≠0:=by omega
    rw [d];unfold Gs;exact m7.2 ⟨k,kB.2 h,by rw [i,c];simp [r]⟩
   rw [m];(subst_vars;exact aR ⟨_,rfl,rfl⟩)
  ·have e:Gs t F (k+1)=false:=by rw [j];simp_all
   refine aK ?_;(repeat first|(refine sA rfl ?_ ?_;first|exact tI|omega) |refine aU rfl ?_ |refine Aa ?_);refine⟨⟨k+1,by omega,e⟩,by dsimp only;(omega),[],?_⟩;simp[cX,zC,a]
  ·have e:Gs t F (k+1)=false:=by rw [j];simp at c;simp;omega
   refine aK ?_;(repeat first|(refine sA rfl ?_ ?_;first|exact tI|omega) |refine aU rfl ?_ |refine Aa ?_);refine⟨⟨k+1,by omega,e⟩,by dsimp only;(omega),[],?_⟩;simp[cX,zC,a]
 ·obtain rfl:k=t.q.nx.length:=by omega
  rw [d,hb];(repeat first|refine sN rfl ?_ |refine tA rfl ?_ |refine s2 rfl λ_ c=>?_ |refine aU rfl ?_ |refine Aa ?_)
  ((refine aC rfl ?_ ?_<;>rintro⟨⟩);all_goals try(exfalso;(simp only[oZ] at *;omega)))
  refine aE ?_;(repeat first|refine tA rfl ?_ |refine aU rfl ?_ |refine Aa ?_);(subst_vars;exact aR ⟨_,rfl,rfl⟩)
end Go.Am
namespace Go.Am
open Go
set_option linter.unusedVariables false
section
variable {a b:AY}(ha:AL a=true)(hb:AL b=true)(hal:a.al=b.al)(hL:∀w,AD (A2 a.al) w->LA a w=LA b w)
include ha hb hal hL
end
end Go.Am
