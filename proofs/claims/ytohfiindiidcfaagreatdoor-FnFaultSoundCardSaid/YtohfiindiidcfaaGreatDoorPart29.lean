/-
  A text, read as a system: any that is not too big will do: walked.
-/
import Derived.Test.YtohfiindiidcfaaGreatDoorPart27
set_option linter.all false
namespace Go.Am
open Go Go.Proofs
set_option maxHeartbeats 1000000
set_option maxRecDepth 4000
attribute [local irreducible] A8 Cq Lex Br Ai Spec
variable {TB:BA}
abbrev bC(r:Sys×Bool):E:=.t [(true,[.d (iD r.1.al),.d (iD r.1.st),.d (Em r.1.es)]),(false,[.d (bD r.2)])]
def Lq(al n:Int):List DA->Ab
 | []=>[(1,.cells 25 3 [[.d (iD al),.d (iD n),.d (.v (.slice none 0 0))]])]
 | e::l=>[(1,.cells 25 3 [[.d (iD al),.d (iD n),.arr 2 3 0 (l.length+1)]]),(2,.cells 116 3 ((e::l).map A4))]
theorem Fm(f:W)(hs:f.length<=10000):Spec Tryz.prog TB 104 [] 0 [eT f] (Dx (λr:Sys×Bool=>r.1.es.length<=f.length+1) bC):=by
  refine eR Tryz.func104 rfl (by kernel_rfl) rfl ?_;intro Z e;(repeat first|refine tA rfl ?_ |refine aU rfl ?_ |apply Aa);(refine pW rfl ?_ rfl (by rfl);refine Af [] rfl rfl (KL (TB:=TB) f (by omega) 32) ⟨rfl,by decide,by decide⟩ rfl trivial ?_;rintro m b c ⟨ps,⟨R,Q,q⟩,rfl,rfl,rfl⟩ _);(repeat first|refine sN rfl ?_ |refine tA rfl ?_ |refine s2 rfl λ_ a=>?_ |refine aU rfl ?_ |apply Aa);by_cases S:ps.length < 2
  · ((refine aC rfl ?_ ?_<;>rintro⟨⟩);all_goals try(exfalso;(simp only[oZ] at *;omega)))
    (repeat first|refine tA rfl ?_|(refine Av rfl ?_;refine gA rfl ?_;first| refine gS (λ_ _=>AS rfl rfl (by rfl) (by rfl)) ?_) |refine aU rfl ?_ |apply Aa);exact aR ⟨_,rfl,[],bC (⟨0,0,[]⟩,false),[],⟨λi hi=>absurd hi (iZ i),i7⟩,rfl,trivial,(⟨0,0,[]⟩,false),jF _,rfl,rfl,rfl⟩
  ((refine aC rfl ?_ ?_<;>rintro⟨⟩);all_goals try(exfalso;(simp only[oZ] at *;omega)))
  apply aK;obtain⟨K,Y⟩:=get_some (l:=ps) (k:=(0:Int).toNat) (by simp;omega);have X:=get_map (g:=C0) Y;obtain⟨y,F⟩:=get_some (l:=ps) (k:=(1:Int).toNat) (by simp;omega);have V:=get_map (g:=C0) F;have B:=q y (co F);(repeat first|refine tA rfl ?_ |(refine s4 rfl ‹_› rfl ?_ ?_;omega) |refine aU rfl ?_);(refine pW rfl ?_ rfl (by rfl);refine Af [] rfl rfl (Gw (TB:=TB) K) ⟨rfl,by decide,by decide⟩ rfl trivial ?_;rintro m b c ⟨⟨n,ok⟩,_,rfl,rfl,rfl⟩ _);(repeat first|refine tA rfl ?_ |(refine s4 rfl ‹_› rfl ?_ ?_;omega) |refine aU rfl ?_ |apply Aa);(refine pW rfl ?_ rfl (by rfl);refine Af [] rfl rfl (Ij (TB:=TB) y (by omega)) ⟨rfl,by decide,by decide⟩ rfl trivial ?_;rintro m b c ⟨⟨st,M⟩,_,rfl,rfl,rfl⟩ _);(repeat first|refine tA rfl ?_ |refine s2 rfl λ_ a=>?_ |refine s3 rfl ?_ ?_<;>rintro rfl |refine aU rfl ?_ |apply Aa)
  (repeat' first|refine tA rfl ?_ |refine s2 rfl λ_ a=>?_ |refine aU rfl ?_ |apply Aa|(refine aC rfl ?_ ?_<;>rintro⟨⟩));all_goals try contradiction
  all_goals first
    | ((repeat first|refine tA rfl ?_|(refine Av rfl ?_;refine gA rfl ?_;first| refine gS (λ_ _=>AS rfl rfl (by rfl) (by rfl)) ?_) |apply Aa)
       exact aR ⟨_,rfl,[],bC (⟨0,0,[]⟩,false),[],⟨λi hi=>absurd hi (iZ i),i7⟩,rfl,trivial,(⟨0,0,[]⟩,false),jF _,rfl,rfl,rfl⟩
       done)
    | skip
  apply aK;(repeat first|refine tA rfl ?_|(refine Av rfl ?_;refine gA rfl ?_;first| refine gS (λ_ _=>NC rfl rfl (by rfl) (by rfl)) ?_) |refine aU rfl ?_ |apply Aa);apply aB;refine aL (α:={z:Nat×List DA // (2<=z.1/\z.1<=ps.length)/\z.2.length+2=z.1}) [0,4] [] rfl rfl (λs=>[(2,.o (.ptr 0 3 0 0)),(9,.o (.ptr 1 3 0 0)),(10,eI .i64 s.1.1)]) (λs=>((0,.cells 25 3 [[.d (iD 0),.d (iD 0),.d (.l [])]])::Lq n st s.1.2)) 3 (λs=>ps.length - s.1.1) (⟨⟨2,[]⟩,by simp;omega⟩) e rfl (by (simp[cX,zC,e,Lq,cN])) ?_;rintro⟨⟨k,l⟩,hk,u⟩;(try dsimp only[cA,cB]);have hk:2<=k/\k<=ps.length:=hk;have u:l.length+2=k:=u;(repeat first|refine sN rfl ?_ |refine tA rfl ?_ |refine s2 rfl λ_ a=>?_ |refine aU rfl ?_ |apply Aa)
  ((refine aC rfl ?_ ?_<;>rintro⟨⟩);all_goals try (simp at a;done))
  · have x:k < ps.length:=by (simp only[oZ] at *;omega)
    obtain⟨w,A⟩:=get_some (l:=ps) (k:=k) x;have P:=get_map (g:=C0) A;have N:=q w (co A);apply aK;refine aS (aB ?_);(repeat first|refine tA rfl ?_ |(refine s4 rfl ‹_› rfl ?_ ?_;omega) |refine aU rfl ?_);(refine pW rfl ?_ rfl (by rfl);refine Af [] rfl rfl (Tg (TB:=TB) w (by omega)) ⟨rfl,by decide,by decide⟩ rfl trivial ?_;rintro m b c ⟨⟨⟨I,H,G⟩,L⟩,_,rfl,rfl,rfl⟩ _);(repeat first|refine tA rfl ?_ |refine s2 rfl λ_ a=>?_ |refine aU rfl ?_ |apply Aa);(refine aC rfl ?_ ?_<;>rintro⟨⟩)
    · (repeat first|refine tA rfl ?_|(refine Av rfl ?_;refine gA rfl ?_;first| refine gS (λ_ _=>AS rfl rfl (by rfl) (by rfl)) ?_) |refine aU rfl ?_ |apply Aa)
      exact aR ⟨_,rfl,[],bC (⟨0,0,[]⟩,false),[],⟨λi hi=>absurd hi (iZ i),i7⟩,rfl,trivial,(⟨0,0,[]⟩,false),jF _,rfl,rfl,rfl⟩
    apply aK
    cases l with
    | nil=>
      (repeat first|refine tA rfl ?_ |refine aU rfl ?_);(refine pW rfl ?_ rfl (by rfl);refine UK 61 rfl ?_;refine DO rfl rfl rfl (by intro r p;simp at p;subst p;rfl) (by rfl) (ce rfl) (by simp) (λh=>?_) (λ_=>?_))
      · exact absurd h (by simp)
      (repeat first|(refine sA rfl ?_ ?_;first|exact tI|omega) |refine aU rfl ?_ |apply Aa);refine⟨⟨⟨k+1,[⟨I,H,G⟩]⟩,⟨by dsimp only;omega,by dsimp only;omega⟩,by simp at u;simp;omega⟩,by dsimp only;(omega),[0,1,4],?_⟩;(simp[cX,zC,e,cN,Lq,Ag,eC]<;>rfl)
    | cons j l=>
      (repeat first|refine tA rfl ?_ |refine aU rfl ?_);(refine pW rfl ?_ rfl (by rfl);refine Aw rfl rfl rfl (by first| (simp;done)|(simp;(omega))) rfl (by intro r p;simp at p;subst p;rfl) (by rfl) (ce rfl) (by simp at u |-;omega) ?_);(repeat first|(refine sA rfl ?_ ?_;first|exact tI|omega) |refine aU rfl ?_ |apply Aa);refine⟨⟨⟨k+1,j::(l++[⟨I,H,G⟩])⟩,⟨by dsimp only;omega,by dsimp only;omega⟩,by simp at u |-;omega⟩,by dsimp only;(omega),[0,1,4],?_⟩;(simp[cX,zC,e,cN,Lq,Ag,eC]<;>rfl)
  apply aE
  have T:k=ps.length:=by (simp only[oZ] at *;omega)
  have t:l.length<=f.length+1:=by omega
  cases l with
  | nil=>
    refine Ai.Az [1] [(0,eT f),(2,.o (.ptr 0 3 0 0)),(9,.o (.ip (AD ⟨n,st,[]⟩)))] ⟨⟨_,rfl,.inl rfl⟩,⟨_,rfl,.inl rfl⟩,⟨_,rfl,.inr (.o (.box rfl (.cons .d (.cons .d (.cons .nl .nil)))))⟩,trivial⟩ ?_;(repeat first|refine tA rfl ?_ |refine aU rfl ?_);(refine pW rfl ?_ rfl (by rfl);refine Af [] rfl rfl (Hy (TB:=TB) ⟨n,st,[]⟩ (by simp)) ⟨rfl,by decide,by decide⟩ rfl trivial ?_;rintro m b c ⟨J,v,rfl,rfl,rfl⟩ _);(repeat first|refine tA rfl ?_ |refine s2 rfl λ_ a=>?_ |apply Aa);(refine aC rfl ?_ ?_<;>rintro⟨⟩)
    · (repeat first|refine tA rfl ?_|(refine Av rfl ?_;refine gA rfl ?_;first| refine gS (λ_ _=>AS rfl rfl (by rfl) (by rfl)) ?_) |refine aU rfl ?_ |apply Aa)
      exact aR ⟨_,rfl,[],bC (⟨0,0,[]⟩,false),[],⟨λi hi=>absurd hi (iZ i),i7⟩,rfl,trivial,(⟨0,0,[]⟩,false),jF _,rfl,rfl,rfl⟩
    apply aK;(repeat first|refine tA rfl ?_ |refine aU rfl ?_ |apply Aa);exact aR ⟨_,rfl,[],bC (⟨n,st,[]⟩,true),[],⟨λi hi=>absurd hi (iZ i),i7⟩,rfl,trivial,(⟨n,st,[]⟩,true),jF _,rfl,rfl,rfl⟩
  | cons j l=>
    refine Ai.Az [1,2] [(0,eT f),(2,.o (.ptr 0 3 0 0)),(9,.o (.ip (AD ⟨n,st,j::l⟩)))] ⟨⟨_,rfl,.inl rfl⟩,⟨_,rfl,.inl rfl⟩,⟨_,rfl,.inr (.o (.box rfl (.cons .d (.cons .d (.cons (.full rfl (by simp [d5]) (by simp)) .nil)))))⟩,trivial⟩ ?_;(repeat first|refine tA rfl ?_ |refine aU rfl ?_);(refine pW rfl ?_ rfl (by rfl);refine Af [] rfl rfl (Hy (TB:=TB) ⟨n,st,j::l⟩ (by simp at t |-;omega)) ⟨rfl,by decide,by decide⟩ rfl trivial ?_;rintro m b c ⟨J,v,rfl,rfl,rfl⟩ _);(repeat first|refine tA rfl ?_ |refine s2 rfl λ_ a=>?_ |apply Aa);(refine aC rfl ?_ ?_<;>rintro⟨⟩)
    · (repeat first|refine tA rfl ?_|(refine Av rfl ?_;refine gA rfl ?_;first| refine gS (λ_ _=>AS rfl rfl (by rfl) (by rfl)) ?_) |refine aU rfl ?_ |apply Aa)
      exact aR ⟨_,rfl,[],bC (⟨0,0,[]⟩,false),[],⟨λi hi=>absurd hi (iZ i),i7⟩,rfl,trivial,(⟨0,0,[]⟩,false),jF _,rfl,rfl,rfl⟩
    apply aK;(repeat first|refine tA rfl ?_ |refine aU rfl ?_ |apply Aa);exact aR ⟨_,rfl,[],bC (⟨n,st,j::l⟩,true),[],⟨λi hi=>absurd hi (iZ i),i7⟩,rfl,trivial,(⟨n,st,j::l⟩,true),t,rfl,rfl,rfl⟩
theorem Qz{A:W->Bool}{ls:List UInt8}{m:Nat}{u:Bb}{w:W}{R:Option Bb}(b:R=BO A ls (m+1) u)(a:Bg A ls u=some w)(c:u.rows.length < 12):R=BO A ls m ⟨u.rows++[w],u.cols⟩:=by
 rw [b]
 conv=>lhs;unfold BO
 rw [a];dsimp only;rw [if_neg (by omega)]
theorem HL{t:Ez}{al:Int}{A:W->Bool}(hT:IT Tryz.prog TB 123 170 t al A)(tab:Bb)(hz:Sr tab) :
 Pure Tryz.prog TB 121 [DU t,IY tab] (Lp (if AW A al tab then BO A (BE al) 13 tab else none)):=by
 have N:=EB hT tab hz;by_cases v:AW A al tab=true
 ·rw [if_pos v]
  rw [v] at N;have g:Xc al tab:=(Ee v).1;have H:=g.r1;have L:=g.c1;have T:=g.rl;have hcl:=g.cl;refine eG Tryz.func121 rfl (by kernel_rfl) rfl ?_;intro Z e;(repeat first|refine tA rfl ?_ |refine s2 rfl λ_ i=>?_ |refine sP rfl (N) rfl ?_ |refine aU rfl ?_ |apply Aa)
  ((refine aC rfl ?_ ?_<;>rintro⟨⟩);all_goals try (simp at i;done))
  apply aK;(repeat first|refine aU rfl ?_);refine R.RI [(0,2),(1,2),(2,2),(4,2),(5,2),(6,2),(9,3),(3,1),(7,1),(8,2),(10,5)] mixed (by kernel_rfl) rfl (by kernel_rfl) ?_;(repeat ((refine R.Av rfl ?_;first|(refine R.yQ (md:=false) rfl rfl rfl ?_ ?_;exact tI) |refine R.yP rfl rfl rfl rfl ?_|refine R.C8 (λ_ _ _=>PW (by rfl) (by rfl)) rfl rfl ?_ )));(refine R.Av rfl ?_;refine R.Mf (λ_=>?_) rfl rfl;refine DO rfl rfl rfl (by intro r k;simp at k;obtain⟨_,_,rfl⟩:=k;rfl) (by rfl) (ce rfl) (by simp;omega) (λh=>?_) (λ_=>?_))
  ·exfalso;simp at h;rw [h] at H;simp at H
  (refine R.Av rfl ?_;refine R.Mf (λ_=>?_) rfl rfl;refine DO rfl rfl rfl (by intro r k;simp at k;obtain⟨_,_,rfl⟩:=k;rfl) (by rfl) (ce rfl) (by simp;omega) (λh=>?_) (λ_=>?_))
  ·exfalso;simp at h;rw [h] at L;simp at L
  (repeat ((refine R.Av rfl ?_;first|refine R.yA rfl rfl rfl rfl ?_|refine R.C8 (λ_ _ _=>AS rfl rfl (by rfl) (by rfl)) rfl rfl ?_ )));refine R.Ro ?_;apply aS;refine Ai.Ay [2] [] rfl rfl [(4,.o (.ptr 0 2 0 0)),(6,.o (.ptr 3 2 0 0))] [(0,.cells 98 2 [[.d (.l []),.d (.l [])]]),(1,.cells 9 1 (tab.rows.map IQ)),(2,.cells 9 1 (tab.cols.map IQ)),(3,.cells 98 2 [[.arr 1 1 0 tab.rows.length,.arr 2 1 0 tab.cols.length]])] [0,1,2,3] (rl e rfl) (by (simp[cX,zC,e])) ?_;(try dsimp only[cA,cB]);have s:=I8 hT tab hz
  have G:∀l:List W,((l.map IQ).drop 0).take l.length=(l.map C0).map (λr=>r.map C.d):=λl=>by rw [jV,iY (by simp)];simp [d5]
  have K:∀u:Bb,dK [(0,.cells 98 2 [[.d (.l []),.d (.l [])]]),(1,.cells 9 1 (u.rows.map IQ)),(2,.cells 9 1 (u.cols.map IQ)),(3,.cells 98 2 [[.arr 1 1 0 u.rows.length,.arr 2 1 0 u.cols.length]])] [DU t,.a [.arr 1 1 0 u.rows.length,.arr 2 1 0 u.cols.length]] [DU t,IY u]:=λu=>
   .cons (.cons (.pure rfl) (.cons (.pure rfl) (.cons (.pure rfl) (.cons (.pure rfl) (.cons (.pure rfl) (.cons (.pure rfl) (.cons (.pure rfl) (.cons (.pure rfl) (.cons (.pure rfl) (.cons (.pure rfl) (.cons (.pure rfl) .nil))))))))))) (.cons (.cons (.arr rfl (by simp) (G _)) (.cons (.arr rfl (by simp) (G _)) .nil)) .nil)
  have I:∀x:Bb,ZF (Bg A (BE al) x)=.t [(false,[.d (tD ((Bg A (BE al) x).getD []))]),(false,[.d (bD (Bg A (BE al) x).isSome)])]:=λx=>by cases Bg A (BE al) x<;>rfl
  rw [I] at s;(repeat first|refine tA rfl ?_|(refine Av rfl ?_;refine gA rfl ?_;first| refine gQ (JZ rfl rfl ((K tab)) (s) rfl) rfl ?_) |refine aU rfl ?_ |apply Aa)
  obtain⟨R,hR⟩:∃R,R=BO A (BE al) 13 tab:=⟨_,rfl⟩
  rw [<-hR];apply aB;refine aL (α:={p:Nat×Bb // p.1<=13/\13<=p.1+p.2.rows.length/\p.2.rows.length<=12/\p.2.cols.length<=20/\(∀w∈p.2.rows,w.length<=50000+p.2.rows.length)/\(∀w∈p.2.cols,w.length<=4000)/\R=BO A (BE al) p.1 p.2}) [2,4,6] [0] rfl rfl (λ⟨⟨m,u⟩,M,q,n,j,b,c,z⟩=>[(7,eT ((Bg A (BE al) u).getD [])),(8,eB (Bg A (BE al) u).isSome)]) (λ⟨⟨m,u⟩,M,q,n,j,b,c,z⟩=>[(1,.cells 9 1 (u.rows.map IQ)),(2,.cells 9 1 (u.cols.map IQ)),(3,.cells 98 2 [[.arr 1 1 0 u.rows.length,.arr 2 1 0 u.cols.length]])]) 4 (λ⟨⟨m,u⟩,M,q,n,j,b,c,z⟩=>m) (⟨(13,tab),by simp,by simp,T,hcl,λw F=>by have:=(g.rw w F).1;show w.length<=50000+tab.rows.length;omega,λw F=>(g.cw w F).1,hR⟩) e rfl (by (simp[cX,zC,e])) ?_;rintro⟨⟨m,u⟩,M,q,n,j,b,c,z⟩;(try dsimp only[cA,cB]);dsimp only at M q n j b c z
  have Q:Bg A (BE al) u=none\/∃w,Bg A (BE al) u=some w:=by cases Bg A (BE al) u<;>simp
  rcases Q with y|⟨w,y⟩
  ·rw [y]
   have X:R=some u:=by
    rw [z]
    obtain⟨m',rfl⟩:∃m',m=m'+1:=⟨m - 1,by omega⟩
    simp [BO,y]
   (repeat first|refine tA rfl ?_ |refine aU rfl ?_ |apply Aa)
   ((refine aC rfl ?_ ?_<;>rintro⟨⟩);all_goals try (simp at i;done))
   apply aE;(repeat first|refine tA rfl ?_ |refine aU rfl ?_ |apply Aa);refine Ai.settle [(4,.o (.ip [FR u.rows,FR u.cols])),(5,eB true)] ⟨⟨_,rfl,.o (.box rfl (.cons (.full rfl (by simp [d5]) (by simp)) (.cons (.full rfl (by simp [d5]) (by simp)) .nil)))⟩,⟨_,rfl,.o .d⟩,trivial⟩ ?_;refine aR ⟨_,rfl,?_⟩;rw [X];rfl
  ·rw [y]
   obtain⟨m',rfl⟩:∃m',m=m'+1:=⟨m - 1,by omega⟩
   obtain⟨⟨r,k,l,hl,F⟩,_⟩:=Hn y
   have B:w.length<=50000+(u.rows++[w]).length:=by
    have:=b r k;rw [F];simp;omega
   (repeat first|refine tA rfl ?_ |refine aU rfl ?_ |apply Aa)
   ((refine aC rfl ?_ ?_<;>rintro⟨⟩);all_goals try (simp at i;done))
   apply aK;apply aB;(repeat first|refine tA rfl ?_ |refine s2 rfl λ_ i=>?_ |refine aU rfl ?_ |apply Aa);(refine aC rfl ?_ ?_<;>rintro⟨⟩)
   ·have h12:u.rows.length=12:=by (simp only[oZ] at *;omega)
    have X:R=none:=by
     rw [z];simp [BO,y,h12]
    (repeat first|refine tA rfl ?_|(refine Av rfl ?_;refine gA rfl ?_;first| refine gS (λ_ _=>AS rfl rfl (by rfl) (by rfl)) ?_) |refine aU rfl ?_ |apply Aa);refine Ai.settle [(4,.o (.ip [.l [],.l []])),(5,eB false)] ⟨⟨_,rfl,.o (.box rfl (.cons .d (.cons .d .nil)))⟩,⟨_,rfl,.o .d⟩,trivial⟩ ?_;refine aR ⟨_,rfl,?_⟩;rw [X];rfl
   ·have Y:u.rows.length < 12:=by (simp only[oZ] at *;omega)
    have S:=Qz z y Y
    have P:Sr ⟨u.rows++[w],u.cols⟩:=⟨by simp;omega,by dsimp only;omega,λx f=>by
     rcases f6.1 f with f|f
     ·have:=b x f;omega
     ·simp at f;subst f;simp at B;omega,λx f=>by have:=c x f;omega⟩
    have J:=I8 hT ⟨u.rows++[w],u.cols⟩ P;rw [I] at J;apply aK;(repeat first|refine tA rfl ?_ |refine aU rfl ?_);(refine pW rfl ?_ rfl (by rfl);refine Aw rfl rfl rfl (by first| (simp;done)|(simp;(omega))) rfl (by intro r k;simp at k;subst k;rfl) (by rfl) (ce rfl) (by simp;omega) ?_);(repeat first|refine tA rfl ?_);apply Aa
    have V:∀x∈u.rows++[w],x.length<=50000+(u.rows++[w]).length:=λx f=>by
     rcases f6.1 f with f|f
     ·have:=b x f;simp;omega
     ·simp at f;subst f;exact B
    refine Ai.Ay [2,4,6] [] rfl rfl [] [(0,.cells 98 2 [[.d (.l []),.d (.l [])]]),(1,.cells 9 1 ((u.rows++[w]).map IQ)),(2,.cells 9 1 (u.cols.map IQ)),(3,.cells 98 2 [[.arr 1 1 0 (u.rows++[w]).length,.arr 2 1 0 u.cols.length]])] [0,4,2,3] (rl e rfl) (by (simp[cX,zC,e])) ?_;(try dsimp only[cA,cB]);(repeat first|refine tA rfl ?_|(refine Av rfl ?_;refine gA rfl ?_;first| refine gQ (JZ rfl rfl ((K ⟨u.rows++[w],u.cols⟩)) (J) rfl) rfl ?_) |refine aU rfl ?_ |apply Aa);refine⟨⟨⟨m',⟨u.rows++[w],u.cols⟩⟩,by dsimp only;omega,by simp;omega,by simp;omega,j,V,c,S⟩,by dsimp only;(omega),[0,1,2,3],?_⟩;simp[cX,zC,e]
 ·have v:AW A al tab=false:=by simpa using v
  rw [if_neg (by simp [v])];rw [v] at N;refine eG Tryz.func121 rfl (by kernel_rfl) rfl ?_;intro Z e;(repeat first|refine tA rfl ?_ |refine s2 rfl λ_ i=>?_ |refine sP rfl (N) rfl ?_ |refine aU rfl ?_ |apply Aa)
  ((refine aC rfl ?_ ?_<;>rintro⟨⟩);all_goals try (simp at i;done))
  (repeat first|refine tA rfl ?_|(refine Av rfl ?_;refine gA rfl ?_;first| refine gS (λ_ _=>AS rfl rfl (by rfl) (by rfl)) ?_) |refine aU rfl ?_ |apply Aa);refine Ai.settle [(4,.o (.ip [.l [],.l []])),(5,eB false)] ⟨⟨_,rfl,.o (.box rfl (.cons .d (.cons .d .nil)))⟩,⟨_,rfl,.o .d⟩,trivial⟩ ?_;refine aR ⟨_,rfl,rfl⟩
def IN(m n:Nat):Nat:=(List.range n).countP (m.testBit ·)
theorem NF(m n:Nat):IN m (n+1)=if m.testBit n then IN m n+1 else IN m n:=by
 unfold IN;rw [kG,List.countP_append];cases h:m.testBit n<;>simp [h]
theorem YJ(m n:Nat):IN m n<=n:=by
 unfold IN;have:=List.countP_le_length (p:=(m.testBit ·)) (l:=List.range n);rwa [List.length_range] at this
theorem KM(m:Nat)(e:m < 2 ^ 62)(n:Nat)(h:n<=60):Pure Tryz.prog TB 165 [eI .i64 (m:Nat),eI .i64 (n:Nat)] (eI .i64 (IN m n:Nat)):=by
 refine eG Tryz.func165 rfl (by kernel_rfl) rfl ?_;intro Z a;(repeat first|refine tA rfl ?_ |refine aU rfl ?_ |apply Aa);apply aB;refine aL (α:={k:Nat // k<=n}) [0,1] [] rfl rfl (λ⟨k,hk⟩=>[(5,eI .i64 (IN m k:Nat)),(6,eI .i64 k)]) (λ⟨k,hk⟩=>[]) 0 (λ⟨k,hk⟩=>n - k) (⟨0,by omega⟩) a rfl (by (simp[cX,zC,a]<;>rfl)) ?_;rintro⟨k,hk⟩;(try dsimp only[cA,cB]);by_cases f:k < n
 ·have g:=YJ m k
  have c:=NF m k;have d:=Cv (TB:=TB) (m:Nat) (k:Int) (by omega) (by omega);rw [CK e (by omega)] at d;(repeat first|refine tA rfl ?_ |refine s2 rfl λ_ b=>?_ |refine aU rfl ?_ |apply Aa)
  ((refine aC rfl ?_ ?_<;>rintro⟨⟩);all_goals try(exfalso;(simp only[oZ] at *;omega)))
  apply aK;refine aS (aB ?_);(repeat first|refine tA rfl ?_ |(refine sC rfl (d) ?_;intro _ b) |refine aU rfl ?_ |apply Aa);(refine aC rfl ?_ ?_<;>rintro⟨⟩)
  ·have hb:m.testBit k=true:=by simpa using b
   rw [if_pos hb] at c;(repeat first|(refine sA rfl ?_ ?_;first|exact tI|omega) |refine aU rfl ?_ |apply Aa);refine⟨⟨k+1,by omega⟩,by dsimp only;(omega),[],?_⟩;simp[cX,zC,a,c]
  ·have hb:m.testBit k=false:=by simpa using b
   rw [if_neg (by simp [hb])] at c;apply aK;(repeat first|(refine sA rfl ?_ ?_;first|exact tI|omega) |refine aU rfl ?_ |apply Aa);refine⟨⟨k+1,by omega⟩,by dsimp only;(omega),[],?_⟩;simp[cX,zC,a,c]
 ·obtain rfl:k=n:=by omega
  (repeat first|refine tA rfl ?_ |refine s2 rfl λ_ b=>?_ |refine aU rfl ?_ |apply Aa)
  ((refine aC rfl ?_ ?_<;>rintro⟨⟩);all_goals try(exfalso;(simp only[oZ] at *;omega)))
  apply aE;(repeat first|refine tA rfl ?_ |refine aU rfl ?_ |apply Aa);(subst_vars;exact aR ⟨_,rfl,rfl⟩)
def ZS(al n:Int)(l:List DA):Ab:=(0,.cells 25 3 [[.d (iD 0),.d (iD 0),.d (.l [])]])::Lq al n l
theorem Td(n:Int)(d:0<=n)(g:n<=16):Pure Tryz.prog TB 120 [eI .i64 n] (eI .i64 ((2 ^ n.toNat:Nat):Int)):=by
 have a:IntKind.i64.wrap (1*2 ^ (min n.toNat IntKind.i64.bits))=((2 ^ n.toNat:Nat):Int):=by
  have e:min n.toNat IntKind.i64.bits=n.toNat:=by
   have:IntKind.i64.bits=64:=rfl;omega
  rw [e,ma];have f:2 ^ n.toNat < 2 ^ 17:=kO (by omega) (by omega)
  have c:(2:Int) ^ n.toNat=((2 ^ n.toNat:Nat):Int):=by push_cast;rfl
  rw [c];generalize 2 ^ n.toNat=p at *;exact IntWalk.i64_in _ (by omega)
 refine eN Tryz.func120 rfl (by kernel_rfl) rfl ?_;intro Z b;(repeat' first|(refine sA rfl ?_ ?_;first|exact tI|omega)|(refine Av rfl ?_;refine gA rfl ?_;first| refine gS (λ_ _=>YI rfl rfl d a) ?_) |refine aU rfl ?_ |apply Aa|(refine aC rfl ?_ ?_<;>rintro⟨⟩)|apply aK|apply aE|apply aB|refine aR ⟨_,rfl,?_⟩);rfl
abbrev iJ(r:Eh×Bool):E:=.t [(true,(Sh r.1).map .d),(false,[.d (bD r.2)])]
theorem En(b:List UInt8)(hb:b.length<=2000)(p:Int)(P:0<=p/\p < 800000000)(y:Sys)(N:y.es.length<=100000):Spec Tryz.prog TB 106 [(0,A5 b p)] 1 [.o (.ptr 0 2 0 0),Bx y] (Jq b p 5 (λs=>s.es.length<=y.es.length+1)):=by
 obtain⟨k,M,L,hk⟩:=A1 (TB:=TB) b hb p y.es.length (by omega);obtain⟨c,S,Q,K⟩:=A1 (TB:=TB) b hb (p+1) 30 (by omega);refine eR Tryz.func106 rfl (by kernel_rfl) rfl ?_;intro Z a;(repeat first|refine tA rfl ?_ |refine aU rfl ?_ |apply Aa);refine R.RI [(0,2),(1,2),(2,2),(3,2),(5,2),(6,2),(9,3),(4,1),(7,1),(8,0),(10,5)] mixed (by kernel_rfl) rfl (by kernel_rfl) ?_;(repeat ((refine R.Av rfl ?_;first|(refine R.yQ (md:=false) rfl rfl rfl ?_ ?_;exact tI) |refine R.yP rfl rfl rfl rfl ?_ )));(refine R.Av rfl ?_;refine R.Mf (λ_=>?_) rfl rfl;refine Bd rfl rfl rfl rfl (by simp) (by rfl) (by rfl) (by rfl) (by rfl) ?_);(refine R.Av rfl ?_;refine R.Mf (λ_=>?_) rfl rfl;refine Aw rfl rfl rfl (by simp) rfl (by intro r u;simp only [ka,f7] at u;obtain⟨_,_,rfl⟩:=u;rfl) (by rfl) (ce rfl) (by simp;omega) ?_);(repeat ((refine R.Av rfl ?_;first|refine R.yA rfl rfl rfl rfl ?_|refine R.C8 (λ_ _ _=>AS rfl rfl (by rfl) (by rfl)) rfl rfl ?_ )));refine R.Ro ?_;refine Ai.Ay [0] [] rfl rfl [(4,.o (.ptr 1 3 0 0)),(5,.o (.ptr 3 3 0 0))] [(0,A5 b p),(1,.cells 25 3 [[.d (iD 0),.d (iD 0),.d (.l [])]]),(2,.cells 116 3 (y.es.map A4)),(3,.cells 25 3 [[.d (iD y.al),.d (iD y.st),.arr 2 3 0 y.es.length]])] [0,1,3,4] (rl a rfl) (by (simp[cX,zC,a,cN,Ag,DL,eC])) ?_;(try dsimp only[cA,cB]);(repeat first|refine tA rfl ?_ |refine aU rfl ?_ |apply Aa);(refine pW rfl ?_ rfl (by rfl);refine Af [0] rfl rfl (hk) ⟨rfl,by decide,by decide⟩ rfl (by simp[cX,zC,a,cN]) ?_;rintro t j m ⟨rfl,rfl,rfl⟩ _);(repeat first|refine tA rfl ?_ |refine aU rfl ?_ |apply Aa);(refine pW rfl ?_ rfl (by rfl);refine Af [0] rfl rfl (K) ⟨rfl,by decide,by decide⟩ rfl (by simp[cX,zC,a,cN]) ?_;rintro t j m ⟨rfl,rfl,rfl⟩ _);apply Aa;refine Ai.Ay [0] [] rfl rfl [(4,.o (.ptr 1 3 0 0)),(5,.o (.ptr 3 3 0 0)),(6,eI .i64 y.es.length),(7,eI .i64 k),(24,eI .i64 c)] [(0,A5 b (p+1+1)),(1,.cells 25 3 [[.d (iD 0),.d (iD 0),.d (.l [])]]),(2,.cells 116 3 (y.es.map A4)),(3,.cells 25 3 [[.d (iD y.al),.d (iD y.st),.arr 2 3 0 y.es.length]])] [0,1,2,3] (rl a rfl) (by (simp[cX,zC,a,cN])) ?_;(try dsimp only[cA,cB]);apply aB;(repeat first|refine tA rfl ?_ |refine s2 rfl λ_ e=>?_ |refine aU rfl ?_ |apply Aa);(refine aC rfl ?_ ?_<;>rintro⟨⟩)
 ·obtain⟨z,G,v⟩:=Cn (TB:=TB) b hb (p+1+1) (by omega) [64,-1,1,63] (by decide) (by decide)
  (repeat first|refine tA rfl ?_ |refine aU rfl ?_);(refine pW rfl ?_ rfl (by rfl);refine Af [0] rfl rfl (v) ⟨rfl,by decide,by decide⟩ rfl (by simp[cX,zC,a,cN]) ?_;rintro t j m ⟨rfl,rfl,rfl⟩ _);(repeat first|refine tA rfl ?_ |refine aU rfl ?_ |apply Aa);refine Ai.Ay [] [] rfl rfl [(4,.o (.ptr 1 3 0 0))] [(0,A5 b (p+1+1+1)),(1,.cells 25 3 [[.d (iD (z)),.d (iD (y.st)),.arr 2 3 0 (y.es).length]]),(2,.cells 116 3 ((y.es).map A4))] [0,1,2] (rl a rfl) (by (simp[cX,zC,a,cN,Ag,eC])) ?_;(try dsimp only[cA,cB]);refine Ai.Az [1,2] [(4,.o (.ip (AD ⟨z,y.st,y.es⟩)))] ⟨⟨_,rfl,.inr (.o (.box rfl (.cons .d (.cons .d (.cons (.full rfl (by simp [d5]) (by simp)) .nil)))))⟩,trivial⟩ ?_;refine aR ⟨_,rfl,[0],Bx ⟨z,y.st,y.es⟩,[(0,A5 b (p+1+1+1))],⟨by intro i hi;match i with|0=>rfl,by decide⟩,rfl,by (simp[cX,zC,a,cN]),p+1+1+1,⟨z,y.st,y.es⟩,by omega,by first|(simp;done)|(simp;omega),rfl,rfl,rfl⟩
 (repeat first|refine tA rfl ?_ |refine s2 rfl λ_ e=>?_ |refine aU rfl ?_ |apply Aa);(refine aC rfl ?_ ?_<;>rintro⟨⟩)
 ·obtain⟨z,G,v⟩:=Cn (TB:=TB) b hb (p+1+1) (by omega) [0,17,-1,16,1] (by decide) (by decide)
  (repeat first|refine tA rfl ?_ |refine aU rfl ?_);(refine pW rfl ?_ rfl (by rfl);refine Af [0] rfl rfl (v) ⟨rfl,by decide,by decide⟩ rfl (by simp[cX,zC,a,cN]) ?_;rintro t j m ⟨rfl,rfl,rfl⟩ _);(repeat first|refine tA rfl ?_ |refine aU rfl ?_ |apply Aa);refine Ai.Ay [] [] rfl rfl [(4,.o (.ptr 1 3 0 0))] [(0,A5 b (p+1+1+1)),(1,.cells 25 3 [[.d (iD (y.al)),.d (iD (z)),.arr 2 3 0 (y.es).length]]),(2,.cells 116 3 ((y.es).map A4))] [0,1,2] (rl a rfl) (by (simp[cX,zC,a,cN,Ag,eC])) ?_;(try dsimp only[cA,cB]);refine Ai.Az [1,2] [(4,.o (.ip (AD ⟨y.al,z,y.es⟩)))] ⟨⟨_,rfl,.inr (.o (.box rfl (.cons .d (.cons .d (.cons (.full rfl (by simp [d5]) (by simp)) .nil)))))⟩,trivial⟩ ?_;refine aR ⟨_,rfl,[0],Bx ⟨y.al,z,y.es⟩,[(0,A5 b (p+1+1+1))],⟨by intro i hi;match i with|0=>rfl,by decide⟩,rfl,by (simp[cX,zC,a,cN]),p+1+1+1,⟨y.al,z,y.es⟩,by omega,by first|(simp;done)|(simp;omega),rfl,rfl,rfl⟩
 (repeat first|refine tA rfl ?_ |refine s2 rfl λ_ e=>?_ |refine aU rfl ?_ |apply Aa);(refine aC rfl ?_ ?_<;>rintro⟨⟩)
 ·by_cases v:y.es.length=0
  ·(repeat' first|refine tA rfl ?_ |refine s2 rfl λ_ e=>?_ |refine aU rfl ?_ |apply Aa|(refine aC rfl ?_ ?_<;>rintro⟨⟩));all_goals try contradiction
   all_goals first
    | (exfalso;(simp only[oZ] at *;omega);done)
    | (apply aK;(repeat first|refine tA rfl ?_ |refine aU rfl ?_ |apply Aa);refine Ai.Ay [] [] rfl rfl [(4,.o (.ptr 1 3 0 0))] [(0,A5 b (p+1+1)),(1,.cells 25 3 [[.d (iD (y.al)),.d (iD (y.st)),.arr 2 3 0 (y.es).length]]),(2,.cells 116 3 ((y.es).map A4))] [0,1,2] (rl a rfl) (by (simp[cX,zC,a,cN,Ag,eC])) ?_;(try dsimp only[cA,cB]);refine Ai.Az [1,2] [(4,.o (.ip (AD ⟨y.al,y.st,y.es⟩)))] ⟨⟨_,rfl,.inr (.o (.box rfl (.cons .d (.cons .d (.cons (.full rfl (by simp [d5]) (by simp)) .nil)))))⟩,trivial⟩ ?_;refine aR ⟨_,rfl,[0],Bx ⟨y.al,y.st,y.es⟩,[(0,A5 b (p+1+1))],⟨by intro i hi;match i with|0=>rfl,by decide⟩,rfl,by (simp[cX,zC,a,cN]),p+1+1,⟨y.al,y.st,y.es⟩,by omega,by first|(simp;done)|(simp;omega),rfl,rfl,rfl⟩)
  obtain⟨⟨h,g,f⟩,x⟩:=get_some (l:=y.es) (k:=k.toNat) (by omega)
  have w:(y.es.map A4)[0+k.toNat]? = some (A4 ⟨h,g,f⟩):=by rw [jd];simp [x]
  obtain⟨z,G,q⟩:=Cn (TB:=TB) b hb (p+1+1) (by omega) [-1,16,0,2] (by decide) (by decide)
  have n:(y.es.map A4).set (0+k.toNat) (A4 ⟨z,g,f⟩)=(y.es.set k.toNat ⟨z,g,f⟩).map A4:=by rw [jd,jU]
  (repeat first|refine tA rfl ?_ |refine s2 rfl λ_ e=>?_ |refine aU rfl ?_ |apply Aa)
  ((refine aC rfl ?_ ?_<;>rintro⟨⟩);all_goals try(exfalso;(simp only[oZ] at *;omega)))
  refine rG (IG [(1,13),(5,1008),(6,2),(7,2),(8,1)]) (by kernel_rfl) ?_;(repeat first|refine tA rfl ?_);(refine Av rfl ?_;refine CY ?_ rfl ⟨rfl,rfl⟩;refine Af [0] rfl rfl (q) ⟨rfl,by decide,by decide⟩ rfl (by simp[cX,zC,a,cN]) ?_;rintro t j m ⟨rfl,rfl,rfl⟩ _;refine⟨Fy 3 rfl rfl,?_⟩);(repeat first|(refine sA rfl ?_ ?_;first|exact tI|omega) |refine t4 rfl ‹_› rfl ?_ |refine aU rfl ?_ |apply Aa);refine Ai.Ay [] [] rfl rfl [(4,.o (.ptr 1 3 0 0))] [(0,A5 b (p+1+1+1)),(1,.cells 25 3 [[.d (iD (y.al)),.d (iD (y.st)),.arr 2 3 0 (y.es.set k.toNat ⟨z,g,f⟩).length]]),(2,.cells 116 3 ((y.es.set k.toNat ⟨z,g,f⟩).map A4))] [0,1,2] (rl a rfl) (by (simp[cX,zC,a,cN,Ag,eC,n])) ?_;(try dsimp only[cA,cB]);refine Ai.Az [1,2] [(4,.o (.ip (AD ⟨y.al,y.st,y.es.set k.toNat ⟨z,g,f⟩⟩)))] ⟨⟨_,rfl,.inr (.o (.box rfl (.cons .d (.cons .d (.cons (.full rfl (by simp [d5]) (by simp)) .nil)))))⟩,trivial⟩ ?_;refine aR ⟨_,rfl,[0],Bx ⟨y.al,y.st,y.es.set k.toNat ⟨z,g,f⟩⟩,[(0,A5 b (p+1+1+1))],⟨by intro i hi;match i with|0=>rfl,by decide⟩,rfl,by (simp[cX,zC,a,cN]),p+1+1+1,⟨y.al,y.st,y.es.set k.toNat ⟨z,g,f⟩⟩,by omega,by first|(simp;done)|(simp;omega),rfl,rfl,rfl⟩
 (repeat first|refine tA rfl ?_ |refine s2 rfl λ_ e=>?_ |refine aU rfl ?_ |apply Aa);(refine aC rfl ?_ ?_<;>rintro⟨⟩)
 ·by_cases v:y.es.length=0
  ·(repeat' first|refine tA rfl ?_ |refine s2 rfl λ_ e=>?_ |refine aU rfl ?_ |apply Aa|(refine aC rfl ?_ ?_<;>rintro⟨⟩));all_goals try contradiction
   all_goals first
    | (exfalso;(simp only[oZ] at *;omega);done)
    | (apply aK;(repeat first|refine tA rfl ?_ |refine aU rfl ?_ |apply Aa);refine Ai.Ay [] [] rfl rfl [(4,.o (.ptr 1 3 0 0))] [(0,A5 b (p+1+1)),(1,.cells 25 3 [[.d (iD (y.al)),.d (iD (y.st)),.arr 2 3 0 (y.es).length]]),(2,.cells 116 3 ((y.es).map A4))] [0,1,2] (rl a rfl) (by (simp[cX,zC,a,cN,Ag,eC])) ?_;(try dsimp only[cA,cB]);refine Ai.Az [1,2] [(4,.o (.ip (AD ⟨y.al,y.st,y.es⟩)))] ⟨⟨_,rfl,.inr (.o (.box rfl (.cons .d (.cons .d (.cons (.full rfl (by simp [d5]) (by simp)) .nil)))))⟩,trivial⟩ ?_;refine aR ⟨_,rfl,[0],Bx ⟨y.al,y.st,y.es⟩,[(0,A5 b (p+1+1))],⟨by intro i hi;match i with|0=>rfl,by decide⟩,rfl,by (simp[cX,zC,a,cN]),p+1+1,⟨y.al,y.st,y.es⟩,by omega,by first|(simp;done)|(simp;omega),rfl,rfl,rfl⟩)
  obtain⟨⟨h,g,f⟩,x⟩:=get_some (l:=y.es) (k:=k.toNat) (by omega)
  have w:(y.es.map A4)[0+k.toNat]? = some (A4 ⟨h,g,f⟩):=by rw [jd];simp [x]
  obtain⟨z,G,q⟩:=Cn (TB:=TB) b hb (p+1+1) (by omega) [-1,16,0,3] (by decide) (by decide)
  have n:(y.es.map A4).set (0+k.toNat) (A4 ⟨h,g,z⟩)=(y.es.set k.toNat ⟨h,g,z⟩).map A4:=by rw [jd,jU]
  (repeat first|refine tA rfl ?_ |refine s2 rfl λ_ e=>?_ |refine aU rfl ?_ |apply Aa)
  ((refine aC rfl ?_ ?_<;>rintro⟨⟩);all_goals try(exfalso;(simp only[oZ] at *;omega)))
  refine rG (IG [(1,13),(5,1008),(6,2),(7,2),(8,1)]) (by kernel_rfl) ?_;(repeat first|refine tA rfl ?_);(refine Av rfl ?_;refine CY ?_ rfl ⟨rfl,rfl⟩;refine Af [0] rfl rfl (q) ⟨rfl,by decide,by decide⟩ rfl (by simp[cX,zC,a,cN]) ?_;rintro t j m ⟨rfl,rfl,rfl⟩ _;refine⟨Fy 3 rfl rfl,?_⟩);(repeat first|(refine sA rfl ?_ ?_;first|exact tI|omega) |refine t4 rfl ‹_› rfl ?_ |refine aU rfl ?_ |apply Aa);refine Ai.Ay [] [] rfl rfl [(4,.o (.ptr 1 3 0 0))] [(0,A5 b (p+1+1+1)),(1,.cells 25 3 [[.d (iD (y.al)),.d (iD (y.st)),.arr 2 3 0 (y.es.set k.toNat ⟨h,g,z⟩).length]]),(2,.cells 116 3 ((y.es.set k.toNat ⟨h,g,z⟩).map A4))] [0,1,2] (rl a rfl) (by (simp[cX,zC,a,cN,Ag,eC,n])) ?_;(try dsimp only[cA,cB]);refine Ai.Az [1,2] [(4,.o (.ip (AD ⟨y.al,y.st,y.es.set k.toNat ⟨h,g,z⟩⟩)))] ⟨⟨_,rfl,.inr (.o (.box rfl (.cons .d (.cons .d (.cons (.full rfl (by simp [d5]) (by simp)) .nil)))))⟩,trivial⟩ ?_;refine aR ⟨_,rfl,[0],Bx ⟨y.al,y.st,y.es.set k.toNat ⟨h,g,z⟩⟩,[(0,A5 b (p+1+1+1))],⟨by intro i hi;match i with|0=>rfl,by decide⟩,rfl,by (simp[cX,zC,a,cN]),p+1+1+1,⟨y.al,y.st,y.es.set k.toNat ⟨h,g,z⟩⟩,by omega,by first|(simp;done)|(simp;omega),rfl,rfl,rfl⟩
 (repeat first|refine tA rfl ?_ |refine s2 rfl λ_ e=>?_ |refine aU rfl ?_ |apply Aa);(refine aC rfl ?_ ?_<;>rintro⟨⟩)
 ·by_cases v:y.es.length=0
  ·(repeat' first|refine tA rfl ?_ |refine s2 rfl λ_ e=>?_ |refine aU rfl ?_ |apply Aa|(refine aC rfl ?_ ?_<;>rintro⟨⟩));all_goals try contradiction
   all_goals first
    | (exfalso;(simp only[oZ] at *;omega);done)
    | (apply aK;(repeat first|refine tA rfl ?_ |refine aU rfl ?_ |apply Aa);refine Ai.Ay [] [] rfl rfl [(4,.o (.ptr 1 3 0 0))] [(0,A5 b (p+1+1)),(1,.cells 25 3 [[.d (iD (y.al)),.d (iD (y.st)),.arr 2 3 0 (y.es).length]]),(2,.cells 116 3 ((y.es).map A4))] [0,1,2] (rl a rfl) (by (simp[cX,zC,a,cN,Ag,eC])) ?_;(try dsimp only[cA,cB]);refine Ai.Az [1,2] [(4,.o (.ip (AD ⟨y.al,y.st,y.es⟩)))] ⟨⟨_,rfl,.inr (.o (.box rfl (.cons .d (.cons .d (.cons (.full rfl (by simp [d5]) (by simp)) .nil)))))⟩,trivial⟩ ?_;refine aR ⟨_,rfl,[0],Bx ⟨y.al,y.st,y.es⟩,[(0,A5 b (p+1+1))],⟨by intro i hi;match i with|0=>rfl,by decide⟩,rfl,by (simp[cX,zC,a,cN]),p+1+1,⟨y.al,y.st,y.es⟩,by omega,by first|(simp;done)|(simp;omega),rfl,rfl,rfl⟩)
  obtain⟨⟨h,g,f⟩,x⟩:=get_some (l:=y.es) (k:=k.toNat) (by omega)
  have w:(y.es.map A4)[0+k.toNat]? = some (A4 ⟨h,g,f⟩):=by rw [jd];simp [x]
  obtain⟨z,G,q⟩:=Cn (TB:=TB) b hb (p+1+1) (by omega) [-1,6,70,5,0] (by decide) (by decide)
  have n:(y.es.map A4).set (0+k.toNat) (A4 ⟨h,z,f⟩)=(y.es.set k.toNat ⟨h,z,f⟩).map A4:=by rw [jd,jU]
  (repeat first|refine tA rfl ?_ |refine s2 rfl λ_ e=>?_ |refine aU rfl ?_ |apply Aa)
  ((refine aC rfl ?_ ?_<;>rintro⟨⟩);all_goals try(exfalso;(simp only[oZ] at *;omega)))
  refine rG (IG [(1,13),(5,1008),(6,2),(7,2),(8,1)]) (by kernel_rfl) ?_;(repeat first|refine tA rfl ?_);(refine Av rfl ?_;refine CY ?_ rfl ⟨rfl,rfl⟩;refine Af [0] rfl rfl (q) ⟨rfl,by decide,by decide⟩ rfl (by simp[cX,zC,a,cN]) ?_;rintro t j m ⟨rfl,rfl,rfl⟩ _;refine⟨Fy 3 rfl rfl,?_⟩);(repeat first|(refine sA rfl ?_ ?_;first|exact tI|omega) |refine t4 rfl ‹_› rfl ?_ |refine aU rfl ?_ |apply Aa);refine Ai.Ay [] [] rfl rfl [(4,.o (.ptr 1 3 0 0))] [(0,A5 b (p+1+1+1)),(1,.cells 25 3 [[.d (iD (y.al)),.d (iD (y.st)),.arr 2 3 0 (y.es.set k.toNat ⟨h,z,f⟩).length]]),(2,.cells 116 3 ((y.es.set k.toNat ⟨h,z,f⟩).map A4))] [0,1,2] (rl a rfl) (by (simp[cX,zC,a,cN,Ag,eC,n])) ?_;(try dsimp only[cA,cB]);refine Ai.Az [1,2] [(4,.o (.ip (AD ⟨y.al,y.st,y.es.set k.toNat ⟨h,z,f⟩⟩)))] ⟨⟨_,rfl,.inr (.o (.box rfl (.cons .d (.cons .d (.cons (.full rfl (by simp [d5]) (by simp)) .nil)))))⟩,trivial⟩ ?_;refine aR ⟨_,rfl,[0],Bx ⟨y.al,y.st,y.es.set k.toNat ⟨h,z,f⟩⟩,[(0,A5 b (p+1+1+1))],⟨by intro i hi;match i with|0=>rfl,by decide⟩,rfl,by (simp[cX,zC,a,cN]),p+1+1+1,⟨y.al,y.st,y.es.set k.toNat ⟨h,z,f⟩⟩,by omega,by first|(simp;done)|(simp;omega),rfl,rfl,rfl⟩
 (repeat first|refine tA rfl ?_ |refine s2 rfl λ_ e=>?_ |refine aU rfl ?_ |apply Aa);(refine aC rfl ?_ ?_<;>rintro⟨⟩)
 ·by_cases v:y.es.length=0
  ·(repeat' first|refine tA rfl ?_ |refine s2 rfl λ_ e=>?_ |refine aU rfl ?_ |apply Aa|(refine aC rfl ?_ ?_<;>rintro⟨⟩));all_goals try contradiction
   all_goals first
    | (exfalso;(simp only[oZ] at *;omega);done)
    | (apply aK;(repeat first|refine tA rfl ?_ |refine aU rfl ?_ |apply Aa);refine Ai.Ay [] [] rfl rfl [(4,.o (.ptr 1 3 0 0))] [(0,A5 b (p+1+1)),(1,.cells 25 3 [[.d (iD (y.al)),.d (iD (y.st)),.arr 2 3 0 (y.es).length]]),(2,.cells 116 3 ((y.es).map A4))] [0,1,2] (rl a rfl) (by (simp[cX,zC,a,cN,Ag,eC])) ?_;(try dsimp only[cA,cB]);refine Ai.Az [1,2] [(4,.o (.ip (AD ⟨y.al,y.st,y.es⟩)))] ⟨⟨_,rfl,.inr (.o (.box rfl (.cons .d (.cons .d (.cons (.full rfl (by simp [d5]) (by simp)) .nil)))))⟩,trivial⟩ ?_;refine aR ⟨_,rfl,[0],Bx ⟨y.al,y.st,y.es⟩,[(0,A5 b (p+1+1))],⟨by intro i hi;match i with|0=>rfl,by decide⟩,rfl,by (simp[cX,zC,a,cN]),p+1+1,⟨y.al,y.st,y.es⟩,by omega,by first|(simp;done)|(simp;omega),rfl,rfl,rfl⟩)
  obtain⟨⟨h,g,f⟩,x⟩:=get_some (l:=y.es) (k:=k.toNat) (by omega)
  have w:(y.es.map A4)[0+k.toNat]? = some (A4 ⟨h,g,f⟩):=by rw [jd];simp [x]
  (repeat first|refine tA rfl ?_ |refine s2 rfl λ_ e=>?_ |refine aU rfl ?_ |apply Aa)
  ((refine aC rfl ?_ ?_<;>rintro⟨⟩);all_goals try(exfalso;(simp only[oZ] at *;omega)))
  refine rG (IG [(1,13),(3,13),(6,12),(8,1),(10,1)]) (by kernel_rfl) ?_;(repeat first|(refine sA rfl ?_ ?_;first|exact tI|omega) |refine t4 rfl ‹_› rfl ?_);(refine pW rfl ?_ rfl (by rfl);refine Aw rfl rfl rfl (by first| (simp;done)|(simp;(omega))) rfl (by intro r u;simp at u;subst u;rfl) (by rfl) (ce rfl) (by simp;omega) ?_);(repeat first|refine tA rfl ?_ |refine aU rfl ?_ |apply Aa);refine Ai.Ay [] [] rfl rfl [(4,.o (.ptr 1 3 0 0))] [(0,A5 b (p+1+1)),(1,.cells 25 3 [[.d (iD (y.al)),.d (iD (y.st)),.arr 2 3 0 (y.es++[(⟨h,g,f⟩:DA)]).length]]),(2,.cells 116 3 ((y.es++[(⟨h,g,f⟩:DA)]).map A4))] [0,1,4] (rl a rfl) (by (simp[cX,zC,a,cN,Ag,eC])) ?_;(try dsimp only[cA,cB]);refine Ai.Az [1,2] [(4,.o (.ip (AD ⟨y.al,y.st,y.es++[(⟨h,g,f⟩:DA)]⟩)))] ⟨⟨_,rfl,.inr (.o (.box rfl (.cons .d (.cons .d (.cons (.full rfl (by simp [d5]) (by simp)) .nil)))))⟩,trivial⟩ ?_;refine aR ⟨_,rfl,[0],Bx ⟨y.al,y.st,y.es++[(⟨h,g,f⟩:DA)]⟩,[(0,A5 b (p+1+1))],⟨by intro i hi;match i with|0=>rfl,by decide⟩,rfl,by (simp[cX,zC,a,cN]),p+1+1,⟨y.al,y.st,y.es++[(⟨h,g,f⟩:DA)]⟩,by omega,by first|(simp;done)|(simp;omega),rfl,rfl,rfl⟩
 (repeat first|refine tA rfl ?_ |refine s2 rfl λ_ e=>?_ |refine aU rfl ?_ |apply Aa);(refine aC rfl ?_ ?_<;>rintro⟨⟩)
 ·obtain⟨F,_,_,J⟩:=A1 (TB:=TB) b hb (p+1+1) 4 (by omega)
  obtain⟨B,_,_,I⟩:=A1 (TB:=TB) b hb (p+1+1+1) 3 (by omega);obtain⟨A,_,_,H⟩:=A1 (TB:=TB) b hb (p+1+1+1+1) 4 (by omega);refine rG ⟨Ft [(1,13),(3,1008),(5,1008),(7,1008),(10,1),(12,1)],Xl [0,1,2,4,6,3,5,7,8,9,10,11,12]⟩ (by kernel_rfl) ?_;(repeat first|refine tA rfl ?_);(refine Av rfl ?_;refine CY ?_ rfl ⟨rfl,rfl⟩;refine Af [0] rfl rfl (J) ⟨rfl,by decide,by decide⟩ rfl (by simp[cX,zC,a,cN]) ?_;rintro t j m ⟨rfl,rfl,rfl⟩ _;refine⟨Fy 3 rfl rfl,?_⟩);(refine Av rfl ?_;refine CY ?_ rfl ⟨rfl,rfl⟩;refine Af [0] rfl rfl (I) ⟨rfl,by decide,by decide⟩ rfl (by simp[cX,zC,a,cN]) ?_;rintro t j m ⟨rfl,rfl,rfl⟩ _;refine⟨Fy 3 rfl rfl,?_⟩);(refine Av rfl ?_;refine CY ?_ rfl ⟨rfl,rfl⟩;refine Af [0] rfl rfl (H) ⟨rfl,by decide,by decide⟩ rfl (by simp[cX,zC,a,cN]) ?_;rintro t j m ⟨rfl,rfl,rfl⟩ _;refine⟨Fy 3 rfl rfl,?_⟩);(repeat first|refine tA rfl ?_|(refine Av rfl ?_;refine gA rfl ?_;first| refine gS (λ_ _=>AS rfl rfl (by rfl) (by rfl)) ?_));(refine pW rfl ?_ rfl (by rfl);refine Aw rfl rfl rfl (by first| (simp;done)|(simp;(omega))) rfl (by intro r u;simp at u;subst u;rfl) (by rfl) (ce rfl) (by simp;omega) ?_);(repeat first|refine tA rfl ?_ |refine aU rfl ?_ |apply Aa);refine Ai.Ay [] [] rfl rfl [(4,.o (.ptr 1 3 0 0))] [(0,A5 b (p+1+1+1+1+1)),(1,.cells 25 3 [[.d (iD (y.al)),.d (iD (y.st)),.arr 2 3 0 (y.es++[(⟨F,B,A⟩:DA)]).length]]),(2,.cells 116 3 ((y.es++[(⟨F,B,A⟩:DA)]).map A4))] [0,1,4] (rl a rfl) (by (simp[cX,zC,a,cN,Ag,eC])) ?_;(try dsimp only[cA,cB]);refine Ai.Az [1,2] [(4,.o (.ip (AD ⟨y.al,y.st,y.es++[(⟨F,B,A⟩:DA)]⟩)))] ⟨⟨_,rfl,.inr (.o (.box rfl (.cons .d (.cons .d (.cons (.full rfl (by simp [d5]) (by simp)) .nil)))))⟩,trivial⟩ ?_;refine aR ⟨_,rfl,[0],Bx ⟨y.al,y.st,y.es++[(⟨F,B,A⟩:DA)]⟩,[(0,A5 b (p+1+1+1+1+1))],⟨by intro i hi;match i with|0=>rfl,by decide⟩,rfl,by (simp[cX,zC,a,cN]),p+1+1+1+1+1,⟨y.al,y.st,y.es++[(⟨F,B,A⟩:DA)]⟩,by omega,by first|(simp;done)|(simp;omega),rfl,rfl,rfl⟩
 apply aK;(repeat first|refine tA rfl ?_ |refine aU rfl ?_ |apply Aa);refine Ai.Ay [] [] rfl rfl [(4,.o (.ptr 1 3 0 0))] [(0,A5 b (p+1+1)),(1,.cells 25 3 [[.d (iD (y.al)),.d (iD (y.st)),.arr 2 3 0 (y.es).length]]),(2,.cells 116 3 ((y.es).map A4))] [0,1,2] (rl a rfl) (by (simp[cX,zC,a,cN,Ag,eC])) ?_;(try dsimp only[cA,cB]);refine Ai.Az [1,2] [(4,.o (.ip (AD ⟨y.al,y.st,y.es⟩)))] ⟨⟨_,rfl,.inr (.o (.box rfl (.cons .d (.cons .d (.cons (.full rfl (by simp [d5]) (by simp)) .nil)))))⟩,trivial⟩ ?_;refine aR ⟨_,rfl,[0],Bx ⟨y.al,y.st,y.es⟩,[(0,A5 b (p+1+1))],⟨by intro i hi;match i with|0=>rfl,by decide⟩,rfl,by (simp[cX,zC,a,cN]),p+1+1,⟨y.al,y.st,y.es⟩,by omega,by first|(simp;done)|(simp;omega),rfl,rfl,rfl⟩
def bA(o:Option AU):E:=match o with
 | some p=>.t [(true,[.d (iD p.al),.d (C7 p.nx),.d (Gx p.ac)]),(false,[.d (bD true)])]
 | none=>.t [(true,[.d (iD 0),.d (.l []),.d (.l [])]),(false,[.d (bD false)])]
theorem Gj{t:Ez}{al:Int}{A:W->Bool}(v:IT Tryz.prog TB 123 170 t al A)(tab:Bb)(f:Sr tab) :
 Pure Tryz.prog TB 70 [DU t,IY tab] (bA (if Bp A al tab then some (BR A al tab) else none)):=by
 have x:=NX v tab f;by_cases i:Bp A al tab=true
 ·rw [if_pos i]
  rw [i] at x;obtain⟨y,X,N⟩:=KC i;have e:=(Ee y).1;have V:=e.r1;have S:=e.rl;have N:=e.cl;have h2:=v.alph;have h3:=BM (TB:=TB) al;have h4:Pure Tryz.prog TB 124 [DU t,BP tab.cols,BP tab.rows] (BP (AY A tab)):=I9 v tab.cols tab.rows f.cl (λw R=>by have:=f.rb w R;omega) f.cb f.rl;have hla:(Ac al).length<=6:=AM al 6
  have hml:(AY A tab).length=tab.rows.length:=by simp [AY]
  refine eG Tryz.func70 rfl (by kernel_rfl) rfl ?_;intro Z c;(repeat first|refine tA rfl ?_ |refine s2 rfl λ_ a=>?_ |refine sP rfl (x) rfl ?_ |refine aU rfl ?_ |apply Aa)
  ((refine aC rfl ?_ ?_<;>rintro⟨⟩);all_goals try (simp at a;done))
  apply aK;(repeat first|refine tX rfl ?_ |refine sP rfl (h2) rfl ?_ |refine aU rfl ?_);(refine pW rfl ?_ rfl (by rfl);refine OT 1 1 64 2 1 4 rfl rfl (by decide) rfl rfl (by rfl) (by rfl) ?_);(repeat first|refine tX rfl ?_ |refine sP rfl (h3) rfl ?_|refine sP rfl (h4) rfl ?_ |refine aU rfl ?_ |apply Aa);apply aB;refine aL (α:={k:Nat // k<=tab.rows.length}) [2,3,4,6,7,8] [0] rfl rfl (λ⟨k,hk⟩=>[(9,eI .i64 k)]) (λ⟨k,hk⟩=>[(1,.cells 64 1 (((BR A al tab).nx.take k).map λr=>[.d (Fw r)])),(2,.cells 4 1 (((BR A al tab).ac.take k).map λb=>[.d (bD b)])),(3,.cells 29 3 [[.d (iD al),.arr 1 1 0 k,.arr 2 1 0 k]])]) 4 (λ⟨k,hk⟩=>tab.rows.length - k) (⟨0,by omega⟩) c rfl (by (simp[cX,zC,c])) ?_;rintro⟨k,hk⟩;(try dsimp only[cA,cB])
  have Y:(BR A al tab).nx.length=tab.rows.length:=by simp [BR]
  have hac:(BR A al tab).ac.length=tab.rows.length:=by simp [BR]
  by_cases I:k < tab.rows.length
  ·obtain⟨r,n⟩:=get_some I
   have Q:=get_map (g:=C0) n;have m:=co n;have T:=f.rb r m
   have hm:(AY A tab)[k]? = some (marks A tab.cols r):=by simp [AY,n]
   have hm':=get_map (g:=C0) hm
   have hm0:(marks A tab.cols r)[(0:Int).toNat]? = some (UI (A r)):=by
    have:=e.c0;simp [marks,this]
   (repeat first|refine sN rfl ?_ |refine tX rfl ?_ |refine s2 rfl λ_ a=>?_ |refine aU rfl ?_ |apply Aa);refine Ai.cond rfl (λhb=>?_) (λhb=>?_)<;>cases hb
   rotate_left
   ·exfalso;(simp only[oZ] at *;omega)
   apply aK;refine aS (aB ?_);(repeat first|refine aU rfl ?_);(refine pW rfl ?_ rfl (by rfl);refine Bd rfl rfl rfl rfl (by simp) (by rfl) (by rfl) (by rfl) (by rfl) ?_);(repeat first|refine tX rfl ?_ |refine aU rfl ?_ |apply Aa);apply aB;refine aL (α:={j:Nat // j<=(Ac al).length}) [2,3,4,6,7,8,9] [0,1,2,3] rfl rfl (λ⟨j,L⟩=>[(10,.o (.arr 4 1 0 j)),(11,eI .i64 j)]) (λ⟨j,L⟩=>[(4,.cells 3 1 (((Ac al).take j).map λl=>[.d (iD ((DB A tab (r++[lb l]):Nat):Int))]))]) 5 (λ⟨j,L⟩=>(Ac al).length - j) (⟨0,by omega⟩) c rfl (by (simp[cX,zC,c])) ?_;rintro⟨j,L⟩;(try dsimp only[cA,cB]);by_cases s:j < (Ac al).length
   ·obtain⟨l,K⟩:=get_some s
    have hl':=get_map (g:=Bm) K;have q:=co K;have J:=Au q;have z:Pure Tryz.prog TB 127 [eI .i64 l] (eT [lb l]):=GH l J.1 (by omega);have p:=KK v tab.cols (r++[lb l]) f.cl (by simp;omega) f.cb;have H:marks A tab.cols (r++[lb l])∈AY A tab:=FJ X r m (lb l) (Mq q);have M:Pure Tryz.prog TB 125 [BP (AY A tab),eT (marks A tab.cols (r++[lb l]))] (eI .i64 (DB A tab (r++[lb l]):Nat)):=QS (AY A tab) _ H (by omega);(repeat first|refine sN rfl ?_ |refine tX rfl ?_ |refine s2 rfl λ_ a=>?_ |refine aU rfl ?_ |apply Aa);refine Ai.cond rfl (λhb=>?_) (λhb=>?_)<;>cases hb
    rotate_left
    ·exfalso;(simp only[oZ] at *;omega)
    apply aK;refine aS (aB ?_);refine rG (Ig [19]) (by kernel_rfl) ?_;(repeat first|(refine sA rfl ?_ ?_;first|exact tI|simp only[oZ] at *;omega) |(refine s4 rfl ‹_› rfl ?_ ?_;omega) |refine sP rfl (z) rfl ?_|refine sP rfl (p) rfl ?_|refine sP rfl (M) rfl ?_);(refine pW rfl ?_ rfl (by rfl);refine Aw rfl rfl rfl (by first| (simp;done)|(simp;(omega))) rfl (by intro r h;simp at h;subst h;rfl) (by rfl) (ce rfl) (by simp;omega) ?_);(repeat first|(refine sA rfl ?_ ?_;first|exact tI|omega) |refine aU rfl ?_ |apply Aa);refine⟨⟨j+1,by omega⟩,by dsimp only;(omega),[0,1,2,3,5],?_⟩;(simp[cX,zC,c,gc,K])
   ·obtain rfl:j=(Ac al).length:=by omega
    have G:(BR A al tab).nx.take (k+1)=(BR A al tab).nx.take k++[(Ac al).map λl=>((DB A tab (r++[lb l]):Nat):Int)]:=by
     rw [gc];simp [BR,n]
    have u:(BR A al tab).ac.take (k+1)=(BR A al tab).ac.take k++[A r]:=by
     rw [gc];simp [BR,n]
    rw [iV];(repeat first|refine sN rfl ?_ |refine tX rfl ?_ |refine s2 rfl λ_ a=>?_ |refine aU rfl ?_ |apply Aa);refine Ai.cond rfl (λhb=>?_) (λhb=>?_)<;>cases hb
    ·exfalso;(simp only[oZ] at *;omega)
    apply aE;refine Ai.ZJ [4] [2,3,4,6,7,8,9] rfl [(10,Aj ((Ac al).map λl=>((DB A tab (r++[lb l]):Nat):Int)))] ⟨⟨_,rfl,.o (.full (by simp) rfl (by simp [d5]) (by simp))⟩,trivial⟩ ?_;(try dsimp only[cA,cB]);(repeat first|refine tA rfl ?_ |refine aU rfl ?_);(refine pW rfl ?_ rfl (by rfl);refine Aw rfl rfl rfl (by first| (simp;done)|(simp;(omega))) rfl (by intro r h;simp at h;subst h;rfl) (by rfl) (ce rfl) (by simp;omega) ?_);(repeat first|refine tA rfl ?_ |apply Aa);refine rG (Ig [9,11]) (by kernel_rfl) ?_;(repeat first|refine tA rfl ?_ |(refine s4 rfl ‹_› rfl ?_ ?_;omega) |refine s2 rfl λ_ a=>?_);rename_i b
    have P:b=A r:=by
     cases hA:A r<;>cases b<;>simp [hA,UI] at a<;>rfl
    subst P;(refine pW rfl ?_ rfl (by rfl);refine Aw rfl rfl rfl (by first| (simp;done)|(simp;(omega))) rfl (by intro r h;simp at h;subst h;rfl) (by rfl) (ce rfl) (by simp;omega) ?_);(repeat first|(refine sA rfl ?_ ?_;first|exact tI|omega) |refine aU rfl ?_ |apply Aa);refine⟨⟨k+1,by omega⟩,by dsimp only;(omega),[0,5,6,3],?_⟩;(simp[cX,zC,c,G,u])
  ·obtain rfl:k=tab.rows.length:=by omega
   have F:(BR A al tab).nx.take tab.rows.length=(BR A al tab).nx:=iY (by simp [BR]);have B:(BR A al tab).ac.take tab.rows.length=(BR A al tab).ac:=iY (by simp [BR]);rw [F,B];(repeat first|refine sN rfl ?_ |refine tX rfl ?_ |refine s2 rfl λ_ a=>?_ |refine aU rfl ?_ |apply Aa);refine Ai.cond rfl (λhb=>?_) (λhb=>?_)<;>cases hb
   ·exfalso;(simp only[oZ] at *;omega)
   apply aE;(repeat first|refine tX rfl ?_ |refine aU rfl ?_ |apply Aa);refine Ai.settle [(4,.o (.ip [iD al,C7 (BR A al tab).nx,Gx (BR A al tab).ac])),(5,eB true)] ⟨⟨_,rfl,.o (.box rfl (.cons .d (.cons (.full rfl (by simp [d5]) (by simp [BR])) (.cons (.full rfl (by simp [d5]) (by simp [BR])) .nil))))⟩,⟨_,rfl,.o .d⟩,trivial⟩ ?_;refine aR ⟨_,rfl,rfl⟩
 ·have i:Bp A al tab=false:=by simpa using i
  rw [if_neg (by simp [i])];rw [i] at x;refine eG Tryz.func70 rfl (by kernel_rfl) rfl ?_;intro Z c;(repeat first|refine tA rfl ?_ |refine s2 rfl λ_ a=>?_ |refine sP rfl (x) rfl ?_ |refine aU rfl ?_ |apply Aa)
  ((refine aC rfl ?_ ?_<;>rintro⟨⟩);all_goals try (simp at a;done))
  (repeat first|refine tA rfl ?_|(refine Av rfl ?_;refine gA rfl ?_;first| refine gS (λ_ _=>AS rfl rfl (by rfl) (by rfl)) ?_) |refine aU rfl ?_ |apply Aa);refine Ai.settle [(4,.o (.ip [iD 0,.l [],.l []])),(5,eB false)] ⟨⟨_,rfl,.o (.box rfl (.cons .d (.cons .d (.cons .d .nil))))⟩,⟨_,rfl,.o .d⟩,trivial⟩ ?_;refine aR ⟨_,rfl,rfl⟩
theorem PV{n x v:Nat}{G:PS}:((KU n G).map AB).set x (AB (v:Int))=(KU n (Ua G x v)).map AB:=by
 apply kK;intro i;rw [List.getElem?_set];by_cases hi:i < n
 ·have a:∀H:PS,((KU n H).map AB)[i]? = some (AB (H i:Int)):=λH=>by simp [hi]
  rw [a,a];unfold Ua;by_cases e:x=i
  ·subst e;rw [if_pos rfl,if_pos (by simpa using hi),if_pos rfl]
  ·rw [if_neg e,if_neg (λh=>e h.symm)]
 ·have a:∀H:PS,((KU n H).map AB)[i]? = none:=λH=>jt (by simp;omega)
  rw [a,a];by_cases e:x=i
  ·subst e;rw [if_pos rfl,if_neg (by simpa using hi)]
  ·rw [if_neg e]
theorem PU{n x:Nat}{G:PS}(h:x < n):((KU n G).map AB)[0+((x:Nat):Int).toNat]? = some (AB (G x:Int)):=by rw [jd,io];simp [h]
theorem Qp.start{t:Eh}{F0 F:PS}(a:EE t F)(c:∀p j,(F0 p).testBit j=true->(F p).testBit j=true)(b:∀p j,(F p).testBit j=true->Qo t F0 p j):Qp t F0 F 0 0 F false:=
 ⟨a,c,b,λ_=>iX _,λh=>(by cases h),λ_=>⟨rfl,λp _ l _ h=>by simp at h⟩⟩
theorem Nm{t:Eh}(ht:BB t=true){F0:PS}(K:EE t F0):Spec Tryz.prog TB 200 [(0,.cells 3 1 ((KU t.q.nx.length F0).map AB))] 1 [QE t,.o (.arr 0 1 0 t.q.nx.length)] (λx σ nx=>x=.o (.arr 0 1 0 t.q.nx.length)/\σ=[(0,.cells 3 1 ((KU t.q.nx.length (Ss t F0)).map AB))]/\nx=1):=by
 have P:AR t.s=true:=by unfold BB at ht;simp only [d4] at ht;exact ht.1
 have A:A3 t.al=true:=by unfold BB at ht;simp only [d4] at ht;exact ht.2.2
 have y:=AJ P;have g:=Di ht;have hah:=AI g;have H:=aX y.1 A;have I:=y.1;unfold A3 at I;simp only [decide_eq_true_eq] at I
 have R:Pure Tryz.prog TB 85 [eI .i64 (t.s.al - ES .i64 t.s.al t.al)] (Aj (DW t)):=by
  have:=BM (TB:=TB) (t.s.al - ES .i64 t.s.al t.al);rw [H.1,Nq y.1 A] at this;rw [H.1];exact this
 have hll:(DW t).length<=6:=by
  unfold DW;have X:(Ac t.s.al).length<=6:=AM _ _;exact i9 (lm _ _) X
 refine eR Tryz.func200 rfl (by kernel_rfl) rfl ?_;intro Z c;(repeat first|(refine sA rfl ?_ ?_;first|exact tI|omega) |refine sP rfl (R) rfl ?_ |refine aU rfl ?_ |apply Aa);apply aB;refine aL (α:={s:PS×Bool // EE t s.1/\(∀p j,(F0 p).testBit j=true->(s.1 p).testBit j=true)/\(∀p j,(s.1 p).testBit j=true->Qo t F0 p j)/\(s.2=false->s.1=Ss t F0)}) [1,2,5] [] rfl rfl (λs=>[(6,eB s.1.2)]) (λs=>[(0,.cells 3 1 ((KU t.q.nx.length s.1.1).map AB))]) 1 (λs=>(if s.1.2 then Ns s.1.1+1 else 0)) (⟨⟨F0,true⟩,K,λ_ _ h=>h,λ_ _ h=>.base h,λh=>by cases h⟩) c rfl (by (simp[cX,zC,c])) ?_;rintro⟨⟨F,b⟩,V,X,h2,h3⟩;(try dsimp only[cA,cB]);have V:EE t F:=V
 cases b with
 | false=>
  obtain rfl:F=Ss t F0:=h3 rfl;(repeat first|refine tA rfl ?_ |refine aU rfl ?_ |apply Aa);(refine aC rfl ?_ ?_<;>rintro⟨⟩);apply aE;(repeat first|refine tA rfl ?_ |refine aU rfl ?_ |apply Aa);refine aR ⟨_,rfl,[0],.o (.arr 0 1 0 t.q.nx.length),_,⟨by intro i hi;match i with|0=>rfl,by decide⟩,rfl,?_,rfl,rfl,rfl⟩;(simp[cX,zC,c])
 | true =>
  (repeat first|refine tA rfl ?_ |refine aU rfl ?_ |apply Aa);(refine aC rfl ?_ ?_<;>rintro⟨⟩);apply aK;apply aB;(repeat first|refine tA rfl ?_ |refine aU rfl ?_ |apply Aa);apply aB;refine aL (α:={s:Nat×PS×Bool // s.1<=t.q.nx.length/\Qp t F0 F s.1 0 s.2.1 s.2.2}) [1,2,5] [] rfl rfl (λs=>[(6,eB s.1.2.2),(7,eI .i64 s.1.1)]) (λs=>[(0,.cells 3 1 ((KU t.q.nx.length s.1.2.1).map AB))]) 1 (λs=>t.q.nx.length - s.1.1) (⟨⟨0,F,false⟩,by simp,.start V X h2⟩) c rfl (by (simp[cX,zC,c])) ?_;rintro⟨⟨i,G,b⟩,hi,w⟩;(try dsimp only[cA,cB]);have hi:i<=t.q.nx.length:=hi;have w:Qp t F0 F i 0 G b:=w;by_cases u:i < t.q.nx.length
  ·(repeat first|refine tA rfl ?_ |refine s2 rfl λ_ d=>?_ |refine aU rfl ?_ |apply Aa)
   ((refine aC rfl ?_ ?_<;>rintro⟨⟩);all_goals try(exfalso;(simp only[oZ] at *;omega)))
   apply aK;refine aS (aB ?_);(repeat first|refine tA rfl ?_ |refine aU rfl ?_ |apply Aa);apply aB;refine aL (α:={s:Nat×PS×Bool // s.1<=(DW t).length/\Qp t F0 F i s.1 s.2.1 s.2.2}) [1,2,5,7] [] rfl rfl (λs=>[(6,eB s.1.2.2),(8,eI .i64 s.1.1)]) (λs=>[(0,.cells 3 1 ((KU t.q.nx.length s.1.2.1).map AB))]) 1 (λs=>(DW t).length - s.1.1) (⟨⟨0,G,b⟩,by simp,w⟩) c rfl (by (simp[cX,zC,c])) ?_;rintro⟨⟨k,G',b'⟩,hk,e⟩;(try dsimp only[cA,cB]);have hk:k<=(DW t).length:=hk;have e:Qp t F0 F i k G' b':=e;clear w;by_cases S:k < (DW t).length
   ·obtain⟨l,r⟩:=get_some S
    have f:=Gf ht (co r)
    have hl':((DW t).map Bm)[((k:Nat):Int).toNat]? = some (Bm l):=by rw [io];simp [r]
    have J:=Il (TB:=TB) t.q g i u l f.1 f.2.1;have T:=Dp g u f.1 f.2.1
    obtain⟨x,L⟩:∃x:Nat,Cb t.q i l=x:=⟨(Cb t.q i l).toNat,by omega⟩
    rw [L] at J T;have M:=ON (TB:=TB) P l (e.ok.lt i)
    have hms:BW t.s.es l (G' i) < 65536:=by
     have:=Rp P (l:=l) (m:=G' i) (k:=t.s.es.length);rwa [iV] at this
    have r1:=PU (n:=t.q.nx.length) (G:=G') (x:=x) (by omega);have r2:=PU (n:=t.q.nx.length) (G:=G') (x:=i) u;have Y:=e.ok.lt x;have z:=PC (a:=G' x) (b:=BW t.s.es l (G' i)) (by omega) (by omega);have B:=PV (n:=t.q.nx.length) (x:=x) (v:=G' x ||| BW t.s.es l (G' i)) (G:=G');(repeat first|refine sN rfl ?_ |refine tA rfl ?_ |refine s2 rfl λ_ d=>?_ |refine aU rfl ?_ |apply Aa)
    ((refine aC rfl ?_ ?_<;>rintro⟨⟩);all_goals try(exfalso;(simp only[oZ] at *;omega)))
    apply aK;refine aS (aB ?_);(repeat first|refine aU rfl ?_);refine rG (Ig []) (by kernel_rfl) ?_;(repeat first|refine tA rfl ?_ |(refine s4 rfl ‹_› rfl ?_ ?_;omega) |refine sP rfl (J) rfl ?_ |refine aU rfl ?_ |apply Aa);refine rG (Ig []) (by kernel_rfl) ?_;(repeat first|((first|refine sA rfl ?_ ?_|refine s4 rfl ‹_› rfl ?_ ?_);first|exact tI|omega) |refine s2 rfl λ_ d=>?_ |refine sP rfl (M) rfl ?_ |refine aU rfl ?_ |apply Aa);(refine aC rfl ?_ ?_<;>rintro⟨⟩)
    ·have Q:G' x ||| BW t.s.es l (G' i)≠G' x:=by
      rw [z] at d;simp only [decide_eq_true_eq] at d;omega
     (repeat first|(refine sA rfl ?_ ?_;first|exact tI|omega) |refine t4 rfl ‹_› rfl ?_ |refine aU rfl ?_ |apply Aa);have N:=e.NU ht u r L Q;generalize Ua G' x (G' x ||| BW t.s.es l (G' i))=G2 at *;refine⟨⟨⟨k+1,G2,true⟩,by omega,N⟩,by dsimp only;(omega),[0],?_⟩
     simp[cX,zC,c,z];simpa [d5] using B
    ·have he:G' x ||| BW t.s.es l (G' i)=G' x:=by
      rw [z] at d;simp only [decide_eq_false_iff_not] at d;omega
     apply aK;(repeat first|(refine sA rfl ?_ ?_;first|exact tI|omega) |refine aU rfl ?_ |apply Aa);refine⟨⟨⟨k+1,G',b'⟩,by omega,e.fG ht r L he⟩,by dsimp only;(omega),[0],?_⟩;simp[cX,zC,c]
   ·obtain rfl:k=(DW t).length:=by omega
    (repeat first|refine sN rfl ?_ |refine tA rfl ?_ |refine s2 rfl λ_ d=>?_ |refine aU rfl ?_ |apply Aa)
    ((refine aC rfl ?_ ?_<;>rintro⟨⟩);all_goals try(exfalso;(simp only[oZ] at *;omega)))
    apply aE;(repeat first|(refine sA rfl ?_ ?_;first|exact tI|omega) |refine aU rfl ?_ |apply Aa);refine⟨⟨⟨i+1,G',b'⟩,by omega,e.row⟩,by dsimp only;(omega),[0],?_⟩;simp[cX,zC,c]
  ·obtain rfl:i=t.q.nx.length:=by omega
   (repeat first|refine tA rfl ?_ |refine s2 rfl λ_ d=>?_ |refine aU rfl ?_ |apply Aa)
   ((refine aC rfl ?_ ?_<;>rintro⟨⟩);all_goals try(exfalso;(simp only[oZ] at *;omega)))
   apply aE;refine⟨⟨⟨G,b⟩,w.ok,w.lo,w.hi,λhb=>by have hb:b=false:=hb;subst hb;exact w.done ht K⟩,by cases b<;>simp_all [w.yes],[0],?_⟩;simp[cX,zC,c]
def MG(A:W->Bool)(al:Int)(t:Bb)(w:W):Option Bb:=if AW A al t && E5 al w then Jt t w else none
theorem Oi{t:Ez}{al:Int}{A:W->Bool}(n:IT Tryz.prog TB 123 170 t al A)(tab:Bb)(q:Sr tab)(w:W)(y:w.length<=1048576) :
 Pure Tryz.prog TB 134 [DU t,IY tab,eT w] (Lp (MG A al tab w)):=by
 have i:=EB n tab q;have g:=Nj n w (by omega);have f:=HP (TB:=TB) tab.cols w (by have:=q.cl;omega);by_cases e:(AW A al tab && E5 al w)=true
 ·have ha:MG A al tab w=Jt tab w:=by unfold MG;rw [if_pos e]
  rw [ha];rw [d4] at e;rw [e.1] at i;rw [e.2] at g;have b:Xc al tab:=(Ee e.1).1;have k:=b.r1;have l:=b.c1;have s:=b.rl;have v:=b.cl;by_cases m:tab.cols.length=20\/w∈tab.cols
  ·have p:Jt tab w=none:=by unfold Jt;rw [if_pos m]
   rw [p];refine eG Tryz.func134 rfl (by kernel_rfl) rfl ?_;intro Z j;(repeat' first|refine sN rfl ?_ |refine tA rfl ?_ |(refine s2 rfl λ_ a=>?_;try (simp only[jL,jQ] at a;subst a)) |refine sP rfl (i) rfl ?_|refine sP rfl (g) rfl ?_|(refine sC rfl (f) ?_;intro _ a)|(refine Av rfl ?_;refine gA rfl ?_;first| refine gS (λ_ _=>AS rfl rfl (by rfl) (by rfl)) ?_) |refine s3 rfl ?_ ?_<;>rintro rfl |refine aU rfl ?_ |apply Aa |refine rE (by kernel_rfl) ?_|(refine aC rfl ?_ ?_<;>rintro⟨⟩)|apply aK|apply aE|apply aB|refine aR ⟨_,rfl,?_⟩)
   all_goals first
    | rfl
    | (exfalso;clear i g f n;simp at *;grind;done)
    | skip
  ·have p:Jt tab w=some ⟨tab.rows,tab.cols++[w]⟩:=by unfold Jt;rw [if_neg m]
   rw [p];have u:decide (w∈tab.cols)=false:=decide_eq_false λh=>m (.inr h);have x:tab.cols.length≠20:=λh=>m (.inl h);rw [u] at f;refine eG Tryz.func134 rfl (by kernel_rfl) rfl ?_;intro Z j;(repeat first|refine sN rfl ?_ |refine tA rfl ?_ |(refine s2 rfl λ_ a=>?_;try (simp only[jL,jQ] at a;subst a)) |refine sP rfl (i) rfl ?_|refine sP rfl (g) rfl ?_|refine sP rfl (f) rfl ?_ |refine aU rfl ?_ |apply Aa);refine Ai.cond rfl (λhb=>?_) (λhb=>?_)<;>cases hb
   ·exfalso;(simp only[oZ] at *;omega)
   apply aK;(repeat first|refine aU rfl ?_);refine rG (iL [0,1,2,4,5,6,8,9,3,7,10,11,12,13] [3,7,10,12] [0,1,2,4,5,6,8,9]) (by kernel_rfl) ?_;(repeat first|refine tX rfl ?_|(refine Av rfl ?_;refine gA rfl ?_;first| refine gS (λ_ _=>PW (by rfl) (by rfl)) ?_|refine gS (λ_ _=>ND rfl rfl rfl rfl rfl (by rfl) (by rfl) (by rfl) (by rfl) (by rfl)) ?_));(refine pW rfl ?_ rfl (by rfl);refine DO rfl rfl rfl (by intro r c;simp at c;obtain⟨_,_,rfl⟩:=c;rfl) (by rfl) (ce rfl) (by simp;omega) (λh=>?_) (λ_=>?_))
   ·exfalso;simp at h;rw [h] at k;simp at k
   (repeat first| (refine Av rfl ?_;refine gA rfl ?_;first| refine gS (λ_ _=>PW (by rfl) (by rfl)) ?_|refine gS (λ_ _=>ND rfl rfl rfl rfl rfl (by rfl) (by rfl) (by rfl) (by rfl) (by rfl)) ?_));(refine pW rfl ?_ rfl (by rfl);refine DO rfl rfl rfl (by intro r c;simp at c;obtain⟨_,_,rfl⟩:=c;rfl) (by rfl) (ce rfl) (by simp;omega) (λh=>?_) (λ_=>?_))
   ·exfalso;simp at h;rw [h] at l;simp at l
   (refine pW rfl ?_ rfl (by rfl);refine Aw rfl rfl rfl (by first| (simp;done)|(simp;(omega))) rfl (by intro r c;simp at c;subst c;rfl) (by rfl) (ce rfl) (by simp;omega) ?_);(repeat first|refine tA rfl ?_|(refine Av rfl ?_;refine gA rfl ?_;first| refine gS (λ_ _=>AS rfl rfl (by rfl) (by rfl)) ?_) |apply Aa);refine Ai.settle [(6,.o (.ip [FR tab.rows,FR (tab.cols++[w])])),(7,eB true)] ⟨⟨_,rfl,.o (.box rfl (.cons (.full rfl (by simp [d5]) (by simp)) (.cons (.full rfl (by simp [d5]) (by simp)) .nil)))⟩,⟨_,rfl,.o .d⟩,trivial⟩ ?_;refine aR ⟨_,rfl,rfl⟩
 ·have ha:MG A al tab w=none:=by unfold MG;rw [if_neg e]
  rw [ha];refine eG Tryz.func134 rfl (by kernel_rfl) rfl ?_;intro Z j;(repeat' first|refine sN rfl ?_ |refine tA rfl ?_ |(refine s2 rfl λ_ a=>?_;try (simp only[jL,jQ] at a;subst a)) |(refine sC rfl (i) ?_;intro _ a)|(refine sC rfl (g) ?_;intro _ a)|(refine sC rfl (f) ?_;intro _ a)|(refine Av rfl ?_;refine gA rfl ?_;first| refine gS (λ_ _=>AS rfl rfl (by rfl) (by rfl)) ?_) |refine s3 rfl ?_ ?_<;>rintro rfl |refine aU rfl ?_ |apply Aa |refine rE (by kernel_rfl) ?_|(refine aC rfl ?_ ?_<;>rintro⟨⟩)|apply aK|apply aE|apply aB|refine aR ⟨_,rfl,?_⟩)
  all_goals first
   | rfl
   | (exfalso;clear i g f n;simp at *;grind;done)
   | skip
end Go.Am
namespace Go.Am
open Go Go.Proofs
set_option maxHeartbeats 1000000
set_option maxRecDepth 4000
attribute [local irreducible] A8 Cq Lex Br Ai Spec
section
variable {P:Program}{TB:BA}{Z:Ctx}{d:Option Tmp}{ty:TypeId}{pos:String}{af:Array Edge}{g:Option (Nat×Bool)}{f:Env}{σ:Ab}{nx:Nat}
end
variable {TB:BA}
theorem Xc.short{al:Int}{t:Bb}(h:Xc al t):∀(i:Nat) w,t.rows[i]? = some w->w.length<=i:=by
 intro i
 induction i using Nat.strongRecOn with
 | ind i b=>
  intro w hi
  rcases jI i with rfl|e
  ·have:=h.r0.symm.trans hi
   injection this with this
   subst this;simp
  ·obtain⟨c,j,d,a⟩:=h.pre i w hi e
   have:=b j d _ a;rw [List.length_dropLast] at this;omega
theorem Xc.bd{al:Int}{t:Bb}(h:Xc al t):Sq al 20000 t:=by
 refine⟨λw b=>⟨(h.rw w b).2,?_⟩,λx a=>⟨(h.cw x a).2,by have:=(h.cw x a).1;omega⟩,h.rl,h.cl⟩;obtain⟨i,hi,c⟩:=jm b;have:=h.short i w (by rw [d6 hi,c]);have:=h.rl;omega
end Go.Am
namespace Go.Am
open Go Go.Proofs
set_option maxHeartbeats 1000000
set_option maxRecDepth 4000
attribute [local irreducible] A8 Cq Lex Br Ai Spec
variable {TB:BA}
theorem CN(L:W->Bool)(al:Int)(t:Bb):Bp L al t=(AW L al t && (Bg L (BE al) t).isNone):=rfl
end Go.Am
namespace Go.Am
open Go
section
variable {a b:AU}(ha:AH a=true)(hb:AH b=true)(hal:a.al=b.al)(hL:∀w,A0 (BE a.al) w->LA a w=LA b w)
include ha hb hal hL
end
end Go.Am
