/-
  A text, read as a system: any that is not too big will do: walked.
-/
import Derived.Test.YtgpbfllcjdfelaaGreatDoorPart33
import Derived.Test.YtgpbfllcjdfelaaGreatDoorPart34
set_option linter.all false
namespace Go.Am
open Go Go.Proofs
set_option maxHeartbeats 1000000
set_option maxRecDepth 4000
attribute [local irreducible] AO BS Lex A4 Au Spec
variable {TB:Bi}
abbrev fK(r:Sys×Bool):E:=.t [(true,[.d (iD r.1.al),.d (iD r.1.st),.d (Gm r.1.es)]),(false,[.d (bD r.2)])]
def Jw(al n:Int):List Ej->Ab
 | []=>[(1,.cells 25 3 [[.d (iD al),.d (iD n),.d (.v (.slice none 0 0))]])]
 | e::l=>[(1,.cells 25 3 [[.d (iD al),.d (iD n),.arr 2 3 0 (l.length+1)]]),(2,.cells 158 3 ((e::l).map A7))]
theorem HG(f:W)(Y:f.length<=10000):Spec Tryz.prog TB 183 [] 0 [eT f] (C7 (λr:Sys×Bool=>r.1.es.length<=f.length+1) fK):=by
  refine eR Tryz.func183 rfl (by kernel_rfl) rfl ?_;intro Γ e;(repeat first|refine tA rfl ?_ |refine aU rfl ?_ |refine Aa ?_);(refine pW rfl ?_ rfl (by rfl);refine Ag [] rfl rfl (Kz (TB:=TB) f (by omega) 32) ⟨rfl,by decide,by decide⟩ rfl trivial ?_;rintro m b c ⟨ps,⟨Q,P,q⟩,rfl,rfl,rfl⟩ _);(repeat first|refine sN rfl ?_ |refine tA rfl ?_ |refine s2 rfl λ_ a=>?_ |refine aU rfl ?_ |refine Aa ?_);by_cases R:ps.length < 2
  · ((refine aC rfl ?_ ?_<;>rintro⟨⟩);all_goals try(exfalso;(simp only[oZ] at *;omega)))
    (repeat first|refine tA rfl ?_|(refine Af rfl ?_;refine gA rfl ?_;first| refine gS (λ_ _=>AF rfl rfl (by rfl) (by rfl)) ?_) |refine aU rfl ?_ |refine Aa ?_);exact aR ⟨_,rfl,[],fK (⟨0,0,[]⟩,false),[],⟨λi hi=>absurd hi (mt i),mV⟩,rfl,trivial,(⟨0,0,[]⟩,false),nK _,rfl,rfl,rfl⟩
  ((refine aC rfl ?_ ?_<;>rintro⟨⟩);all_goals try(exfalso;(simp only[oZ] at *;omega)))
  refine aK ?_;obtain⟨J,X⟩:=get_some (l:=ps) (k:=(0:Int).toNat) (by simp;omega);have V:=get_map (g:=DQ) X;obtain⟨y,B⟩:=get_some (l:=ps) (k:=(1:Int).toNat) (by simp;omega);have T:=get_map (g:=DQ) B;have A:=q y (ce B);(repeat first|refine tA rfl ?_ |(refine s4 rfl ‹_› rfl ?_ ?_;omega) |refine aU rfl ?_);(refine pW rfl ?_ rfl (by rfl);refine Ag [] rfl rfl (Gy (TB:=TB) J) ⟨rfl,by decide,by decide⟩ rfl trivial ?_;rintro m b c ⟨⟨n,ok⟩,_,rfl,rfl,rfl⟩ _);(repeat first|refine tA rfl ?_ |(refine s4 rfl ‹_› rfl ?_ ?_;omega) |refine aU rfl ?_ |refine Aa ?_);(refine pW rfl ?_ rfl (by rfl);refine Ag [] rfl rfl (Ip (TB:=TB) y (by omega)) ⟨rfl,by decide,by decide⟩ rfl trivial ?_;rintro m b c ⟨⟨st,L⟩,_,rfl,rfl,rfl⟩ _);(repeat first|refine tA rfl ?_ |refine s2 rfl λ_ a=>?_ |refine s3 rfl ?_ ?_<;>rintro rfl |refine aU rfl ?_ |refine Aa ?_)
  (repeat' first|refine tA rfl ?_ |refine s2 rfl λ_ a=>?_ |refine aU rfl ?_ |refine Aa ?_|(refine aC rfl ?_ ?_<;>rintro⟨⟩));all_goals try contradiction
  all_goals first
    | ((repeat first|refine tA rfl ?_|(refine Af rfl ?_;refine gA rfl ?_;first| refine gS (λ_ _=>AF rfl rfl (by rfl) (by rfl)) ?_) |refine Aa ?_)
       exact aR ⟨_,rfl,[],fK (⟨0,0,[]⟩,false),[],⟨λi hi=>absurd hi (mt i),mV⟩,rfl,trivial,(⟨0,0,[]⟩,false),nK _,rfl,rfl,rfl⟩
       done)
    | skip
  refine aK ?_;(repeat first|refine tA rfl ?_|(refine Af rfl ?_;refine gA rfl ?_;first| refine gS (λ_ _=>NB rfl rfl (by rfl) (by rfl)) ?_) |refine aU rfl ?_ |refine Aa ?_);refine aB ?_;refine aL (U:={z:Nat×List Ej // (2<=z.1/\z.1<=ps.length)/\z.2.length+2=z.1}) [0,4] [] rfl rfl (λs=>[(2,.o (.ptr 0 3 0 0)),(9,.o (.ptr 1 3 0 0)),(10,eI .i64 s.1.1)]) (λs=>((0,.cells 25 3 [[.d (iD 0),.d (iD 0),.d (.l [])]])::Jw n st s.1.2)) 3 (λs=>ps.length - s.1.1) (⟨⟨2,[]⟩,by simp;omega⟩) e rfl (by (simp[cX,zC,e,Jw,cN])) ?_;rintro⟨⟨k,l⟩,hk,u⟩;(try dsimp only[cA,cB]);have hk:2<=k/\k<=ps.length:=hk;have u:l.length+2=k:=u;(repeat first|refine sN rfl ?_ |refine tA rfl ?_ |refine s2 rfl λ_ a=>?_ |refine aU rfl ?_ |refine Aa ?_)
  ((refine aC rfl ?_ ?_<;>rintro⟨⟩);all_goals try (simp at a;done))
  · have x:k < ps.length:=by (simp only[oZ] at *;omega)
    obtain⟨w,hw⟩:=get_some (l:=ps) (k:=k) x;have N:=get_map (g:=DQ) hw;have M:=q w (ce hw);refine aK ?_;refine aS (aB ?_);(repeat first|refine tA rfl ?_ |(refine s4 rfl ‹_› rfl ?_ ?_;omega) |refine aU rfl ?_);(refine pW rfl ?_ rfl (by rfl);refine Ag [] rfl rfl (Up (TB:=TB) w (by omega)) ⟨rfl,by decide,by decide⟩ rfl trivial ?_;rintro m b c ⟨⟨⟨H,G,F⟩,K⟩,_,rfl,rfl,rfl⟩ _);(repeat first|refine tA rfl ?_ |refine s2 rfl λ_ a=>?_ |refine aU rfl ?_ |refine Aa ?_);(refine aC rfl ?_ ?_<;>rintro⟨⟩)
    · (repeat first|refine tA rfl ?_|(refine Af rfl ?_;refine gA rfl ?_;first| refine gS (λ_ _=>AF rfl rfl (by rfl) (by rfl)) ?_) |refine aU rfl ?_ |refine Aa ?_)
      exact aR ⟨_,rfl,[],fK (⟨0,0,[]⟩,false),[],⟨λi hi=>absurd hi (mt i),mV⟩,rfl,trivial,(⟨0,0,[]⟩,false),nK _,rfl,rfl,rfl⟩
    refine aK ?_
    cases l with
    | nil=>
      (repeat first|refine tA rfl ?_ |refine aU rfl ?_);(refine pW rfl ?_ rfl (by rfl);refine VY 61 rfl ?_;refine Iu rfl rfl rfl (by intro r p;simp at p;subst p;rfl) (by rfl) (co rfl) (by simp) (λh=>?_) (λ_=>?_))
      · exact absurd h (by simp)
      (repeat first|(refine sA rfl ?_ ?_;first|exact tI|omega) |refine aU rfl ?_ |refine Aa ?_);refine⟨⟨⟨k+1,[⟨H,G,F⟩]⟩,⟨by dsimp only;omega,by dsimp only;omega⟩,by simp at u;simp;omega⟩,by dsimp only;(omega),[0,1,4],?_⟩;(simp[cX,zC,e,cN,Jw,Ae,eC]<;>rfl)
    | cons j l=>
      (repeat first|refine tA rfl ?_ |refine aU rfl ?_);(refine pW rfl ?_ rfl (by rfl);refine Aj rfl rfl rfl (by first| (simp;done)|(simp;(omega))) rfl (by intro r p;simp at p;subst p;rfl) (by rfl) (co rfl) (by simp at u |-;omega) ?_);(repeat first|(refine sA rfl ?_ ?_;first|exact tI|omega) |refine aU rfl ?_ |refine Aa ?_);refine⟨⟨⟨k+1,j::(l++[⟨H,G,F⟩])⟩,⟨by dsimp only;omega,by dsimp only;omega⟩,by simp at u |-;omega⟩,by dsimp only;(omega),[0,1,4],?_⟩;(simp[cX,zC,e,cN,Jw,Ae,eC]<;>rfl)
  refine aE ?_
  have S:k=ps.length:=by (simp only[oZ] at *;omega)
  have t:l.length<=f.length+1:=by omega
  cases l with
  | nil=>
    refine Au.AM [1] [(0,eT f),(2,.o (.ptr 0 3 0 0)),(9,.o (.ip (CD ⟨n,st,[]⟩)))] ⟨⟨_,rfl,.inl rfl⟩,⟨_,rfl,.inl rfl⟩,⟨_,rfl,.inr (.o (.box rfl (.cons .d (.cons .d (.cons .nl .nil)))))⟩,trivial⟩ ?_;(repeat first|refine tA rfl ?_ |refine aU rfl ?_);(refine pW rfl ?_ rfl (by rfl);refine Ag [] rfl rfl (Hu (TB:=TB) ⟨n,st,[]⟩ (by simp)) ⟨rfl,by decide,by decide⟩ rfl trivial ?_;rintro m b c ⟨I,v,rfl,rfl,rfl⟩ _);(repeat first|refine tA rfl ?_ |refine s2 rfl λ_ a=>?_ |refine Aa ?_);(refine aC rfl ?_ ?_<;>rintro⟨⟩)
    · (repeat first|refine tA rfl ?_|(refine Af rfl ?_;refine gA rfl ?_;first| refine gS (λ_ _=>AF rfl rfl (by rfl) (by rfl)) ?_) |refine aU rfl ?_ |refine Aa ?_)
      exact aR ⟨_,rfl,[],fK (⟨0,0,[]⟩,false),[],⟨λi hi=>absurd hi (mt i),mV⟩,rfl,trivial,(⟨0,0,[]⟩,false),nK _,rfl,rfl,rfl⟩
    refine aK ?_;(repeat first|refine tA rfl ?_ |refine aU rfl ?_ |refine Aa ?_);exact aR ⟨_,rfl,[],fK (⟨n,st,[]⟩,true),[],⟨λi hi=>absurd hi (mt i),mV⟩,rfl,trivial,(⟨n,st,[]⟩,true),nK _,rfl,rfl,rfl⟩
  | cons j l=>
    refine Au.AM [1,2] [(0,eT f),(2,.o (.ptr 0 3 0 0)),(9,.o (.ip (CD ⟨n,st,j::l⟩)))] ⟨⟨_,rfl,.inl rfl⟩,⟨_,rfl,.inl rfl⟩,⟨_,rfl,.inr (.o (.box rfl (.cons .d (.cons .d (.cons (.full rfl (by simp [d4]) (by simp)) .nil)))))⟩,trivial⟩ ?_;(repeat first|refine tA rfl ?_ |refine aU rfl ?_);(refine pW rfl ?_ rfl (by rfl);refine Ag [] rfl rfl (Hu (TB:=TB) ⟨n,st,j::l⟩ (by simp at t |-;omega)) ⟨rfl,by decide,by decide⟩ rfl trivial ?_;rintro m b c ⟨I,v,rfl,rfl,rfl⟩ _);(repeat first|refine tA rfl ?_ |refine s2 rfl λ_ a=>?_ |refine Aa ?_);(refine aC rfl ?_ ?_<;>rintro⟨⟩)
    · (repeat first|refine tA rfl ?_|(refine Af rfl ?_;refine gA rfl ?_;first| refine gS (λ_ _=>AF rfl rfl (by rfl) (by rfl)) ?_) |refine aU rfl ?_ |refine Aa ?_)
      exact aR ⟨_,rfl,[],fK (⟨0,0,[]⟩,false),[],⟨λi hi=>absurd hi (mt i),mV⟩,rfl,trivial,(⟨0,0,[]⟩,false),nK _,rfl,rfl,rfl⟩
    refine aK ?_;(repeat first|refine tA rfl ?_ |refine aU rfl ?_ |refine Aa ?_);exact aR ⟨_,rfl,[],fK (⟨n,st,j::l⟩,true),[],⟨λi hi=>absurd hi (mt i),mV⟩,rfl,trivial,(⟨n,st,j::l⟩,true),t,rfl,rfl,rfl⟩
def Qs(s:Sys)(p:AK)(o:Sys):Int:=if BA s && (AI p && BA o) then E4 .i64 (ZW .i64 s.al p.al) o.al else -1
theorem MX(s:Sys)(p:AK)(o:Sys):Pure Tryz.prog TB 204 [Dv s,Bm p,Dv o] (eI .i64 (Qs s p o)):=by
 unfold Qs;refine eN Tryz.func204 rfl (by kernel_rfl) rfl ?_;intro Γ b;(repeat' first|refine tA rfl ?_ |refine s2 rfl λ_ a=>?_ |(refine sC rfl (CW s) ?_;intro _ a)|(refine sC rfl (C5 p) ?_;intro _ a)|(refine sC rfl (CW o) ?_;intro _ a) |refine s3 rfl ?_ ?_<;>rintro rfl |refine aU rfl ?_ |refine Aa ?_|(refine aC rfl ?_ ?_<;>rintro⟨⟩)|refine aK ?_|refine aE ?_|refine aB ?_|refine aR ⟨_,rfl,?_⟩)
 all_goals first
  | (show E.o _=E.o _;simp_all;done)
  | trace_state
def ER(m n:Nat):Nat:=(List.range n).countP (m.testBit ·)
theorem UQ(m n:Nat):ER m (n+1)=if m.testBit n then ER m n+1 else ER m n:=by
 unfold ER;rw [oJ,List.countP_append];cases h:m.testBit n<;>simp [h]
theorem cf(m n:Nat):ER m n<=n:=by
 unfold ER;have:=List.countP_le_length (p:=(m.testBit ·)) (l:=List.range n);rwa [pg] at this
theorem KA(m:Nat)(e:m < 2 ^ 62)(n:Nat)(h:n<=60):Pure Tryz.prog TB 266 [eI .i64 (m:Nat),eI .i64 (n:Nat)] (eI .i64 (ER m n:Nat)):=by
 refine eG Tryz.func266 rfl (by kernel_rfl) rfl ?_;intro Γ a;(repeat first|refine tA rfl ?_ |refine aU rfl ?_ |refine Aa ?_);refine aB ?_;refine aL (U:={k:Nat // k<=n}) [0,1] [] rfl rfl (λ⟨k,hk⟩=>[(5,eI .i64 (ER m k:Nat)),(6,eI .i64 k)]) (λ⟨k,hk⟩=>[]) 0 (λ⟨k,hk⟩=>n - k) (⟨0,by omega⟩) a rfl (by (simp[cX,zC,a]<;>rfl)) ?_;rintro⟨k,hk⟩;(try dsimp only[cA,cB]);by_cases f:k < n
 ·have g:=cf m k
  have c:=UQ m k;have d:=DA (TB:=TB) (m:Nat) (k:Int) (by omega) (by omega);rw [RV e (by omega)] at d;(repeat first|refine tA rfl ?_ |refine s2 rfl λ_ b=>?_ |refine aU rfl ?_ |refine Aa ?_)
  ((refine aC rfl ?_ ?_<;>rintro⟨⟩);all_goals try(exfalso;(simp only[oZ] at *;omega)))
  refine aK ?_;refine aS (aB ?_);(repeat first|refine tA rfl ?_ |(refine sC rfl (d) ?_;intro _ b) |refine aU rfl ?_ |refine Aa ?_);(refine aC rfl ?_ ?_<;>rintro⟨⟩)
  ·have hb:m.testBit k=true:=by simpa using b
   rw [if_pos hb] at c;(repeat first|(refine sA rfl ?_ ?_;first|exact tI|omega) |refine aU rfl ?_ |refine Aa ?_);refine⟨⟨k+1,by omega⟩,by dsimp only;(omega),[],?_⟩;simp[cX,zC,a,c]
  ·have hb:m.testBit k=false:=by simpa using b
   rw [if_neg (by simp [hb])] at c;refine aK ?_;(repeat first|(refine sA rfl ?_ ?_;first|exact tI|omega) |refine aU rfl ?_ |refine Aa ?_);refine⟨⟨k+1,by omega⟩,by dsimp only;(omega),[],?_⟩;simp[cX,zC,a,c]
 ·obtain rfl:k=n:=by omega
  (repeat first|refine tA rfl ?_ |refine s2 rfl λ_ b=>?_ |refine aU rfl ?_ |refine Aa ?_)
  ((refine aC rfl ?_ ?_<;>rintro⟨⟩);all_goals try(exfalso;(simp only[oZ] at *;omega)))
  refine aE ?_;(repeat first|refine tA rfl ?_ |refine aU rfl ?_ |refine Aa ?_);(subst_vars;exact aR ⟨_,rfl,rfl⟩)
def Py(a:AK)(c:Nat):List Int:=(a.nx.getD ((Dm a).idxOf ((c:Nat):Int)) []).map (DZ a)
def aG(a:AK)(c:Nat):Bool:=a.ac.getD ((Dm a).idxOf ((c:Nat):Int)) false
theorem Qv{a:AK}(h:Cg a):Pure Tryz.prog TB 116 [Bm a] (Bm (Df a)):=by
 obtain⟨P,N,t3,t4,t5⟩:=lg h.b h.n1
 have ht:Cg (GS a):=⟨P,N,t4⟩
 have e1:=XN (TB:=TB) h;have e2:=Qu (TB:=TB) ht;rw [<-Nk h,eW ht]
 show Pure _ _ _ _ (Bm ⟨(GS a).al,(List.range (uq (BN (GS a))).length).map (Py (GS a)),(List.range (uq (BN (GS a))).length).map (aG (GS a))⟩)
 rw [Oe a];generalize GS a=x at *;have hn:=ht.b.1;have Z:=ht.ac
 have X:(Dm x).length=x.nx.length:=by simp [Dm,Cn,(Gl ht.b ht.n1 ht.ac).len]
 have s:∀c,c < (uq (BN x)).length->(Dm x).idxOf ((c:Nat):Int) < x.nx.length:=λc w=>(O8 ht w).2
 have S:(uq (BN x)).length<=64:=by
  have h1:=E9 (BN x);have h2:=(Gl ht.b ht.n1 ht.ac).len;omega
 generalize hm:(uq (BN x)).length=m at *;refine eG Tryz.func116 rfl (by kernel_rfl) rfl ?_;intro Γ f;refine aU rfl ?_;(repeat first |refine sN rfl ?_ |((first|refine sA rfl ?_ ?_|refine s4 rfl ‹_› rfl ?_ ?_);first|exact tI|omega|simp only[oZ] at *;omega) |refine s2 rfl λ_ e=>?_ |refine s3 rfl ?_ ?_<;>rintro rfl);refine Aa ?_;refine aU rfl ?_;(repeat first |refine sN rfl ?_ |((first|refine sA rfl ?_ ?_|refine s4 rfl ‹_› rfl ?_ ?_);first|exact tI|omega|simp only[oZ] at *;omega) |refine s2 rfl λ_ e=>?_ |refine sP rfl (e1) rfl ?_ |refine s3 rfl ?_ ?_<;>rintro rfl);refine Aa ?_;refine Au.AM [1] [(1,.o (.ip (BO a))),(2,.o (.ptr 0 3 0 0)),(3,.o (.ip (BO x)))] ⟨⟨_,rfl,.inl rfl⟩,⟨_,rfl,.inl rfl⟩,⟨_,rfl,.inr (.o (.box rfl (TP.refl (BO x))))⟩,trivial⟩ ?_;(repeat first |refine sN rfl ?_ |((first|refine sA rfl ?_ ?_|refine s4 rfl ‹_› rfl ?_ ?_);first|exact tI|omega|simp only[oZ] at *;omega) |refine s2 rfl λ_ e=>?_ |refine sP rfl (e2) rfl ?_ |refine s3 rfl ?_ ?_<;>rintro rfl |refine aU rfl ?_ |refine Aa ?_);(refine pW rfl ?_ rfl (by rfl);refine Fj 1 1 53 2 1 4 rfl rfl (by decide) rfl rfl (by rfl) (by rfl) ?_);(repeat first |refine sN rfl ?_ |((first|refine sA rfl ?_ ?_|refine s4 rfl ‹_› rfl ?_ ?_);first|exact tI|omega|simp only[oZ] at *;omega) |refine s2 rfl λ_ e=>?_ |refine s3 rfl ?_ ?_<;>rintro rfl |refine aU rfl ?_ |refine Aa ?_);refine aB ?_;refine aL (U:={c:Nat // c<=m}) [2,3,4,5,6] [0] rfl rfl (λ⟨c,w⟩=>[(7,eI .i64 c)]) (λ⟨c,w⟩=>[(2,.cells 53 1 ((List.range c).map λc=>[.d (Da (Py x c))])),(3,.cells 4 1 ((List.range c).map λc=>AP (aG x c))),(4,.cells 29 3 [[.d (iD a.al),.arr 2 1 0 c,.arr 3 1 0 c]])]) 5 (λ⟨c,w⟩=>m - c) (⟨0,by omega⟩) f rfl (by ((repeat' first|exact tI|rfl|refine And.intro ?_ ?_)<;>(simp[cX,zC,f,eC,Bb,Ae]<;>rfl))) ?_;rintro⟨c,w⟩;(try dsimp only[cA,cB]);by_cases H:c < m
 ·have hi:=s c H
  have t:((c:Nat):Int)∈Dm x:=mZ.1 (by omega);have K:=Nc (TB:=TB) (Dm x) c t;have n:=FN ht.b hi;obtain⟨bb,hb⟩:=get_some (l:=x.ac) (k:=(Dm x).idxOf ((c:Nat):Int)) (by omega)
  have F:Py x c=((Ac x.al).map (AW x ((Dm x).idxOf ((c:Nat):Int)))).map (DZ x):=by unfold Py;rw [Bd n]
  have G:aG x c=bb:=by unfold aG;exact Bd hb
  have L:∀y∈(Ac x.al).map (AW x ((Dm x).idxOf ((c:Nat):Int))),0<=y/\y < ((x.nx.length:Nat):Int):=λy q=>by
   obtain⟨l,V,rfl⟩:=em.1 q;have:=Ai V;exact BI ht.b hi this.1 (by omega)
  have T:((Ac x.al).map (AW x ((Dm x).idxOf ((c:Nat):Int)))).length<=6:=by rw [f7];exact AD x.al 6
  generalize (Ac x.al).map (AW x ((Dm x).idxOf ((c:Nat):Int)))=r at *;generalize (Dm x).idxOf ((c:Nat):Int)=i at *;have B:=get_map (g:=DM) n;have Y:=get_map (g:=Gk) hb;have A:List.range (c+1)=List.range c++[c]:=oJ;(repeat first |refine sN rfl ?_ |((first|refine sA rfl ?_ ?_|refine s4 rfl ‹_› rfl ?_ ?_);first|exact tI|omega|simp only[oZ] at *;omega) |refine s2 rfl λ_ e=>?_ |refine s3 rfl ?_ ?_<;>rintro rfl |refine aU rfl ?_ |refine Aa ?_)
  ((refine aC rfl ?_ ?_<;>rintro⟨⟩);all_goals try(exfalso;first|omega|simp only[oZ] at *;omega))
  refine aK ?_;refine aS (aB ?_);(repeat first |refine sN rfl ?_ |((first|refine sX rfl ?_ ?_|refine s4 rfl ‹_› rfl ?_ ?_);first|exact tI|omega|simp only[oZ] at *;omega) |refine s2 rfl λ_ e=>?_ |refine sP rfl (K) rfl ?_ |refine s3 rfl ?_ ?_<;>rintro rfl |refine aU rfl ?_ |refine Aa ?_);(refine pW rfl ?_ rfl (by rfl);refine A9 rfl rfl rfl rfl (by simp) (by rfl) (by rfl) (by rfl) (by rfl) ?_);(repeat first |refine sN rfl ?_ |((first|refine sA rfl ?_ ?_|refine s4 rfl ‹_› rfl ?_ ?_);first|exact tI|omega|simp only[oZ] at *;omega) |refine s2 rfl λ_ e=>?_ |refine s3 rfl ?_ ?_<;>rintro rfl |refine aU rfl ?_ |refine Aa ?_);refine aB ?_;refine aL (U:={j:Nat // j<=r.length}) [2,3,4,5,6,7,8] [0,2,3,4] rfl rfl (λ⟨j,J⟩=>[(9,.o (.arr 5 1 0 j)),(10,eI .i64 j)]) (λ⟨j,J⟩=>[(5,.cells 3 1 ((r.take j).map λy=>Az (DZ x y)))]) 6 (λ⟨j,J⟩=>r.length - j) (⟨0,by omega⟩) f rfl (by ((repeat' first|exact tI|rfl|refine And.intro ?_ ?_)<;>(simp[cX,zC,f,eC,Bb,Ae]<;>rfl))) ?_;rintro⟨j,J⟩;(try dsimp only[cA,cB]);by_cases I:j < r.length
  ·obtain⟨y,q⟩:=get_some I
   have R:=get_map (g:=Br) q;have Q:=L y (ce q);obtain⟨cv,u⟩:=get_some (l:=Dm x) (k:=y.toNat) (by omega);have M:=get_map (g:=Br) u
   have v:DZ x y=cv:=by unfold DZ;exact Bd u
   have z:r.take (j+1)=r.take j++[y]:=by rw [gc,q];rfl
   (repeat first |refine sN rfl ?_ |((first|refine sA rfl ?_ ?_|refine s4 rfl ‹_› rfl ?_ ?_);first|exact tI|omega|simp only[oZ] at *;omega) |refine s2 rfl λ_ e=>?_ |refine s3 rfl ?_ ?_<;>rintro rfl |refine aU rfl ?_ |refine Aa ?_)
   ((refine aC rfl ?_ ?_<;>rintro⟨⟩);all_goals try(exfalso;first|omega|simp only[oZ] at *;omega))
   refine aK ?_;refine aS (aB ?_);(repeat first |refine sN rfl ?_ |((first|refine sA rfl ?_ ?_|refine s4 rfl ‹_› rfl ?_ ?_);first|exact tI|omega|simp only[oZ] at *;omega) |refine s2 rfl λ_ e=>?_ |refine s3 rfl ?_ ?_<;>rintro rfl |refine aU rfl ?_ |refine Aa ?_);(refine pW rfl ?_ rfl (by rfl);refine Aj rfl rfl rfl (by first|(simp;done)|(simp;(first|omega|simp only[oZ] at *;omega))) rfl (by intro r p;simp at p;subst p;rfl) (by rfl) (co rfl) (by simp;omega) ?_);(repeat first |refine sN rfl ?_ |((first|refine sA rfl ?_ ?_|refine s4 rfl ‹_› rfl ?_ ?_);first|exact tI|omega|simp only[oZ] at *;omega) |refine s2 rfl λ_ e=>?_ |refine s3 rfl ?_ ?_<;>rintro rfl |refine aU rfl ?_ |refine Aa ?_);refine⟨⟨j+1,by first|omega|simp only[oZ] at *;omega⟩,by dsimp only;(first|omega|simp only[oZ] at *;omega),[0,1,2,3,4,6],?_⟩;simp[cX,zC,f,z,v]
  ·obtain rfl:j=r.length:=by omega
   (repeat first |refine sN rfl ?_ |((first|refine sA rfl ?_ ?_|refine s4 rfl ‹_› rfl ?_ ?_);first|exact tI|omega|simp only[oZ] at *;omega) |refine s2 rfl λ_ e=>?_ |refine s3 rfl ?_ ?_<;>rintro rfl |refine aU rfl ?_ |refine Aa ?_)
   ((refine aC rfl ?_ ?_<;>rintro⟨⟩);all_goals try(exfalso;first|omega|simp only[oZ] at *;omega))
   refine aE ?_;refine Au.C9 [5] [2,3,4,5,6,7,8,10] rfl [(9,AH (Py x c))] ⟨⟨_,rfl,.o (.full (by simp) rfl (by rw [F,i9];simp [d4]) (by simp))⟩,trivial⟩ ?_;(try dsimp only[cA,cB]);(repeat first |refine sN rfl ?_ |((first|refine sA rfl ?_ ?_|refine s4 rfl ‹_› rfl ?_ ?_);first|exact tI|omega|simp only[oZ] at *;omega) |refine s2 rfl λ_ e=>?_ |refine s3 rfl ?_ ?_<;>rintro rfl |refine aU rfl ?_ |refine Aa ?_);(refine pW rfl ?_ rfl (by rfl);refine Aj rfl rfl rfl (by first|(simp;done)|(simp;(first|omega|simp only[oZ] at *;omega))) rfl (by intro r p;simp at p;subst p;rfl) (by rfl) (co rfl) (by simp;omega) ?_);(repeat first |refine sN rfl ?_ |((first|refine sA rfl ?_ ?_|refine s4 rfl ‹_› rfl ?_ ?_);first|exact tI|omega|simp only[oZ] at *;omega) |refine s2 rfl λ_ e=>?_ |refine s3 rfl ?_ ?_<;>rintro rfl |refine aU rfl ?_ |refine Aa ?_);refine rG (RH [(1,14),(8,1),(10,1)]) (by kernel_rfl) ?_;(repeat first |refine sN rfl ?_ |((first|refine sA rfl ?_ ?_|refine s4 rfl ‹_› rfl ?_ ?_);first|exact tI|omega|simp only[oZ] at *;omega) |refine s2 rfl λ_ e=>?_ |refine s3 rfl ?_ ?_<;>rintro rfl |refine aU rfl ?_ |refine Aa ?_);(refine pW rfl ?_ rfl (by rfl);refine Aj rfl rfl rfl (by first|(simp;done)|(simp;(first|omega|simp only[oZ] at *;omega))) rfl (by intro r p;simp at p;subst p;rfl) (by rfl) (co rfl) (by simp;omega) ?_);(repeat first |refine sN rfl ?_ |((first|refine sA rfl ?_ ?_|refine s4 rfl ‹_› rfl ?_ ?_);first|exact tI|omega|simp only[oZ] at *;omega) |refine s2 rfl λ_ e=>?_ |refine s3 rfl ?_ ?_<;>rintro rfl |refine aU rfl ?_ |refine Aa ?_);refine⟨⟨c+1,by first|omega|simp only[oZ] at *;omega⟩,by dsimp only;(first|omega|simp only[oZ] at *;omega),[0,1,6,7,4],?_⟩;simp[cX,zC,f,A,G,eC,Bb,Ae]
 ·obtain rfl:c=m:=by omega
  (repeat first |refine sN rfl ?_ |((first|refine sA rfl ?_ ?_|refine s4 rfl ‹_› rfl ?_ ?_);first|exact tI|omega|simp only[oZ] at *;omega) |refine s2 rfl λ_ e=>?_ |refine s3 rfl ?_ ?_<;>rintro rfl |refine aU rfl ?_ |refine Aa ?_)
  ((refine aC rfl ?_ ?_<;>rintro⟨⟩);all_goals try(exfalso;first|omega|simp only[oZ] at *;omega))
  refine aE ?_;refine Au.AM [2,3,4] [(2,.o (.ptr 0 3 0 0)),(6,.o (.ip [iD a.al,CI ((List.range c).map (Py x)),Fv ((List.range c).map (aG x))]))] ⟨⟨_,rfl,.inl rfl⟩,⟨_,rfl,.inr (.o (.box rfl (.cons .d (.cons (.full rfl (by simp [d4]) (by simp)) (.cons (.full rfl (by simp [d4]) (by simp)) .nil)))))⟩,trivial⟩ ?_;(repeat first |refine sN rfl ?_ |((first|refine sA rfl ?_ ?_|refine s4 rfl ‹_› rfl ?_ ?_);first|exact tI|omega|simp only[oZ] at *;omega) |refine s2 rfl λ_ e=>?_ |refine s3 rfl ?_ ?_<;>rintro rfl |refine aU rfl ?_ |refine Aa ?_);(subst_vars;exact aR ⟨_,rfl,rfl⟩)
theorem Pu{l:List (List Int)}{s:List Int}(h:∀x∈l,x.length=s.length){r:Int}(N:s∉l->r = -1)(M:∀k:Nat,l[k]? = some s->s∉l.take k->r=k):Pure Tryz.prog TB 190 [Er l,AH s] (eI .i64 r):=by
 refine eG Tryz.func190 rfl (by kernel_rfl) rfl ?_;intro Γ b;refine Au.bound 0 rfl λA=>?_;have L:=A (l.map DM) .refl;rw [f7] at L;refine Au.bound 1 rfl λz=>?_;have y:=z (s.map Br) .refl;rw [f7] at y;(repeat first |refine sN rfl ?_ |((first|refine sA rfl ?_ ?_|refine s4 rfl ‹_› rfl ?_ ?_);first|exact tI|omega|simp only[oZ] at *;omega) |refine s2 rfl λ_ a=>?_ |refine s3 rfl ?_ ?_<;>rintro rfl |refine aU rfl ?_ |refine Aa ?_);refine aB ?_;refine aL (U:={k:Nat // k<=l.length/\s∉l.take k}) [0,1] [] rfl rfl (λ⟨k,hk,d⟩=>[(5,eI .i64 k)]) (λ⟨k,hk,d⟩=>[]) 0 (λ⟨k,hk,d⟩=>l.length - k) (⟨0,by omega,by simp⟩) b rfl (by ((repeat' first|exact tI|rfl|refine And.intro ?_ ?_)<;>(simp[cX,zC,b]<;>rfl))) ?_;rintro⟨k,hk,d⟩;(try dsimp only[cA,cB]);have hk:k<=l.length:=hk;have d:s∉l.take k:=d;by_cases q:k < l.length
 ·obtain⟨x,n⟩:=get_some q
  have I:=get_map (g:=DM) n;have o:=h x (ce n);(repeat first |refine sN rfl ?_ |((first|refine sA rfl ?_ ?_|refine s4 rfl ‹_› rfl ?_ ?_);first|exact tI|omega|simp only[oZ] at *;omega) |refine s2 rfl λ_ a=>?_ |refine s3 rfl ?_ ?_<;>rintro rfl |refine aU rfl ?_ |refine Aa ?_)
  ((refine aC rfl ?_ ?_<;>rintro⟨⟩);all_goals try(exfalso;first|omega|simp only[oZ] at *;omega))
  refine aK ?_;refine aS (aB ?_);(repeat first |refine sN rfl ?_ |((first|refine sA rfl ?_ ?_|refine s4 rfl ‹_› rfl ?_ ?_);first|exact tI|omega|simp only[oZ] at *;omega) |refine s2 rfl λ_ a=>?_ |refine s3 rfl ?_ ?_<;>rintro rfl |refine aU rfl ?_ |refine Aa ?_);refine aB ?_;refine aL (U:={j:Nat // j<=s.length}) [0,1,5] [] rfl rfl (λ⟨j,m⟩=>[(6,eB (decide (x.take j=s.take j))),(7,eI .i64 j)]) (λ⟨j,m⟩=>[]) 0 (λ⟨j,m⟩=>s.length - j) (⟨0,by omega⟩) b rfl (by ((repeat' first|exact tI|rfl|refine And.intro ?_ ?_)<;>(simp[cX,zC,b]<;>rfl))) ?_;rintro⟨j,m⟩;(try dsimp only[cA,cB]);have m:j<=s.length:=m;by_cases t:j < s.length
  ·obtain⟨u,G⟩:=get_some (l:=x) (k:=j) (by omega)
   obtain⟨v,F⟩:=get_some t;have K:=get_map (g:=Br) G;have J:=get_map (g:=Br) F
   have f:(x.take (j+1)=s.take (j+1))↔(x.take j=s.take j/\u=v):=by
    rw [gc,gc,G,F];constructor
    ·intro B
     have H:=List.append_inj B (by rw [ol,ol];omega);exact⟨H.1,by simpa using H.2⟩
    ·rintro⟨B,rfl⟩;rw [B]
   (repeat first |refine sN rfl ?_ |((first|refine sA rfl ?_ ?_|refine s4 rfl ‹_› rfl ?_ ?_);first|exact tI|omega|simp only[oZ] at *;omega) |refine s2 rfl λ_ a=>?_ |refine s3 rfl ?_ ?_<;>rintro rfl |refine aU rfl ?_ |refine Aa ?_)
   ((refine aC rfl ?_ ?_<;>rintro⟨⟩);all_goals try(exfalso;first|omega|simp only[oZ] at *;omega))
   refine aK ?_;refine aS (aB ?_);by_cases hp:x.take j=s.take j
   ·rw [decide_eq_true hp]
    by_cases i:u=v
    ·have c:decide (x.take (j+1)=s.take (j+1))=true:=decide_eq_true (f.2 ⟨hp,i⟩)
     (repeat first |refine sN rfl ?_ |((first|refine sA rfl ?_ ?_|refine s4 rfl ‹_› rfl ?_ ?_);first|exact tI|omega|simp only[oZ] at *;omega) |refine s2 rfl λ_ a=>?_ |refine s3 rfl ?_ ?_<;>rintro rfl |refine aU rfl ?_ |refine Aa ?_);refine rG (Ha []) (by kernel_rfl) ?_
     (repeat' first |refine sN rfl ?_ |((first|refine sA rfl ?_ ?_|refine s4 rfl ‹_› rfl ?_ ?_);first|exact tI|omega|simp only[oZ] at *;omega) |refine s2 rfl λ_ a=>?_ |refine s3 rfl ?_ ?_<;>rintro rfl |refine aU rfl ?_ |refine Aa ?_|(refine aC rfl ?_ ?_<;>rintro⟨⟩));all_goals try contradiction
     all_goals first
      | (exfalso;first|omega|simp only[oZ] at *;omega;done)
      | (exfalso;simp at *;done)
      | skip
     (repeat first |refine sN rfl ?_ |((first|refine sA rfl ?_ ?_|refine s4 rfl ‹_› rfl ?_ ?_);first|exact tI|omega|simp only[oZ] at *;omega) |refine s2 rfl λ_ a=>?_ |refine s3 rfl ?_ ?_<;>rintro rfl |refine aU rfl ?_ |refine Aa ?_);refine⟨⟨j+1,by first|omega|simp only[oZ] at *;omega⟩,by dsimp only;(first|omega|simp only[oZ] at *;omega),[],?_⟩;simp[cX,zC,b,c];grind
    ·have c:decide (x.take (j+1)=s.take (j+1))=false:=decide_eq_false λh=>i (f.1 h).2
     (repeat first |refine sN rfl ?_ |((first|refine sA rfl ?_ ?_|refine s4 rfl ‹_› rfl ?_ ?_);first|exact tI|omega|simp only[oZ] at *;omega) |refine s2 rfl λ_ a=>?_ |refine s3 rfl ?_ ?_<;>rintro rfl |refine aU rfl ?_ |refine Aa ?_);refine rG (Ha []) (by kernel_rfl) ?_
     (repeat' first |refine sN rfl ?_ |((first|refine sA rfl ?_ ?_|refine s4 rfl ‹_› rfl ?_ ?_);first|exact tI|omega|simp only[oZ] at *;omega) |refine s2 rfl λ_ a=>?_ |refine s3 rfl ?_ ?_<;>rintro rfl |refine aU rfl ?_ |refine Aa ?_|(refine aC rfl ?_ ?_<;>rintro⟨⟩));all_goals try contradiction
     all_goals first
      | (exfalso;first|omega|simp only[oZ] at *;omega;done)
      | (exfalso;simp at *;done)
      | skip
     (repeat first |refine sN rfl ?_ |((first|refine sA rfl ?_ ?_|refine s4 rfl ‹_› rfl ?_ ?_);first|exact tI|omega|simp only[oZ] at *;omega) |refine s2 rfl λ_ a=>?_ |refine s3 rfl ?_ ?_<;>rintro rfl |refine aU rfl ?_ |refine Aa ?_);refine⟨⟨j+1,by first|omega|simp only[oZ] at *;omega⟩,by dsimp only;(first|omega|simp only[oZ] at *;omega),[],?_⟩;simp[cX,zC,b,c];grind
   ·rw [decide_eq_false hp]
    have c:decide (x.take (j+1)=s.take (j+1))=false:=decide_eq_false λh=>hp (f.1 h).1;(repeat first |refine sN rfl ?_ |((first|refine sA rfl ?_ ?_|refine s4 rfl ‹_› rfl ?_ ?_);first|exact tI|omega|simp only[oZ] at *;omega) |refine s2 rfl λ_ a=>?_ |refine s3 rfl ?_ ?_<;>rintro rfl |refine aU rfl ?_ |refine Aa ?_);refine rG (Ha []) (by kernel_rfl) ?_;(repeat first |refine sN rfl ?_ |((first|refine sA rfl ?_ ?_|refine s4 rfl ‹_› rfl ?_ ?_);first|exact tI|omega|simp only[oZ] at *;omega) |refine s2 rfl λ_ a=>?_ |refine s3 rfl ?_ ?_<;>rintro rfl |refine aU rfl ?_ |refine Aa ?_);refine⟨⟨j+1,by first|omega|simp only[oZ] at *;omega⟩,by dsimp only;(first|omega|simp only[oZ] at *;omega),[],?_⟩;simp[cX,zC,b,c]
  ·obtain rfl:j=s.length:=by omega
   rw [i9,show s.length=x.length from o.symm,i9];(repeat first |refine sN rfl ?_ |((first|refine sA rfl ?_ ?_|refine s4 rfl ‹_› rfl ?_ ?_);first|exact tI|omega|simp only[oZ] at *;omega) |refine s2 rfl λ_ a=>?_ |refine s3 rfl ?_ ?_<;>rintro rfl |refine aU rfl ?_ |refine Aa ?_)
   ((refine aC rfl ?_ ?_<;>rintro⟨⟩);all_goals try(exfalso;first|omega|simp only[oZ] at *;omega))
   refine aE ?_;by_cases c:x=s
   ·rw [decide_eq_true c,M k (c ▸ n) d]
    (repeat first |refine sN rfl ?_ |((first|refine sA rfl ?_ ?_|refine s4 rfl ‹_› rfl ?_ ?_);first|exact tI|omega|simp only[oZ] at *;omega) |refine s2 rfl λ_ a=>?_ |refine s3 rfl ?_ ?_<;>rintro rfl |refine aU rfl ?_ |refine Aa ?_)
    ((refine aC rfl ?_ ?_<;>rintro⟨⟩);all_goals try (simp at a;done))
    (repeat first |refine sN rfl ?_ |((first|refine sA rfl ?_ ?_|refine s4 rfl ‹_› rfl ?_ ?_);first|exact tI|omega|simp only[oZ] at *;omega) |refine s2 rfl λ_ a=>?_ |refine s3 rfl ?_ ?_<;>rintro rfl |refine aU rfl ?_ |refine Aa ?_);(subst_vars;exact aR ⟨_,rfl,rfl⟩)
   ·have w:¬s=x:=λe=>c e.symm
    have p:s∉l.take (k+1):=by
     rw [gc,n];simp [d,w]
    rw [decide_eq_false c];(repeat first |refine sN rfl ?_ |((first|refine sA rfl ?_ ?_|refine s4 rfl ‹_› rfl ?_ ?_);first|exact tI|omega|simp only[oZ] at *;omega) |refine s2 rfl λ_ a=>?_ |refine s3 rfl ?_ ?_<;>rintro rfl |refine aU rfl ?_ |refine Aa ?_)
    ((refine aC rfl ?_ ?_<;>rintro⟨⟩);all_goals try (simp at a;done))
    refine aK ?_;(repeat first |refine sN rfl ?_ |((first|refine sA rfl ?_ ?_|refine s4 rfl ‹_› rfl ?_ ?_);first|exact tI|omega|simp only[oZ] at *;omega) |refine s2 rfl λ_ a=>?_ |refine s3 rfl ?_ ?_<;>rintro rfl |refine aU rfl ?_ |refine Aa ?_);refine⟨⟨k+1,by first|omega|simp only[oZ] at *;omega,p⟩,by dsimp only;(first|omega|simp only[oZ] at *;omega),[],?_⟩;simp[cX,zC,b]
 ·obtain rfl:k=l.length:=by omega
  rw [i9] at d;rw [N d];(repeat first |refine sN rfl ?_ |((first|refine sA rfl ?_ ?_|refine s4 rfl ‹_› rfl ?_ ?_);first|exact tI|omega|simp only[oZ] at *;omega) |refine s2 rfl λ_ a=>?_ |refine s3 rfl ?_ ?_<;>rintro rfl |refine aU rfl ?_ |refine Aa ?_)
  ((refine aC rfl ?_ ?_<;>rintro⟨⟩);all_goals try(exfalso;first|omega|simp only[oZ] at *;omega))
  refine aE ?_;(repeat first |refine sN rfl ?_ |((first|refine sA rfl ?_ ?_|refine s4 rfl ‹_› rfl ?_ ?_);first|exact tI|omega|simp only[oZ] at *;omega) |refine s2 rfl λ_ a=>?_ |refine s3 rfl ?_ ?_<;>rintro rfl |refine aU rfl ?_ |refine Aa ?_);(subst_vars;exact aR ⟨_,rfl,rfl⟩)
theorem Sx(al q:Int):Pure Tryz.prog TB 188 [eI .i64 al,eI .i64 q] (AH ((Ac al).map λ_=>q)):=by
 have h:=CU (TB:=TB) al;have g:(Ac al).length<=6:=AD al 6;generalize Ac al=ls at *;refine eG Tryz.func188 rfl (by kernel_rfl) rfl ?_;intro Γ b;(repeat first |refine sN rfl ?_ |((first|refine sX rfl ?_ ?_|refine s4 rfl ‹_› rfl ?_ ?_);first|exact tI|omega|simp only[oZ] at *;omega) |refine s2 rfl λ_ a=>?_ |refine s3 rfl ?_ ?_<;>rintro rfl |refine aU rfl ?_ |refine Aa ?_);(refine pW rfl ?_ rfl (by rfl);refine A9 rfl rfl rfl rfl (by simp) (by rfl) (by rfl) (by rfl) (by rfl) ?_);(repeat first |refine sN rfl ?_ |((first|refine sA rfl ?_ ?_|refine s4 rfl ‹_› rfl ?_ ?_);first|exact tI|omega|simp only[oZ] at *;omega) |refine s2 rfl λ_ a=>?_ |refine sP rfl (h) rfl ?_ |refine s3 rfl ?_ ?_<;>rintro rfl |refine aU rfl ?_ |refine Aa ?_);refine aB ?_;refine aL (U:={k:Nat // k<=ls.length}) [1] [] rfl rfl (λ⟨k,hk⟩=>[(5,.o (.arr 0 1 0 k)),(6,eI .i64 ((ls.length:Int) - k))]) (λ⟨k,hk⟩=>[(0,.cells 3 1 ((ls.take k).map λ_=>Az q))]) 1 (λ⟨k,hk⟩=>ls.length - k) (⟨0,by omega⟩) b rfl (by ((repeat' first|exact tI|rfl|refine And.intro ?_ ?_)<;>(simp[cX,zC,b,eC]<;>rfl))) ?_;rintro⟨k,hk⟩;(try dsimp only[cA,cB]);by_cases d:k < ls.length
 ·obtain⟨x,f⟩:=get_some d
  have c:ls.take (k+1)=ls.take k++[x]:=by rw [gc,f];rfl
  (repeat first |refine sN rfl ?_ |((first|refine sA rfl ?_ ?_|refine s4 rfl ‹_› rfl ?_ ?_);first|exact tI|omega|simp only[oZ] at *;omega) |refine s2 rfl λ_ a=>?_ |refine s3 rfl ?_ ?_<;>rintro rfl |refine aU rfl ?_ |refine Aa ?_)
  ((refine aC rfl ?_ ?_<;>rintro⟨⟩);all_goals try(exfalso;first|omega|simp only[oZ] at *;omega))
  refine aK ?_;refine aS (aB ?_);(repeat first |refine sN rfl ?_ |((first|refine sA rfl ?_ ?_|refine s4 rfl ‹_› rfl ?_ ?_);first|exact tI|omega|simp only[oZ] at *;omega) |refine s2 rfl λ_ a=>?_ |refine s3 rfl ?_ ?_<;>rintro rfl |refine aU rfl ?_ |refine Aa ?_);(refine pW rfl ?_ rfl (by rfl);refine Aj rfl rfl rfl (by first|(simp;done)|(simp;(first|omega|simp only[oZ] at *;omega))) rfl (by intro r e;simp at e;subst e;rfl) (by rfl) (co rfl) (by simp;omega) ?_);(repeat first |refine sN rfl ?_ |((first|refine sA rfl ?_ ?_|refine s4 rfl ‹_› rfl ?_ ?_);first|exact tI|omega|simp only[oZ] at *;omega) |refine s2 rfl λ_ a=>?_ |refine s3 rfl ?_ ?_<;>rintro rfl |refine aU rfl ?_ |refine Aa ?_);refine⟨⟨k+1,by first|omega|simp only[oZ] at *;omega⟩,by dsimp only;(first|omega|simp only[oZ] at *;omega),[1],?_⟩;simp[cX,zC,b,c,Int.sub_sub]
 ·obtain rfl:k=ls.length:=by omega
  rw [i9];(repeat first |refine sN rfl ?_ |((first|refine sA rfl ?_ ?_|refine s4 rfl ‹_› rfl ?_ ?_);first|exact tI|omega|simp only[oZ] at *;omega) |refine s2 rfl λ_ a=>?_ |refine s3 rfl ?_ ?_<;>rintro rfl |refine aU rfl ?_ |refine Aa ?_)
  ((refine aC rfl ?_ ?_<;>rintro⟨⟩);all_goals try(exfalso;first|omega|simp only[oZ] at *;omega))
  refine aE ?_;refine Au.settle [(5,AH (ls.map λ_=>q))] ⟨⟨_,rfl,.o (.full rfl (by simp [d4]) (by simp))⟩,trivial⟩ ?_;(repeat first |refine sN rfl ?_ |((first|refine sA rfl ?_ ?_|refine s4 rfl ‹_› rfl ?_ ?_);first|exact tI|omega|simp only[oZ] at *;omega) |refine s2 rfl λ_ a=>?_ |refine s3 rfl ?_ ?_<;>rintro rfl |refine aU rfl ?_ |refine Aa ?_);(subst_vars;exact aR ⟨_,rfl,rfl⟩)
end Go.Am
namespace Go.Am
set_option linter.unusedVariables false
noncomputable instance mj:DecidableEq PS:=λa b=>Classical.propDecidable (a=b)
noncomputable def IH(t:BE)(F:PS)(l:Int):Option PS:=if Eo t (BR t l F)=true then none else some (BR t l F)
noncomputable def Y3(t:BE):Option PS:=if Eo t (A0 t)=true then none else some (A0 t)
theorem Kq{U:Type}{f:U->Int->Option U}:∀w,IF f none w=none
 | []=>rfl
 | c::w=>Kq (f:=f) w
theorem Sh{t:BE}:∀(w:W) {F:PS},Eo t F=false->(IF (IH t) (some F) w).isSome=Ia t F w
 | [],F,h=>by simp [IF,Ia,h]
 | c :: w,F,h=>by
  simp only [IF,Ia,h,Bool.not_false,pC,LK,IH];split
  ·rename_i hb
   rw [Kq];cases w<;>simp [Ia,hb]
  ·rename_i hb
   exact Sh w (Bool.eq_false_iff.2 hb)
theorem ZK{t:BE}(w:W):(IF (IH t) (Y3 t) w).isSome=LS t w:=by
 unfold Y3 LS;split
 ·rename_i hb
  rw [Kq];cases w<;>simp [Ia,hb]
 ·rename_i hb
  exact Sh w (Bool.eq_false_iff.2 hb)
def Si(m:AK):Option AK:=if 12 < m.nx.length then none else some m
def Kf(al:Int):AK:=⟨al,[(Ac al).map λ_=>(0:Int)],[false]⟩
noncomputable def Ig(t:BE):Option AK:=match FV 41 (LK (IH t)) (Ac t.al) (Y3 t) with
 | none=>none
 | some p=>if 40 < p.1.length/\none∉p.1 then none else Si (Df (YV t.al p.1 p.2))
noncomputable def Xc(t:BE):Option AK:=if Eo t (A0 t)=true then Si (BW (GS (Kf t.al))) else match GC 40 (IH t) (Ac t.al) 41 [A0 t] [] with
 | none=>none
 | some p=>Si (BW (GS (Hm t.al p.2)))
theorem Ex{t:BE}{nd:List (Option PS)}{rows:List (List Int)}(h:FV 41 (LK (IH t)) (Ac t.al) (Y3 t)=some (nd,rows)):Cg (YV t.al nd rows)/\∀w,Av (AU t.al) w->LA (YV t.al nd rows) w=LS t w:=by
 obtain⟨a,b,_⟩:=Hh (by omega) h;exact⟨kP a (by omega),λw hw=>by rw [iO a hw,ZK]⟩
theorem Lb{t:BE}(hb:Eo t (A0 t)=true):∃p:List (Option PS)×List (List Int),FV 41 (LK (IH t)) (Ac t.al) (Y3 t)=some p/\p.1=[none]/\YV t.al p.1 p.2=Kf t.al:=by
 have m:Y3 t=none:=if_pos hb;rw [m];obtain⟨p,hp,j⟩:=IV (f:=LK (IH t)) (ls:=Ac t.al) (Z:=[none]) (lim:=41) (by simp) (λq h l _=>by simp at h;subst h;exact og ..) 41 (nd:=[none]) (rows:=[]) (by simp) (λx k=>k);obtain⟨nd,rows⟩:=p;obtain⟨c,o,_⟩:=Hh (lim:=41) (by omega) hp
 have n:nd=[none]:=by
  have i:=CL c.nodup j;have g:=c.st
  cases nd with
  | nil=>cases g
  | cons a b=>
   simp at i g;subst i;subst g;rfl
 subst n;refine⟨_,hp,rfl,?_⟩;have e:=c.len;have d:=c.row 0 none rfl
 obtain⟨r,rfl⟩:∃r,rows=[r]:=by
  cases rows with
  | nil=>simp at e
  | cons a b=>simp at e;subst e;exact⟨a,rfl⟩
 injection d with d
 unfold YV Kf
 show (⟨_,[r],_⟩:AK)=_
 rw [d];rfl
theorem fC{t:BE}:Xc t=Ig t:=by
 unfold Xc Ig;by_cases hb:Eo t (A0 t)=true
 ·obtain⟨p,hp,c,n⟩:=Lb hb
  have g:=(Ex hp).1;rw [if_pos hb,hp];simp only;rw [if_neg (by rw [c];simp),<-n,Nk g]
 ·rw [if_neg hb]
  have e:Y3 t=some (A0 t):=if_neg hb;rw [e]
  cases c:FV 41 (LK (IH t)) (Ac t.al) (some (A0 t)) with
  | none=>
   cases hp:GC 40 (IH t) (Ac t.al) 41 [A0 t] [] with
   | none=>rfl
   | some p=>
    obtain⟨q,a,_⟩:=PQ hp;rw [c] at a;cases a
  | some q=>
   obtain⟨nd,rows⟩:=q;simp only;by_cases f:40 < nd.length/\none∉nd
   ·rw [if_pos f]
    cases hp:GC 40 (IH t) (Ac t.al) 41 [A0 t] [] with
    | none=>rfl
    | some p=>
     obtain⟨q,a,b⟩:=PQ hp
     rw [c] at a;injection a with a;subst a
     rcases b with b|b
     ·exact absurd f.1 (by simpa using b)
     ·exact absurd b f.2
   ·rw [if_neg f]
    obtain⟨p,hp⟩:=fk c (by
     rcases nh 40 nd.length with h|h
     ·exact .inr (Classical.byContradiction λb=>f ⟨h,b⟩)
     ·exact .inl h)
    rw [hp];obtain⟨l,j⟩:=p;simp only;obtain⟨k,b⟩:=Jn 41 (by simp) (by simp) ⟨rfl,by simp,by simp,λi r m=>(by cases m),λZ e _ q a=>by simp at a;subst a;exact e⟩ hp;have g:=UR k b;have hw:=Ex (t:=t) (by rw [e];exact c);rw [Nk g,aJ hw.1 g rfl λw d=>by rw [eX k d,hw.2 w d,<-e,ZK]]
theorem Xe{t:BE}(hal:Bv t.al=true){m:AK}(h:Ig t=some m):AI m=true/\m.al=t.al/\(∀w,Av (AU t.al) w->LA m w=LS t w)/\(Df m).nx.length=m.nx.length:=by
 unfold Ig at h
 cases d:FV 41 (LK (IH t)) (Ac t.al) (Y3 t) with
 | none=>rw [d] at h;cases h
 | some p=>
  obtain⟨nd,rows⟩:=p;rw [d] at h;simp only at h;split at h
  ·cases h
  ·unfold Si at h
   split at h
   ·cases h
   ·rename_i f
    injection h with h
    subst h;obtain⟨g,hw⟩:=Ex d;have c:=KF g;have e:(Df (YV t.al nd rows)).al=t.al:=c.al;exact⟨dy c.g.b c.g.n1 (by omega) (by rw [e];exact hal) c.g.ac,e,λw a=>by rw [c.lang w a,hw w a],dT g⟩
end Go.Am
namespace Go.Am
open Go Go.Proofs
set_option maxHeartbeats 1000000
set_option maxRecDepth 4000
attribute [local irreducible] AO BS Lex A4 Au Spec
variable {TB:Bi}
def aj(al n:Int)(l:List Ej):Ab:=(0,.cells 25 3 [[.d (iD 0),.d (iD 0),.d (.l [])]])::Jw al n l
theorem XL{y:Sys}(M:BA y=true)(S:y.es.length<=100000)(m:Nat)(G:m < 2 ^ 62):Spec Tryz.prog TB 205 [] 0 [Dv y,eI .i64 (m:Nat)] (C7 (λr:Sys=>r.es.length<=y.es.length) Dv):=by
 have T:=Ck M
 obtain⟨a,F,P⟩:∃a:Nat,y.st=a/\a<=16:=⟨y.st.toNat,by omega,by omega⟩
 have u:=KA (TB:=TB) m G a (by omega);rw [<-F] at u;refine eR Tryz.func205 rfl (by kernel_rfl) rfl ?_;intro Γ b;(repeat first|refine tA rfl ?_ |refine aU rfl ?_ |refine Aa ?_);refine rG (RH [(7,1),(8,1)]) (by kernel_rfl) ?_;(repeat first|refine tX rfl ?_ |refine sP rfl (u) rfl ?_|(refine Af rfl ?_;refine gA rfl ?_;first| refine gS (λ_ _=>NB rfl rfl (by rfl) (by rfl)) ?_) |refine aU rfl ?_ |refine Aa ?_);refine aB ?_;refine aL (U:={z:Nat×List Ej // z.1<=y.es.length/\z.2.length<=z.1}) [1,2] [] rfl rfl (λs=>[(4,.o (.ptr 0 3 0 0)),(5,.o (.ptr 1 3 0 0)),(6,eI .i64 s.1.1)]) (λs=>aj y.al (ER m a:Nat) s.1.2) 3 (λs=>y.es.length - s.1.1) (⟨⟨0,[]⟩,by simp⟩) b rfl (by (simp[cX,zC,b,aj,Jw,cN])) ?_;rintro⟨⟨k,l⟩,hk,c⟩;(try dsimp only[cA,cB]);have hk:k<=y.es.length:=hk;have c:l.length<=k:=c;by_cases H:k < y.es.length
 ·obtain⟨e,N⟩:=get_some H
  have L:=get_map (g:=Dy) N
  have R:(y.es.map Dy)[((k:Nat):Int).toNat]? = some (Dy e):=by rw [f6];exact L
  have hb:=CX M (ce N);unfold Dg at hb;simp only [d6,decide_eq_true_eq] at hb
  obtain⟨A,K⟩:∃A:Nat,e.f=A:=⟨e.f.toNat,by omega⟩
  obtain⟨x,B⟩:∃x:Nat,e.t=x:=⟨e.t.toNat,by omega⟩
  have J:=DA (TB:=TB) (m:Nat) e.f (by omega) (by omega);have I:=DA (TB:=TB) (m:Nat) e.t (by omega) (by omega);have n:=KA (TB:=TB) m G A (by omega);have j:=KA (TB:=TB) m G x (by omega);rw [<-K] at n;rw [<-B] at j;(repeat first|refine sN rfl ?_ |refine tA rfl ?_ |refine s2 rfl λ_ p=>?_ |refine aU rfl ?_ |refine Aa ?_)
  ((refine aC rfl ?_ ?_<;>rintro⟨⟩);all_goals try(exfalso;(simp only[oZ] at *;omega)))
  refine aK ?_;refine aS (aB ?_)
  (repeat' first|refine tA rfl ?_ |(refine s4 rfl ‹_› rfl ?_ ?_;omega) |(refine sC rfl (J) ?_;intro _ p)|(refine sC rfl (I) ?_;intro _ p) |refine s3 rfl ?_ ?_<;>rintro rfl |refine aU rfl ?_ |refine Aa ?_|(refine aC rfl ?_ ?_<;>rintro⟨⟩));all_goals try contradiction
  ·obtain⟨eN,w⟩:∃eN:Ej,eN=⟨(ER m A:Nat),e.l,(ER m x:Nat)⟩:=⟨_,rfl⟩
   cases l with
   | nil=>
    refine rG (RH [(1,11),(4,13),(7,13),(10,13),(14,1),(16,1)]) (by kernel_rfl) ?_;(repeat first|refine tA rfl ?_ |refine sP rfl (n) rfl ?_|refine sP rfl (j) rfl ?_|(refine Af rfl ?_;refine gA rfl ?_;first| refine gS (λ_ _=>AF rfl rfl (by rfl) (by rfl)) ?_));(refine pW rfl ?_ rfl (by rfl);refine VY 38 rfl ?_;refine Iu rfl rfl rfl (by intro r v;simp at v;subst v;rfl) (by rfl) (co rfl) (by simp) (λh=>?_) (λ_=>?_))
    ·exact absurd h (by simp)
    (repeat first|(refine sX rfl ?_ ?_;first|exact tI|omega) |refine aU rfl ?_ |refine Aa ?_);refine⟨⟨⟨k+1,[eN]⟩,by dsimp only;omega,by simp⟩,by dsimp only;(omega),[0,1,4],?_⟩;(simp[cX,zC,b,cN,aj,Jw,Ae,eC,w]<;>rfl)
   | cons q l=>
    refine rG (RH [(1,11),(4,13),(7,13),(10,13),(14,1),(16,1)]) (by kernel_rfl) ?_;(repeat first|refine tA rfl ?_ |refine sP rfl (n) rfl ?_|refine sP rfl (j) rfl ?_|(refine Af rfl ?_;refine gA rfl ?_;first| refine gS (λ_ _=>AF rfl rfl (by rfl) (by rfl)) ?_));(refine pW rfl ?_ rfl (by rfl);refine Aj rfl rfl rfl (by first| (simp;done)|(simp;(omega))) rfl (by intro r v;simp at v;subst v;rfl) (by rfl) (co rfl) (by simp at c |-;omega) ?_);(repeat first|(refine sX rfl ?_ ?_;first|exact tI|omega) |refine aU rfl ?_ |refine Aa ?_);refine⟨⟨⟨k+1,q::(l++[eN])⟩,by dsimp only;omega,by simp at c |-;omega⟩,by dsimp only;(omega),[0,1,4],?_⟩;(simp[cX,zC,b,cN,aj,Jw,Ae,eC,w]<;>rfl)
  all_goals
   refine aK ?_;(repeat first|(refine sA rfl ?_ ?_;first|exact tI|omega) |refine aU rfl ?_ |refine Aa ?_);refine⟨⟨⟨k+1,l⟩,by dsimp only;omega,by dsimp only;omega⟩,by dsimp only;(omega),[0,1,2],?_⟩
   cases l<;>(simp[cX,zC,b,cN,aj,Jw]<;>rfl)
 ·have Q:k=y.es.length:=by omega
  (repeat first|refine sN rfl ?_ |refine tA rfl ?_ |refine s2 rfl λ_ p=>?_ |refine aU rfl ?_ |refine Aa ?_)
  ((refine aC rfl ?_ ?_<;>rintro⟨⟩);all_goals try(exfalso;(simp only[oZ] at *;omega)))
  refine aE ?_
  cases l with
  | nil=>
   refine Au.AM [1] [(4,.o (.ptr 0 3 0 0)),(5,.o (.ip (CD ⟨y.al,(ER m a:Nat),[]⟩)))] ⟨⟨_,rfl,.inl rfl⟩,⟨_,rfl,.inr (.o (.box rfl (.cons .d (.cons .d (.cons .nl .nil)))))⟩,trivial⟩ ?_;(repeat first|refine tA rfl ?_ |refine aU rfl ?_ |refine Aa ?_);exact aR ⟨_,rfl,[],Dv ⟨y.al,(ER m a:Nat),[]⟩,[],⟨λi hi=>absurd hi (mt i),mV⟩,rfl,trivial,⟨y.al,(ER m a:Nat),[]⟩,nK _,rfl,rfl,rfl⟩
  | cons q l=>
   refine Au.AM [1,2] [(4,.o (.ptr 0 3 0 0)),(5,.o (.ip (CD ⟨y.al,(ER m a:Nat),q::l⟩)))] ⟨⟨_,rfl,.inl rfl⟩,⟨_,rfl,.inr (.o (.box rfl (.cons .d (.cons .d (.cons (.full rfl (by simp [d4]) (by simp)) .nil)))))⟩,trivial⟩ ?_;(repeat first|refine tA rfl ?_ |refine aU rfl ?_ |refine Aa ?_);exact aR ⟨_,rfl,[],Dv ⟨y.al,(ER m a:Nat),q::l⟩,[],⟨λi hi=>absurd hi (mt i),mV⟩,rfl,trivial,⟨y.al,(ER m a:Nat),q::l⟩,by show (q::l).length<=_;omega,rfl,rfl,rfl⟩
theorem Um(n:Int)(d:0<=n)(g:n<=16):Pure Tryz.prog TB 206 [eI .i64 n] (eI .i64 ((2 ^ n.toNat:Nat):Int)):=by
 have a:IntKind.i64.wrap (1*2 ^ (min n.toNat IntKind.i64.bits))=((2 ^ n.toNat:Nat):Int):=by
  have e:min n.toNat IntKind.i64.bits=n.toNat:=by
   have:IntKind.i64.bits=64:=rfl;omega
  rw [e,Int.one_mul];have f:2 ^ n.toNat < 2 ^ 17:=qj (by omega) (by omega)
  have c:(2:Int) ^ n.toNat=((2 ^ n.toNat:Nat):Int):=by push_cast;rfl
  rw [c];generalize 2 ^ n.toNat=p at *;exact IntWalk.i64_in _ (by omega)
 refine eN Tryz.func206 rfl (by kernel_rfl) rfl ?_;intro Γ b;(repeat' first|(refine sA rfl ?_ ?_;first|exact tI|omega)|(refine Af rfl ?_;refine gA rfl ?_;first| refine gS (λ_ _=>bW rfl rfl d a) ?_) |refine aU rfl ?_ |refine Aa ?_|(refine aC rfl ?_ ?_<;>rintro⟨⟩)|refine aK ?_|refine aE ?_|refine aB ?_|refine aR ⟨_,rfl,?_⟩);rfl
abbrev lF(r:BE×Bool):E:=.t [(true,(Tv r.1).map .d),(false,[.d (bD r.2)])]
theorem dv(m:Nat)(al:Int):Ok m ⟨al,[],[]⟩:=⟨nK _,nK _,λr a=>by cases a⟩
theorem Xi(x:Sys)(p:AK)(o:Sys)(w:x.es.length<=100000)(hp:Ok 1000000 p):Spec Tryz.prog TB 127 [] 0 [Dv x,Bm p,Dv o] (C7 (λr:BE×Bool=>r.1.s.es.length<=x.es.length/\∀m,Ok m p->Ok m r.1.q) lF):=by
 have n:=MX (TB:=TB) x p o
 have e:Qs x p o < 0\/(0<=Qs x p o/\BA x=true):=by
  unfold Qs;cases h:BA x
  ·left;simp
  ·rcases Int.lt_or_le (Qs x p o) 0 with b|b
   ·left;unfold Qs at b;rw [h] at b;exact b
   ·right;refine⟨?_,rfl⟩;unfold Qs at b;rw [h] at b;exact b
 generalize Qs x p o=ai at *;refine eR Tryz.func127 rfl (by kernel_rfl) rfl ?_;intro Γ a;(repeat first|refine tA rfl ?_ |refine s2 rfl λ_ G=>?_ |refine sP rfl (n) rfl ?_ |refine aU rfl ?_ |refine Aa ?_)
 rcases e with F|⟨F,u⟩
 ·((refine aC rfl ?_ ?_<;>rintro⟨⟩);all_goals try(exfalso;(simp only[oZ] at *;omega)))
  (repeat first|refine tA rfl ?_|(refine Af rfl ?_;refine gA rfl ?_;first| refine gS (λ_ _=>AF rfl rfl (by rfl) (by rfl)) ?_) |refine aU rfl ?_ |refine Aa ?_);exact aR ⟨_,rfl,[],lF (⟨⟨0,0,[]⟩,⟨0,[],[]⟩,0⟩,false),[],⟨λi hi=>absurd hi (mt i),mV⟩,rfl,trivial,(⟨⟨0,0,[]⟩,⟨0,[],[]⟩,0⟩,false),⟨nK _,λm _=>dv m 0⟩,rfl,rfl,rfl⟩
 have H:=Ck u;have t:=Um (TB:=TB) x.st (by omega) (by omega);have y:2 ^ x.st.toNat<=2 ^ 16:=nY (by omega) (by omega);have z:0 < 2 ^ x.st.toNat:=pI _
 have k:((2 ^ x.st.toNat:Nat):Int) - 1=((2 ^ x.st.toNat - 1:Nat):Int):=by omega
 have c:=XL (TB:=TB) u w (2 ^ x.st.toNat - 1) (by omega);rw [<-k] at c;generalize 2 ^ x.st.toNat=pw at *
 ((refine aC rfl ?_ ?_<;>rintro⟨⟩);all_goals try(exfalso;(simp only[oZ] at *;omega)))
 refine aK ?_;(repeat first|refine aU rfl ?_);refine rG ⟨Hb [(5,1),(7,1),(10,1)],dr [0,1,2,3,4,6,8,5,7,9,10,11]⟩ (by kernel_rfl) ?_;(repeat first|(refine sX rfl ?_ ?_;first|exact tI|omega) |refine sP rfl (t) rfl ?_);(refine pW rfl ?_ rfl (by rfl);refine Ag [] rfl rfl (c) ⟨rfl,by decide,by decide⟩ rfl trivial ?_;rintro v f g ⟨s1,j,rfl,rfl,rfl⟩ _);(refine pW rfl ?_ rfl (by rfl);refine BJ [] rfl rfl 0 (Ps p hp) (by decide) ⟨rfl,by decide,by decide⟩ rfl (by simp[cX,zC,a,cN]) ?_;rintro v f g ⟨l,B,rfl,rfl,rfl⟩ _);(repeat first|refine tX rfl ?_|(refine Af rfl ?_;refine gA rfl ?_;first| refine gS (λ_ _=>AF rfl rfl (by rfl) (by rfl)) ?_) |refine Aa ?_);refine Au.AL [] [] rfl rfl [(6,.o (.ptr 0 7 0 0)),(7,eB true)] [(0,.cells 42 7 [[.d (iD s1.al),.d (iD s1.st),.d (Gm s1.es),.d (iD p.al),.arr 1 1 0 l.length,.arr 2 1 0 p.ac.length,.d (iD ai)]]),(1,.cells 53 1 (AR l)),(2,.cells 4 1 (p.ac.map AP)),(3,.sld 3 (sI l))] [0,1,2,3] (rl a rfl) (by (simp[cX,zC,a,cN,Bb,Ae,eC])) ?_;(try dsimp only[cA,cB]);refine Au.AM [0,1,2,3] [(6,.o (.ip (Tv ⟨s1,⟨p.al,l.map (·.2),p.ac⟩,ai⟩))),(7,eB true)] ⟨⟨_,rfl,.inr (.o (.box rfl (.cons .d (.cons .d (.cons .d (.cons .d (.cons (.UI (s:=3) rfl rfl) (.cons (.full rfl (by simp [d4]) (by simp)) (.cons .d .nil)))))))))⟩,⟨_,rfl,.inl rfl⟩,trivial⟩ ?_;exact aR ⟨_,rfl,[],lF (⟨s1,⟨p.al,l.map (·.2),p.ac⟩,ai⟩,true),[],⟨λi hi=>absurd hi (mt i),mV⟩,rfl,trivial,(⟨s1,⟨p.al,l.map (·.2),p.ac⟩,ai⟩,true),⟨j,λm A=>by rw [B];exact A⟩,rfl,rfl,rfl⟩
theorem QW{n x v:Nat}{G:PS}:((FJ n G).map Az).set x (Az (v:Int))=(FJ n (Vl G x v)).map Az:=by
 apply nH;intro i;rw [qx];by_cases hi:i < n
 ·have a:∀H:PS,((FJ n H).map Az)[i]? = some (Az (H i:Int)):=λH=>by simp [hi]
  rw [a,a];unfold Vl;by_cases e:x=i
  ·subst e;rw [if_pos rfl,if_pos (by simpa using hi),if_pos rfl]
  ·rw [if_neg e,if_neg (λh=>e h.symm)]
 ·have a:∀H:PS,((FJ n H).map Az)[i]? = none:=λH=>i8 (by simp;omega)
  rw [a,a];by_cases e:x=i
  ·subst e;rw [if_pos rfl,if_neg (by simpa using hi)]
  ·rw [if_neg e]
theorem QV{n x:Nat}{G:PS}(h:x < n):((FJ n G).map Az)[0+((x:Nat):Int).toNat]? = some (Az (G x:Int)):=by rw [ms,f6];simp [h]
theorem RN.start{t:BE}{F0 F:PS}(a:CE t F)(c:∀p j,(F0 p).testBit j=true->(F p).testBit j=true)(b:∀p j,(F p).testBit j=true->RG t F0 p j):RN t F0 F 0 0 F false:=
 ⟨a,c,b,λ_=>io _,λh=>(by cases h),λ_=>⟨rfl,λp _ l _ h=>by simp at h⟩⟩
theorem Nd{t:BE}(ht:AZ t=true){F0:PS}(K:CE t F0):Spec Tryz.prog TB 248 [(0,.cells 3 1 ((FJ t.q.nx.length F0).map Az))] 1 [FU t,.o (.arr 0 1 0 t.q.nx.length)] (λx σ nx=>x=.o (.arr 0 1 0 t.q.nx.length)/\σ=[(0,.cells 3 1 ((FJ t.q.nx.length (TL t F0)).map Az))]/\nx=1):=by
 have P:BA t.s=true:=by unfold AZ at ht;simp only [d6] at ht;exact ht.1
 have A:Bv t.al=true:=by unfold AZ at ht;simp only [d6] at ht;exact ht.2.2
 have y:=Ck P;have g:=CZ ht;have hah:=Al g;have H:=fq y.1 A;have I:=y.1;unfold Bv at I;simp only [decide_eq_true_eq] at I
 have R:Pure Tryz.prog TB 68 [eI .i64 (t.s.al - E4 .i64 t.s.al t.al)] (AH (CM t)):=by
  have:=CU (TB:=TB) (t.s.al - E4 .i64 t.s.al t.al);rw [H.1,HS y.1 A] at this;rw [H.1];exact this
 have hll:(CM t).length<=6:=by
  unfold CM;have X:(Ac t.s.al).length<=6:=AD _ _;exact kw (pp _ _) X
 refine eR Tryz.func248 rfl (by kernel_rfl) rfl ?_;intro Γ c;(repeat first|(refine sA rfl ?_ ?_;first|exact tI|omega) |refine sP rfl (R) rfl ?_ |refine aU rfl ?_ |refine Aa ?_);refine aB ?_;refine aL (U:={s:PS×Bool // CE t s.1/\(∀p j,(F0 p).testBit j=true->(s.1 p).testBit j=true)/\(∀p j,(s.1 p).testBit j=true->RG t F0 p j)/\(s.2=false->s.1=TL t F0)}) [1,2,5] [] rfl rfl (λs=>[(6,eB s.1.2)]) (λs=>[(0,.cells 3 1 ((FJ t.q.nx.length s.1.1).map Az))]) 1 (λs=>(if s.1.2 then LJ s.1.1+1 else 0)) (⟨⟨F0,true⟩,K,λ_ _ h=>h,λ_ _ h=>.base h,λh=>by cases h⟩) c rfl (by (simp[cX,zC,c])) ?_;rintro⟨⟨F,b⟩,V,X,h2,h3⟩;(try dsimp only[cA,cB]);have V:CE t F:=V
 cases b with
 | false=>
  obtain rfl:F=TL t F0:=h3 rfl;(repeat first|refine tA rfl ?_ |refine aU rfl ?_ |refine Aa ?_);(refine aC rfl ?_ ?_<;>rintro⟨⟩);refine aE ?_;(repeat first|refine tA rfl ?_ |refine aU rfl ?_ |refine Aa ?_);refine aR ⟨_,rfl,[0],.o (.arr 0 1 0 t.q.nx.length),_,⟨by intro i hi;match i with|0=>rfl,by decide⟩,rfl,?_,rfl,rfl,rfl⟩;(simp[cX,zC,c])
 | true =>
  (repeat first|refine tA rfl ?_ |refine aU rfl ?_ |refine Aa ?_);(refine aC rfl ?_ ?_<;>rintro⟨⟩);refine aK ?_;refine aB ?_;(repeat first|refine tA rfl ?_ |refine aU rfl ?_ |refine Aa ?_);refine aB ?_;refine aL (U:={s:Nat×PS×Bool // s.1<=t.q.nx.length/\RN t F0 F s.1 0 s.2.1 s.2.2}) [1,2,5] [] rfl rfl (λs=>[(6,eB s.1.2.2),(7,eI .i64 s.1.1)]) (λs=>[(0,.cells 3 1 ((FJ t.q.nx.length s.1.2.1).map Az))]) 1 (λs=>t.q.nx.length - s.1.1) (⟨⟨0,F,false⟩,by simp,.start V X h2⟩) c rfl (by (simp[cX,zC,c])) ?_;rintro⟨⟨i,G,b⟩,hi,w⟩;(try dsimp only[cA,cB]);have hi:i<=t.q.nx.length:=hi;have w:RN t F0 F i 0 G b:=w;by_cases u:i < t.q.nx.length
  ·(repeat first|refine tA rfl ?_ |refine s2 rfl λ_ d=>?_ |refine aU rfl ?_ |refine Aa ?_)
   ((refine aC rfl ?_ ?_<;>rintro⟨⟩);all_goals try(exfalso;(simp only[oZ] at *;omega)))
   refine aK ?_;refine aS (aB ?_);(repeat first|refine tA rfl ?_ |refine aU rfl ?_ |refine Aa ?_);refine aB ?_;refine aL (U:={s:Nat×PS×Bool // s.1<=(CM t).length/\RN t F0 F i s.1 s.2.1 s.2.2}) [1,2,5,7] [] rfl rfl (λs=>[(6,eB s.1.2.2),(8,eI .i64 s.1.1)]) (λs=>[(0,.cells 3 1 ((FJ t.q.nx.length s.1.2.1).map Az))]) 1 (λs=>(CM t).length - s.1.1) (⟨⟨0,G,b⟩,by simp,w⟩) c rfl (by (simp[cX,zC,c])) ?_;rintro⟨⟨k,G',b'⟩,hk,e⟩;(try dsimp only[cA,cB]);have hk:k<=(CM t).length:=hk;have e:RN t F0 F i k G' b':=e;clear w;by_cases S:k < (CM t).length
   ·obtain⟨l,r⟩:=get_some S
    have f:=Hd ht (ce r)
    have hl':((CM t).map Br)[((k:Nat):Int).toNat]? = some (Br l):=by rw [f6];simp [r]
    have J:=VR (TB:=TB) t.q g i u l f.1 f.2.1;have T:=DG g u f.1 f.2.1
    obtain⟨x,L⟩:∃x:Nat,AW t.q i l=x:=⟨(AW t.q i l).toNat,by omega⟩
    rw [L] at J T;have M:=Pr (TB:=TB) P l (e.ok.lt i)
    have Z:BL t.s.es l (G' i) < 65536:=by
     have:=Sz P (l:=l) (m:=G' i) (k:=t.s.es.length);rwa [i9] at this
    have r1:=QV (n:=t.q.nx.length) (G:=G') (x:=x) (by omega);have r2:=QV (n:=t.q.nx.length) (G:=G') (x:=i) u;have Y:=e.ok.lt x;have z:=LX (a:=G' x) (b:=BL t.s.es l (G' i)) (by omega) (by omega);have B:=QW (n:=t.q.nx.length) (x:=x) (v:=G' x ||| BL t.s.es l (G' i)) (G:=G');(repeat first|refine sN rfl ?_ |refine tA rfl ?_ |refine s2 rfl λ_ d=>?_ |refine aU rfl ?_ |refine Aa ?_)
    ((refine aC rfl ?_ ?_<;>rintro⟨⟩);all_goals try(exfalso;(simp only[oZ] at *;omega)))
    refine aK ?_;refine aS (aB ?_);(repeat first|refine aU rfl ?_);refine rG (Ha []) (by kernel_rfl) ?_;(repeat first|refine tA rfl ?_ |(refine s4 rfl ‹_› rfl ?_ ?_;omega) |refine sP rfl (J) rfl ?_ |refine aU rfl ?_ |refine Aa ?_);refine rG (Ha []) (by kernel_rfl) ?_;(repeat first|((first|refine sA rfl ?_ ?_|refine s4 rfl ‹_› rfl ?_ ?_);first|exact tI|omega) |refine s2 rfl λ_ d=>?_ |refine sP rfl (M) rfl ?_ |refine aU rfl ?_ |refine Aa ?_);(refine aC rfl ?_ ?_<;>rintro⟨⟩)
    ·have Q:G' x ||| BL t.s.es l (G' i)≠G' x:=by
      rw [z] at d;simp only [decide_eq_true_eq] at d;omega
     (repeat first|(refine sA rfl ?_ ?_;first|exact tI|omega) |refine t4 rfl ‹_› rfl ?_ |refine aU rfl ?_ |refine Aa ?_);have N:=e.N5 ht u r L Q;generalize Vl G' x (G' x ||| BL t.s.es l (G' i))=G2 at *;refine⟨⟨⟨k+1,G2,true⟩,by omega,N⟩,by dsimp only;(omega),[0],?_⟩
     simp[cX,zC,c,z];simpa [d4] using B
    ·have he:G' x ||| BL t.s.es l (G' i)=G' x:=by
      rw [z] at d;simp only [decide_eq_false_iff_not] at d;omega
     refine aK ?_;(repeat first|(refine sA rfl ?_ ?_;first|exact tI|omega) |refine aU rfl ?_ |refine Aa ?_);refine⟨⟨⟨k+1,G',b'⟩,by omega,e.kz ht r L he⟩,by dsimp only;(omega),[0],?_⟩;simp[cX,zC,c]
   ·obtain rfl:k=(CM t).length:=by omega
    (repeat first|refine sN rfl ?_ |refine tA rfl ?_ |refine s2 rfl λ_ d=>?_ |refine aU rfl ?_ |refine Aa ?_)
    ((refine aC rfl ?_ ?_<;>rintro⟨⟩);all_goals try(exfalso;(simp only[oZ] at *;omega)))
    refine aE ?_;(repeat first|(refine sA rfl ?_ ?_;first|exact tI|omega) |refine aU rfl ?_ |refine Aa ?_);refine⟨⟨⟨i+1,G',b'⟩,by omega,e.row⟩,by dsimp only;(omega),[0],?_⟩;simp[cX,zC,c]
  ·obtain rfl:i=t.q.nx.length:=by omega
   (repeat first|refine tA rfl ?_ |refine s2 rfl λ_ d=>?_ |refine aU rfl ?_ |refine Aa ?_)
   ((refine aC rfl ?_ ?_<;>rintro⟨⟩);all_goals try(exfalso;(simp only[oZ] at *;omega)))
   refine aE ?_;refine⟨⟨⟨G,b⟩,w.ok,w.lo,w.hi,λhb=>by have hb:b=false:=hb;subst hb;exact w.done ht K⟩,by cases b<;>simp_all [w.yes],[0],?_⟩;simp[cX,zC,c]
end Go.Am
namespace Go.Am
open Go Go.Proofs
set_option maxHeartbeats 1000000
set_option maxRecDepth 4000
attribute [local irreducible] AO BS Lex A4 Au Spec
abbrev Y0:W->Prop:=λ_=>True
def GP(m:Cr)(i:Int):Option PS:=if i < 0 then none else m.F[i.toNat]?
def Om(t:BE)(m:Cr)(i:Int):Prop:=i = -1\/∃(j:Nat) (F:PS),i=j/\m.F[j]? = some F/\Eo t F=false
theorem Ff(m:Cr):GP m (-1)=none:=by unfold GP;rw [if_pos (by decide)]
theorem EB(m:Cr)(j:Nat):GP m j=m.F[j]?:=by unfold GP;rw [if_neg (by omega),f6]
theorem Mt.refl(m:Cr):Mt m m:=λ_ _ h=>h
theorem Mt.trans{a b c:Cr}(h:Mt a b)(k:Mt b c):Mt a c:=λi F e=>k i F (h i F e)
theorem QR{t:BE}{m m':Cr}{i:Int}(h:Mt m m')(b:Om t m i):Om t m' i/\GP m' i=GP m i:=by
 rcases b with rfl|⟨j,F,rfl,a,hb⟩
 ·exact⟨.inl rfl,by rw [Ff,Ff]⟩
 ·exact⟨.inr ⟨j,F,rfl,h j F a,hb⟩,by rw [EB,EB,a,h j F a]⟩
theorem ez{t:BE}{m m':Cr}{nd:List Int}(h:Mt m m')(b:∀q∈nd,Om t m q):nd.map (GP m')=nd.map (GP m):=nu λq a=>(QR h (b q a)).2
theorem ew{t:BE}{m:Cr}(e:m.F.Nodup)(a b:Int)(ha:Om t m a)(hb:Om t m b)(h:GP m a=GP m b):a=b:=by
 rcases ha with rfl|⟨j,F,rfl,d,_⟩
 ·rcases hb with rfl|⟨k,G,rfl,c,_⟩
  ·rfl
  ·rw [Ff,EB,c] at h;cases h
 ·rcases hb with rfl|⟨k,G,rfl,c,_⟩
  ·rw [Ff,EB,d] at h;cases h
  ·rw [EB,EB] at h
   rw [(ox (am.1 d).1 e).1 h]
theorem eD{t:BE}{m m':Cr}{f:Option PS->Int->Option PS}{Q:Option PS}{nd row ls:List Int}{y l:Int}(j:m'.F.Nodup)(b:Mt m m')(c:∀q∈nd,Om t m q)(e:Om t m' y)(i:GP m' y=f Q l) :
 CG 41 f Q (nd.map (GP m)) row (l::ls)=if y∈nd then CG 41 f Q (nd.map (GP m')) (row++[((nd.idxOf y:Nat):Int)]) ls else if nd.length=41 then none else CG 41 f Q ((nd++[y]).map (GP m')) (row++[(nd.length:Int)]) ls:=by
 obtain⟨d,k⟩:=Qr (R:=Om t m') (φ:=GP m') (ew j) (nd:=nd) (x:=y) (λq g=>(QR b (c q g)).1) e;rw [<-ez b c];simp only [CG];rw [<-i,k,f7,nO];by_cases a:y∈nd
 ·rw [if_pos a,if_pos (d.2 a)]
 ·rw [if_neg a,if_neg λh=>a (d.1 h)]
  rfl
theorem eZ{t:BE}{F:PS}(h:Reach t F):iS t Y0 F:=by
 suffices ∃u,F=KS t (A0 t) u by
  obtain⟨u,a⟩:=this;exact .inr ⟨u,[],trivial,a⟩
 induction h with
 | start=>exact⟨[],rfl⟩
 | @next F l e d _ b=>
  obtain⟨u,a⟩:=b;refine⟨u++[UInt8.ofNat (97+l.toNat)],?_⟩;rw [NP,<-a];simp only [KS]
  have c:(UInt8.ofNat (97+l.toNat)).toNat=97+l.toNat:=by simp;omega
  rw [c,show ((97+l.toNat:Nat):Int) - 97=l by omega]
end Go.Am
