/-
  The reference closes a table.
-/
import Derived.Test.YtdipaikojjjebaaGreatDoorPart15
import Derived.Test.YtdipaikojjjebaaGreatDoorPart16
set_option linter.all false
namespace Go.Am
open Go Go.Proofs
set_option maxHeartbeats 1000000
set_option maxRecDepth 4000
attribute [local irreducible] A5 CQ Lex BC Al Spec
variable {TB:BB}
theorem Wx{A:W->Bool}{ls:List UInt8}{m:Nat}{u:AW}{w:W}{R:Option AW}(b:R=Bd A ls (m+1) u)(a:A7 A ls u=some w)(c:u.rows.length<12):R=Bd A ls m ⟨u.rows++[w],u.cols⟩:=by
 rw[b]
 conv=>lhs;unfold Bd
 rw[a];dsimp only;rw[if_neg (by omega)]
theorem JK{t:EO}{al:Int}{A:W->Bool}(Z:Ll Tryz.prog TB 140 186 t al A)(tab:AW)(hz:YH tab) :
 Pure Tryz.prog TB 138 [EY t,Ej tab] (Jq (if A4 A al tab then Bd A (AR al) 13 tab else none)):=by
 have N:=Gl Z tab hz;by_cases s:A4 A al tab=true
 .rw [if_pos s]
  rw[s]at N;have g:fN al tab:=(Ft s).1;have H:=g.r1;have L:=g.c1;have T:=g.rl;have Y:=g.cl;refine eG Tryz.func138 rfl (by kernel_rfl) rfl ?_;intro Γ e;(repeat first|refine tA rfl ?_|refine s2 rfl λ_ i=>?_|refine sP rfl (N) rfl ?_|refine aU rfl ?_|apply Aa)
  ((refine aC rfl ?_ ?_<;>rintro⟨⟩);all_goals try (simp at i;done))
  apply aK;(repeat first|refine aU rfl ?_);refine R.SL [(0,2),(1,2),(2,2),(4,2),(5,2),(6,2),(9,3),(3,1),(7,1),(8,2),(10,5)] mixed (by kernel_rfl) rfl (by kernel_rfl) ?_;(repeat ((refine R.Ai rfl ?_;first|(refine R.yQ (md:=false) rfl rfl rfl ?_ ?_;exact tI)|refine R.yP rfl rfl rfl rfl ?_|refine R.CJ (λ_ _ _=>Vk (by rfl) (by rfl)) rfl rfl ?_ )));(refine R.Ai rfl ?_;refine R.Lc (λ_=>?_) rfl rfl;refine ET rfl rfl rfl (by intro r v;simp at v;obtain⟨_,_,rfl⟩:=v;rfl) (by rfl) (co rfl) (by simp;omega) (λh=>?_) (λ_=>?_))
  .exfalso;simp at h;rw[h]at H;simp at H
  (refine R.Ai rfl ?_;refine R.Lc (λ_=>?_) rfl rfl;refine ET rfl rfl rfl (by intro r v;simp at v;obtain⟨_,_,rfl⟩:=v;rfl) (by rfl) (co rfl) (by simp;omega) (λh=>?_) (λ_=>?_))
  .exfalso;simp at h;rw[h]at L;simp at L
  (repeat ((refine R.Ai rfl ?_;first|refine R.yA rfl rfl rfl rfl ?_|refine R.CJ (λ_ _ _=>MX rfl rfl (by rfl) (by rfl)) rfl rfl ?_ )));refine R.SF ?_;apply aS;refine Al.AQ [2] [] rfl rfl [(4,.o (.ptr 0 2 0 0)),(6,.o (.ptr 3 2 0 0))] [(0,.cells 109 2 [[.d (.l []),.d (.l [])]]),(1,.cells 9 1 (tab.rows.map Er)),(2,.cells 9 1 (tab.cols.map Er)),(3,.cells 109 2 [[.arr 1 1 0 tab.rows.length,.arr 2 1 0 tab.cols.length]])] [0,1,2,3] (rl e rfl) (by (simp[cX,zC,e])) ?_;(try dsimp only[cA,cB]);have q:=Lz Z tab hz
  have G:∀l:List W,((l.map Er).drop 0).take l.length=(l.map CU).map (λr=>r.map C.d):=λl=>by rw[uR,i8 (by simp)];simp[d6]
  have K:∀u:AW,nk [(0,.cells 109 2 [[.d (.l []),.d (.l [])]]),(1,.cells 9 1 (u.rows.map Er)),(2,.cells 9 1 (u.cols.map Er)),(3,.cells 109 2 [[.arr 1 1 0 u.rows.length,.arr 2 1 0 u.cols.length]])] [EY t,.a [.arr 1 1 0 u.rows.length,.arr 2 1 0 u.cols.length]] [EY t,Ej u]:=λu=>
   .cons (.cons (.pure rfl) (.cons (.pure rfl) (.cons (.pure rfl) (.cons (.pure rfl) (.cons (.pure rfl) (.cons (.pure rfl) (.cons (.pure rfl) (.cons (.pure rfl) (.cons (.pure rfl) (.cons (.pure rfl) (.cons (.pure rfl) .nil))))))))))) (.cons (.cons (.arr rfl (by simp) (G _)) (.cons (.arr rfl (by simp) (G _)) .nil)) .nil)
  have I:∀x:AW,dr (A7 A (AR al) x)=.t [(false,[.d (tD ((A7 A (AR al) x).getD []))]),(false,[.d (bD (A7 A (AR al) x).isSome)])]:=λx=>by cases A7 A (AR al) x<;>rfl
  rw[I]at q;(repeat first|refine tA rfl ?_|(refine Ai rfl ?_;refine gA rfl ?_;first|refine gQ (Jj rfl rfl ((K tab)) (q) rfl) rfl ?_)|refine aU rfl ?_|apply Aa)
  obtain⟨R,hR⟩:∃R,R=Bd A (AR al) 13 tab:=⟨_,rfl⟩
  rw[<-hR];apply aB;refine aL (α:={p:Nat×AW // p.1<=13/\13<=p.1+p.2.rows.length/\p.2.rows.length<=12/\p.2.cols.length<=20/\(∀w∈p.2.rows,w.length<=50000+p.2.rows.length)/\(∀w∈p.2.cols,w.length<=4000)/\R=Bd A (AR al) p.1 p.2}) [2,4,6] [0] rfl rfl (λ⟨⟨m,u⟩,M,n,k,j,b,c,z⟩=>[(7,eT ((A7 A (AR al) u).getD [])),(8,eB (A7 A (AR al) u).isSome)]) (λ⟨⟨m,u⟩,M,n,k,j,b,c,z⟩=>[(1,.cells 9 1 (u.rows.map Er)),(2,.cells 9 1 (u.cols.map Er)),(3,.cells 109 2 [[.arr 1 1 0 u.rows.length,.arr 2 1 0 u.cols.length]])]) 4 (λ⟨⟨m,u⟩,M,n,k,j,b,c,z⟩=>m) (⟨(13,tab),by simp,by simp,T,Y,λw F=>by have:=(g.rw w F).1;show w.length<=50000+tab.rows.length;omega,λw F=>(g.cw w F).1,hR⟩) e rfl (by (simp[cX,zC,e])) ?_;rintro⟨⟨m,u⟩,M,n,k,j,b,c,z⟩;(try dsimp only[cA,cB]);dsimp only at M n k j b c z
  have Q:A7 A (AR al) u=none\/∃w,A7 A (AR al) u=some w:=by cases A7 A (AR al) u<;>simp
  rcases Q with y|⟨w,y⟩
  .rw [y]
   have V:R=some u:=by
    rw[z]
    obtain⟨m',rfl⟩:∃m',m=m'+1:=⟨m-1,by omega⟩
    simp[Bd,y]
   (repeat first|refine tA rfl ?_|refine aU rfl ?_|apply Aa)
   ((refine aC rfl ?_ ?_<;>rintro⟨⟩);all_goals try (simp at i;done))
   apply aE;(repeat first|refine tA rfl ?_|refine aU rfl ?_|apply Aa);refine Al.settle [(4,.o (.ip [BZ u.rows,BZ u.cols])),(5,eB true)] ⟨⟨_,rfl,.o (.box rfl (.cons (.full rfl (by simp[d6]) (by simp)) (.cons (.full rfl (by simp[d6]) (by simp)) .nil)))⟩,⟨_,rfl,.o .d⟩,trivial⟩ ?_;refine aR ⟨_,rfl,?_⟩;rw[V];rfl
  .rw [y]
   obtain⟨m',rfl⟩:∃m',m=m'+1:=⟨m-1,by omega⟩
   obtain⟨⟨r,v,l,hl,F⟩,_⟩:=Jh y
   have B:w.length<=50000+(u.rows++[w]).length:=by
    have:=b r v;rw[F];simp;omega
   (repeat first|refine tA rfl ?_|refine aU rfl ?_|apply Aa)
   ((refine aC rfl ?_ ?_<;>rintro⟨⟩);all_goals try (simp at i;done))
   apply aK;apply aB;(repeat first|refine tA rfl ?_|refine s2 rfl λ_ i=>?_|refine aU rfl ?_|apply Aa);(refine aC rfl ?_ ?_<;>rintro⟨⟩)
   .have h12:u.rows.length=12:=by (simp only[oZ] at *;omega)
    have V:R=none:=by
     rw[z];simp[Bd,y,h12]
    (repeat first|refine tA rfl ?_|refine sV rfl rfl (by rfl) (by rfl) ?_|refine aU rfl ?_|apply Aa);refine Al.settle [(4,.o (.ip [.l [],.l []])),(5,eB false)] ⟨⟨_,rfl,.o (.box rfl (.cons .d (.cons .d .nil)))⟩,⟨_,rfl,.o .d⟩,trivial⟩ ?_;refine aR ⟨_,rfl,?_⟩;rw[V];rfl
   .have X:u.rows.length<12:=by (simp only[oZ] at *;omega)
    have S:=Wx z y X
    have P:YH ⟨u.rows++[w],u.cols⟩:=⟨by simp;omega,by dsimp only;omega,λx f=>by
     rcases f7.1 f with f|f
     .have:=b x f;omega
     .simp at f;subst f;simp at B;omega,λx f=>by have:=c x f;omega⟩
    have J:=Lz Z ⟨u.rows++[w],u.cols⟩ P;rw[I]at J;apply aK;(repeat first|refine tA rfl ?_|refine aU rfl ?_);(refine pA rfl (by simp) (by simp;omega) ?_);(repeat first|refine tA rfl ?_);apply Aa
    have U:∀x∈u.rows++[w],x.length<=50000+(u.rows++[w]).length:=λx f=>by
     rcases f7.1 f with f|f
     .have:=b x f;simp;omega
     .simp at f;subst f;exact B
    refine Al.AQ [2,4,6] [] rfl rfl [] [(0,.cells 109 2 [[.d (.l []),.d (.l [])]]),(1,.cells 9 1 ((u.rows++[w]).map Er)),(2,.cells 9 1 (u.cols.map Er)),(3,.cells 109 2 [[.arr 1 1 0 (u.rows++[w]).length,.arr 2 1 0 u.cols.length]])] [0,4,2,3] (rl e rfl) (by (simp[cX,zC,e])) ?_;(try dsimp only[cA,cB]);(repeat first|refine tA rfl ?_|(refine Ai rfl ?_;refine gA rfl ?_;first|refine gQ (Jj rfl rfl ((K ⟨u.rows++[w],u.cols⟩)) (J) rfl) rfl ?_)|refine aU rfl ?_|apply Aa);refine⟨⟨⟨m',⟨u.rows++[w],u.cols⟩⟩,by dsimp only;omega,by simp;omega,by simp;omega,j,U,c,S⟩,by dsimp only;(omega),[0,1,2,3],?_⟩;simp[cX,zC,e]
 .have s:A4 A al tab=false:=by simpa using s
  rw[if_neg (by simp[s])];rw[s]at N;refine eG Tryz.func138 rfl (by kernel_rfl) rfl ?_;intro Γ e;(repeat first|refine tA rfl ?_|refine s2 rfl λ_ i=>?_|refine sP rfl (N) rfl ?_|refine aU rfl ?_|apply Aa)
  ((refine aC rfl ?_ ?_<;>rintro⟨⟩);all_goals try (simp at i;done))
  (repeat first|refine tA rfl ?_|refine sV rfl rfl (by rfl) (by rfl) ?_|refine aU rfl ?_|apply Aa);refine Al.settle [(4,.o (.ip [.l [],.l []])),(5,eB false)] ⟨⟨_,rfl,.o (.box rfl (.cons .d (.cons .d .nil)))⟩,⟨_,rfl,.o .d⟩,trivial⟩ ?_;refine aR ⟨_,rfl,rfl⟩
abbrev mQ(r:Sys×Bool):E:=.t [(true,[.d (iD r.1.al),.d (iD r.1.st),.d (EC r.1.es)]),(false,[.d (bD r.2)])]
def OH(al n:Int):List Fu->Ac
 | []=>[(1,.cells 25 3 [[.d (iD al),.d (iD n),.d (.v (.slice none 0 0))]])]
 | e::l=>[(1,.cells 25 3 [[.d (iD al),.d (iD n),.arr 2 3 0 (l.length+1)]]),(2,.cells 78 3 ((e::l).map Bs))]
theorem Hh(f:W)(X:f.length<=10000):Spec Tryz.prog TB 125 [] 0 [eT f] (Eu (λr:Sys×Bool=>r.1.es.length<=f.length+1) mQ):=by
  refine eR Tryz.func125 rfl (by kernel_rfl) rfl ?_;intro Γ e;(repeat first|refine tA rfl ?_|refine aU rfl ?_|apply Aa);(refine pC [] rfl (N6 (TB:=TB) f (by omega) 32) rfl rfl trivial ?_;rintro j b c ⟨ps,⟨Q,P,m⟩,rfl,rfl,rfl⟩ _);(repeat first|refine sN rfl ?_|refine tA rfl ?_|refine s2 rfl λ_ a=>?_|refine aU rfl ?_|apply Aa);by_cases R:ps.length<2
  · ((refine aC rfl ?_ ?_<;>rintro⟨⟩);all_goals try(exfalso;(simp only[oZ] at *;omega)))
    (repeat first|refine tA rfl ?_|refine sV rfl rfl (by rfl) (by rfl) ?_|refine aU rfl ?_|apply Aa);exact aR ⟨_,rfl,[],mQ (⟨0,0,[]⟩,false),[],iB rfl,rfl,trivial,(⟨0,0,[]⟩,false),uL _,rfl,rfl,rfl⟩
  ((refine aC rfl ?_ ?_<;>rintro⟨⟩);all_goals try(exfalso;(simp only[oZ] at *;omega)))
  apply aK;obtain⟨J,V⟩:=get_some (l:=ps) (k:=(0:Int).toNat) (by simp;omega);have U:=get_map (g:=CU) V;obtain⟨v,B⟩:=get_some (l:=ps) (k:=(1:Int).toNat) (by simp;omega);have T:=get_map (g:=CU) B;have A:=m v (ce B);(repeat first|refine tA rfl ?_|(refine s4 rfl ‹_› rfl ?_ ?_;omega)|refine aU rfl ?_);(refine pC [] rfl (Ik (TB:=TB) J) rfl rfl trivial ?_;rintro j b c ⟨⟨n,ok⟩,_,rfl,rfl,rfl⟩ _);(repeat first|refine tA rfl ?_|(refine s4 rfl ‹_› rfl ?_ ?_;omega)|refine aU rfl ?_|apply Aa);(refine pC [] rfl (Kx (TB:=TB) v (by omega)) rfl rfl trivial ?_;rintro j b c ⟨⟨st,L⟩,_,rfl,rfl,rfl⟩ _);(repeat first|refine tA rfl ?_|refine s2 rfl λ_ a=>?_|refine s3 rfl ?_ ?_<;>rintro rfl|refine aU rfl ?_|apply Aa)
  (repeat' first|refine tA rfl ?_|refine s2 rfl λ_ a=>?_|refine aU rfl ?_|apply Aa|(refine aC rfl ?_ ?_<;>rintro⟨⟩));all_goals try contradiction
  all_goals first
    | ((repeat first|refine tA rfl ?_|refine sV rfl rfl (by rfl) (by rfl) ?_|apply Aa)
       exact aR ⟨_,rfl,[],mQ (⟨0,0,[]⟩,false),[],iB rfl,rfl,trivial,(⟨0,0,[]⟩,false),uL _,rfl,rfl,rfl⟩
       done)
    | skip
  apply aK;(repeat first|refine tA rfl ?_|(refine Ai rfl ?_;refine gA rfl ?_;first|refine gS (λ_ _=>Rm rfl rfl (by rfl) (by rfl)) ?_)|refine aU rfl ?_|apply Aa);apply aB;refine aL (α:={z:Nat×List Fu // (2<=z.1/\z.1<=ps.length)/\z.2.length+2=z.1}) [0,4] [] rfl rfl (λs=>[(2,.o (.ptr 0 3 0 0)),(9,.o (.ptr 1 3 0 0)),(10,eI .i64 s.1.1)]) (λs=>((0,.cells 25 3 [[.d (iD 0),.d (iD 0),.d (.l [])]])::OH n st s.1.2)) 3 (λs=>ps.length-s.1.1) (⟨⟨2,[]⟩,by simp;omega⟩) e rfl (by (simp[cX,zC,e,OH,cN])) ?_;rintro⟨⟨k,l⟩,hk,q⟩;(try dsimp only[cA,cB]);have hk:2<=k/\k<=ps.length:=hk;have q:l.length+2=k:=q;(repeat first|refine sN rfl ?_|refine tA rfl ?_|refine s2 rfl λ_ a=>?_|refine aU rfl ?_|apply Aa)
  ((refine aC rfl ?_ ?_<;>rintro⟨⟩);all_goals try (simp at a;done))
  · have u:k<ps.length:=by (simp only[oZ] at *;omega)
    obtain⟨w,x⟩:=get_some (l:=ps) (k:=k) u;have N:=get_map (g:=CU) x;have M:=m w (ce x);apply aK;refine aS (aB ?_);(repeat first|refine tA rfl ?_|(refine s4 rfl ‹_› rfl ?_ ?_;omega)|refine aU rfl ?_);(refine pC [] rfl (Zn (TB:=TB) w (by omega)) rfl rfl trivial ?_;rintro j b c ⟨⟨⟨H,G,F⟩,K⟩,_,rfl,rfl,rfl⟩ _);(repeat first|refine tA rfl ?_|refine s2 rfl λ_ a=>?_|refine aU rfl ?_|apply Aa);(refine aC rfl ?_ ?_<;>rintro⟨⟩)
    · (repeat first|refine tA rfl ?_|refine sV rfl rfl (by rfl) (by rfl) ?_|refine aU rfl ?_|apply Aa)
      exact aR ⟨_,rfl,[],mQ (⟨0,0,[]⟩,false),[],iB rfl,rfl,trivial,(⟨0,0,[]⟩,false),uL _,rfl,rfl,rfl⟩
    apply aK
    cases l with
    | nil=>
      (repeat first|refine tA rfl ?_|refine aU rfl ?_);(refine pW rfl ?_ rfl (by rfl);refine bN 61 rfl ?_;refine ET rfl rfl rfl (by intro r y;simp at y;subst y;rfl) (by rfl) (co rfl) (by simp) (λh=>?_) (λ_=>?_))
      · exact absurd h (by simp)
      (repeat first|(refine sA rfl ?_ ?_;first|exact tI|omega)|refine aU rfl ?_|apply Aa);refine⟨⟨⟨k+1,[⟨H,G,F⟩]⟩,⟨by dsimp only;omega,by dsimp only;omega⟩,by simp at q;simp;omega⟩,by dsimp only;(omega),[0,1,4],?_⟩;(simp[cX,zC,e,cN,OH,Ae,eC]<;>rfl)
    | cons i l=>
      (repeat first|refine tA rfl ?_|refine aU rfl ?_);(refine pA rfl (by simp) (by simp at q |-;omega) ?_);(repeat first|(refine sA rfl ?_ ?_;first|exact tI|omega)|refine aU rfl ?_|apply Aa);refine⟨⟨⟨k+1,i::(l++[⟨H,G,F⟩])⟩,⟨by dsimp only;omega,by dsimp only;omega⟩,by simp at q |-;omega⟩,by dsimp only;(omega),[0,1,4],?_⟩;(simp[cX,zC,e,cN,OH,Ae,eC]<;>rfl)
  apply aE
  have S:k=ps.length:=by (simp only[oZ] at *;omega)
  have p:l.length<=f.length+1:=by omega
  cases l with
  | nil=>
    refine Al.Bb [1] [(0,eT f),(2,.o (.ptr 0 3 0 0)),(9,.o (.ip (AU ⟨n,st,[]⟩)))] ⟨⟨_,rfl,.inl rfl⟩,⟨_,rfl,.inl rfl⟩,⟨_,rfl,.inr (.o (.box rfl (.cons .d (.cons .d (.cons .nl .nil)))))⟩,trivial⟩ ?_;(repeat first|refine tA rfl ?_|refine aU rfl ?_);(refine pC [] rfl (Jp (TB:=TB) ⟨n,st,[]⟩ (by simp)) rfl rfl trivial ?_;rintro j b c ⟨I,t,rfl,rfl,rfl⟩ _);(repeat first|refine tA rfl ?_|refine s2 rfl λ_ a=>?_|apply Aa);(refine aC rfl ?_ ?_<;>rintro⟨⟩)
    · (repeat first|refine tA rfl ?_|refine sV rfl rfl (by rfl) (by rfl) ?_|refine aU rfl ?_|apply Aa)
      exact aR ⟨_,rfl,[],mQ (⟨0,0,[]⟩,false),[],iB rfl,rfl,trivial,(⟨0,0,[]⟩,false),uL _,rfl,rfl,rfl⟩
    apply aK;(repeat first|refine tA rfl ?_|refine aU rfl ?_|apply Aa);exact aR ⟨_,rfl,[],mQ (⟨n,st,[]⟩,true),[],iB rfl,rfl,trivial,(⟨n,st,[]⟩,true),uL _,rfl,rfl,rfl⟩
  | cons i l=>
    refine Al.Bb [1,2] [(0,eT f),(2,.o (.ptr 0 3 0 0)),(9,.o (.ip (AU ⟨n,st,i::l⟩)))] ⟨⟨_,rfl,.inl rfl⟩,⟨_,rfl,.inl rfl⟩,⟨_,rfl,.inr (.o (.box rfl (.cons .d (.cons .d (.cons (.full rfl (by simp[d6]) (by simp)) .nil)))))⟩,trivial⟩ ?_;(repeat first|refine tA rfl ?_|refine aU rfl ?_);(refine pC [] rfl (Jp (TB:=TB) ⟨n,st,i::l⟩ (by simp at p |-;omega)) rfl rfl trivial ?_;rintro j b c ⟨I,t,rfl,rfl,rfl⟩ _);(repeat first|refine tA rfl ?_|refine s2 rfl λ_ a=>?_|apply Aa);(refine aC rfl ?_ ?_<;>rintro⟨⟩)
    · (repeat first|refine tA rfl ?_|refine sV rfl rfl (by rfl) (by rfl) ?_|refine aU rfl ?_|apply Aa)
      exact aR ⟨_,rfl,[],mQ (⟨0,0,[]⟩,false),[],iB rfl,rfl,trivial,(⟨0,0,[]⟩,false),uL _,rfl,rfl,rfl⟩
    apply aK;(repeat first|refine tA rfl ?_|refine aU rfl ?_|apply Aa);exact aR ⟨_,rfl,[],mQ (⟨n,st,i::l⟩,true),[],iB rfl,rfl,trivial,(⟨n,st,i::l⟩,true),p,rfl,rfl,rfl⟩
theorem TZ{n:Nat}:List.replicate n (Au 0)=(Oi n λ_=>0).map Au:=by
 apply uV;intro i;by_cases h:i<n
 .simp[h]
 .rw[ms (by simp;omega),ms (by simp;omega)]
theorem ab{n:Nat}:(List.replicate n (Au 0)).set 0 (Au 1)=(Oi n Jt).map Au:=by
 rw[TZ];have:=U8 (n:=n) (x:=0) (v:=1) (G:=λ_=>0)
 have e:ao (λ_=>0) 0 1=Jt:=by funext p;rfl
 rw[e]at this;exact this
theorem Zv{t:BX}(ht:AY t=true):Pure Tryz.prog TB 190 [Pj t] (Aj (Oi t.q.nx.length (BF t))):=by
 have g:=AB (CE ht);have c:=QI (TB:=TB) ht (Ny ht);rw[show Un t Jt=BF t from rfl]at c;have b:=ab (n:=t.q.nx.length)
 have f:(List.replicate t.q.nx.length (Au 0))[0+(0:Int).toNat]?=some (Au 0):=by rw[wX,if_pos];simp;omega
 refine eG Tryz.func190 rfl (by kernel_rfl) rfl ?_;intro Γ a;(repeat first|refine sN rfl ?_|refine tA rfl ?_|refine aU rfl ?_|apply Aa);(refine pW rfl ?_ rfl (by rfl);refine Jg rfl rfl (by rfl) (by rfl) (co rfl) (by omega) (by omega) (by omega) ?_);(repeat first|(refine sA rfl ?_ ?_;first|exact tI|omega)|refine t4 rfl ‹_› rfl ?_|refine aU rfl ?_|apply Aa);(refine pC [0] rfl (c) rfl rfl (by simp[cX,zC,a,b]) ?_;rintro h d e ⟨rfl,rfl,rfl⟩ _);(repeat first|refine tA rfl ?_);apply Aa;refine Al.AQ [] [] rfl rfl [(2,.o (.arr 0 1 0 t.q.nx.length))] [(0,.cells 3 1 ((Oi t.q.nx.length (BF t)).map Au))] [0] (rl a rfl) (by (simp[cX,zC,a,b])) ?_;(try dsimp only[cA,cB]);refine Al.settle [(2,Aj (Oi t.q.nx.length (BF t)))] ⟨⟨_,rfl,.o (.full rfl (by simp[d6]) (by simp))⟩,trivial⟩ ?_;refine aR ⟨_,rfl,rfl⟩
theorem ib{t:BX}(ht:AY t=true){F:PS}:Pure Tryz.prog TB 191 [Pj t,Aj (Oi t.q.nx.length F)] (eB (E9 t F)):=by
 have p:=AB (CE ht)
 have n:(Oi t.q.nx.length F).length=t.q.nx.length:=by simp
 have d:E9 t F=It t F t.q.nx.length:=rfl;refine eG Tryz.func191 rfl (by kernel_rfl) rfl ?_;intro Γ a;(repeat first|refine tA rfl ?_|refine aU rfl ?_|apply Aa);apply aB;refine aL (α:={k:Nat // k<=t.q.nx.length/\It t F k=false}) [1,2] [] rfl rfl (λ⟨k,hk,hb⟩=>[(5,eI .i64 k)]) (λ⟨k,hk,hb⟩=>[]) 0 (λ⟨k,hk,hb⟩=>t.q.nx.length-k) (⟨0,by omega,rfl⟩) a rfl (by (simp[cX,zC,a])) ?_;rintro⟨k,hk,hb⟩;(try dsimp only[cA,cB]);by_cases h:k<t.q.nx.length
 .have s:((Oi t.q.nx.length F).map A9)[((k:Nat):Int).toNat]?=some (A9 (F k:Int)):=by rw[f6];simp[h]
  obtain⟨b,f⟩:=get_some (l:=t.q.ac) (k:=((k:Nat):Int).toNat) (by omega);have o:=get_map (g:=Iq) f
  have i:t.q.ac.getD k false=b:=by rw[f6]at f;simp[List.getD,f]
  have j:=Lp (t:=t) (F:=F) (k:=k);rw[i,hb]at j;(repeat first|refine sN rfl ?_|refine tA rfl ?_|refine s2 rfl λ_ c=>?_|refine aU rfl ?_|apply Aa)
  ((refine aC rfl ?_ ?_<;>rintro⟨⟩);all_goals try(exfalso;(simp only[oZ] at *;omega)))
  apply aK;refine aS (aB ?_)
  (repeat' first|refine tA rfl ?_|(refine s4 rfl ‹_› rfl ?_ ?_;omega)|refine s2 rfl λ_ c=>?_|refine s3 rfl ?_ ?_<;>rintro rfl|refine aU rfl ?_|apply Aa|(refine aC rfl ?_ ?_<;>rintro⟨⟩));all_goals try contradiction
  .have m:E9 t F=true:=by
    have u:=of_decide_eq_true ‹decide ((F k:Int)≠0)=true›
    have r:F k≠0:=by omega
    rw[d];unfold It;exact vR.2 ⟨k,mt.2 h,by rw[i,c];simp[r]⟩
   rw[m];(subst_vars;exact aR ⟨_,rfl,rfl⟩)
  .have e:It t F (k+1)=false:=by rw[j];simp_all
   apply aK;(repeat first|(refine sA rfl ?_ ?_;first|exact tI|omega)|refine aU rfl ?_|apply Aa);refine⟨⟨k+1,by omega,e⟩,by dsimp only;(omega),[],?_⟩;simp[cX,zC,a]
  .have e:It t F (k+1)=false:=by rw[j];simp at c;simp;omega
   apply aK;(repeat first|(refine sA rfl ?_ ?_;first|exact tI|omega)|refine aU rfl ?_|apply Aa);refine⟨⟨k+1,by omega,e⟩,by dsimp only;(omega),[],?_⟩;simp[cX,zC,a]
 .obtain rfl:k=t.q.nx.length:=by omega
  rw[d,hb];(repeat first|refine sN rfl ?_|refine tA rfl ?_|refine s2 rfl λ_ c=>?_|refine aU rfl ?_|apply Aa)
  ((refine aC rfl ?_ ?_<;>rintro⟨⟩);all_goals try(exfalso;(simp only[oZ] at *;omega)))
  apply aE;(repeat first|refine tA rfl ?_|refine aU rfl ?_|apply Aa);(subst_vars;exact aR ⟨_,rfl,rfl⟩)
def gC(o:Option AI):E:=match o with
 | some p=>.t [(true,[.d (iD p.al),.d (Ce p.nx),.d (EP p.ac)]),(false,[.d (bD true)])]
 | none=>.t [(true,[.d (iD 0),.d (.l []),.d (.l [])]),(false,[.d (bD false)])]
theorem HV{t:EO}{al:Int}{A:W->Bool}(u:Ll Tryz.prog TB 140 186 t al A)(tab:AW)(f:YH tab) :
 Pure Tryz.prog TB 77 [EY t,Ej tab] (gC (if Bt A al tab then some (AV A al tab) else none)):=by
 have v:=RO u tab f;by_cases h:Bt A al tab=true
 .rw [if_pos h]
  rw[h]at v;obtain⟨x,U,M⟩:=NI h;have e:=(Ft x).1;have T:=e.r1;have R:=e.rl;have M:=e.cl;have h2:=u.alph;have h3:=Cp (TB:=TB) al;have h4:Pure Tryz.prog TB 141 [EY t,BQ tab.cols,BQ tab.rows] (BQ (AH A tab)):=LB u tab.cols tab.rows f.cl (λw Q=>by have:=f.rb w Q;omega) f.cb f.rl;have hla:(Ab al).length<=6:=AA al 6
  have X:(AH A tab).length=tab.rows.length:=by simp[AH]
  refine eG Tryz.func77 rfl (by kernel_rfl) rfl ?_;intro Γ c;(repeat first|refine tA rfl ?_|refine s2 rfl λ_ a=>?_|refine sP rfl (v) rfl ?_|refine aU rfl ?_|apply Aa)
  ((refine aC rfl ?_ ?_<;>rintro⟨⟩);all_goals try (simp at a;done))
  apply aK;(repeat first|refine tX rfl ?_|refine sP rfl (h2) rfl ?_|refine aU rfl ?_);(refine pW rfl ?_ rfl (by rfl);refine IB 1 1 63 2 1 4 rfl rfl (by decide) rfl rfl (by rfl) (by rfl) ?_);(repeat first|refine tX rfl ?_|refine sP rfl (h3) rfl ?_|refine sP rfl (h4) rfl ?_|refine aU rfl ?_|apply Aa);apply aB;refine aL (α:={k:Nat // k<=tab.rows.length}) [2,3,4,6,7,8] [0] rfl rfl (λ⟨k,hk⟩=>[(9,eI .i64 k)]) (λ⟨k,hk⟩=>[(1,.cells 63 1 (((AV A al tab).nx.take k).map λr=>[.d (Ed r)])),(2,.cells 4 1 (((AV A al tab).ac.take k).map λb=>[.d (bD b)])),(3,.cells 29 3 [[.d (iD al),.arr 1 1 0 k,.arr 2 1 0 k]])]) 4 (λ⟨k,hk⟩=>tab.rows.length-k) (⟨0,by omega⟩) c rfl (by (simp[cX,zC,c])) ?_;rintro⟨k,hk⟩;(try dsimp only[cA,cB])
  have V:(AV A al tab).nx.length=tab.rows.length:=by simp[AV]
  have hac:(AV A al tab).ac.length=tab.rows.length:=by simp[AV]
  by_cases H:k<tab.rows.length
  .obtain⟨r,m⟩:=get_some H
   have P:=get_map (g:=CU) m;have i:=ce m;have S:=f.rb r i
   have hm:(AH A tab)[k]?=some (marks A tab.cols r):=by simp[AH,m]
   have Z:=get_map (g:=CU) hm
   have Y:(marks A tab.cols r)[(0:Int).toNat]?=some (TE (A r)):=by
    have:=e.c0;simp[marks,this]
   (repeat first|refine sN rfl ?_|refine tX rfl ?_|refine s2 rfl λ_ a=>?_|refine aU rfl ?_|apply Aa);refine Al.cond rfl (λhb=>?_) (λhb=>?_)<;>cases hb
   rotate_left
   .exfalso;(simp only[oZ] at *;omega)
   apply aK;refine aS (aB ?_);(repeat first|refine aU rfl ?_);(refine pB rfl ?_);(repeat first|refine tX rfl ?_|refine aU rfl ?_|apply Aa);apply aB;refine aL (α:={j:Nat // j<=(Ab al).length}) [2,3,4,6,7,8,9] [0,1,2,3] rfl rfl (λ⟨j,K⟩=>[(10,.o (.arr 4 1 0 j)),(11,eI .i64 j)]) (λ⟨j,K⟩=>[(4,.cells 3 1 (((Ab al).take j).map λl=>[.d (iD ((Dh A tab (r++[lb l]):Nat):Int))]))]) 5 (λ⟨j,K⟩=>(Ab al).length-j) (⟨0,by omega⟩) c rfl (by (simp[cX,zC,c])) ?_;rintro⟨j,K⟩;(try dsimp only[cA,cB]);by_cases q:j<(Ab al).length
   .obtain⟨l,J⟩:=get_some q
    have hl':=get_map (g:=A9) J;have p:=ce J;have I:=Af p;have y:Pure Tryz.prog TB 101 [eI .i64 l] (eT [lb l]):=Iz l I.1 (by omega);have n:=N0 u tab.cols (r++[lb l]) f.cl (by simp;omega) f.cb;have G:marks A tab.cols (r++[lb l])∈AH A tab:=Hx U r i (lb l) (PE p);have L:Pure Tryz.prog TB 142 [BQ (AH A tab),eT (marks A tab.cols (r++[lb l]))] (eI .i64 (Dh A tab (r++[lb l]):Nat)):=W0 (AH A tab) _ G (by omega);(repeat first|refine sN rfl ?_|refine tX rfl ?_|refine s2 rfl λ_ a=>?_|refine aU rfl ?_|apply Aa);refine Al.cond rfl (λhb=>?_) (λhb=>?_)<;>cases hb
    rotate_left
    .exfalso;(simp only[oZ] at *;omega)
    apply aK;refine aS (aB ?_);refine rG (GI [19]) (by kernel_rfl) ?_;(repeat first|(refine sA rfl ?_ ?_;first|exact tI|simp only[oZ] at *;omega)|(refine s4 rfl ‹_› rfl ?_ ?_;omega)|refine sP rfl (y) rfl ?_|refine sP rfl (n) rfl ?_|refine sP rfl (L) rfl ?_);(refine pA rfl (by first|(simp;done)|(simp;(first|omega|simp only[oZ] at *;omega))) (by simp;omega) ?_);(repeat first|(refine sA rfl ?_ ?_;first|exact tI|omega)|refine aU rfl ?_|apply Aa);refine⟨⟨j+1,by omega⟩,by dsimp only;(omega),[0,1,2,3,5],?_⟩;(simp[cX,zC,c,d9,J])
   .obtain rfl:j=(Ab al).length:=by omega
    have F:(AV A al tab).nx.take (k+1)=(AV A al tab).nx.take k++[(Ab al).map λl=>((Dh A tab (r++[lb l]):Nat):Int)]:=by
     rw[d9];simp[AV,m]
    have s:(AV A al tab).ac.take (k+1)=(AV A al tab).ac.take k++[A r]:=by
     rw[d9];simp[AV,m]
    rw[i9];(repeat first|refine sN rfl ?_|refine tX rfl ?_|refine s2 rfl λ_ a=>?_|refine aU rfl ?_|apply Aa);refine Al.cond rfl (λhb=>?_) (λhb=>?_)<;>cases hb
    .exfalso;(simp only[oZ] at *;omega)
    apply aE;refine Al.HN [4] [2,3,4,6,7,8,9] rfl [(10,Aj ((Ab al).map λl=>((Dh A tab (r++[lb l]):Nat):Int)))] ⟨⟨_,rfl,.o (.full (by simp) rfl (by simp[d6]) (by simp))⟩,trivial⟩ ?_;(try dsimp only[cA,cB]);(repeat first|refine tA rfl ?_|refine aU rfl ?_);(refine pA rfl (by first|(simp;done)|(simp;(first|omega|simp only[oZ] at *;omega))) (by simp;omega) ?_);(repeat first|refine tA rfl ?_|apply Aa);refine rG (GI [9,11]) (by kernel_rfl) ?_;(repeat first|refine tA rfl ?_|(refine s4 rfl ‹_› rfl ?_ ?_;omega)|refine s2 rfl λ_ a=>?_);rename_i b
    have N:b=A r:=by
     cases hA:A r<;>cases b<;>simp[hA,TE]at a<;>rfl
    subst N;(refine pA rfl (by first|(simp;done)|(simp;(first|omega|simp only[oZ] at *;omega))) (by simp;omega) ?_);(repeat first|(refine sA rfl ?_ ?_;first|exact tI|omega)|refine aU rfl ?_|apply Aa);refine⟨⟨k+1,by omega⟩,by dsimp only;(omega),[0,5,6,3],?_⟩;(simp[cX,zC,c,F,s])
  .obtain rfl:k=tab.rows.length:=by omega
   have B:(AV A al tab).nx.take tab.rows.length=(AV A al tab).nx:=i8 (by simp[AV]);have z:(AV A al tab).ac.take tab.rows.length=(AV A al tab).ac:=i8 (by simp[AV]);rw[B,z];(repeat first|refine sN rfl ?_|refine tX rfl ?_|refine s2 rfl λ_ a=>?_|refine aU rfl ?_|apply Aa);refine Al.cond rfl (λhb=>?_) (λhb=>?_)<;>cases hb
   .exfalso;(simp only[oZ] at *;omega)
   apply aE;(repeat first|refine tX rfl ?_|refine aU rfl ?_|apply Aa);refine Al.settle [(4,.o (.ip [iD al,Ce (AV A al tab).nx,EP (AV A al tab).ac])),(5,eB true)] ⟨⟨_,rfl,.o (.box rfl (.cons .d (.cons (.full rfl (by simp[d6]) (by simp[AV])) (.cons (.full rfl (by simp[d6]) (by simp[AV])) .nil))))⟩,⟨_,rfl,.o .d⟩,trivial⟩ ?_;refine aR ⟨_,rfl,rfl⟩
 .have h:Bt A al tab=false:=by simpa using h
  rw[if_neg (by simp[h])];rw[h]at v;refine eG Tryz.func77 rfl (by kernel_rfl) rfl ?_;intro Γ c;(repeat first|refine tA rfl ?_|refine s2 rfl λ_ a=>?_|refine sP rfl (v) rfl ?_|refine aU rfl ?_|apply Aa)
  ((refine aC rfl ?_ ?_<;>rintro⟨⟩);all_goals try (simp at a;done))
  (repeat first|refine tA rfl ?_|refine sV rfl rfl (by rfl) (by rfl) ?_|refine aU rfl ?_|apply Aa);refine Al.settle [(4,.o (.ip [iD 0,.l [],.l []])),(5,eB false)] ⟨⟨_,rfl,.o (.box rfl (.cons .d (.cons .d (.cons .d .nil))))⟩,⟨_,rfl,.o .d⟩,trivial⟩ ?_;refine aR ⟨_,rfl,rfl⟩
def Lh(m n:Nat):Nat:=(List.range n).countP (m.testBit ·)
theorem Rp(m n:Nat):Lh m (n+1)=if m.testBit n then Lh m n+1 else Lh m n:=by
 unfold Lh;rw[vH,List.countP_append];cases h:m.testBit n<;>simp[h]
theorem jw(m n:Nat):Lh m n<=n:=by
 unfold Lh;have:=List.countP_le_length (p:=(m.testBit ·)) (l:=List.range n);rwa[xA]at this
theorem N7(m:Nat)(e:m<2 ^ 62)(n:Nat)(h:n<=60):Pure Tryz.prog TB 181 [eI .i64 (m:Nat),eI .i64 (n:Nat)] (eI .i64 (Lh m n:Nat)):=by
 refine eG Tryz.func181 rfl (by kernel_rfl) rfl ?_;intro Γ a;(repeat first|refine tA rfl ?_|refine aU rfl ?_|apply Aa);apply aB;refine aL (α:={k:Nat // k<=n}) [0,1] [] rfl rfl (λ⟨k,hk⟩=>[(5,eI .i64 (Lh m k:Nat)),(6,eI .i64 k)]) (λ⟨k,hk⟩=>[]) 0 (λ⟨k,hk⟩=>n-k) (⟨0,by omega⟩) a rfl (by (simp[cX,zC,a]<;>rfl)) ?_;rintro⟨k,hk⟩;(try dsimp only[cA,cB]);by_cases f:k<n
 .have g:=jw m k
  have c:=Rp m k;have d:=C6 (TB:=TB) (m:Nat) (k:Int) (by omega) (by omega);rw[Dq e (by omega)]at d;(repeat first|refine tA rfl ?_|refine s2 rfl λ_ b=>?_|refine aU rfl ?_|apply Aa)
  ((refine aC rfl ?_ ?_<;>rintro⟨⟩);all_goals try(exfalso;(simp only[oZ] at *;omega)))
  apply aK;refine aS (aB ?_);(repeat first|refine tA rfl ?_|(refine sC rfl (d) ?_;intro _ b)|refine aU rfl ?_|apply Aa);(refine aC rfl ?_ ?_<;>rintro⟨⟩)
  .have hb:m.testBit k=true:=by simpa using b
   rw[if_pos hb]at c;(repeat first|(refine sA rfl ?_ ?_;first|exact tI|omega)|refine aU rfl ?_|apply Aa);refine⟨⟨k+1,by omega⟩,by dsimp only;(omega),[],?_⟩;simp[cX,zC,a,c]
  .have hb:m.testBit k=false:=by simpa using b
   rw[if_neg (by simp[hb])]at c;apply aK;(repeat first|(refine sA rfl ?_ ?_;first|exact tI|omega)|refine aU rfl ?_|apply Aa);refine⟨⟨k+1,by omega⟩,by dsimp only;(omega),[],?_⟩;simp[cX,zC,a,c]
 .obtain rfl:k=n:=by omega
  (repeat first|refine tA rfl ?_|refine s2 rfl λ_ b=>?_|refine aU rfl ?_|apply Aa)
  ((refine aC rfl ?_ ?_<;>rintro⟨⟩);all_goals try(exfalso;(simp only[oZ] at *;omega)))
  apply aE;(repeat first|refine tA rfl ?_|refine aU rfl ?_|apply Aa);(subst_vars;exact aR ⟨_,rfl,rfl⟩)
theorem lC{t:BX}{l:Int}{F:PS}{k x:Nat}(h:Bn t.q k l=(x:Int)):Em t l F (k+1)=ao (Em t l F k) x (Em t l F k x ||| Ds t.s l (F k)):=by
 rw[KB];funext p;unfold ao;rw[h];by_cases e:p=x
 .subst e;simp
 .rw[if_neg e,if_neg (by omega)]
theorem dU{t:BX}(ht:AY t=true){F:PS}(w:C5 t F){l:Int}(m:0<=l/\l<6):Pure Tryz.prog TB 192 [Pj t,Aj (Oi t.q.nx.length F),eI .i64 l] (Aj (Oi t.q.nx.length (Dc t l F))):=by
 have K:AP t.s=true:=by unfold AY at ht;simp only[d4]at ht;exact ht.1
 have e:=CE ht;have N:=AB e;have u:=QI (TB:=TB) ht (LK ht m w);rw[show Un t (YK t l F)=Dc t l F from rfl]at u
 have L:(Oi t.q.nx.length F).length=t.q.nx.length:=by simp
 have P:List.replicate t.q.nx.length (Au 0)=(Oi t.q.nx.length (Em t l F 0)).map Au:=TZ;have y:[zC (Value.int IntKind.i64 0)]=Au 0:=rfl;have r:=C6 (TB:=TB) t.s.al l m.1 (by omega);refine eG Tryz.func192 rfl (by kernel_rfl) rfl ?_;intro Γ c;(repeat first|refine sN rfl ?_|refine tA rfl ?_|refine aU rfl ?_|apply Aa);(refine pW rfl ?_ rfl (by rfl);refine Jg rfl rfl (by rfl) (by rfl) (co rfl) (by omega) (by omega) (by omega) ?_);(repeat first|refine tA rfl ?_|refine aU rfl ?_|apply Aa);apply aB;refine aL (α:={k:Nat // k<=t.q.nx.length}) [1,2,3] [] rfl rfl (λs=>[(7,.o (.arr 0 1 0 t.q.nx.length)),(8,eI .i64 s.1)]) (λs=>[(0,.cells 3 1 ((Oi t.q.nx.length (Em t l F s.1)).map Au))]) 1 (λs=>t.q.nx.length-s.1) (⟨0,by omega⟩) c rfl (by (simp[cX,zC,c,P,y])) ?_;rintro⟨k,hk⟩;(try dsimp only[cA,cB]);by_cases i:k<t.q.nx.length
 .have S:((Oi t.q.nx.length F).map A9)[((k:Nat):Int).toNat]?=some (A9 (F k:Int)):=by rw[f6];simp[i]
  have j:=Kz (TB:=TB) t.q e k i l m.1 m.2;have A:=Dz e i m.1 m.2
  obtain⟨x,B⟩:∃x:Nat,Bn t.q k l=x:=⟨(Bn t.q k l).toNat,by omega⟩
  have z:=lC (F:=F) B;rw[B]at j A;have p:=Tw (TB:=TB) K l (w.lt k);have R:=U0 (n:=t.q.nx.length) (G:=Em t l F k) (x:=x) (by omega);have M:=bM ht (l:=l) w k x;have J:=J9 ht (l:=l) (w.lt k);have h:=PB (a:=Em t l F k x) (b:=Ds t.s l (F k)) (by omega) (by omega);have d:=U8 (n:=t.q.nx.length) (x:=x) (v:=Em t l F k x ||| Ds t.s l (F k)) (G:=Em t l F k);rw[<-z]at d;(repeat first|refine sN rfl ?_|refine tA rfl ?_|refine s2 rfl λ_ f=>?_|refine aU rfl ?_|apply Aa)
  ((refine aC rfl ?_ ?_<;>rintro⟨⟩);all_goals try(exfalso;(simp only[oZ] at *;omega)))
  apply aK;refine aS (aB ?_);(repeat first|refine tA rfl ?_|(refine s4 rfl ‹_› rfl ?_ ?_;omega)|(refine sC rfl (r) ?_;intro _ f)|refine aU rfl ?_|apply Aa);(refine aC rfl ?_ ?_<;>rintro⟨⟩)
  .have g:Ds t.s l (F k)=Cv t.s.es l (F k):=by unfold Ds;rw[if_pos f]
   rw[<-g]at p;(repeat first|(refine sA rfl ?_ ?_;first|exact tI|omega)|refine t4 rfl ‹_› rfl ?_|refine sP rfl (p) rfl ?_|refine sP rfl (j) rfl ?_|refine aU rfl ?_|apply Aa);refine⟨⟨k+1,by omega⟩,by dsimp only;(omega),[0],?_⟩
   simp[cX,zC,c,h];simpa[d6]using d
  .have g:Ds t.s l (F k)=F k:=by unfold Ds;rw[if_neg (by simp[f])]
   rw[g]at h d;apply aK;(repeat first|(refine sA rfl ?_ ?_;first|exact tI|omega)|refine t4 rfl ‹_› rfl ?_|refine sP rfl (j) rfl ?_|refine aU rfl ?_|apply Aa);refine⟨⟨k+1,by omega⟩,by dsimp only;(omega),[0],?_⟩
   simp[cX,zC,c,h];simpa[d6]using d
 .obtain rfl:k=t.q.nx.length:=by omega
  rw[show Em t l F t.q.nx.length=YK t l F from rfl];(repeat first|refine sN rfl ?_|refine tA rfl ?_|refine s2 rfl λ_ f=>?_|refine aU rfl ?_|apply Aa)
  ((refine aC rfl ?_ ?_<;>rintro⟨⟩);all_goals try(exfalso;(simp only[oZ] at *;omega)))
  apply aE;(repeat first|refine tA rfl ?_|refine aU rfl ?_);(refine pC [0] rfl (u) rfl rfl (by simp[cX,zC,c]) ?_;rintro Q H I ⟨rfl,rfl,rfl⟩ _);(repeat first|refine tA rfl ?_);apply Aa;refine Al.AQ [] [] rfl rfl [(6,.o (.arr 0 1 0 t.q.nx.length))] [(0,.cells 3 1 ((Oi t.q.nx.length (Dc t l F)).map Au))] [0] (rl c rfl) (by (simp[cX,zC,c])) ?_;(try dsimp only[cA,cB]);refine Al.settle [(6,Aj (Oi t.q.nx.length (Dc t l F)))] ⟨⟨_,rfl,.o (.full rfl (by simp[d6]) (by simp))⟩,trivial⟩ ?_;refine aR ⟨_,rfl,rfl⟩
theorem IQ(t:BX):Pure Tryz.prog TB 185 [Pj t] (eB (AY t)):=by
 unfold AY;refine eN Tryz.func185 rfl (by kernel_rfl) rfl ?_;intro Γ b;(repeat' first|refine tA rfl ?_|(refine sC rfl (Ci t.s) ?_;intro _ a)|(refine sC rfl (Bg t.q) ?_;intro _ a)|(refine sC rfl (Dw t.al) ?_;intro _ a)|refine s3 rfl ?_ ?_<;>rintro rfl|refine aV rfl ?_|apply Aa|(refine aC rfl ?_ ?_<;>rintro⟨⟩)|refine aR ⟨_,rfl,?_⟩)
 all_goals (show E.o _=E.o _;simp_all)
noncomputable def Li(t:BX)(w:W):Bool:=AY t && (within w t.al && LS t w)
theorem aF{w:W}{al:Int}(h:within w al=true):∀c∈w,0<=(c.toNat:Int)-97/\(c.toNat:Int)-97<6:=λc a=>HQ (EM h c a)
theorem OZ(t:BX)(w:W)(A:w.length<=1099511627776):Pure Tryz.prog TB 146 [Pj t,eT w] (eB (Li t w)):=by
 have n:=IQ (TB:=TB) t;have m:=Et (TB:=TB) w t.al A;by_cases h:(AY t && within w t.al)=true
 .have ht:AY t=true:=by revert h;cases AY t<;>simp
  have g:within w t.al=true:=by revert h;cases within w t.al<;>simp
  have z:=aF g
  have y:Li t w=LS t w:=by unfold Li;rw[ht,g];rfl
  rw[y];rw[ht]at n;rw[g]at m;have j:=Zv (TB:=TB) ht;refine eG Tryz.func146 rfl (by kernel_rfl) rfl ?_;intro Γ d
  (repeat' first|refine tA rfl ?_|refine s2 rfl λ_ a=>?_|refine sP rfl (n) rfl ?_|refine sP rfl (m) rfl ?_|refine sP rfl (j) rfl ?_|refine s3 rfl ?_ ?_<;>rintro rfl|refine aU rfl ?_|apply Aa|(refine aC rfl ?_ ?_<;>rintro⟨⟩));all_goals try contradiction
  apply aK;(repeat first|refine tA rfl ?_|refine sP rfl (j) rfl ?_|refine aU rfl ?_|apply Aa);apply aB;refine aL (α:={x:Nat×PS // x.1<=w.length/\C5 t x.2/\FF t x.2 (w.drop x.1)=LS t w}) [1,2] [] rfl rfl (λs=>[(5,Aj (Oi t.q.nx.length s.1.2)),(6,eI .i64 s.1.1)]) (λs=>[]) 0 (λs=>w.length-s.1.1) (⟨⟨0,BF t⟩,by simp,Hc ht,rfl⟩) d rfl (by (simp[cX,zC,d])) ?_;rintro⟨⟨i,F⟩,hi,l,e⟩;(try dsimp only[cA,cB]);have hi:i<=w.length:=hi;have l:C5 t F:=l;have e:FF t F (w.drop i)=LS t w:=e;have f:=ib (TB:=TB) ht (F:=F);by_cases p:i<w.length
  .obtain⟨c,v⟩:=get_some p
   have u:w[((i:Nat):Int).toNat]?=some c:=by simpa using v
   have k:=z c (ce v);have r:=Jd (TB:=TB) w i c u;have o:=dU (TB:=TB) ht l k;have hno:=MO ht k l;rw[Bm v,FF]at e;generalize E9 t F=b at *
   (repeat' first|refine tA rfl ?_|refine s2 rfl λ_ a=>?_|refine sP rfl (f) rfl ?_|refine s3 rfl ?_ ?_<;>rintro rfl|refine aU rfl ?_|apply Aa|(refine aC rfl ?_ ?_<;>rintro⟨⟩));all_goals try contradiction
   all_goals first|(exfalso;(simp only[oZ] at *;omega);done)|skip
   .have hb:b=false:=by simpa using a
    subst hb;apply aK;refine aS (aB ?_);refine rG (GI []) (by kernel_rfl) ?_;(repeat first|(refine sA rfl ?_ ?_;first|exact tI|omega)|refine sP rfl (r) rfl ?_|refine sP rfl (o) rfl ?_|refine aU rfl ?_|apply Aa);refine⟨⟨⟨i+1,Dc t ((c.toNat:Int)-97) F⟩,by omega,hno,by simpa using e⟩,by dsimp only;(omega),[],?_⟩;simp[cX,zC,d]
   .have hb:b=true:=by simpa using a
    subst hb
    have e:LS t w=false:=by simpa using e.symm
    rw[e];apply aE;(repeat first|refine tA rfl ?_|refine s2 rfl λ_ a=>?_|refine sP rfl (f) rfl ?_|refine aU rfl ?_|apply Aa);(subst_vars;exact aR ⟨_,rfl,rfl⟩)
  .obtain rfl:i=w.length:=by omega
   rw[vC,FF]at e;rw[<-e]
   (repeat' first|refine tA rfl ?_|refine s2 rfl λ_ a=>?_|refine sP rfl (f) rfl ?_|refine s3 rfl ?_ ?_<;>rintro rfl|refine aU rfl ?_|apply Aa|(refine aC rfl ?_ ?_<;>rintro⟨⟩));all_goals try contradiction
   all_goals first|(exfalso;(simp only[oZ] at *;omega);done)|skip
   apply aE;(repeat first|refine tA rfl ?_|refine s2 rfl λ_ a=>?_|refine sP rfl (f) rfl ?_|refine aU rfl ?_|apply Aa);(subst_vars;exact aR ⟨_,rfl,rfl⟩)
 .have y:Li t w=false:=by unfold Li;revert h;cases AY t<;>cases within w t.al<;>simp
  rw[y];refine eG Tryz.func146 rfl (by kernel_rfl) rfl ?_;intro Γ d
  (repeat' first|refine tA rfl ?_|refine s2 rfl λ_ a=>?_|(refine sC rfl (n) ?_;intro _ a)|(refine sC rfl (m) ?_;intro _ a)|refine s3 rfl ?_ ?_<;>rintro rfl|refine aU rfl ?_|apply Aa|(refine aC rfl ?_ ?_<;>rintro⟨⟩));all_goals try contradiction
  all_goals first
   | (subst_vars;exact aR ⟨_,rfl,rfl⟩)
   | (exfalso;simp_all;done)
theorem Po(t:EO)(hk:t.kn=false):Pure Tryz.prog TB 140 [EY t] (eI .i64 (if AY ⟨t.s,t.q,t.al⟩ then t.al else -1)):=by
 obtain⟨kn,p,s,q,al⟩:=t;dsimp only at hk;subst hk;have c:=IQ (TB:=TB) ⟨s,q,al⟩;refine eN Tryz.func140 rfl (by kernel_rfl) rfl ?_;intro Γ b;(repeat' first|refine tA rfl ?_|refine s2 rfl λ_ a=>?_|(refine sC rfl (c) ?_;intro _ a)|refine s3 rfl ?_ ?_<;>rintro rfl|refine aV rfl ?_|apply Aa|(refine aC rfl ?_ ?_<;>rintro⟨⟩)|refine aR ⟨_,rfl,?_⟩)
 all_goals first
  | (show E.o _=E.o _;congr;grind)
  | (exfalso;simp at *;done)
theorem Qb(t:EO)(hk:t.kn=false)(w:W)(b:w.length<=1099511627776):Pure Tryz.prog TB 186 [EY t,eT w] (eB (Li ⟨t.s,t.q,t.al⟩ w)):=by
 obtain⟨kn,p,s,q,al⟩:=t;dsimp only at hk;subst hk;have c:=OZ (TB:=TB) ⟨s,q,al⟩ w b;refine eN Tryz.func186 rfl (by kernel_rfl) rfl ?_;intro Γ a;(repeat' first|refine tA rfl ?_|refine sP rfl (c) rfl ?_|refine aV rfl ?_|apply Aa|(refine aC rfl ?_ ?_<;>rintro⟨⟩)|refine aR ⟨_,rfl,?_⟩)
 all_goals rfl
theorem nB{t:EO}(hk:t.kn=false):Ll Tryz.prog TB 140 186 t (if AY ⟨t.s,t.q,t.al⟩ then t.al else -1) (Li ⟨t.s,t.q,t.al⟩):=⟨Po t hk,Qb t hk⟩
def lk(al n:Int)(l:List Fu):Ac:=(0,.cells 25 3 [[.d (iD 0),.d (iD 0),.d (.l [])]])::OH al n l
theorem Zk(n:Int)(d:0<=n)(g:n<=16):Pure Tryz.prog TB 137 [eI .i64 n] (eI .i64 ((2 ^ n.toNat:Nat):Int)):=by
 have a:IntKind.i64.wrap (1*2 ^ (min n.toNat IntKind.i64.bits))=((2 ^ n.toNat:Nat):Int):=by
  have e:min n.toNat IntKind.i64.bits=n.toNat:=by
   have:IntKind.i64.bits=64:=rfl;omega
  rw[e,xp];have f:2 ^ n.toNat<2 ^ 17:=v7 (by omega) (by omega)
  have c:(2:Int) ^ n.toNat=((2 ^ n.toNat:Nat):Int):=by push_cast;rfl
  rw[c];generalize 2 ^ n.toNat=p at *;exact IntWalk.i64_in _ (by omega)
 refine eN Tryz.func137 rfl (by kernel_rfl) rfl ?_;intro Γ b;(repeat' first|(refine sA rfl ?_ ?_;first|exact tI|omega)|(refine Ai rfl ?_;refine gA rfl ?_;first|refine gS (λ_ _=>jt rfl rfl d a) ?_)|refine aV rfl ?_|apply Aa|(refine aC rfl ?_ ?_<;>rintro⟨⟩)|refine aR ⟨_,rfl,?_⟩);rfl
abbrev tf(r:BX×Bool):E:=.t [(true,(Nn r.1).map .d),(false,[.d (bD r.2)])]
theorem FR(b:List UInt8)(hb:b.length<=2000)(p:Int)(Y:0<=p/\p<800000000)(y:Sys)(X:y.es.length<=100000):Spec Tryz.prog TB 89 [(0,Cr b p)] 1 [.o (.ptr 0 2 0 0),BD y] (Mg b p 5 (λs=>s.es.length<=y.es.length+1)):=by
 obtain⟨k,V,U,hk⟩:=Bi (TB:=TB) b hb p y.es.length (by omega);obtain⟨c,c0,Z,N⟩:=Bi (TB:=TB) b hb (p+1) 30 (by omega);refine eR Tryz.func89 rfl (by kernel_rfl) rfl ?_;intro Γ a;(repeat first|refine tA rfl ?_|refine aU rfl ?_|apply Aa);refine R.SL [(0,2),(1,2),(2,2),(3,2),(5,2),(6,2),(9,3),(4,1),(7,1),(8,0),(10,5)] mixed (by kernel_rfl) rfl (by kernel_rfl) ?_;(repeat ((refine R.Ai rfl ?_;first|(refine R.yQ (md:=false) rfl rfl rfl ?_ ?_;exact tI)|refine R.yP rfl rfl rfl rfl ?_ )));(refine R.Ai rfl ?_;refine R.Lc (λ_=>?_) rfl rfl;refine En rfl rfl rfl rfl (by simp) (by rfl) (by rfl) (by rfl) (by rfl) ?_);(refine R.Ai rfl ?_;refine R.Lc (λ_=>?_) rfl rfl;refine BY rfl rfl rfl (by simp) rfl (by intro r L;simp only[uG,d8]at L;obtain⟨_,_,rfl⟩:=L;rfl) (by rfl) (co rfl) (by simp;omega) ?_);(repeat ((refine R.Ai rfl ?_;first|refine R.yA rfl rfl rfl rfl ?_|refine R.CJ (λ_ _ _=>MX rfl rfl (by rfl) (by rfl)) rfl rfl ?_ )));refine R.SF ?_;refine Al.AQ [0] [] rfl rfl [(4,.o (.ptr 1 3 0 0)),(5,.o (.ptr 3 3 0 0))] [(0,Cr b p),(1,.cells 25 3 [[.d (iD 0),.d (iD 0),.d (.l [])]]),(2,.cells 78 3 (y.es.map Bs)),(3,.cells 25 3 [[.d (iD y.al),.d (iD y.st),.arr 2 3 0 y.es.length]])] [0,1,3,4] (rl a rfl) (by (simp[cX,zC,a,cN,Ae,Bl,eC])) ?_;(try dsimp only[cA,cB]);(repeat first|refine tA rfl ?_|refine aU rfl ?_|apply Aa);(refine pC [0] rfl (hk) rfl rfl (by simp[cX,zC,a,cN]) ?_;rintro x g j ⟨rfl,rfl,rfl⟩ _);(repeat first|refine tA rfl ?_|refine aU rfl ?_|apply Aa);(refine pC [0] rfl (N) rfl rfl (by simp[cX,zC,a,cN]) ?_;rintro x g j ⟨rfl,rfl,rfl⟩ _);apply Aa;refine Al.AQ [0] [] rfl rfl [(4,.o (.ptr 1 3 0 0)),(5,.o (.ptr 3 3 0 0)),(6,eI .i64 y.es.length),(7,eI .i64 k),(24,eI .i64 c)] [(0,Cr b (p+1+1)),(1,.cells 25 3 [[.d (iD 0),.d (iD 0),.d (.l [])]]),(2,.cells 78 3 (y.es.map Bs)),(3,.cells 25 3 [[.d (iD y.al),.d (iD y.st),.arr 2 3 0 y.es.length]])] [0,1,2,3] (rl a rfl) (by (simp[cX,zC,a,cN])) ?_;(try dsimp only[cA,cB]);apply rO (P:=Tryz.prog) (TB:=TB) (Γ:=Γ) (C:=λi:Int×Int×Int×List Fu=>(p<=i.1/\i.1<=p+5)/\i.2.2.2.length<=y.es.length+1) (f:=λ_=>[(4,.o (.ptr 1 3 0 0))]) (s:=λi=>[(0,Cr b i.1),(1,.cells 25 3 [[.d (iD i.2.1),.d (iD i.2.2.1),.arr 2 3 0 i.2.2.2.length]]),(2,.cells 78 3 (i.2.2.2.map Bs))]) (n:=3)
 case hk =>
  intro fk;apply aB;(repeat first|refine tA rfl ?_|refine s2 rfl λ_ e=>?_|refine aU rfl ?_|apply Aa);(refine aC rfl ?_ ?_<;>rintro⟨⟩)
  .obtain⟨z,H,A⟩:=Di (TB:=TB) b hb (p+1+1) (by omega) [64,-1,1,63] (by decide) (by decide)
   (repeat first|refine tA rfl ?_|refine aU rfl ?_);(refine pC [0] rfl (A) rfl rfl (by simp[cX,zC,a,cN]) ?_;rintro x g j ⟨rfl,rfl,rfl⟩ _);(repeat first|refine tA rfl ?_|refine aU rfl ?_|apply Aa);exact fk (p+1+1+1,z,y.st,y.es) [0,1,2] ⟨by dsimp only;omega,by first|(simp;done)|(simp;omega)⟩ (CC a rfl rfl) (by (simp[cX,zC,a,cN,Ae,eC]))
  (repeat first|refine tA rfl ?_|refine s2 rfl λ_ e=>?_|refine aU rfl ?_|apply Aa);(refine aC rfl ?_ ?_<;>rintro⟨⟩)
  .obtain⟨z,H,A⟩:=Di (TB:=TB) b hb (p+1+1) (by omega) [0,17,-1,16,1] (by decide) (by decide)
   (repeat first|refine tA rfl ?_|refine aU rfl ?_);(refine pC [0] rfl (A) rfl rfl (by simp[cX,zC,a,cN]) ?_;rintro x g j ⟨rfl,rfl,rfl⟩ _);(repeat first|refine tA rfl ?_|refine aU rfl ?_|apply Aa);exact fk (p+1+1+1,y.al,z,y.es) [0,1,2] ⟨by dsimp only;omega,by first|(simp;done)|(simp;omega)⟩ (CC a rfl rfl) (by (simp[cX,zC,a,cN,Ae,eC]))
  (repeat first|refine tA rfl ?_|refine s2 rfl λ_ e=>?_|refine aU rfl ?_|apply Aa);(refine aC rfl ?_ ?_<;>rintro⟨⟩)
  .by_cases A:y.es.length=0
   ·(repeat' first|refine tA rfl ?_|refine s2 rfl λ_ e=>?_|refine aU rfl ?_|apply Aa|(refine aC rfl ?_ ?_<;>rintro⟨⟩));all_goals try contradiction
    all_goals first
     | (exfalso;(simp only[oZ] at *;omega);done)
     | (apply aK;(repeat first|refine tA rfl ?_|refine aU rfl ?_|apply Aa);exact fk (p+1+1,y.al,y.st,y.es) [0,1,2] ⟨by dsimp only;omega,by first|(simp;done)|(simp;omega)⟩ (CC a rfl rfl) (by (simp[cX,zC,a,cN,Ae,eC])))
   obtain⟨⟨v,u,t⟩,F⟩:=get_some (l:=y.es) (k:=k.toNat) (by omega)
   have B:(y.es.map Bs)[0+k.toNat]?=some (Bs ⟨v,u,t⟩):=by rw[lm];simp[F]
   obtain⟨z,H,w⟩:=Di (TB:=TB) b hb (p+1+1) (by omega) [-1,16,0,2] (by decide) (by decide)
   have m:(y.es.map Bs).set (0+k.toNat) (Bs ⟨z,u,t⟩)=(y.es.set k.toNat ⟨z,u,t⟩).map Bs:=by rw[lm,vd]
   (repeat first|refine tA rfl ?_|refine s2 rfl λ_ e=>?_|refine aU rfl ?_|apply Aa)
   ((refine aC rfl ?_ ?_<;>rintro⟨⟩);all_goals try(exfalso;(simp only[oZ] at *;omega)))
   refine rG (Nz [(1,13),(5,1008),(6,2),(7,2),(8,1)]) (by kernel_rfl) ?_;(repeat first|refine tA rfl ?_);(refine Ai rfl ?_;refine C8 ?_ rfl ⟨rfl,rfl⟩;refine BE [0] rfl rfl (w) ⟨rfl,by decide,by decide⟩ rfl (by simp[cX,zC,a,cN]) ?_;rintro x g j ⟨rfl,rfl,rfl⟩ _;refine⟨FA 3 rfl rfl,?_⟩);(repeat first|(refine sA rfl ?_ ?_;first|exact tI|omega)|refine t4 rfl ‹_› rfl ?_|refine aU rfl ?_|apply Aa);exact fk (p+1+1+1,y.al,y.st,y.es.set k.toNat ⟨z,u,t⟩) [0,1,2] ⟨by dsimp only;omega,by first|(simp;done)|(simp;omega)⟩ (CC a rfl rfl) (by (simp[cX,zC,a,cN,Ae,eC,m]))
  (repeat first|refine tA rfl ?_|refine s2 rfl λ_ e=>?_|refine aU rfl ?_|apply Aa);(refine aC rfl ?_ ?_<;>rintro⟨⟩)
  .by_cases A:y.es.length=0
   ·(repeat' first|refine tA rfl ?_|refine s2 rfl λ_ e=>?_|refine aU rfl ?_|apply Aa|(refine aC rfl ?_ ?_<;>rintro⟨⟩));all_goals try contradiction
    all_goals first
     | (exfalso;(simp only[oZ] at *;omega);done)
     | (apply aK;(repeat first|refine tA rfl ?_|refine aU rfl ?_|apply Aa);exact fk (p+1+1,y.al,y.st,y.es) [0,1,2] ⟨by dsimp only;omega,by first|(simp;done)|(simp;omega)⟩ (CC a rfl rfl) (by (simp[cX,zC,a,cN,Ae,eC])))
   obtain⟨⟨v,u,t⟩,F⟩:=get_some (l:=y.es) (k:=k.toNat) (by omega)
   have B:(y.es.map Bs)[0+k.toNat]?=some (Bs ⟨v,u,t⟩):=by rw[lm];simp[F]
   obtain⟨z,H,w⟩:=Di (TB:=TB) b hb (p+1+1) (by omega) [-1,16,0,3] (by decide) (by decide)
   have m:(y.es.map Bs).set (0+k.toNat) (Bs ⟨v,u,z⟩)=(y.es.set k.toNat ⟨v,u,z⟩).map Bs:=by rw[lm,vd]
   (repeat first|refine tA rfl ?_|refine s2 rfl λ_ e=>?_|refine aU rfl ?_|apply Aa)
   ((refine aC rfl ?_ ?_<;>rintro⟨⟩);all_goals try(exfalso;(simp only[oZ] at *;omega)))
   refine rG (Nz [(1,13),(5,1008),(6,2),(7,2),(8,1)]) (by kernel_rfl) ?_;(repeat first|refine tA rfl ?_);(refine Ai rfl ?_;refine C8 ?_ rfl ⟨rfl,rfl⟩;refine BE [0] rfl rfl (w) ⟨rfl,by decide,by decide⟩ rfl (by simp[cX,zC,a,cN]) ?_;rintro x g j ⟨rfl,rfl,rfl⟩ _;refine⟨FA 3 rfl rfl,?_⟩);(repeat first|(refine sA rfl ?_ ?_;first|exact tI|omega)|refine t4 rfl ‹_› rfl ?_|refine aU rfl ?_|apply Aa);exact fk (p+1+1+1,y.al,y.st,y.es.set k.toNat ⟨v,u,z⟩) [0,1,2] ⟨by dsimp only;omega,by first|(simp;done)|(simp;omega)⟩ (CC a rfl rfl) (by (simp[cX,zC,a,cN,Ae,eC,m]))
  (repeat first|refine tA rfl ?_|refine s2 rfl λ_ e=>?_|refine aU rfl ?_|apply Aa);(refine aC rfl ?_ ?_<;>rintro⟨⟩)
  .by_cases A:y.es.length=0
   ·(repeat' first|refine tA rfl ?_|refine s2 rfl λ_ e=>?_|refine aU rfl ?_|apply Aa|(refine aC rfl ?_ ?_<;>rintro⟨⟩));all_goals try contradiction
    all_goals first
     | (exfalso;(simp only[oZ] at *;omega);done)
     | (apply aK;(repeat first|refine tA rfl ?_|refine aU rfl ?_|apply Aa);exact fk (p+1+1,y.al,y.st,y.es) [0,1,2] ⟨by dsimp only;omega,by first|(simp;done)|(simp;omega)⟩ (CC a rfl rfl) (by (simp[cX,zC,a,cN,Ae,eC])))
   obtain⟨⟨v,u,t⟩,F⟩:=get_some (l:=y.es) (k:=k.toNat) (by omega)
   have B:(y.es.map Bs)[0+k.toNat]?=some (Bs ⟨v,u,t⟩):=by rw[lm];simp[F]
   obtain⟨z,H,w⟩:=Di (TB:=TB) b hb (p+1+1) (by omega) [-1,6,70,5,0] (by decide) (by decide)
   have m:(y.es.map Bs).set (0+k.toNat) (Bs ⟨v,z,t⟩)=(y.es.set k.toNat ⟨v,z,t⟩).map Bs:=by rw[lm,vd]
   (repeat first|refine tA rfl ?_|refine s2 rfl λ_ e=>?_|refine aU rfl ?_|apply Aa)
   ((refine aC rfl ?_ ?_<;>rintro⟨⟩);all_goals try(exfalso;(simp only[oZ] at *;omega)))
   refine rG (Nz [(1,13),(5,1008),(6,2),(7,2),(8,1)]) (by kernel_rfl) ?_;(repeat first|refine tA rfl ?_);(refine Ai rfl ?_;refine C8 ?_ rfl ⟨rfl,rfl⟩;refine BE [0] rfl rfl (w) ⟨rfl,by decide,by decide⟩ rfl (by simp[cX,zC,a,cN]) ?_;rintro x g j ⟨rfl,rfl,rfl⟩ _;refine⟨FA 3 rfl rfl,?_⟩);(repeat first|(refine sA rfl ?_ ?_;first|exact tI|omega)|refine t4 rfl ‹_› rfl ?_|refine aU rfl ?_|apply Aa);exact fk (p+1+1+1,y.al,y.st,y.es.set k.toNat ⟨v,z,t⟩) [0,1,2] ⟨by dsimp only;omega,by first|(simp;done)|(simp;omega)⟩ (CC a rfl rfl) (by (simp[cX,zC,a,cN,Ae,eC,m]))
  (repeat first|refine tA rfl ?_|refine s2 rfl λ_ e=>?_|refine aU rfl ?_|apply Aa);(refine aC rfl ?_ ?_<;>rintro⟨⟩)
  .by_cases A:y.es.length=0
   ·(repeat' first|refine tA rfl ?_|refine s2 rfl λ_ e=>?_|refine aU rfl ?_|apply Aa|(refine aC rfl ?_ ?_<;>rintro⟨⟩));all_goals try contradiction
    all_goals first
     | (exfalso;(simp only[oZ] at *;omega);done)
     | (apply aK;(repeat first|refine tA rfl ?_|refine aU rfl ?_|apply Aa);exact fk (p+1+1,y.al,y.st,y.es) [0,1,2] ⟨by dsimp only;omega,by first|(simp;done)|(simp;omega)⟩ (CC a rfl rfl) (by (simp[cX,zC,a,cN,Ae,eC])))
   obtain⟨⟨v,u,t⟩,F⟩:=get_some (l:=y.es) (k:=k.toNat) (by omega)
   have B:(y.es.map Bs)[0+k.toNat]?=some (Bs ⟨v,u,t⟩):=by rw[lm];simp[F]
   (repeat first|refine tA rfl ?_|refine s2 rfl λ_ e=>?_|refine aU rfl ?_|apply Aa)
   ((refine aC rfl ?_ ?_<;>rintro⟨⟩);all_goals try(exfalso;(simp only[oZ] at *;omega)))
   refine rG (Nz [(1,13),(3,13),(6,12),(8,1),(10,1)]) (by kernel_rfl) ?_;(repeat first|(refine sA rfl ?_ ?_;first|exact tI|omega)|refine t4 rfl ‹_› rfl ?_);(refine pA rfl (by simp) (by simp;omega) ?_);(repeat first|refine tA rfl ?_|refine aU rfl ?_|apply Aa);exact fk (p+1+1,y.al,y.st,y.es++[(⟨v,u,t⟩:Fu)]) [0,1,4] ⟨by dsimp only;omega,by first|(simp;done)|(simp;omega)⟩ (CC a rfl rfl) (by (simp[cX,zC,a,cN,Ae,eC]))
  (repeat first|refine tA rfl ?_|refine s2 rfl λ_ e=>?_|refine aU rfl ?_|apply Aa);(refine aC rfl ?_ ?_<;>rintro⟨⟩)
  .obtain⟨T,_,_,K⟩:=Bi (TB:=TB) b hb (p+1+1) 4 (by omega)
   obtain⟨S,_,_,J⟩:=Bi (TB:=TB) b hb (p+1+1+1) 3 (by omega);obtain⟨Q,_,_,I⟩:=Bi (TB:=TB) b hb (p+1+1+1+1) 4 (by omega);refine rG ⟨GK [(1,13),(3,1008),(5,1008),(7,1008),(10,1),(12,1)],fB [0,1,2,4,6,3,5,7,8,9,10,11,12]⟩ (by kernel_rfl) ?_;(repeat first|refine tA rfl ?_);(refine Ai rfl ?_;refine C8 ?_ rfl ⟨rfl,rfl⟩;refine BE [0] rfl rfl (K) ⟨rfl,by decide,by decide⟩ rfl (by simp[cX,zC,a,cN]) ?_;rintro x g j ⟨rfl,rfl,rfl⟩ _;refine⟨FA 3 rfl rfl,?_⟩);(refine Ai rfl ?_;refine C8 ?_ rfl ⟨rfl,rfl⟩;refine BE [0] rfl rfl (J) ⟨rfl,by decide,by decide⟩ rfl (by simp[cX,zC,a,cN]) ?_;rintro x g j ⟨rfl,rfl,rfl⟩ _;refine⟨FA 3 rfl rfl,?_⟩);(refine Ai rfl ?_;refine C8 ?_ rfl ⟨rfl,rfl⟩;refine BE [0] rfl rfl (I) ⟨rfl,by decide,by decide⟩ rfl (by simp[cX,zC,a,cN]) ?_;rintro x g j ⟨rfl,rfl,rfl⟩ _;refine⟨FA 3 rfl rfl,?_⟩);(repeat first|refine tA rfl ?_|refine sV rfl rfl (by rfl) (by rfl) ?_);(refine pA rfl (by simp) (by simp;omega) ?_);(repeat first|refine tA rfl ?_|refine aU rfl ?_|apply Aa);exact fk (p+1+1+1+1+1,y.al,y.st,y.es++[(⟨T,S,Q⟩:Fu)]) [0,1,4] ⟨by dsimp only;omega,by first|(simp;done)|(simp;omega)⟩ (CC a rfl rfl) (by (simp[cX,zC,a,cN,Ae,eC]))
  apply aK;(repeat first|refine tA rfl ?_|refine aU rfl ?_|apply Aa);exact fk (p+1+1,y.al,y.st,y.es) [0,1,2] ⟨by dsimp only;omega,by first|(simp;done)|(simp;omega)⟩ (CC a rfl rfl) (by (simp[cX,zC,a,cN,Ae,eC]))
 case h=>
  intro⟨q,al,st,es⟩ ⟨M,G⟩;dsimp only at M G |-;refine Al.Bb [1,2] [(4,.o (.ip (AU ⟨al,st,es⟩)))] ⟨⟨_,rfl,.inr (.o (.box rfl (.cons .d (.cons .d (.cons (.full rfl (by simp[d6]) (by simp)) .nil)))))⟩,trivial⟩ ?_;exact aR ⟨_,rfl,[0],BD ⟨al,st,es⟩,[(0,Cr b q)],iB rfl,rfl,by (simp[cX,zC,a,cN]),q,⟨al,st,es⟩,by omega,G,rfl,rfl,rfl⟩
def P9(A:W->Bool)(al:Int)(t:AW)(w:W):Option AW:=if A4 A al t && FQ al w then FM t w else none
theorem Sm{t:EO}{al:Int}{A:W->Bool}(n:Ll Tryz.prog TB 140 186 t al A)(tab:AW)(q:YH tab)(w:W)(y:w.length<=1048576) :
 Pure Tryz.prog TB 150 [EY t,Ej tab,eT w] (Jq (P9 A al tab w)):=by
 have g:=Gl n tab q;have f:=QE n w (by omega);have e:=JS (TB:=TB) tab.cols w (by have:=q.cl;omega);by_cases c:(A4 A al tab && FQ al w)=true
 .have ha:P9 A al tab w=FM tab w:=by unfold P9;rw[if_pos c]
  rw[ha];rw[d4]at c;rw[c.1]at g;rw[c.2]at f;have b:fN al tab:=(Ft c.1).1;have j:=b.r1;have l:=b.c1;have s:=b.rl;have v:=b.cl;by_cases m:tab.cols.length=20\/w∈tab.cols
  .have p:FM tab w=none:=by unfold FM;rw[if_pos m]
   rw[p];refine eG Tryz.func150 rfl (by kernel_rfl) rfl ?_;intro Γ i;(repeat' first|refine sN rfl ?_|refine tA rfl ?_|(refine s2 rfl λ_ a=>?_;try (simp only[uW,uX]at a;subst a))|refine sP rfl (g) rfl ?_|refine sP rfl (f) rfl ?_|(refine sC rfl (e) ?_;intro _ a)|refine sV rfl rfl (by rfl) (by rfl) ?_|refine s3 rfl ?_ ?_<;>rintro rfl|refine aV rfl ?_|apply Aa|refine rE (by kernel_rfl) ?_|(refine aC rfl ?_ ?_<;>rintro⟨⟩)|refine aR ⟨_,rfl,?_⟩)
   all_goals first
    | rfl
    | (exfalso;clear g f e n;simp at *;grind;done)
    | skip
  .have p:FM tab w=some ⟨tab.rows,tab.cols++[w]⟩:=by unfold FM;rw[if_neg m]
   rw[p];have u:decide (w∈tab.cols)=false:=decide_eq_false λh=>m (.inr h);have x:tab.cols.length≠20:=λh=>m (.inl h);rw[u]at e;refine eG Tryz.func150 rfl (by kernel_rfl) rfl ?_;intro Γ i;(repeat first|refine sN rfl ?_|refine tA rfl ?_|(refine s2 rfl λ_ a=>?_;try (simp only[uW,uX]at a;subst a))|refine sP rfl (g) rfl ?_|refine sP rfl (f) rfl ?_|refine sP rfl (e) rfl ?_|refine aU rfl ?_|apply Aa);refine Al.cond rfl (λhb=>?_) (λhb=>?_)<;>cases hb
   .exfalso;(simp only[oZ] at *;omega)
   apply aK;(repeat first|refine aU rfl ?_);refine rG (tg [0,1,2,4,5,6,8,9,3,7,10,11,12,13] [3,7,10,12] [0,1,2,4,5,6,8,9]) (by kernel_rfl) ?_;(repeat first|refine tX rfl ?_|(refine Ai rfl ?_;refine gA rfl ?_;first|refine gS (λ_ _=>Vk (by rfl) (by rfl)) ?_|refine gS (λ_ _=>Ro rfl rfl rfl rfl rfl (by rfl) (by rfl) (by rfl) (by rfl) (by rfl)) ?_));(refine pW rfl ?_ rfl (by rfl);refine ET rfl rfl rfl (by intro r k;simp at k;obtain⟨_,_,rfl⟩:=k;rfl) (by rfl) (co rfl) (by simp;omega) (λh=>?_) (λ_=>?_))
   .exfalso;simp at h;rw[h]at j;simp at j
   (repeat first|(refine Ai rfl ?_;refine gA rfl ?_;first|refine gS (λ_ _=>Vk (by rfl) (by rfl)) ?_|refine gS (λ_ _=>Ro rfl rfl rfl rfl rfl (by rfl) (by rfl) (by rfl) (by rfl) (by rfl)) ?_));(refine pW rfl ?_ rfl (by rfl);refine ET rfl rfl rfl (by intro r k;simp at k;obtain⟨_,_,rfl⟩:=k;rfl) (by rfl) (co rfl) (by simp;omega) (λh=>?_) (λ_=>?_))
   .exfalso;simp at h;rw[h]at l;simp at l
   (refine pA rfl (by simp) (by simp;omega) ?_);(repeat first|refine tA rfl ?_|refine sV rfl rfl (by rfl) (by rfl) ?_|apply Aa);refine Al.settle [(6,.o (.ip [BZ tab.rows,BZ (tab.cols++[w])])),(7,eB true)] ⟨⟨_,rfl,.o (.box rfl (.cons (.full rfl (by simp[d6]) (by simp)) (.cons (.full rfl (by simp[d6]) (by simp)) .nil)))⟩,⟨_,rfl,.o .d⟩,trivial⟩ ?_;refine aR ⟨_,rfl,rfl⟩
 .have ha:P9 A al tab w=none:=by unfold P9;rw[if_neg c]
  rw[ha];refine eG Tryz.func150 rfl (by kernel_rfl) rfl ?_;intro Γ i;(repeat' first|refine sN rfl ?_|refine tA rfl ?_|(refine s2 rfl λ_ a=>?_;try (simp only[uW,uX]at a;subst a))|(refine sC rfl (g) ?_;intro _ a)|(refine sC rfl (f) ?_;intro _ a)|(refine sC rfl (e) ?_;intro _ a)|refine sV rfl rfl (by rfl) (by rfl) ?_|refine s3 rfl ?_ ?_<;>rintro rfl|refine aV rfl ?_|apply Aa|refine rE (by kernel_rfl) ?_|(refine aC rfl ?_ ?_<;>rintro⟨⟩)|refine aR ⟨_,rfl,?_⟩)
  all_goals first
   | rfl
   | (exfalso;clear g f e n;simp at *;grind;done)
   | skip
def Gb(A:W->Bool)(al:Int)(t:AW)(w:W):Option W:=if Bt A al t && FQ al w then CD A t w else none
theorem N5{al:Int}{w:W}(h:FQ al w=true):Ax (AR al) w/\w.length<=4000/\within w al=true:=by
 unfold FQ at h;rw[d4,decide_eq_true_eq]at h;exact⟨EM h.1,h.2,h.1⟩
theorem fR{A:W->Bool}{al:Int}{t:AW}{w:W}(ha:A2 al=true)(a:Cb A (AR al) t)(c:t.rows.length<=12)(b:FQ al w=true):Sl (AV A al t) w=Lm A t w:=by
 obtain⟨e,f,d⟩:=N5 b;unfold Sl;rw[Pt ha a c,Pr a e]
 show (true && (within w al && _))=_
 rw[d];rfl
theorem X8{A:W->Bool}{t:AW}{w:W}{k q:Nat}{c:UInt8}{R:Option W}(d:w[k]?=some c)(a:R=splitAt A t (A w) q (w.drop k)) :
 (A (t.rows.getD (Dh A t (t.rows.getD q []++[c])) []++w.drop (k+1))≠A w->R=some (w.drop (k+1)))/\(A (t.rows.getD (Dh A t (t.rows.getD q []++[c])) []++w.drop (k+1))=A w->R=splitAt A t (A w) (Dh A t (t.rows.getD q []++[c])) (w.drop (k+1))):=by
 have:=Nh (L:=A) (t:=t) (b:=A w) (q:=q) d;rw[this]at a;exact⟨λh=>by rw[a,if_pos h],λh=>by rw[a,if_neg (by simpa using h)]⟩
theorem SP{t:EO}{al:Int}{A:W->Bool}(G:Ll Tryz.prog TB 140 186 t al A)(hal:0<=al->A2 al=true)(tab:AW)(P:YH tab)(w:W)(hw:w.length<=1048576) :
 Pure Tryz.prog TB 149 [EY t,Ej tab,eT w] (dr (Gb A al tab w)):=by
 have n:=HV G tab P;have q:=QE G w (by omega);have h4:=G.ask w (by omega);by_cases r:Bt A al tab=true
 .rw [if_pos r]at n
  obtain⟨Q,ho,f⟩:=NI r;have d:=(Ft Q).1;have ha:=hal d.pos;have hau:=Pt ha f d.rl;have I:=P8 (TB:=TB) (AV A al tab) w (by omega);by_cases i:FQ al w=true
  .rw [i]at q
   rw[fR ha f d.rl i]at I
   have u:Gb A al tab w=CD A tab w:=by unfold Gb;rw[r,i];rfl
   rw[u];by_cases J:Lm A tab w=A w
   .have y:CD A tab w=none:=by unfold CD;rw[if_pos J]
    rw[y];rw[J]at I;refine eG Tryz.func149 rfl (by kernel_rfl) rfl ?_;intro Γ b;(repeat' first|refine tA rfl ?_|(refine s2 rfl λ_ a=>?_;try (simp only[uW,uX]at a;subst a))|refine sP rfl (n) rfl ?_|refine sP rfl (q) rfl ?_|refine sP rfl (I) rfl ?_|refine sP rfl (h4) rfl ?_|refine aV rfl ?_|apply Aa|refine rE (by kernel_rfl) ?_|(refine aC rfl ?_ ?_<;>rintro⟨⟩)|refine aR ⟨_,rfl,?_⟩)
    all_goals first
     | rfl
     | (exfalso;grind;done)
   .obtain⟨R,M⟩:∃R,R=CD A tab w:=⟨_,rfl⟩
    rw[<-M]
    have M:R=splitAt A tab (A w) 0 (w.drop 0):=by rw[M];unfold CD;rw[if_neg J];rfl
    obtain⟨m,hw4,_⟩:=N5 i;have hrl:=d.rl;have T:=d.r1;refine eG Tryz.func149 rfl (by kernel_rfl) rfl ?_;intro Γ b;(repeat first|refine tA rfl ?_|refine sP rfl (n) rfl ?_|refine sP rfl (q) rfl ?_|refine sP rfl (I) rfl ?_|refine sP rfl (h4) rfl ?_|refine aU rfl ?_|apply Aa);refine rG (GI []) (by kernel_rfl) ?_;(repeat first|refine tA rfl ?_|(refine s2 rfl λ_ a=>?_;try (simp only[uW,uX]at a;subst a))|refine sP rfl (n) rfl ?_|refine sP rfl (q) rfl ?_|refine sP rfl (I) rfl ?_|refine sP rfl (h4) rfl ?_|apply Aa);refine Al.cond rfl (λhb=>?_) (λhb=>?_)<;>cases hb
    .exfalso;exact J (by simpa using a)
    apply aK;(repeat first|refine tA rfl ?_|refine aU rfl ?_|apply Aa);have h0:0<tab.rows.length:=T;apply aB;refine aL (α:={k:Nat // k<=w.length/\R=splitAt A tab (A w) (runM A tab 0 (w.take k)) (w.drop k)/\A (tab.rows.getD (runM A tab 0 (w.take k)) []++w.drop k)=A w}) [2,3,4,8] [0] rfl rfl (λ⟨k,hk,p,H⟩=>[(10,eI .i64 (runM A tab 0 (w.take k):Nat)),(11,eI .i64 k)]) (λ⟨k,hk,p,H⟩=>[]) 1 (λ⟨k,hk,p,H⟩=>w.length-k) (⟨0,by omega,M,by simp[d.r0,runM]⟩) b rfl (by (simp[cX,zC,b]<;>rfl)) ?_;rintro⟨k,hk,p,H⟩;(try dsimp only[cA,cB]);have x:=f.run (w.take k) 0 (KD m k) h0;by_cases X:k<w.length
    .obtain⟨c,K⟩:=get_some X
     have Z:w[((k:Nat):Int).toNat]?=some c:=by simpa using K
     have F:=m c (ce K);have B:=HQ F;have Y:=Jd (TB:=TB) w k c Z
     have hnl:(AV A al tab).nx.length=tab.rows.length:=by simp[AV]
     have z:=Kz (TB:=TB) (AV A al tab) hau (runM A tab 0 (w.take k)) (by omega) ((c.toNat:Int)-97) B.1 B.2;have s:=On (L:=A) (t:=tab) K 0;have v:=f.run (w.take (k+1)) 0 (KD m (k+1)) h0;rw[Mx (L:=A) (al:=al) (t:=tab) x F,<-s]at z;have e:=X8 K p;rw[<-s]at e;obtain⟨N,l⟩:=get_some x;have hx1':=get_map (g:=CU) l;obtain⟨o,j⟩:=get_some v;have hx2':=get_map (g:=CU) j
     have e1:tab.rows.getD (runM A tab 0 (w.take k)) []=N:=by simp[l]
     have e2:tab.rows.getD (runM A tab 0 (w.take (k+1))) []=o:=by simp[j]
     have hr1b:=P.rb N (ce l);have hr2b:=P.rb o (ce j);rw[e1]at H;rw[e2]at e
     have V:Pure Tryz.prog TB 186 [EY t,eT (N++w.drop ((k:Nat):Int).toNat)] (eB (A w)):=by
      rw[f6,<-H];exact G.ask _ (by simp;omega)
     have ek:(((k:Nat):Int)+1).toNat=k+1:=by omega
     have U:Pure Tryz.prog TB 186 [EY t,eT (o++w.drop (((k:Nat):Int)+1).toNat)] (eB (A (o++w.drop (k+1)))):=by
      rw[ek];exact G.ask _ (by simp;omega)
     have hd1:(w.drop ((k:Nat):Int).toNat).length<=1048576:=by simp;omega
     have hd2:(w.drop (((k:Nat):Int)+1).toNat).length<=1048576:=by simp;omega
     (repeat first|refine tA rfl ?_|refine s2 rfl λ_ a=>?_|refine aU rfl ?_|apply Aa);refine Al.cond rfl (λhb=>?_) (λhb=>?_)<;>cases hb
     rotate_left
     .exfalso;(simp only[oZ] at *;omega)
     (repeat' first|(refine sA rfl ?_ ?_;first|exact tI|omega)|(refine s4 rfl ‹_› rfl ?_ ?_;omega)|refine s2 rfl λ_ a=>?_|refine sP rfl (Y) rfl ?_|refine sP rfl (z) rfl ?_|refine sP rfl (V) rfl ?_|refine sP rfl (U) rfl ?_|(refine Ai rfl ?_;refine gA rfl ?_;first|refine gS (λ_ _=>Ex rfl rfl (by omega) (by omega)) ?_)|refine aV rfl ?_|apply Aa|refine rE (by kernel_rfl) ?_|(refine aC rfl ?_ ?_<;>rintro⟨⟩)|refine aR ⟨_,rfl,?_⟩)
     .have y:=e.1 (by intro h;rw[h]at a;simp at a)
      rw[y]
      show E.t _=E.t _
      rw[ek]
     .have S:=e.2 (by simpa using (by simpa using a:A w=A (o++w.drop (k+1))).symm)
      have hA2:A (tab.rows.getD (runM A tab 0 (w.take (k+1))) []++w.drop (k+1))=A w:=by rw[e2];exact(by simpa using a:A w=A (o++w.drop (k+1))).symm
      refine⟨⟨k+1,by omega,S,hA2⟩,by dsimp only;(omega),[0],?_⟩;simp[cX,zC,b]
    .obtain rfl:k=w.length:=by omega
     rw[vC]at p;have y:R=none:=p;rw[y];(repeat first|refine tA rfl ?_|refine s2 rfl λ_ a=>?_|refine aU rfl ?_|apply Aa);refine Al.cond rfl (λhb=>?_) (λhb=>?_)<;>cases hb
     .exfalso;(simp only[oZ] at *;omega)
     (repeat' first|refine tA rfl ?_|refine aV rfl ?_|apply Aa|(refine aC rfl ?_ ?_<;>rintro⟨⟩)|refine aR ⟨_,rfl,?_⟩);rfl
  .have i:FQ al w=false:=by simpa using i
   rw[i]at q
   have u:Gb A al tab w=none:=by unfold Gb;rw[i];simp
   rw[u];refine eG Tryz.func149 rfl (by kernel_rfl) rfl ?_;intro Γ b;(repeat' first|refine tA rfl ?_|(refine s2 rfl λ_ a=>?_;try (simp only[uW,uX]at a;subst a))|refine sP rfl (n) rfl ?_|refine sP rfl (q) rfl ?_|refine aV rfl ?_|apply Aa|refine rE (by kernel_rfl) ?_|(refine aC rfl ?_ ?_<;>rintro⟨⟩)|refine aR ⟨_,rfl,?_⟩)
   all_goals first
    | rfl
    | (exfalso;grind;done)
 .have u:Gb A al tab w=none:=by unfold Gb;simp[r]
  rw[if_neg r]at n;rw[u];refine eG Tryz.func149 rfl (by kernel_rfl) rfl ?_;intro Γ b;(repeat' first|refine tA rfl ?_|(refine s2 rfl λ_ a=>?_;try (simp only[uW,uX]at a;subst a))|refine sP rfl (n) rfl ?_|refine aV rfl ?_|apply Aa|refine rE (by kernel_rfl) ?_|(refine aC rfl ?_ ?_<;>rintro⟨⟩)|refine aR ⟨_,rfl,?_⟩)
  all_goals first
   | rfl
   | (exfalso;grind;done)
theorem Ix(t:BX):Pure Tryz.prog TB 51 [Pj t] (eB (AY t)):=by
 unfold AY;refine eN Tryz.func51 rfl (by kernel_rfl) rfl ?_;intro Γ b;(repeat' first|refine tA rfl ?_|(refine sC rfl (Cf t.s) ?_;intro _ a)|(refine sC rfl (Be t.q) ?_;intro _ a)|(refine sC rfl (HY t.al) ?_;intro _ a)|refine s3 rfl ?_ ?_<;>rintro rfl|refine aV rfl ?_|apply Aa|(refine aC rfl ?_ ?_<;>rintro⟨⟩)|refine aR ⟨_,rfl,?_⟩)
 all_goals (show E.o _=E.o _;simp_all)
abbrev tC(p:AI)(t:BX):E:=tB false p t.s t.q t.al
theorem RT(p:AI)(t:BX):Pure Tryz.prog TB 126 [tC p t] (eI .i64 (if AY t then t.al else -1)):=by
 have c:=Ix (TB:=TB) t;refine eN Tryz.func126 rfl (by kernel_rfl) rfl ?_;intro Γ b;(repeat' first|refine tA rfl ?_|refine s2 rfl λ_ a=>?_|(refine sC rfl (c) ?_;intro _ a)|refine s3 rfl ?_ ?_<;>rintro rfl|refine aV rfl ?_|apply Aa|(refine aC rfl ?_ ?_<;>rintro⟨⟩)|refine aR ⟨_,rfl,?_⟩)
 all_goals first
  | (show E.o _=E.o _;congr;grind)
  | (exfalso;simp at *;done)
abbrev OY(c:C):C:=.mv 129 [c]
theorem SH[Dy TB](p:AI){t:BX}(ht:AY t=true)(ok:W->Prop):∃m,Mc t ok m/\AE Tryz.prog TB 66 0 [] 0 [tC p t] (λx σ nx=>x=.t [(true,[.d (iD t.al),OY (.ptr 0 14 0 0)]),(false,[.d (bD true)])]/\σ=NB t m/\nx=5):=by
 obtain⟨m,i,e⟩:=MN (TB:=TB) ht ok;refine⟨m,i,?_⟩;have f:=RT (TB:=TB) p t;rw[if_pos ht]at f
 have b:A2 t.al=true:=by unfold AY at ht;simp only[d4]at ht;exact ht.2.2
 unfold A2 at b;simp only[decide_eq_true_eq]at b;refine AE.A6 (AE.PM (m:=0) (co rfl) Tryz.func66 rfl (by kernel_rfl) (co rfl) ?_);intro Γ a;(repeat first|refine tA rfl ?_|refine sP rfl (f) rfl ?_|refine aU rfl ?_|apply Aa);apply aB;(repeat first|refine tA rfl ?_|refine s2 rfl λ_ c=>?_|refine aU rfl ?_|apply Aa)
 ((refine aC rfl ?_ ?_<;>rintro⟨⟩);all_goals try (simp at c;done))
 .exfalso;(simp only[oZ] at *;omega)
 ·(repeat first|refine tA rfl ?_|refine aU rfl ?_|apply Aa)
  ((refine aC rfl ?_ ?_<;>rintro⟨⟩);all_goals try (simp at c;done))
  apply aK;(repeat first|refine tA rfl ?_|refine aU rfl ?_);(refine pK [] 0 rfl (e) rfl rfl (by simp[cX,zC,a,AG]) ?_;rintro j g h ⟨rfl,rfl,rfl⟩ _);(repeat first|(refine Ai rfl ?_;refine gA rfl ?_;first|refine gS (λ_ _=>sK rfl) ?_));(repeat first|refine tA rfl ?_|refine sV rfl rfl (by rfl) (by rfl) ?_);apply Aa;refine aR ⟨_,rfl,[1,2,3,4,5],.t [(true,[.d (iD t.al),OY (.ptr 0 14 0 0)]),(false,[.d (bD true)])],NB t m,iB rfl,rfl,by (simp[cX,zC,a,AG]),rfl,rfl,rfl⟩
def CP(te:EO):Bool:=if te.kn then AJ te.p else AY ⟨te.s,te.q,te.al⟩
def A1(te:EO):Int:=if te.kn then te.p.al else te.al
noncomputable def Cj(te:EO)(w:W):Bool:=if te.kn then LA te.p w else LS ⟨te.s,te.q,te.al⟩ w
def VB(te:EO)(ok:W->Prop):Prop:=te.kn=false->px ⟨te.s,te.q,te.al⟩ ok
abbrev pH(al:Int):W->Prop:=λw=>Ax (AR al) w/\w.length<=1048576
theorem se{tabs:List (Nat×Obj)}[Dy ⟨tabs,none⟩]{t:BX}{ok:W->Prop}(ht:AY t=true)(a:∀w,ok w->pH t.al w)(b:px t ok){r:Nat}:KU Tryz.prog ⟨tabs,some (RS t ok,r)⟩ (OY (Rq r)) (LS t) ok:=
 ⟨rfl,λe ha d=>jc (es:=[eT _]) e (by simp[Jw,ha]) rfl (jP ht b d (λc f=>HQ ((a _ d).1 c f)) (a _ d).2) rfl⟩
theorem rm{tabs:List (Nat×Obj)}{h:Option (Hid×Nat)}{b:Nat}{vals:List Value}(a:ND ⟨tabs,none⟩ b vals):ND ⟨tabs,h⟩ b vals:=⟨a.out⟩
theorem pb{tabs:List (Nat×Obj)}{h:Option (Hid×Nat)}(a:Dy ⟨tabs,none⟩):Dy ⟨tabs,h⟩:=by
 cases a
 constructor<;>(apply rm;assumption)
def ah:List W:=[[97,98,32,50,32,48,97,49,32,49,98,48],[97,98,99,32,51,32,48,97,49,32,49,98,50,32,50,99,48],[97,98,32,51,32,48,97,48,32,48,97,49,32,48,98,48,32,49,98,50,32,50,97,50],[98,99,32,50,32,48,98,49,32,49,99,48],[98,99,32,51,32,48,98,49,32,48,99,48,32,49,99,50,32,50,98,50,32,50,99,50],[45,32,49],[97,32,49,32,48,97,48],[97,99,32,52,32,48,97,49,32,48,97,50,32,49,99,51,32,50,97,50,32,51,97,48,32,51,99,51],[97,98,99,32,52,32,48,97,48,32,48,98,49,32,49,98,50,32,49,99,48,32,50,99,51,32,51,97,49],[97,98,32,53,32,48,97,48,32,48,97,49,32,48,98,48,32,49,97,50,32,49,98,50,32,50,97,51,32,50,98,51,32,51,97,52,32,51,98,52],[97,98,100,32,51,32,48,97,49,32,48,100,48,32,49,98,48,32,49,100,50]]
theorem fj:∀w∈ah,w.length<=60:=by decide
theorem Zo:Pure Tryz.prog TB 151 [] (BQ ah):=by
 refine eN Tryz.func151 rfl (by kernel_rfl) rfl ?_;intro Γ a;(repeat first|refine tA rfl ?_|refine aU rfl ?_|apply Aa);refine aR ⟨_,rfl,rfl⟩
theorem Tu(b:List UInt8)(hb:b.length<=2000)(p:Int)(L:0<=p/\p<700000000):Spec Tryz.prog TB 85 [(0,Cr b p)] 1 [.o (.ptr 0 2 0 0)] (Mg b p 410 (λs=>s.es.length<=400)):=by
 obtain⟨c,N,M,hp⟩:=Bi (TB:=TB) b hb p 3 (by omega);obtain⟨w,G,H⟩:=qD (TB:=TB) b hb (p+1) (by omega) ah (by decide) (by decide);have F:=fj w G;have v:=Hh (TB:=TB) w (by omega);have g:∀q:Int,p<=q/\q<=p+2->∃(k i j:Int),(0<=i/\i<=8)/\Spec Tryz.prog TB 88 [(0,Cr b q)] 1 [.o (.ptr 0 2 0 0),Aj [3,6,7,5,1,0,12]] (λx σ nx=>x=eI .i64 k/\σ=[(0,Cr b (q+1))]/\nx=1)/\
  Spec Tryz.prog TB 88 [(0,Cr b (q+1))] 1 [.o (.ptr 0 2 0 0),Aj [3,2,4,1,5]] (λx σ nx=>x=eI .i64 i/\σ=[(0,Cr b (q+1+1))]/\nx=1)/\
  Spec Tryz.prog TB 88 [(0,Cr b (q+1+1))] 1 [.o (.ptr 0 2 0 0),Aj [3,2,4,6]] (λx σ nx=>x=eI .i64 j/\σ=[(0,Cr b (q+1+1+1))]/\nx=1):=λq z=>by
  obtain⟨k,K,t⟩:=Di (TB:=TB) b hb q (by omega) [3,6,7,5,1,0,12] (by decide) (by decide);obtain⟨i,u,r⟩:=Di (TB:=TB) b hb (q+1) (by omega) [3,2,4,1,5] (by decide) (by decide);obtain⟨j,J,n⟩:=Di (TB:=TB) b hb (q+1+1) (by omega) [3,2,4,6] (by decide) (by decide);exact⟨k,i,j,by simp at u;omega,t,r,n⟩
 refine eR Tryz.func85 rfl (by kernel_rfl) rfl ?_;intro Γ a;(repeat first|refine tA rfl ?_|refine aU rfl ?_|apply Aa);(refine pC [0] rfl (hp) rfl rfl (by simp[cX,zC,a,cN]) ?_;rintro h d e ⟨rfl,rfl,rfl⟩ _);(repeat first|refine s2 rfl λ_ I=>?_|apply Aa);(refine aC rfl ?_ ?_<;>rintro⟨⟩)
 ·(repeat first|refine tA rfl ?_|refine sP rfl (Zo) rfl ?_|refine aU rfl ?_)
  (refine pC [0] rfl (H) rfl rfl (by simp[cX,zC,a,cN]) ?_;rintro h d e ⟨rfl,rfl,rfl⟩ _);(refine pC [] rfl (v) rfl rfl trivial ?_;rintro h d e ⟨⟨y,ok⟩,B,rfl,rfl,rfl⟩ _);have A:y.es.length<=w.length+1:=B;(repeat first|refine tA rfl ?_|refine aU rfl ?_|apply Aa);(refine aC rfl ?_ ?_<;>rintro⟨⟩)
  ·(repeat first|refine tA rfl ?_|refine aU rfl ?_|apply Aa)
   exact aR ⟨_,rfl,[0],BD y,[(0,Cr b (p+1+1))],iB rfl,rfl,by (simp[cX,zC,a,cN]),p+1+1,y,by omega,by show y.es.length<=400;omega,rfl,rfl,rfl⟩
  apply aK;obtain⟨k,i,j,u,t,r,n⟩:=g (p+1+1) (by omega);have f:=JU (TB:=TB) b hb (p+1+1+1+1+1) (by omega) k i j (by omega);(repeat first|refine tA rfl ?_|refine aU rfl ?_);(refine pC [0] rfl (t) rfl rfl (by simp[cX,zC,a,cN]) ?_;rintro h d e ⟨rfl,rfl,rfl⟩ _);(repeat first|refine tA rfl ?_);(refine pC [0] rfl (r) rfl rfl (by simp[cX,zC,a,cN]) ?_;rintro h d e ⟨rfl,rfl,rfl⟩ _);(repeat first|refine tA rfl ?_);(refine pC [0] rfl (n) rfl rfl (by simp[cX,zC,a,cN]) ?_;rintro h d e ⟨rfl,rfl,rfl⟩ _);(refine pK [0] 1 rfl (f) rfl rfl (by simp[cX,zC,a,cN]) ?_;rintro h d e ⟨q,m,z,l,rfl,rfl,rfl⟩ _);(repeat first|refine tA rfl ?_|apply Aa);exact aR ⟨_,rfl,[0],BD m,[(0,Cr b q)],iB rfl,rfl,by (simp[cX,zC,a,cN]),q,m,by omega,l.2.2,rfl,rfl,rfl⟩
 apply aK;obtain⟨k,i,j,u,t,r,n⟩:=g (p+1) (by omega);have f:=JU (TB:=TB) b hb (p+1+1+1+1) (by omega) k i j (by omega);(repeat first|refine tA rfl ?_|refine aU rfl ?_);(refine pC [0] rfl (t) rfl rfl (by simp[cX,zC,a,cN]) ?_;rintro h d e ⟨rfl,rfl,rfl⟩ _);(repeat first|refine tA rfl ?_);(refine pC [0] rfl (r) rfl rfl (by simp[cX,zC,a,cN]) ?_;rintro h d e ⟨rfl,rfl,rfl⟩ _);(repeat first|refine tA rfl ?_);(refine pC [0] rfl (n) rfl rfl (by simp[cX,zC,a,cN]) ?_;rintro h d e ⟨rfl,rfl,rfl⟩ _);(refine pK [0] 1 rfl (f) rfl rfl (by simp[cX,zC,a,cN]) ?_;rintro h d e ⟨q,m,z,l,rfl,rfl,rfl⟩ _);(repeat first|refine tA rfl ?_|apply Aa);exact aR ⟨_,rfl,[0],BD m,[(0,Cr b q)],iB rfl,rfl,by (simp[cX,zC,a,cN]),q,m,by omega,l.2.2,rfl,rfl,rfl⟩
abbrev Lt(r:Sys×AI×Sys):E:=.t [(true,(AU r.1).map .d),(true,(AT r.2.1).map .d),(true,(AU r.2.2).map .d)]
structure pT (r:Sys×AI×Sys):Prop where
 a:r.1.es.length<=400
 b:LX 41 r.2.1
 c:r.2.2.es.length<=400
def kz(b:List UInt8)(p m:Int)(x:E)(σ:Ac)(nx:Nat):Prop:=∃(p':Int) (r:Sys×AI×Sys),(p<=p'/\p'<=p+m)/\pT r/\x=Lt r/\σ=[(0,Cr b p')]/\nx=1
theorem LX.upto{m n:Nat}{a:AI}(h:LX m a)(c:m<=n):LX n a:=⟨by have:=h.nx;omega,by have:=h.ac;omega,λr b=>by have:=h.row r b;omega⟩
theorem mR{C X:Int->Sys->Prop}{Y:Prop}(h:∀q s,C q s->X q s)(hk:(∀q s,C q s->X q s)->Y):Y:=hk h
theorem Zw(b:List UInt8)(hb:b.length<=2000)(p:Int)(S:0<=p/\p<600000000):Spec Tryz.prog TB 123 [(0,Cr b p)] 1 [.o (.ptr 0 2 0 0)] (kz b p 2000):=by
 have R:=QF (TB:=TB) b hb p (by omega);refine eR Tryz.func123 rfl (by kernel_rfl) rfl ?_;intro Γ a;(repeat first|refine tA rfl ?_|refine aU rfl ?_|apply Aa);(refine pC [0] rfl (R) rfl rfl (by simp[cX,zC,a,cN]) ?_;rintro r e f ⟨J,G,M,y,rfl,rfl,rfl⟩ _);(repeat first|refine tA rfl ?_|refine aU rfl ?_|apply Aa);have Q:=QF (TB:=TB) b hb J (by omega);(refine pC [0] rfl (Q) rfl rfl (by simp[cX,zC,a,cN]) ?_;rintro r e f ⟨w,v,L,x,rfl,rfl,rfl⟩ _);(repeat first|refine tA rfl ?_|refine aU rfl ?_|apply Aa);obtain⟨c,Y,X,N⟩:=Bi (TB:=TB) b hb w 4 (by omega);(refine pC [0] rfl (N) rfl rfl (by simp[cX,zC,a,cN]) ?_;rintro r e f ⟨rfl,rfl,rfl⟩ _);apply mR (C:=λq s=>(p<=q/\q<=p+1300)/\s.es.length<=400)
 case hk=>
  intro hk;(repeat first|refine s2 rfl λ_ F=>?_|apply Aa);(refine aC rfl ?_ ?_<;>rintro⟨⟩)
  ·(repeat first|refine tA rfl ?_|refine aU rfl ?_)
   have B:=Tu (TB:=TB) b hb (w+1) (by omega);(refine pC [0] rfl (B) rfl rfl (by simp[cX,zC,a,cN]) ?_;rintro r e f ⟨g,i,u,m,rfl,rfl,rfl⟩ _);(repeat first|refine tA rfl ?_);apply Aa;refine Al.AQ [0] [] rfl rfl [(2,.o (.ptr 1 3 0 0)),(3,.o (.ptr 2 3 0 0)),(4,.o (.ptr 3 3 0 0)),(5,.o (.ptr 4 3 0 0)),(6,.o (.ptr 5 3 0 0))] [(0,Cr b g),(1,.cells 25 3 [[.d (iD 0),.d (iD 0),.d (.l [])]]),(2,.cells 29 3 [[.d (iD 0),.d (.l []),.d (.l [])]]),(3,.cells 25 3 [[.d (iD 0),.d (iD 0),.d (.l [])]]),(4,.cells 25 3 [(AU i).map .d]),(5,.cells 25 3 [(AU v).map .d])] [0,1,2,3,4,5] (rl a rfl) (by (simp[cX,zC,a,cN,Ae,eC])) ?_;(try dsimp only[cA,cB]);exact hk g i ⟨by omega,m⟩
  .apply aK
   generalize u:w+1=g at *;refine Al.AQ [0] [] rfl rfl [(2,.o (.ptr 1 3 0 0)),(3,.o (.ptr 2 3 0 0)),(4,.o (.ptr 3 3 0 0)),(5,.o (.ptr 4 3 0 0)),(6,.o (.ptr 5 3 0 0))] [(0,Cr b g),(1,.cells 25 3 [[.d (iD 0),.d (iD 0),.d (.l [])]]),(2,.cells 29 3 [[.d (iD 0),.d (.l []),.d (.l [])]]),(3,.cells 25 3 [[.d (iD 0),.d (iD 0),.d (.l [])]]),(4,.cells 25 3 [(AU G).map .d]),(5,.cells 25 3 [(AU v).map .d])] [0,1,2,3,4,5] (rl a rfl) (by (simp[cX,zC,a,cN,Ae,eC])) ?_;(try dsimp only[cA,cB]);exact hk g G ⟨by omega,y.2⟩
 case h =>
  intro g i ⟨u,m⟩;(repeat first|refine tA rfl ?_|refine aU rfl ?_);obtain⟨V,U,T,z⟩:=Bi (TB:=TB) b hb g 4 (by omega);(refine pC [0] rfl (z) rfl rfl (by simp[cX,zC,a,cN]) ?_;rintro r e f ⟨rfl,rfl,rfl⟩ _);apply mR (C:=λq s=>(p<=q/\q<=p+1800)/\s.es.length<=400)
  case hk=>
   intro hk;(repeat first|refine s2 rfl λ_ F=>?_|apply Aa);(refine aC rfl ?_ ?_<;>rintro⟨⟩)
   ·(repeat first|refine tA rfl ?_|refine aU rfl ?_)
    have B:=Tu (TB:=TB) b hb (g+1) (by omega);(refine pC [0] rfl (B) rfl rfl (by simp[cX,zC,a,cN]) ?_;rintro r e f ⟨j,n,t,k,rfl,rfl,rfl⟩ _);(repeat first|refine tA rfl ?_);apply Aa;refine Al.AQ [0] [] rfl rfl [(2,.o (.ptr 1 3 0 0)),(3,.o (.ptr 2 3 0 0)),(4,.o (.ptr 3 3 0 0)),(5,.o (.ptr 4 3 0 0)),(6,.o (.ptr 5 3 0 0))] [(0,Cr b j),(1,.cells 25 3 [[.d (iD 0),.d (iD 0),.d (.l [])]]),(2,.cells 29 3 [[.d (iD 0),.d (.l []),.d (.l [])]]),(3,.cells 25 3 [[.d (iD 0),.d (iD 0),.d (.l [])]]),(4,.cells 25 3 [(AU i).map .d]),(5,.cells 25 3 [(AU n).map .d])] [0,1,2,3,4,5] (rl a rfl) (by (simp[cX,zC,a,cN,Ae,eC])) ?_;(try dsimp only[cA,cB]);exact hk j n ⟨by omega,k⟩
   .apply aK
    generalize t:g+1=j at *;refine Al.AQ [0] [] rfl rfl [(2,.o (.ptr 1 3 0 0)),(3,.o (.ptr 2 3 0 0)),(4,.o (.ptr 3 3 0 0)),(5,.o (.ptr 4 3 0 0)),(6,.o (.ptr 5 3 0 0))] [(0,Cr b j),(1,.cells 25 3 [[.d (iD 0),.d (iD 0),.d (.l [])]]),(2,.cells 29 3 [[.d (iD 0),.d (.l []),.d (.l [])]]),(3,.cells 25 3 [[.d (iD 0),.d (iD 0),.d (.l [])]]),(4,.cells 25 3 [(AU i).map .d]),(5,.cells 25 3 [(AU v).map .d])] [0,1,2,3,4,5] (rl a rfl) (by (simp[cX,zC,a,cN,Ae,eC])) ?_;(try dsimp only[cA,cB]);exact hk j v ⟨by omega,x.2⟩
  case h=>
   intro j n ⟨t,k⟩;have P:=SB (TB:=TB) b hb j (by omega) (GY .i64 i.al n.al);(repeat first|refine aU rfl ?_);refine rG ⟨GK [(0,14),(3,14),(5,15),(7,1048),(8,15),(9,1032),(10,1032),(11,1)],fB [0,1,2,3,4,5,6,8,7,9,10,11]⟩ (by kernel_rfl) ?_;(repeat first|refine tA rfl ?_);(refine Ai rfl ?_;refine C8 ?_ rfl ⟨rfl,rfl⟩;refine BE [0] rfl rfl (P) ⟨rfl,by decide,by decide⟩ rfl (by simp[cX,zC,a,cN]) ?_;rintro r e f ⟨H,I,K,A,rfl,rfl,rfl⟩ _;refine⟨Lf 4 5 rfl rfl rfl,?_⟩);(refine Ai rfl ?_;refine iZ ?_ rfl ⟨rfl,rfl⟩;refine Ew rfl rfl rfl rfl (by rfl) rfl (co rfl) ?_;refine⟨FA 5 rfl rfl,?_⟩);(refine Ai rfl ?_;refine iZ ?_ rfl ⟨rfl,rfl⟩;refine Ew rfl rfl rfl rfl (by rfl) rfl (co rfl) ?_;refine⟨FA 5 rfl rfl,?_⟩);(repeat first|refine tA rfl ?_|apply Aa);exact aR ⟨_,rfl,[0],Lt (i,I,n),[(0,Cr b H)],iB rfl,rfl,by (simp[cX,zC,a,cN]),H,(i,I,n),by omega,⟨m,A.upto (by omega),k⟩,rfl,rfl,rfl⟩
def I6(A:W->Bool)(al:Int)(t:AW):Option AW:=if A4 A al t then Bd A (AR al) 13 t else none
def Nj(A:W->Bool)(al:Int)(t:AW)(w:W):Option AW:=(Gb A al t w).bind λv=>(P9 A al t v).bind λu=>I6 A al u
theorem aa{A:W->Bool}{al:Int}{t:AW}{w v:W}(h:Gb A al t w=some v):v.length<=w.length:=by
 unfold Gb at h;split at h
 .obtain⟨p,_,rfl⟩:=Jo h
  simp
 .cases h
theorem kD{A:W->Bool}{al:Int}{t u:AW}{w:W}(h:P9 A al t w=some u):YH u:=by
 unfold P9 at h;split at h
 .rename_i d
  rw[d4]at d;have b:=(Ft d.1).1;have f:=N5 d.2;unfold FM at h;split at h
  .cases h
  .injection h with h
   subst h;have c:=b.sz;have e:=b.cl;refine⟨c.rl,by simp;omega,c.rb,λx a=>?_⟩
   rcases f7.1 a with a|a
   .exact c.cb x a
   .simp at a;subst a;omega
 .cases h
theorem SD{t:EO}{al:Int}{A:W->Bool}(g:Ll Tryz.prog TB 140 186 t al A)(hal:0<=al->A2 al=true)(tab:AW)(h:YH tab)(w:W)(j:w.length<=1048576) :
 Pure Tryz.prog TB 81 [EY t,Ej tab,eT w] (Jq (Nj A al tab w)):=by
 have e:=SP g hal tab h w j
 rcases b:Gb A al tab w with _|v
 .have d:Nj A al tab w=none:=by unfold Nj;rw[b];rfl
  rw[d];rw[b]at e;refine eG Tryz.func81 rfl (by kernel_rfl) rfl ?_;intro Γ c;(repeat' first|refine tA rfl ?_|(refine s2 rfl λ_ a=>?_;try (simp only[uW,uX]at a;subst a))|refine sP rfl (e) rfl ?_|refine sV rfl rfl (by rfl) (by rfl) ?_|refine aV rfl ?_|apply Aa|(refine aC rfl ?_ ?_<;>rintro⟨⟩)|refine aR ⟨_,rfl,?_⟩)
  all_goals rfl
 .rw [b]at e
  have l:=aa b;have f:=Sm g tab h v (by omega)
  rcases ha:P9 A al tab v with _|u
  .have d:Nj A al tab w=none:=by unfold Nj;rw[b];simp[ha]
   rw[d];rw[ha]at f;refine eG Tryz.func81 rfl (by kernel_rfl) rfl ?_;intro Γ c;(repeat' first|refine tA rfl ?_|(refine s2 rfl λ_ a=>?_;try (simp only[uW,uX]at a;subst a))|refine sP rfl (e) rfl ?_|refine sP rfl (f) rfl ?_|refine sV rfl rfl (by rfl) (by rfl) ?_|refine aV rfl ?_|apply Aa|(refine aC rfl ?_ ?_<;>rintro⟨⟩)|refine aR ⟨_,rfl,?_⟩)
   all_goals rfl
  .have d:Nj A al tab w=I6 A al u:=by unfold Nj;rw[b];simp[ha]
   rw[d];rw[ha]at f;have i:Pure Tryz.prog TB 138 [EY t,Ej u] (Jq (I6 A al u)):=JK g u (kD ha)
   rcases k:I6 A al u with _|x<;>rw[k]at i<;>(
    refine eG Tryz.func81 rfl (by kernel_rfl) rfl ?_;intro Γ c;(repeat' first|refine tA rfl ?_|(refine s2 rfl λ_ a=>?_;try (simp only[uW,uX]at a;subst a))|refine sP rfl (e) rfl ?_|refine sP rfl (f) rfl ?_|refine sP rfl (i) rfl ?_|refine sV rfl rfl (by rfl) (by rfl) ?_|refine aV rfl ?_|apply Aa|(refine aC rfl ?_ ?_<;>rintro⟨⟩)|refine aR ⟨_,rfl,?_⟩)
    all_goals rfl)
structure s6 (t:BX):Prop where
 s:t.s.es.length<=401
 q:LX 60 t.q
def gD(o:Option (List Int×List (List Int))):E:=match o with
 | some p=>.t [(false,[.d (Ed p.1)]),(false,[.d (Ce p.2)]),(false,[.d (bD true)])]
 | none=>.t [(false,[.d (.l [])]),(false,[.d (.l [])]),(false,[.d (bD false)])]
theorem Xy{lim:Nat}{f:Int->Int->Int}{ls:List Int}{s0:Int}{g:FuncId}{caps:List C}{R:Int->Prop}(h1:1<=lim/\lim<=64)(hll:ls.length<=6)(Z:R s0)(hR:∀q l,R q->l∈ls->R (f q l))
 (hg:∀q l,R q->l∈ls->Pure Tryz.prog TB g ([eI .i64 q,eI .i64 l]++caps.map .o) (eI .i64 (f q l))) (hc:C.Db caps=true) (G:∀r,C.Ch r caps=caps) :
 Pure Tryz.prog TB 56 [eI .i64 s0,Aj ls,eI .i64 lim,.o (.fn g caps)] (gD (Lb lim f ls s0)):=by
 unfold Lb;generalize V:Gn lim f ls lim [s0] []=A;refine eG Tryz.func56 rfl (by kernel_rfl) rfl ?_;intro Γ c;(repeat first|refine tX rfl ?_|refine aU rfl ?_|apply Aa);(refine pB rfl ?_);(repeat first|refine tX rfl ?_|refine aU rfl ?_|apply Aa);(refine pW rfl ?_ rfl (by rfl);refine IC ?_);(repeat first|refine tA rfl ?_);(refine Ai rfl ?_;refine FB ?_ rfl (by rfl);refine iF (UO (l:=[]) rfl rfl rfl rfl rfl ?_));(repeat first|refine tM rfl ?_|refine aU rfl ?_|apply Aa);(refine pW rfl ?_ rfl (by rfl);refine Fh 1 63 ?_);(repeat first|refine tM rfl ?_|refine aU rfl ?_|apply Aa);apply aB;refine aL (α:={z:List Int×List (List Int) // Gn lim f ls (lim-z.2.length) z.1 z.2=A/\z.2.length<=z.1.length/\1<=z.1.length/\z.1.length<=lim/\∀q∈z.1,R q}) [1,2,3,12] [] rfl rfl (λs=>[(11,.o (.arr 0 1 0 s.1.1.length)),(13,.o (.arr 2 1 0 s.1.2.length)),(14,eI .i64 s.1.2.length)]) (λs=>[(0,.cells 3 1 (s.1.1.map Au)),(1,.mp (JX (VK s.1.1))),(2,.cells 63 1 (s.1.2.map λr=>[.d (Ed r)]))]) 3 (λs=>lim-s.1.2.length) (⟨⟨[s0],[]⟩,by simpa using V,by simp,by simp,by simpa using h1.1,by simpa using Z⟩) c rfl (by (simp[cX,zC,c,G,eC,Bl,Ae,VK])) ?_;rintro⟨⟨nd,rows⟩,t,F,H,x,v⟩;(try dsimp only[cA,cB]);have t:Gn lim f ls (lim-rows.length) nd rows=A:=t;have F:rows.length<=nd.length:=F;have H:1<=nd.length:=H;have x:nd.length<=lim:=x;have v:∀q∈nd,R q:=v;by_cases N:rows.length<nd.length
 .obtain⟨q,M⟩:=get_some N
  obtain⟨k,hk⟩:∃k,lim-rows.length=k+1:=⟨lim-rows.length-1,by omega⟩
  rw[hk]at t;simp only[Gn,M]at t;generalize T:EI lim f q nd [] ls=B at t;have L:=v q (ce M);(repeat first|refine tA rfl ?_|refine s2 rfl λ_ b=>?_|refine aU rfl ?_|apply Aa)
  ((refine aC rfl ?_ ?_<;>rintro⟨⟩);all_goals try(exfalso;(simp only[oZ] at *;omega)))
  apply aK;refine aS (aB ?_);(repeat first|refine aU rfl ?_);(refine pW rfl ?_ rfl (by rfl);refine Fh 1 3 ?_);(repeat first|refine sN rfl ?_|refine tM rfl ?_|refine aU rfl ?_|apply Aa);apply aB;refine aL (α:={z:(List Int×List Int)×Nat // z.2<=ls.length/\EI lim f q z.1.1 z.1.2 (ls.drop z.2)=B/\z.1.2.length=z.2/\nd.length<=z.1.1.length/\z.1.1.length<=lim/\(∀q∈z.1.1,R q)/\z.1.1[rows.length]?=some q}) [1,2,3,12,13,14,32,33] [2] rfl rfl (λs=>[(11,.o (.arr 0 1 0 s.1.1.1.length)),(15,.o (.arr 3 1 0 s.1.2)),(34,eI .i64 s.1.2)]) (λs=>[(0,.cells 3 1 (s.1.1.1.map Au)),(1,.mp (JX (VK s.1.1.1))),(3,.cells 3 1 (s.1.1.2.map Au))]) 4 (λs=>ls.length-s.1.2) (⟨⟨⟨nd,[]⟩,0⟩,by simp,T,rfl,jp _,x,v,M⟩) c rfl (by (simp[cX,zC,c,G,eC,Bl,Ae,Gy])) ?_;rintro⟨⟨⟨a,row⟩,j⟩,X,e,i,w,u,p,m⟩;(try dsimp only[cA,cB]);have X:j<=ls.length:=X;have e:EI lim f q a row (ls.drop j)=B:=e;have i:row.length=j:=i;have w:nd.length<=a.length:=w;have u:a.length<=lim:=u;have p:∀q∈a,R q:=p;have m:a[rows.length]?=some q:=m;by_cases Q:j<ls.length
  .obtain⟨l,P⟩:=get_some Q
   have hl':=get_map (g:=A9) P;have I:=ce P;have hf:=hg q l L I;have S:=hR q l L I
   have hq':(a.map Au)[0+((rows.length:Nat):Int).toNat]?=some (Au q):=by rw[lm,f6];simp[m]
   rw[Bm P]at e;simp only[EI]at e;have n:=Tm a (f q l);generalize f q l=y at *;(repeat first|refine s2 rfl λ_ b=>?_|refine aU rfl ?_|apply Aa)
   ((refine aC rfl ?_ ?_<;>rintro⟨⟩);all_goals try(exfalso;(simp only[oZ] at *;omega)))
   apply aK;refine aS (aB ?_);(repeat first|((first|refine sA rfl ?_ ?_|refine s4 rfl ‹_› rfl ?_ ?_);first|exact tI|omega)|(refine Ai rfl ?_;refine gA rfl ?_;first|refine gS (λ_ _=>Bo rfl rfl (by simp[E.Cg,C.Cg,C.Db,hc]) hf rfl) ?_)|refine aU rfl ?_|apply Aa);by_cases J:y∈a
   .rw[if_pos J]at e n
    (repeat first|refine tA rfl ?_|refine s2 rfl λ_ b=>?_|(refine Ai rfl ?_;refine gA rfl ?_;first|refine gQ (XH n rfl rfl rfl) rfl ?_)|refine aU rfl ?_|apply Aa)
    ((refine aC rfl ?_ ?_<;>rintro⟨⟩);all_goals try (simp at b;done))
    apply aK;(repeat first|refine tA rfl ?_|refine aU rfl ?_);(refine pA rfl (by first|(simp;done)|(simp;(first|omega|simp only[oZ] at *;omega))) (by simp;omega) ?_);(repeat first|(refine sA rfl ?_ ?_;first|exact tI|omega)|refine aU rfl ?_|apply Aa);refine⟨⟨⟨⟨a,row++[((a.idxOf y:Nat):Int)]⟩,j+1⟩,by dsimp only;omega,e,by simp[i],w,u,p,m⟩,by dsimp only;(omega),[0,1,2,4],?_⟩;simp[cX,zC,c,G,Gy]
   .rw [if_neg J]at e n
    (repeat first|refine tA rfl ?_|refine s2 rfl λ_ b=>?_|(refine Ai rfl ?_;refine gA rfl ?_;first|refine gQ (XG n rfl rfl rfl) rfl ?_)|refine aU rfl ?_|apply Aa)
    ((refine aC rfl ?_ ?_<;>rintro⟨⟩);all_goals try (simp at b;done))
    by_cases K:a.length=lim
    .rw[if_pos K]at e
     subst e;(repeat first|refine tA rfl ?_|refine s2 rfl λ_ b=>?_|refine aU rfl ?_|apply Aa)
     ((refine aC rfl ?_ ?_<;>rintro⟨⟩);all_goals try(exfalso;(simp only[oZ] at *;omega)))
     (repeat first|refine tA rfl ?_|refine aU rfl ?_|apply Aa);have t:none=A:=t;subst t;exact aR ⟨_,rfl,rfl⟩
    .rw[if_neg K]at e
     (repeat first|refine tA rfl ?_|refine s2 rfl λ_ b=>?_|refine aU rfl ?_|apply Aa)
     ((refine aC rfl ?_ ?_<;>rintro⟨⟩);all_goals try(exfalso;(simp only[oZ] at *;omega)))
     apply aK;(repeat first|refine tA rfl ?_|refine aU rfl ?_|apply Aa);(refine Ai rfl ?_;refine FB ?_ rfl (by rfl);refine UO rfl rfl rfl rfl n ?_);rw[<-UM];(repeat first|refine tA rfl ?_|refine aU rfl ?_|apply Aa);(refine pA rfl (by simp) (by simp;omega) ?_);(repeat first|refine tA rfl ?_|refine aU rfl ?_|apply Aa);(refine pA rfl (by first|(simp;done)|(simp;(first|omega|simp only[oZ] at *;omega))) (by simp;omega) ?_);(repeat first|(refine sA rfl ?_ ?_;first|exact tI|omega)|refine aU rfl ?_|apply Aa);refine⟨⟨⟨⟨a++[y],row++[(a.length:Int)]⟩,j+1⟩,by dsimp only;omega,e,by simp[i],by simp;omega,by simp;omega,λz Y=>by rcases f7.1 Y with h|h;exact p z h;simp at h;subst h;exact S,by rw[gc (by omega)];exact m⟩,by dsimp only;(omega),[4,1,2,5],?_⟩;simp[cX,zC,c,G,Gy]
  .obtain rfl:j=ls.length:=by omega
   rw[vC]at e;simp only[EI]at e;subst e;simp only at t;(repeat first|refine s2 rfl λ_ b=>?_|refine aU rfl ?_|apply Aa)
   ((refine aC rfl ?_ ?_<;>rintro⟨⟩);all_goals try(exfalso;(simp only[oZ] at *;omega)))
   apply aE;refine Al.HN [3] [1,2,3,11,12,13,14] rfl [(15,Aj row)] ⟨⟨_,rfl,.o (.full (by simp) rfl (by simp[d6]) (by simpa using i))⟩,trivial⟩ ?_;(try dsimp only[cA,cB]);(repeat first|refine tA rfl ?_|refine aU rfl ?_);(refine pA rfl (by simp) (by simp;omega) ?_);(repeat first|(refine sA rfl ?_ ?_;first|exact tI|omega)|refine aU rfl ?_|apply Aa);refine⟨⟨⟨a,rows++[row]⟩,by show Gn lim f ls (lim-(rows++[row]).length) a _=A;rw[uD,xi,show lim-(rows.length+1)=k by omega];exact t,by simp;omega,by dsimp only;omega,u,p⟩,by dsimp only;((simp only[oZ] at *;omega)),[0,1,4],?_⟩;simp[cX,zC,c,G,Gy]
 .have U:A=some (nd,rows):=by
   rw[<-t]
   cases lim-rows.length with
   | zero=>rfl
   | succ k=>simp only[Gn];rw[ms (by omega)]
  subst U;(repeat first|refine tA rfl ?_|refine s2 rfl λ_ b=>?_|refine aU rfl ?_|apply Aa)
  ((refine aC rfl ?_ ?_<;>rintro⟨⟩);all_goals try(exfalso;(simp only[oZ] at *;omega)))
  apply aE;refine Al.settle [(11,Aj nd),(13,Fe rows)] ⟨⟨_,rfl,.o (.full rfl (by simp[d6]) (by simp))⟩,⟨_,rfl,.o (.full rfl (by simp[d6]) (by simp))⟩,trivial⟩ ?_;(repeat first|refine tA rfl ?_|refine aU rfl ?_|apply Aa);(subst_vars;exact aR ⟨_,rfl,rfl⟩)
end Go.Am
namespace Go.Am
open Go
abbrev Pa:=Int->Int->List Int
def KX(c:Pa):List Int->Int->Int->Prop
 | [],q,r=>r=q
 | l::w,q,r=>∃y,y∈c q l/\KX c w y r
def Mh:List Pa->List Int->List Int->List Int->Prop
 | [],_,[],[]=>True
 | c::cs,w,q::st,r::st'=>KX c w q r/\Mh cs w st st'
 | _,_,_,_=>False
def VT:List Pa->Int->List Int->List Int->Prop
 | [],_,[],[]=>True
 | c::cs,l,q::st,r::st'=>r∈c q l/\VT cs l st st'
 | _,_,_,_=>False
theorem KS:∀ {cs:List Pa} {l:Int} {w st st':List Int},Mh cs (l::w) st st'↔∃st1,VT cs l st st1/\Mh cs w st1 st'
 | [],l,w,[],[]=>⟨λ_=>⟨[],trivial,trivial⟩,λ_=>trivial⟩
 | [],l,w,[],_::_=>⟨λh=>h.elim,λ⟨st1,a,b⟩=>by cases st1<;>simp[VT,Mh]at a b⟩
 | [],l,w,_::_,st'=>⟨λh=>by cases st'<;>exact h.elim,λ⟨st1,a,b⟩=>by cases st1<;>exact a.elim⟩
 | c::cs,l,w,[],st'=>⟨λh=>by cases st'<;>exact h.elim,λ⟨st1,a,b⟩=>by cases st1<;>exact a.elim⟩
 | c::cs,l,w,q::st,[]=>⟨λh=>h.elim,λ⟨st1,a,b⟩=>by cases st1<;>first|exact a.elim|exact b.elim⟩
 | c :: cs,l,w,q::st,r::st'=>by
  have d:=KS (cs:=cs) (l:=l) (w:=w) (st:=st) (st':=st');constructor
  .rintro⟨⟨y,e,a⟩,b⟩
   obtain⟨st1,g,f⟩:=d.1 b;exact⟨y::st1,⟨e,g⟩,a,f⟩
  .rintro⟨st1,a,b⟩
   cases st1 with
   | nil=>exact a.elim
   | cons y st1=>exact⟨⟨y,a.1,b.1⟩,d.2 ⟨st1,a.2,b.2⟩⟩
def Ee(n:Net):List Pa:=n.ps.map (λs q l=>BK s q l)++n.au.map (λa q l=>[Bn a q.toNat l])
def T7:List Int->List (List Int)->Prop
 | [],[]=>True
 | x::xs,c::cs=>x∈c/\T7 xs cs
 | _,_=>False
theorem bJ:∀ {zs:List Int} {cs:List (List Int)} {out:List Int} {v:Int},cs.length=zs.length->(v∈HF zs cs out↔∃o∈out,∃st1,T7 st1 cs/\v=DE zs st1 o)
 | [],[],out,v,_=>by
  constructor
  .intro h;exact⟨v,h,[],trivial,rfl⟩
  .rintro⟨o,a,st1,h,rfl⟩
   cases st1 with
   | nil=>exact a
   | cons x st1=>exact h.elim
 | [],_::_,_,_,h=>by simp at h
 | _::_,[],_,_,h=>by simp at h
 | z :: zs,c::cs,out,v,h=>by
  have g:=bJ (zs:=zs) (cs:=cs) (out:=out.flatMap λo=>c.map λx=>o*z+x) (v:=v) (by simpa using h)
  show v∈HF zs cs _↔_
  rw[g];constructor
  .rintro⟨o,a,st1,b,e⟩
   obtain⟨f,d,j⟩:=vl.1 a;obtain⟨x,i,rfl⟩:=d8.1 j;exact⟨f,d,x::st1,⟨i,b⟩,e⟩
  .rintro⟨o,a,st1,b,e⟩
   cases st1 with
   | nil=>exact b.elim
   | cons x st1=>exact⟨o*z+x,vl.2 ⟨o,a,d8.2 ⟨x,b.1,rfl⟩⟩,st1,b.2,e⟩
theorem IV:∀ {cs:List Pa} {l:Int} {st st1:List Int},cs.length=st.length->(T7 st1 (cs.zipWith (λc q=>c q l) st)↔VT cs l st st1)
 | [],l,[],st1,_=>by
  cases st1 with
  | nil=>exact⟨λ_=>trivial,λ_=>trivial⟩
  | cons x st1=>exact⟨λh=>h.elim,λh=>h.elim⟩
 | [],_,_::_,_,h=>by simp at h
 | _::_,_,[],_,h=>by simp at h
 | c::cs,l,q::st,st1,h=>by
  have a:=λst1=>IV (cs:=cs) (l:=l) (st:=st) (st1:=st1) (by simpa using h)
  cases st1 with
  | nil=>exact⟨λh=>h.elim,λh=>h.elim⟩
  | cons x st1=>exact⟨λh=>⟨h.1,(a st1).1 h.2⟩,λh=>⟨h.1,(a st1).2 h.2⟩⟩
theorem Um{n:Net}{st:List Int}(h:n.ps.length+n.au.length=st.length)(l:Int):Ls n st l=(Ee n).zipWith (λc q=>c q l) st:=by
 unfold Ls Ee;have e:st=st.take n.ps.length++st.drop n.ps.length:=(uE _ _).symm
 conv=>rhs;rw[e]
 rw[List.zipWith_append (by simp;omega),List.zipWith_map_left,List.zipWith_map_left];congr 1;exact GX _ _ _
theorem Uv:∀ {zs ss:List Int},Fits zs ss->∀n:Int,DE zs ss n=n*Av zs+DE zs ss 0
 | _,_,.nil,n=>by simp[DE,Av]
 | _,_,@Fits.cons z s zs ss c b a,n=>by
  show DE zs ss (n*z+s)=n*(z*Av zs)+DE zs ss (0*z+s)
  rw[Uv a (n*z+s),Uv a (0*z+s),v9,v9,vN,Int.zero_mul,Int.zero_mul,Int.zero_add,Int.add_assoc]
theorem Py:∀ {zs ss:List Int},Fits zs ss->∀m:Int,BA zs (DE zs ss m)=ss
 | _,_,.nil,m=>rfl
 | _,_,@Fits.cons z s zs ss d c a,m=>by
  show (DE zs ss (m*z+s) / Av zs%z)::BA zs (DE zs ss (m*z+s))=s::ss
  rw[Py a];congr 1;have hp:=a.pos;have b:=a.enc 0 (by omega);rw[Int.zero_add,xp]at b;rw[Uv a,Int.add_comm,Int.add_mul_ediv_right _ _ (by omega),Int.ediv_eq_zero_of_lt b.1 b.2,Int.zero_add,Int.add_comm,Int.add_mul_emod_self_right,Int.emod_eq_of_lt d c]
theorem Mk:∀ {zs:List Int} {cs:List (List Int)} {st:List Int},Gm zs cs->T7 st cs->Fits zs st
 | _,_,[],.nil,_=>.nil
 | _,_,_::_,.nil,h=>h.elim
 | _,_,[],.cons _ _ _,h=>h.elim
 | _,_,x::st,.cons a c b,h=>.cons (a x h.1).1 (a x h.1).2 (Mk b h.2)
theorem Nt:∀ {cs:List Pa} {st st':List Int},cs.length=st.length->(Mh cs [] st st'↔st'=st)
 | [],[],[],_=>⟨λ_=>rfl,λ_=>trivial⟩
 | [],[],_::_,_=>⟨λh=>h.elim,λh=>by cases h⟩
 | [],_::_,_,h=>by simp at h
 | _::_,[],_,h=>by simp at h
 | c::cs,q::st,[],h=>⟨λh=>h.elim,λh=>by cases h⟩
 | c :: cs,q::st,r::st',h=>by
  have d:=Nt (cs:=cs) (st:=st) (st':=st') (by simpa using h);constructor
  .rintro⟨a,b⟩
   have a:r=q:=a;rw[d.1 b,a]
  .intro h
   injection h with a b
   exact⟨a,d.2 b⟩
theorem IK{n:Net}(q:Eb n):∀ {w:List Int} {st:List Int} {x:Int},Fits (Ag n) st->(∀l∈w,0<=l/\l<6)->(reach (Ev n) w (DE (Ag n) st 0) x↔∃st',Mh (Ee n) w st st'/\Fits (Ag n) st'/\x=DE (Ag n) st' 0)
 | [],st,x,e,_=>by
  have j:=e.len
  have f:(Ee n).length=st.length:=by simp[Ee,Ag]at j |-;omega
  constructor
  .intro h
   exact⟨st,(Nt f).2 rfl,e,h.symm⟩
  .rintro⟨st',a,_,b⟩
   rw[(Nt f).1 a]at b;exact b.symm
 | l :: w,st,x,e,k=>by
  have j:=e.len
  have f:(Ee n).length=st.length:=by simp[Ee,Ag]at j |-;omega
  have g:=k l (by simp);have d:=I0 q e g.1 g.2
  have c:n.ps.length+n.au.length=st.length:=by simp[Ag]at j;omega
  have v:(Ev n).succ (DE (Ag n) st 0) l=HF (Ag n) (Ls n st l) [0]:=by
   show FW n (Ag n) (BA (Ag n) (DE (Ag n) st 0)) l=_
   rw[Py e];rfl
  have key:∀y,y∈(Ev n).succ (DE (Ag n) st 0) l↔∃st1,VT (Ee n) l st st1/\Fits (Ag n) st1/\y=DE (Ag n) st1 0:=λy=>by
   rw[v,bJ d.len.symm];constructor
   .rintro⟨o,p,st1,a,b⟩
    have p:o=0:=by simpa using p
    subst p;exact⟨st1,(IV f).1 (by rw[<-Um c];exact a),Mk d a,b⟩
   .rintro⟨st1,a,_,b⟩
    exact⟨0,by simp,st1,by rw[Um c];exact(IV f).2 a,b⟩
  constructor
  .rintro⟨y,u,h⟩
   obtain⟨st1,a,b,rfl⟩:=(key y).1 u;obtain⟨st',t,s⟩:=(IK q b λm r=>k m (by simp[r])).1 h;exact⟨st',KS.2 ⟨st1,a,t⟩,s⟩
  .rintro⟨st',t,s⟩
   obtain⟨st1,a,z⟩:=KS.1 t;have i:Fits (Ag n) st1:=Mk d (by rw[Um c];exact(IV f).2 a);exact⟨_,(key _).2 ⟨st1,a,i,rfl⟩,(IK q i λm r=>k m (by simp[r])).2 ⟨st',z,s⟩⟩
theorem OA{n:Net}(g:Eb n):∀ {w:List Int} {st st':List Int},Fits (Ag n) st->(∀l∈w,0<=l/\l<6)->Mh (Ee n) w st st'->Fits (Ag n) st'
 | [],st,st',b,_,h=>by
  have c:=b.len
  have e:(Ee n).length=st.length:=by simp[Ee,Ag]at c |-;omega
  rw[(Nt e).1 h];exact b
 | l::w,st,st',b,f,h=>by
  have c:=b.len
  have e:(Ee n).length=st.length:=by simp[Ee,Ag]at c |-;omega
  have a:=f l (by simp)
  have d:n.ps.length+n.au.length=st.length:=by simp[Ag]at c;omega
  obtain⟨st1,k,j⟩:=KS.1 h;exact OA g (Mk (I0 g b a.1 a.2) (by rw[Um d];exact(IV e).2 k)) (λm i=>f m (by simp[i])) j
theorem Hm{a:AI}:∀ {w:List Int} {q r:Int},KX (λq l=>[Bn a q.toNat l]) w q r↔r=Dk (fA a) q w
 | [],q,r=>Iff.rfl
 | l::w,q,r=>by
  have b:=Hm (a:=a) (w:=w) (q:=fA a q l) (r:=r)
  show (∃y,y∈[Bn a q.toNat l]/\KX _ w y r)↔_
  simp only[wV,exists_eq_left];exact b
abbrev Ot(s:Sys):Pa:=λq l=>BK s q l
abbrev sf(a:AI):Pa:=λq l=>[Bn a q.toNat l]
def FK(s:Sys)(w:List Int):Prop:=∃q,KX (Ot s) w 0 q
def Ey(a:AI)(w:List Int):Bool:=Fw a (Dk (fA a) 0 w)
theorem nZ{s:Sys}{a p:AI}(h:C1 s a p=true){w:List Int}(v:over (Ev (Ef s a p)) w):Sy (Ev (Ef s a p)) w↔FK s w/\Ey a w=true/\Ey p w=false:=by
 obtain⟨m,hk,i⟩:=PH h
 have d:∀l∈w,0<=l/\l<6:=λl z=>by have:=Af (v l z);omega
 have t:∀ {q k j:Int},Fits (Ag (Ef s a p)) [q,k,j]->(Ev (Ef s a p)).goal (DE (Ag (Ef s a p)) [q,k,j] 0)=(Fw a k && !Fw p j):=λi=>by
  unfold Ev;dsimp only;rw[Py i];rfl
 unfold Sy;constructor
 .rintro⟨x,u,b⟩
  obtain⟨st',c,n,rfl⟩:=(IK m i d).1 u
  match st',c,n,b with
  | [q,k,j],c,n,b=>
   rw[t n]at b;obtain⟨o,f,e,_⟩:=c;have f:=Hm.1 f;have e:=Hm.1 e;subst f e;refine⟨⟨q,o⟩,?_,?_⟩
   .unfold Ey;revert b;cases Fw a (Dk (fA a) 0 w)<;>simp
   .unfold Ey;revert b;cases Fw p (Dk (fA p) 0 w)<;>simp
  | [],c,_,_=>exact c.elim
  | [_],c,_,_=>exact c.2.elim
  | [_,_],c,_,_=>exact c.2.2.elim
  | _::_::_::_::_,c,_,_=>exact c.2.2.2.elim
 .rintro⟨⟨q,o⟩,f,e⟩
  have r:Mh (Ee (Ef s a p)) w [0,0,0] [q,Dk (fA a) 0 w,Dk (fA p) 0 w]:=⟨o,Hm.2 rfl,Hm.2 rfl,trivial⟩
  have y:=λx=>IK (w:=w) (x:=x) m i d;have g:Fits (Ag (Ef s a p)) [q,Dk (fA a) 0 w,Dk (fA p) 0 w]:=OA m i d r;refine⟨_,(y _).2 ⟨_,r,g,rfl⟩,?_⟩;rw[t g];unfold Ey at f e;rw[f,e];rfl
theorem Kt{w:List Int}:∀ {cs ds:List Pa} {st st2 x:List Int},cs.length=st.length->(Mh (cs++ds) w (st++st2) x↔∃y z,x=y++z/\Mh cs w st y/\Mh ds w st2 z)
 | [],ds,[],st2,x,_=>by
  constructor
  .intro h;exact⟨[],x,rfl,trivial,h⟩
  .rintro⟨y,z,rfl,b,d⟩
   cases y with
   | nil=>exact d
   | cons a y=>exact b.elim
 | [],_,_::_,_,_,h=>by simp at h
 | _::_,_,[],_,_,h=>by simp at h
 | c :: cs,ds,q::st,st2,x,h=>by
  have f:=λx=>Kt (w:=w) (cs:=cs) (ds:=ds) (st:=st) (st2:=st2) (x:=x) (by simpa using h);constructor
  .intro e
   cases x with
   | nil=>exact e.elim
   | cons r x=>
    obtain⟨y,z,b,d,g⟩:=(f x).1 e.2;exact⟨r::y,z,by rw[b];rfl,⟨e.1,d⟩,g⟩
  .rintro⟨y,z,rfl,b,d⟩
   cases y with
   | nil=>exact b.elim
   | cons r y=>exact⟨b.1,(f _).2 ⟨y,z,rfl,b.2,d⟩⟩
theorem Sd{w:List Int}:∀ {l:List Sys},(∃y,Mh (l.map Ot) w (List.replicate l.length 0) y)↔∀s∈l,FK s w
 | []=>Iff.intro (λ_ s c=>absurd c wK) (λ_=>⟨[],trivial⟩)
 | s :: l=>by
  have a:=Sd (w:=w) (l:=l);constructor
  .rintro⟨y,h⟩ t ht
   cases y with
   | nil=>exact h.elim
   | cons r y=>
    rcases lc.1 ht with rfl|ht
    .exact⟨r,h.1⟩
    .exact a.1 ⟨y,h.2⟩ t ht
  .intro h
   obtain⟨r,d⟩:=h s (by simp);obtain⟨y,b⟩:=a.2 λt ht=>h t (by simp[ht]);exact⟨r::y,d,b⟩
theorem Sc{w:List Int}:∀ {cs:List Pa} {st st':List Int},Mh cs w st st'->st'.length=cs.length
 | [],[],[],_=>rfl
 | [],[],_::_,h=>h.elim
 | [],_::_,[],h=>h.elim
 | [],_::_,_::_,h=>h.elim
 | _::_,[],[],h=>h.elim
 | _::_,[],_::_,h=>h.elim
 | _::_,_::_,[],h=>h.elim
 | c::cs,q::st,r::st',h=>by simp[Sc h.2]
theorem nY{l:List Sys}{p:AI}(h:(AZ l && AJ p)=true){w:List Int}(G:over (Ev (C0 l p)) w):Sy (Ev (C0 l p)) w↔(∀s∈l,FK s w)/\Ey p w=false:=by
 obtain⟨v,hk,n⟩:=PG h
 have f:∀m∈w,0<=m/\m<6:=λm H=>by have:=Af (G m H);omega
 have A:∀ {y:List Int} {r:Int},y.length=l.length->Fits (Ag (C0 l p)) (y++[r])->(Ev (C0 l p)).goal (DE (Ag (C0 l p)) (y++[r]) 0) = !Fw p r:=λ{y r} k n=>by
  unfold Ev;dsimp only;rw[Py n]
  show (!eu (C0 l p) (y++[r]) 0)=_
  unfold eu Fw
  have e:(y++[r]).getD ((C0 l p).ps.length+0) 0=r:=Gg (by
   show (y++[r])[l.length+0]?=some r
   rw[wF,<-k];simp)
  rw[e];rfl
 have g:(C0 l p).st=List.replicate l.length 0++[0]:=by
  show List.replicate (l.length+1) 0=_
  rw[List.replicate_succ']
 have j:Ee (C0 l p)=l.map Ot++[sf p]:=rfl
 have b:(l.map Ot).length=(List.replicate l.length (0:Int)).length:=by simp
 have u:=λx=>IK (w:=w) (x:=x) v n f;unfold Sy;constructor
 .rintro⟨x,F,a⟩
  obtain⟨st',o,d,rfl⟩:=(u x).1 F;rw[g,j]at o;obtain⟨y,z,rfl,B,c⟩:=(Kt b).1 o
  have q:y.length=l.length:=by rw[Sc B];simp
  match z,c,d,a with
  | [r],c,d,a=>
   rw[A q d]at a;have I:=Hm.1 c.1;subst I;exact⟨Sd.1 ⟨y,B⟩,by unfold Ey;revert a;cases Fw p (Dk (fA p) 0 w)<;>simp⟩
  | [],c,_,_=>exact c.elim
  | _::_::_,c,_,_=>exact c.2.elim
 .rintro⟨o,d⟩
  obtain⟨y,k⟩:=Sd.2 o
  have t:Mh (Ee (C0 l p)) w (C0 l p).st (y++[Dk (fA p) 0 w]):=by
   rw[g,j];exact(Kt b).2 ⟨y,_,rfl,k,Hm.2 rfl,trivial⟩
  have i:=OA v n f t;refine⟨_,(u _).2 ⟨_,t,i,rfl⟩,?_⟩;rw[A (by rw[Sc k];simp) i];unfold Ey at d;rw[d];rfl
theorem Gu{c:Pa}:∀ {u w:List Int} {q r:Int},KX c (u++w) q r↔∃y,KX c u q y/\KX c w y r
 | [],w,q,r=>⟨λh=>⟨q,rfl,h⟩,λ⟨y,a,b⟩=>by have a:y=q:=a;subst a;exact b⟩
 | l :: u,w,q,r=>by
  constructor
  .rintro⟨y,d,h⟩
   obtain⟨z,a,b⟩:=Gu.1 h;exact⟨z,⟨y,d,a⟩,b⟩
  .rintro⟨z,⟨y,d,a⟩,b⟩
   exact⟨y,d,Gu.2 ⟨z,a,b⟩⟩
theorem Pw{s:Sys}(b:AP s=true):∀ {w:List Int} {q r:Int},0<=q/\q<s.st->KX (Ot s) w q r->0<=r/\r<s.st
 | [],q,r,a,h=>by have h:r=q:=h;subst h;exact a
 | l::w,q,r,a,⟨y,c,h⟩=>Pw b (Kq b a.1 a.2 c) h
theorem Vu{a:AI}(ha:AJ a=true):∀ {w:List Int} {q:Int},(∀l∈w,0<=l/\l<6)->0<=q/\q<a.nx.length->0<=Dk (fA a) q w/\Dk (fA a) q w<a.nx.length
 | [],q,_,c=>c
 | l::w,q,b,c=>by
  have d:=b l (by simp);exact Vu ha (w:=w) (λm e=>b m (by simp[e])) (Dz ha (q:=q.toNat) (by omega) d.1 d.2)
theorem eU{t:BX}{F:PS}{u:W}{c:UInt8}:GO t F (u++[c])=Dc t ((c.toNat:Int)-97) (GO t F u):=by rw[Nb];rfl
theorem KL{s:Sys}{q l r:Int}(h:AS s.al l.toNat=true):r∈BK s q l↔∃e∈s.es,e.f=q/\e.l=l/\e.t=r:=by
 unfold BK;rw[if_pos h];simp only[d8,t8,d4,decide_eq_true_eq];constructor
 .rintro⟨e,⟨d,c,b⟩,a⟩;exact⟨e,d,c,b,a⟩
 .rintro⟨e,d,c,b,a⟩;exact⟨e,⟨d,c,b⟩,a⟩
section
variable {t:BX}(ht:AY t=true)
include ht
theorem cu{F0:PS}(A:C5 t F0){p j:Nat}:Sh t F0 p j↔∃(a b:Nat) (u:List Int),(F0 a).testBit b=true/\(∀l∈u,l∈CB t)/\KX (Ot t.s) u b j/\(p:Int)=Dk (fA t.q) a u:=by
 constructor
 .intro h
  induction h with
  | @base p j hb=>exact⟨p,j,[],hb,by simp,rfl,rfl⟩
  | @step p j e i o n J r=>
   obtain⟨a,b,u,z,k,c,d⟩:=r;have I:=IU ht o;have hL:=DV ht n;have g:=i.lt ht A;have H:=Dz (CE ht) g.1 hL.1 hL.2.1;refine⟨a,b,u++[e.l],z,λl x=>?_,?_,?_⟩
   .rcases f7.1 x with h|h
    .exact k l h
    .simp at h;subst h;exact n
   .refine Gu.2 ⟨j,c,(e.t.toNat:Int),?_,rfl⟩
    exact(KL hL.2.2).2 ⟨e,o,by omega,rfl,by omega⟩
   .rw[J8,<-d]
    show ((Bn t.q p e.l).toNat:Int)=Bn t.q ((p:Int).toNat) e.l
    rw[f6];omega
 .rintro⟨a,b,u,z,k,c,d⟩
  have key:∀(u:List Int) (a b:Nat),Sh t F0 a b->(∀l∈u,l∈CB t)->∀ {p j:Nat},KX (Ot t.s) u b j->(p:Int)=Dk (fA t.q) a u->Sh t F0 p j:=λu=>by
   induction u with
   | nil=>
    intro a b i _ p j c d;have c:(j:Int)=b:=c;have d:(p:Int)=a:=d
    obtain rfl:j=b:=by omega
    obtain rfl:p=a:=by omega
    exact i
   | cons l u r=>
    intro a b i k p j c d;have n:=k l (by simp);have hL:=DV ht n;have g:=i.lt ht A;have H:=Dz (CE ht) g.1 hL.1 hL.2.1;obtain⟨y,F,c⟩:=c;obtain⟨e,o,L,B,K⟩:=(KL hL.2.2).1 F;have I:=IU ht o;have w:=Sh.step i o (by rw[B];exact n) (show e.f.toNat=b by omega)
    have v:((e.t.toNat:Nat):Int)=y:=by omega
    refine r _ _ w (λm G=>k m (by simp[G])) (by rw[v];exact c) ?_;rw[d,B]
    show Dk (fA t.q) (Bn t.q ((a:Int).toNat) l) u=_
    rw[f6];congr 1;omega
  exact key u a b (.base z) k c d
theorem iC{F:PS}(o:C5 t F){l:Int}(v:0<=l/\l<6){p' j:Nat}:(YK t l F p').testBit j=true↔∃p a:Nat,(F p).testBit a=true/\Bn t.q p l=(p':Int)/\(j:Int)∈BK t.s a l:=by
 rw[MJ]
 have g:∀ {p a:Nat},(F p).testBit a=true->p<t.q.nx.length:=λ{p a} h=>by
  rcases uo p t.q.nx.length with b|b
  .exact b
  .rw[o.z p b]at h;simp at h
 unfold Ds;by_cases hb:AS t.s.al l.toNat=true
 .simp only [hb,if_true]
  constructor
  .rintro⟨p,b,d,c⟩
   obtain⟨e,i,⟨n,k⟩,u⟩:=DW.1 c;have r:=IU ht i;exact⟨p,e.f.toNat,k,d,(KL hb).2 ⟨e,i,by omega,n,by omega⟩⟩
  .rintro⟨p,a,b,d,c⟩
   obtain⟨e,i,n,k,u⟩:=(KL hb).1 c;have r:=IU ht i;refine⟨p,g b,d,DW.2 ⟨e,i,⟨k,?_⟩,by omega⟩⟩;rw[show e.f.toNat=a by omega];exact b
 .simp only [hb,if_false,ww]
  have m:∀a:Nat,BK t.s a l=[(a:Int)]:=λa=>by unfold BK;rw[if_neg hb]
  constructor
  .rintro⟨p,b,d,c⟩
   exact⟨p,j,c,d,by rw[m];simp⟩
  .rintro⟨p,a,b,d,c⟩
   rw[m]at c
   obtain rfl:j=a:=by simp at c;omega
   exact⟨p,g b,d,b⟩
end
def BS(al:Int)(u:List Int):List Int:=u.filter λl=>AS al l.toNat
def cT(t:BX)(u:List Int):Prop:=∀l∈u,l∈CB t\/l∈Ab t.al
theorem kZ{t:BX}{l:Int}(h:l∈CB t):AS t.al l.toNat=false:=by
 unfold CB at h;have:=(t8.1 h).2
 simpa using this
theorem VH{t:BX}{u:List Int}(d:cT t u)(h:BS t.al u=[]):∀l∈u,l∈CB t:=λl b=>by
 rcases d l b with a|a
 .exact a
 .exfalso
  have c:l∈BS t.al u:=t8.2 ⟨b,(Af a).2.2⟩;rw[h]at c;cases c
theorem UB{t:BX}{u:List Int}(h:∀l∈u,l∈CB t):BS t.al u=[]:=xb.2 λl a=>by rw[kZ (h l a)];simp
theorem bg{t:BX}{F:PS}(f:C5 t F):E9 t F=true↔∃p j:Nat,(F p).testBit j=true/\Fw t.q p=false:=by
 unfold E9;rw[vR];constructor
 .rintro⟨p,hp,h⟩
  simp only[d4,decide_eq_true_eq,vK]at h
  have:∃j,(F p).testBit j=true:=Classical.byContradiction λd=>h.1 (Iu λj=>by
   cases hb:(F p).testBit j
   .rfl
   .exact absurd ⟨j,hb⟩ d)
  obtain⟨j,c⟩:=this;exact⟨p,j,c,by unfold Fw;rw[f6];exact h.2⟩
 .rintro⟨p,j,a,b⟩
  have hp:p<t.q.nx.length:=by
   rcases uo p t.q.nx.length with h|h
   .exact h
   .rw[f.z p h]at a;simp at a
  refine⟨p,mt.2 hp,?_⟩;unfold Fw at b;rw[f6]at b;simp only[d4,decide_eq_true_eq,vK];exact⟨λe=>by rw[e]at a;simp at a,b⟩
theorem TU{t:BX}:∀(w:List Int) {F:PS},FF t F (Dt w)=false↔∃k,k<=w.length/\E9 t (GO t F (Dt (w.take k)))=true
 | [],F=>by
  show (!E9 t F)=false↔_
  constructor
  .intro h
   exact⟨0,by simp,by show E9 t F=true;simpa using h⟩
  .rintro⟨k,_,h⟩
   have h:E9 t F=true:=by simpa[Dt,GO]using h
   rw[h];rfl
 | l :: w,F=>by
  have c:=λF=>TU (t:=t) w (F:=F);have e:FF t F (Dt (l::w))=(!E9 t F && FF t (Dc t (((lb l).toNat:Int)-97) F) (Dt w)):=rfl;rw[e];constructor
  .intro h
   cases hb:E9 t F
   .rw[hb]at h
    obtain⟨k,b,a⟩:=(c _).1 h;exact⟨k+1,by simpa using b,a⟩
   .exact⟨0,by simp,hb⟩
  .rintro⟨k,b,a⟩
   cases k with
   | zero=>
    have a:E9 t F=true:=a;rw[a];rfl
   | succ k=>
    have:=(c (Dc t (((lb l).toNat:Int)-97) F)).2 ⟨k,by simpa using b,a⟩;rw[this,Bool.and_false]
theorem mj{α:Type}{P:List α->Prop}(c:P [])(b:∀w l,P w->P (w++[l]))(w:List α):P w:=by
 rw[<-List.reverse_reverse w]
 induction w.reverse with
 | nil=>exact c
 | cons l u a=>rw[List.reverse_cons];exact b _ l a
section
variable {t:BX}(ht:AY t=true)
include ht
theorem gp{F0:PS}(a:C5 t F0){p j:Nat}:(Un t F0 p).testBit j=true↔∃(b c:Nat) (u:List Int),(F0 b).testBit c=true/\(∀l∈u,l∈CB t)/\KX (Ot t.s) u c j/\(p:Int)=Dk (fA t.q) b u:=by
 rw[Pv,cu ht a];constructor
 .exact λh=>h.2
 .intro h
  exact⟨((cu ht a).2 h).lt ht a |>.2,h⟩
theorem PW:∀(w:List Int) {F:PS},C5 t F->(∀l∈w,0<=l/\l<6)->C5 t (GO t F (Dt w))
 | [],F,h,_=>h
 | l :: w,F,h,b=>by
  have a:=b l (by simp)
  have e:GO t F (Dt (l::w))=GO t (Dc t l F) (Dt w):=by
   show GO t (Dc t (((lb l).toNat:Int)-97) F) (Dt w)=_
   rw[FU a.1 a.2]
  rw[e];exact PW w (MO ht a h) λm c=>b m (by simp[c])
theorem cH:∀(w:List Int),(∀l∈w,l∈Ab t.al)->∀ {p j:Nat},((GO t (BF t) (Dt w) p).testBit j=true↔∃u,cT t u/\BS t.al u=w/\KX (Ot t.s) u 0 j/\(p:Int)=Dk (fA t.q) 0 u):=λw=>by
 refine mj (P:=λw=>(∀l∈w,l∈Ab t.al)->∀ {p j:Nat},((GO t (BF t) (Dt w) p).testBit j=true↔∃u,cT t u/\BS t.al u=w/\KX (Ot t.s) u 0 j/\(p:Int)=Dk (fA t.q) 0 u)) ?_ ?_ w
 .intro _ p j
  show (Un t Jt p).testBit j=true↔_
  rw[gp ht (Ny ht)]
  have S:∀ {y z:Nat},(Jt y).testBit z=true↔y=0/\z=0:=λ{y z} => by
   unfold Jt;split
   .rename_i h
    subst h;have e:(1:Nat)=2 ^ 0:=rfl;rw[e,vA];simp[eq_comm]
   .rename_i h;simp[h]
  constructor
  .rintro⟨y,z,u,b,d,x,v⟩
   obtain⟨rfl,rfl⟩:=S.1 b;exact⟨u,λl hl=>.inl (d l hl),UB d,x,v⟩
  .rintro⟨u,b,d,x,v⟩
   exact⟨0,0,u,S.2 ⟨rfl,rfl⟩,VH b d,x,v⟩
 .intro w l A H p j
  have o:=H l (by simp);have c:=Af o;have A:=λp j=>A (λm a=>H m (by simp[a])) (p:=p) (j:=j)
  have g:=PW ht w (F:=BF t) (Hc ht) λm a=>by have:=Af (H m (by simp[a]));omega
  have e:GO t (BF t) (Dt (w++[l]))=Un t (YK t l (GO t (BF t) (Dt w))):=by
   have N:Dt (w++[l])=Dt w++[lb l]:=by simp[Dt,lb]
   rw[N,eU,FU c.1 (by omega)];rfl
  rw[e,gp ht (LK ht ⟨c.1,by omega⟩ g)];constructor
  .rintro⟨p1,Z,h,b,d,x,v⟩
   obtain⟨Q,R,h5,h6,h7⟩:=(iC ht g ⟨c.1,by omega⟩).1 b;obtain⟨u,i,G,M,L⟩:=(A Q R).1 h5;refine⟨u++l::h,λm a=>?_,?_,Gu.2 ⟨R,M,Z,h7,x⟩,?_⟩
   .rcases f7.1 a with a|a
    .exact i m a
    .rcases lc.1 a with rfl|a
     .exact .inr o
     .exact .inl (d m a)
   .unfold BS at *
    rw[vh,G,vi (by simpa using c.2.2)];have:=UB d;unfold BS at this;rw[this]
   .rw[J8,<-L,v]
    show _=Dk (fA t.q) (Bn t.q ((Q:Int).toNat) l) h
    rw[f6,h6]
  .rintro⟨u,i,G,M,L⟩
   unfold BS at G;obtain⟨f,u2,rfl,N,e2⟩:=List.filter_eq_append_iff.1 G;obtain⟨b,d,rfl,e3,e4,e5⟩:=List.filter_eq_cons_iff.1 e2;have r:∀m∈b,m∈CB t:=VH (λm a=>i m (by simp[a])) (by unfold BS;exact xb.2 e3);have K:∀m∈d,m∈CB t:=VH (λm a=>i m (by simp[a])) e5;obtain⟨Y,V,c2⟩:=Gu.1 M;obtain⟨n,U,k,T,c5⟩:=Gu.1 c2
   have B:AP t.s=true:=by unfold AY at ht;simp only[d4]at ht;exact ht.1
   have hst:=AL B;have I:=CE ht;have hqn:=AB I
   have J:∀m∈f++(b++l::d),0<=m/\m<6:=λm a=>by
    rcases i m a with h|h
    .have:=DV ht h;omega
    .have:=Af h;omega
   have b1:=Pw B ⟨by omega,by omega⟩ V;have X:=Pw B b1 U;have b3:=Kq B X.1 X.2 T;have a2:=Vu I (w:=f++b) (q:=0) (λm a=>J m (by rcases f7.1 a with h|h<;>simp[h])) ⟨by omega,by omega⟩;have a3:=Dz I (q:=(Dk (fA t.q) 0 (f++b)).toNat) (by omega) c.1 (show l<6 by omega);refine⟨(Bn t.q (Dk (fA t.q) 0 (f++b)).toNat l).toNat,k.toNat,d,(iC ht g ⟨c.1,by omega⟩).2 ⟨(Dk (fA t.q) 0 (f++b)).toNat,n.toNat,(A _ _).2 ⟨f++b,λm a=>?_,?_,?_,by omega⟩,by omega,?_⟩,K,?_,?_⟩
   .rcases f7.1 a with a|a
    .exact i m (by simp[a])
    .exact .inl (r m a)
   .have:=UB r
    unfold BS at *;rw[vh,N,this,uv]
   .rw[show ((n.toNat:Nat):Int)=n by omega]
    exact Gu.2 ⟨Y,V,U⟩
   .rw[show ((n.toNat:Nat):Int)=n by omega,show ((k.toNat:Nat):Int)=k by omega];exact T
   .rw[show ((k.toNat:Nat):Int)=k by omega];exact c5
   .rw[show (((Bn t.q (Dk (fA t.q) 0 (f++b)).toNat l).toNat:Nat):Int)=Bn t.q (Dk (fA t.q) 0 (f++b)).toNat l by omega,L,<-vY,J8];rfl
theorem Sa{w:List Int}(v:∀l∈w,l∈Ab t.al):LS t (Dt w)=false↔∃u,cT t u/\BS t.al u <+: w/\FK t.s u/\Ey t.q u=false:=by
 unfold LS;rw[TU];constructor
 .rintro⟨k,I,H⟩
  have d:∀l∈w.take k,l∈Ab t.al:=λl o=>v l (t7 o)
  have c:=PW ht (w.take k) (Hc ht) λm f=>by have:=Af (d m f);omega
  obtain⟨p,j,G,F⟩:=(bg c).1 H;obtain⟨u,n,g,i,r⟩:=(cH ht _ d).1 G;exact⟨u,n,by rw[g];exact List.take_prefix _ _,⟨_,i⟩,by unfold Ey;rw[<-r];exact F⟩
 .rintro⟨u,n,g,⟨q,i⟩,r⟩
  refine⟨(BS t.al u).length,g.length_le,?_⟩;have e:w.take (BS t.al u).length=BS t.al u:=(List.prefix_iff_eq_take.1 g).symm;rw[e];have x:∀l∈BS t.al u,l∈Ab t.al:=λl o=>v l (g.subset o)
  have y:AP t.s=true:=by unfold AY at ht;simp only[d4]at ht;exact ht.1
  have A:=AL y;have z:=CE ht;have B:=AB z
  have c:=PW ht (BS t.al u) (Hc ht) λm f=>by have:=Af (x m f);omega
  have b:=Pw y (⟨by omega,by omega⟩:(0:Int)<=0/\(0:Int)<t.s.st) i
  have a:=Vu z (w:=u) (q:=0) (λm f=>by
   rcases n m f with h|h
   .have:=DV ht h;omega
   .have:=Af h;omega) ⟨by omega,by omega⟩
  refine(bg c).2 ⟨(Dk (fA t.q) 0 u).toNat,q.toNat,(cH ht _ x).2 ⟨u,n,rfl,?_,by omega⟩,?_⟩
  .rw[show ((q.toNat:Nat):Int)=q by omega];exact i
  .rw[show (((Dk (fA t.q) 0 u).toNat:Nat):Int)=Dk (fA t.q) 0 u by omega];exact r
end
theorem JN{s:Sys}:∀ {u:List Int} {q r:Int},KX (Ot s) u q r↔KX (Ot s) (BS s.al u) q r
 | [],q,r=>Iff.rfl
 | l :: u,q,r=>by
  have c:=λq=>JN (s:=s) (u:=u) (q:=q) (r:=r);by_cases hb:AS s.al l.toNat=true
  .have e:BS s.al (l::u)=l::BS s.al u:=vi hb
   rw[e];exact⟨λ⟨y,a,b⟩=>⟨y,a,(c y).1 b⟩,λ⟨y,a,b⟩=>⟨y,a,(c y).2 b⟩⟩
  .have e:BS s.al (l::u)=BS s.al u:=wq hb
   have d:Ot s q l=[q]:=by show BK s q l=_;unfold BK;rw[if_neg hb]
   rw[e,<-c q];constructor
   .rintro⟨y,a,b⟩
    rw[d]at a
    obtain rfl:y=q:=by simpa using a
    exact b
   .intro h
    exact⟨q,by rw[d];simp,h⟩
theorem Ni{s:Sys}{u v:List Int}(h:BS s.al u=BS s.al v):FK s u↔FK s v:=by
 unfold FK;constructor
 .rintro⟨q,a⟩;exact⟨q,JN.2 (h▸JN.1 a)⟩
 .rintro⟨q,a⟩;exact⟨q,JN.2 (h.symm▸JN.1 a)⟩
theorem Rz{a:AI}(ha:AJ a=true):∀ {u:List Int} {q:Int},(∀l∈u,0<=l/\l<6)->0<=q/\q<a.nx.length->Dk (fA a) q u=Dk (fA a) q (BS a.al u)
 | [],q,_,_=>rfl
 | l :: u,q,c,f=>by
  have d:=c l (by simp);have h:=Dz ha (q:=q.toNat) (by omega) d.1 d.2;have b:=λq=>Rz ha (u:=u) (q:=q) λm g=>c m (by simp[g]);by_cases hb:AS a.al l.toNat=true
  .have e:BS a.al (l::u)=l::BS a.al u:=vi hb
   rw[e];exact b _ h
  .have e:BS a.al (l::u)=BS a.al u:=wq hb
   have i:Bn a q.toNat l=q:=by unfold Bn;rw[if_neg hb];omega
   rw[e]
   show Dk (fA a) (Bn a q.toNat l) u=_
   rw[i];exact b _ f
def H0(u:List Int):Prop:=∀l∈u,0<=l/\l<6
theorem Mi{a:AI}(ha:AJ a=true){u v:List Int}(c:H0 u)(b:H0 v)(h:BS a.al u=BS a.al v):Ey a u=Ey a v:=by
 have d:=AB ha;unfold Ey;rw[Rz ha c ⟨by omega,by omega⟩,Rz ha b ⟨by omega,by omega⟩,h]
theorem VI{al:Int}{u:List Int}(a:H0 u):H0 (BS al u):=λl b=>a l (t8.1 b).1
theorem VJ{al:Int}{u:List Int}(a:H0 u):∀l∈BS al u,l∈Ab al:=λl b=>by
 obtain⟨d,c⟩:=t8.1 b;have:=a l d
 obtain⟨n,rfl⟩:∃n:Nat,l=n:=⟨l.toNat,by omega⟩
 exact El.2 ⟨by omega,c⟩
theorem Hw{al:Int}{u:List Int}(a:∀l∈u,l∈Ab al):H0 u:=λl b=>by have:=Af (a l b);omega
theorem Ns{al bl:Int}{u:List Int}(h:∀l∈u,AS al l.toNat=true->AS bl l.toNat=true):BS al (BS bl u)=BS al u:=by
 unfold BS;rw[xr];refine wD λl a=>?_;cases ha:AS al l.toNat
 .rfl
 .rw[h l a ha];rfl
theorem lU{al:Int}:∀ {v w:List Int},w <+: BS al v->∃v',v' <+: v/\BS al v'=w:=λ{v w} ⟨z,h⟩=>by
 obtain⟨a,c,rfl,b,_⟩:=List.filter_eq_append_iff.1 h.symm;exact⟨a,wx _ _,b⟩
theorem jX{s:Sys}{u v:List Int}(h:u <+: v)(a:FK s v):FK s u:=by
 obtain⟨z,rfl⟩:=h;obtain⟨q,b⟩:=a;obtain⟨y,c,_⟩:=Gu.1 b;exact⟨y,c⟩
theorem merge{A B:Int->Bool}:∀(u:List Int) {v:List Int},(∀l∈u,A l=true)->(∀l∈v,B l=true)->u.filter B=v.filter A->∃x:List Int,x.filter A=u/\x.filter B=v/\∀l∈x,l∈u\/l∈v
 | [],v,_,b,h=>⟨v,h.symm,List.filter_eq_self.2 b,λl n=>.inr n⟩
 | l :: u, v,g,b,h=>by
  have i:=g l (by simp);by_cases c:B l=true
  .rw [vi c]at h
   obtain⟨k,j,rfl,p,q,o⟩:=List.filter_eq_cons_iff.1 h.symm;obtain⟨x,f,e,d⟩:=merge u (v:=j) (λm a=>g m (by simp[a])) (λm a=>b m (by simp[a])) o.symm;refine⟨k++l::x,?_,?_,λm a=>?_⟩
   .rw[vh,xb.2 p,vi i,f];rfl
   .rw[vh,List.filter_eq_self.2 λm a=>b m (by simp[a]),vi c,e]
   .rcases f7.1 a with a|a
    .exact .inr (by simp[a])
    .rcases lc.1 a with rfl|a
     .exact .inl (by simp)
     .rcases d m a with h|h
      .exact .inl (by simp[h])
      .exact .inr (by simp[h])
  .rw [wq c]at h
   obtain⟨x,f,e,d⟩:=merge u (v:=v) (λm a=>g m (by simp[a])) b h;refine⟨l::x,?_,?_,λm a=>?_⟩
   .rw[vi i,f]
   .rw[wq c,e]
   .rcases lc.1 a with rfl|a
    .exact .inl (by simp)
    .rcases d m a with h|h
     .exact .inl (by simp[h])
     .exact .inr h
theorem NG{a b:Int}(ha:A2 a=true)(hb:A2 b=true){n:Nat}(c:n<64):AS (GY .i64 a b) n=(AS a n || AS b n):=by
 unfold A2 at ha hb;simp only[decide_eq_true_eq]at ha hb
 obtain⟨x,rfl⟩:∃x:Nat,a=x:=⟨a.toNat,by omega⟩
 obtain⟨y,rfl⟩:∃y:Nat,b=y:=⟨b.toNat,by omega⟩
 have h:=MA (a:=x) (b:=y) (by omega) (by omega);rw[h.1,Dq (by omega) c,Dq (by omega) c,Dq (by omega) c,vq]
theorem kL{a b:Int}(ha:A2 a=true)(hb:A2 b=true){n:Nat}(c:n<64):AS (GL .i64 a b) n=(AS a n && AS b n):=by
 unfold A2 at ha hb;simp only[decide_eq_true_eq]at ha hb
 obtain⟨x,rfl⟩:∃x:Nat,a=x:=⟨a.toNat,by omega⟩
 obtain⟨y,rfl⟩:∃y:Nat,b=y:=⟨b.toNat,by omega⟩
 have h:=My (a:=x) (b:=y) (by omega) (by omega);have d:x &&& y<64:=Nat.lt_of_le_of_lt xl (by omega);rw[h,Dq (by omega) c,Dq (by omega) c,Dq (by omega) c,wy]
structure E5 (s:Sys) (p:AI) (t:Sys) (al:Int):Prop where
 hs:AP s=true
 hp:AJ p=true
 ht:AP t=true
 hal:al=Bj s p t
section
variable {s t:Sys}{p:AI}{al:Int}(hI:E5 s p t al)
include hI
theorem gU{n:Nat}(a:n<64):AS al n=((AS s.al n || AS p.al n) && AS t.al n):=by
 have c:=(AL hI.hs).1;have b:=(AB hI.hp).1;have d:=(AL hI.ht).1;rw[hI.hal];unfold Bj;rw[hI.hs,hI.hp,hI.ht];simp only[xd,if_true];rw[kL (Mz c b) d a,NG c b a]
theorem OL:A2 al=true:=by
 have g:=(AL hI.hs).1;have f:=(AB hI.hp).1;have i:=(AL hI.ht).1;have h:=Mz g f;rw[hI.hal];unfold Bj;rw[hI.hs,hI.hp,hI.ht];simp only[xd,if_true];unfold A2 at *;simp only[decide_eq_true_eq] at *
 obtain⟨x,d⟩:∃x:Nat,GY .i64 s.al p.al=x:=⟨(GY .i64 s.al p.al).toNat,by omega⟩
 obtain⟨y,c⟩:∃y:Nat,t.al=y:=⟨t.al.toNat,by omega⟩
 have:=My (a:=x) (b:=y) (by omega) (by omega);have e:x &&& y<64:=Nat.lt_of_le_of_lt xl (by omega);rw[d,c,this];omega
theorem GU:AY ⟨s,p,al⟩=true:=by
 unfold AY;rw[hI.hs,hI.hp,OL hI];rfl
theorem fY{a:AI}(ha:AJ a=true)(hal:a.al=al)(o:∀u,H0 u->(∀l∈u,AS s.al l.toNat=true\/AS al l.toNat=true)->FK s u->Ey a u=true->Ey p u=true)
 (m:∀v,(∀l∈v,l∈Ab t.al)->FK t v->Ey a v=true) {x:List Int} (e:H0 x) (f:∀l∈x,AS s.al l.toNat=true\/AS t.al l.toNat=true) (k:FK s x) (ht:FK t x):Ey p x=true:=by
 have c:=λl (b:l∈x)=>gU hI (n:=l.toNat) (by have:=e l b;omega);have j:=VI (al:=t.al) e;have w:Ey a (BS t.al x)=true:=m _ (VJ e) ((Ni (by rw[Ns λ_ _ h=>h])).1 ht)
 let u:=x.filter λl=>AS s.al l.toNat || AS al l.toNat
 have g:H0 u:=λl f=>e l (t8.1 f).1
 have d:∀ {bl:Int},(∀l∈x,AS bl l.toNat=true->(AS s.al l.toNat || AS al l.toNat)=true)->BS bl u=BS bl x:=λ{bl} h=>by
  show List.filter _ (List.filter _ x)=List.filter _ x
  rw[xr];refine wD λl f=>?_;cases hb:AS bl l.toNat
  .rfl
  .rw[h l f hb];rfl
 have r:Ey a u=true:=by
  rw[Mi ha g j,w]
  rw [hal,d λl _ h=>by rw[h,wH],Ns λl b h=>by
   have:=c l b;rw[h]at this
   revert this;cases AS t.al l.toNat<;>simp]
 have q:=o u g (λl b=>by have:=(t8.1 b).2;simpa using this) ((Ni (d λl _ h=>by rw[h];rfl)).2 k) r;rw[<-q];refine Mi hI.hp e g (d λl b h=>?_).symm;have:=c l b;rw[h,wH,uj]at this
 rcases f l b with i|i
 .rw[i];rfl
 .rw[this,i,wH]
theorem Yy{v:List Int}(y:∀l∈v,l∈Ab t.al)(ht:FK t v)(G:LS ⟨s,p,al⟩ (Dt (BS al v))=false):∃x,H0 x/\(∀l∈x,AS s.al l.toNat=true\/AS t.al l.toNat=true)/\FK s x/\FK t x/\Ey p x=false:=by
 have m:=Hw y;obtain⟨u,A,J,I,H⟩:=(Sa (GU hI) (VJ m)).1 G
 have d:H0 u:=λl a=>by
  rcases A l a with h|h
  .have:=DV (GU hI) h;omega
  .have:=Af h;omega
 obtain⟨v',w,F⟩:=lU J;have g:∀l∈v',l∈Ab t.al:=λl a=>y l (w.subset a);have b:=λ(l:Int) (h:0<=l/\l<6)=>gU hI (n:=l.toNat) (by omega)
 have q:∀l∈u,(AS s.al l.toNat || AS al l.toNat)=true:=λl a=>by
  rcases A l a with h|h
  .rw[(DV (GU hI) h).2.2];rfl
  .rw[(Af h).2.2,wH]
 have o:∀l∈v',AS t.al l.toNat=true:=λl a=>(Af (g l a)).2.2
 have e:u.filter (λl=>AS t.al l.toNat)=v'.filter λl=>AS s.al l.toNat || AS al l.toNat:=by
  have L:u.filter (λl=>AS t.al l.toNat)=BS al u:=wD λl a=>by
   have c:=q l a;rw[b l (d l a)]at c |-;revert c;cases AS s.al l.toNat<;>cases AS p.al l.toNat<;>cases AS t.al l.toNat<;>simp
  have K:v'.filter (λl=>AS s.al l.toNat || AS al l.toNat)=BS al v':=wD λl a=>by
   have c:=o l a;rw[b l (Hw g l a),c];cases AS s.al l.toNat<;>cases AS p.al l.toNat<;>simp
  rw[L,K,F]
 obtain⟨x,B,k,r⟩:=merge u q o e
 have f:H0 x:=λl a=>by
  rcases r l a with h|h
  .exact d l h
  .exact Hw g l h
 have i:∀l∈x,AS s.al l.toNat=true\/AS t.al l.toNat=true:=λl a=>by
  rcases r l a with h|h
  .have c:=q l h
   rw[b l (d l h)]at c;revert c;cases AS s.al l.toNat<;>cases AS p.al l.toNat<;>cases AS t.al l.toNat<;>simp
  .exact .inr (o l h)
 have j:∀ {bl:Int},(∀l∈x,AS bl l.toNat=true->(AS s.al l.toNat || AS al l.toNat)=true)->BS bl u=BS bl x:=λ{bl} h=>by
  rw[<-B]
  show List.filter _ (List.filter _ x)=List.filter _ x
  rw[xr];refine wD λl a=>?_;cases hb:AS bl l.toNat
  .rfl
  .rw[h l a hb];rfl
 refine⟨x,f,i,(Ni (j λl _ h=>by rw[h];rfl)).1 I,?_,?_⟩
 .have:=jX w ht
  refine(Ni ?_).1 this;have k:BS t.al x=v':=k;rw[<-k,Ns λ_ _ h=>h]
 .rw[<-H]
  refine Mi hI.hp f d (j λl z h=>?_).symm;have:=b l (f l z);rw[h,wH,uj]at this
  rcases i l z with c|c
  .rw[c];rfl
  .rw[this,c,wH]
end
section
variable {a b:AI}(ha:AJ a=true)(hb:AJ b=true)(hal:a.al=b.al)(hL:∀w,Ax (AR a.al) w->LA a w=LA b w)
include ha hb hal hL
end
theorem fQ{p:AI}(hp:AJ p=true):VL (Sl p) (LA p) p.al:=λw a b=>by
 unfold Sl;rw[hp,Ht a b (AB hp).1];rfl
theorem fS{A L:W->Bool}{al:Int}{b:Nat}{t:AW}(h:VL A L al)(ht:HE al b t)(hb:b<=20100)(hk:Cb L (AR al) t){w:W}(a:Ax (AR al) w):Lm A t w=Lm L t w:=by
 rw[<-Pr (hk.r5 h ht hb) a,<-Pr hk a,Wt h ht hb]
theorem Z0{A L:W->Bool}{al:Int}{b:Nat}{t:AW}(h:VL A L al)(ht:HE al b t)(hb:b<=20100)(hk:Cb L (AR al) t){w:W}(a:Ax (AR al) w)(c:w.length<=20000):CD A t w=CD L t w:=by
 have d:0<t.rows.length:=(am.1 hk.r0).1;unfold CD;rw[fS h ht hb hk a,h w a (by omega),O2 h ht hb hk (L w) w 0 d a c]
theorem KC{al:Int}{u:List Int}(c:H0 u)(h:∀l∈u,AS al l.toNat=true):∀l∈u,l∈Ab al:=λl a=>by
 have:=c l a
 obtain⟨n,rfl⟩:∃n:Nat,l=n:=⟨l.toNat,by omega⟩
 have b:=h _ a;rw[f6]at b;exact El.2 ⟨by omega,b⟩
theorem Uh{g:Gr}{w:List Int}(h:DH g=some w):over g w/\Sy g w/\∀u,over g u->Sy g u->¬slt u w:=by
 have:=DJ g;rw[h]at this;exact this
theorem aX{g:Gr}(h:DH g=none):∀u,over g u->¬Sy g u:=by
 have:=DJ g;rw[h]at this;exact this
theorem LV{s:Sys}{a p:AI}{w:List Int}(h:DS s a p=some w):C1 s a p=true/\(∀l∈w,l∈Ab (GY .i64 s.al a.al))/\FK s w/\Ey a w=true/\Ey p w=false:=by
 unfold DS at h;by_cases b:C1 s a p=true
 .rw[if_pos b]at h
  obtain⟨c,d,_⟩:=Uh h;exact⟨b,c,(nZ b c).1 d⟩
 .rw[if_neg b]at h;cases h
theorem Zf{s:Sys}{a p:AI}(d:C1 s a p=true):NZ s a p=true↔∀w,(∀l∈w,l∈Ab (GY .i64 s.al a.al))->FK s w->Ey a w=true->Ey p w=true:=by
 unfold NZ DS;rw[d,uj,if_pos rfl];constructor
 .intro h w g c f
  cases b:DH (Ev (Ef s a p)) with
  | some x=>rw[b]at h;cases h
  | none=>
   have:=aX b w g;rw[nZ d g]at this;cases e:Ey p w
   .exact absurd ⟨c,f,e⟩ this
   .rfl
 .intro h
  cases b:DH (Ev (Ef s a p)) with
  | none=>rfl
  | some x=>
   obtain⟨c,f,_⟩:=Uh b;obtain⟨e,j,i⟩:=(nZ d c).1 f;rw[h x c e j]at i;cases i
theorem ay{l:List Sys}{p:AI}{w:List Int}(h:BU l p=some w):(AZ l && AJ p)=true/\(∀m∈w,m∈Ab (Bu l))/\(∀s∈l,FK s w)/\Ey p w=false:=by
 unfold BU at h;by_cases a:(AZ l && AJ p)=true
 .rw[if_pos a]at h
  obtain⟨b,c,_⟩:=Uh h;exact⟨a,b,(nY a b).1 c⟩
 .rw[if_neg a]at h;cases h
theorem Ly{l:List Sys}{p:AI}(c:(AZ l && AJ p)=true):ED l p=true↔∀w,(∀m∈w,m∈Ab (Bu l))->(∀s∈l,FK s w)->Ey p w=true:=by
 unfold ED BU;rw[c,uj,if_pos rfl];constructor
 .intro h w e b
  cases a:DH (Ev (C0 l p)) with
  | some x=>rw[a]at h;cases h
  | none=>
   have:=aX a w e;rw[nY c e]at this;cases d:Ey p w
   .exact absurd ⟨b,d⟩ this
   .rfl
 .intro h
  cases a:DH (Ev (C0 l p)) with
  | none=>rfl
  | some x=>
   obtain⟨b,g,_⟩:=Uh a;obtain⟨d,f⟩:=(nY c b).1 g;rw[h x b d]at f;cases f
theorem Wv(n:Nat)(a:n<64):AS 0 n=false:=by
 have:=Dq (s:=0) (n:=n) (by omega) a;rw[show ((0:Nat):Int)=0 from rfl]at this;rw[this];simp
theorem IF{t:Sys}:AZ [t]=AP t:=by simp[AZ]
theorem KE{s t:Sys}:AZ [s,t]=(AP s && AP t):=by simp[AZ]
theorem bk{t:Sys}(ht:AP t=true){n:Nat}(a:n<64):AS (Bu [t]) n=AS t.al n:=by
 unfold Bu;rw[IF,ht,if_pos rfl]
 show AS (GY .i64 0 t.al) n=_
 rw[NG (by decide) (AL ht).1 a,Wv n a,wu]
theorem bm{s t:Sys}(a:AP s=true)(ht:AP t=true){n:Nat}(b:n<64):AS (Bu [s,t]) n=(AS s.al n || AS t.al n):=by
 unfold Bu;rw[KE,a,ht,xd,if_pos rfl]
 show AS (GY .i64 (GY .i64 0 s.al) t.al) n=_
 have c:A2 0=true:=by decide
 rw[NG (Mz c (AL a).1) (AL ht).1 b,NG c (AL a).1 b,Wv n b,wu]
theorem iU{t:Sys}(ht:AP t=true){u:List Int}:(∀l∈u,l∈Ab (Bu [t]))↔∀l∈u,l∈Ab t.al:=by
 constructor
 .intro h
  have a:=Hw h
  exact KC a λl b=>by rw[<-bk ht (by have:=a l b;omega)];exact(Af (h l b)).2.2
 .intro h
  have a:=Hw h
  exact KC a λl b=>by rw[bk ht (by have:=a l b;omega)];exact(Af (h l b)).2.2
theorem bS{s t:Sys}(c:AP s=true)(ht:AP t=true){u:List Int}:(∀l∈u,l∈Ab (Bu [s,t]))↔H0 u/\∀l∈u,AS s.al l.toNat=true\/AS t.al l.toNat=true:=by
 constructor
 .intro h
  have a:=Hw h;refine⟨a,λl b=>?_⟩;have:=(Af (h l b)).2.2;rw[bm c ht (by have:=a l b;omega),t6]at this;exact this
 .rintro⟨a,h⟩
  exact KC a λl b=>by rw[bm c ht (by have:=a l b;omega),t6];exact h l b
theorem mY{a b:Int}(ha:A2 a=true)(hb:A2 b=true){u:List Int}:(∀l∈u,l∈Ab (GY .i64 a b))↔H0 u/\∀l∈u,AS a l.toNat=true\/AS b l.toNat=true:=by
 constructor
 .intro h
  have c:=Hw h;refine⟨c,λl d=>?_⟩;have:=(Af (h l d)).2.2;rw[NG ha hb (by have:=c l d;omega),t6]at this;exact this
 .rintro⟨c,h⟩
  exact KC c λl d=>by rw[NG ha hb (by have:=c l d;omega),t6];exact h l d
theorem cZ{s t:Sys}{w:List Int}:(∀x∈[s,t],FK x w)↔FK s w/\FK t w:=by simp
theorem bT{t:Sys}{w:List Int}:(∀x∈[t],FK x w)↔FK t w:=by simp
theorem WH{s t:Sys}{p a:AI}(h:I9 s t p a=0):ED [s,t] p=true/\NZ s a p=true/\ED [t] a=true:=by
 unfold I9 at h;split at h
 .cases h
 rename_i c;split at h
 .cases h
 rename_i m;split at h
 .cases h
 rename_i G;split at h
 .cases h
 rename_i F
 have hk:NZ s a p=true:=by simpa using G
 have b:ED [t] a=true:=by simpa using F
 refine⟨?_,hk,b⟩;rw[not_or]at c
 have n:(AP s && AJ p && AP t)=true:=by
  have o:=c.1;unfold Bj at o;split at o
  .assumption
  .omega
 have ha:AJ a=true:=by simpa using c.2
 simp only[d4]at n;obtain⟨⟨e,f⟩,d⟩:=n;have hal:a.al=Bj s p t:=Classical.not_not.1 m
 have hI:E5 s p t a.al:=⟨e,f,d,hal⟩
 have y:C1 s a p=true:=by unfold C1;rw[e,ha,f];rfl
 have l:(AZ [t] && AJ a)=true:=by rw[IF,d,ha];rfl
 have k:(AZ [s,t] && AJ p)=true:=by rw[KE,e,d,f];rfl
 rw[Zf y]at hk;rw[Ly l]at b;rw[Ly k];intro w x z;obtain⟨A,B⟩:=(bS e d).1 x;obtain⟨r,q⟩:=cZ.1 z;exact fY hI ha rfl (λu i j c m=>hk u ((mY (AL e).1 (AB ha).1).2 ⟨i,j⟩) c m) (λv g c=>b v ((iU d).2 g) (bT.2 c)) A B r q
theorem VD{s t:Sys}{p:AI}{al:Int}(hI:E5 s p t al){v:List Int}(g:∀l∈v,l∈Ab t.al)(ht:FK t v)(h:LS ⟨s,p,al⟩ (Dt (BS al v))=false):ED [s,t] p=false:=by
 have a:(AZ [s,t] && AJ p)=true:=by rw[KE,hI.hs,hI.ht,hI.hp];rfl
 obtain⟨x,f,e,d,c,b⟩:=Yy hI g ht h;cases hk:ED [s,t] p
 .rfl
 .rw[Ly a]at hk
  rw[hk x ((bS hI.hs hI.ht).2 ⟨f,e⟩) (cZ.2 ⟨d,c⟩)]at b;cases b
theorem fL{a:AI}{w:List Int}(b:∀l∈w,l∈Ab a.al):LA a (Dt w)=Ey a w:=by
 unfold Ey;rw[Om w 0 b];rfl
theorem Sf{s t:Sys}{p a:AI}{al:Int}(hI:E5 s p t al)(ha:AJ a=true)(hal:a.al=al){u:List Int}(h:DS s a p=some u):(∀l∈BS al u,l∈Ab al)/\LA a (Dt (BS al u))=true/\LS ⟨s,p,al⟩ (Dt (BS al u))=false:=by
 obtain⟨o,i,j,n,k⟩:=LV h;have e:=Hw i;have c:=VJ (al:=al) e;have d:=((mY (AL hI.hs).1 (AB ha).1).1 i).2;refine⟨c,?_,(Sa (GU hI) c).2 ⟨u,λl b=>?_,vQ _,j,k⟩⟩
 .rw[fL (by rw[hal];exact c),<-n]
  exact Mi ha (VI e) e (by rw[hal,Ns λ_ _ h=>h])
 .have hb:=e l b
  rw[hal]at d;by_cases f:AS al l.toNat=true
  .exact .inr (KC (u:=[l]) (by intro m b;simp at b;subst b;exact hb) (by intro m b;simp at b;subst b;exact f) l (by simp))
  .refine .inl ?_
   unfold CB;refine t8.2 ⟨?_,by simpa using f⟩;have g:AS s.al l.toNat=true:=(d l b).resolve_right f;exact KC (u:=[l]) (by intro m b;simp at b;subst b;exact hb) (by intro m b;simp at b;subst b;exact g) l (by simp)
theorem HI{t:Sys}{a:AI}{v:List Int}(h:BU [t] a=some v):AP t=true/\AJ a=true/\(∀l∈v,l∈Ab t.al)/\FK t v/\Ey a v=false:=by
 obtain⟨b,d,c,e⟩:=ay h;rw[d4,IF]at b;exact⟨b.1,b.2,(iU b.1).1 d,bT.1 c,e⟩
theorem Qe{t:Sys}{a:AI}{v:List Int}(h:BU [t] a=some v):(∀l∈BS a.al v,l∈Ab a.al)/\LA a (Dt (BS a.al v))=false:=by
 obtain⟨i,f,e,g,d⟩:=HI h;have c:=Hw e;have b:=VJ (al:=a.al) c;refine⟨b,?_⟩;rw[fL b,<-d];exact Mi f (VI c) c (by rw[Ns λ_ _ h=>h])
end Go.Am
namespace Go.Am
open Go Go.Proofs
set_option maxHeartbeats 1000000
set_option maxRecDepth 4000
attribute [local irreducible] A5 CQ Lex BC Al Spec
variable {TB:BB}
theorem dc(a b:List Int):Pure Tryz.prog TB 74 [Aj a,Aj b] (eB (decide (a=b))):=by
  refine eN Tryz.func74 rfl (by kernel_rfl) rfl ?_;intro Γ c;refine Al.bound 0 rfl λj=>?_;have j:=j (a.map A9) .refl;rw[io]at j;(repeat first|refine sN rfl ?_|refine tA rfl ?_|refine s2 rfl λ_ d=>?_|refine aU rfl ?_|apply Aa);(refine aC rfl ?_ ?_<;>rintro⟨⟩)
  · (repeat first|refine tA rfl ?_|refine aU rfl ?_|apply Aa)
    refine aR ⟨_,rfl,?_⟩
    have r:a≠b:=λh=>by subst h;(simp only[oZ] at *;omega)
    show E.o _=E.o _;congr;grind
  apply aK
  have s:a.length=b.length:=by (simp only[oZ] at *;omega)
  (repeat first|refine tA rfl ?_|refine aU rfl ?_|apply Aa);apply aB;refine Al.A0 (α:={k:Nat // k<=a.length/\a.take k=b.take k}) (λ⟨k,hk,e⟩=>[(0,Aj a),(1,Aj b),(5,eI .i64 k)]) (λ⟨k,hk,e⟩=>[]) 0 (λ⟨k,hk,e⟩=>a.length-k) (⟨0,by omega,by simp⟩) [] (CC c rfl rfl) (by (simp[cX,zC,c])) ?_;rintro⟨k,hk,e⟩;(try dsimp only);(repeat first|refine sN rfl ?_|refine tA rfl ?_|refine s2 rfl λ_ d=>?_|refine aU rfl ?_|apply Aa)
  ((refine aC rfl ?_ ?_<;>rintro⟨⟩);all_goals try (simp at d;done))
  · have f:k<a.length:=by (simp only[oZ] at *;omega)
    obtain⟨x,n⟩:=get_some (l:=a) (k:=k) f;obtain⟨y,m⟩:=get_some (l:=b) (k:=k) (by omega);have q:=get_map (g:=A9) n;have p:=get_map (g:=A9) m;apply aK;refine aS (aB ?_);(repeat first|refine aU rfl ?_);refine rG (GI []) (by kernel_rfl) ?_;(repeat first|refine tA rfl ?_|(refine s4 rfl ‹_› rfl ?_ ?_;omega)|refine s2 rfl λ_ d=>?_|apply Aa);(refine aC rfl ?_ ?_<;>rintro⟨⟩)
    all_goals first
      | ((repeat first|refine tA rfl ?_|refine aU rfl ?_|apply Aa)
         refine aR ⟨_,rfl,?_⟩
         show E.o _=E.o _;congr;grind
         done)
      | (apply aK
         (repeat first|(refine sA rfl ?_ ?_;first|exact tI|omega)|refine aU rfl ?_|apply Aa);refine⟨⟨k+1,by omega,by rw[d9,d9,n,m];grind⟩,by dsimp only;(omega),[],?_⟩
         simp[cX,zC,c])
  · apply aE
    (repeat first|refine tA rfl ?_|refine aU rfl ?_|apply Aa);refine aR ⟨_,rfl,?_⟩
    have i:a.length<=k:=by (simp only[oZ] at *;omega)
    rw[i8 i,i8 (by omega)]at e
    show E.o _=E.o _;congr;grind
theorem YQ(a b:List Bool):Pure Tryz.prog TB 73 [Qo a,Qo b] (eB (decide (a=b))):=by
  refine eN Tryz.func73 rfl (by kernel_rfl) rfl ?_;intro Γ c;refine Al.bound 0 rfl λj=>?_;have j:=j (a.map Iq) .refl;rw[io]at j;(repeat first|refine sN rfl ?_|refine tA rfl ?_|refine s2 rfl λ_ d=>?_|refine aU rfl ?_|apply Aa);(refine aC rfl ?_ ?_<;>rintro⟨⟩)
  · (repeat first|refine tA rfl ?_|refine aU rfl ?_|apply Aa)
    refine aR ⟨_,rfl,?_⟩
    have r:a≠b:=λh=>by subst h;(simp only[oZ] at *;omega)
    show E.o _=E.o _;congr;grind
  apply aK
  have s:a.length=b.length:=by (simp only[oZ] at *;omega)
  (repeat first|refine tA rfl ?_|refine aU rfl ?_|apply Aa);apply aB;refine Al.A0 (α:={k:Nat // k<=a.length/\a.take k=b.take k}) (λ⟨k,hk,e⟩=>[(0,Qo a),(1,Qo b),(5,eI .i64 k)]) (λ⟨k,hk,e⟩=>[]) 0 (λ⟨k,hk,e⟩=>a.length-k) (⟨0,by omega,by simp⟩) [] (CC c rfl rfl) (by (simp[cX,zC,c])) ?_;rintro⟨k,hk,e⟩;(try dsimp only);(repeat first|refine sN rfl ?_|refine tA rfl ?_|refine s2 rfl λ_ d=>?_|refine aU rfl ?_|apply Aa)
  ((refine aC rfl ?_ ?_<;>rintro⟨⟩);all_goals try (simp at d;done))
  · have f:k<a.length:=by (simp only[oZ] at *;omega)
    obtain⟨x,n⟩:=get_some (l:=a) (k:=k) f;obtain⟨y,m⟩:=get_some (l:=b) (k:=k) (by omega);have q:=get_map (g:=Iq) n;have p:=get_map (g:=Iq) m;apply aK;refine aS (aB ?_);(repeat first|refine aU rfl ?_);refine rG (GI []) (by kernel_rfl) ?_;(repeat first|refine tA rfl ?_|(refine s4 rfl ‹_› rfl ?_ ?_;omega)|refine s2 rfl λ_ d=>?_|apply Aa);(refine aC rfl ?_ ?_<;>rintro⟨⟩)
    all_goals first
      | ((repeat first|refine tA rfl ?_|refine aU rfl ?_|apply Aa)
         refine aR ⟨_,rfl,?_⟩
         show E.o _=E.o _;congr;grind
         done)
      | (apply aK
         (repeat first|(refine sA rfl ?_ ?_;first|exact tI|omega)|refine aU rfl ?_|apply Aa);refine⟨⟨k+1,by omega,by rw[d9,d9,n,m];grind⟩,by dsimp only;(omega),[],?_⟩
         simp[cX,zC,c])
  · apply aE
    (repeat first|refine tA rfl ?_|refine aU rfl ?_|apply Aa);refine aR ⟨_,rfl,?_⟩
    have i:a.length<=k:=by (simp only[oZ] at *;omega)
    rw[i8 i,i8 (by omega)]at e
    show E.o _=E.o _;congr;grind
theorem Sn(a b:AI):Pure Tryz.prog TB 30 [Bp a,Bp b] (eB (decide (a.al=b.al/\a.nx=b.nx/\a.ac=b.ac))):=by
  have p:=YQ (TB:=TB) a.ac b.ac;refine eN Tryz.func30 rfl (by kernel_rfl) rfl ?_;intro Γ d;refine Al.bound 0 rfl λj=>?_;have j:=j (a.nx.map Ek) ⟨1,_,rfl,.refl⟩;rw[io]at j;(repeat first|refine tA rfl ?_|refine s2 rfl λ_ c=>?_|(refine sC rfl (p) ?_;intro _ c)|refine s3 rfl ?_ ?_<;>rintro rfl|refine aU rfl ?_|apply Aa);(repeat' first|refine sN rfl ?_|refine tA rfl ?_|refine s2 rfl λ_ c=>?_|(refine sC rfl (p) ?_;intro _ c)|refine s3 rfl ?_ ?_<;>rintro rfl|refine aU rfl ?_|apply Aa|(refine aC rfl ?_ ?_<;>rintro⟨⟩))
  all_goals first
    | (refine aR ⟨_,rfl,?_⟩
       show E.o _=E.o _;congr;grind
       done)
    | skip
  · rename_i t bb e
    have u:a.ac=b.ac:=by simp at c;rw[c]at e;exact of_decide_eq_true e
    have hal:a.al=b.al:=by simpa using ‹decide (a.al≠b.al)=false›
    have s:a.nx.length=b.nx.length:=by (simp only[oZ] at *;omega)
    apply aK;(repeat first|refine tA rfl ?_|refine aU rfl ?_|apply Aa);apply aB;refine Al.A0 (α:={k:Nat // k<=a.nx.length/\a.nx.take k=b.nx.take k}) (λ⟨k,hk,f⟩=>[(2,.o (.ip (AT a))),(3,.o (.ip (AT b))),(5,eI .i64 k)]) (λ⟨k,hk,f⟩=>[]) 0 (λ⟨k,hk,f⟩=>a.nx.length-k) (⟨0,by omega,by simp⟩) [] (CC d rfl rfl) (by (simp[cX,zC,d])) ?_;rintro⟨k,hk,f⟩;(try dsimp only);(repeat first|refine sN rfl ?_|refine tA rfl ?_|refine s2 rfl λ_ c=>?_|refine aU rfl ?_|apply Aa)
    ((refine aC rfl ?_ ?_<;>rintro⟨⟩);all_goals try (simp at c;done))
    · have h:k<a.nx.length:=by (simp only[oZ] at *;omega)
      obtain⟨x,n⟩:=get_some (l:=a.nx) (k:=k) h;obtain⟨y,m⟩:=get_some (l:=b.nx) (k:=k) (by omega);have r:=get_map (g:=Ek) n;have q:=get_map (g:=Ek) m;have v:=dc (TB:=TB) x y;apply aK;refine aS (aB ?_);(repeat first|refine aU rfl ?_);refine rG (GI []) (by kernel_rfl) ?_;(repeat first|refine tA rfl ?_|(refine s4 rfl ‹_› rfl ?_ ?_;omega)|refine s2 rfl λ_ c=>?_|(refine sC rfl (v) ?_;intro _ c)|apply Aa);(refine aC rfl ?_ ?_<;>rintro⟨⟩)
      all_goals first
        | ((repeat first|refine tA rfl ?_|refine aU rfl ?_|apply Aa)
           refine aR ⟨_,rfl,?_⟩
           show E.o _=E.o _;congr;grind
           done)
        | (apply aK
           (repeat first|(refine sA rfl ?_ ?_;first|exact tI|omega)|refine aU rfl ?_|apply Aa);refine⟨⟨k+1,by omega,by rw[d9,d9,n,m];grind⟩,by dsimp only;(omega),[],?_⟩
           simp[cX,zC,d])
    · apply aE
      (repeat first|refine tA rfl ?_|refine aU rfl ?_|apply Aa);refine aR ⟨_,rfl,?_⟩
      have i:a.nx.length<=k:=by (simp only[oZ] at *;omega)
      rw[i8 i,i8 (by omega)]at f
      show E.o _=E.o _;congr;grind
theorem UR{t:EO}{al:Int}{A:W->Bool}(f:Ll Tryz.prog TB 140 186 t al A):Pure Tryz.prog TB 76 [EY t] (Jq (I6 A al Br)):=by
 have c:Pure Tryz.prog TB 138 [EY t,Ej Br] (Jq (I6 A al Br)):=JK f Br ⟨by decide,by decide,λw a=>by simp[Br]at a;subst a;simp,λw a=>by simp[Br]at a;subst a;simp⟩
 rcases e:I6 A al Br with _|x<;>rw[e]at c<;>(
  refine eG Tryz.func76 rfl (by kernel_rfl) rfl ?_;intro Γ d;(repeat' first|refine sN rfl ?_|((first|refine sA rfl ?_ ?_|refine s4 rfl ‹_› rfl ?_ ?_);first|exact tI|omega|simp only[oZ] at *;omega)|(refine s2 rfl λ_ b=>?_;try (simp only[uW,uX]at b;subst b))|refine sP rfl (c) rfl ?_|refine sV rfl rfl (by rfl) (by rfl) ?_|refine s3 rfl ?_ ?_<;>rintro rfl|refine aV rfl ?_|apply Aa|refine rE (by kernel_rfl) ?_|(refine aC rfl ?_ ?_<;>rintro⟨⟩)|refine aR ⟨_,rfl,?_⟩)
  all_goals rfl)
end Go.Am
namespace Go.Am
open Go Go.Proofs
set_option maxHeartbeats 1000000
set_option maxRecDepth 4000
attribute [local irreducible] A5 CQ Lex BC Al Spec
section
variable {P:Program}{TB:BB}{Γ:Ctx}{d:Option Tmp}{ty:TypeId}{pos:String}{af:Array Edge}{g:Option (Nat×Bool)}{f:Env}{σ:Ac}{nx:Nat}
end
variable {TB:BB}
theorem fN.short{al:Int}{t:AW}(h:fN al t):∀(i:Nat) w,t.rows[i]?=some w->w.length<=i:=by
 intro i
 induction i using Nat.strongRecOn with
 | ind i b=>
  intro w hi
  rcases uP i with rfl|e
  .have:=h.r0.symm.trans hi
   injection this with this
   subst this;simp
  .obtain⟨c,j,d,a⟩:=h.pre i w hi e
   have:=b j d _ a;rw[List.length_dropLast]at this;omega
theorem fN.bd{al:Int}{t:AW}(h:fN al t):HE al 20000 t:=by
 refine⟨λw b=>⟨(h.rw w b).2,?_⟩,λx a=>⟨(h.cw x a).2,by have:=(h.cw x a).1;omega⟩,h.rl,h.cl⟩;obtain⟨i,hi,c⟩:=um b;have:=h.short i w (by rw[d5 hi,c]);have:=h.rl;omega
end Go.Am
namespace Go.Am
open Go Go.Proofs
set_option maxHeartbeats 1000000
set_option maxRecDepth 4000
attribute [local irreducible] A5 CQ Lex BC Al Spec
variable {TB:BB}
theorem Dv(L:W->Bool)(al:Int)(t:AW):Bt L al t=(A4 L al t && (A7 L (AR al) t).isNone):=rfl
end Go.Am
namespace Go.Am
open Go Go.Proofs
def EX(n:Nat)(p:W->Prop):Prop:=∃l:List W,l.length<=n/\∀w,p w->w∈l
theorem EX.or{a b:Nat}{p q:W->Prop}(h:EX a p)(f:EX b q):EX (a+b) (λw=>p w\/q w):=by
 obtain⟨l,i,e⟩:=h;obtain⟨l',g,d⟩:=f;exact⟨l++l',by simp;omega,λw c=>f7.2 (c.imp (e w) (d w))⟩
theorem EX.sub{a b:Nat}{p q:W->Prop}(h:EX a p)(d:∀w,q w->p w)(hb:a<=b):EX b q:=by
 obtain⟨l,f,e⟩:=h;exact⟨l,by omega,λw c=>e w (d w c)⟩
theorem EX.none{n:Nat}{p:W->Prop}(h:∀w,¬p w):EX n p:=⟨[],by simp,λw a=>absurd a (h w)⟩
theorem QL{α β:Type}(f:α->List β)(b:Nat):∀(l:List α),(∀x∈l,(f x).length<=b)->(l.flatMap f).length<=l.length*b
 | [],_=>by simp
 | x::l,h=>by
  have d:=QL f b l λy a=>h y (by simp[a]);have c:=h x (by simp);rw[wA,uD,ut,Nat.succ_mul];omega
theorem EX.ex{α:Type}{n b:Nat}{p:W->Prop}{q:α->W->Prop}(l:List α)(i:l.length<=n)(g:∀x∈l,EX b (q x))(h:∀w,p w->∃x∈l,q x w):EX (n*b) p:=by
 classical
 have e:∀x:α,∃k:List W,x∈l->k.length<=b/\∀w,q x w->w∈k:=λx=>by
  by_cases a:x∈l
  .obtain⟨k,m,j⟩:=g x a;exact⟨k,λ_=>⟨m,j⟩⟩
  .exact⟨[],λh=>absurd h a⟩
 have d:=λx=>xh (e x);refine⟨l.flatMap λx=>Classical.choose (e x),l3 (QL _ b l λx a=>(d x a).1) (uC b i),λw f=>?_⟩;obtain⟨x,a,c⟩:=h w f;exact vl.2 ⟨x,a,(d x a).2 w c⟩
theorem EX.map{α:Type}{n:Nat}{p:W->Prop}(f:α->W)(l:List α)(c:l.length<=n)(h:∀w,p w->∃x∈l,w=f x):EX n p:=
 ⟨l.map f,by simpa using c,λw b=>by obtain⟨x,a,rfl⟩:=h w b;exact d8.2 ⟨x,a,rfl⟩⟩
theorem lv(al:Int):(AR al).length<=6:=by
 unfold AR;rw[io];exact AA al 6
theorem NR{al:Int}{b:Nat}{t:AW}(h:HE al b t):EX 1764 (OD (AR al) t):=by
 have c:=h.rl;have g:=h.cl;refine EX.ex (n:=12) (b:=147) (q:=λr v=>∃m:W,(m=[]\/∃l∈AR al,m=[l])/\∃x:W,(x=[]\/x∈t.cols)/\v=r++m++x) t.rows c (λr _=>?_) λw a=>a;refine EX.ex (n:=7) (b:=21) (q:=λm v=>∃x:W,(x=[]\/x∈t.cols)/\v=r++m++x) ([]::(AR al).map λl=>[l]) (by have:=lv al;simp;omega) (λm _=>?_) λw a=>?_
 .exact EX.map (λx=>r++m++x) ([]::t.cols) (by simp;omega) λw ⟨x,d,a⟩=>⟨x,by simpa using d,a⟩
 .obtain⟨m,e,i⟩:=a
  refine⟨m,?_,i⟩
  rcases e with rfl|⟨l,f,rfl⟩
  .simp
  .exact ui _ (d8.2 ⟨l,f,rfl⟩)
theorem Tr{L:W->Bool}{ls:List UInt8}:∀(n:Nat) (t:AW),(Ff L ls n t).length<=n+1
 | 0,t=>by simp[Ff]
 | n + 1,t=>by
  unfold Ff
  cases A7 L ls t with
  | none=>simp
  | some w=>
   dsimp only;split
   .simp
   .have:=Tr (L:=L) (ls:=ls) n ⟨t.rows++[w],t.cols⟩
    simp;omega
theorem Tl{L:W->Bool}{al:Int}{b:Nat}{t:AW}(h:HE al b t):EX 24696 (λv=>∃y∈Ff L (AR al) 13 t,OD (AR al) y v):=
 EX.ex (n:=14) (b:=1764) (q:=λy v=>OD (AR al) y v) (Ff L (AR al) 13 t) (Tr 13 t) (λy a=>NR (h.grow a)) λw c=>c
theorem dD{al:Int}{b:Nat}{t:AW}(h:HE al b t){w:W}(e:w.length<=20000):EX 260013 (bf t w):=by
 have c:=h.rl
 refine EX.ex (n:=13) (b:=20001) (q:=λr v=>∃k:Nat,v=r++w.drop k) ([]::t.rows) (by simp;omega) (λr _=>?_) λv ⟨r,d,a⟩=>⟨r,by simpa using d,a⟩
 refine EX.map (λk=>r++w.drop k) (List.range 20001) (by simp) λv ⟨k,a⟩=>?_;by_cases hk:k<20001
 .exact⟨k,mt.2 hk,a⟩
 .exact⟨20000,by simp,by rw[a,vm (by omega),vm (by omega)]⟩
theorem dC{L:W->Bool}{al:Int}{t:AW}(h:HE al 20000 t){w:W}(f:Ax (AR al) w)(g:w.length<=20000):EX 286473 (aZ L (AR al) t w):=by
 refine((NR h).or ((dD h g).or (b:=24696) ?_)).sub (b:=286473) (λv e=>e) (by omega)
 cases i:CD L t w with
 | none=>exact .none λv ⟨x,a,_⟩=>by cases a
 | some x=>
  cases ha:FM t x with
  | none=>exact .none λv ⟨x',a,u,d,_⟩=>by injection a with a;subst a;rw[ha]at d;cases d
  | some u=>
   obtain⟨p,_,rfl⟩:=Jo i
   exact(Tl (L:=L) (Ue h (λc j=>f c (by simp[j])) (by simp at g;omega) ha)).sub (λv ⟨x',a,u',d,e⟩=>by
    injection a with a;subst a
    rw[ha]at d;injection d with d;subst d;exact e) (jp _)
def okB(al:Int)(w:W):Prop:=Ax (AR al) w/\w.length<=50000
theorem J0(al:Int):Ud (okB al) al:=λw b a=>⟨b,a⟩
theorem cR{α:Type}:∀(l m:List α),l.Nodup->(∀x∈l,x∈m)->l.length<=m.length
 | [],_,_,_=>by simp
 | x :: l,m,d,f=>by
  obtain⟨a,b,rfl⟩:=List.append_of_mem (f x (by simp));rw[vz]at d
  have h:=cR l (a++b) d.2 λy e=>by
   have c:=f y (ui _ e);simp only[f7,lc]at c |-
   rcases c with c|rfl|c
   .exact .inl c
   .exact absurd e d.1
   .exact .inr c
  simp at h |-;omega
theorem kU{t:BX}{n:Nat}{p:W->Prop}{al:Int}(h:EX n p)(j:n<=20000000)(hb:∀w,p w->okB al w):px t p:=by
 obtain⟨k,hk,e⟩:=h;intro l c f
 have a:l ⊆ BF t::(k.filter λw=>w.length<=50000).flatMap λw=>(List.range 50001).map λi=>GO t (BF t) (w.take i):=λF g=>by
  rcases f F g with rfl|⟨u,v,d,rfl⟩
  .simp
  .have b:=(hb _ d).2
   refine ui _ (vl.2 ⟨u++v,t8.2 ⟨e _ d,by simpa using b⟩,d8.2 ⟨u.length,mt.2 (by simp at b;omega),by simp⟩⟩)
 have b:=cR _ _ c a;have q:=QL (λw:W=>(List.range 50001).map λi=>GO t (BF t) (w.take i)) 50001 (k.filter λw=>w.length<=50000) (λx _=>by simp);have o:(k.filter λw=>w.length<=50000).length<=n:=l3 (vD _ _) hk;rw[ut]at b;have m:(k.filter λw=>decide (w.length<=50000)).length*50001<=20000000*50001:=uC _ (by omega);omega
theorem qE{al:Int}{w:W}(h:okB al w):pH al w:=⟨h.1,l3 h.2 (by omega)⟩
theorem mA{te:EO}{n:Nat}{p:W->Prop}(h:EX n p)(c:n<=20000000)(hb:∀w,p w->okB (A1 te) w):(∀w,p w->pH (A1 te) w)/\VB te p:=by
 refine⟨λw b=>qE (hb w b),?_⟩;obtain⟨kn,a,s,q,al⟩:=te
 cases kn with
 | true=>intro h;cases h
 | false=>exact λ_=>kU h c hb
end Go.Am
namespace Go.Am
open Go Go.Proofs
set_option maxHeartbeats 1000000
set_option maxRecDepth 4000
attribute [local irreducible] A5 CQ Lex BC Al Spec
variable {TB:BB}
theorem HC{te:EO}(a:CP te=true):A2 (A1 te)=true:=by
 obtain⟨kn,p,s,q,al⟩:=te
 cases kn with
 | true=>exact(AB a).1
 | false=>
  have ht:AY ⟨s,q,al⟩=true:=a;unfold AY at ht;simp only[d4]at ht;exact ht.2.2
noncomputable def FN(te:EO)(x:AW):Option AW:=if (CP te && A4 (Cj te) (A1 te) x)=true then Bd (Cj te) (AR (A1 te)) 13 x else none
noncomputable def UP(te:EO):Option AW:=if CP te=true then Bd (Cj te) (AR (A1 te)) 13 Br else none
noncomputable def df(te:EO)(x:AW):Option AI:=if (CP te && Bt (Cj te) (A1 te) x)=true then some (AV (Cj te) (A1 te) x) else none
section
variable {tabs:List (Nat×Obj)}[hTb:Dy ⟨tabs,none⟩]{te:EO}
include hTb
end
noncomputable def Ge(te:EO)(w:W):Bool:=if te.kn then Sl te.p w else Li ⟨te.s,te.q,te.al⟩ w
def Es(te:EO):Int:=if CP te then A1 te else -1
theorem TT{t:BX}(ht:AY t=true):VL (Li t) (LS t) t.al:=λw b c=>by
 have a:A2 t.al=true:=by unfold AY at ht;simp only[d4]at ht;exact ht.2.2
 unfold Li;rw[ht,Ht b c a];rfl
theorem IT{te:EO}(a:CP te=true):VL (Ge te) (Cj te) (A1 te):=by
 obtain⟨kn,p,s,q,al⟩:=te
 cases kn with
 | true=>exact fQ a
 | false=>exact TT (t:=⟨s,q,al⟩) a
theorem fq{A:W->Bool}{t:AW}:A4 A (-1) t=false:=by
 cases h:A4 A (-1) t
 .rfl
 .have:=(Ft h).1.pos;omega
theorem aw{A L:W->Bool}{al:Int}(h:VL A L al)(t:AW):A4 A al t=A4 L al t:=by
 unfold A4;cases a:GQ al t
 .rfl
 .rw[IM h (X0 a).bd (by omega)]
theorem Du(te:EO)(x:AW):(CP te && A4 (Cj te) (A1 te) x)=A4 (Ge te) (Es te) x:=by
 unfold Es;cases a:CP te
 .simp[fq]
 .rw[if_pos rfl,uj,aw (IT a)]
theorem C3{te:EO}{x:AW}(h:A4 (Ge te) (Es te) x=true):CP te=true/\Es te=A1 te/\A4 (Cj te) (A1 te) x=true/\fN (A1 te) x/\(AH (Cj te) x).Nodup:=by
 rw[<-Du,d4]at h;exact⟨h.1,by unfold Es;rw[if_pos h.1],h.2,(Ft h.2).1,(Ft h.2).2⟩
theorem PD{al:Int}(ha:A2 al=true){w:W}(h:Ax (AR al) w)(a:w.length<=4000):FQ al w=true:=by
 unfold FQ;rw[Ht h (by omega) ha,decide_eq_true a];rfl
theorem ij{L:W->Bool}{x:AW}(h:(AH L x).Nodup){i k:Nat}{u w:W}(hi:x.rows[i]?=some u)(hk:x.rows[k]?=some w)(a:k<i):marks L x.cols u≠marks L x.cols w:=by
 intro b
 have d:(AH L x)[i]?=some (marks L x.cols u):=by unfold AH;simp[hi]
 have c:(AH L x)[k]?=some (marks L x.cols u):=by unfold AH;simp[hk,b]
 obtain⟨j,g⟩:=am.1 d;obtain⟨f,e⟩:=am.1 c;exact ro.1 h k i f j a (by rw[g,e])
theorem Qj{L:W->Bool}{ls:List UInt8}:∀ {n:Nat} {t u:AW},TOk L ls t->Bd L ls n t=some u->TOk L ls u/\A7 L ls u=none/\t.rows <+: u.rows/\u.cols=t.cols/\(t.rows.length<=12->u.rows.length<=12)/\(A7 L ls t≠none->t.rows.length<u.rows.length)/\(A7 L ls t=none->u=t)
 | 0,t,u,_,h=>by simp[Bd]at h
 | n + 1,t,u,hk,h=>by
  unfold Bd at h
  cases a:A7 L ls t with
  | none=>
   rw[a]at h
   injection h with h;subst h
   exact⟨hk,a,vQ _,rfl,id,λh=>absurd rfl h,λ_=>rfl⟩
  | some w=>
   rw[a]at h;dsimp only at h;split at h
   .cases h
   .rename_i g
    obtain⟨f,e,b,d,c,j,i⟩:=Qj (hk.push a) h;have hp:=(wx t.rows [w]).trans b;refine⟨f,e,hp,d,λh=>c (by simp;omega),λ_=>?_,λh=>by cases h⟩;have:=b.length_le;simp at this;omega
theorem kM{te:EO}{x u:AW}(h:A4 (Ge te) (Es te) x=true)(d:FN te x=some u):A4 (Ge te) (Es te) u=true/\A7 (Cj te) (AR (A1 te)) u=none/\x.rows <+: u.rows/\u.cols=x.cols/\(A7 (Cj te) (AR (A1 te)) x≠none->x.rows.length<u.rows.length)/\(A7 (Cj te) (AR (A1 te)) x=none->u=x):=by
 obtain⟨e,r,g,b,q⟩:=C3 h;unfold FN at d;rw[e,g,uj,if_pos rfl]at d;obtain⟨f,n,m,c,l,k,j⟩:=Qj (HD g) d;refine⟨?_,n,m,c,k,j⟩;rw[<-Du,e,uj];have o:=l b.rl;refine KQ (HC e) b.pos f o (by rw[c];exact b.cl) (λw a=>?_) (λw a=>by rw[c]at a;exact(b.cw w a).1);obtain⟨i,hi,p⟩:=um a;have:=f.short i w (by rw[d5 hi,p]);omega
theorem Wy(te:EO)(x:AW):(if A4 (Ge te) (Es te) x then Bd (Ge te) (AR (Es te)) 13 x else none)=FN te x:=by
 unfold FN;rw[Du];by_cases a:A4 (Ge te) (Es te) x=true
 .obtain⟨d,c,f,b,e⟩:=C3 a
  rw[a,c,if_pos rfl,if_pos rfl];exact Qi (IT d) 13 b.bd (by omega)
 .rw[Bool.not_eq_true]at a;rw[a,if_neg uZ,if_neg uZ]
theorem NJ{te:EO}{x:AW}(h:A4 (Ge te) (Es te) x=true):(CP te && Bt (Cj te) (A1 te) x)=(A7 (Cj te) (AR (A1 te)) x).isNone:=by
 obtain⟨b,e,a,d,c⟩:=C3 h;rw[b,Dv,a];rfl
structure uh (n m:Nat) (t:AW):Prop where
 rl:t.rows.length<=n
 cl:t.cols.length<=n
 rb:∀w∈t.rows,w.length<=m
 cb:∀w∈t.cols,w.length<=m
section
variable {P:Program}{Γ:Ctx}{d:Option Tmp}{ty:TypeId}{pos:String}{af:Array Edge}{g:Option (Nat×Bool)}{L:List (Nat×E)}{σ:Ac}{nx:Nat}
end
noncomputable def KZ(te:EO)(x:AW)(w:W):Option AW:=if (CP te && A4 (Cj te) (A1 te) x && FQ (A1 te) w)=true then FM x w else none
theorem nu(te:EO)(x:AW)(w:W):P9 (Ge te) (Es te) x w=KZ te x w:=by
 unfold P9 KZ;rw[Du];cases a:A4 (Ge te) (Es te) x
 .rw[we,we]
 .rw[(C3 a).2.1]
section
variable {tabs:List (Nat×Obj)}[hTb:Dy ⟨tabs,none⟩]{te:EO}
include hTb
end
noncomputable def Fq(te:EO)(x:AW)(w:W):Option W:=if (CP te && Bt (Cj te) (A1 te) x && FQ (A1 te) w)=true then CD (Cj te) x w else none
noncomputable def Lj(te:EO)(x:AW)(w:W):Option AW:=if (CP te && Bt (Cj te) (A1 te) x && FQ (A1 te) w)=true then HB (Cj te) (AR (A1 te)) x w else none
section
variable {tabs:List (Nat×Obj)}[hTb:Dy ⟨tabs,none⟩]{te:EO}
include hTb
end
end Go.Am
namespace Go.Am
open Go Go.Proofs
set_option maxHeartbeats 1000000
set_option maxRecDepth 4000
attribute [local irreducible] A5 CQ Lex BC Al Spec
variable {tabs:List (Nat×Obj)}
theorem lp{al:Int}{w:W}(h:FQ al w=true):Ax (AR al) w/\w.length<=4000:=by
 unfold FQ at h;rw[d4,decide_eq_true_eq]at h;exact⟨EM h.1,h.2⟩
theorem ZA{L:W->Bool}{cols:List W}{c w:W}:marks L (cols++[c]) w=marks L cols w++[TE (L (w++c))]:=by simp[marks]
theorem Ug{te:EO}{x u:AW}{w:W}(h:KZ te x w=some u):A4 (Ge te) (Es te) x=true/\Ax (AR (A1 te)) w/\w.length<=4000/\u=⟨x.rows,x.cols++[w]⟩/\A4 (Ge te) (Es te) u=true/\KZ te u w=none:=by
 unfold KZ at h;by_cases d:(CP te && A4 (Cj te) (A1 te) x && FQ (A1 te) w)=true
 .rw [if_pos d]at h
  rw[Du,d4]at d;obtain⟨g,o⟩:=d;obtain⟨m,l⟩:=lp o;obtain⟨k,t,s,f,j⟩:=C3 g;unfold FM at h;split at h
  .cases h
  rename_i i
  injection h with h
  subst h;rw[not_or]at i;have hk:=HD s;have p:=f.cl;have q:=f.c1;refine⟨g,m,l,rfl,?_,?_⟩
  .rw [<-Du,k,uj]
   refine KQ (HC k) f.pos ⟨hk.r0,by rw[gc (by omega)];exact hk.c0,hk.pre,hk.onR,λc d=>?_,?_,?_⟩ f.rl (by simp;omega) (λr n=>(f.rw r n).1) (λc d=>?_)
   .rcases f7.1 d with d|d
    .exact hk.onC c d
    .simp at d;subst d;exact m
   .have e:(AH (Cj te) ⟨x.rows,x.cols++[w]⟩).map List.dropLast=AH (Cj te) x:=by
     unfold AH;rw[uG]
     exact uA λr _=>by simp[d6,ZA]
    rw[<-e]at j;exact(uU.1 j).imp λh e=>h (by rw[e])
   .exact u6.2 ⟨hk.bO,by simp,λa ha b hb=>by simp at hb;subst hb;exact λe=>i.2 (e▸ha)⟩
   .rcases f7.1 d with d|d
    .exact(f.cw c d).1
    .simp at d;subst d;exact l
  .unfold KZ FM
   split
   .rw[if_pos (.inr (by simp))]
   .rfl
 .rw[if_neg d]at h;cases h
end Go.Am
namespace Go.Am
open Go Go.Proofs
set_option maxHeartbeats 1000000
set_option maxRecDepth 4000
attribute [local irreducible] A5 CQ Lex BC Al Spec
variable {tabs:List (Nat×Obj)}
theorem nD(te:EO)(x:AW):(if Bt (Ge te) (Es te) x then some (AV (Ge te) (Es te) x) else none)=df te x:=by
 rw[Dv];cases b:A4 (Ge te) (Es te) x
 .rw[we,if_neg uZ]
  unfold df;rw[Dv,<-Bool.and_assoc,Du,b];rfl
 .obtain⟨a,e,d,c,f⟩:=C3 b
  rw[e,Og (IT a) c.bd (by omega),Wt (IT a) c.bd (by omega),uj];unfold df;rw[Dv,a,d,uj,uj]
end Go.Am
namespace Go.Am
open Go Go.Proofs
set_option maxHeartbeats 1000000
set_option maxRecDepth 4000
attribute [local irreducible] A5 CQ Lex BC Al Spec
variable {tabs:List (Nat×Obj)}
theorem iJ{L:W->Bool}{ls:List UInt8}{t:AW}(g:t.cols=[[]])(c:2<=t.rows.length)(e:(AH L t).Nodup):A7 L ls t=none:=by
 cases d:A7 L ls t with
 | none=>rfl
 | some w=>
  exfalso;have f:=(Jh d).2;obtain⟨a,ha⟩:=get_some (l:=t.rows) (k:=0) (by omega);obtain⟨b,hb⟩:=get_some (l:=t.rows) (k:=1) (by omega);have ne:=ij e hb ha (by omega);have h:marks L t.cols a∈AH L t:=List.mem_map_of_mem (ce ha);have c:marks L t.cols b∈AH L t:=List.mem_map_of_mem (ce hb)
  have hk:∀v:W,marks L t.cols v=[TE (L v)]:=λv=>by rw[g];simp[marks]
  rw[hk]at f h c ne;rw[hk]at ne;cases m:L a<;>cases j:L b<;>cases i:L w<;>simp_all
theorem qA(L:W->Bool)(ls:List UInt8):∃u,Bd L ls 13 Br=some u/\u.cols=[[]]/\u.rows.length<=2:=by
 unfold Bd
 cases h:A7 L ls Br with
 | none=>exact⟨Br,rfl,rfl,by decide⟩
 | some w=>
  dsimp only;rw[if_neg (by decide)];unfold Bd;have hk:=(Ov L ls).push h;have a:=iJ (ls:=ls) (t:=⟨Br.rows++[w],Br.cols⟩) rfl (by simp[Br]) hk.nd;rw[a];exact⟨_,rfl,rfl,by simp[Br]⟩
theorem ox{te:EO}(h:CP te=true):∃u,UP te=some u/\A4 (Ge te) (Es te) u=true/\A7 (Cj te) (AR (A1 te)) u=none/\u.cols=[[]]/\u.rows.length<=2/\Cb (Cj te) (AR (A1 te)) u/\0<=A1 te:=by
 obtain⟨u,e,c,g⟩:=qA (Cj te) (AR (A1 te));obtain⟨b,d,o,n,m,l,k⟩:=Qj (Ov _ _) e;have ha:=HC h
 have f:0<=A1 te:=by unfold A2 at ha;simp only[d4,decide_eq_true_eq]at ha;omega
 refine⟨u,by unfold UP;rw[if_pos h,e],?_,d,c,g,⟨b,Hx d⟩,f⟩;rw[<-Du,h,uj];refine KQ ha f b (by omega) (by rw[c];decide) (λw a=>?_) (λw a=>by rw[c]at a;simp at a;subst a;simp);obtain⟨i,hi,j⟩:=um a;have:=b.short i w (by rw[d5 hi,j]);omega
theorem ow(te:EO):I6 (Ge te) (Es te) Br=UP te:=by
 have h:=Wy te Br;unfold I6;refine h.trans ?_;unfold FN UP;cases hk:CP te
 .rfl
 .have ha:=HC hk
  have c:0<=A1 te:=by unfold A2 at ha;simp only[d4,decide_eq_true_eq]at ha;omega
  have b:=KM (A1 te);rw[KQ ha c (Ov _ _) (by decide) (by decide) (λw a=>by have:=(b.onR w a).2;omega) (λw a=>by simp[Br]at a;subst a;simp)];rfl
end Go.Am
namespace Go.Am
def JR(a:AI)(cs:List Int)(q:Nat):List Int:=cs.getD q 0::(a.nx.getD q []).map λx=>cs.getD x.toNat 0
def CR(a:AI)(cs:List Int):List (List Int):=(List.range a.nx.length).map (JR a cs)
def dp(a:AI):Nat->List Int->Nat->List (List Int)
 | 0,cs,_=>CR a cs
 | k+1,cs,n=>if (uq (CR a cs)).length=n then CR a cs else dp a k (Fx (CR a cs)) (uq (CR a cs)).length
def I8(a:AI):List Int:=a.ac.map λb=>if b then 1 else 0
def Gt(a:AI):List (List Int):=dp a (a.nx.length+1) (I8 a) 0
def Up(a:AI):List Int:=Fx (Gt a)
def YP(a:AI)(q r:Int):Prop:=∀w,Ax (AR a.al) w->Fw a (Bk a q w)=Fw a (Bk a r w)
theorem FP(a:AI)(cs:List Int):(CR a cs).length=a.nx.length:=by simp[CR]
theorem Bz{a:AI}{cs:List Int}{q:Nat}(h:q<a.nx.length):(CR a cs)[q]?=some (JR a cs q):=by simp[CR,h]
theorem ZR{a:AI}(h:KV a){q:Nat}(e:q<a.nx.length):a.nx[q]?=some ((Ab a.al).map (Bn a q)):=by
 obtain⟨row,d,g,_⟩:=h.2 q e;rw[d];congr 1;apply uV;intro i;rw[f9]
 cases b:(Ab a.al)[i]? with
 | none=>
  have:=v8.1 b;rw[ms (by omega)];rfl
 | some l=>
  have hb:=Af (ce b);have f:=(am.1 b).1;obtain⟨y,c⟩:=get_some (l:=row) (k:=i) (by omega);rw[c,uJ];congr 1;unfold Bn;rw[if_pos hb.2.2,Gj b,kw,kw,d,vj,c];rfl
theorem PC{a:AI}(h:KV a){cs:List Int}{q:Nat}(b:q<a.nx.length):JR a cs q=cs.getD q 0::(Ab a.al).map λl=>cs.getD (Bn a q l).toNat 0:=by
 unfold JR;rw[Gg (ZR h b),uG];rfl
theorem YP.step{a:AI}{q r:Int}(h:YP a q r){l:Int}(d:l∈Ab a.al):YP a (Bn a q.toNat l) (Bn a r.toNat l):=λw g=>by
 have hb:=Af d
 have f:=h (lb l::w) (λc b=>by
  rcases lc.1 b with rfl|b
  .exact d8.2 ⟨l,d,rfl⟩
  .exact g c b)
 have e:∀p:Int,Bk a p (lb l::w)=Bk a (Bn a p.toNat l) w:=λp=>by
  show Bk a (Bn a p.toNat (((lb l).toNat:Int)-97)) w=_
  rw[FU hb.1 (by omega)]
 rw[e,e]at f;exact f
structure nj (a:AI) (ks:List (List Int)):Prop where
 len:ks.length=a.nx.length
 ac:∀q r:Nat,q<a.nx.length->r<a.nx.length->ks[q]?=ks[r]?->Fw a q=Fw a r
 go:∀q r:Nat,q<a.nx.length->r<a.nx.length->ks[q]?=ks[r]?->∀l∈Ab a.al,ks[(Bn a q l).toNat]?=ks[(Bn a r l).toNat]?
 res:∀q r:Nat,q<a.nx.length->r<a.nx.length->YP a q r->ks[q]?=ks[r]?
theorem mU{a:AI}{cs:List Int}(h:cs.length=a.nx.length):(CR a cs).map (λk=>k.headD 0)=cs:=by
 apply uV;intro i;rw[f9];by_cases hi:i<a.nx.length
 .rw[Bz hi,uJ]
  show some (cs.getD i 0)=_
  obtain⟨y,b⟩:=get_some (l:=cs) (k:=i) (by omega);rw[kw,b];rfl
 .rw[ms (by rw[FP];omega),ms (by omega)];rfl
theorem JZ{α:Type}[DecidableEq α]{l:List α}{q:Nat}{x:α}(h:l[q]?=some x):(Fx l).getD q 0=Eg l x:=by
 unfold Fx;rw[kw,f9,h];rfl
theorem bz{a:AI}(h:KV a)(z:1<=a.nx.length):∀(k:Nat) {cs:List Int} {n:Nat},cs.length=a.nx.length->
 (∀q r:Nat,q<a.nx.length->r<a.nx.length->YP a q r->cs.getD q 0=cs.getD r 0)->
 (∀q r:Nat,q<a.nx.length->r<a.nx.length->cs.getD q 0=cs.getD r 0->Fw a q=Fw a r)->
 (n=0\/n=(uq cs).length)->a.nx.length+1<=k+n->nj a (dp a k cs n)
 | 0,cs,n,t,_,_,w,hk=>by
  have:=Ks cs;omega
 | k + 1,cs,n,t,v,p,w,hk=>by
  have o:=mU (a:=a) t
  have d:∀q:Nat,q<a.nx.length->∀l∈Ab a.al,(Bn a q l).toNat<a.nx.length:=λq b l g=>by
   have hb:=Af g;have:=DC h b hb.1 (by omega);omega
  have i:∀q r:Nat,q<a.nx.length->r<a.nx.length->YP a q r->JR a cs q=JR a cs r:=λq r b c j=>by
   rw[PC h b,PC h c,v q r b c j];congr 1;refine uA λl g=>v _ _ (d q b l g) (d r c l g) ?_;have hb:=Af g;have B:=DC h b hb.1 (by omega);have A:=DC h c hb.1 (by omega);have:=j.step g;rw[f6,f6]at this;rw[show (((Bn a q l).toNat:Nat):Int)=Bn a q l by omega,show (((Bn a r l).toNat:Nat):Int)=Bn a r l by omega];exact this
  have u:1<=(uq (CR a cs)).length:=by
   have:JR a cs 0∈uq (CR a cs):=DQ.2 (ce (Bz (by omega)));exact List.length_pos_of_mem this
  have m:=av (λk:List Int=>k.headD 0) (CR a cs);rw[o]at m;unfold dp;split
  .rename_i x
   have y:(uq cs).length=(uq (CR a cs)).length:=by omega
   have s:∀q r:Nat,q<a.nx.length->r<a.nx.length->cs.getD q 0=cs.getD r 0->JR a cs q=JR a cs r:=λq r b c e=>
    ph (f:=λk:List Int=>k.headD 0) (l:=CR a cs) (by rw[o];omega) (ce (Bz b)) (ce (Bz c)) e
   refine⟨FP _ _,λq r b c e=>?_,λq r b c e l g=>?_,λq r b c e=>?_⟩
   .rw[Bz b,Bz c]at e
    injection e with e
    refine p q r b c ?_;unfold JR at e;injection e
   .rw[Bz b,Bz c]at e
    injection e with e
    rw[PC h b,PC h c]at e
    injection e with _ e
    rw[Bz (d q b l g),Bz (d r c l g)];congr 1;exact s _ _ (d q b l g) (d r c l g) (vL.1 e l g)
   .rw[Bz b,Bz c,i q r b c e]
  .rename_i x
   refine bz h z k (by simp[Fx,FP]) (λq r b c e=>?_) (λq r b c e=>?_) (.inr (c8 _).symm) (by omega)
   .rw[JZ (Bz b),JZ (Bz c),i q r b c e]
   .rw[JZ (Bz b),JZ (Bz c)]at e
    have e:=QS (ce (Bz b)) e;refine p q r b c ?_;unfold JR at e;injection e
theorem NK{a:AI}(h:KV a)(j:1<=a.nx.length)(i:a.ac.length=a.nx.length):nj a (Gt a):=by
 have f:∀q:Nat,q<a.nx.length->(I8 a).getD q 0=if Fw a q then 1 else 0:=λq d=>by
  obtain⟨b,hb⟩:=get_some (l:=a.ac) (k:=q) (by omega);unfold I8 Fw;rw[kw,f9,hb,f6,kw,hb];rfl
 refine bz h j _ (by simp[I8,i]) (λq r d g e=>?_) (λq r d g e=>?_) (.inl rfl) (by omega)
 .have e:Fw a q=Fw a r:=e [] (λc m=>by cases m)
  rw[f q d,f r g,e]
 .rw[f q d,f r g]at e
  cases j:Fw a q<;>cases n:Fw a r<;>rw[j,n]at e<;>first|rfl|cases e
theorem nj.run{a:AI}(g:KV a){ks:List (List Int)}(h:nj a ks):∀(w:W) (q r:Nat),q<a.nx.length->r<a.nx.length->ks[q]?=ks[r]?->Ax (AR a.al) w->Fw a (Bk a q w)=Fw a (Bk a r w)
 | [],q,r,f,b,e,_=>h.ac q r f b e
 | c::w,q,r,f,b,e,j=>by
  obtain⟨l,k,rfl⟩:=d8.1 (j c (by simp));have hb:=Af k;have o:=DC g f hb.1 (by omega);have n:=DC g b hb.1 (by omega);have i:=nj.run g h w (Bn a q l).toNat (Bn a r l).toNat (by omega) (by omega) (h.go q r f b e l k) λd m=>j d (by simp[m]);rw[show (((Bn a q l).toNat:Nat):Int)=Bn a q l by omega,show (((Bn a r l).toNat:Nat):Int)=Bn a r l by omega]at i
  show Fw a (Bk a (Bn a ((q:Int).toNat) (((lb l).toNat:Int)-97)) w)=Fw a (Bk a (Bn a ((r:Int).toNat) (((lb l).toNat:Int)-97)) w)
  rw[FU hb.1 (by omega),f6,f6];exact i
theorem nj.iff{a:AI}(f:KV a){ks:List (List Int)}(h:nj a ks){q r:Nat}(c:q<a.nx.length)(b:r<a.nx.length):ks[q]?=ks[r]?↔YP a q r:=
 ⟨λe w d=>h.run f w q r c b e d,h.res q r c b⟩
def Ig(a:AI)(q:Int):Int:=(Up a).getD q.toNat 0
def CN(a:AI)(k:Nat):AI:=⟨a.al,(Bv (Gt a) k).map λq=>(a.nx.getD q []).map (Ig a),(Bv (Gt a) k).map λq=>a.ac.getD q false⟩
def Eh(a:AI):AI:=CN a a.nx.length
def JY(a:AI):AI:=VC (Eh a)
structure HW (a:AI):Prop where
 b:KV a
 n1:1<=a.nx.length
 ac:a.ac.length=a.nx.length
theorem HW.sq{a:AI}(h:HW a):∀(w:W) {q:Int},Ax (AR a.al) w->0<=q/\q<((a.nx.length:Nat):Int)->0<=Bk a q w/\Bk a q w<((a.nx.length:Nat):Int)
 | [],q,_,e=>e
 | c::w,q,d,e=>by
  have f:=HQ (d c (by simp));exact HW.sq h w (λx g=>d x (by simp[g])) (DC h.b (q:=q.toNat) (by omega) f.1 f.2)
theorem mM(a:AI)(w:W):LA a w=Fw a (Bk a 0 w):=rfl
section
variable {a:AI}(h:HW a)
include h
theorem JM{q:Nat}(f:q<a.nx.length):∃x,(Gt a)[q]?=some x/\Ig a q=Eg (Gt a) x/\0<=Ig a q/\Ig a q<((Eh a).nx.length:Nat):=by
 have d:=NK h.b h.n1 h.ac;obtain⟨x,c⟩:=get_some (l:=Gt a) (k:=q) (by have:=d.len;omega)
 have e:Ig a q=Eg (Gt a) x:=by unfold Ig Up;rw[f6];exact JZ c
 have i:=PJ (ce c)
 have g:(Eh a).nx.length=(uq (Gt a)).length:=by
  unfold Eh CN;simp only[io];rw[Dj,i8 (by have:=d.len;omega)]
 exact⟨x,c,e,by omega,by omega⟩
theorem YZ{q r:Nat}(f:q<a.nx.length)(d:r<a.nx.length):Ig a q=Ig a r↔YP a q r:=by
 have i:=NK h.b h.n1 h.ac;obtain⟨x,c,e,_⟩:=JM h f;obtain⟨y,g,j,_⟩:=JM h d;rw[<-i.iff h.b f d,e,j,c,g];exact⟨λk=>by rw[QS (ce c) k],λk=>by injection k with k;rw[k]⟩
theorem WA:Ig a 0=0:=by
 have c:=h.n1;obtain⟨x,b,e,_⟩:=JM h (q:=0) (by omega);have:=(PI b).2 (by simp[uq,uniq]);have e:Ig a 0=Eg (Gt a) x:=e;rw[e,this];rfl
theorem jz{q:Nat}(g:q<a.nx.length):∃r:Nat,r<a.nx.length/\(Bv (Gt a) a.nx.length)[(Ig a q).toNat]?=some r/\YP a q r:=by
 have j:=NK h.b h.n1 h.ac;obtain⟨x,d,e,p,o⟩:=JM h g
 have i:(Eh a).nx.length=(Bv (Gt a) a.nx.length).length:=by simp[Eh,CN]
 obtain⟨r,f⟩:=get_some (l:=Bv (Gt a) a.nx.length) (k:=(Ig a q).toNat) (by omega);obtain⟨m,y,n,c⟩:=FY _ _ _ _ f;rw[i8 (by have:=j.len;omega)]at c;rw[e,QR (ce d)]at c
 injection c with c
 subst c;exact⟨r,m,f,(j.iff h.b g m).1 (d.trans n.symm)⟩
theorem cC{i:Nat}(hi:i<(Eh a).nx.length):∃r:Nat,r<a.nx.length/\Ig a r=i:=by
 have n:=NK h.b h.n1 h.ac
 have d:(Eh a).nx.length=(Bv (Gt a) a.nx.length).length:=by simp[Eh,CN]
 obtain⟨r,m⟩:=get_some (l:=Bv (Gt a) a.nx.length) (k:=i) (by omega);obtain⟨g,y,c,f⟩:=FY _ _ _ _ m;rw[i8 (by have:=n.len;omega)]at f;obtain⟨x,j,e,_⟩:=JM h g
 rw[j]at c;injection c with c;subst c
 refine⟨r,g,?_⟩;rw[e];exact bP f
theorem o3:HW (Eh a)/\(Eh a).nx.length<=a.nx.length:=by
 have n:=NK h.b h.n1 h.ac;have hb:=h.b
 have m:(Eh a).nx.length=(uq (Gt a)).length:=by
  unfold Eh CN;simp only[io];rw[Dj,i8 (by have:=n.len;omega)]
 have z:=Ks (Gt a);have w:=n.len;have v:=h.n1;obtain⟨x,u,e,B,A⟩:=JM h (q:=0) (by omega);refine⟨⟨⟨by have:=hb.1;omega,λq f=>?_⟩,by omega,by simp[Eh,CN]⟩,by omega⟩;have f:q<((Bv (Gt a) a.nx.length).map λq=>(a.nx.getD q []).map (Ig a)).length:=f;rw[io]at f;obtain⟨r,j⟩:=get_some f;obtain⟨s,_⟩:=FY _ _ _ _ j;have d:=ZR hb s;refine⟨((Ab a.al).map (Bn a r)).map (Ig a),?_,by simp;rfl,λk y c=>?_⟩
 .show ((Bv (Gt a) a.nx.length).map _)[q]?=_
  rw[f9,j,uJ,Gg d]
 .rw [f9,f9]at c
  cases i:(Ab a.al)[k]? with
  | none=>rw[i]at c;cases c
  | some l=>
   rw[i]at c
   injection c with c
   have g:=Af (ce i);have t:=DC hb s g.1 (by omega);obtain⟨_,_,_,p,o⟩:=JM h (q:=(Bn a r l).toNat) (by omega);rw[show (((Bn a r l).toNat:Nat):Int)=Bn a r l by omega]at p o;subst c;exact⟨p,o⟩
theorem jv{q:Nat}(g:q<a.nx.length){l:Int}(f:l∈Ab a.al):Bn (Eh a) (Ig a q).toNat l=Ig a (Bn a q l):=by
 obtain⟨r,j,n,m⟩:=jz h g;have c:=Af f;have d:=ZR h.b j
 have e:Bn (Eh a) (Ig a q).toNat l=Ig a (Bn a r l):=by
  unfold Bn;rw[show AS (Eh a).al l.toNat=true from c.2.2,c.2.2,if_pos rfl,if_pos rfl]
  show (((Bv (Gt a) a.nx.length).map λq=>(a.nx.getD q []).map (Ig a)).getD _ []).getD _ 0=_
  rw[kw,kw,f9,n,uJ,vj,f9,Gg d]
  show Option.getD (Option.map (Ig a) ((Ab a.al).map (Bn a r))[(AF a.al l.toNat).length]?) 0=Ig a (((Ab a.al).map (Bn a r)).getD (AF a.al l.toNat).length 0)
  rw[kw,f9,N9 f];rfl
 rw[e];have p:=DC h.b g c.1 (by omega);have o:=DC h.b j c.1 (by omega);have i:=m.step f;rw[f6,f6]at i
 have:=(YZ h (q:=(Bn a r l).toNat) (r:=(Bn a q l).toNat) (by omega) (by omega)).2 (by
  rw[show (((Bn a r l).toNat:Nat):Int)=Bn a r l by omega,show (((Bn a q l).toNat:Nat):Int)=Bn a q l by omega]
  exact λw k=>(i w k).symm)
 rw[show (((Bn a r l).toNat:Nat):Int)=Bn a r l by omega,show (((Bn a q l).toNat:Nat):Int)=Bn a q l by omega]at this;exact this
theorem ju{q:Nat}(b:q<a.nx.length):Fw (Eh a) (Ig a q)=Fw a q:=by
 obtain⟨r,i,g,f⟩:=jz h b;have e:Fw a q=Fw a r:=f [] (λc d=>by cases d);rw[e];unfold Fw
 show ((Bv (Gt a) a.nx.length).map λq=>a.ac.getD q false).getD _ false=_
 rw[kw,f9,g,f6];rfl
theorem cr:∀(w:W) {q:Nat},q<a.nx.length->Ax (AR a.al) w->Bk (Eh a) (Ig a q) w=Ig a (Bk a q w)
 | [],q,_,_=>rfl
 | c::w,q,i,g=>by
  obtain⟨l,j,rfl⟩:=d8.1 (g c (by simp));have e:=Af j;have m:=DC h.b i e.1 (by omega);have f:=cr w (q:=(Bn a q l).toNat) (by omega) λd k=>g d (by simp[k]);rw[show (((Bn a q l).toNat:Nat):Int)=Bn a q l by omega]at f
  show Bk (Eh a) (Bn (Eh a) (Ig a q).toNat (((lb l).toNat:Int)-97)) w=Ig a (Bk a (Bn a ((q:Int).toNat) (((lb l).toNat:Int)-97)) w)
  rw[FU e.1 (by omega),f6,jv h i j];exact f
theorem Vp{q:Nat}(c:q<a.nx.length){w:W}(b:Ax (AR a.al) w):Fw (Eh a) (Bk (Eh a) (Ig a q) w)=Fw a (Bk a q w):=by
 have:=h.sq w (q:=(q:Int)) b (by omega);rw[cr h w c b];have e:=ju h (q:=(Bk a q w).toNat) (by omega);rwa[show (((Bk a q w).toNat:Nat):Int)=Bk a q w by omega]at e
theorem o4{w:W}(b:Ax (AR a.al) w):LA (Eh a) w=LA a w:=by
 have c:=h.n1;have:=Vp h (q:=0) (by omega) b;rw[show (((0:Nat):Int))=0 from rfl,WA h]at this;exact this
theorem o5{i j:Nat}(hi:i<(Eh a).nx.length)(f:j<(Eh a).nx.length)(d:YP (Eh a) i j):i=j:=by
 obtain⟨q,e,k⟩:=cC h hi;obtain⟨r,b,g⟩:=cC h f;rw[<-k,<-g]at d
 have:=(YZ h e b).2 λw c=>by
  have:=d w c;rwa[Vp h e c,Vp h b c]at this
 omega
end
structure pM (a m:AI):Prop where
 al:m.al=a.al
 g:HW m
 n2:m.nx.length<=a.nx.length
 lang:∀w,Ax (AR a.al) w->LA m w=LA a w
 rc:∀i:Nat,i<m.nx.length->∃w,Ax (AR a.al) w/\Bk m 0 w=i
 ds:∀i j:Nat,i<m.nx.length->j<m.nx.length->YP m i j->i=j
theorem rF{a:AI}(h:HW a)(u:∀i j:Nat,i<a.nx.length->j<a.nx.length->YP a i j->i=j){i j:Nat}(hi:i<(VC a).nx.length)(g:j<(VC a).nx.length)(o:YP (VC a) i j):i=j:=by
 obtain⟨nd,rows,_,n,F,p,e⟩:=aj h.b h.n1;have B:=n.len;rw[e]at hi g o;have hi:i<rows.length:=hi;have g:j<rows.length:=g;obtain⟨x,f⟩:=get_some (l:=nd) (k:=i) (by omega);obtain⟨y,d⟩:=get_some (l:=nd) (k:=j) (by omega)
 have key:∀ {k:Nat} {z:Int},nd[k]?=some z->∀ {w:W},Ax (AR a.al) w->Fw ⟨a.al,rows,nd.map (Fw a)⟩ (Bk ⟨a.al,rows,nd.map (Fw a)⟩ k w)=Fw a (Bk a z w):=λ{k z} q {w} c=>by
  obtain⟨m,A,v⟩:=MR n (ac:=nd.map (Fw a)) w c q;rw[A]
  show (nd.map (Fw a)).getD ((m:Int).toNat) false=_
  rw[f6,kw,f9,v];rfl
 have t:=p x (ce f);have r:=p y (ce d)
 have s:=u x.toNat y.toNat (by omega) (by omega) λw c=>by
  have:=o w c;rw[key f c,key d c]at this;rw[show ((x.toNat:Nat):Int)=x by omega,show ((y.toNat:Nat):Int)=y by omega];exact this
 obtain rfl:x=y:=by omega
 exact(wC (by omega) n.nodup).1 (f.trans d.symm)
theorem ir{a:AI}(h:HW a):pM a (JY a):=by
 obtain⟨c,o⟩:=o3 h;obtain⟨m,l,n,k,g⟩:=ue c.b c.n1;unfold JY;exact⟨rC _,⟨m,l,k⟩,by omega,λw f=>by rw[pL c.b c.n1 f];exact o4 h f,g,λi j hi e d=>rF c (λi j hi e d=>o5 h hi e d) hi e d⟩
theorem canon{a x:AI}(h:HW a)(K:HW x)(hal:x.al=a.al)(lang:∀w,Ax (AR a.al) w->LA x w=LA a w)(rc:∀i:Nat,i<x.nx.length->∃w,Ax (AR a.al) w/\Bk x 0 w=i)(ds:∀i j:Nat,i<x.nx.length->j<x.nx.length->YP x i j->i=j):VC x=JY a:=by
 obtain⟨Q,g2⟩:=o3 h;have hn1:=h.n1;have F:=K.n1
 obtain⟨wd,d⟩:∃wd:Int->W,∀i:Int,0<=i/\i<((x.nx.length:Nat):Int)->Ax (AR a.al) (wd i)/\Bk x 0 (wd i)=i:=by
  refine⟨λi=>if hi:0<=i/\i<((x.nx.length:Nat):Int) then Classical.choose (rc i.toNat (by omega)) else [],λi hi=>?_⟩;have:=xh (rc i.toNat (by omega));simp only[hi,and_self,dite_true];exact⟨this.1,by rw[this.2];omega⟩
 have m:∀ {w:W},Ax (AR a.al) w->0<=Bk a 0 w/\Bk a 0 w<((a.nx.length:Nat):Int):=λk=>h.sq _ k (by omega)
 have I:∀ {u v:W},Ax (AR a.al) u->Ax (AR a.al) v->Ax (AR a.al) (u++v):=λhu hv c o=>by
  rcases f7.1 o with o|o
  .exact hu c o
  .exact hv c o
 have z:∀ {p q:Int},(0<=p/\p<((a.nx.length:Nat):Int))->(0<=q/\q<((a.nx.length:Nat):Int))->(Ig a p=Ig a q↔YP a p q):=λ{p q} hp G=>by
  have:=YZ h (q:=p.toNat) (r:=q.toNat) (by omega) (by omega);rwa[show ((p.toNat:Nat):Int)=p by omega,show ((q.toNat:Nat):Int)=q by omega]at this
 have n:∀ {i:Int} {w:W},(0<=i/\i<((x.nx.length:Nat):Int))->Ax (AR a.al) w->Fw a (Bk a (Bk a 0 (wd i)) w)=Fw x (Bk x i w):=λ{i w} hi k=>by
  obtain⟨B,J⟩:=d i hi;have:=lang (wd i++w) (I B k);rw[mM,mM,IN,IN,J]at this;exact this.symm
 have L:Ab x.al=Ab a.al:=by rw[hal]
 have N:∀q l:Int,(0<=q/\q<((x.nx.length:Nat):Int))->l∈Ab a.al->0<=fA x q l/\fA x q l<((x.nx.length:Nat):Int):=λq l G A=>by
  have t:=Af A;exact DC K.b (q:=q.toNat) (by omega) t.1 (by omega)
 have iso:=iM (lim:=x.nx.length+(Eh a).nx.length) (f:=fA x) (g:=fA (Eh a)) (ls:=Ab a.al) (R:=λi=>0<=i/\i<((x.nx.length:Nat):Int)) (φ:=λi=>Ig a (Bk a 0 (wd i))) (s:=0)
  (λi j hi U e=>by
   have e2:=(z (m (d i hi).1) (m (d j U).1)).1 e
   have:=ds i.toNat j.toNat (by omega) (by omega) λw k=>by
    rw[hal]at k;rw[show ((i.toNat:Nat):Int)=i by omega,show ((j.toNat:Nat):Int)=j by omega,<-n hi k,<-n U k];exact e2 w k
   omega)
  (λq l G A=>by
   have t:=Af A;have B:=N q l G A;refine⟨B,?_⟩;have J:=m (d q G).1;have X:=jv h (q:=(Bk a 0 (wd q)).toNat) (by omega) A;rw[show (((Bk a 0 (wd q)).toNat:Nat):Int)=Bk a 0 (wd q) by omega]at X
   show _=Bn (Eh a) (Ig a (Bk a 0 (wd q))).toNat l
   rw[X];have h4:=DC h.b (q:=(Bk a 0 (wd q)).toNat) (by omega) t.1 (by omega);refine(z (m (d _ B).1) h4).2 λw k=>?_;rw[n B k]
   have P:Ax (AR a.al) (lb l::w):=λc o=>by
    rcases lc.1 o with rfl|o
    .exact d8.2 ⟨l,A,rfl⟩
    .exact k c o
   have V:=n G P
   have e:∀(y:AI) (p:Int),Bk y p (lb l::w)=Bk y (Bn y p.toNat l) w:=λy p=>by
    show Bk y (Bn y p.toNat (((lb l).toNat:Int)-97)) w=_
    rw[FU t.1 (by omega)]
   rw[e,e]at V
   exact V.symm)
  (show (0:Int)<=0/\(0:Int)<((x.nx.length:Nat):Int) by omega)
 have e0:Ig a (Bk a 0 (wd 0))=0:=by
  refine Eq.trans ?_ (WA h)
  have Y:(0:Int)<=0/\(0:Int)<((x.nx.length:Nat):Int):=by omega
  refine(z (q:=0) (m (d 0 Y).1) (by omega)).2 λw k=>?_;rw[n Y k];exact lang w k
 simp only[e0]at iso;obtain⟨nd,rows,S,n2,n3,n4,n5⟩:=aj K.b F;obtain⟨nd',rows',T,m2,m3,m4,m5⟩:=aj Q.b Q.n1;rw[L]at S;have M:Ab (Eh a).al=Ab a.al:=rfl;rw[M]at T;obtain⟨_,_,Z⟩:=PL F S;obtain⟨_,_,m6⟩:=PL Q.n1 T;rw[Z _ (by omega),m6 _ (by omega)]at iso;simp only[uJ,Option.some.injEq,Prod.mk.injEq]at iso;obtain⟨i1,i2⟩:=iso;unfold JY;rw[n5,m5,i1,i2,uG]
 have e:nd.map (Fw x)=nd.map (Fw (Eh a)∘λi=>Ig a (Bk a 0 (wd i))):=uA λi hi=>by
  have H:=n4 i hi;have B:=m (d i H).1;have J:=ju h (q:=(Bk a 0 (wd i)).toNat) (by omega);rw[show (((Bk a 0 (wd i)).toNat:Nat):Int)=Bk a 0 (wd i) by omega]at J
  show Fw x i=Fw (Eh a) (Ig a (Bk a 0 (wd i)))
  rw[J];exact(n H (w:=[]) (λc o=>by cases o)).symm
 rw[e]
 show (⟨x.al,_,_⟩:AI)=⟨a.al,_,_⟩
 rw[hal]
theorem pf{x:AI}(c:HW x)(rc:∀i:Nat,i<x.nx.length->∃w,Ax (AR x.al) w/\Bk x 0 w=i):(VC x).nx.length=x.nx.length:=by
 obtain⟨nd,rows,p,a,o,n,f⟩:=aj c.b c.n1;have q:=a.len
 have key:∀i:Nat,i<x.nx.length->(i:Int)∈nd:=λi hi=>by
  obtain⟨w,k,e⟩:=rc i hi;obtain⟨j,r,d⟩:=MR a (ac:=[]) w k a.st;rw[e]at d;exact ce d
 have := FX (l:=(List.range x.nx.length).map Int.ofNat) (m:=nd) (by
  unfold List.Nodup;rw[uU]
  exact List.nodup_range.imp λh e=>h (by injection e)) λy g=>by
   obtain⟨i,hi,rfl⟩:=d8.1 g;exact key i (mt.1 hi)
 rw[f]
 show rows.length=_
 simp at this;omega
def tw(k:Nat):List Int:=(List.range k).map λ(i:Nat)=>(i:Int)
end Go.Am
namespace Go.Am
open Go Go.Proofs
set_option maxHeartbeats 1000000
set_option maxRecDepth 4000
attribute [local irreducible] A5 CQ Lex BC Al Spec
theorem gr(te:EO)(x:AW):Bt (Ge te) (Es te) x=(CP te && Bt (Cj te) (A1 te) x):=by
 rw[Dv,Dv,<-Bool.and_assoc,Du];cases a:A4 (Ge te) (Es te) x
 .rw[we,we]
 .obtain⟨d,c,f,b,e⟩:=C3 a
  rw[c,Og (IT d) b.bd (by omega)]
theorem JL{te:EO}{x:AW}(h:(CP te && Bt (Cj te) (A1 te) x)=true):A4 (Ge te) (Es te) x=true/\A7 (Cj te) (AR (A1 te)) x=none/\Cb (Cj te) (AR (A1 te)) x:=by
 rw[d4]at h;obtain⟨c,b,a⟩:=NI h.2;exact⟨by rw[<-Du,h.1,c];rfl,b,a⟩
theorem jW(te:EO)(x:AW)(w:W):Gb (Ge te) (Es te) x w=Fq te x w:=by
 unfold Gb Fq;rw[gr];cases d:(CP te && Bt (Cj te) (A1 te) x)
 .rw[we,we,if_neg uZ,if_neg uZ]
 .obtain⟨c,i,b⟩:=JL d
  obtain⟨g,f,k,e,j⟩:=C3 c;rw[f,uj];by_cases a:FQ (A1 te) w=true
  .obtain⟨h,l,_⟩:=N5 a
   rw[if_pos a,if_pos a,Z0 (IT g) e.bd (by omega) b h (by omega)]
  .rw[if_neg a,if_neg a]
theorem RG{te:EO}{x:AW}{w v:W}(h:Fq te x w=some v):(CP te && Bt (Cj te) (A1 te) x)=true/\Ax (AR (A1 te)) w/\w.length<=4000/\Lm (Cj te) x w≠Cj te w/\splitAt (Cj te) x (Cj te w) 0 w=some v/\Split (Cj te) (AR (A1 te)) x w v:=by
 unfold Fq at h;by_cases a:(CP te && Bt (Cj te) (A1 te) x && FQ (A1 te) w)=true
 .rw [if_pos a]at h
  rw[d4]at a;obtain⟨a,f⟩:=a;obtain⟨i,j,b⟩:=JL a;obtain⟨c,g,_⟩:=N5 f;unfold CD at h;by_cases ha:Lm (Cj te) x w=Cj te w
  .rw[if_pos ha]at h;cases h
  .rw[if_neg ha]at h
   obtain⟨v',e,d⟩:=RH b (Cj te w) w 0 [] c b.r0 rfl ha;rw[e]at h
   injection h with h;subst h
   exact⟨a,c,g,ha,e,d⟩
 .rw[if_neg a]at h;cases h
theorem fe{te:EO}{x:AW}{w:W}(c:(CP te && Bt (Cj te) (A1 te) x)=true)(b:FQ (A1 te) w=true):(Fq te x w).isSome=decide (Lm (Cj te) x w≠Cj te w):=by
 obtain⟨f,i,a⟩:=JL c;obtain⟨d,j,_⟩:=N5 b;unfold Fq;rw[c,b,uj,if_pos rfl];unfold CD;by_cases ha:Lm (Cj te) x w=Cj te w
 .rw[if_pos ha,decide_eq_false (λh=>h ha)];rfl
 .obtain⟨v',e,g⟩:=RH a (Cj te w) w 0 [] d a.r0 rfl ha
  rw[if_neg ha,e,decide_eq_true ha];rfl
theorem RK(te:EO)(x:AW)(w:W):Lj te x w=(Fq te x w).bind λv=>(KZ te x v).bind λu=>FN te u:=by
 unfold Lj
 cases a:Fq te x w with
 | none=>
  unfold Fq at a;split
  .rename_i b
   rw[if_pos b]at a;unfold HB;rw[a];rfl
  .rfl
 | some v=>
  obtain⟨b,r,k,ha,e,g⟩:=RG a
  have i:(CP te && Bt (Cj te) (A1 te) x && FQ (A1 te) w)=true:=by
   unfold Fq at a;split at a
   .assumption
   .cases a
  rw[if_pos i];obtain⟨j,z,o⟩:=JL b;obtain⟨q,G,F,B,A⟩:=C3 j;unfold HB CD;rw[if_neg ha,e]
  show (FM x v).bind _=(KZ te x v).bind _
  obtain⟨p,_,hp⟩:=g.suf;have h:FQ (A1 te) v=true:=PD (HC q) (λc b=>r c (by rw[hp];simp[b])) (by rw[hp]at k;simp at k;omega)
  have d:KZ te x v=FM x v:=by unfold KZ;rw[Du,j,h];rfl
  rw[d]
  cases n:FM x v with
  | none=>rfl
  | some u=>
   obtain⟨_,_,_,_,f,_⟩:=Ug (d.trans n);obtain⟨m,y,l,t,s⟩:=C3 f
   show Bd _ _ 13 u=FN te u
   unfold FN;rw[m,l];rfl
theorem mn(te:EO)(x:AW)(w:W):Nj (Ge te) (Es te) x w=Lj te x w:=by
 rw[RK];unfold Nj;rw[jW];congr 1;funext v;rw[nu];congr 1;funext u;exact Wy te u
theorem X9{te:EO}{x u:AW}{w v:W}(h:Fq te x w=some v)(ha:KZ te x v=some u):A7 (Cj te) (AR (A1 te)) u≠none:=by
 obtain⟨i,k,j,g,e,a⟩:=RG h;obtain⟨_,_,_,rfl,_,_⟩:=Ug ha;obtain⟨r,d,c,b,f⟩:=a.opens;exact lN (t:=⟨x.rows,x.cols++[v]⟩) d b f
theorem ff{te:EO}{x:AW}{w v:W}(h:Fq te x w=some v)(i:x.cols.length≠20):∃u,KZ te x v=some u:=by
 obtain⟨d,l,g,ha,e,a⟩:=RG h;obtain⟨f,m,j⟩:=JL d;obtain⟨k,r,q,o,n⟩:=C3 f;obtain⟨p,_,hp⟩:=a.suf;have b:FQ (A1 te) v=true:=PD (HC k) (λc d=>l c (by rw[hp];simp[d])) (by rw[hp]at g;simp at g;omega);unfold KZ;rw[Du,f,b];unfold FM;rw[if_neg (not_or.2 ⟨i,a.new⟩)];exact⟨_,rfl⟩
theorem o9{te:EO}{x y:AW}{w:W}(h:Lj te x w=some y):(Fq te x w).isSome=true/\A4 (Ge te) (Es te) x=true/\A4 (Ge te) (Es te) y=true/\A7 (Cj te) (AR (A1 te)) y=none/\x.rows <+: y.rows/\x.rows.length<y.rows.length/\∃v,y.cols=x.cols++[v]:=by
 rw[RK]at h
 cases b:Fq te x w with
 | none=>rw[b]at h;cases h
 | some v=>
  rw[b]at h;have h:(KZ te x v).bind (λu=>FN te u)=some y:=h
  cases ha:KZ te x v with
  | none=>rw[ha]at h;cases h
  | some u=>
   rw[ha]at h;have h:FN te u=some y:=h;have c:=X9 b ha;obtain⟨j,_,_,rfl,a,_⟩:=Ug ha;obtain⟨i,g,f,e,d,k⟩:=kM a h;exact⟨rfl,j,i,g,f,d c,v,e⟩
abbrev JB:AI:=⟨0,[],[]⟩
abbrev Dm(s:Sys)(p:AI)(al:Int):EO:=⟨false,JB,s,p,al⟩
noncomputable def GC(s t:Sys)(p:AI)(al:Int)(a:AI):Option (W×Bool):=match DS s a p with
 | some u=>some (Dt (BS al u),true)
 | none=>match BU [t] a with
  | some v=>some (Dt (BS al v),false)
  | none=>none
noncomputable def BN(s:Sys)(p:AI)(al:Int)(x:AW):AI:=AV (LS ⟨s,p,al⟩) al x
noncomputable def ID(s t:Sys)(p:AI)(al:Int)(x:AW):Option AW:=match GC s t p al (BN s p al x) with
 | some (w,b)=>if (b || LS ⟨s,p,al⟩ w)=true then Lj (Dm s p al) x w else none
 | none=>none
noncomputable def EU(s t:Sys)(p:AI)(al:Int):Nat->AW->List AW
 | 0,x=>[x]
 | k+1,x=>x::match ID s t p al x with
  | some y=>EU s t p al k y
  | none=>[]
structure Vd where
 code:Int
 a:AI
 tr:W
 rd:Int
noncomputable def QJ(s t:Sys)(p:AI)(al:Int)(x:AW)(r:Nat):Vd:=match GC s t p al (BN s p al x) with
 | none=>⟨0,BN s p al x,[],r⟩
 | some (w,b)=>if (b || LS ⟨s,p,al⟩ w)=true then ⟨2,JB,[],r⟩ else ⟨1,JB,Pe (BU [s,t] p),r⟩
noncomputable def mw(s:Sys)(p:AI)(al:Int):AW:=(UP (Dm s p al)).getD Br
noncomputable def BT(s t:Sys)(p:AI)(al:Int):List AW:=EU s t p al 11 (mw s p al)
noncomputable def BL(s t:Sys)(p:AI):Vd:=if Bj s p t<0 then ⟨3,JB,[],0⟩ else
 QJ s t p (Bj s p t) ((BT s t p (Bj s p t)).getLastD Br) (BT s t p (Bj s p t)).length
structure Hi (s:Sys) (p:AI) (al:Int) (x:AW) (r:Nat):Prop where
 v:A4 (Ge (Dm s p al)) (Es (Dm s p al)) x=true
 o:A7 (LS ⟨s,p,al⟩) (AR al) x=none
 rows:r<=x.rows.length
 cols:x.cols.length=r
theorem Js(s:Sys)(p:AI)(al:Int):Cj (Dm s p al)=LS ⟨s,p,al⟩:=by
 funext w;unfold Cj;rw[if_neg uZ]
theorem DO(s:Sys)(p:AI)(al:Int):A1 (Dm s p al)=al:=by
 unfold A1;rw[if_neg uZ]
theorem Vz{s:Sys}{p:AI}{al:Int}(h:AY ⟨s,p,al⟩=true):UP (Dm s p al)=some (mw s p al)/\Hi s p al (mw s p al) 1:=by
 have hk:CP (Dm s p al)=true:=by unfold CP;rw[if_neg uZ];exact h
 obtain⟨u,e,d,a,c,g,b,f⟩:=ox hk;unfold mw;rw[e];refine⟨rfl,d,?_,?_,by show u.cols.length=1;rw[c];rfl⟩
 .rw[Js,DO]at a;exact a
 .show 1<=u.rows.length
  have:=(am.1 b.r0).1;omega
theorem ZG{s t:Sys}{p:AI}{al:Int}{x y:AW}{r:Nat}(a:Hi s p al x r)(h:ID s t p al x=some y):Hi s p al y (r+1)/\x.rows.length<y.rows.length:=by
 unfold ID at h;split at h
 .split at h
  .obtain⟨_,_,e,b,_,d,v,c⟩:=o9 h
   have f:=a.rows;have g:=a.cols;rw[Js,DO]at b;exact⟨⟨e,b,by omega,by rw[c];simp;omega⟩,d⟩
  .cases h
 .cases h
theorem RN{s:Sys}{p:AI}{al:Int}{x:AW}{r:Nat}(b:Hi s p al x r):x.rows.length<=12/\r<=12:=by
 obtain⟨_,_,_,a,_⟩:=C3 b.v;have:=a.rl;have:=b.rows;omega
theorem RQ{s t:Sys}{p:AI}{al:Int}:∀(k:Nat) {x:AW} {r:Nat},Hi s p al x r->∀(i:Nat) (y:AW),(EU s t p al k x)[i]?=some y->Hi s p al y (r+i)
 | 0,x,r,a,i,y,h=>by
  cases i with
  | zero=>simp[EU]at h;subst h;exact a
  | succ i=>simp[EU]at h
 | k + 1,x,r,a,i,y,h=>by
  cases i with
  | zero=>simp[EU]at h;subst h;exact a
  | succ i=>
   simp only[EU,wY]at h
   cases b:ID s t p al x with
   | none=>rw[b]at h;simp at h
   | some z=>
    rw[b]at h;have:=RQ k (ZG a b).1 i y h;rwa[show r+1+i=r+(i+1) by omega]at this
theorem j9{s t:Sys}{p:AI}{al:Int}(k:Nat)(x:AW):EU s t p al k x≠[]:=by cases k<;>simp[EU]
theorem RP{s t:Sys}{p:AI}{al:Int}:∀(k:Nat) {x:AW} {r:Nat},Hi s p al x r->12<=k+r->∀(i:Nat) (y:AW),(EU s t p al k x)[i]?=some y->(EU s t p al k x)[i+1]?=ID s t p al y
 | 0, x,r,b,hk,i,y,h=>by
  cases i with
  | zero=>
   simp[EU]at h;subst h
   cases a:ID s t p al x with
   | none=>simp[EU]
   | some z=>
    have:=RN (ZG b a).1;omega
  | succ i=>simp[EU]at h
 | k + 1,x,r,b,hk,i,y,h=>by
  simp only[EU]at h |-
  cases a:ID s t p al x with
  | none=>
   rw[a]at h
   cases i with
   | zero=>simp at h;subst h;simp[a]
   | succ i=>simp at h
  | some z=>
   rw[a]at h
   cases i with
   | zero=>
    simp at h;subst h;rw[a];cases k<;>simp[EU]
   | succ i=>
    simp only[wY]at h |-;exact RP k (ZG b a).1 (by omega) i y h
section
variable {s t:Sys}{p:AI}{al:Int}(hI:E5 s p t al)
include hI
theorem run_get{i:Nat}{x:AW}(h:(BT s t p al)[i]?=some x):Hi s p al x (i+1)/\(BT s t p al)[i+1]?=ID s t p al x:=by
 obtain⟨_,b⟩:=Vz (GU hI);have a:=RQ 11 b i x h;rw[wS]at a;exact⟨a,RP 11 b (by omega) i x h⟩
theorem KJ:1<=(BT s t p al).length/\(BT s t p al).length<=12:=by
 have a:BT s t p al≠[]:=j9 11 _;have c:1<=(BT s t p al).length:=xo.2 a;obtain⟨x,b⟩:=get_some (l:=BT s t p al) (k:=(BT s t p al).length-1) (by omega);have:=(RN (run_get hI b).1).2;omega
theorem jN:∃x,(BT s t p al).getLastD Br=x/\Hi s p al x (BT s t p al).length/\ID s t p al x=none:=by
 have d:=KJ hI;obtain⟨x,a⟩:=get_some (l:=BT s t p al) (k:=(BT s t p al).length-1) (by omega);obtain⟨c,b⟩:=run_get hI a;rw[show (BT s t p al).length-1+1=(BT s t p al).length by omega]at c b;refine⟨x,?_,c,?_⟩
 .rw[List.getLastD_eq_getLast?,List.getLast?_eq_getElem?,a];rfl
 .rw[<-b];simp
theorem WW:¬Bj s p t<0:=by
 have:=OL hI;rw[hI.hal]at this;unfold A2 at this;simp only[decide_eq_true_eq]at this;omega
theorem IZ{x:AW}{r:Nat}(c:Hi s p al x r):AJ (BN s p al x)=true/\(BN s p al x).al=al/\(BN s p al x).nx.length=x.rows.length/\Cb (LS ⟨s,p,al⟩) (AR al) x:=by
 obtain⟨_,_,d,b,_⟩:=C3 c.v;have hk:=HD d;rw[Js,DO]at hk
 have a:Cb (LS ⟨s,p,al⟩) (AR al) x:=⟨hk,Hx c.o⟩
 exact⟨Pt (OL hI) a b.rl,rfl,by simp[BN,AV],a⟩
theorem ft{x:AW}{r:Nat}(b:Hi s p al x r):C1 s (BN s p al x) p=true/\(AZ [t] && AJ (BN s p al x))=true:=by
 obtain⟨a,_⟩:=IZ hI b;exact⟨by unfold C1;rw[hI.hs,a,hI.hp];rfl,by rw[IF,hI.ht,a];rfl⟩
theorem dB{x:AW}{r:Nat}(a:Hi s p al x r):(GC s t p al (BN s p al x)=none↔I9 s t p (BN s p al x)=0)/\(I9 s t p (BN s p al x)=0\/I9 s t p (BN s p al x)=3\/I9 s t p (BN s p al x)=4):=by
 obtain⟨f,e,_⟩:=IZ hI a;obtain⟨c,b⟩:=ft hI a;have d:=WW hI
 have hal:(BN s p al x).al=Bj s p t:=by rw[e,hI.hal]
 unfold I9;rw[if_neg (not_or.2 ⟨d,by rw[f];simp⟩),if_neg (λh=>h hal)];unfold GC NZ ED;rw[c,b,uj,uj]
 cases DS s (BN s p al x) p with
 | some u=>simp
 | none=>
  cases BU [t] (BN s p al x) with
  | some v=>simp
  | none=>simp
theorem pj:∃x,Hi s p al x (BT s t p al).length/\ID s t p al x=none/\BL s t p=QJ s t p al x (BT s t p al).length:=by
 obtain⟨x,c,b,a⟩:=jN hI;refine⟨x,b,a,?_⟩;unfold BL;rw[if_neg (WW hI),<-hI.hal,c]
theorem KR:∃x,Hi s p al x (BT s t p al).length/\ID s t p al x=none/\
    ((BL s t p=⟨0,BN s p al x,[],(BT s t p al).length⟩/\I9 s t p (BN s p al x)=0)\/
     (BL s t p=⟨2,JB,[],(BT s t p al).length⟩/\∃w b,GC s t p al (BN s p al x)=some (w,b)/\(b || LS ⟨s,p,al⟩ w)=true/\Lj (Dm s p al) x w=none)\/
     (BL s t p=⟨1,JB,Pe (BU [s,t] p),(BT s t p al).length⟩/\ED [s,t] p=false/\(BU [s,t] p).isSome=true)):=by
  obtain⟨x,e,c,i⟩:=pj hI;refine⟨x,e,c,?_⟩;rw[i];unfold QJ;have h:=dB hI e;unfold ID at c
  cases a:GC s t p al (BN s p al x) with
  | none=>exact .inl ⟨rfl,h.1.1 a⟩
  | some wb=>
    obtain⟨w,b⟩:=wb;rw[a]at c;simp only at c |-;by_cases hb:(b || LS ⟨s,p,al⟩ w)=true
    · rw[if_pos hb]at c |-
      exact .inr (.inl ⟨rfl,w,b,rfl,hb,c⟩)
    · rw [if_neg hb]
      refine .inr (.inr ⟨rfl,?_⟩)
      have hb:b=false/\LS ⟨s,p,al⟩ w=false:=by simpa using hb
      unfold GC at a;split at a
      · injection a with a;injection a with _ a;rw[hb.1]at a;cases a
      · split at a
        · rename_i v f
          injection a with a;injection a with a _
          subst a;obtain⟨n,m,k,j,l⟩:=HI f;have hk:=VD hI k j hb.2;refine⟨hk,?_⟩;unfold ED at hk
          have d:(AZ [s,t] && AJ p)=true:=by rw[KE,hI.hs,hI.ht,hI.hp];rfl
          rw[d,uj]at hk
          cases g:BU [s,t] p with
          | none=>rw[g]at hk;cases hk
          | some _=>rfl
        · cases a
theorem eL{x:AW}{r:Nat}(f:Hi s p al x r){w:W}{b:Bool}(h:GC s t p al (BN s p al x)=some (w,b))(hb:(b || LS ⟨s,p,al⟩ w)=true):Ax (AR al) w/\LA (BN s p al x) w≠LS ⟨s,p,al⟩ w:=by
 obtain⟨k,e,_,j⟩:=IZ hI f;unfold GC at h;split at h
 .rename_i u i
  injection h with h;injection h with h d
  subst h;obtain⟨c,a,l⟩:=Sf hI k e i;exact⟨Oy c,by rw[a,l];simp⟩
 .split at h
  .rename_i v g
   injection h with h;injection h with h d
   subst h d;obtain⟨c,a⟩:=Qe g;rw[e]at c a;rw[wu]at hb;exact⟨Oy c,by rw[a,hb];simp⟩
  .cases h
end
end Go.Am
