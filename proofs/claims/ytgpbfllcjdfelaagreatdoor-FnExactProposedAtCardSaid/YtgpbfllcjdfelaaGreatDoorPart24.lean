/-
  The reference's automaton of a closed table.
-/
import Derived.Test.YtgpbfllcjdfelaaGreatDoorPart23
set_option linter.all false
namespace Go.Am
open Go Go.Proofs
set_option maxHeartbeats 1000000
set_option maxRecDepth 4000
attribute [local irreducible] AP BH Lex A4 Al Spec
variable {TB:Bg}
def GI(o:Option A5):E:=match o with
 | some p=>.t [(true,[.d (iD p.al),.d (CG p.nx),.d (EJ p.ac)]),(false,[.d (bD true)])]
 | none=>.t [(true,[.d (iD 0),.d (.l []),.d (.l [])]),(false,[.d (bD false)])]
theorem Df{t:Jw}{al:Int}{A:W->Bool}(v:GV Tryz.prog TB 67 154 t al A)(tab:AW)(f:Qd tab) :
 Pure Tryz.prog TB 20 [Dk t,Cs tab] (GI (if Cb A al tab then some (AG A al tab) else none)):=by
 have x:=La v tab f;by_cases i:Cb A al tab=true
 ·rw [if_pos i]
  rw [i] at x;obtain⟨y,ho,P⟩:=EL i;have e:=(Dg y).1;have V:=e.r1;have T:=e.rl;have P:=e.cl;have h2:=v.alph;have h3:=C3 (TB:=TB) al;have h4:Pure Tryz.prog TB 69 [Dk t,BO tab.cols,BO tab.rows] (BO (AD A tab)):=Hh v tab.cols tab.rows f.cl (λw S=>by have:=f.rb w S;omega) f.cb f.rl;have hla:(Ac al).length<=6:=AZ al 6
  have hml:(AD A tab).length=tab.rows.length:=by simp [AD]
  refine eG Tryz.func20 rfl (by kernel_rfl) rfl ?_;intro Z c;(repeat first|refine tA rfl ?_ |refine s2 rfl λ_ a=>?_ |refine sP rfl (x) rfl ?_ |refine aU rfl ?_ |refine Aa ?_)
  ((refine aC rfl ?_ ?_<;>rintro⟨⟩);all_goals try (simp at a;done))
  refine aK ?_;(repeat first|refine tX rfl ?_ |refine sP rfl (h2) rfl ?_ |refine aU rfl ?_);(refine pW rfl ?_ rfl (by rfl);refine IC 1 1 53 2 1 4 rfl rfl (by decide) rfl rfl (by rfl) (by rfl) ?_);(repeat first|refine tX rfl ?_ |refine sP rfl (h3) rfl ?_|refine sP rfl (h4) rfl ?_ |refine aU rfl ?_ |refine Aa ?_);refine aB ?_;refine aL (α:={k:Nat // k<=tab.rows.length}) [2,3,4,6,7,8] [0] rfl rfl (λ⟨k,L⟩=>[(9,eI .i64 k)]) (λ⟨k,L⟩=>[(1,.cells 53 1 (((AG A al tab).nx.take k).map λr=>[.d (DH r)])),(2,.cells 4 1 (((AG A al tab).ac.take k).map λb=>[.d (bD b)])),(3,.cells 29 3 [[.d (iD al),.arr 1 1 0 k,.arr 2 1 0 k]])]) 4 (λ⟨k,L⟩=>tab.rows.length - k) (⟨0,by omega⟩) c rfl (by (simp[cX,zC,c])) ?_;rintro⟨k,L⟩;(try dsimp only[cA,cB])
  have hnl:(AG A al tab).nx.length=tab.rows.length:=by simp [AG]
  have hac:(AG A al tab).ac.length=tab.rows.length:=by simp [AG]
  by_cases I:k < tab.rows.length
  ·obtain⟨r,n⟩:=get_some I
   have R:=get_map (g:=CN) n;have m:=bm n;have U:=f.rb r m
   have hm:(AD A tab)[k]? = some (marks A tab.cols r):=by simp [AD,n]
   have hm':=get_map (g:=CN) hm
   have hm0:(marks A tab.cols r)[(0:Int).toNat]? = some (Ns (A r)):=by
    have:=e.c0;simp [marks,this]
   (repeat first|refine sN rfl ?_ |refine tX rfl ?_ |refine s2 rfl λ_ a=>?_ |refine aU rfl ?_ |refine Aa ?_);refine Al.cond rfl (λhb=>?_) (λhb=>?_)<;>cases hb
   rotate_left
   ·exfalso;(simp only[oZ] at *;omega)
   refine aK ?_;refine aS (aB ?_);(repeat first|refine aU rfl ?_);(refine pW rfl ?_ rfl (by rfl);refine Cv rfl rfl rfl rfl (by simp) (by rfl) (by rfl) (by rfl) (by rfl) ?_);(repeat first|refine tX rfl ?_ |refine aU rfl ?_ |refine Aa ?_);refine aB ?_;refine aL (α:={j:Nat // j<=(Ac al).length}) [2,3,4,6,7,8,9] [0,1,2,3] rfl rfl (λ⟨j,M⟩=>[(10,.o (.arr 4 1 0 j)),(11,eI .i64 j)]) (λ⟨j,M⟩=>[(4,.cells 3 1 (((Ac al).take j).map λl=>[.d (iD ((Cg A tab (r++[lb l]):Nat):Int))]))]) 5 (λ⟨j,M⟩=>(Ac al).length - j) (⟨0,by omega⟩) c rfl (by (simp[cX,zC,c])) ?_;rintro⟨j,M⟩;(try dsimp only[cA,cB]);by_cases s:j < (Ac al).length
   ·obtain⟨l,K⟩:=get_some s
    have hl':=get_map (g:=Bp) K;have q:=bm K;have J:=AK q;have z:Pure Tryz.prog TB 72 [eI .i64 l] (eT [lb l]):=Iy l J.1 (by omega);have p:=Ix v tab.cols (r++[lb l]) f.cl (by simp;omega) f.cb;have H:marks A tab.cols (r++[lb l])∈AD A tab:=Fp ho r m (lb l) (JF q);have N:Pure Tryz.prog TB 70 [BO (AD A tab),eT (marks A tab.cols (r++[lb l]))] (eI .i64 (Cg A tab (r++[lb l]):Nat)):=NW (AD A tab) _ H (by omega);(repeat first|refine sN rfl ?_ |refine tX rfl ?_ |refine s2 rfl λ_ a=>?_ |refine aU rfl ?_ |refine Aa ?_);refine Al.cond rfl (λhb=>?_) (λhb=>?_)<;>cases hb
    rotate_left
    ·exfalso;(simp only[oZ] at *;omega)
    refine aK ?_;refine aS (aB ?_);refine rG (LU [19]) (by kernel_rfl) ?_;(repeat first|(refine sA rfl ?_ ?_;first|exact tI|simp only[oZ] at *;omega) |(refine s4 rfl ‹_› rfl ?_ ?_;omega) |refine sP rfl (z) rfl ?_|refine sP rfl (p) rfl ?_|refine sP rfl (N) rfl ?_);(refine pW rfl ?_ rfl (by rfl);refine AT rfl rfl rfl (by first| (simp;done)|(simp;(omega))) rfl (by intro r h;simp at h;subst h;rfl) (by rfl) (bn rfl) (by simp;omega) ?_);(repeat first|(refine sA rfl ?_ ?_;first|exact tI|omega) |refine aU rfl ?_ |refine Aa ?_);refine⟨⟨j+1,by omega⟩,by dsimp only;(omega),[0,1,2,3,5],?_⟩;(simp[cX,zC,c,bF,K])
   ·obtain rfl:j=(Ac al).length:=by omega
    have G:(AG A al tab).nx.take (k+1)=(AG A al tab).nx.take k++[(Ac al).map λl=>((Cg A tab (r++[lb l]):Nat):Int)]:=by
     rw [bF];simp [AG,n]
    have u:(AG A al tab).ac.take (k+1)=(AG A al tab).ac.take k++[A r]:=by
     rw [bF];simp [AG,n]
    rw [bO];(repeat first|refine sN rfl ?_ |refine tX rfl ?_ |refine s2 rfl λ_ a=>?_ |refine aU rfl ?_ |refine Aa ?_);refine Al.cond rfl (λhb=>?_) (λhb=>?_)<;>cases hb
    ·exfalso;(simp only[oZ] at *;omega)
    refine aE ?_;refine Al.HC [4] [2,3,4,6,7,8,9] rfl [(10,Ag ((Ac al).map λl=>((Cg A tab (r++[lb l]):Nat):Int)))] ⟨⟨_,rfl,.o (.full (by simp) rfl (by simp [bC]) (by simp))⟩,trivial⟩ ?_;(try dsimp only[cA,cB]);(repeat first|refine tA rfl ?_ |refine aU rfl ?_);(refine pW rfl ?_ rfl (by rfl);refine AT rfl rfl rfl (by first| (simp;done)|(simp;(omega))) rfl (by intro r h;simp at h;subst h;rfl) (by rfl) (bn rfl) (by simp;omega) ?_);(repeat first|refine tA rfl ?_ |refine Aa ?_);refine rG (LU [9,11]) (by kernel_rfl) ?_;(repeat first|refine tA rfl ?_ |(refine s4 rfl ‹_› rfl ?_ ?_;omega) |refine s2 rfl λ_ a=>?_);rename_i b
    have Q:b=A r:=by
     cases hA:A r<;>cases b<;>simp [hA,Ns] at a<;>rfl
    subst Q;(refine pW rfl ?_ rfl (by rfl);refine AT rfl rfl rfl (by first| (simp;done)|(simp;(omega))) rfl (by intro r h;simp at h;subst h;rfl) (by rfl) (bn rfl) (by simp;omega) ?_);(repeat first|(refine sA rfl ?_ ?_;first|exact tI|omega) |refine aU rfl ?_ |refine Aa ?_);refine⟨⟨k+1,by omega⟩,by dsimp only;(omega),[0,5,6,3],?_⟩;(simp[cX,zC,c,G,u])
  ·obtain rfl:k=tab.rows.length:=by omega
   have F:(AG A al tab).nx.take tab.rows.length=(AG A al tab).nx:=bI (by simp [AG]);have B:(AG A al tab).ac.take tab.rows.length=(AG A al tab).ac:=bI (by simp [AG]);rw [F,B];(repeat first|refine sN rfl ?_ |refine tX rfl ?_ |refine s2 rfl λ_ a=>?_ |refine aU rfl ?_ |refine Aa ?_);refine Al.cond rfl (λhb=>?_) (λhb=>?_)<;>cases hb
   ·exfalso;(simp only[oZ] at *;omega)
   refine aE ?_;(repeat first|refine tX rfl ?_ |refine aU rfl ?_ |refine Aa ?_);refine Al.settle [(4,.o (.ip [iD al,CG (AG A al tab).nx,EJ (AG A al tab).ac])),(5,eB true)] ⟨⟨_,rfl,.o (.box rfl (.cons .d (.cons (.full rfl (by simp [bC]) (by simp [AG])) (.cons (.full rfl (by simp [bC]) (by simp [AG])) .nil))))⟩,⟨_,rfl,.o .d⟩,trivial⟩ ?_;refine aR ⟨_,rfl,rfl⟩
 ·have i:Cb A al tab=false:=by simpa using i
  rw [if_neg (by simp [i])];rw [i] at x;refine eG Tryz.func20 rfl (by kernel_rfl) rfl ?_;intro Z c;(repeat first|refine tA rfl ?_ |refine s2 rfl λ_ a=>?_ |refine sP rfl (x) rfl ?_ |refine aU rfl ?_ |refine Aa ?_)
  ((refine aC rfl ?_ ?_<;>rintro⟨⟩);all_goals try (simp at a;done))
  (repeat first|refine tA rfl ?_|(refine Av rfl ?_;refine gA rfl ?_;first| refine gS (λ_ _=>AI rfl rfl (by rfl) (by rfl)) ?_) |refine aU rfl ?_ |refine Aa ?_);refine Al.settle [(4,.o (.ip [iD 0,.l [],.l []])),(5,eB false)] ⟨⟨_,rfl,.o (.box rfl (.cons .d (.cons .d (.cons .d .nil))))⟩,⟨_,rfl,.o .d⟩,trivial⟩ ?_;refine aR ⟨_,rfl,rfl⟩
def JP(A:W->Bool)(al:Int)(t:AW)(w:W):Option AW:=if Bz A al t && HG al w then Ew t w else none
theorem Ll{t:Jw}{al:Int}{A:W->Bool}(n:GV Tryz.prog TB 67 154 t al A)(tab:AW)(q:Qd tab)(w:W)(y:w.length<=1048576) :
 Pure Tryz.prog TB 213 [Dk t,Cs tab,eT w] (Fy (JP A al tab w)):=by
 have i:=Dv n tab q;have g:=Kj n w (by omega);have f:=Ge (TB:=TB) tab.cols w (by have:=q.cl;omega);by_cases e:(Bz A al tab && HG al w)=true
 ·have ha:JP A al tab w=Ew tab w:=by unfold JP;rw [if_pos e]
  rw [ha];rw [bu] at e;rw [e.1] at i;rw [e.2] at g;have b:Xc al tab:=(Dg e.1).1;have k:=b.r1;have l:=b.c1;have s:=b.rl;have v:=b.cl;by_cases m:tab.cols.length=20\/w∈tab.cols
  ·have p:Ew tab w=none:=by unfold Ew;rw [if_pos m]
   rw [p];refine eG Tryz.func213 rfl (by kernel_rfl) rfl ?_;intro Z j;(repeat' first|refine sN rfl ?_ |refine tA rfl ?_ |(refine s2 rfl λ_ a=>?_;try (simp only[cI,cM] at a;subst a)) |refine sP rfl (i) rfl ?_|refine sP rfl (g) rfl ?_|(refine sC rfl (f) ?_;intro _ a)|(refine Av rfl ?_;refine gA rfl ?_;first| refine gS (λ_ _=>AI rfl rfl (by rfl) (by rfl)) ?_) |refine s3 rfl ?_ ?_<;>rintro rfl |refine aU rfl ?_ |refine Aa ?_ |refine rE (by kernel_rfl) ?_|(refine aC rfl ?_ ?_<;>rintro⟨⟩)|refine aK ?_|refine aE ?_|refine aB ?_|refine aR ⟨_,rfl,?_⟩)
   all_goals first
    | rfl
    | (exfalso;clear i g f n;simp at *;grind;done)
    | skip
  ·have p:Ew tab w=some ⟨tab.rows,tab.cols++[w]⟩:=by unfold Ew;rw [if_neg m]
   rw [p];have u:decide (w∈tab.cols)=false:=decide_eq_false λh=>m (.inr h);have x:tab.cols.length≠20:=λh=>m (.inl h);rw [u] at f;refine eG Tryz.func213 rfl (by kernel_rfl) rfl ?_;intro Z j;(repeat first|refine sN rfl ?_ |refine tA rfl ?_ |(refine s2 rfl λ_ a=>?_;try (simp only[cI,cM] at a;subst a)) |refine sP rfl (i) rfl ?_|refine sP rfl (g) rfl ?_|refine sP rfl (f) rfl ?_ |refine aU rfl ?_ |refine Aa ?_);refine Al.cond rfl (λhb=>?_) (λhb=>?_)<;>cases hb
   ·exfalso;(simp only[oZ] at *;omega)
   refine aK ?_;(repeat first|refine aU rfl ?_);refine rG (ak [0,1,2,4,5,6,8,9,3,7,10,11,12,13] [3,7,10,12] [0,1,2,4,5,6,8,9]) (by kernel_rfl) ?_;(repeat first|refine tX rfl ?_|(refine Av rfl ?_;refine gA rfl ?_;first| refine gS (λ_ _=>Nb (by rfl) (by rfl)) ?_|refine gS (λ_ _=>KF rfl rfl rfl rfl rfl (by rfl) (by rfl) (by rfl) (by rfl) (by rfl)) ?_));(refine pW rfl ?_ rfl (by rfl);refine Gw rfl rfl rfl (by intro r c;simp at c;obtain⟨_,_,rfl⟩:=c;rfl) (by rfl) (bn rfl) (by simp;omega) (λh=>?_) (λ_=>?_))
   ·exfalso;simp at h;rw [h] at k;simp at k
   (repeat first| (refine Av rfl ?_;refine gA rfl ?_;first| refine gS (λ_ _=>Nb (by rfl) (by rfl)) ?_|refine gS (λ_ _=>KF rfl rfl rfl rfl rfl (by rfl) (by rfl) (by rfl) (by rfl) (by rfl)) ?_));(refine pW rfl ?_ rfl (by rfl);refine Gw rfl rfl rfl (by intro r c;simp at c;obtain⟨_,_,rfl⟩:=c;rfl) (by rfl) (bn rfl) (by simp;omega) (λh=>?_) (λ_=>?_))
   ·exfalso;simp at h;rw [h] at l;simp at l
   (refine pW rfl ?_ rfl (by rfl);refine AT rfl rfl rfl (by first| (simp;done)|(simp;(omega))) rfl (by intro r c;simp at c;subst c;rfl) (by rfl) (bn rfl) (by simp;omega) ?_);(repeat first|refine tA rfl ?_|(refine Av rfl ?_;refine gA rfl ?_;first| refine gS (λ_ _=>AI rfl rfl (by rfl) (by rfl)) ?_) |refine Aa ?_);refine Al.settle [(6,.o (.ip [A6 tab.rows,A6 (tab.cols++[w])])),(7,eB true)] ⟨⟨_,rfl,.o (.box rfl (.cons (.full rfl (by simp [bC]) (by simp)) (.cons (.full rfl (by simp [bC]) (by simp)) .nil)))⟩,⟨_,rfl,.o .d⟩,trivial⟩ ?_;refine aR ⟨_,rfl,rfl⟩
 ·have ha:JP A al tab w=none:=by unfold JP;rw [if_neg e]
  rw [ha];refine eG Tryz.func213 rfl (by kernel_rfl) rfl ?_;intro Z j;(repeat' first|refine sN rfl ?_ |refine tA rfl ?_ |(refine s2 rfl λ_ a=>?_;try (simp only[cI,cM] at a;subst a)) |(refine sC rfl (i) ?_;intro _ a)|(refine sC rfl (g) ?_;intro _ a)|(refine sC rfl (f) ?_;intro _ a)|(refine Av rfl ?_;refine gA rfl ?_;first| refine gS (λ_ _=>AI rfl rfl (by rfl) (by rfl)) ?_) |refine s3 rfl ?_ ?_<;>rintro rfl |refine aU rfl ?_ |refine Aa ?_ |refine rE (by kernel_rfl) ?_|(refine aC rfl ?_ ?_<;>rintro⟨⟩)|refine aK ?_|refine aE ?_|refine aB ?_|refine aR ⟨_,rfl,?_⟩)
  all_goals first
   | rfl
   | (exfalso;clear i g f n;simp at *;grind;done)
   | skip
def Ds(A:W->Bool)(al:Int)(t:AW)(w:W):Option W:=if Cb A al t && HG al w then BJ A t w else none
theorem Pj{al:Int}{w:W}(h:HG al w=true):AH (AV al) w/\w.length<=4000/\within w al=true:=by
 unfold HG at h;rw [bu,decide_eq_true_eq] at h;exact⟨Ek h.1,h.2,h.1⟩
theorem Sh{A:W->Bool}{al:Int}{t:AW}{w:W}(ha:BP al=true)(a:A7 A (AV al) t)(c:t.rows.length<=12)(b:HG al w=true):FD (AG A al t) w=Jl A t w:=by
 obtain⟨e,f,d⟩:=Pj b;unfold FD;rw [Jy ha a c,Ju a e]
 show (true && (within w al && _))=_
 rw [d];rfl
theorem OF{A:W->Bool}{t:AW}{w:W}{k q:Nat}{c:UInt8}{R:Option W}(d:w[k]? = some c)(a:R=splitAt A t (A w) q (w.drop k)) :
 (A (t.rows.getD (Cg A t (t.rows.getD q []++[c])) []++w.drop (k+1))≠A w->R=some (w.drop (k+1)))/\(A (t.rows.getD (Cg A t (t.rows.getD q []++[c])) []++w.drop (k+1))=A w->R=splitAt A t (A w) (Cg A t (t.rows.getD q []++[c])) (w.drop (k+1))):=by
 have:=Ib (L:=A) (t:=t) (b:=A w) (q:=q) d;rw [this] at a;exact⟨λh=>by rw [a,if_pos h],λh=>by rw [a,if_neg (by simpa using h)]⟩
theorem LB{t:Jw}{al:Int}{A:W->Bool}(G:GV Tryz.prog TB 67 154 t al A)(hal:0<=al->BP al=true)(tab:AW)(P:Qd tab)(w:W)(hw:w.length<=1048576) :
 Pure Tryz.prog TB 212 [Dk t,Cs tab,eT w] (Ro (Ds A al tab w)):=by
 have n:=Df G tab P;have q:=Kj G w (by omega);have h4:=G.ask w (by omega);by_cases r:Cb A al tab=true
 ·rw [if_pos r] at n
  obtain⟨Q,ho,f⟩:=EL r;have d:=(Dg Q).1;have ha:=hal d.pos;have hau:=Jy ha f d.rl;have I:=FO (TB:=TB) (AG A al tab) w (by omega);by_cases i:HG al w=true
  ·rw [i] at q
   rw [Sh ha f d.rl i] at I
   have u:Ds A al tab w=BJ A tab w:=by unfold Ds;rw [r,i];rfl
   rw [u];by_cases J:Jl A tab w=A w
   ·have y:BJ A tab w=none:=by unfold BJ;rw [if_pos J]
    rw [y];rw [J] at I;refine eG Tryz.func212 rfl (by kernel_rfl) rfl ?_;intro Z b;(repeat' first|refine tA rfl ?_ |(refine s2 rfl λ_ a=>?_;try (simp only[cI,cM] at a;subst a)) |refine sP rfl (n) rfl ?_|refine sP rfl (q) rfl ?_|refine sP rfl (I) rfl ?_|refine sP rfl (h4) rfl ?_ |refine aU rfl ?_ |refine Aa ?_ |refine rE (by kernel_rfl) ?_|(refine aC rfl ?_ ?_<;>rintro⟨⟩)|refine aK ?_|refine aE ?_|refine aB ?_|refine aR ⟨_,rfl,?_⟩)
    all_goals first
     | rfl
     | (exfalso;grind;done)
   ·obtain⟨R,M⟩:∃R,R=BJ A tab w:=⟨_,rfl⟩
    rw [<-M]
    have M:R=splitAt A tab (A w) 0 (w.drop 0):=by rw [M];unfold BJ;rw [if_neg J];rfl
    obtain⟨m,hw4,_⟩:=Pj i;have hrl:=d.rl;have T:=d.r1;refine eG Tryz.func212 rfl (by kernel_rfl) rfl ?_;intro Z b;(repeat first|refine tA rfl ?_ |refine sP rfl (n) rfl ?_|refine sP rfl (q) rfl ?_|refine sP rfl (I) rfl ?_|refine sP rfl (h4) rfl ?_ |refine aU rfl ?_ |refine Aa ?_);refine rG (LU []) (by kernel_rfl) ?_;(repeat first|refine tA rfl ?_ |(refine s2 rfl λ_ a=>?_;try (simp only[cI,cM] at a;subst a)) |refine sP rfl (n) rfl ?_|refine sP rfl (q) rfl ?_|refine sP rfl (I) rfl ?_|refine sP rfl (h4) rfl ?_ |refine Aa ?_);refine Al.cond rfl (λhb=>?_) (λhb=>?_)<;>cases hb
    ·exfalso;exact J (by simpa using a)
    refine aK ?_;(repeat first|refine tA rfl ?_ |refine aU rfl ?_ |refine Aa ?_);have h0:0 < tab.rows.length:=T;refine aB ?_;refine aL (α:={k:Nat // k<=w.length/\R=splitAt A tab (A w) (runM A tab 0 (w.take k)) (w.drop k)/\A (tab.rows.getD (runM A tab 0 (w.take k)) []++w.drop k)=A w}) [2,3,4,8] [0] rfl rfl (λ⟨k,hk,p,H⟩=>[(10,eI .i64 (runM A tab 0 (w.take k):Nat)),(11,eI .i64 k)]) (λ⟨k,hk,p,H⟩=>[]) 1 (λ⟨k,hk,p,H⟩=>w.length - k) (⟨0,by omega,M,by simp [d.r0,runM]⟩) b rfl (by (simp[cX,zC,b]<;>rfl)) ?_;rintro⟨k,hk,p,H⟩;(try dsimp only[cA,cB]);have x:=f.run (w.take k) 0 (Fo m k) h0;by_cases hlt:k < w.length
    ·obtain⟨c,K⟩:=get_some hlt
     have hc':w[((k:Nat):Int).toNat]? = some c:=by simpa using K
     have F:=m c (bm K);have B:=Gu F;have hla:=JD (TB:=TB) w k c hc'
     have hnl:(AG A al tab).nx.length=tab.rows.length:=by simp [AG]
     have z:=JE (TB:=TB) (AG A al tab) hau (runM A tab 0 (w.take k)) (by omega) ((c.toNat:Int) - 97) B.1 B.2;have s:=IL (L:=A) (t:=tab) K 0;have v:=f.run (w.take (k+1)) 0 (Fo m (k+1)) h0;rw [HE (L:=A) (al:=al) (t:=tab) x F,<-s] at z;have e:=OF K p;rw [<-s] at e;obtain⟨N,l⟩:=get_some x;have hx1':=get_map (g:=CN) l;obtain⟨o,j⟩:=get_some v;have hx2':=get_map (g:=CN) j
     have e1:tab.rows.getD (runM A tab 0 (w.take k)) []=N:=by simp [l]
     have e2:tab.rows.getD (runM A tab 0 (w.take (k+1))) []=o:=by simp [j]
     have hr1b:=P.rb N (bm l);have hr2b:=P.rb o (bm j);rw [e1] at H;rw [e2] at e
     have V:Pure Tryz.prog TB 154 [Dk t,eT (N++w.drop ((k:Nat):Int).toNat)] (eB (A w)):=by
      rw [bL,<-H];exact G.ask _ (by simp;omega)
     have ek:(((k:Nat):Int)+1).toNat=k+1:=by omega
     have U:Pure Tryz.prog TB 154 [Dk t,eT (o++w.drop (((k:Nat):Int)+1).toNat)] (eB (A (o++w.drop (k+1)))):=by
      rw [ek];exact G.ask _ (by simp;omega)
     have hd1:(w.drop ((k:Nat):Int).toNat).length<=1048576:=by simp;omega
     have hd2:(w.drop (((k:Nat):Int)+1).toNat).length<=1048576:=by simp;omega
     (repeat first|refine tA rfl ?_ |refine s2 rfl λ_ a=>?_ |refine aU rfl ?_ |refine Aa ?_);refine Al.cond rfl (λhb=>?_) (λhb=>?_)<;>cases hb
     rotate_left
     ·exfalso;(simp only[oZ] at *;omega)
     (repeat' first|(refine sA rfl ?_ ?_;first|exact tI|omega) |(refine s4 rfl ‹_› rfl ?_ ?_;omega) |refine s2 rfl λ_ a=>?_ |refine sP rfl (hla) rfl ?_|refine sP rfl (z) rfl ?_|refine sP rfl (V) rfl ?_|refine sP rfl (U) rfl ?_|(refine Av rfl ?_;refine gA rfl ?_;first| refine gS (λ_ _=>Na rfl rfl (by omega) (by omega)) ?_) |refine aU rfl ?_ |refine Aa ?_ |refine rE (by kernel_rfl) ?_|(refine aC rfl ?_ ?_<;>rintro⟨⟩)|refine aK ?_|refine aE ?_|refine aB ?_|refine aR ⟨_,rfl,?_⟩)
     ·have y:=e.1 (by intro h;rw [h] at a;simp at a)
      rw [y]
      show E.t _=E.t _
      rw [ek]
     ·have S:=e.2 (by simpa using (by simpa using a:A w=A (o++w.drop (k+1))).symm)
      have hA2:A (tab.rows.getD (runM A tab 0 (w.take (k+1))) []++w.drop (k+1))=A w:=by rw [e2];exact(by simpa using a:A w=A (o++w.drop (k+1))).symm
      refine⟨⟨k+1,by omega,S,hA2⟩,by dsimp only;(omega),[0],?_⟩;simp[cX,zC,b]
    ·obtain rfl:k=w.length:=by omega
     rw [List.drop_length] at p;have y:R=none:=p;rw [y];(repeat first|refine tA rfl ?_ |refine s2 rfl λ_ a=>?_ |refine aU rfl ?_ |refine Aa ?_);refine Al.cond rfl (λhb=>?_) (λhb=>?_)<;>cases hb
     ·exfalso;(simp only[oZ] at *;omega)
     (repeat' first|refine tA rfl ?_ |refine aU rfl ?_ |refine Aa ?_|(refine aC rfl ?_ ?_<;>rintro⟨⟩)|refine aK ?_|refine aE ?_|refine aB ?_|refine aR ⟨_,rfl,?_⟩);rfl
  ·have i:HG al w=false:=by simpa using i
   rw [i] at q
   have u:Ds A al tab w=none:=by unfold Ds;rw [i];simp
   rw [u];refine eG Tryz.func212 rfl (by kernel_rfl) rfl ?_;intro Z b;(repeat' first|refine tA rfl ?_ |(refine s2 rfl λ_ a=>?_;try (simp only[cI,cM] at a;subst a)) |refine sP rfl (n) rfl ?_|refine sP rfl (q) rfl ?_ |refine aU rfl ?_ |refine Aa ?_ |refine rE (by kernel_rfl) ?_|(refine aC rfl ?_ ?_<;>rintro⟨⟩)|refine aK ?_|refine aE ?_|refine aB ?_|refine aR ⟨_,rfl,?_⟩)
   all_goals first
    | rfl
    | (exfalso;grind;done)
 ·have u:Ds A al tab w=none:=by unfold Ds;simp [r]
  rw [if_neg r] at n;rw [u];refine eG Tryz.func212 rfl (by kernel_rfl) rfl ?_;intro Z b;(repeat' first|refine tA rfl ?_ |(refine s2 rfl λ_ a=>?_;try (simp only[cI,cM] at a;subst a)) |refine sP rfl (n) rfl ?_ |refine aU rfl ?_ |refine Aa ?_ |refine rE (by kernel_rfl) ?_|(refine aC rfl ?_ ?_<;>rintro⟨⟩)|refine aK ?_|refine aE ?_|refine aB ?_|refine aR ⟨_,rfl,?_⟩)
  all_goals first
   | rfl
   | (exfalso;grind;done)
def Ex(A:W->Bool)(al:Int)(t:AW):Option AW:=if Bz A al t then A2 A (AV al) 13 t else none
def Ie(A:W->Bool)(al:Int)(t:AW)(w:W):Option AW:=(Ds A al t w).bind λv=>(JP A al t v).bind λu=>Ex A al u
theorem PL{A:W->Bool}{al:Int}{t:AW}{w v:W}(h:Ds A al t w=some v):v.length<=w.length:=by
 unfold Ds at h;split at h
 ·obtain⟨p,_,rfl⟩:=Ho h
  simp
 ·cases h
theorem Up{A:W->Bool}{al:Int}{t u:AW}{w:W}(h:JP A al t w=some u):Qd u:=by
 unfold JP at h;split at h
 ·rename_i d
  rw [bu] at d;have b:=(Dg d.1).1;have f:=Pj d.2;unfold Ew at h;split at h
  ·cases h
  ·injection h with h
   subst h;have c:=b.sz;have e:=b.cl;refine⟨c.rl,by simp;omega,c.rb,λx a=>?_⟩
   rcases bE.1 a with a|a
   ·exact c.cb x a
   ·simp at a;subst a;omega
 ·cases h
theorem Lv{t:Jw}{al:Int}{A:W->Bool}(g:GV Tryz.prog TB 67 154 t al A)(hal:0<=al->BP al=true)(tab:AW)(h:Qd tab)(w:W)(j:w.length<=1048576) :
 Pure Tryz.prog TB 132 [Dk t,Cs tab,eT w] (Fy (Ie A al tab w)):=by
 have e:=LB g hal tab h w j
 rcases b:Ds A al tab w with _|v
 ·have d:Ie A al tab w=none:=by unfold Ie;rw [b];rfl
  rw [d];rw [b] at e;refine eG Tryz.func132 rfl (by kernel_rfl) rfl ?_;intro Z c;(repeat' first|refine tA rfl ?_ |(refine s2 rfl λ_ a=>?_;try (simp only[cI,cM] at a;subst a)) |refine sP rfl (e) rfl ?_|(refine Av rfl ?_;refine gA rfl ?_;first| refine gS (λ_ _=>AI rfl rfl (by rfl) (by rfl)) ?_) |refine aU rfl ?_ |refine Aa ?_|(refine aC rfl ?_ ?_<;>rintro⟨⟩)|refine aK ?_|refine aE ?_|refine aB ?_|refine aR ⟨_,rfl,?_⟩)
  all_goals rfl
 ·rw [b] at e
  have l:=PL b;have f:=Ll g tab h v (by omega)
  rcases ha:JP A al tab v with _|u
  ·have d:Ie A al tab w=none:=by unfold Ie;rw [b];simp [ha]
   rw [d];rw [ha] at f;refine eG Tryz.func132 rfl (by kernel_rfl) rfl ?_;intro Z c;(repeat' first|refine tA rfl ?_ |(refine s2 rfl λ_ a=>?_;try (simp only[cI,cM] at a;subst a)) |refine sP rfl (e) rfl ?_|refine sP rfl (f) rfl ?_|(refine Av rfl ?_;refine gA rfl ?_;first| refine gS (λ_ _=>AI rfl rfl (by rfl) (by rfl)) ?_) |refine aU rfl ?_ |refine Aa ?_|(refine aC rfl ?_ ?_<;>rintro⟨⟩)|refine aK ?_|refine aE ?_|refine aB ?_|refine aR ⟨_,rfl,?_⟩)
   all_goals rfl
  ·have d:Ie A al tab w=Ex A al u:=by unfold Ie;rw [b];simp [ha]
   rw [d];rw [ha] at f;have i:Pure Tryz.prog TB 43 [Dk t,Cs u] (Fy (Ex A al u)):=FW g u (Up ha)
   rcases k:Ex A al u with _|x<;>rw [k] at i<;>(
    refine eG Tryz.func132 rfl (by kernel_rfl) rfl ?_;intro Z c;(repeat' first|refine tA rfl ?_ |(refine s2 rfl λ_ a=>?_;try (simp only[cI,cM] at a;subst a)) |refine sP rfl (e) rfl ?_|refine sP rfl (f) rfl ?_|refine sP rfl (i) rfl ?_|(refine Av rfl ?_;refine gA rfl ?_;first| refine gS (λ_ _=>AI rfl rfl (by rfl) (by rfl)) ?_) |refine aU rfl ?_ |refine Aa ?_|(refine aC rfl ?_ ?_<;>rintro⟨⟩)|refine aK ?_|refine aE ?_|refine aB ?_|refine aR ⟨_,rfl,?_⟩)
    all_goals rfl)
end Go.Am
namespace Go.Am
open Go
set_option linter.unusedVariables false
theorem Ht{p:A5}(a:Ax p=true):QY (FD p) (LA p) p.al:=λw b c=>by
 unfold FD;rw [a,Fi b c (Au a).1];rfl
theorem Si{A L:W->Bool}{al:Int}{b:Nat}{t:AW}(h:QY A L al)(ht:Ep al b t)(hb:b<=20100)(c:A7 L (AV al) t){w:W}(a:AH (AV al) w):Jl A t w=Jl L t w:=by
 rw [<-Ju (c.Xv h ht hb) a,<-Ju c a,NB h ht hb]
theorem PK{A L:W->Bool}{al:Int}{b:Nat}{t:AW}(h:QY A L al)(ht:Ep al b t)(hb:b<=20100)(c:A7 L (AV al) t){w:W}(a:AH (AV al) w)(d:w.length<=20000):BJ A t w=BJ L t w:=by
 have e:0 < t.rows.length:=(am.1 c.r0).1;unfold BJ;rw [Si h ht hb c a,h w a (by omega),Jd h ht hb c (L w) w 0 e a d]
theorem De{p:A5}(b:Ax p=true){k:Nat}(f:k<=AJ p):Cb (FD p) p.al (AO p k)=true:=by
 obtain⟨l,o,i,n,h⟩:=DO b k f;have c:=Ig b f;have e:=Ht b;have a:=Au b;have j:=(Ci b).1;have g:=l.Xv e c (by omega)
 have m:0<=p.al:=by
  have:=a.1;unfold BP at this;simp at this;omega
 refine O7 (IS a.1 m g.toTOk i (by omega) (λw d=>by have:=(c.onR w d).2;omega) (λw d=>by have:=h w d;omega)) g.HR
theorem Uo{A:W->Bool}{al:Int}{t:AW}{v:W}(a:Bz A al t=true)(c:HG al v=true)(b:v∉t.cols)(d:t.cols.length < 20):JP A al t v=some ⟨t.rows,t.cols++[v]⟩:=by
 unfold JP Ew;rw [a,c,if_pos (by rfl:(true && true)=true),if_neg];intro h
 rcases h with h|h
 ·omega
 ·exact b h
theorem Qu{al:Int}{w:W}(ha:BP al=true)(a:AH (AV al) w)(b:w.length<=4000):HG al w=true:=by
 unfold HG;rw [Fi a (by omega) ha,decide_eq_true b];rfl
theorem PT{p:A5}(f:Ax p=true){k:Nat}(F:k < AJ p){w:W}(j:GU p (AO p k)=some w):Ie (FD p) p.al (AO p k) w=some (AO p (k+1)):=by
 obtain⟨w',v,e,s⟩:=Gz f F;rw [j] at e
 injection e with e
 subst e;obtain⟨z,N,I,M,H⟩:=DO f k (by omega);obtain⟨T,S,R,Q,P⟩:=DO f (k+1) (by omega);have d:=Ig f (k:=k) (by omega);have i:=Ht f;have g:=Au f;have J:=(Ci f).1;have o:=De f (k:=k) (by omega);have l:=(EL o).1;have m:=E8 j;obtain⟨h,u⟩:=(IT p).on _ w j z;have y:=Qu g.1 h (by omega)
 have B:Ds (FD p) p.al (AO p k) w=some v:=by
  unfold Ds;rw [o,y]
  show BJ _ _ _=_
  rw [PK i d (by omega) z h (by omega)];unfold BJ;rw [if_neg u,s.split]
 obtain⟨q,L,n⟩:=s.suf;have b:AH (AV p.al) v:=λc G=>h c (by rw [n];simp [G])
 have A:v.length<=144:=by rw [n] at m;simp at m;omega
 have ha:=Uo l (Qu g.1 b (by omega)) s.new (by omega)
 have r:Ep p.al 20000 ⟨(AO p k).rows,(AO p k).cols++[v]⟩:=⟨d.onR,λx a=>by
  rcases bE.1 a with a|a
  ·exact d.onC x a
  ·simp at a;subst a;exact⟨b,by omega⟩,d.rl,by simp;omega⟩
 have t:Bz (FD p) p.al ⟨(AO p k).rows,(AO p k).cols++[v]⟩=true:=by
  have K:0<=p.al:=(Dg l).1.pos;refine IS g.1 K ((z.toTOk.Nr b s.new).Xv i r (by omega)) I (by simp;omega) (λw j=>by have:=(d.onR w j).2;omega) (λx a=>?_)
  rcases bE.1 a with a|a
  ·have:=H x a;omega
  ·simp at a;subst a;omega
 unfold Ie Ex;rw [B];simp only [cT];rw [ha];simp only [cT];rw [if_pos t,Ha i 13 r (by omega),s.close]
theorem LF{p:A5}(c:Ax p=true):Ex (FD p) p.al Bl=some (AO p 0):=by
 have e:=Ht c;have d:=Au c;have f:0<=p.al:=(Dg (EL (De c (k:=0) (by omega))).1).1.pos;have a:=IN p.al;unfold Ex;rw [if_pos (IS d.1 f (Mq _ _) (by decide) (by decide) (λw b=>by have:=(a.onR w b).2;omega) (λw b=>by simp [Bl] at b;subst b;simp)),Ha e 13 a (by omega)];exact(GA c).1
theorem Mp{p:A5}(a:Ax p=true){k:Nat}(b:k<=AJ p):AG (FD p) p.al (AO p k)=AG (LA p) p.al (AO p k):=NB (Ht a) (Ig a b) (by omega)
theorem Nm{p:A5}(a:Ax p=true){k:Nat}(b:k<=AJ p):Qd (AO p k):=(Dg (EL (De a b)).1).1.sz
end Go.Am
namespace Go.Am
open Go Go.Proofs
set_option maxHeartbeats 1000000
set_option maxRecDepth 4000
attribute [local irreducible] AP BH Lex A4 Al Spec
variable {TB:Bg}
section
variable {P:Program}{Z:Ctx}{d:Option Tmp}{ty:TypeId}{pos:String}{af:Array Edge}{g:Option (Nat×Bool)}{f:Env}{σ:Ab}{nx:Nat}
variable {K:E->Ab->Nat->Prop}
end
def Cl(t:MA)(G:PS)(i k:Nat):Prop:=∀p,p < t.q.nx.length->∀l∈VV t,(p < i\/(p=i/\l∈(VV t).take k))->∀j,(Vs t.s.es l (G p)).testBit j=true->(G (CE t.q p l).toNat).testBit j=true
structure bg (t:MA) (F0 F:PS) (i k:Nat) (G:PS) (b:Bool):Prop where
 ok:Zm t G
 lo:∀p j,(F0 p).testBit j=true->(G p).testBit j=true
 hi:∀p j,(G p).testBit j=true->Xp t F0 p j
 le:∀p,F p<=G p
 yes:b=true->XU G < XU F
 no:b=false->G=F/\Cl t F i k
end Go.Am
namespace Go.Am
open Go Go.Proofs
set_option maxHeartbeats 1000000
set_option maxRecDepth 4000
attribute [local irreducible] AP BH Lex A4 Al Spec
section
variable {P:Program}{TB:Bg}{Z:Ctx}{d:Option Tmp}{ty:TypeId}{pos:String}{af:Array Edge}{g:Option (Nat×Bool)}{f:Env}{σ:Ab}{nx:Nat}
end
variable {TB:Bg}
end Go.Am
namespace Go.Am
open Go Go.Proofs
set_option maxHeartbeats 1000000
set_option maxRecDepth 4000
attribute [local irreducible] AP BH Lex A4 Al Spec
variable {TB:Bg}
end Go.Am
namespace Go.Am
open Go Go.Proofs
set_option linter.unusedVariables false
end Go.Am
namespace Go.Am
open Go Go.Proofs
set_option maxHeartbeats 1000000
set_option maxRecDepth 4000
attribute [local irreducible] AP BH Lex A4 Al Spec
variable {TB:Bg}
structure ZZ (r:Sys×A5×Sys):Prop where
 a:r.1.es.length<=400
 b:ZV 41 r.2.1
 c:r.2.2.es.length<=400
section
variable {tabs:List (Nat×Obj)}[hTb:Um ⟨tabs,none⟩]{te:Jw}
include hTb
end
structure Z0 (t:MA):Prop where
 s:t.s.es.length<=401
 q:ZV 60 t.q
structure bh (n m:Nat) (t:AW):Prop where
 rl:t.rows.length<=n
 cl:t.cols.length<=n
 rb:∀w∈t.rows,w.length<=m
 cb:∀w∈t.cols,w.length<=m
structure ZY (te:Jw):Prop where
 pn:te.p.nx.length<=1048576
 pa:te.p.ac.length<=1048576
 pr:∀r∈te.p.nx,r.length<=1048576
 es:te.s.es.length<=1048576
 qn:te.q.nx.length<=1048576
 qa:te.q.ac.length<=1048576
 qr:∀r∈te.q.nx,r.length<=1048576
end Go.Am
namespace Go.Am
open Go
set_option linter.unusedVariables false
section
variable {a b:A5}(ha:Ax a=true)(hb:Ax b=true)(hal:a.al=b.al)(hL:∀w,AH (AV a.al) w->LA a w=LA b w)
include ha hb hal hL
end
end Go.Am
namespace Go.Am
open Go Go.Proofs
set_option maxHeartbeats 1000000
set_option maxRecDepth 4000
attribute [local irreducible] AP BH Lex A4 Al Spec
variable {TB:Bg}
section
variable {P:Program}{Z:Ctx}{d:Option Tmp}{ty:TypeId}{pos:String}{af:Array Edge}{g:Option (Nat×Bool)}{L:List (Nat×E)}{σ:Ab}{nx:Nat}
end
end Go.Am
namespace Go.Am
open Go
set_option linter.unusedVariables false
def Ec{α:Type}(f:Nat->α)(l:List α)(i:Nat):List α:=(List.range i).map f++l.drop i
section
variable {α:Type}{f:Nat->α}{l:List α}{i:Nat}
theorem Pv:Ec f l 0=l:=by simp [Ec]
theorem Kp:Ec f l l.length=(List.range l.length).map f:=by simp [Ec]
theorem SZ(h:i<=l.length):(Ec f l i).length=l.length:=by simp [Ec];omega
theorem Kq{x:α}(h:l[i]? = some x):(Ec f l i)[i]? = some x:=by
 unfold Ec;rw [bz (by simp)];simp [h]
theorem Kr{x:α}(h:l[i]? = some x):(Ec f l i).set i (f i)=Ec f l (i+1):=by
 have hi:=(am.1 h).1;unfold Ec;rw [dH _ _ (by simp)]
 have e:l.drop i=x::l.drop (i+1):=by
  rw [dq hi];congr 1;rw [bt hi] at h;injection h
 rw [e];simp [dU]
end
theorem Qq{α:Type}{l:List α}{k:Nat}{x d:α}(h:l[k]? = some x):l.getD k d=x:=by rw [List.getD_eq_getElem?_getD,h];rfl
def Mc(k:Int)(n:Nat):List Int:=(List.range n).map λi:Nat=>k+i
def IB(k:Int)(n:Nat):List Bool:=(List.range n).map λi:Nat=>decide ((k+i) % 3=0)
def BD(ns:List Nat)(i:Nat):Nat:=(ns.take i).sum
def Kt(k:Int)(ns:List Nat):List (List Int):=(List.range ns.length).map λi:Nat=>Mc (k+BD ns i) (ns.getD i 0)
theorem QA(k:Int)(n:Nat):(Mc k n).length=n:=by simp [Mc]
theorem Ks(k:Int)(n:Nat):(IB k n).length=n:=by simp [IB]
theorem Od(k:Int)(ns:List Nat):(Kt k ns).length=ns.length:=by simp [Kt]
theorem IG{α:Type}{f:Nat->α}{n i:Nat}(h:i < n):((List.range n).map f)[i]? = some (f i):=by simp [h]
theorem KX{ns:List Nat}{i n:Nat}(h:ns[i]? = some n):BD ns (i+1)=BD ns i+n:=by
 unfold BD;rw [bF,h];simp
theorem KV:∀(ns:List Nat) (i:Nat),BD ns i<=ns.sum
 | [],i=>by simp [BD]
 | n::ns,0=>by simp [BD]
 | n::ns,i+1=>by
  have:=KV ns i;unfold BD at *;simp;omega
theorem Mm(ns:List Nat):BD ns ns.length=ns.sum:=by simp [BD]
end Go.Am
namespace Go.Am
open Go Go.Proofs
set_option maxHeartbeats 1000000
set_option maxRecDepth 4000
attribute [local irreducible] AP BH Lex A4 Al Spec
variable {TB:Bg}
section
variable {tabs:List (Nat×Obj)}[hTb:Um ⟨tabs,none⟩]{te:Jw}
include hTb
end
end Go.Am
namespace Go.Am
open Go
set_option linter.unusedVariables false
noncomputable def BM(p:A5)(k:Nat):A5:=AG (LA p) p.al (AO p k)
theorem Oo{p:A5}(a:Ax p=true){k:Nat}(b:k<=AJ p):Ax (BM p k)=true:=by
 obtain⟨d,g,c,f,e⟩:=DO a k b;exact Jy (Au a).1 d c
end Go.Am
namespace Go.Am
open Go Go.Proofs
set_option maxHeartbeats 1000000
set_option maxRecDepth 4000
attribute [local irreducible] AP BH Lex A4 Al Spec
variable {TB:Bg}
section
variable {tabs:List (Nat×Obj)}[hTb:Um ⟨tabs,none⟩]{te:Jw}
include hTb
end
end Go.Am
namespace Go.Am
open Go Go.Proofs
set_option maxHeartbeats 1000000
set_option maxRecDepth 4000
attribute [local irreducible] AP BH Lex A4 Al Spec
variable {tabs:List (Nat×Obj)}
end Go.Am
namespace Go.Am
open Go Go.Proofs
set_option maxHeartbeats 1000000
set_option maxRecDepth 4000
attribute [local irreducible] AP BH Lex A4 Al Spec
variable {tabs:List (Nat×Obj)}
end Go.Am
namespace Go.Am
open Go Go.Proofs
set_option maxHeartbeats 1000000
set_option maxRecDepth 4000
attribute [local irreducible] AP BH Lex A4 Al Spec
end Go.Am
namespace Go.Am
open Go Go.Proofs
set_option maxHeartbeats 1000000
set_option maxRecDepth 4000
attribute [local irreducible] AP BH Lex A4 Al Spec
variable {TB:Bg}
theorem N9(l:List Int)(k:Int)(n:0<=k)(m:k<=1152921504606846976)(h:l.length<=1152921504606846976):Spec Tryz.prog TB 164 [(0,.cells 3 1 (l.map Az))] 1 [.o (.arr 0 1 0 l.length),eI .i64 k] (λx σ nx=>x=eI .i64 (k+l.length)/\nx=1/\σ=[(0,.cells 3 1 ((Mc k l.length).map Az))]):=by
 refine eR Tryz.func164 rfl (by kernel_rfl) rfl ?_;intro Z a;(repeat first |refine sN rfl ?_ |((first|refine sA rfl ?_ ?_|refine s4 rfl ‹_› rfl ?_ ?_);first|exact tI|omega|simp only[oZ] at *;omega) |refine s2 rfl λ_ b=>?_ |refine s3 rfl ?_ ?_<;>rintro rfl |refine aU rfl ?_ |refine Aa ?_);refine aB ?_;refine aL (α:={i:Nat // i<=l.length}) [0] [] rfl rfl (λs=>[(1,eI .i64 (k+s.1)),(5,eI .i64 s.1)]) (λs=>[(0,.cells 3 1 ((Ec (λj:Nat=>k+(j:Int)) l s.1).map Az))]) 1 (λs=>l.length - s.1) (⟨0,by omega⟩) a rfl (by ((repeat' first|exact tI|rfl|refine And.intro ?_ ?_)<;>(simp[cX,zC,a,cN,Pv]<;>rfl))) ?_;rintro⟨i,hi⟩;(try dsimp only[cA,cB]);by_cases d:i < l.length
 ·obtain⟨x,e⟩:=get_some d
  have g:((Ec (λj:Nat=>k+(j:Int)) l i).map Az)[0+((i:Nat):Int).toNat]? = some (Az x):=by rw [bW,bL,bG,Kq e];rfl
  have f:((Ec (λj:Nat=>k+(j:Int)) l i).map Az).set (0+((i:Nat):Int).toNat) (Az (k+i))=(Ec (λj:Nat=>k+(j:Int)) l (i+1)).map Az:=by rw [bW,bL,<-d4,Kr e]
  (repeat first |refine sN rfl ?_ |((first|refine sA rfl ?_ ?_|refine s4 rfl ‹_› rfl ?_ ?_);first|exact tI|omega|simp only[oZ] at *;omega) |refine s2 rfl λ_ b=>?_ |refine s3 rfl ?_ ?_<;>rintro rfl |refine aU rfl ?_ |refine Aa ?_)
  ((refine aC rfl ?_ ?_<;>rintro⟨⟩);all_goals try(exfalso;first|omega|simp only[oZ] at *;omega))
  refine aK ?_;refine aS (aB ?_);(repeat first |refine sN rfl ?_ |((first|refine sA rfl ?_ ?_|refine s4 rfl ‹_› rfl ?_ ?_);first|exact tI|omega|simp only[oZ] at *;omega) |refine s2 rfl λ_ b=>?_ |refine s3 rfl ?_ ?_<;>rintro rfl |refine aU rfl ?_ |refine Aa ?_);refine⟨⟨i+1,by first|omega|simp only[oZ] at *;omega⟩,by dsimp only;(first|omega|simp only[oZ] at *;omega),[0],?_⟩;have c:Aj (Az x) 0 (eC (eI .i64 (k+i)))=Az (k+i):=rfl;rw [c,f];simp[cX,zC,a,cN,eJ]
 ·obtain rfl:i=l.length:=by omega
  rw [Kp];(repeat first |refine sN rfl ?_ |((first|refine sA rfl ?_ ?_|refine s4 rfl ‹_› rfl ?_ ?_);first|exact tI|omega|simp only[oZ] at *;omega) |refine s2 rfl λ_ b=>?_ |refine s3 rfl ?_ ?_<;>rintro rfl |refine aU rfl ?_ |refine Aa ?_)
  ((refine aC rfl ?_ ?_<;>rintro⟨⟩);all_goals try(exfalso;first|omega|simp only[oZ] at *;omega))
  refine aE ?_;(repeat first |refine sN rfl ?_ |((first|refine sA rfl ?_ ?_|refine s4 rfl ‹_› rfl ?_ ?_);first|exact tI|omega|simp only[oZ] at *;omega) |refine s2 rfl λ_ b=>?_ |refine s3 rfl ?_ ?_<;>rintro rfl |refine aU rfl ?_ |refine Aa ?_);exact aR ⟨_,rfl,[0],eI .i64 (k+l.length),[(0,.cells 3 1 ((Mc k l.length).map Az))],⟨by intro i hi;match i with|0=>rfl,by decide⟩,rfl,by ((repeat' first|exact tI|rfl|refine And.intro ?_ ?_)<;>(simp[cX,zC,a,cN,Mc]<;>rfl)),rfl,rfl,rfl⟩
theorem MS(l:List Bool)(k:Int)(n:0<=k)(m:k<=1152921504606846976)(h:l.length<=1152921504606846976):Spec Tryz.prog TB 93 [(0,.cells 4 1 (l.map AB))] 1 [.o (.arr 0 1 0 l.length),eI .i64 k] (λx σ nx=>x=eI .i64 (k+l.length)/\nx=1/\σ=[(0,.cells 4 1 ((IB k l.length).map AB))]):=by
 refine eR Tryz.func93 rfl (by kernel_rfl) rfl ?_;intro Z b;(repeat first |refine sN rfl ?_ |((first|refine sA rfl ?_ ?_|refine s4 rfl ‹_› rfl ?_ ?_);first|exact tI|omega|simp only[oZ] at *;omega) |refine s2 rfl λ_ a=>?_ |refine s3 rfl ?_ ?_<;>rintro rfl |refine aU rfl ?_ |refine Aa ?_);refine aB ?_;refine aL (α:={i:Nat // i<=l.length}) [0] [] rfl rfl (λs=>[(1,eI .i64 (k+s.1)),(5,eI .i64 s.1)]) (λs=>[(0,.cells 4 1 ((Ec (λj:Nat=>decide ((k+(j:Int)) % 3=0)) l s.1).map AB))]) 1 (λs=>l.length - s.1) (⟨0,by omega⟩) b rfl (by ((repeat' first|exact tI|rfl|refine And.intro ?_ ?_)<;>(simp[cX,zC,b,cN,Pv]<;>rfl))) ?_;rintro⟨i,hi⟩;(try dsimp only[cA,cB]);by_cases d:i < l.length
 ·obtain⟨x,e⟩:=get_some d
  have g:((Ec (λj:Nat=>decide ((k+(j:Int)) % 3=0)) l i).map AB)[0+((i:Nat):Int).toNat]? = some (AB x):=by rw [bW,bL,bG,Kq e];rfl
  have f:((Ec (λj:Nat=>decide ((k+(j:Int)) % 3=0)) l i).map AB).set (0+((i:Nat):Int).toNat) (AB (decide ((k+(i:Int)) % 3=0)))=(Ec (λj:Nat=>decide ((k+(j:Int)) % 3=0)) l (i+1)).map AB:=by rw [bW,bL,<-d4,Kr e]
  (repeat first |refine sN rfl ?_ |((first|refine sA rfl ?_ ?_|refine s4 rfl ‹_› rfl ?_ ?_);first|exact tI|omega|simp only[oZ] at *;omega) |refine s2 rfl λ_ a=>?_ |refine s3 rfl ?_ ?_<;>rintro rfl |refine aU rfl ?_ |refine Aa ?_)
  ((refine aC rfl ?_ ?_<;>rintro⟨⟩);all_goals try(exfalso;first|omega|simp only[oZ] at *;omega))
  refine aK ?_;refine aS (aB ?_);(repeat first |refine sN rfl ?_ |((first|refine sA rfl ?_ ?_|refine s4 rfl ‹_› rfl ?_ ?_);first|exact tI|omega|simp only[oZ] at *;omega) |refine s2 rfl λ_ a=>?_ |refine s3 rfl ?_ ?_<;>rintro rfl |refine aU rfl ?_ |refine Aa ?_);subst a;refine⟨⟨i+1,by first|omega|simp only[oZ] at *;omega⟩,by dsimp only;(first|omega|simp only[oZ] at *;omega),[0],?_⟩;have c:Aj (AB x) 0 (eC (eB (decide ((k+(i:Int)) % 3=0))))=AB (decide ((k+(i:Int)) % 3=0)):=rfl;rw [c,f];simp[cX,zC,b,cN,eJ]
 ·obtain rfl:i=l.length:=by omega
  rw [Kp];(repeat first |refine sN rfl ?_ |((first|refine sA rfl ?_ ?_|refine s4 rfl ‹_› rfl ?_ ?_);first|exact tI|omega|simp only[oZ] at *;omega) |refine s2 rfl λ_ a=>?_ |refine s3 rfl ?_ ?_<;>rintro rfl |refine aU rfl ?_ |refine Aa ?_)
  ((refine aC rfl ?_ ?_<;>rintro⟨⟩);all_goals try(exfalso;first|omega|simp only[oZ] at *;omega))
  refine aE ?_;(repeat first |refine sN rfl ?_ |((first|refine sA rfl ?_ ?_|refine s4 rfl ‹_› rfl ?_ ?_);first|exact tI|omega|simp only[oZ] at *;omega) |refine s2 rfl λ_ a=>?_ |refine s3 rfl ?_ ?_<;>rintro rfl |refine aU rfl ?_ |refine Aa ?_);exact aR ⟨_,rfl,[0],eI .i64 (k+l.length),[(0,.cells 4 1 ((IB k l.length).map AB))],⟨by intro i hi;match i with|0=>rfl,by decide⟩,rfl,by ((repeat' first|exact tI|rfl|refine And.intro ?_ ?_)<;>(simp[cX,zC,b,cN,IB]<;>rfl)),rfl,rfl,rfl⟩
abbrev Uc(p:A5):Jw:=⟨true,p,OJ,DW,0⟩
theorem MW{t:Jw}{al:Int}{A:W->Bool}(f:GV Tryz.prog TB 67 154 t al A):Pure Tryz.prog TB 128 [Dk t] (Fy (Ex A al Bl)):=by
 have c:Pure Tryz.prog TB 43 [Dk t,Cs Bl] (Fy (Ex A al Bl)):=FW f Bl ⟨by decide,by decide,λw a=>by simp [Bl] at a;subst a;simp,λw a=>by simp [Bl] at a;subst a;simp⟩
 rcases e:Ex A al Bl with _|x<;>rw [e] at c<;>(
  refine eG Tryz.func128 rfl (by kernel_rfl) rfl ?_;intro Z d;(repeat' first |refine sN rfl ?_ |((first|refine sA rfl ?_ ?_|refine s4 rfl ‹_› rfl ?_ ?_);first|exact tI|omega|simp only[oZ] at *;omega) |(refine s2 rfl λ_ b=>?_;try (simp only[cI,cM] at b;subst b)) |refine sP rfl (c) rfl ?_|(refine Av rfl ?_;refine gA rfl ?_;first|refine gS (λ_ _=>AI rfl rfl (by rfl) (by rfl)) ?_) |refine s3 rfl ?_ ?_<;>rintro rfl |refine aU rfl ?_ |refine Aa ?_ |refine rE (by kernel_rfl) ?_|(refine aC rfl ?_ ?_<;>rintro⟨⟩)|refine aK ?_|refine aE ?_|refine aB ?_|refine aR ⟨_,rfl,?_⟩)
  all_goals rfl)
noncomputable def GN(p:A5)(n:Nat):Nat:=min (AJ p) (n - 1)
theorem Xz{p:A5}(a:Ax p=true):GV Tryz.prog TB 67 154 (Uc p) p.al (FD p):=by
 have:=Zr (TB:=TB) (t:=Uc p) rfl;rw [if_pos (show Ax (Uc p).p=true from a)] at this;exact this
theorem NY{p:A5}(b:Ax p=true)(n:Nat)(K:1<=n)(I:n < 9223372036854775808):Pure Tryz.prog TB 97 [A9 p,eI .i64 n] (.t [(true,[.d (A6 (AO p (GN p n)).rows),.d (A6 (AO p (GN p n)).cols)]),(false,[.d (iD ((GN p n:Int)+1))])]):=by
 have F:=Xz (TB:=TB) b;have hal:0<=p.al->BP p.al=true:=λ_=>(Au b).1;have q:=MW F;rw [LF b] at q
 have x:∀k,k<=AJ p->Pure Tryz.prog TB 20 [Dk (Uc p),Cs (AO p k)] (GI (some (AG (LA p) p.al (AO p k)))):=λk m=>by
  have:=Df F (AO p k) (Nm b m);rw [if_pos (De b m),Mp b m] at this;exact this
 have s:∀k,Pure Tryz.prog TB 168 [A9 (AG (LA p) p.al (AO p k)),A9 p] (.t [(false,[.d (tD ((GU p (AO p k)).getD []))]),(false,[.d (bD (GU p (AO p k)).isSome)])]):=λk=>by
  have:=Jp (TB:=TB) (AG (LA p) p.al (AO p k)) p
  have e:Jn (Hb (AG (LA p) p.al (AO p k)) p)=(.t [(false,[.d (tD ((GU p (AO p k)).getD []))]),(false,[.d (bD (GU p (AO p k)).isSome)])]:E):=by
   unfold GU;cases Hb (AG (LA p) p.al (AO p k)) p<;>rfl
  rw [e] at this;exact this
 have G:=(Ci b).1;have L:GN p n=min (AJ p) (n - 1):=rfl;have u:=x 0 (by omega);have r:=s 0;refine eG Tryz.func97 rfl (by kernel_rfl) rfl ?_;intro Z i;(repeat first |refine sN rfl ?_ |((first|refine sA rfl ?_ ?_|refine s4 rfl ‹_› rfl ?_ ?_);first|exact tI|omega|simp only[oZ] at *;omega) |refine s2 rfl λ_ a=>?_ |refine sP rfl (q) rfl ?_|refine sP rfl (u) rfl ?_|refine sP rfl (r) rfl ?_|(refine Av rfl ?_;refine gA rfl ?_;first|refine gS (λ_ _=>AI rfl rfl (by rfl) (by rfl)) ?_) |refine s3 rfl ?_ ?_<;>rintro rfl |refine aU rfl ?_ |refine Aa ?_);refine aB ?_;refine aL (α:={k:Nat // k<=GN p n}) [1,2,4,6,7,10] [0,1] rfl rfl (λ⟨k,m⟩=>[(9,eI .i64 ((k:Int)+1)),(12,eT ((GU p (AO p k)).getD [])),(13,eB (GU p (AO p k)).isSome)]) (λ⟨k,m⟩=>[(2,.cells 47 2 [[.d (A6 (AO p k).rows),.d (A6 (AO p k).cols)]]),(3,.cells 29 3 [[.d (iD (AG (LA p) p.al (AO p k)).al),.d (CG (AG (LA p) p.al (AO p k)).nx),.d (EJ (AG (LA p) p.al (AO p k)).ac)]])]) 4 (λ⟨k,m⟩=>GN p n - k) (⟨0,by omega⟩) i rfl (by ((repeat' first|exact tI|rfl|refine And.intro ?_ ?_)<;>(simp[cX,zC,i]<;>rfl))) ?_;rintro⟨k,m⟩;(try dsimp only[cA,cB])
 have A:k<=AJ p:=by omega
 have y:GU p (AO p k)=none\/∃w,GU p (AO p k)=some w:=by cases GU p (AO p k)<;>simp
 rcases y with c|⟨w,c⟩
 ·have l:k=GN p n:=by
   rcases cL k (AJ p) with h|h
   ·obtain⟨w,v,o,_⟩:=Gz b h
    rw [c] at o;cases o
   ·omega
  rw [c,<-l];(repeat first |refine sN rfl ?_ |((first|refine sA rfl ?_ ?_|refine s4 rfl ‹_› rfl ?_ ?_);first|exact tI|omega|simp only[oZ] at *;omega) |refine s2 rfl λ_ a=>?_ |refine s3 rfl ?_ ?_<;>rintro rfl |refine aU rfl ?_ |refine Aa ?_)
  ((refine aC rfl ?_ ?_<;>rintro⟨⟩);all_goals try (simp at a;done))
  refine aE ?_;(repeat first |refine sN rfl ?_ |((first|refine sA rfl ?_ ?_|refine s4 rfl ‹_› rfl ?_ ?_);first|exact tI|omega|simp only[oZ] at *;omega) |refine s2 rfl λ_ a=>?_ |refine s3 rfl ?_ ?_<;>rintro rfl |refine aU rfl ?_ |refine Aa ?_);refine aR ⟨_,rfl,rfl⟩
 ·have z:GU p (AO p k)≠none:=by rw [c];simp
  have l:k < AJ p:=by
   rcases cL k (AJ p) with h|h
   ·exact h
   ·exact absurd (by rw [show k=AJ p by omega];exact(Ci b).2.1) z
  have H:=E8 c;by_cases J:k+1 < n
  ·have j:=Lv F hal (AO p k) (Nm b A) w (by omega)
   rw [PT b l c] at j;have g:=x (k+1) (by omega);have f:=s (k+1);rw [c];(repeat first |refine sN rfl ?_ |((first|refine sA rfl ?_ ?_|refine s4 rfl ‹_› rfl ?_ ?_);first|exact tI|omega|simp only[oZ] at *;omega) |refine s2 rfl λ_ a=>?_ |refine s3 rfl ?_ ?_<;>rintro rfl |refine aU rfl ?_ |refine Aa ?_);refine Al.cond rfl (λhb=>?_) (λhb=>?_)<;>cases hb
   rotate_left
   ·exfalso;first|omega|simp only[oZ] at *;omega
   refine aK ?_;(repeat first |refine sN rfl ?_ |((first|refine sA rfl ?_ ?_|refine s4 rfl ‹_› rfl ?_ ?_);first|exact tI|omega|simp only[oZ] at *;omega) |refine s2 rfl λ_ a=>?_ |refine sP rfl (j) rfl ?_|refine sP rfl (g) rfl ?_|refine sP rfl (f) rfl ?_ |refine s3 rfl ?_ ?_<;>rintro rfl |refine aU rfl ?_ |refine Aa ?_);refine aB ?_;(repeat first |refine sN rfl ?_ |((first|refine sA rfl ?_ ?_|refine s4 rfl ‹_› rfl ?_ ?_);first|exact tI|omega|simp only[oZ] at *;omega) |refine s2 rfl λ_ a=>?_ |refine sP rfl (j) rfl ?_|refine sP rfl (g) rfl ?_|refine sP rfl (f) rfl ?_ |refine s3 rfl ?_ ?_<;>rintro rfl |refine aU rfl ?_ |refine Aa ?_);refine⟨⟨k+1,by first|omega|simp only[oZ] at *;omega⟩,by dsimp only;(first|omega|simp only[oZ] at *;omega),[0,1,2,3],?_⟩
   ((repeat' first|exact tI|rfl|refine And.intro ?_ ?_)<;>(simp[cX,zC,i]<;>rfl))
  ·have B:k=GN p n:=by omega
   rw [c,<-B];(repeat first |refine sN rfl ?_ |((first|refine sA rfl ?_ ?_|refine s4 rfl ‹_› rfl ?_ ?_);first|exact tI|omega|simp only[oZ] at *;omega) |refine s2 rfl λ_ a=>?_ |refine s3 rfl ?_ ?_<;>rintro rfl |refine aU rfl ?_ |refine Aa ?_);refine Al.cond rfl (λhb=>?_) (λhb=>?_)<;>cases hb
   ·exfalso;first|omega|simp only[oZ] at *;omega
   refine aE ?_;(repeat first |refine sN rfl ?_ |((first|refine sA rfl ?_ ?_|refine s4 rfl ‹_› rfl ?_ ?_);first|exact tI|omega|simp only[oZ] at *;omega) |refine s2 rfl λ_ a=>?_ |refine s3 rfl ?_ ?_<;>rintro rfl |refine aU rfl ?_ |refine Aa ?_);refine aR ⟨_,rfl,rfl⟩
end Go.Am
