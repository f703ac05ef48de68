/-
  The reference's table with a column more, as the caller's own: walked.
-/
import Derived.Test.YtgpbfllcjdfelaaGreatDoorPart35
import Derived.Test.YtgpbfllcjdfelaaGreatDoorPart28
import Derived.Test.YtgpbfllcjdfelaaGreatDoorPart32
set_option linter.all false
namespace Go.Am
open Go Go.Proofs
set_option maxHeartbeats 1000000
set_option maxRecDepth 4000
attribute [local irreducible] AU BZ Lex Br Aj Spec
variable {TB:Bp}
def cU(o:Option A9)(x:E)(σ:Ab)(nx:Nat):Prop:=
 match o with
 | none=>x=KR none/\σ=[]/\nx=0
 | some u=>x=.t [(true,[.arr 0 1 0 u.rows.length,.arr 1 1 0 u.cols.length]),(false,[.d (bD true)])]/\σ=[(0,.cells 9 1 (u.rows.map AM)),(1,.cells 9 1 (u.cols.map AM))]/\nx=2
theorem NM{t:FB}{al:Int}{A:W->Bool}(q:I0 Tryz.prog TB 67 154 t al A)(tab:A9)(u:TS tab)(w:W)(hw:w.length<=1048576) :
 AS Tryz.prog TB 213 0 [] 0 [C7 t,CW tab,eT w] (cU (O5 A al tab w)):=by
 have k:=Et q tab u;have j:=SB q w (by omega);have g:=Hz (TB:=TB) tab.cols w (by have:=u.cl;omega);by_cases f:(A1 A al tab && NY al w)=true
 ·have ha:O5 A al tab w=Sh tab w:=by unfold O5;rw [if_pos f]
  rw [ha];rw [d5] at f;rw [f.1] at k;rw [f.2] at j;have c:Vm al tab:=(CE f.1).1;have l:=c.r1;have n:=c.c1;have v:=c.rl;have y:=c.cl;by_cases p:tab.cols.length=20\/w∈tab.cols
  ·have s:Sh tab w=none:=by unfold Sh;rw [if_pos p]
   rw [s];refine AS.AV (AS.PZ (m:=0) (ce rfl) Tryz.func213 rfl (by kernel_rfl) (ce rfl) ?_);intro Γ b;(repeat' first|refine sN rfl ?_ |refine tA rfl ?_ |(refine s2 rfl λ_ a=>?_;try (simp only[m8,nW] at a;subst a)) |refine sP rfl (k) rfl ?_|refine sP rfl (j) rfl ?_|(refine sC rfl (g) ?_;intro _ a)|(refine Ag rfl ?_;refine gA rfl ?_;first| refine gS (λ_ _=>AG rfl rfl (by rfl) (by rfl)) ?_) |refine s3 rfl ?_ ?_<;>rintro rfl |refine aU rfl ?_ |refine Aa ?_ |refine rE (by kernel_rfl) ?_|(refine aC rfl ?_ ?_<;>rintro⟨⟩)|refine aK ?_|refine aE ?_|refine aB ?_|refine aR ⟨_,rfl,?_⟩)
   all_goals first
    | (exfalso;clear k j g q;simp at *;grind;done)
    | exact⟨[],KR none,[],⟨λi hi=>absurd hi (i8 i),jp⟩,rfl,trivial,rfl,rfl,rfl⟩
  ·have s:Sh tab w=some ⟨tab.rows,tab.cols++[w]⟩:=by unfold Sh;rw [if_neg p]
   rw [s];have x:decide (w∈tab.cols)=false:=decide_eq_false λh=>p (.inr h);have z:tab.cols.length≠20:=λh=>p (.inl h);rw [x] at g;refine AS.AV (AS.PZ (m:=0) (ce rfl) Tryz.func213 rfl (by kernel_rfl) (ce rfl) ?_);intro Γ b;(repeat first|refine sN rfl ?_ |refine tA rfl ?_ |(refine s2 rfl λ_ a=>?_;try (simp only[m8,nW] at a;subst a)) |refine sP rfl (k) rfl ?_|refine sP rfl (j) rfl ?_|refine sP rfl (g) rfl ?_ |refine aU rfl ?_ |refine Aa ?_);refine Aj.cond rfl (λhb=>?_) (λhb=>?_)<;>cases hb
   ·exfalso;(simp only[oZ] at *;omega)
   refine aK ?_;(repeat first|refine aU rfl ?_);refine rG (ko [0,1,2,4,5,6,8,9,3,7,10,11,12,13] [3,7,10,12] [0,1,2,4,5,6,8,9]) (by kernel_rfl) ?_;(repeat first|refine tX rfl ?_|(refine Ag rfl ?_;refine gA rfl ?_;first| refine gS (λ_ _=>FX (by rfl) (by rfl)) ?_|refine gS (λ_ _=>Na rfl rfl rfl rfl rfl (by rfl) (by rfl) (by rfl) (by rfl) (by rfl)) ?_));(refine pW rfl ?_ rfl (by rfl);refine Df rfl rfl rfl (by intro r e;simp at e;obtain⟨_,_,rfl⟩:=e;rfl) (by rfl) (ce rfl) (by simp;omega) (λh=>?_) (λ_=>?_))
   ·exfalso;simp at h;rw [h] at l;simp at l
   (repeat first| (refine Ag rfl ?_;refine gA rfl ?_;first| refine gS (λ_ _=>FX (by rfl) (by rfl)) ?_|refine gS (λ_ _=>Na rfl rfl rfl rfl rfl (by rfl) (by rfl) (by rfl) (by rfl) (by rfl)) ?_));(refine pW rfl ?_ rfl (by rfl);refine Df rfl rfl rfl (by intro r e;simp at e;obtain⟨_,_,rfl⟩:=e;rfl) (by rfl) (ce rfl) (by simp;omega) (λh=>?_) (λ_=>?_))
   ·exfalso;simp at h;rw [h] at n;simp at n
   (refine pW rfl ?_ rfl (by rfl);refine Aw rfl rfl rfl (by first| (simp;done)|(simp;(omega))) rfl (by intro r e;simp at e;subst e;rfl) (by rfl) (ce rfl) (by simp;omega) ?_);(repeat first|refine tA rfl ?_|(refine Ag rfl ?_;refine gA rfl ?_;first| refine gS (λ_ _=>AG rfl rfl (by rfl) (by rfl)) ?_) |refine Aa ?_);refine Aj.Ak [] [] rfl rfl [(6,.o (.ptr 0 2 0 0)),(7,eB true)] [(0,.cells 47 2 [[.arr 1 1 0 tab.rows.length,.arr 2 1 0 (tab.cols++[w]).length]]),(1,.cells 9 1 (tab.rows.map AM)),(2,.cells 9 1 ((tab.cols++[w]).map AM))] [0,1,3] (rl b rfl) (by (simp[cX,zC,b,cN,BC,Af,eC])) ?_;(try dsimp only[cA,cB]);exact aR ⟨_,rfl,[1,2],.t [(true,[.arr 0 1 0 tab.rows.length,.arr 1 1 0 (tab.cols++[w]).length]),(false,[.d (bD true)])],[(0,.cells 9 1 (tab.rows.map AM)),(1,.cells 9 1 ((tab.cols++[w]).map AM))],⟨λi hi=>absurd hi (i8 i),by decide⟩,rfl,by (simp[cX,zC,b,cN]),rfl,rfl,rfl⟩
 ·have ha:O5 A al tab w=none:=by unfold O5;rw [if_neg f]
  rw [ha];refine AS.AV (AS.PZ (m:=0) (ce rfl) Tryz.func213 rfl (by kernel_rfl) (ce rfl) ?_);intro Γ b;(repeat' first|refine sN rfl ?_ |refine tA rfl ?_ |(refine s2 rfl λ_ a=>?_;try (simp only[m8,nW] at a;subst a)) |(refine sC rfl (k) ?_;intro _ a)|(refine sC rfl (j) ?_;intro _ a)|(refine sC rfl (g) ?_;intro _ a)|(refine Ag rfl ?_;refine gA rfl ?_;first| refine gS (λ_ _=>AG rfl rfl (by rfl) (by rfl)) ?_) |refine s3 rfl ?_ ?_<;>rintro rfl |refine aU rfl ?_ |refine Aa ?_ |refine rE (by kernel_rfl) ?_|(refine aC rfl ?_ ?_<;>rintro⟨⟩)|refine aK ?_|refine aE ?_|refine aB ?_|refine aR ⟨_,rfl,?_⟩)
  all_goals first
   | (exfalso;clear k j g q;simp at *;grind;done)
   | exact⟨[],KR none,[],⟨λi hi=>absurd hi (i8 i),jp⟩,rfl,trivial,rfl,rfl,rfl⟩
theorem dr{C X:A9->Int->Prop}{Y:Prop}(h:∀q p,C q p->X q p)(hk:(∀q p,C q p->X q p)->Y):Y:=hk h
structure KN (n m:Nat) (t:A9):Prop where
 rl:t.rows.length<=n
 cl:t.cols.length<=n
 rb:∀w∈t.rows,w.length<=m
 cb:∀w∈t.cols,w.length<=m
theorem KN.sz{n m:Nat}{t:A9}(h:KN n m t)(a:n<=4194304)(b:m<=4194304):TS t:=⟨by have:=h.rl;omega,by have:=h.cl;omega,λw hw=>by have:=h.rb w hw;omega,λw hw=>by have:=h.cb w hw;omega⟩
theorem KN.up{n m n' m':Nat}{t:A9}(h:KN n m t)(a:n<=n')(b:m<=m'):KN n' m' t:=⟨by have:=h.rl;omega,by have:=h.cl;omega,λw hw=>by have:=h.rb w hw;omega,λw hw=>by have:=h.cb w hw;omega⟩
theorem KN.fQ{n m:Nat}{t:A9}(h:KN n m t){w:W}(hw:w.length<=m):KN (n+1) m ⟨t.rows,t.cols++[w]⟩:=⟨by have:=h.rl;show t.rows.length<=_;omega,by have:=h.cl;simp;omega,h.rb,λx a=>by
 rcases em.1 a with a|a
 ·exact h.cb x a
 ·simp at a;subst a;exact hw⟩
theorem KN.row{n m:Nat}{t:A9}(h:KN n m t){w:W}(hw:w.length<=m):KN (n+1) m ⟨t.rows++[w],t.cols⟩:=⟨by have:=h.rl;simp;omega,by have:=h.cl;show t.cols.length<=_;omega,λx a=>by
 rcases em.1 a with a|a
 ·exact h.rb x a
 ·simp at a;subst a;exact hw,h.cb⟩
theorem KO{L:W->Bool}{ls:List UInt8}:∀ {n:Nat} {t u:A9},Bw L ls n t=some u->u∈DO L ls n t
 | 0,t,u,h=>by simp [Bw] at h
 | n + 1,t,u,h=>by
  unfold Bw at h;unfold DO
  cases a:Bb L ls t with
  | none=>rw [a] at h;injection h with h;subst h;simp
  | some w=>
   rw [a] at h;dsimp only at h |-;split at h
   ·cases h
   ·rename_i b
    rw [if_neg b];exact kP _ (KO h)
theorem Iq.sm{al:Int}{b:Nat}{t:A9}(h:Iq al b t)(hb:b<=50000):KN 20 50000 t:=⟨by have:=h.rl;omega,h.cl,λw hw=>by have:=(h.onR w hw).2;omega,λw hw=>by have:=(h.onC w hw).2;omega⟩
theorem Vv{A:W->Bool}{al:Int}{t u:A9}(h:(if A1 A al t then Bw A (A2 al) 13 t else none)=some u):KN 20 50000 u:=by
 by_cases a:A1 A al t=true
 ·rw [if_pos a] at h
  exact((CE a).1.bd.grow (KO h)).sm (by omega)
 ·rw [if_neg a] at h;cases h
theorem bx{A:W->Bool}{al:Int}{t:A9}{w:W}{n m:Nat}(b:KN n m t)(h:(if A1 A al t then Bb A (A2 al) t else none)=some w):w.length<=m+1:=by
 by_cases a:A1 A al t=true
 ·rw [if_pos a] at h
  obtain⟨⟨r,c,l,_,rfl⟩,_⟩:=IT h;have:=b.rb r c;simp;omega
 ·rw [if_neg a] at h;cases h
theorem cY{A:W->Bool}{al:Int}{t u:A9}{w:W}{n m:Nat}(a:KN n m t)(hw:w.length<=m)(h:O5 A al t w=some u):u.rows=t.rows/\KN (n+1) m u:=by
 unfold O5 at h;split at h
 ·unfold Sh at h
  split at h
  ·cases h
  ·injection h with h;subst h;exact⟨rfl,a.fQ hw⟩
 ·cases h
theorem XV(r:Nat->Nat):E.Hk (E.AV r (KR none)):=by
 show ∀x∈[(true,[C.d (.l []),C.d (.l [])]),(false,[C.d (bD false)])],∀c∈x.2,C.Hk c=true
 simp [C.Hk]
theorem aT(r:Nat->Nat)(n m:Nat):E.Hk (E.AV r (.t [(true,[.arr 0 1 0 n,.arr 1 1 0 m]),(false,[.d (bD true)])])):=by
 show ∀x∈[(true,[C.arr (r 0) 1 0 n,C.arr (r 1) 1 0 m]),(false,[C.d (bD true)])],∀c∈x.2,C.Hk c=true
 simp [C.Hk]
theorem jG{r:Nat->Nat}{i:Nat}{l:List W}:O.Hk (O.AV r (.cells i 1 (l.map AM))):=by
 show ∀x∈(l.map AM).map (C.BH r),∀c∈x,C.Hk c=true
 intro x d c a;obtain⟨y,b,rfl⟩:=d8.1 d;obtain⟨w,_,rfl⟩:=d8.1 b;simp [C.BH,C.AV] at a;subst a;rfl
theorem Ui(o:Option W):E.Hk (XE o):=by
 cases o with
 | none=>show ∀x∈[(false,[C.d (tD [])]),(false,[C.d (bD false)])],∀c∈x.2,C.Hk c=true;simp [C.Hk]
 | some w=>show ∀x∈[(false,[C.d (tD w)]),(false,[C.d (bD true)])],∀c∈x.2,C.Hk c=true;simp [C.Hk]
abbrev iU(x:A9):List (List C):=[[.arr 3 1 0 x.rows.length,.arr 4 1 0 x.cols.length]]
theorem QL{te:FB}{al:Int}{A:W->Bool}(V:∀TB:Bp,I0 Tryz.prog TB 67 154 te al A)(b:List UInt8)(hb:b.length<=2000)(p:Int)(h0:0<=p/\p < 300000000):Spec Tryz.prog TB 142 [(0,AN b p)] 1 [.o (.ptr 0 2 0 0),C7 te]
 (λx σ nx=>∃(p':Int) (t:A9),(p<=p'/\p'<=p+20)/\KN 20 50000 t/\x=CW t/\σ=[(0,AN b p')]/\nx=1):=by
 obtain⟨n,m,k1⟩:=BR (TB:=TB) b hb p (by omega) [1,2,0,3] (by decide) (by decide)
 obtain⟨K,rfl⟩:∃K:Nat,n=K:=⟨n.toNat,by simp at m;omega⟩
 have m':K<=3:=by simp at m;omega
 refine eR Tryz.func142 rfl (by kernel_rfl) rfl ?_;intro Γ e;(repeat first|refine aU rfl ?_);(refine Ag rfl ?_;refine Dg (λ_ _=>EI rfl rfl rfl) rfl ?_);(repeat first|refine tX rfl ?_ |refine aU rfl ?_ |refine Aa ?_);(refine pW rfl ?_ rfl (by rfl);refine Bg rfl rfl rfl rfl (by simp [eC]) (by rfl) (by rfl) (by rfl) (by rfl) ?_);(refine pW rfl ?_ rfl (by rfl);refine Bg rfl rfl rfl rfl (by simp [eC]) (by rfl) (by rfl) (by rfl) (by rfl) ?_);(repeat first|refine tX rfl ?_|(refine Ag rfl ?_;refine gA rfl ?_;first| refine gS (λ_ _=>AG rfl rfl (by rfl) (by rfl)) ?_) |refine aU rfl ?_ |refine Aa ?_);(repeat first|refine tA rfl ?_);(refine pW rfl ?_ rfl (by rfl);refine Ae [0] rfl rfl (k1) ⟨rfl,by decide,by decide⟩ rfl (by simp[cX,zC,e,cN]) ?_;rintro J g j ⟨rfl,rfl,rfl⟩ _);(repeat first|refine tA rfl ?_);refine Aa ?_;refine Aj.Ak [0,3] [] rfl rfl [(4,.o (.ptr 1 2 0 0)),(5,.o (.ptr 2 2 0 0)),(6,eI .i64 K)] [(0,AN b (p+1)),(1,.cells 47 2 [[.d (.l []),.d (.l [])]]),(2,.cells 47 2 (iU ⟨[[]],[[]]⟩)),(3,.cells 9 1 ([[]].map AM)),(4,.cells 9 1 ([[]].map AM))] [0,1,4,2,3] (rl e rfl) (by (simp[cX,zC,e,cN,Af,eC,BC])) ?_;(try dsimp only[cA,cB]);refine aB ?_;refine aL (U:={s:Nat×Int×A9 // s.1<=3/\(p+1<=s.2.1/\s.2.1<=p+1+4*(3 - s.1))/\KN (7 - 2*s.1) (7 - s.1) s.2.2}) [0,3] [] rfl rfl (λs=>[(4,.o (.ptr 1 2 0 0)),(5,.o (.ptr 2 2 0 0)),(6,eI .i64 s.1.1)]) (λs=>[(0,AN b s.1.2.1),(1,.cells 47 2 [[.d (.l []),.d (.l [])]]),(2,.cells 47 2 (iU s.1.2.2)),(3,.cells 9 1 (s.1.2.2.rows.map AM)),(4,.cells 9 1 (s.1.2.2.cols.map AM))]) 5 (λs=>s.1.1) (⟨⟨K,p+1,⟨[[]],[[]]⟩⟩,by dsimp only;omega,by dsimp only;omega,⟨by simp;omega,by simp;omega,by simp,by simp⟩⟩) e rfl (by (simp[cX,zC,e,cN,Af,eC,BC])) ?_;rintro⟨⟨k,q,u⟩,hk,hq,y⟩;(try dsimp only[cA,cB]);have hk:k<=3:=hk;have hq:p+1<=q/\q<=p+1+4*(3 - k):=hq;have y:KN (7 - 2*k) (7 - k) u:=y;by_cases hk0:0 < k
 ·(repeat first|refine tA rfl ?_ |refine s2 rfl λ_ f=>?_ |refine aU rfl ?_ |refine Aa ?_)
  ((refine aC rfl ?_ ?_<;>rintro⟨⟩);all_goals try(exfalso;(simp only[oZ] at *;omega)))
  refine aK ?_;refine aS (aB ?_);(repeat first|refine aU rfl ?_);obtain⟨hal,_⟩:=V TB;have X:=VL (TB:=TB) b hb q (by omega) al 3 (by omega);apply dr (C:=λv B=>(p+1<=B/\B<=p+1+4*(4 - (k:Int)))/\KN (8 - 2*k) (7 - k) v)
  case hk=>
   intro Q;refine R.Th [(0,2),(2,2),(3,2),(4,2),(1,12),(10,3),(5,1004),(6,1),(7,2),(8,2),(9,2),(11,5),(12,2)] mixed (by kernel_rfl) rfl (by kernel_rfl) ?_;(repeat ((refine R.Ag rfl ?_;first|(refine R.yQ (md:=false) rfl rfl rfl ?_ ?_;exact tI)|refine R.Dg (λ_ _ _=>Bu rfl rfl rfl (hal) rfl) rfl rfl ?_ )));(refine R.Ag rfl ?_;refine R.jx (λ_ _ _ hs=>Rt rfl (hs.trans rfl) rfl rfl) rfl rfl ?_);(repeat ((refine R.Ag rfl ?_;first|refine R.yP rfl rfl rfl rfl ?_ )));(refine R.Ag rfl ?_;refine R.BE (λ_=>?_) rfl rfl;refine Ae [0] rfl rfl (X) ⟨rfl,by decide,by decide⟩ rfl (by simp[cX,zC,e,cN]) ?_;rintro J g j ⟨B,w,hq1,hw,rfl,rfl,rfl⟩ _;refine⟨Cy 2 rfl rfl,?_⟩)
   have hw3:w.length<=3:=by omega
   have z:=λTB:Bp=>NM (TB:=TB) (V TB) u (y.sz (by omega) (by omega)) w (by omega);have M:=λu' (h:O5 A al u w=some u')=>cY y (by omega) h;generalize O5 A al u w=o at z M;(refine R.Ag rfl ?_;refine R.Io (λ_=>?_) rfl rfl;refine BZ.aW [(24,C7 te),(25,CW u),(29,eT w)] ⟨⟨_,rfl,.Bo rfl⟩,⟨_,rfl,.a (.cons (.full rfl (by simp [d4]) (by simp)) (.cons (.full rfl (by simp [d4]) (by simp)) .nil))⟩,⟨_,rfl,.Bo rfl⟩,trivial⟩ (λΓ'=>?_);refine BG [] rfl rfl 0 (z _) (by decide) ⟨rfl,by decide,by decide⟩ rfl trivial ?_;intro J g j N _)
   cases o with
   | none=>
    obtain⟨rfl,rfl,rfl⟩:J=KR none/\g=[]/\j=0:=N;refine⟨⟨XV _,λx T=>by simp [Ab.AV,Cn] at T⟩,?_⟩;(repeat ((refine R.Ag rfl ?_;first|(refine R.yQ (md:=false) rfl rfl rfl ?_ ?_;exact tI) |refine R.yA rfl rfl rfl rfl ?_ )));refine R.ME ?_;(repeat first|refine tA rfl ?_ |refine aU rfl ?_ |refine Aa ?_)
    ((refine aC rfl ?_ ?_<;>rintro⟨⟩);all_goals try (simp at f;done))
    refine aK ?_
    obtain⟨I,L⟩:∃I:A9,I=u:=⟨u,rfl⟩
    refine Aj.Ak [0,3] [] rfl rfl [(4,.o (.ptr 1 2 0 0)),(5,.o (.ptr 2 2 0 0)),(6,eI .i64 k)] [(0,AN b B),(1,.cells 47 2 [[.d (.l []),.d (.l [])]]),(2,.cells 47 2 (iU I)),(3,.cells 9 1 (I.rows.map AM)),(4,.cells 9 1 (I.cols.map AM))] [0,1,2,3,4] (rl e rfl) (by (simp[cX,zC,e,cN,Af,eC,BC,L])) ?_;(try dsimp only[cA,cB]);exact Q I B ⟨by omega,by rw [L];exact y.up (by omega) (by omega)⟩
   | some v=>
    obtain⟨rfl,rfl,rfl⟩:J=.t [(true,[.arr 0 1 0 v.rows.length,.arr 1 1 0 v.cols.length]),(false,[.d (bD true)])]/\g=[(0,.cells 9 1 (v.rows.map AM)),(1,.cells 9 1 (v.cols.map AM))]/\j=2:=N;obtain⟨_,F⟩:=M v rfl;refine⟨⟨aT _ _ _,λx T=>?_⟩,?_⟩
    ·simp only [Ab.AV,lA,nr,Cn,lh,kw,mZ,or_false] at T
     rcases T with rfl|rfl<;>exact jG
    (repeat ((refine R.Ag rfl ?_;first|(refine R.yQ (md:=false) rfl rfl rfl ?_ ?_;exact tI) |refine R.yA rfl rfl rfl rfl ?_ )));refine R.ME ?_;(repeat first|refine tA rfl ?_ |refine aU rfl ?_ |refine Aa ?_)
    ((refine aC rfl ?_ ?_<;>rintro⟨⟩);all_goals try (simp at f;done))
    refine ia (by kernel_rfl) ?_;(repeat first|refine tA rfl ?_);refine Aa ?_;refine Aj.Ak [0,3] [] rfl rfl [(4,.o (.ptr 1 2 0 0)),(5,.o (.ptr 2 2 0 0)),(6,eI .i64 k)] [(0,AN b B),(1,.cells 47 2 [[.d (.l []),.d (.l [])]]),(2,.cells 47 2 (iU v)),(3,.cells 9 1 (v.rows.map AM)),(4,.cells 9 1 (v.cols.map AM))] [0,1,2,5,6] (rl e rfl) (by (simp[cX,zC,e,cN,Af,eC,BC])) ?_;(try dsimp only[cA,cB]);exact Q v B ⟨by omega,F.up (by omega) (by omega)⟩
  case h=>
   rintro v Y ⟨hq2,F⟩;have G:=Ir (V TB) v (F.sz (by omega) (by omega));have P:=λw h=>bx (A:=A) (al:=al) (w:=w) F h;have hrl:=F.rl
   have ek:((k - 1:Nat):Int)=k - 1:=by omega
   generalize (if A1 A al v then Bb A (A2 al) v else none)=o at G P
   cases o with
   | none=>
    (repeat first|refine tA rfl ?_|(refine Ag rfl ?_;refine gA rfl ?_;first| refine gQ (AU.aW [(36,C7 te),(37,CW v)] ⟨⟨_,rfl,.Bo rfl⟩,⟨_,rfl,.a (.cons (.full rfl (by simp [d4]) (by simp)) (.cons (.full rfl (by simp [d4]) (by simp)) .nil))⟩,trivial⟩ (λΓ'=>Bu rfl rfl rfl G rfl) (Ui _)) rfl ?_) |refine aU rfl ?_ |refine Aa ?_)
    (repeat' first| (refine aC rfl ?_ ?_<;>rintro⟨⟩));all_goals try contradiction
    refine aK ?_;(repeat first|(refine sA rfl ?_ ?_;first|exact tI|omega) |refine aU rfl ?_ |refine Aa ?_);refine⟨⟨⟨k - 1,Y,v⟩,by dsimp only;omega,by dsimp only;omega,F.up (by dsimp only;omega) (by dsimp only;omega)⟩,by dsimp only;(omega),[0,1,2,3,4],?_⟩;simp[cX,zC,e,cN,ek]
   | some w=>
    have hwl:=P w rfl;(repeat first|refine tA rfl ?_ |refine s2 rfl λ_ f=>?_|(refine Ag rfl ?_;refine gA rfl ?_;first| refine gQ (AU.aW [(36,C7 te),(37,CW v)] ⟨⟨_,rfl,.Bo rfl⟩,⟨_,rfl,.a (.cons (.full rfl (by simp [d4]) (by simp)) (.cons (.full rfl (by simp [d4]) (by simp)) .nil))⟩,trivial⟩ (λΓ'=>Bu rfl rfl rfl G rfl) (Ui _)) rfl ?_) |refine aU rfl ?_ |refine Aa ?_)
    (repeat' first|refine tA rfl ?_ |refine aU rfl ?_|(refine aC rfl ?_ ?_<;>rintro⟨⟩));all_goals try contradiction
    all_goals first| (exfalso;(simp only[oZ] at *;omega);done)|skip
    (refine pW rfl ?_ rfl (by rfl);refine Aw rfl rfl rfl (by first| (simp;done)|(simp;(omega))) rfl (by intro r Z;simp at Z;subst Z;rfl) (by rfl) (ce rfl) (by simp;omega) ?_);(repeat first|(refine sA rfl ?_ ?_;first|exact tI|omega) |refine aU rfl ?_ |refine Aa ?_);refine⟨⟨⟨k - 1,Y,⟨v.rows++[w],v.cols⟩⟩,by dsimp only;omega,by dsimp only;omega,((F.up (i7 _) (show 7 - k<=8 - k by omega)).row (w:=w) (by omega)).up (by dsimp only;omega) (by dsimp only;omega)⟩,by dsimp only;(omega),[0,1,2,5,4],?_⟩;simp[cX,zC,e,cN,ek,Af,eC]
 ·obtain rfl:k=0:=by omega
  (repeat first|refine tA rfl ?_ |refine s2 rfl λ_ f=>?_ |refine aU rfl ?_ |refine Aa ?_)
  ((refine aC rfl ?_ ?_<;>rintro⟨⟩);all_goals try (simp at f;done))
  refine aE ?_;refine Aj.LB [3,4] [(0,.o (.ptr 0 2 0 0)),(3,.o (.ip (RN te.kn te.p te.s te.q te.al))),(4,.o (.ptr 1 2 0 0)),(5,.o (.ptr 2 2 0 0))] [(0,AN b q),(1,.cells 47 2 [[.d (.l []),.d (.l [])]]),(2,.cells 47 2 [[.d (Bd u.rows),.d (Bd u.cols)]])] ⟨⟨_,rfl,.Bo⟩,⟨_,rfl,.Bo⟩,⟨_,rfl,.Bo⟩,⟨_,rfl,.Bo⟩,trivial⟩ ⟨⟨_,rfl,by simp,.cons .Bo (.cons .Bo .nil)⟩,⟨_,rfl,by simp,.cons .Bo (.cons .Bo .nil)⟩,⟨_,rfl,by simp,.cons (.full (by simp) rfl (by simp [d4]) (by simp)) (.cons (.full (by simp) rfl (by simp [d4]) (by simp)) .nil)⟩,trivial⟩ ?_;obtain⟨c,c0,c1,hc⟩:=AR (TB:=TB) b hb q 3 (by omega);(repeat first|refine tA rfl ?_ |refine aU rfl ?_);(refine pW rfl ?_ rfl (by rfl);refine Ae [0] rfl rfl (hc) ⟨rfl,by decide,by decide⟩ rfl (by simp[cX,zC,e,cN]) ?_;rintro J g j ⟨rfl,rfl,rfl⟩ _);(repeat first|refine s2 rfl λ_ f=>?_ |refine Aa ?_);(refine aC rfl ?_ ?_<;>rintro⟨⟩)
  ·have H:=Mj (V TB) u (y.sz (by omega) (by omega))
   have S:=λv h=>Vv (A:=A) (al:=al) (t:=u) (u:=v) h;generalize (if A1 A al u then Bw A (A2 al) 13 u else none)=o at H S
   cases o with
   | none=>
    (repeat first|refine tA rfl ?_ |refine sP rfl (H) rfl ?_ |refine aU rfl ?_ |refine Aa ?_)
    ((refine aC rfl ?_ ?_<;>rintro⟨⟩);all_goals try (simp at f;done))
    refine aK ?_;(repeat first|refine tA rfl ?_ |refine aU rfl ?_ |refine Aa ?_);exact aR ⟨_,rfl,[0],CW u,[(0,AN b (q+1))],⟨by intro i hi;match i with|0=>rfl,by decide⟩,rfl,by (simp[cX,zC,e,cN]),q+1,u,by omega,y.up (by omega) (by omega),rfl,rfl,rfl⟩
   | some v=>
    (repeat first|refine tA rfl ?_ |refine sP rfl (H) rfl ?_ |refine aU rfl ?_ |refine Aa ?_)
    ((refine aC rfl ?_ ?_<;>rintro⟨⟩);all_goals try (simp at f;done))
    (repeat first|refine tA rfl ?_ |refine aU rfl ?_ |refine Aa ?_);exact aR ⟨_,rfl,[0],CW v,[(0,AN b (q+1))],⟨by intro i hi;match i with|0=>rfl,by decide⟩,rfl,by (simp[cX,zC,e,cN]),q+1,v,by omega,S v rfl,rfl,rfl,rfl⟩
  refine aK ?_;(repeat first|refine tA rfl ?_ |refine aU rfl ?_ |refine Aa ?_);exact aR ⟨_,rfl,[0],CW u,[(0,AN b (q+1))],⟨by intro i hi;match i with|0=>rfl,by decide⟩,rfl,by (simp[cX,zC,e,cN]),q+1,u,by omega,y.up (by omega) (by omega),rfl,rfl,rfl⟩
def Bt(b:Option Addr):List W->Nat->C
 | [],_=>.d (.v (.slice b 0 0))
 | w::l,id=>.arr id 1 0 (w::l).length
theorem JX{b:Option Addr}{id:Nat}:Bt b [] id=.d (.v (.slice b 0 0)):=rfl
theorem Gt{b:Option Addr}{l:List W}{id:Nat}(h:l≠[]):Bt b l id=.arr id 1 0 l.length:=by cases l with|nil=>exact absurd rfl h|cons w l=>rfl
theorem Vr{b:Option Addr}{l:List W}{w:W}{id:Nat}:Bt b (l++[w]) id=.arr id 1 0 (l.length+1):=by rw [Gt (by simp)];simp
theorem BK(b:Option Addr)(l:List W)(id:Nat)(r:Nat->Nat):C.AV r (Bt b l id)=Bt b l (r id):=by cases l<;>rfl
theorem FZ.Bt{σ:Ab}{b:Option Addr}{l:List W}{id:Nat}{T:TypeId}(h:look σ id=some (.cells T 1 (l.map AM))):FZ σ (Go.Am.Bt b l id) (Bd l):=by
 cases l with
 | nil=>exact .nl
 | cons w l=>exact .full h (by simp [d4]) (by simp)
theorem Xl{U:Type}{Q:U->Prop}{l:List U}{x:U}(h:∀y∈l,Q y)(b:Q x):∀y∈l++[x],Q y:=λy a=>by
 rcases em.1 a with a|a
 ·exact h y a
 ·simp at a;subst a;exact b
theorem bS{U:Type}{Q:U->Prop}{l:List U}{k:Nat}{x:U}(h:∀y∈l,Q y)(b:Q x):∀y∈l.set k x,Q y:=λy a=>by
 rcases nh a with a|rfl
 ·exact h y a
 ·exact b
theorem fZ{X:Option Addr->Option Addr->Prop}{Y:Prop}(h:∀a b,X a b)(hk:(∀a b,X a b)->Y):Y:=hk h
section
variable {P:Program}{Γ:Ctx}{d:Option Tmp}{ty:TypeId}{pos:String}{af:Array Edge}{g:Option (Nat×Bool)}{L:List (Nat×E)}{σ:Ab}{nx:Nat}
theorem Zc{t e:TypeId}{x:Operand}{k b:Nat}{bb:Option Addr}{l:List W}{id:Nat}[m:Ci P t e k b](c:ev (look L) x=some (.o (Bt bb l id))):AU P TB Γ ⟨d,.call ⟨.builtin .len,#[x],#[t]⟩,ty,pos,af,g⟩ (look L) σ nx (eI .i64 l.length):=by
 cases l with
 | cons w l=>exact Za c
 | nil=>
  exact AF λV ρ n _=>by
   have f:=n.get (by simp [Op.operands,Call.operands]) c;obtain⟨i,j,hi,p,_⟩:=Fq m.out;generalize h:ρ x=v at f;have a:v=.slice bb 0 0:=Az.val f;subst a;exact⟨.int .i64 0,by simp [execOp,resolve,invoke,builtin,h,Builtin.len_,run_underlying j,goInt,go_sem],.d (.v rfl)⟩
theorem Pp{K:E->Ab->Nat->Prop}{t e:TypeId}{b:Nat}{z:List Value}{s:Tmp}{x:Operand}{bb:Option Addr}{l:List W}{id:Nat}{r:List C}{ex:E}[y:Ci P t e 1 b][v:BM P e z]
 (p:look L s=some (.o (Bt bb l id))) (q:ev (look L) x=some ex) (k:ev (look ((s,.e)::L)) x=some ex) (u:look σ id=some (.cells e 1 (l.map AM))) (c:ES σ 1 ex=some [r]) (i:r.length=1) (f:z.length=1) (j:0 < b) (hb:(l.length+1)*b<=140737488355328)
 (n:l=[]->K (.o (.arr nx 1 0 1)) ((nx,.cells e 1 [r])::σ) (nx+1))
 (m:l≠[]->K (.o (.arr nx 1 0 (l.length+1))) ((nx,.cells e 1 (l.map AM++[r]))::kill id σ) (nx+1)):BZ P TB Γ ⟨d,.call ⟨.builtin .append,#[.tmp s,x],#[t,t]⟩,ty,pos,af,g⟩ (look L) σ nx K:=by
 cases l with
 | nil=>
  refine QW s p ?_;refine Df (by simp [ev,Av]) k c (by intro r' a;simp at a;subst a;exact i) f j (by simp at hb |-;omega) (λh=>by cases h) λ_=>n rfl
 | cons w l=>
  exact Aw p q u (by simp) c (by intro r' a;simp at a;subst a;exact i) f j hb (m (by simp))
end
def ae(b:List UInt8)(p m:Int)(P:A9->Prop)(x:E)(σ:Ab)(nx:Nat):Prop:=∃(p':Int) (t:A9),(p<=p'/\p'<=p+m)/\P t/\x=CW t/\σ=[(0,AN b p')]/\nx=1
theorem KY(b:List UInt8)(hb:b.length<=2000)(p:Int)(h0:0<=p/\p < 400000000)(x:A9)(n m:Nat)(u:KN n m x)(hn:n<=1000)(hm:5000<=m/\m<=1000000):Spec Tryz.prog TB 76 [(0,AN b p)] 1 [.o (.ptr 0 2 0 0),CW x] (ae b p 5 (KN (n+21) m)):=by
 obtain⟨c,c0,c1,I⟩:=AR (TB:=TB) b hb p 30 (by omega);have hrl:=u.rl;have hcl:=u.cl;have L:∀w:W,w.length<=4001->KN (n+21) m ⟨x.rows++[w],x.cols⟩:=λw hw=>(u.row (by omega)).up (by omega) (by omega);have F:∀w:W,w.length<=4001->KN (n+21) m ⟨x.rows,x.cols++[w]⟩:=λw hw=>(u.fQ (by omega)).up (by omega) (by omega);refine eR Tryz.func76 rfl (by kernel_rfl) rfl ?_;intro Γ a;(repeat first|refine tA rfl ?_ |refine aU rfl ?_ |refine Aa ?_);apply fZ
 case hk=>
  intro H;refine R.Th [(1,2),(2,2),(5,2),(6,2),(0,2),(4,2),(9,3),(3,1),(7,1),(8,0),(10,5)] mixed (by kernel_rfl) rfl (by kernel_rfl) ?_;(repeat ((refine R.Ag rfl ?_;first|(refine R.yQ (md:=false) rfl rfl rfl ?_ ?_;exact tI) |refine R.yP rfl rfl rfl rfl ?_|refine R.Dg (λ_ _ _=>FX (by rfl) (by rfl)) rfl rfl ?_ )));(refine R.Ag rfl ?_;refine R.Io (λ_=>?_) rfl rfl;refine Kr rfl rfl rfl (by intro r t;simp at t;obtain⟨_,_,rfl⟩:=t;rfl) (by rfl) (ce rfl) (by simp;omega) (λh=>?_) (λh=>?_))
  ·have t:x.rows=[]:=by simpa using h
   intro q;(repeat ((refine R.Ag rfl ?_;first| refine R.Dg (λ_ _ _=>FX (by rfl) (by rfl)) rfl rfl ?_ )));(refine R.Ag rfl ?_;refine R.Io (λ_=>?_) rfl rfl;refine Kr rfl rfl rfl (by intro r t;simp at t;obtain⟨_,_,rfl⟩:=t;rfl) (by rfl) (ce rfl) (by simp;omega) (λh=>?_) (λh=>?_))
   ·have I:x.cols=[]:=by simpa using h
    intro e;(repeat ((refine R.Ag rfl ?_;first|refine R.yA rfl rfl rfl rfl ?_|refine R.Dg (λ_ _ _=>AG rfl rfl (by rfl) (by rfl)) rfl rfl ?_ )));refine R.ME ?_;refine Aj.ghost 1 9 ?_;refine Aj.ghost 1 9 ?_;refine Aj.Ak [0] [] rfl rfl [(4,.o (.ptr 1 2 0 0)),(5,.o (.ptr 2 2 0 0))] [(0,AN b p),(1,.cells 47 2 [[.d (.l []),.d (.l [])]]),(2,.cells 47 2 [[Bt q x.rows 3,Bt e x.cols 4]]),(3,.cells 9 1 (x.rows.map AM)),(4,.cells 9 1 (x.cols.map AM))] [0,1,2,3,4] (rl a rfl) (by (simp[cX,zC,a,cN,Af,eC,BC,t,I,JX])) ?_;(try dsimp only[cA,cB]);exact H q e
   ·have I:x.cols≠[]:=by simpa using h
    obtain⟨e,V⟩:∃e:Option Addr,e=none:=⟨none,rfl⟩
    (repeat ((refine R.Ag rfl ?_;first|refine R.yA rfl rfl rfl rfl ?_|refine R.Dg (λ_ _ _=>AG rfl rfl (by rfl) (by rfl)) rfl rfl ?_ )));refine R.ME ?_;refine Aj.ghost 1 9 ?_;refine Aj.Ak [0] [] rfl rfl [(4,.o (.ptr 1 2 0 0)),(5,.o (.ptr 2 2 0 0))] [(0,AN b p),(1,.cells 47 2 [[.d (.l []),.d (.l [])]]),(2,.cells 47 2 [[Bt q x.rows 3,Bt e x.cols 4]]),(3,.cells 9 1 (x.rows.map AM)),(4,.cells 9 1 (x.cols.map AM))] [0,1,3,4,2] (rl a rfl) (by (simp[cX,zC,a,cN,Af,eC,BC,t,Gt I,JX,d4])) ?_;(try dsimp only[cA,cB]);exact H q e
  ·have t:x.rows≠[]:=by simpa using h
   obtain⟨q,hb1⟩:∃q:Option Addr,q=none:=⟨none,rfl⟩
   (repeat ((refine R.Ag rfl ?_;first| refine R.Dg (λ_ _ _=>FX (by rfl) (by rfl)) rfl rfl ?_ )));(refine R.Ag rfl ?_;refine R.Io (λ_=>?_) rfl rfl;refine Kr rfl rfl rfl (by intro r t;simp at t;obtain⟨_,_,rfl⟩:=t;rfl) (by rfl) (ce rfl) (by simp;omega) (λh=>?_) (λh=>?_))
   ·have I:x.cols=[]:=by simpa using h
    intro e;(repeat ((refine R.Ag rfl ?_;first|refine R.yA rfl rfl rfl rfl ?_|refine R.Dg (λ_ _ _=>AG rfl rfl (by rfl) (by rfl)) rfl rfl ?_ )));refine R.ME ?_;refine Aj.ghost 1 9 ?_;refine Aj.Ak [0] [] rfl rfl [(4,.o (.ptr 1 2 0 0)),(5,.o (.ptr 2 2 0 0))] [(0,AN b p),(1,.cells 47 2 [[.d (.l []),.d (.l [])]]),(2,.cells 47 2 [[Bt q x.rows 3,Bt e x.cols 4]]),(3,.cells 9 1 (x.rows.map AM)),(4,.cells 9 1 (x.cols.map AM))] [0,1,3,2,4] (rl a rfl) (by (simp[cX,zC,a,cN,Af,eC,BC,I,Gt t,JX,d4])) ?_;(try dsimp only[cA,cB]);exact H q e
   ·have I:x.cols≠[]:=by simpa using h
    obtain⟨e,V⟩:∃e:Option Addr,e=none:=⟨none,rfl⟩
    (repeat ((refine R.Ag rfl ?_;first|refine R.yA rfl rfl rfl rfl ?_|refine R.Dg (λ_ _ _=>AG rfl rfl (by rfl) (by rfl)) rfl rfl ?_ )));refine R.ME ?_;refine Aj.Ak [0] [] rfl rfl [(4,.o (.ptr 1 2 0 0)),(5,.o (.ptr 2 2 0 0))] [(0,AN b p),(1,.cells 47 2 [[.d (.l []),.d (.l [])]]),(2,.cells 47 2 [[Bt q x.rows 3,Bt e x.cols 4]]),(3,.cells 9 1 (x.rows.map AM)),(4,.cells 9 1 (x.cols.map AM))] [0,1,4,2,3] (rl a rfl) (by (simp[cX,zC,a,cN,Af,eC,BC,Gt t,Gt I,d4])) ?_;(try dsimp only[cA,cB]);exact H q e
 case h =>
  intro q e;(repeat first|refine tA rfl ?_ |refine aU rfl ?_);(refine pW rfl ?_ rfl (by rfl);refine Ae [0] rfl rfl (I) ⟨rfl,by decide,by decide⟩ rfl (by simp[cX,zC,a,cN,BK]) ?_;rintro K v A ⟨rfl,rfl,rfl⟩ _);(repeat first|refine Aa ?_);refine aB ?_;(repeat first|refine tA rfl ?_ |refine s2 rfl λ_ f=>?_ |refine aU rfl ?_ |refine Aa ?_);(refine aC rfl ?_ ?_<;>rintro⟨⟩)
  ·obtain⟨w,hw,S⟩:=Rm (TB:=TB) b hb (p+1) (by omega) [[],[97],[98],[97,98],[97,97],[103]] (by decide) (by decide)
   have B:w.length<=4001:=by have X:∀y∈[([]:W),[97],[98],[97,98],[97,97],[103]],y.length<=4001:=(by decide);exact X w hw
   refine rG (NI [(1,12),(4,1004),(6,1),(8,1)]) (by kernel_rfl) ?_;(repeat first|refine tA rfl ?_);(refine Ag rfl ?_;refine BE ?_ rfl ⟨rfl,rfl⟩;refine Ae [0] rfl rfl (S) ⟨rfl,by decide,by decide⟩ rfl (by simp[cX,zC,a,cN,BK]) ?_;rintro K v A ⟨rfl,rfl,rfl⟩ _;refine⟨Cy 2 rfl rfl,?_⟩);(repeat first|refine tA rfl ?_);(refine pW rfl ?_ rfl (by rfl);refine Pp (r:=AM w) rfl rfl rfl rfl rfl rfl (by rfl) (ce rfl) (by omega) (λh=>?_) (λh=>?_))
   all_goals
    (repeat first|refine tA rfl ?_ |refine aU rfl ?_ |refine Aa ?_);refine Aj.Ak [] [] rfl rfl [(4,.o (.ptr 1 2 0 0))] [(0,AN b (p+1+1)),(1,.cells 47 2 [[.arr 2 1 0 (x.rows.length+1),Bt e x.cols 3]]),(2,.cells 9 1 ((x.rows++[w]).map AM)),(3,.cells 9 1 ((x.cols).map AM))] [0,1,5,4] (rl a rfl) (by (simp[cX,zC,a,cN,Af,eC,BK,h])) ?_;(try dsimp only[cA,cB]);refine Aj.AH [1,2,3] [(4,.o (.ip [Bd (x.rows++[w]),Bd (x.cols)]))] ⟨⟨_,rfl,.inr (.o (.box rfl (.cons (.full rfl (by simp [d4]) (by simp)) (.cons (.Bt rfl) .nil))))⟩,trivial⟩ ?_;exact aR ⟨_,rfl,[0],CW ⟨x.rows++[w],x.cols⟩,[(0,AN b (p+1+1))],⟨by intro i hi;match i with|0=>rfl,by decide⟩,rfl,by (simp[cX,zC,a,cN]),p+1+1,⟨x.rows++[w],x.cols⟩,by omega,L w B,rfl,rfl,rfl⟩
  (repeat first|refine tA rfl ?_ |refine s2 rfl λ_ f=>?_ |refine aU rfl ?_ |refine Aa ?_);(refine aC rfl ?_ ?_<;>rintro⟨⟩)
  ·obtain⟨w,hw,S⟩:=Rm (TB:=TB) b hb (p+1) (by omega) [[],[97],[98],[97,98],[103]] (by decide) (by decide)
   have B:w.length<=4001:=by have X:∀y∈[([]:W),[97],[98],[97,98],[103]],y.length<=4001:=(by decide);exact X w hw
   refine rG (NI [(1,12),(4,1004),(6,1),(8,1)]) (by kernel_rfl) ?_;(repeat first|refine tA rfl ?_);(refine Ag rfl ?_;refine BE ?_ rfl ⟨rfl,rfl⟩;refine Ae [0] rfl rfl (S) ⟨rfl,by decide,by decide⟩ rfl (by simp[cX,zC,a,cN,BK]) ?_;rintro K v A ⟨rfl,rfl,rfl⟩ _;refine⟨Cy 2 rfl rfl,?_⟩);(repeat first|refine tA rfl ?_);(refine pW rfl ?_ rfl (by rfl);refine Pp (r:=AM w) rfl rfl rfl rfl rfl rfl (by rfl) (ce rfl) (by omega) (λh=>?_) (λh=>?_))
   all_goals
    (repeat first|refine tA rfl ?_ |refine aU rfl ?_ |refine Aa ?_);refine Aj.Ak [] [] rfl rfl [(4,.o (.ptr 1 2 0 0))] [(0,AN b (p+1+1)),(1,.cells 47 2 [[Bt q x.rows 2,.arr 3 1 0 (x.cols.length+1)]]),(2,.cells 9 1 ((x.rows).map AM)),(3,.cells 9 1 ((x.cols++[w]).map AM))] [0,1,3,5] (rl a rfl) (by (simp[cX,zC,a,cN,Af,eC,BK,h])) ?_;(try dsimp only[cA,cB]);refine Aj.AH [1,2,3] [(4,.o (.ip [Bd (x.rows),Bd (x.cols++[w])]))] ⟨⟨_,rfl,.inr (.o (.box rfl (.cons (.Bt rfl) (.cons (.full rfl (by simp [d4]) (by simp)) .nil))))⟩,trivial⟩ ?_;exact aR ⟨_,rfl,[0],CW ⟨x.rows,x.cols++[w]⟩,[(0,AN b (p+1+1))],⟨by intro i hi;match i with|0=>rfl,by decide⟩,rfl,by (simp[cX,zC,a,cN]),p+1+1,⟨x.rows,x.cols++[w]⟩,by omega,F w B,rfl,rfl,rfl⟩
  (repeat first|refine tA rfl ?_ |refine s2 rfl λ_ f=>?_ |refine aU rfl ?_ |refine Aa ?_);(refine aC rfl ?_ ?_<;>rintro⟨⟩)
  ·(repeat first|refine tA rfl ?_|(refine Ag rfl ?_;refine gA rfl ?_;first| refine gS (λ_ _=>FX (by rfl) (by rfl)) ?_) |refine aU rfl ?_ |refine Aa ?_)
   refine Aj.ghost 1 9 ?_;refine Aj.Ak [] [] rfl rfl [(4,.o (.ptr 1 2 0 0))] [(0,AN b (p+1)),(1,.cells 47 2 [[.d (.l []),Bt e x.cols 3]]),(2,.cells 9 1 (([]).map AM)),(3,.cells 9 1 ((x.cols).map AM))] [0,1,5,4] (rl a rfl) (by (simp[cX,zC,a,cN,Af,eC,BK])) ?_;(try dsimp only[cA,cB]);refine Aj.AH [1,2,3] [(4,.o (.ip [Bd ([]),Bd (x.cols)]))] ⟨⟨_,rfl,.inr (.o (.box rfl (.cons (.d) (.cons (.Bt rfl) .nil))))⟩,trivial⟩ ?_;exact aR ⟨_,rfl,[0],CW ⟨[],x.cols⟩,[(0,AN b (p+1))],⟨by intro i hi;match i with|0=>rfl,by decide⟩,rfl,by (simp[cX,zC,a,cN]),p+1,⟨[],x.cols⟩,by omega,⟨by simp,by show x.cols.length<=_;omega,by simp,u.cb⟩,rfl,rfl,rfl⟩
  (repeat first|refine tA rfl ?_ |refine s2 rfl λ_ f=>?_ |refine aU rfl ?_ |refine Aa ?_);(refine aC rfl ?_ ?_<;>rintro⟨⟩)
  ·(repeat first|refine tA rfl ?_|(refine Ag rfl ?_;refine gA rfl ?_;first| refine gS (λ_ _=>FX (by rfl) (by rfl)) ?_) |refine aU rfl ?_ |refine Aa ?_)
   refine Aj.ghost 1 9 ?_;refine Aj.Ak [] [] rfl rfl [(4,.o (.ptr 1 2 0 0))] [(0,AN b (p+1)),(1,.cells 47 2 [[Bt q x.rows 2,.d (.l [])]]),(2,.cells 9 1 ((x.rows).map AM)),(3,.cells 9 1 (([]).map AM))] [0,1,3,5] (rl a rfl) (by (simp[cX,zC,a,cN,Af,eC,BK])) ?_;(try dsimp only[cA,cB]);refine Aj.AH [1,2,3] [(4,.o (.ip [Bd (x.rows),Bd ([])]))] ⟨⟨_,rfl,.inr (.o (.box rfl (.cons (.Bt rfl) (.cons (.d) .nil))))⟩,trivial⟩ ?_;exact aR ⟨_,rfl,[0],CW ⟨x.rows,[]⟩,[(0,AN b (p+1))],⟨by intro i hi;match i with|0=>rfl,by decide⟩,rfl,by (simp[cX,zC,a,cN]),p+1,⟨x.rows,[]⟩,by omega,⟨by show x.rows.length<=_;omega,by simp,u.rb,by simp⟩,rfl,rfl,rfl⟩
  (repeat first|refine tA rfl ?_ |refine s2 rfl λ_ f=>?_ |refine aU rfl ?_ |refine Aa ?_);(refine aC rfl ?_ ?_<;>rintro⟨⟩)
  ·(repeat first|refine tA rfl ?_ |refine aU rfl ?_ |refine Aa ?_)
   refine aB ?_;refine aL (U:={z:Nat×List W // z.2.length<=n+21/\(∀w∈z.2,w.length<=m)/\(z.1=0\/z.1<=z.2.length)/\z.1<=21}) [] [] rfl rfl (λs=>[(4,.o (.ptr 1 2 0 0)),(5,.o (.ptr 2 2 0 0)),(6,eI .i64 s.1.1)]) (λs=>[(0,AN b (p+1)),(1,.cells 47 2 [[.d (.l []),.d (.l [])]]),(2,.cells 47 2 [[Bt q x.rows 3,Bt e s.1.2 4]]),(3,.cells 9 1 (x.rows.map AM)),(4,.cells 9 1 (s.1.2.map AM))]) 5 (λs=>21 - s.1.2.length) (⟨⟨0,x.cols⟩,by dsimp only;omega,u.cb,by simp,by dsimp only;omega⟩) a rfl (by (simp[cX,zC,a,cN,BK])) ?_;rintro⟨⟨k,l⟩,T,G,hk,P⟩;(try dsimp only[cA,cB]);have T:l.length<=n+21:=T;have G:∀w∈l,w.length<=m:=G;have hk:k=0\/k<=l.length:=hk;have P:k<=21:=P;(repeat first|refine tA rfl ?_ |refine s2 rfl λ_ f=>?_|(refine Ag rfl ?_;refine gA rfl ?_;first| refine gS (λ_ _=>Zc rfl) ?_) |refine aU rfl ?_ |refine Aa ?_)
   ((refine aC rfl ?_ ?_<;>rintro⟨⟩);all_goals try (simp at f;done))
   ·have hl20:l.length<=20:=by (simp only[oZ] at *;omega)
    have j:=My (TB:=TB) [97] (by decide) (k+1) (by omega)
    have ek:((k+1:Nat):Int)=(k:Int)+1:=by omega
    rw [ek] at j;refine aK ?_;refine aS (aB ?_);refine rG (NI [(1,12),(4,1004),(6,1),(8,1)]) (by kernel_rfl) ?_;(repeat first|(refine sA rfl ?_ ?_;first|exact tI|omega));(refine Ag rfl ?_;refine BE ?_ rfl ⟨rfl,rfl⟩;refine Ae [] rfl rfl (j) ⟨rfl,by decide,by decide⟩ rfl trivial ?_;rintro K v A ⟨w,hw,rfl,rfl,rfl⟩ _;refine⟨Cy 2 rfl rfl,?_⟩);have hw:w.length<=1*(k+1):=hw;(repeat first|refine tA rfl ?_);(refine pW rfl ?_ rfl (by rfl);refine Pp (r:=AM w) rfl rfl rfl rfl rfl rfl (by rfl) (ce rfl) (by omega) (λh=>?_) (λh=>?_))
    all_goals
     (repeat first|(refine sA rfl ?_ ?_;first|exact tI|omega) |refine aU rfl ?_ |refine Aa ?_);refine⟨⟨⟨k+1,l++[w]⟩,by simp;omega,Xl G (by omega),by simp;omega,by dsimp only;omega⟩,by dsimp only;((simp only[oZ] at *;omega)),[0,1,2,3,5],?_⟩;(simp[cX,zC,a,cN,BK,Vr,Af,eC,h]<;>rfl)
   ·refine aE ?_
    (repeat first|refine tA rfl ?_ |refine aU rfl ?_ |refine Aa ?_);refine Aj.Ak [] [] rfl rfl [(4,.o (.ptr 1 2 0 0))] [(0,AN b (p+1)),(1,.cells 47 2 [[Bt q x.rows 2,Bt e l 3]]),(2,.cells 9 1 ((x.rows).map AM)),(3,.cells 9 1 ((l).map AM))] [0,1,3,4] (rl a rfl) (by (simp[cX,zC,a,cN,Af,eC,BK])) ?_;(try dsimp only[cA,cB]);refine Aj.AH [1,2,3] [(4,.o (.ip [Bd (x.rows),Bd (l)]))] ⟨⟨_,rfl,.inr (.o (.box rfl (.cons (.Bt rfl) (.cons (.Bt rfl) .nil))))⟩,trivial⟩ ?_;exact aR ⟨_,rfl,[0],CW ⟨x.rows,l⟩,[(0,AN b (p+1))],⟨by intro i hi;match i with|0=>rfl,by decide⟩,rfl,by (simp[cX,zC,a,cN]),p+1,⟨x.rows,l⟩,by omega,⟨by show x.rows.length<=_;omega,T,u.rb,G⟩,rfl,rfl,rfl⟩
  (repeat first|refine tA rfl ?_ |refine s2 rfl λ_ f=>?_ |refine aU rfl ?_ |refine Aa ?_);(refine aC rfl ?_ ?_<;>rintro⟨⟩)
  ·obtain⟨z,Y,N⟩:=BR (TB:=TB) b hb (p+1) (by omega) [4001,30] (by decide) (by decide)
   obtain⟨J,hz0,rfl⟩:∃J:Nat,J<=4001/\z=J:=⟨z.toNat,by simp at Y;omega,by simp at Y;omega⟩
   have j:=My (TB:=TB) [97] (by decide) J (by omega);refine rG (NI [(1,12),(4,1004),(5,1004),(7,1),(9,1)]) (by kernel_rfl) ?_;(repeat first|refine tA rfl ?_);(refine Ag rfl ?_;refine BE ?_ rfl ⟨rfl,rfl⟩;refine Ae [0] rfl rfl (N) ⟨rfl,by decide,by decide⟩ rfl (by simp[cX,zC,a,cN,BK]) ?_;rintro K v A ⟨rfl,rfl,rfl⟩ _;refine⟨Cy 2 rfl rfl,?_⟩);(refine Ag rfl ?_;refine BE ?_ rfl ⟨rfl,rfl⟩;refine Ae [] rfl rfl (j) ⟨rfl,by decide,by decide⟩ rfl trivial ?_;rintro K v A ⟨w,hw,rfl,rfl,rfl⟩ _;refine⟨Cy 2 rfl rfl,?_⟩);have hw:w.length<=1*J:=hw
   have B:w.length<=4001:=by omega
   (repeat first|refine tA rfl ?_);(refine pW rfl ?_ rfl (by rfl);refine Pp (r:=AM w) rfl rfl rfl rfl rfl rfl (by rfl) (ce rfl) (by omega) (λh=>?_) (λh=>?_))
   all_goals
    (repeat first|refine tA rfl ?_ |refine aU rfl ?_ |refine Aa ?_);refine Aj.Ak [] [] rfl rfl [(4,.o (.ptr 1 2 0 0))] [(0,AN b (p+1+1)),(1,.cells 47 2 [[Bt q x.rows 2,.arr 3 1 0 (x.cols.length+1)]]),(2,.cells 9 1 ((x.rows).map AM)),(3,.cells 9 1 ((x.cols++[w]).map AM))] [0,1,3,5] (rl a rfl) (by (simp[cX,zC,a,cN,Af,eC,BK,h])) ?_;(try dsimp only[cA,cB]);refine Aj.AH [1,2,3] [(4,.o (.ip [Bd (x.rows),Bd (x.cols++[w])]))] ⟨⟨_,rfl,.inr (.o (.box rfl (.cons (.Bt rfl) (.cons (.full rfl (by simp [d4]) (by simp)) .nil))))⟩,trivial⟩ ?_;exact aR ⟨_,rfl,[0],CW ⟨x.rows,x.cols++[w]⟩,[(0,AN b (p+1+1))],⟨by intro i hi;match i with|0=>rfl,by decide⟩,rfl,by (simp[cX,zC,a,cN]),p+1+1,⟨x.rows,x.cols++[w]⟩,by omega,F w B,rfl,rfl,rfl⟩
  (repeat first|refine tA rfl ?_ |refine s2 rfl λ_ f=>?_ |refine aU rfl ?_ |refine Aa ?_);(refine aC rfl ?_ ?_<;>rintro⟨⟩)
  ·by_cases t:x.rows=[]
   ·(repeat first|refine tA rfl ?_ |refine s2 rfl λ_ f=>?_|(refine Ag rfl ?_;refine gA rfl ?_;first| refine gS (λ_ _=>Zc rfl) ?_) |refine aU rfl ?_ |refine Aa ?_)
    have M:x.rows.length=0:=by simp [t]
    ((refine aC rfl ?_ ?_<;>rintro⟨⟩);all_goals try(exfalso;(simp only[oZ] at *;omega)))
    refine aK ?_;(repeat first|refine tA rfl ?_ |refine aU rfl ?_ |refine Aa ?_);refine Aj.Ak [] [] rfl rfl [(4,.o (.ptr 1 2 0 0))] [(0,AN b (p+1)),(1,.cells 47 2 [[Bt q x.rows 2,Bt e x.cols 3]]),(2,.cells 9 1 ((x.rows).map AM)),(3,.cells 9 1 ((x.cols).map AM))] [0,1,3,4] (rl a rfl) (by (simp[cX,zC,a,cN,Af,eC,BK])) ?_;(try dsimp only[cA,cB]);refine Aj.AH [1,2,3] [(4,.o (.ip [Bd (x.rows),Bd (x.cols)]))] ⟨⟨_,rfl,.inr (.o (.box rfl (.cons (.Bt rfl) (.cons (.Bt rfl) .nil))))⟩,trivial⟩ ?_;exact aR ⟨_,rfl,[0],CW ⟨x.rows,x.cols⟩,[(0,AN b (p+1))],⟨by intro i hi;match i with|0=>rfl,by decide⟩,rfl,by (simp[cX,zC,a,cN]),p+1,⟨x.rows,x.cols⟩,by omega,u.up (by omega) (by omega),rfl,rfl,rfl⟩
   ·have M:0 < x.rows.length:=nf.2 t
    rw [Gt t];obtain⟨w0,Q⟩:=get_some (l:=x.rows) (k:=0) M;have Z:=get_map (g:=AM) Q
    have hset:(x.rows.map AM).set 0 (AM [97])=(x.rows.set 0 [97]).map AM:=by rw [lP]
    (repeat first|refine tA rfl ?_ |refine s2 rfl λ_ f=>?_ |refine aU rfl ?_ |refine Aa ?_)
    ((refine aC rfl ?_ ?_<;>rintro⟨⟩);all_goals try(exfalso;(simp only[oZ] at *;omega)))
    (repeat first|(refine sA rfl ?_ ?_;first|exact tI|omega) |refine t4 rfl ‹_› rfl ?_ |refine aU rfl ?_ |refine Aa ?_);refine Aj.Ak [] [] rfl rfl [(4,.o (.ptr 1 2 0 0))] [(0,AN b (p+1)),(1,.cells 47 2 [[.arr 2 1 0 x.rows.length,Bt e x.cols 3]]),(2,.cells 9 1 ((x.rows.set 0 [97]).map AM)),(3,.cells 9 1 ((x.cols).map AM))] [0,1,3,4] (rl a rfl) (by (simp[cX,zC,a,cN,Af,eC,BK])) ?_;(try dsimp only[cA,cB]);refine Aj.AH [1,2,3] [(4,.o (.ip [Bd (x.rows.set 0 [97]),Bd (x.cols)]))] ⟨⟨_,rfl,.inr (.o (.box rfl (.cons (.full rfl (by simp [d4]) (by simp)) (.cons (.Bt rfl) .nil))))⟩,trivial⟩ ?_;exact aR ⟨_,rfl,[0],CW ⟨x.rows.set 0 [97],x.cols⟩,[(0,AN b (p+1))],⟨by intro i hi;match i with|0=>rfl,by decide⟩,rfl,by (simp[cX,zC,a,cN]),p+1,⟨x.rows.set 0 [97],x.cols⟩,by omega,⟨by simp;omega,by show x.cols.length<=_;omega,bS u.rb (by simp;omega),u.cb⟩,rfl,rfl,rfl⟩
  refine aK ?_;(repeat first|refine tA rfl ?_ |refine aU rfl ?_ |refine Aa ?_);refine Aj.Ak [] [] rfl rfl [(4,.o (.ptr 1 2 0 0))] [(0,AN b (p+1)),(1,.cells 47 2 [[Bt q x.rows 2,Bt e x.cols 3]]),(2,.cells 9 1 ((x.rows).map AM)),(3,.cells 9 1 ((x.cols).map AM))] [0,1,3,4] (rl a rfl) (by (simp[cX,zC,a,cN,Af,eC,BK])) ?_;(try dsimp only[cA,cB]);refine Aj.AH [1,2,3] [(4,.o (.ip [Bd (x.rows),Bd (x.cols)]))] ⟨⟨_,rfl,.inr (.o (.box rfl (.cons (.Bt rfl) (.cons (.Bt rfl) .nil))))⟩,trivial⟩ ?_;exact aR ⟨_,rfl,[0],CW ⟨x.rows,x.cols⟩,[(0,AN b (p+1))],⟨by intro i hi;match i with|0=>rfl,by decide⟩,rfl,by (simp[cX,zC,a,cN]),p+1,⟨x.rows,x.cols⟩,by omega,u.up (by omega) (by omega),rfl,rfl,rfl⟩
theorem QU{a:AY}(h:Gg a):Pure Tryz.prog TB 73 [Bi a] (Bi (CP a)):=by
 have hb:=h.b.1;have N:=h.n1;have T:=h.ac;have Z:=Jd (TB:=TB) h;have P:=Xy h
 have t:∀q:Nat,q < a.nx.length->(NS a)[q]? = some (FM a q):=λq hq=>by
  obtain⟨x,p⟩:=get_some (l:=NS a) (k:=q) (by omega);rw [p];unfold FM;rw [f6,kC,p];rfl
 have Y:Pure Tryz.prog TB 58 [Bi (Cf a a.nx.length)] (Bi (CP a)):=cf (eD h).1;refine eG Tryz.func73 rfl (by kernel_rfl) rfl ?_;intro Γ f;(repeat first |refine sN rfl ?_ |((first|refine sA rfl ?_ ?_|refine s4 rfl ‹_› rfl ?_ ?_);first|exact tI|omega|simp only[oZ] at *;omega) |refine s2 rfl λ_ c=>?_ |refine sP rfl (Z) rfl ?_ |refine s3 rfl ?_ ?_<;>rintro rfl |refine aU rfl ?_ |refine Aa ?_);(refine pW rfl ?_ rfl (by rfl);refine GA 1 1 53 2 1 4 rfl rfl (by decide) rfl rfl (by rfl) (by rfl) ?_);(repeat first |refine sN rfl ?_ |((first|refine sA rfl ?_ ?_|refine s4 rfl ‹_› rfl ?_ ?_);first|exact tI|omega|simp only[oZ] at *;omega) |refine s2 rfl λ_ c=>?_ |refine s3 rfl ?_ ?_<;>rintro rfl |refine aU rfl ?_ |refine Aa ?_);refine aB ?_;refine aL (U:={k:Nat // k<=a.nx.length}) [1,2,3,4,15,16] [0] rfl rfl (λs=>[(17,eI .i64 s.1)]) (λs=>[(1,.cells 53 1 ((Cf a s.1).nx.map λr=>[.d (EK r)])),(2,.cells 4 1 ((Cf a s.1).ac.map AP)),(3,.cells 29 3 [[.d (iD a.al),.arr 1 1 0 (Cf a s.1).nx.length,.arr 2 1 0 (Cf a s.1).nx.length]])]) 4 (λs=>a.nx.length - s.1) (⟨0,by omega⟩) f rfl (by ((repeat' first|exact tI|rfl|refine And.intro ?_ ?_)<;>(simp[cX,zC,f,eC,BC,Af,Cf,Bl]<;>rfl))) ?_;rintro⟨k,hk⟩;(try dsimp only[cA,cB]);by_cases m:k < a.nx.length
 ·have S:=t k m
  have R:=get_map (g:=CN) S;have L:=Ww a k;obtain⟨r,i⟩:=get_some m;have K:=get_map (g:=Iv) i;have y:a.nx.getD k []=r:=EP i;obtain⟨bb,v⟩:=get_some (l:=a.ac) (k:=k) (by omega);have G:=get_map (g:=IB) v;have A:a.ac.getD k false=bb:=EP v
  have J:r.length<=6:=by
   obtain⟨row,n,X,_⟩:=h.b.2 k m
   rw [i] at n;injection n with n;subst n
   have:(Ac a.al).length<=6:=AK _ 6;omega
  have w:∀x∈r,0<=x/\x < (a.nx.length:Int):=λx p=>by
   obtain⟨row,n,X,V⟩:=h.b.2 k m
   rw [i] at n;injection n with n;subst n
   obtain⟨j,F⟩:=lL.1 p;exact V j x F
  have M:=Rw a k;(repeat first |refine sN rfl ?_ |((first|refine sA rfl ?_ ?_|refine s4 rfl ‹_› rfl ?_ ?_);first|exact tI|omega|simp only[oZ] at *;omega) |refine s2 rfl λ_ c=>?_ |refine s3 rfl ?_ ?_<;>rintro rfl |refine aU rfl ?_ |refine Aa ?_)
  ((refine aC rfl ?_ ?_<;>rintro⟨⟩);all_goals try(exfalso;first|omega|simp only[oZ] at *;omega))
  refine aK ?_;refine aS (aB ?_)
  rcases Tf h m with ⟨Q,e⟩|⟨Q,e⟩
  ·(repeat first |refine sN rfl ?_ |((first|refine sA rfl ?_ ?_|refine s4 rfl ‹_› rfl ?_ ?_);first|exact tI|omega|simp only[oZ] at *;omega) |refine s2 rfl λ_ c=>?_ |refine s3 rfl ?_ ?_<;>rintro rfl |refine aU rfl ?_ |refine Aa ?_)
   ((refine aC rfl ?_ ?_<;>rintro⟨⟩);all_goals try(exfalso;first|omega|simp only[oZ] at *;omega))
   refine aE ?_;(repeat first |refine sN rfl ?_ |((first|refine sA rfl ?_ ?_|refine s4 rfl ‹_› rfl ?_ ?_);first|exact tI|omega|simp only[oZ] at *;omega) |refine s2 rfl λ_ c=>?_ |refine s3 rfl ?_ ?_<;>rintro rfl |refine aU rfl ?_ |refine Aa ?_);refine⟨⟨k+1,by first|omega|simp only[oZ] at *;omega⟩,by dsimp only;(first|omega|simp only[oZ] at *;omega),[0,1,2,3],?_⟩;simp[cX,zC,f,e]
  ·rw [y,A] at e
   (repeat first |refine sN rfl ?_ |((first|refine sA rfl ?_ ?_|refine s4 rfl ‹_› rfl ?_ ?_);first|exact tI|omega|simp only[oZ] at *;omega) |refine s2 rfl λ_ c=>?_ |refine s3 rfl ?_ ?_<;>rintro rfl |refine aU rfl ?_ |refine Aa ?_)
   ((refine aC rfl ?_ ?_<;>rintro⟨⟩);all_goals try(exfalso;first|omega|simp only[oZ] at *;omega))
   refine aK ?_;(repeat first |refine sN rfl ?_ |((first|refine sM rfl ?_ ?_|refine s4 rfl ‹_› rfl ?_ ?_);first|exact tI|omega|simp only[oZ] at *;omega) |refine s2 rfl λ_ c=>?_ |refine s3 rfl ?_ ?_<;>rintro rfl |refine aU rfl ?_ |refine Aa ?_ |refine rE (by kernel_rfl) ?_);(refine pW rfl ?_ rfl (by rfl);refine Js 1 3 ?_);(repeat first |refine sN rfl ?_ |((first|refine sM rfl ?_ ?_|refine s4 rfl ‹_› rfl ?_ ?_);first|exact tI|omega|simp only[oZ] at *;omega) |refine s2 rfl λ_ c=>?_ |refine s3 rfl ?_ ?_<;>rintro rfl |refine aU rfl ?_ |refine Aa ?_ |refine rE (by kernel_rfl) ?_);refine aB ?_;refine aL (U:={j:Nat // j<=r.length}) [1,2,3,4,5,15,16,17,31,32] [0,1,2,3] rfl rfl (λs=>[(7,.o (.arr 4 1 0 s.1)),(33,eI .i64 s.1)]) (λs=>[(4,.cells 3 1 (((r.take s.1).map (FM a)).map AE))]) 5 (λs=>r.length - s.1) (⟨0,by omega⟩) f rfl (by ((repeat' first|exact tI|rfl|refine And.intro ?_ ?_)<;>(simp[cX,zC,f,eC,BC,Af]<;>rfl))) ?_;rintro⟨j,F⟩;(try dsimp only[cA,cB]);by_cases z:j < r.length
   ·obtain⟨x,p⟩:=get_some z
    have I:=get_map (g:=CN) p;have H:=w x (co p);have u:=t x.toNat (by omega);rw [show ((x.toNat:Nat):Int)=x by omega] at u;have B:=get_map (g:=CN) u
    have ht:r.take (j+1)=r.take j++[x]:=by rw [io,p];rfl
    (repeat first |refine sN rfl ?_ |((first|refine sA rfl ?_ ?_|refine s4 rfl ‹_› rfl ?_ ?_);first|exact tI|omega|simp only[oZ] at *;omega) |refine s2 rfl λ_ c=>?_ |refine s3 rfl ?_ ?_<;>rintro rfl |refine aU rfl ?_ |refine Aa ?_)
    ((refine aC rfl ?_ ?_<;>rintro⟨⟩);all_goals try(exfalso;first|omega|simp only[oZ] at *;omega))
    refine aK ?_;refine aS (aB ?_);(repeat first |refine sN rfl ?_ |((first|refine sA rfl ?_ ?_|refine s4 rfl ‹_› rfl ?_ ?_);first|exact tI|omega|simp only[oZ] at *;omega) |refine s2 rfl λ_ c=>?_ |refine s3 rfl ?_ ?_<;>rintro rfl |refine aU rfl ?_ |refine Aa ?_);(refine pW rfl ?_ rfl (by rfl);refine Aw rfl rfl rfl (by first|(simp;done)|(simp;(first|omega|simp only[oZ] at *;omega))) rfl (by intro r i;simp at i;subst i;rfl) (by rfl) (ce rfl) (by simp;omega) ?_);(repeat first |refine sN rfl ?_ |((first|refine sA rfl ?_ ?_|refine s4 rfl ‹_› rfl ?_ ?_);first|exact tI|omega|simp only[oZ] at *;omega) |refine s2 rfl λ_ c=>?_ |refine s3 rfl ?_ ?_<;>rintro rfl |refine aU rfl ?_ |refine Aa ?_);refine⟨⟨j+1,by first|omega|simp only[oZ] at *;omega⟩,by dsimp only;(first|omega|simp only[oZ] at *;omega),[0,1,2,3,5],?_⟩;simp[cX,zC,f,eC,BC,Af,ht]
   ·obtain rfl:j=r.length:=by omega
    rw [kz];(repeat first |refine sN rfl ?_ |((first|refine sA rfl ?_ ?_|refine s4 rfl ‹_› rfl ?_ ?_);first|exact tI|omega|simp only[oZ] at *;omega) |refine s2 rfl λ_ c=>?_ |refine s3 rfl ?_ ?_<;>rintro rfl |refine aU rfl ?_ |refine Aa ?_)
    ((refine aC rfl ?_ ?_<;>rintro⟨⟩);all_goals try(exfalso;first|omega|simp only[oZ] at *;omega))
    refine aE ?_;refine Aj.EO [4] [1,2,3,4,5,15,16,17] rfl [(7,AW (r.map (FM a)))] ⟨⟨_,rfl,.o (.full (by simp) rfl (by simp [d4]) (by simp))⟩,trivial⟩ ?_;(try dsimp only[cA,cB]);(repeat first |refine sN rfl ?_ |((first|refine sA rfl ?_ ?_|refine s4 rfl ‹_› rfl ?_ ?_);first|exact tI|omega|simp only[oZ] at *;omega) |refine s2 rfl λ_ c=>?_ |refine s3 rfl ?_ ?_<;>rintro rfl |refine aU rfl ?_ |refine Aa ?_);(refine pW rfl ?_ rfl (by rfl);refine Aw rfl rfl rfl (by first|(simp;done)|(simp;(first|omega|simp only[oZ] at *;omega))) rfl (by intro r i;simp at i;subst i;rfl) (by rfl) (ce rfl) (by simp;omega) ?_);(repeat first |refine sN rfl ?_ |((first|refine sA rfl ?_ ?_|refine s4 rfl ‹_› rfl ?_ ?_);first|exact tI|omega|simp only[oZ] at *;omega) |refine s2 rfl λ_ c=>?_ |refine s3 rfl ?_ ?_<;>rintro rfl |refine aU rfl ?_ |refine Aa ?_);refine rG (It [8,10]) (by kernel_rfl) ?_;(repeat first |refine sN rfl ?_ |((first|refine sA rfl ?_ ?_|refine s4 rfl ‹_› rfl ?_ ?_);first|exact tI|omega|simp only[oZ] at *;omega) |refine s2 rfl λ_ c=>?_ |refine s3 rfl ?_ ?_<;>rintro rfl |refine aU rfl ?_ |refine Aa ?_);(refine pW rfl ?_ rfl (by rfl);refine Aw rfl rfl rfl (by first|(simp;done)|(simp;(first|omega|simp only[oZ] at *;omega))) rfl (by intro r i;simp at i;subst i;rfl) (by rfl) (ce rfl) (by simp;omega) ?_);(repeat first |refine sN rfl ?_ |((first|refine sA rfl ?_ ?_|refine s4 rfl ‹_› rfl ?_ ?_);first|exact tI|omega|simp only[oZ] at *;omega) |refine s2 rfl λ_ c=>?_ |refine s3 rfl ?_ ?_<;>rintro rfl |refine aU rfl ?_ |refine Aa ?_);refine⟨⟨k+1,by first|omega|simp only[oZ] at *;omega⟩,by dsimp only;(first|omega|simp only[oZ] at *;omega),[0,5,6,3],?_⟩;simp[cX,zC,f,eC,BC,Af,e]
 ·obtain rfl:k=a.nx.length:=by omega
  (repeat first |refine sN rfl ?_ |((first|refine sA rfl ?_ ?_|refine s4 rfl ‹_› rfl ?_ ?_);first|exact tI|omega|simp only[oZ] at *;omega) |refine s2 rfl λ_ c=>?_ |refine s3 rfl ?_ ?_<;>rintro rfl |refine aU rfl ?_ |refine Aa ?_)
  ((refine aC rfl ?_ ?_<;>rintro⟨⟩);all_goals try(exfalso;first|omega|simp only[oZ] at *;omega))
  refine aE ?_;refine Aj.AH [1,2,3] [(2,.o (.ptr 0 3 0 0)),(4,.o (.ip [iD a.al,Da (Cf a a.nx.length).nx,FK (Cf a a.nx.length).ac]))] ⟨⟨_,rfl,.inl rfl⟩,⟨_,rfl,.inr (.o (.box rfl (.cons .d (.cons (.full rfl (by simp [d4]) (by simp)) (.cons (.full rfl (by simp [d4]) (by simp [Rw])) .nil)))))⟩,trivial⟩ ?_;(repeat first |refine sN rfl ?_ |((first|refine sA rfl ?_ ?_|refine s4 rfl ‹_› rfl ?_ ?_);first|exact tI|omega|simp only[oZ] at *;omega) |refine s2 rfl λ_ c=>?_ |refine sP rfl (Y) rfl ?_ |refine s3 rfl ?_ ?_<;>rintro rfl |refine aU rfl ?_ |refine Aa ?_);(subst_vars;exact aR ⟨_,rfl,rfl⟩)
theorem NX(a:AY):Pure Tryz.prog TB 21 [Bi a] (XC (if AL a then some (CP a) else none)):=by
 have c:=A8 (TB:=TB) a;by_cases hp:AL a=true
 ·have e:=QU (TB:=TB) (FJ hp)
  rw [hp] at c;rw [if_pos hp];refine eG Tryz.func21 rfl (by kernel_rfl) rfl ?_;intro Γ d;(repeat first |refine sN rfl ?_ |((first|refine sA rfl ?_ ?_|refine s4 rfl ‹_› rfl ?_ ?_);first|exact tI|omega|simp only[oZ] at *;omega) |refine s2 rfl λ_ b=>?_ |refine sP rfl (c) rfl ?_ |refine s3 rfl ?_ ?_<;>rintro rfl |refine aU rfl ?_ |refine Aa ?_)
  ((refine aC rfl ?_ ?_<;>rintro⟨⟩);all_goals try (simp at b;done))
  refine aK ?_;(repeat first |refine sN rfl ?_ |((first|refine sA rfl ?_ ?_|refine s4 rfl ‹_› rfl ?_ ?_);first|exact tI|omega|simp only[oZ] at *;omega) |refine s2 rfl λ_ b=>?_ |refine sP rfl (e) rfl ?_ |refine s3 rfl ?_ ?_<;>rintro rfl |refine aU rfl ?_ |refine Aa ?_);(subst_vars;exact aR ⟨_,rfl,rfl⟩)
 ·rw [if_neg hp]
  rw [lB _ |>.mp hp] at c;refine eG Tryz.func21 rfl (by kernel_rfl) rfl ?_;intro Γ d;(repeat first |refine sN rfl ?_ |((first|refine sA rfl ?_ ?_|refine s4 rfl ‹_› rfl ?_ ?_);first|exact tI|omega|simp only[oZ] at *;omega) |refine s2 rfl λ_ b=>?_ |refine sP rfl (c) rfl ?_ |refine s3 rfl ?_ ?_<;>rintro rfl |refine aU rfl ?_ |refine Aa ?_)
  ((refine aC rfl ?_ ?_<;>rintro⟨⟩);all_goals try (simp at b;done))
  (repeat first |refine sN rfl ?_ |((first|refine sA rfl ?_ ?_|refine s4 rfl ‹_› rfl ?_ ?_);first|exact tI|omega|simp only[oZ] at *;omega) |refine s2 rfl λ_ b=>?_|(refine Ag rfl ?_;refine gA rfl ?_;first|refine gS (λ_ _=>AG rfl rfl (by rfl) (by rfl)) ?_) |refine s3 rfl ?_ ?_<;>rintro rfl |refine aU rfl ?_ |refine Aa ?_);(subst_vars;exact aR ⟨_,rfl,rfl⟩)
theorem Sa(a:AY):Pure Tryz.prog TB 26 [Bi a] (AW (if AL a then NS a else [])):=by
 have c:=A8 (TB:=TB) a;by_cases hp:AL a=true
 ·have e:=Jd (TB:=TB) (FJ hp)
  rw [hp] at c;rw [if_pos hp];refine eG Tryz.func26 rfl (by kernel_rfl) rfl ?_;intro Γ d;(repeat first |refine sN rfl ?_ |((first|refine sA rfl ?_ ?_|refine s4 rfl ‹_› rfl ?_ ?_);first|exact tI|omega|simp only[oZ] at *;omega) |refine s2 rfl λ_ b=>?_ |refine sP rfl (c) rfl ?_ |refine s3 rfl ?_ ?_<;>rintro rfl |refine aU rfl ?_ |refine Aa ?_)
  ((refine aC rfl ?_ ?_<;>rintro⟨⟩);all_goals try (simp at b;done))
  refine aK ?_;(repeat first |refine sN rfl ?_ |((first|refine sA rfl ?_ ?_|refine s4 rfl ‹_› rfl ?_ ?_);first|exact tI|omega|simp only[oZ] at *;omega) |refine s2 rfl λ_ b=>?_ |refine sP rfl (e) rfl ?_ |refine s3 rfl ?_ ?_<;>rintro rfl |refine aU rfl ?_ |refine Aa ?_);(subst_vars;exact aR ⟨_,rfl,rfl⟩)
 ·rw [if_neg hp]
  rw [lB _ |>.mp hp] at c;refine eG Tryz.func26 rfl (by kernel_rfl) rfl ?_;intro Γ d;(repeat first |refine sN rfl ?_ |((first|refine sA rfl ?_ ?_|refine s4 rfl ‹_› rfl ?_ ?_);first|exact tI|omega|simp only[oZ] at *;omega) |refine s2 rfl λ_ b=>?_ |refine sP rfl (c) rfl ?_ |refine s3 rfl ?_ ?_<;>rintro rfl |refine aU rfl ?_ |refine Aa ?_)
  ((refine aC rfl ?_ ?_<;>rintro⟨⟩);all_goals try (simp at b;done))
  (repeat first |refine sN rfl ?_ |((first|refine sA rfl ?_ ?_|refine s4 rfl ‹_› rfl ?_ ?_);first|exact tI|omega|simp only[oZ] at *;omega) |refine s2 rfl λ_ b=>?_ |refine s3 rfl ?_ ?_<;>rintro rfl |refine aU rfl ?_ |refine Aa ?_);(subst_vars;exact aR ⟨_,rfl,rfl⟩)
abbrev fe(te:FB)(t:A9):E:=.t [(true,(RN te.kn te.p te.s te.q te.al).map .d),(true,[.d (Bd t.rows),.d (Bd t.cols)])]
def cT(b:List UInt8)(p m:Int)(P:A9->Prop)(x:E)(σ:Ab)(nx:Nat):Prop:=∃(p':Int) (te:FB) (t:A9),(p<=p'/\p'<=p+m)/\P t/\x=fe te t/\σ=[(0,AN b p')]/\nx=1
theorem Kh(b:List UInt8)(hb:b.length<=2000)(p:Int)(w:0<=p/\p < 200000000):Spec Tryz.prog TB 61 [(0,AN b p)] 1 [.o (.ptr 0 2 0 0)] (cT b p 6000 (KN 41 50000)):=by
 have t:=Lq (TB:=TB) b hb p (by omega);refine eR Tryz.func61 rfl (by kernel_rfl) rfl ?_;intro Γ a;(repeat first|refine tA rfl ?_ |refine aU rfl ?_ |refine Aa ?_);(refine pW rfl ?_ rfl (by rfl);refine Ae [0] rfl rfl (t) ⟨rfl,by decide,by decide⟩ rfl (by simp[cX,zC,a,cN]) ?_;rintro g c d ⟨q,te,v,rfl,rfl,rfl⟩ _);(repeat first|refine tA rfl ?_ |refine aU rfl ?_ |refine Aa ?_);have s:=QL (TB:=TB) (te:=te) (λTB=>c8 te) b hb q (by omega);refine rG (NI [(0,13),(3,13),(4,1008),(5,1008),(6,1),(7,1)]) (by kernel_rfl) ?_;(repeat first|refine tA rfl ?_);(refine Ag rfl ?_;refine BE ?_ rfl ⟨rfl,rfl⟩;refine Ae [0] rfl rfl (s) ⟨rfl,by decide,by decide⟩ rfl (by simp[cX,zC,a,cN]) ?_;rintro g c d ⟨l,k,n,f,rfl,rfl,rfl⟩ _;refine⟨Cy 3 rfl rfl,?_⟩);(repeat first|refine sN rfl ?_ |((first|refine sA rfl ?_ ?_|refine s4 rfl ‹_› rfl ?_ ?_);first|exact tI|omega|simp only[oZ] at *;omega) |refine s2 rfl λ_ u=>?_ |refine s3 rfl ?_ ?_<;>rintro rfl |refine aU rfl ?_ |refine Aa ?_);have r:=KY (TB:=TB) b hb l (by omega) k 20 50000 f (by omega) (by omega);(refine Ag rfl ?_;refine BE ?_ rfl ⟨rfl,rfl⟩;refine Ae [0] rfl rfl (r) ⟨rfl,by decide,by decide⟩ rfl (by simp[cX,zC,a,cN]) ?_;rintro g c d ⟨j,h,m,e,rfl,rfl,rfl⟩ _;refine⟨Cy 3 rfl rfl,?_⟩);(repeat first|refine tA rfl ?_ |refine Aa ?_);exact aR ⟨_,rfl,[0],fe te h,[(0,AN b j)],⟨by intro i hi;match i with|0=>rfl,by decide⟩,rfl,by (simp[cX,zC,a,cN]),j,te,h,by omega,e,rfl,rfl,rfl⟩
def Xb(x:E)(σ:Ab)(nx:Nat):Prop:=∃(te:FB) (t:A9),KN 100 50000 t/\x=fe te t/\σ=[]/\nx=0
theorem TN(b:List UInt8)(hb:b.length<=9223372036854775807):Spec Tryz.prog TB 23 [] 0 [.o (.d (RP b))] Xb:=by
 obtain⟨b',f,n⟩:=IN (TB:=TB) b hb;have hp:=Kh (TB:=TB) b' f 0 (by omega);refine eR Tryz.func23 rfl (by kernel_rfl) rfl ?_;intro Γ a;(repeat first|refine tA rfl ?_ |refine aU rfl ?_ |refine Aa ?_);(refine pW rfl ?_ rfl (by rfl);refine BG [] rfl rfl 0 (n) (by decide) ⟨rfl,by decide,by decide⟩ rfl (by simp[cX,zC,a,cN]) ?_;rintro j c e ⟨rfl,rfl,rfl⟩ _);(repeat first|refine tA rfl ?_ |refine aU rfl ?_ |refine Aa ?_);(refine pW rfl ?_ rfl (by rfl);refine Ae [2] rfl rfl (hp) ⟨rfl,by decide,by decide⟩ rfl (by simp[cX,zC,a,cN]) ?_;rintro j c e ⟨q,te,l,s,h,rfl,rfl,rfl⟩ _);(repeat first|refine tA rfl ?_ |refine aU rfl ?_ |refine Aa ?_);have p:=KY (TB:=TB) b' f q (by omega) l 41 50000 h (by omega) (by omega);refine rG (NI [(0,13),(2,14),(3,1008),(4,1),(5,1)]) (by kernel_rfl) ?_;(repeat first|refine tA rfl ?_);(refine Ag rfl ?_;refine BE ?_ rfl ⟨rfl,rfl⟩;refine Ae [2] rfl rfl (p) ⟨rfl,by decide,by decide⟩ rfl (by simp[cX,zC,a,cN]) ?_;rintro j c e ⟨r,k,m,g,rfl,rfl,rfl⟩ _;refine⟨Cy 3 rfl rfl,?_⟩);(repeat first|refine tA rfl ?_ |refine Aa ?_);exact aR ⟨_,rfl,[],fe te k,[],⟨λi hi=>absurd hi (i8 i),jp⟩,rfl,trivial,te,k,g.up (by omega) (by omega),rfl,rfl,rfl⟩
theorem TM(b:List UInt8)(hb:b.length<=9223372036854775807):Spec Tryz.prog TB 41 [] 0 [.o (.d (RP b))] Xb:=by
 obtain⟨b',h,l⟩:=IN (TB:=TB) b hb;have hp:=Kh (TB:=TB) b' h 0 (by omega);refine eR Tryz.func41 rfl (by kernel_rfl) rfl ?_;intro Γ a;(repeat first|refine sN rfl ?_ |((first|refine sA rfl ?_ ?_|refine s4 rfl ‹_› rfl ?_ ?_);first|exact tI|omega|simp only[oZ] at *;omega) |refine s2 rfl λ_ c=>?_ |refine s3 rfl ?_ ?_<;>rintro rfl |refine aU rfl ?_ |refine Aa ?_);(refine pW rfl ?_ rfl (by rfl);refine BG [] rfl rfl 0 (l) (by decide) ⟨rfl,by decide,by decide⟩ rfl (by simp[cX,zC,a,cN]) ?_;rintro k e f ⟨rfl,rfl,rfl⟩ _);(repeat first|refine sN rfl ?_ |((first|refine sA rfl ?_ ?_|refine s4 rfl ‹_› rfl ?_ ?_);first|exact tI|omega|simp only[oZ] at *;omega) |refine s2 rfl λ_ c=>?_ |refine s3 rfl ?_ ?_<;>rintro rfl |refine aU rfl ?_ |refine Aa ?_);(refine pW rfl ?_ rfl (by rfl);refine Ae [2] rfl rfl (hp) ⟨rfl,by decide,by decide⟩ rfl (by simp[cX,zC,a,cN]) ?_;rintro k e f ⟨q,te,j,m,g,rfl,rfl,rfl⟩ _);(repeat first|refine sN rfl ?_ |((first|refine sA rfl ?_ ?_|refine s4 rfl ‹_› rfl ?_ ?_);first|exact tI|omega|simp only[oZ] at *;omega) |refine s2 rfl λ_ c=>?_ |refine s3 rfl ?_ ?_<;>rintro rfl |refine aU rfl ?_ |refine Aa ?_);exact aR ⟨_,rfl,[],fe te j,[],⟨λi hi=>absurd hi (i8 i),jp⟩,rfl,trivial,te,j,g.up (by omega) (by omega),rfl,rfl,rfl⟩
theorem PW(b:List UInt8)(hb:b.length<=9223372036854775807):Spec Tryz.prog TB 18 [] 0 [.o (.d (RP b))] Xb:=by
 obtain⟨b',g,k⟩:=IN (TB:=TB) b hb;have hp:=Kh (TB:=TB) b' g 0 (by omega);refine eR Tryz.func18 rfl (by kernel_rfl) rfl ?_;intro Γ a;(repeat first|refine tA rfl ?_ |refine aU rfl ?_ |refine Aa ?_);(refine pW rfl ?_ rfl (by rfl);refine BG [] rfl rfl 0 (k) (by decide) ⟨rfl,by decide,by decide⟩ rfl (by simp[cX,zC,a,cN]) ?_;rintro j c e ⟨rfl,rfl,rfl⟩ _);(repeat first|refine sN rfl ?_ |((first|refine sA rfl ?_ ?_|refine s4 rfl ‹_› rfl ?_ ?_);first|exact tI|omega|simp only[oZ] at *;omega) |refine s2 rfl λ_ l=>?_ |refine s3 rfl ?_ ?_<;>rintro rfl |refine aU rfl ?_ |refine Aa ?_);(refine pW rfl ?_ rfl (by rfl);refine Ae [2] rfl rfl (hp) ⟨rfl,by decide,by decide⟩ rfl (by simp[cX,zC,a,cN]) ?_;rintro j c e ⟨q,te,h,m,f,rfl,rfl,rfl⟩ _);(repeat first|refine tA rfl ?_ |refine Aa ?_);exact aR ⟨_,rfl,[],fe te h,[],⟨λi hi=>absurd hi (i8 i),jp⟩,rfl,trivial,te,h,f.up (by omega) (by omega),rfl,rfl,rfl⟩
end Go.Am
