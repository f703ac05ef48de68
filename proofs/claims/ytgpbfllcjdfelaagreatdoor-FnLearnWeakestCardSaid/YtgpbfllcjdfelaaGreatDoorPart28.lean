/-
  One step of learning.
-/
import Derived.Test.YtgpbfllcjdfelaaGreatDoorPart25
import Derived.Test.YtgpbfllcjdfelaaGreatDoorPart26
set_option linter.all false
namespace Go.Am
open Go Go.Proofs
set_option maxHeartbeats 1000000
set_option maxRecDepth 4000
attribute [local irreducible] AO BS Lex A4 Au Spec
variable {TB:Bi}
def IT(L:W->Bool)(ls:List UInt8)(t:Bh)(w:W):Option Bh:=(FO L t w).bind λv=>(Km t v).bind λu=>Cj L ls 13 u
theorem Lu{L:W->Bool}{t:Bh}{b:Bool}:∀ {w:W} {q:Nat} {v:W},splitAt L t b q w=some v->∃p,p≠[]/\w=p++v
 | [],q,v,h=>by simp [splitAt] at h
 | c::w,q,v,h=>by
  unfold splitAt at h;split at h
  ·injection h with h;subst h;exact⟨[c],by simp,rfl⟩
  ·obtain⟨p,_,a⟩:=Lu h;exact⟨c::p,by simp,by rw [a];rfl⟩
theorem NZ{L:W->Bool}{t:Bh}{w v:W}(h:FO L t w=some v):∃p,p≠[]/\w=p++v:=by
 unfold FO at h;split at h
 ·cases h
 ·exact Lu h
theorem GA.mono{al:Int}{b b':Nat}{t:Bh}(h:GA al b t)(hb:b<=b'):GA al b' t:=⟨λw hw=>⟨(h.onR w hw).1,kw (h.onR w hw).2 hb⟩,h.onC,h.rl,h.cl⟩
theorem Vy{al:Int}{b:Nat}{t u:Bh}{v:W}(h:GA al b t)(c:Av (AU al) v)(f:v.length<=20000)(ha:Km t v=some u):GA al b u:=by
 unfold Km at ha;split at ha
 ·cases ha
 ·rename_i d
  injection ha with ha
  subst ha;refine⟨h.onR,λx a=>?_,h.rl,?_⟩
  ·rcases f9.1 a with a|a
   ·exact h.onC x a
   ·simp at a;subst a;exact⟨c,f⟩
  ·have:=h.cl
   have g:t.cols.length≠20:=λe=>d (.inl e);simp;omega
def jo(L:W->Bool)(ls:List UInt8)(t:Bh)(w v:W):Prop:=MA ls t v\/Zr t w v\/∃x,FO L t w=some x/\∃u,Km t x=some u/\∃y∈Ea L ls 13 u,MA ls y v
theorem OB{c:C}{L:W->Bool}{ok:W->Prop}(k:EW Tryz.prog TB c L ok)(al:Int)(t:Bh)(ht:GA al 20000 t)(hal:Bv al=true)(B:Bu L (AU al) t)(J:Bw L (AU al) t=none)(w:W)(A:∀v,jo L (AU al) t w v->ok v)(hw:Av (AU al) w)(m:w.length<=20000) :
 Pure Tryz.prog TB 126 [GH al c,GY t,eT w] (Pc (IT L (AU al) t w)):=by
 have K:=Dq c k.Bt
 have b:([GH al c,GY t,eT w].all E.Bt && C.Cv [])=true:=by simp [E.Bt,C.Cv,C.Bt,k.Bt]
 have e:=OL (TB:=TB) k al t (λv q=>A v (.inl q)) (ht.mono (by omega)) hal B J w (λv q=>A v (.inr (.inl q))) hw m;have I:=ht.rl;have F:=ht.cl
 rcases j:FO L t w with _|v
 ·have s:IT L (AU al) t w=none:=by unfold IT;rw [j];rfl
  rw [s];rw [j] at e;refine AJ.Gw (AJ.ofM 2 (io _) Tryz.func126 rfl rfl (by kernel_rfl) (co rfl) ?_);intro Γ i;(repeat first|refine aU rfl ?_);(refine pW rfl ?_ rfl (by rfl);refine Db rfl rfl ?_);(refine pW rfl ?_ rfl (by rfl);refine Db rfl rfl ?_);(repeat first|refine tA rfl ?_ |refine aU rfl ?_ |refine Aa ?_);(repeat first|refine tA rfl ?_ |refine s2 rfl λ_ a=>?_|(refine Af rfl ?_;refine gA rfl ?_;first| refine gS (λ_ _=>A6 rfl rfl b e rfl) ?_) |refine aU rfl ?_ |refine Aa ?_)
  ((refine aC rfl ?_ ?_<;>rintro⟨⟩);all_goals try (simp at a;done))
  (repeat first|refine tA rfl ?_|(refine Af rfl ?_;refine gA rfl ?_;first| refine gS (λ_ _=>AF rfl rfl (by rfl) (by rfl)) ?_) |refine aU rfl ?_ |refine Aa ?_);refine Au.settle [(6,.o (.ip [.l [],.l []])),(7,eB false)] ⟨⟨_,rfl,.o (.box rfl (.cons .d (.cons .d .nil)))⟩,⟨_,rfl,.o .d⟩,trivial⟩ ?_;refine aR ⟨_,rfl,rfl⟩
 ·have r:=NZ j
  have n:Av (AU al) v/\v.length<=20000:=by
   obtain⟨p,_,rfl⟩:=r;exact⟨λc k=>hw c (by simp [k]),by simp at m;omega⟩
  have f:=Qb (TB:=TB) t v (by omega) (by omega);rw [j] at e
  rcases ha:Km t v with _|u
  ·have s:IT L (AU al) t w=none:=by unfold IT;rw [j];simp [ha]
   rw [s];rw [ha] at f;refine AJ.Gw (AJ.ofM 2 (io _) Tryz.func126 rfl rfl (by kernel_rfl) (co rfl) ?_);intro Γ i;(repeat first|refine aU rfl ?_);(refine pW rfl ?_ rfl (by rfl);refine Db rfl rfl ?_);(refine pW rfl ?_ rfl (by rfl);refine Db rfl rfl ?_);(repeat first|refine tA rfl ?_ |refine aU rfl ?_ |refine Aa ?_);(repeat first|refine tA rfl ?_ |refine s2 rfl λ_ a=>?_|(refine Af rfl ?_;refine gA rfl ?_;first| refine gS (λ_ _=>A6 rfl rfl b e rfl) ?_) |refine aU rfl ?_ |refine Aa ?_)
   ((refine aC rfl ?_ ?_<;>rintro⟨⟩);all_goals try (simp at a;done))
   refine aK ?_;(repeat first|refine tA rfl ?_ |refine s2 rfl λ_ a=>?_ |refine sP rfl (f) rfl ?_ |refine aU rfl ?_ |refine Aa ?_)
   ((refine aC rfl ?_ ?_<;>rintro⟨⟩);all_goals try (simp at a;done))
   (repeat first|refine tA rfl ?_|(refine Af rfl ?_;refine gA rfl ?_;first| refine gS (λ_ _=>AF rfl rfl (by rfl) (by rfl)) ?_) |refine aU rfl ?_ |refine Aa ?_);refine Au.settle [(6,.o (.ip [.l [],.l []])),(7,eB false)] ⟨⟨_,rfl,.o (.box rfl (.cons .d (.cons .d .nil)))⟩,⟨_,rfl,.o .d⟩,trivial⟩ ?_;refine aR ⟨_,rfl,rfl⟩
  ·have H:=Vy ht n.1 n.2 ha
   have g:=HL (TB:=TB) k al u (λy G v q=>A v (.inr (.inr ⟨_,j,_,ha,y,G,q⟩))) H
   have h:([GH al c,GY u].all E.Bt && C.Cv [])=true:=by simp [E.Bt,C.Cv,C.Bt,k.Bt]
   have s:IT L (AU al) t w=Cj L (AU al) 13 u:=by unfold IT;rw [j];simp [ha]
   rw [s];rw [ha] at f
   rcases z:Cj L (AU al) 13 u with _|x
   ·rw [z] at g
    refine AJ.Gw (AJ.ofM 2 (io _) Tryz.func126 rfl rfl (by kernel_rfl) (co rfl) ?_);intro Γ i;(repeat first|refine aU rfl ?_);(refine pW rfl ?_ rfl (by rfl);refine Db rfl rfl ?_);(refine pW rfl ?_ rfl (by rfl);refine Db rfl rfl ?_);(repeat first|refine tA rfl ?_ |refine aU rfl ?_ |refine Aa ?_);(repeat first|refine tA rfl ?_ |refine s2 rfl λ_ a=>?_|(refine Af rfl ?_;refine gA rfl ?_;first| refine gS (λ_ _=>A6 rfl rfl b e rfl) ?_) |refine aU rfl ?_ |refine Aa ?_)
    ((refine aC rfl ?_ ?_<;>rintro⟨⟩);all_goals try (simp at a;done))
    refine aK ?_;(repeat first|refine tA rfl ?_ |refine s2 rfl λ_ a=>?_ |refine sP rfl (f) rfl ?_ |refine aU rfl ?_ |refine Aa ?_)
    ((refine aC rfl ?_ ?_<;>rintro⟨⟩);all_goals try (simp at a;done))
    refine aK ?_;(repeat first|refine tA rfl ?_|(refine Af rfl ?_;refine gA rfl ?_;first| refine gS (λ_ _=>A6 rfl rfl h g rfl) ?_) |refine aU rfl ?_ |refine Aa ?_);refine Au.settle [(6,.o (.ip [.l [],.l []])),(7,eB false)] ⟨⟨_,rfl,.o (.box rfl (.cons .d (.cons .d .nil)))⟩,⟨_,rfl,.o .d⟩,trivial⟩ ?_;refine aR ⟨_,rfl,rfl⟩
   ·rw [z] at g
    refine AJ.Gw (AJ.ofM 2 (io _) Tryz.func126 rfl rfl (by kernel_rfl) (co rfl) ?_);intro Γ i;(repeat first|refine aU rfl ?_);(refine pW rfl ?_ rfl (by rfl);refine Db rfl rfl ?_);(refine pW rfl ?_ rfl (by rfl);refine Db rfl rfl ?_);(repeat first|refine tA rfl ?_ |refine aU rfl ?_ |refine Aa ?_);(repeat first|refine tA rfl ?_ |refine s2 rfl λ_ a=>?_|(refine Af rfl ?_;refine gA rfl ?_;first| refine gS (λ_ _=>A6 rfl rfl b e rfl) ?_) |refine aU rfl ?_ |refine Aa ?_)
    ((refine aC rfl ?_ ?_<;>rintro⟨⟩);all_goals try (simp at a;done))
    refine aK ?_;(repeat first|refine tA rfl ?_ |refine s2 rfl λ_ a=>?_ |refine sP rfl (f) rfl ?_ |refine aU rfl ?_ |refine Aa ?_)
    ((refine aC rfl ?_ ?_<;>rintro⟨⟩);all_goals try (simp at a;done))
    refine aK ?_;(repeat first|refine tA rfl ?_|(refine Af rfl ?_;refine gA rfl ?_;first| refine gS (λ_ _=>A6 rfl rfl h g rfl) ?_) |refine aU rfl ?_ |refine Aa ?_);refine Au.settle [(6,.o (.ip [BX x.rows,BX x.cols])),(7,eB true)] ⟨⟨_,rfl,.o (.box rfl (.cons .d (.cons .d .nil)))⟩,⟨_,rfl,.o .d⟩,trivial⟩ ?_;refine aR ⟨_,rfl,rfl⟩
theorem Qw{c:C}{L:W->Bool}{ok:W->Prop}(f:EW Tryz.prog TB c L ok)(al:Int)(t:Bh)(d:HE ok al)(ht:GA al 20000 t)(hal:Bv al=true)(e:Bu L (AU al) t)(j:Bw L (AU al) t=none)(w:W)(hw:Av (AU al) w)(a:w.length<=20000) :
 Pure Tryz.prog TB 126 [GH al c,GY t,eT w] (Pc (IT L (AU al) t w)):=by
 refine OB f al t ht hal e j w (λv b=>?_) hw a
 rcases b with b|b|⟨x,h,u,i,y,g,b⟩
 ·exact ht.on d (by omega) v b
 ·exact(ht.mono (by omega)).mQ d hw a v b
 ·obtain⟨p,_,rfl⟩:=NZ h
  exact(Vy ht (λc f=>hw c (by simp [f])) (by simp at a;omega) i).lP d (by omega) y g v b
end Go.Am
namespace Go.Am
open Go
set_option linter.unusedVariables false
noncomputable def PZ(p:AK)(t:Bh):Option W:=(Jv (Bp (LA p) p.al t) p).map Ei
theorem RF(p:AK):Wr (LA p) (AU p.al) (PZ p):=⟨λt w h d=>by
 unfold PZ at h;obtain⟨v,b,rfl⟩:=d7.1 h;obtain⟨_,a,e,_⟩:=Pb b
 exact⟨a,λc=>e (by rw [Vu d a,c])⟩⟩
theorem P0{p:AK}{t:Bh}{w:W}(h:PZ p t=some w):w.length<=144:=by
 unfold PZ at h;obtain⟨v,a,rfl⟩:=d7.1 h;exact(Pb a).2.2.2
theorem YO(L:W->Bool)(ls:List UInt8):TOk L ls CY:=by
 refine⟨rfl,rfl,λi w hi b=>?_,λw hw=>?_,λw hw=>?_,by simp [AQ,CY],by simp [CY]⟩
 ·have:=(am.1 hi).1
  simp [CY] at this;omega
 ·simp [CY] at hw;subst hw;exact λc a=>(by cases a)
 ·simp [CY] at hw;subst hw;exact λc a=>(by cases a)
noncomputable def RB(p:AK):Bh:=(Cj (LA p) (AU p.al) 13 CY).getD CY
theorem Mp{p:AK}(hp:AI p=true):Cj (LA p) (AU p.al) 13 CY=some (RB p)/\Bu (LA p) (AU p.al) (RB p)/\(RB p).cols=[[]]:=by
 have b:=Al hp;obtain⟨t',a,e,d,f,c,_⟩:=Kp (Xv hp p.al) b.2.2.1 13 CY (YO _ _) (by simp [CY])
 have:RB p=t':=by unfold RB;rw [a];rfl
 rw [this];exact⟨a,e.closed d,c⟩
noncomputable def BT(p:AK)(k:Nat):Bh:=ET (LA p) (AU p.al) (PZ p) (RB p) k
theorem dO{p:AK}(hp:AI p=true):∃k,k < 12/\PZ p (BT p k)=none/\∀j,j < k->PZ p (BT p j)≠none:=
 Uz (Xv hp p.al) (Al hp).2.2.1 (RF p) (Mp hp).2.1 (by rw [(Mp hp).2.2];rfl)
open Classical in
noncomputable def Bl(p:AK):Nat:=if h:∃k,k < 12/\PZ p (BT p k)=none/\∀j,j < k->PZ p (BT p j)≠none then Classical.choose h else 0
theorem EJ{p:AK}(hp:AI p=true):Bl p < 12/\PZ p (BT p (Bl p))=none/\∀j,j < Bl p->PZ p (BT p j)≠none:=by
 have h:=dO hp;unfold Bl;rw [dif_pos h];exact oW h
theorem TOk.short{L:W->Bool}{ls:List UInt8}{t:Bh}(h:TOk L ls t):∀(i:Nat) w,t.rows[i]? = some w->w.length<=i:=by
 intro i
 induction i using Nat.strongRecOn with
 | _ i b=>
  intro w hw
  rcases nM i with a|a
  ·subst a
   rw [h.r0] at hw
   injection hw with hw
   subst hw;simp
  ·obtain⟨e,j,c,d⟩:=h.pre i w hw a
   have:=b j c _ d;simp at this;omega
def gn(n:Nat)(t:Bh):Prop:=∀c∈t.cols,c.length<=n
theorem Gh{p:AK}(hp:AI p=true):∀k,k<=Bl p->Bu (LA p) (AU p.al) (BT p k)/\k+1<=(BT p k).rows.length/\(BT p k).rows.length<=12/\(BT p k).cols.length=k+1/\gn 144 (BT p k)
 | 0, hk=>by
  have b:=Mp hp;have o:=b.2.1.dD (Xv hp p.al);have n:=Al hp;have r:=(am.1 b.2.1.r0).1
  exact⟨b.2.1,r,by show (RB p).rows.length<=12;omega,by show (RB p).cols.length=1;rw [b.2.2];rfl,λc a=>by
   have a:c∈(RB p).cols:=a;rw [b.2.2] at a
   simp at a;subst a;simp⟩
 | k + 1,hk=>by
  obtain⟨b,o,n,m,l⟩:=Gh hp k (by omega);have j:=(EJ hp).2.2 k (by omega)
  have e:BT p (k+1)=match PZ p (BT p k) with
   | none=>BT p k
   | some w=>(SH (LA p) (AU p.al) (BT p k) w).getD (BT p k):=rfl
  cases hw:PZ p (BT p k) with
  | none=>exact absurd hw j
  | some w=>
   obtain⟨i,h⟩:=(RF p).on _ w hw b;have f:=Al hp;obtain⟨v,t',d⟩:=Am.QI (Xv hp p.al) f.2.2.1 b i h;rw [hw] at e;simp only [d.next,nW] at e;rw [e];refine⟨d.ok,by have:=d.more;omega,by have:=d.ok.dD (Xv hp p.al);omega,by rw [d.cols];simp [m],λc a=>?_⟩;rw [d.cols] at a
   rcases f9.1 a with a|a
   ·exact l c a
   ·simp at a
    subst a;have:=P0 hw;obtain⟨q,_,g⟩:=d.suf;rw [g] at this;simp at this;omega
theorem YN{p:AK}(hp:AI p=true){k:Nat}(hk:k < Bl p):∃w v,PZ p (BT p k)=some w/\Next (LA p) (AU p.al) (BT p k) w v (BT p (k+1)):=by
 have b:=(Gh hp k (by omega)).1;have f:=(EJ hp).2.2 k hk
 have e:BT p (k+1)=match PZ p (BT p k) with
  | none=>BT p k
  | some w=>(SH (LA p) (AU p.al) (BT p k) w).getD (BT p k):=rfl
 cases hw:PZ p (BT p k) with
 | none=>exact absurd hw f
 | some w=>
  obtain⟨d,c⟩:=(RF p).on _ w hw b;obtain⟨v,t',a⟩:=Am.QI (Xv hp p.al) (Al hp).2.2.1 b d c;rw [hw] at e;simp only [a.next,nW] at e;rw [e];exact⟨w,v,rfl,a⟩
end Go.Am
namespace Go.Am
open Go Go.Proofs
set_option maxHeartbeats 1000000
set_option maxRecDepth 4000
attribute [local irreducible] AO BS Lex A4 Au Spec
variable {TB:Bi}
abbrev kD(kn:Bool)(p:AK)(s:Sys)(q:AK)(al:Int):E:=.a ((cW kn p s q al).map .d)
theorem Hy(p:AK)(s:Sys)(q:AK)(al:Int):Pure Tryz.prog TB 143 [kD true p s q al] (eI .i64 (if AI p then p.al else -1)):=by
 refine eN Tryz.func143 rfl (by kernel_rfl) rfl ?_;intro Γ b;(repeat' first|refine tA rfl ?_ |refine s2 rfl λ_ a=>?_ |(refine sC rfl (Cm p) ?_;intro _ a) |refine s3 rfl ?_ ?_<;>rintro rfl |refine aU rfl ?_ |refine Aa ?_|(refine aC rfl ?_ ?_<;>rintro⟨⟩)|refine aK ?_|refine aE ?_|refine aB ?_|refine aR ⟨_,rfl,?_⟩)
 all_goals first
  | (show E.o _=E.o _;congr;grind)
  | (exfalso;simp at *;done)
abbrev jn(kn:Bool)(p:AK)(s:Sys)(q:AK)(al:Int):C:=.fn 144 [.ip [.l (Fi p)],.ip (cW kn p s q al)]
theorem Zq{p:AK}(hp:AI p=true)(s:Sys)(q:AK)(al:Int)(kn:Bool):EW Tryz.prog TB (jn kn p s q al) (LA p) (λw=>Av (AU p.al) w/\w.length<=1048576):=
 .of rfl λw hw=>dm hp s q al kn w hw.1 hw.2
theorem Uc(p:AK):HE (λw=>Av (AU p.al) w/\w.length<=1048576) p.al:=λw a b=>⟨a,by omega⟩
theorem IQ{p:AK}(hp:AI p=true)(s:Sys)(q:AK)(al:Int):Pure Tryz.prog TB 62 [kD true p s q al] (.t [(true,[.d (iD p.al),jn true p s q al]),(false,[.d (bD true)])]):=by
 have c:=Hy (TB:=TB) p s q al;rw [if_pos hp] at c;have f:=Al hp;have ha:=f.1;unfold Bv at ha;simp only [decide_eq_true_eq] at ha;have b:=FP (TB:=TB) p hp;refine eG Tryz.func62 rfl (by kernel_rfl) rfl ?_;intro Γ e;(repeat first|refine tA rfl ?_ |refine sP rfl (c) rfl ?_ |refine aU rfl ?_ |refine Aa ?_);refine aB ?_;(repeat first|refine tA rfl ?_ |refine s2 rfl λ_ a=>?_ |refine aU rfl ?_ |refine Aa ?_)
 ((refine aC rfl ?_ ?_<;>rintro⟨⟩);all_goals try (simp at a;done))
 ·exfalso;(simp only[oZ] at *;omega)
 ·(repeat first|refine tA rfl ?_ |refine aU rfl ?_ |refine Aa ?_)
  ((refine aC rfl ?_ ?_<;>rintro⟨⟩);all_goals try (simp at a;done))
  refine aS ?_;refine lY (by kernel_rfl) ?_;(repeat first|refine tA rfl ?_ |refine sP rfl (b) rfl ?_);refine Aa ?_;refine aS ?_;refine Au.C9 [1] [1,2,3,4] rfl [(5,.o (.ip [.l (Fi p)]))] ⟨⟨_,rfl,.o (.ptr (by simp) rfl rfl rfl)⟩,trivial⟩ ?_;(try dsimp only[cA,cB]);(repeat first|refine tA rfl ?_|(refine Af rfl ?_;refine gA rfl ?_;first| refine gS (λ_ _=>AF rfl rfl (by rfl) (by rfl)) ?_) |refine aU rfl ?_ |refine Aa ?_);refine aR ⟨_,rfl,rfl⟩
theorem IP{p:AK}(hp:AI p=false)(s:Sys)(q:AK)(al:Int):Pure Tryz.prog TB 62 [kD true p s q al] (.t [(true,[.d (iD 0),.d (.v .nilFunc)]),(false,[.d (bD false)])]):=by
 have b:=Hy (TB:=TB) p s q al;rw [if_neg (by simp [hp])] at b;refine eG Tryz.func62 rfl (by kernel_rfl) rfl ?_;intro Γ c;(repeat first|refine tA rfl ?_ |refine sP rfl (b) rfl ?_ |refine aU rfl ?_ |refine Aa ?_);refine aB ?_;(repeat first|refine tA rfl ?_ |refine s2 rfl λ_ a=>?_ |refine aU rfl ?_ |refine Aa ?_)
 ((refine aC rfl ?_ ?_<;>rintro⟨⟩);all_goals try (simp at a;done))
 ·(repeat first|refine tA rfl ?_|(refine Af rfl ?_;refine gA rfl ?_;first| refine gS (λ_ _=>AF rfl rfl (by rfl) (by rfl)) ?_) |refine aU rfl ?_ |refine Aa ?_)
  refine aR ⟨_,rfl,rfl⟩
abbrev iG:Sys:=⟨0,0,[]⟩
abbrev Xl:AK:=⟨0,[],[]⟩
theorem Bu.QS{L:W->Bool}{ls:List UInt8}{t:Bh}(h:Bu L ls t):Bw L ls t=none:=oS.2 λw hw=>by
 unfold CK at hw;simp only [ot,em] at hw;obtain⟨r,a,l,b,rfl⟩:=hw
 simpa using h.cl r a l b
theorem WU{p:AK}(hp:AI p=true){k:Nat}(hk:k<=Bl p):GA p.al 20000 (BT p k):=by
 obtain⟨a,h,e,g,d⟩:=Gh hp k hk;have f:=(EJ hp).1;refine⟨λw hw=>⟨a.onR w hw,?_⟩,λx b=>⟨a.onC x b,by have:=d x b;omega⟩,e,by omega⟩;obtain⟨i,hi,c⟩:=nC hw;have:=a.toTOk.short i w (by rw [d5 hi,c]);omega
theorem U9{L:W->Bool}{ls:List UInt8}{t t':Bh}{w v:W}(h:Next L ls t w v t')(b:Mx L t w≠L w)(c:t.cols.length < 20):IT L ls t w=some t':=by
 unfold IT FO;rw [if_neg b,h.split];simp only [oh];unfold Km;rw [if_neg (by intro a;rcases a with a|a;omega;exact h.new a)];exact h.close
noncomputable def Gn(p:AK):Bh:=if AI p then BT p (Bl p) else ⟨[],[]⟩
noncomputable def HR(p:AK):Int:=if AI p then (Bl p:Int)+1 else 0
theorem XS(p:AK):Pure Tryz.prog TB 88 [Bm p,.o (.d (.v .nilFunc))] (.t [(true,[.d (BX (Gn p).rows),.d (BX (Gn p).cols)]),(false,[.d (iD (HR p))])]):=by
 by_cases hp:AI p=true
 ·have hno:=IQ (TB:=TB) hp iG Xl 0
  have y:=Zq (TB:=TB) hp iG Xl 0 true;have x:=Uc p;have i:=SG (TB:=TB) y p.al x;rw [(Mp hp).1] at i
  have g:Gn p=BT p (Bl p):=by unfold Gn;rw [if_pos hp]
  have h:HR p=(Bl p:Int)+1:=by unfold HR;rw [if_pos hp]
  rw [g,h];have z:=(EJ hp).1;refine eG Tryz.func88 rfl (by kernel_rfl) rfl ?_;intro Γ c;(repeat first |refine sN rfl ?_ |((first|refine sA rfl ?_ ?_|refine s4 rfl ‹_› rfl ?_ ?_);first|exact tI|omega|simp only[oZ] at *;omega) |refine s2 rfl λ_ a=>?_ |refine sP rfl (hno) rfl ?_|(refine Af rfl ?_;refine gA rfl ?_;first|refine gS (λ_ _=>AF rfl rfl (by rfl) (by rfl)) ?_) |refine s3 rfl ?_ ?_<;>rintro rfl |refine aU rfl ?_ |refine Aa ?_)
  ((refine aC rfl ?_ ?_<;>rintro⟨⟩);all_goals try (simp at a;done))
  refine aK ?_;(repeat first |refine sN rfl ?_ |((first|refine sA rfl ?_ ?_|refine s4 rfl ‹_› rfl ?_ ?_);first|exact tI|omega|simp only[oZ] at *;omega) |refine s2 rfl λ_ a=>?_ |refine sP rfl (i) rfl ?_ |refine s3 rfl ?_ ?_<;>rintro rfl |refine aU rfl ?_ |refine Aa ?_);refine aB ?_;refine aL (U:={k:Nat // k<=Bl p}) [1,2,4,6,8] [0,1] rfl rfl (λ⟨k,hk⟩=>[(10,eI .i64 ((k:Int)+1))]) (λ⟨k,hk⟩=>[(2,.cells 47 2 [[.d (BX (BT p k).rows),.d (BX (BT p k).cols)]])]) 3 (λ⟨k,hk⟩=>Bl p - k) (⟨0,by omega⟩) c rfl (by ((repeat' first|exact tI|rfl|refine And.intro ?_ ?_)<;>(simp[cX,zC,c]<;>rfl))) ?_;rintro⟨k,hk⟩;(try dsimp only[cA,cB]);obtain⟨m,J,I,H,G⟩:=Gh hp k hk;have j:=WU hp hk;have l:=Qd (TB:=TB) y p.al (BT p k) x (j.mono (by omega)) m.QS;have e:=Hw (TB:=TB) (Bp (LA p) p.al (BT p k)) p;refine aS (aB ?_);by_cases s:k < Bl p
  ·obtain⟨w,v,hw,F⟩:=YN hp s
   have b:=hw;unfold PZ at b;obtain⟨u,A,n⟩:=d7.1 b;obtain⟨q,r⟩:=(RF p).on _ w hw m;have B:=P0 hw;have f:=Qw (TB:=TB) y p.al (BT p k) x j (Al hp).1 m m.QS w q (by omega);rw [U9 F r (by omega)] at f;rw [A] at e;rw [<-n] at f;(repeat first |refine sN rfl ?_ |((first|refine sA rfl ?_ ?_|refine s4 rfl ‹_› rfl ?_ ?_);first|exact tI|omega|simp only[oZ] at *;omega) |refine s2 rfl λ_ a=>?_ |refine sP rfl (l) rfl ?_ |refine s3 rfl ?_ ?_<;>rintro rfl |refine aU rfl ?_ |refine Aa ?_);(repeat first |refine sN rfl ?_ |((first|refine sA rfl ?_ ?_|refine s4 rfl ‹_› rfl ?_ ?_);first|exact tI|omega|simp only[oZ] at *;omega) |refine s2 rfl λ_ a=>?_|(refine Af rfl ?_;refine gA rfl ?_;first|refine gS (λ_ _=>WC rfl rfl) ?_) |refine s3 rfl ?_ ?_<;>rintro rfl |refine aU rfl ?_ |refine Aa ?_)
   ((refine aC rfl ?_ ?_<;>rintro⟨⟩);all_goals try (simp at a;done))
   refine aK ?_;(repeat first |refine sN rfl ?_ |((first|refine sA rfl ?_ ?_|refine s4 rfl ‹_› rfl ?_ ?_);first|exact tI|omega|simp only[oZ] at *;omega) |refine s2 rfl λ_ a=>?_ |refine sP rfl (e) rfl ?_ |refine s3 rfl ?_ ?_<;>rintro rfl |refine aU rfl ?_ |refine Aa ?_)
   ((refine aC rfl ?_ ?_<;>rintro⟨⟩);all_goals try (simp at a;done))
   refine aK ?_;(repeat first |refine sN rfl ?_ |((first|refine sA rfl ?_ ?_|refine s4 rfl ‹_› rfl ?_ ?_);first|exact tI|omega|simp only[oZ] at *;omega) |refine s2 rfl λ_ a=>?_ |refine sP rfl (f) rfl ?_ |refine s3 rfl ?_ ?_<;>rintro rfl |refine aU rfl ?_ |refine Aa ?_);refine⟨⟨k+1,by first|omega|simp only[oZ] at *;omega⟩,by dsimp only;(first|omega|simp only[oZ] at *;omega),[0,1,2],?_⟩;simp[cX,zC,c]
  ·obtain rfl:k=Bl p:=by omega
   have b:=(EJ hp).2.1;unfold PZ at b;rw [Option.map_eq_none_iff.1 b] at e;(repeat first |refine sN rfl ?_ |((first|refine sA rfl ?_ ?_|refine s4 rfl ‹_› rfl ?_ ?_);first|exact tI|omega|simp only[oZ] at *;omega) |refine s2 rfl λ_ a=>?_ |refine sP rfl (l) rfl ?_ |refine s3 rfl ?_ ?_<;>rintro rfl |refine aU rfl ?_ |refine Aa ?_);(repeat first |refine sN rfl ?_ |((first|refine sA rfl ?_ ?_|refine s4 rfl ‹_› rfl ?_ ?_);first|exact tI|omega|simp only[oZ] at *;omega) |refine s2 rfl λ_ a=>?_|(refine Af rfl ?_;refine gA rfl ?_;first|refine gS (λ_ _=>WC rfl rfl) ?_) |refine s3 rfl ?_ ?_<;>rintro rfl |refine aU rfl ?_ |refine Aa ?_)
   ((refine aC rfl ?_ ?_<;>rintro⟨⟩);all_goals try (simp at a;done))
   refine aK ?_;(repeat first |refine sN rfl ?_ |((first|refine sA rfl ?_ ?_|refine s4 rfl ‹_› rfl ?_ ?_);first|exact tI|omega|simp only[oZ] at *;omega) |refine s2 rfl λ_ a=>?_ |refine sP rfl (e) rfl ?_ |refine s3 rfl ?_ ?_<;>rintro rfl |refine aU rfl ?_ |refine Aa ?_)
   ((refine aC rfl ?_ ?_<;>rintro⟨⟩);all_goals try (simp at a;done))
   (repeat first |refine sN rfl ?_ |((first|refine sA rfl ?_ ?_|refine s4 rfl ‹_› rfl ?_ ?_);first|exact tI|omega|simp only[oZ] at *;omega) |refine s2 rfl λ_ a=>?_ |refine s3 rfl ?_ ?_<;>rintro rfl |refine aU rfl ?_ |refine Aa ?_);refine aR ⟨_,rfl,rfl⟩
 ·have g:Gn p=⟨[],[]⟩:=by unfold Gn;rw [if_neg hp]
  have h:HR p=0:=by unfold HR;rw [if_neg hp]
  rw [g,h];have hno:=IP (TB:=TB) (by simpa using hp) iG Xl 0;refine eG Tryz.func88 rfl (by kernel_rfl) rfl ?_;intro Γ c;(repeat first |refine sN rfl ?_ |((first|refine sA rfl ?_ ?_|refine s4 rfl ‹_› rfl ?_ ?_);first|exact tI|omega|simp only[oZ] at *;omega) |refine s2 rfl λ_ a=>?_ |refine sP rfl (hno) rfl ?_|(refine Af rfl ?_;refine gA rfl ?_;first|refine gS (λ_ _=>AF rfl rfl (by rfl) (by rfl)) ?_) |refine s3 rfl ?_ ?_<;>rintro rfl |refine aU rfl ?_ |refine Aa ?_)
  ((refine aC rfl ?_ ?_<;>rintro⟨⟩);all_goals try (simp at a;done))
  (repeat first |refine sN rfl ?_ |((first|refine sA rfl ?_ ?_|refine s4 rfl ‹_› rfl ?_ ?_);first|exact tI|omega|simp only[oZ] at *;omega) |refine s2 rfl λ_ a=>?_|(refine Af rfl ?_;refine gA rfl ?_;first|refine gS (λ_ _=>AF rfl rfl (by rfl) (by rfl)) ?_) |refine s3 rfl ?_ ?_<;>rintro rfl |refine aU rfl ?_ |refine Aa ?_);refine aR ⟨_,rfl,rfl⟩
theorem dM(w:W)(i:Nat)(c:UInt8)(b:w[((i:Nat):Int).toNat]? = some c):Pure Tryz.prog TB 269 [eT w,eI .i64 i] (eI .i64 ((c.toNat:Int) - 97)):=by
 have hb:=c.toNat_lt;refine eN Tryz.func269 rfl (by kernel_rfl) rfl ?_;intro Γ a;(repeat' first|(refine sA rfl ?_ ?_;first|exact tI|omega) |(refine s4 rfl ‹_› rfl ?_ ?_;omega) |refine aU rfl ?_ |refine Aa ?_|(refine aC rfl ?_ ?_<;>rintro⟨⟩)|refine aK ?_|refine aE ?_|refine aB ?_|refine aR ⟨_,rfl,?_⟩);rfl
theorem aw(n:Int)(a:0<=n)(c:n < 16):Pure Tryz.prog TB 206 [eI .i64 n] (eI .i64 ((2 ^ n.toNat:Nat):Int)):=by
 refine eN Tryz.func206 rfl (by kernel_rfl) rfl ?_;intro Γ b;(repeat' first|(refine sA rfl ?_ ?_;first|exact tI|omega)|(refine Af rfl ?_;refine gA rfl ?_;first| refine gS (λ_ _=>bW rfl rfl a (WQ a c)) ?_) |refine aU rfl ?_ |refine Aa ?_|(refine aC rfl ?_ ?_<;>rintro⟨⟩)|refine aK ?_|refine aE ?_|refine aB ?_|refine aR ⟨_,rfl,?_⟩);rfl
theorem MF{c:UInt8}:ME c=decide (0<=(c.toNat:Int) - 97/\(c.toNat:Int) - 97 < 6):=by
 unfold ME;rw [oI,decide_eq_true_eq,decide_eq_true_eq];omega
theorem Oi{w:W}{al:Int}(h:within w al=true):Av (AU al) w:=by
 unfold within at h;simp only [d6,decide_eq_true_eq] at h;intro c b;have a:=(gt.1 h.2.2) c b;unfold Qt ME at a;simp only [d6,decide_eq_true_eq] at a;refine em.2 ⟨((c.toNat - 97:Nat):Int),Gq.2 ⟨by omega,a.2⟩,?_⟩;unfold lb
 have e:97+((c.toNat - 97:Nat):Int).toNat=c.toNat:=by omega
 rw [e];simp
theorem I7{w:W}{al:Int}(h:Av (AU al) w)(d:w.length<=50000)(ha:Bv al=true):within w al=true:=by
 unfold within;simp only [d6,decide_eq_true_eq];refine⟨d,ha,gt.2 λc f=>?_⟩;obtain⟨l,b,rfl⟩:=em.1 (h c f);have a:=Ai b;have g:=Es a.1 (by omega);unfold Qt ME;simp only [d6,decide_eq_true_eq]
 have e:(lb l).toNat - 97=l.toNat:=by omega
 rw [e];exact⟨by omega,a.2.2⟩
def ga(p:AK)(w:W):Bool:=AI p && (within w p.al && LA p w)
structure TK where
 kn:Bool
 p:AK
 s:Sys
 q:AK
 al:Int
abbrev Xq(t:TK):E:=kD t.kn t.p t.s t.q t.al
end Go.Am
namespace Go.Am
open Go
set_option linter.unusedVariables false
def BL(es:List Ej)(l:Int)(m:Nat):Nat:=es.foldl (λa e=>if e.l=l/\m.testBit e.f.toNat=true then a ||| 2 ^ e.t.toNat else a) 0
theorem Im{U:Type}{p:U->Prop}[DecidablePred p]{g:U->Nat}{j:Nat}:∀(l:List U) (a:Nat),(l.foldl (λa e=>if p e then a ||| g e else a) a).testBit j=true↔a.testBit j=true\/∃e∈l,p e/\(g e).testBit j=true
 | [],a=>by simp
 | x :: l,a=>by
  rw [pF,Im l];by_cases h:p x
  ·rw [if_pos h,oP,nr]
   constructor
   ·rintro((b|b)|⟨e,b,c⟩)
    ·exact .inl b
    ·exact .inr ⟨x,by simp,h,b⟩
    ·exact .inr ⟨e,by simp [b],c⟩
   ·rintro(b|⟨e,b,c,d⟩)
    ·exact .inl (.inl b)
    ·rcases lc.1 b with rfl|b
     ·exact .inl (.inr d)
     ·exact .inr ⟨e,b,c,d⟩
  ·rw [if_neg h]
   constructor
   ·rintro(b|⟨e,b,c⟩)
    ·exact .inl b
    ·exact .inr ⟨e,by simp [b],c⟩
   ·rintro(b|⟨e,b,c,d⟩)
    ·exact .inl b
    ·rcases lc.1 b with rfl|b
     ·exact absurd c h
     ·exact .inr ⟨e,b,c,d⟩
theorem Eu{es:List Ej}{l:Int}{m j:Nat}:(BL es l m).testBit j=true↔∃e∈es,(e.l=l/\m.testBit e.f.toNat=true)/\e.t.toNat=j:=by
 unfold BL;rw [Im];simp [o6]
structure BE where
 s:Sys
 q:AK
 al:Int
def AZ(t:BE):Bool:=BA t.s && (AI t.q && Bv t.al)
def CM(t:BE):List Int:=(Ac t.s.al).filter λl=>!Ep t.al l.toNat
def Dd(s:Sys)(l:Int)(m:Nat):Nat:=if Ep s.al l.toNat then BL s.es l m else m
abbrev PS:=Nat->Nat
def VW(t:BE)(l:Int)(F:PS):PS:=λp'=>(List.range t.q.nx.length).foldl (λa p=>if AW t.q p l=(p':Int) then a ||| Dd t.s l (F p) else a) 0
theorem LZ{t:BE}{l:Int}{F:PS}{p' j:Nat}:(VW t l F p').testBit j=true↔∃p,p < t.q.nx.length/\AW t.q p l=(p':Int)/\(Dd t.s l (F p)).testBit j=true:=by
 unfold VW;rw [Im];simp
inductive RG (t:BE) (F0:PS):Nat->Nat->Prop
 | base {p j:Nat}:(F0 p).testBit j=true->RG t F0 p j
 | step {p j:Nat} {e:Ej}:RG t F0 p j->e∈t.s.es->e.l∈CM t->e.f.toNat=j->RG t F0 (AW t.q p e.l).toNat e.t.toNat
open Classical in
noncomputable def TL(t:BE)(F0:PS):PS:=λp=>(List.range 16).foldl (λa j=>if RG t F0 p j then a ||| 2 ^ j else a) 0
open Classical in
theorem Qh{t:BE}{F0:PS}{p j:Nat}:(TL t F0 p).testBit j=true↔j < 16/\RG t F0 p j:=by
 unfold TL;rw [Im];simp only [qK,pb,false_or,jp,o6,decide_eq_true_eq];constructor
 ·rintro⟨e,b,a,rfl⟩;exact⟨b,a⟩
 ·rintro⟨b,a⟩;exact⟨j,b,a,rfl⟩
structure CE (t:BE) (F:PS):Prop where
 lt:∀p,F p < 65536
 z:∀p,t.q.nx.length<=p->F p=0
theorem Ij{m:Nat}(h:∀j,m.testBit j=true->j < 16):m < 65536:=by
 have:m < 2 ^ 16:=Nat.lt_pow_two_of_testBit m λi hi=>by
  cases hb:m.testBit i
  ·rfl
  ·have:=h i hb;omega
 omega
theorem JD{m j:Nat}(h:m < 65536)(hb:m.testBit j=true):j < 16:=by
 rcases nh j 16 with a|a
 ·exact a
 ·have:m.testBit j=false:=Nat.testBit_lt_two_pow (mW h (nY (n:=2) (by omega) a))
  rw [this] at hb;cases hb
theorem Ik{m:Nat}(h:∀j,m.testBit j=false):m=0:=oL λj=>by rw [h j];simp
section
variable {t:BE}(ht:AZ t=true)
include ht set_option linter.unusedSectionVars false
theorem Tw{e:Ej}(a:e∈t.s.es):0<=e.f/\e.f < 16/\0<=e.t/\e.t < 16/\0<=e.l/\e.l < 6:=by
 unfold AZ at ht;simp only [d6] at ht;have b:=CX ht.1 a;have c:=Ck ht.1;unfold Dg at b;grind
theorem CZ:AI t.q=true:=by
 unfold AZ at ht;simp only [d6] at ht;exact ht.2.1
theorem Hd{l:Int}(h:l∈CM t):0<=l/\l < 6/\Ep t.s.al l.toNat=true:=by
 unfold CM at h;have a:=Ai (nP.1 h).1;exact⟨a.1,by omega,a.2.2⟩
theorem H0{l:Int}{m:Nat}(a:m < 65536):Dd t.s l m < 65536:=by
 unfold Dd;split
 ·refine Ij λj b=>?_
  obtain⟨e,c,_,rfl⟩:=Eu.1 b;have:=Tw ht c;omega
 ·exact a
theorem KH{l:Int}(a:0<=l/\l < 6){F:PS}(h:CE t F):CE t (VW t l F):=by
 refine⟨λp=>Ij λj d=>?_,λp hp=>Ik λj=>?_⟩
 ·obtain⟨q,c,e,b⟩:=LZ.1 d
  exact JD (H0 ht (h.lt q)) b
 ·cases hb:(VW t l F p).testBit j
  ·rfl
  ·obtain⟨q,c,e,b⟩:=LZ.1 hb
   have:=DG (CZ ht) c a.1 a.2;omega
theorem RG.lt{F0:PS}(h:CE t F0){p j:Nat}(c:RG t F0 p j):p < t.q.nx.length/\j < 16:=by
 induction c with
 | @base p j hb=>
  refine⟨?_,JD (h.lt p) hb⟩
  rcases nh p t.q.nx.length with a|a
  ·exact a
  ·rw [h.z p a] at hb;simp at hb
 | @step p j e _ d f _ b=>
  have a:=Tw ht d;have g:=DG (CZ ht) b.1 a.2.2.2.2.1 a.2.2.2.2.2;omega
theorem ZA{F0:PS}(h:CE t F0):CE t (TL t F0):=by
 refine⟨λp=>Ij λj a=>(Qh.1 a).1,λp hp=>Ik λj=>?_⟩;cases hb:(TL t F0 p).testBit j
 ·rfl
 ·have:=((Qh.1 hb).2.lt ht h).1
  omega
theorem Zz{F0 G:PS}(c:CE t F0)(n:∀p,t.q.nx.length<=p->G p=0)(m:∀p j,(F0 p).testBit j=true->(G p).testBit j=true)(b:∀p j,(G p).testBit j=true->RG t F0 p j)
 (k:∀p l j,p < t.q.nx.length->l∈CM t->(BL t.s.es l (G p)).testBit j=true->(G (AW t.q p l).toNat).testBit j=true):G=TL t F0:=by
 have key:∀ {p j:Nat},RG t F0 p j->(G p).testBit j=true:=λ{p j} a=>by
  induction a with
  | base hb=>exact m _ _ hb
  | @step p j e a i f g d=>exact k p e.l _ (a.lt ht c).1 f (Eu.2 ⟨e,i,⟨rfl,by rw [g];exact d⟩,rfl⟩)
 funext p;refine oL λj=>?_;rw [oI,Qh];exact⟨λh=>⟨((b p j h).lt ht c).2,b p j h⟩,λh=>key h.2⟩
end
def Kg:PS:=λp=>if p=0 then 1 else 0
noncomputable def A0(t:BE):PS:=TL t Kg
noncomputable def BR(t:BE)(l:Int)(F:PS):PS:=TL t (VW t l F)
def Eo(t:BE)(F:PS):Bool:=(List.range t.q.nx.length).any λp=>decide (F p≠0) && !(t.q.ac.getD p false)
noncomputable def Ia(t:BE):PS->W->Bool
 | F,[]=>!Eo t F
 | F,c::w=>!Eo t F && Ia t (BR t ((c.toNat:Int) - 97) F) w
noncomputable def LS(t:BE)(w:W):Bool:=Ia t (A0 t) w
section
variable {t:BE}(ht:AZ t=true)
include ht
theorem Oj:CE t Kg:=by
 have h:=Al (CZ ht);refine⟨λp=>by unfold Kg;split<;>omega,λp hp=>by unfold Kg;rw [if_neg (by omega)]⟩
theorem KY:CE t (A0 t):=ZA ht (Oj ht)
theorem Nn{l:Int}(a:0<=l/\l < 6){F:PS}(h:CE t F):CE t (BR t l F):=ZA ht (KH ht a h)
end
end Go.Am
namespace Go.Am
open Go Go.Proofs
set_option maxHeartbeats 1000000
set_option maxRecDepth 4000
attribute [local irreducible] AO BS Lex A4 Au Spec
variable {TB:Bi}
theorem Tm:∀ {l:List Int},l.Pairwise (· < ·)->(∀x∈l,0<=x)->∀j:Nat,(BD l).testBit j=true↔(j:Int)∈l
 | [],_,_,j=>by simp [BD]
 | x :: r,hp,e,j=>by
  have g:=e x (by simp);have c:=nN.1 hp;have d:=Tm c.2 (λy f=>e y (by simp [f])) j;obtain⟨m,n,k⟩:=KU hp g;rw [n,Nat.testBit_two_pow_mul];rw [k,Nat.testBit_two_pow_mul] at d;rw [lc,<-d];by_cases h:j=x.toNat
  ·subst h
   simp;omega
  ·have b:¬(j:Int)=x:=by omega
   have hb:x.toNat<=j->(2*m+1).testBit (j - x.toNat)=(2*m).testBit (j - x.toNat):=λa=>by
    obtain⟨i,hi⟩:∃i,j - x.toNat=i+1:=⟨j - x.toNat - 1,by omega⟩
    rw [hi,oQ,oQ];congr 1;omega
   by_cases a:x.toNat<=j
   ·rw [hb a];simp [b]
   ·simp [a,b]
def DW(m k:Nat):List Int:=((List.range k).filter (m.testBit ·)).map Int.ofNat
theorem RX(m k:Nat):DW m (k+1)=DW m k++if m.testBit k then [(k:Int)] else []:=by
 unfold DW;rw [oJ,qt,nO];cases h:m.testBit k<;>simp [h]
theorem PO(m:Nat):∀k,BD (DW m k)=m % 2 ^ k
 | 0=>by simp [DW,BD,Nat.mod_one]
 | k+1=>by
  rw [RX,NU,PO m k,pQ,Nat.mod_mul,qd];by_cases h:m / 2 ^ k % 2=1
  ·rw [h];simp [BD]
  ·rw [show m / 2 ^ k % 2=0 by omega];simp [BD]
theorem Ot(m k:Nat):(DW m k).Pairwise (· < ·):=by
 unfold DW;rw [nS]
 exact(List.pairwise_lt_range.filter _).imp λh=>by simpa using h
theorem Ko{m k:Nat}{x:Int}(h:x∈DW m k):0<=x/\x < k/\m.testBit x.toNat=true:=by
 unfold DW at h;obtain⟨n,a,rfl⟩:=em.1 h;obtain⟨c,b⟩:=nP.1 a;have:=jp.1 c;exact⟨by simp,by simp;omega,by simpa using b⟩
theorem Qe{m:Nat}(h:m < 65536):m=BD (DW m 16):=by rw [PO];omega
def OG(es:List Ej)(l:Int)(xs:List Int):Nat:=xs.foldl (λa x=>a ||| BD (Oa es x.toNat l.toNat)) 0
theorem Ny{s:Sys}(b:BA s=true){l:Int}{j:Nat}:∀ {xs:List Int} {a:Nat},(xs.foldl (λa x=>a ||| BD (Oa s.es x.toNat l.toNat)) a).testBit j=true↔a.testBit j=true\/∃x∈xs,(j:Int)∈Oa s.es x.toNat l.toNat
 | [],a=>by simp
 | x::xs,a=>by
  rw [pF,Ny b,oP,nr];have c:=FQ b s.es.length x.toNat l.toNat;rw [i9] at c;have e:=Tm c (λy d=>(Ob b (k:=s.es.length) (by rw [i9];exact d)).1) j;rw [e];simp only [lc,exists_eq_or_imp,or_assoc]
theorem er{s:Sys}(g:BA s=true){l:Int}(r:0<=l){m:Nat}(n:m < 65536):OG s.es l (DW m 16)=BL s.es l m:=by
 refine oL λj=>?_;rw [oI];unfold OG;rw [Ny g,Eu];simp only [qK,pb,false_or];constructor
 ·rintro⟨x,k,h⟩
  obtain⟨q,d,i⟩:=Ko k;unfold Oa at h;obtain⟨e,a,p⟩:=em.1 h;obtain⟨c,b⟩:=nP.1 a;simp only [d6,decide_eq_true_eq] at b;exact⟨e,c,⟨by omega,by rw [show e.f.toNat=x.toNat by omega];exact i⟩,by omega⟩
 ·rintro⟨e,a,⟨q,d⟩,i⟩
  have hb:=CX g a;unfold Dg at hb;simp only [d6,decide_eq_true_eq] at hb;have o:=JD n d;refine⟨e.f,?_,?_⟩
  ·unfold DW
   exact em.2 ⟨e.f.toNat,nP.2 ⟨jp.2 o,d⟩,by simp;omega⟩
  ·unfold Oa
   refine em.2 ⟨e,nP.2 ⟨a,?_⟩,by omega⟩;simp only [d6,decide_eq_true_eq];omega
theorem eu{s:Sys}(b:BA s=true){l:Int}{xs:List Int}:OG s.es l xs < 65536:=Ij λj a=>by
 unfold OG at a;rw [Ny b] at a;simp only [qK,pb,false_or] at a;obtain⟨x,_,c⟩:=a;have:=Ob b (k:=s.es.length) (by rw [i9];exact c);omega
theorem LX{a b:Nat}(ha:a < 2 ^ 62)(hb:b < 2 ^ 62):ZW .i64 (a:Nat) (b:Nat)=((a ||| b:Nat):Int):=by
 have d:a ||| b < 2 ^ 62:=pj ha hb;unfold ZW
 have c:(BitVec.ofInt IntKind.i64.bits (a:Int) ||| BitVec.ofInt IntKind.i64.bits (b:Int)).toNat=a ||| b:=by
  have e:IntKind.i64.bits=64:=rfl;rw [e];simp only [BitVec.toNat_or,BitVec.ofInt_natCast,BitVec.toNat_ofNat];rw [nF (by omega),nF (by omega)]
 rw [c];exact IntWalk.i64_in _ (by omega)
theorem fp[Fa TB]{s:Sys}(r:BA s=true){l:Int}(F:0<=l/\l < 6){m:Nat}(u:m < 65536):Pure Tryz.prog TB 236 [.o (.ip (FF s.es)),eI .i64 (m:Nat),eI .i64 l] (eI .i64 (BL s.es l m:Nat)):=by
 rw [<-er r F.1 u];rw [Qe u]
 have hb:∀x∈DW m 16,0<=x/\x < 16:=λx h=>⟨(Ko h).1,(Ko h).2.1⟩
 have hp:=Ot m 16;rw [<-Qe u]
 conv=>arg 4;rw [Qe u]
 generalize DW m 16=xs at *;refine eG Tryz.func236 rfl (by kernel_rfl) rfl ?_;intro Γ c;(repeat first|refine tA rfl ?_ |refine aU rfl ?_ |refine Aa ?_);refine aB ?_;refine aL (U:={k:Nat // k<=xs.length}) [0,2] [] rfl rfl (λ⟨k,hk⟩=>[(1,eI .i64 (BD (xs.drop k):Nat)),(7,eI .i64 (OG s.es l (xs.take k):Nat))]) (λ⟨k,hk⟩=>[]) 0 (λ⟨k,hk⟩=>xs.length - k) (⟨0,by omega⟩) c rfl (by (simp[cX,zC,c]<;>rfl)) ?_;rintro⟨k,hk⟩;(try dsimp only[cA,cB]);by_cases A:k < xs.length
 ·obtain⟨x,h⟩:=get_some A
  have B:=BF h;have d:=hb x (ce h)
  have f:(x::xs.drop (k+1)).Pairwise (· < ·):=by rw [<-B];exact hp.sublist (List.drop_sublist _ _)
  have z:BD (x::xs.drop (k+1)) < 2 ^ 16:=by
   refine Mm f λy q=>?_;rw [<-B] at q;exact hb y (pz q)
  have w:=NV (x:=x) (l:=xs.drop (k+1));have p:=cO f d.1 (by omega);have n:=XF f d.1 (by omega);rw [<-B] at z w p n;have e:=kO (TB:=TB) (BD (xs.drop k)) (by omega) (by omega);rw [p] at e
  have ex:((x.toNat:Nat):Int)=x:=by omega
  rw [ex] at e;have i:=FQ r s.es.length x.toNat l.toNat;rw [i9] at i;have G:BD (Oa s.es x.toNat l.toNat) < 65536:=Mm (t:=16) i λy q=>Ob r (k:=s.es.length) (by rw [i9];exact q);have H:OG s.es l (xs.take k) < 65536:=eu r;have j:=LX (a:=OG s.es l (xs.take k)) (b:=BD (Oa s.es x.toNat l.toNat)) (by omega) (by omega)
  have v:OG s.es l (xs.take (k+1))=OG s.es l (xs.take k) ||| BD (Oa s.es x.toNat l.toNat):=by unfold OG;rw [gc,h,pi];rfl
  rw [<-v] at j;(repeat first|refine tA rfl ?_ |refine s2 rfl λ_ g=>?_ |refine aU rfl ?_ |refine Aa ?_)
  ((refine aC rfl ?_ ?_<;>rintro⟨⟩);all_goals try(exfalso;(simp only[oZ] at *;omega)))
  refine aK ?_;refine aS (aB ?_);refine rG (Ha []) (by kernel_rfl) ?_;(repeat first|(refine sA rfl ?_ ?_;first|exact tI|omega) |refine sP rfl (e) rfl ?_|(refine Af rfl ?_;refine gA rfl ?_;first| refine gS (λ_ _=>Dp rfl (gT d F)) ?_) |refine aU rfl ?_ |refine Aa ?_);refine⟨⟨k+1,by omega⟩,by dsimp only;(omega),[],?_⟩;simp[cX,zC,c,j,n]
 ·obtain rfl:k=xs.length:=by omega
  rw [i9];(repeat first|refine tA rfl ?_ |refine s2 rfl λ_ g=>?_ |refine aU rfl ?_ |refine Aa ?_);(refine aC rfl ?_ ?_<;>rintro⟨⟩)
  ·exfalso
   rw [oR] at g;simp [BD] at g
  refine aE ?_;(repeat first|refine tA rfl ?_ |refine aU rfl ?_ |refine Aa ?_);(subst_vars;exact aR ⟨_,rfl,rfl⟩)
def Gf(F:PS):List Int:=[(F 0:Nat),(F 1:Nat),(F 2:Nat),(F 3:Nat),(F 4:Nat),(F 5:Nat),(F 6:Nat),(F 7:Nat),(F 8:Nat),(F 9:Nat),(F 10:Nat),(F 11:Nat)]
abbrev Ls(F:PS):List C:=mq .u16 (Gf F)
abbrev ij(F:PS):E:=dL .u16 (Gf F)
theorem Iz{F:PS}{p:Nat}(h:p < 12):(Gf F)[p]? = some (F p:Int):=by
 obtain rfl|rfl|rfl|rfl|rfl|rfl|rfl|rfl|rfl|rfl|rfl|rfl:p=0\/p=1\/p=2\/p=3\/p=4\/p=5\/p=6\/p=7\/p=8\/p=9\/p=10\/p=11:=by omega
 all_goals rfl
theorem Mf{F:PS}{p:Nat}(h:p < 12):(Ls F)[p]? = some (.d (.v (.int .u16 (F p:Int)))):=by simp [Iz h]
theorem PE{F G:PS}(h:∀p,p < 12->F p=G p):Gf F=Gf G:=by
 unfold Gf;rw [h 0 (by omega),h 1 (by omega),h 2 (by omega),h 3 (by omega),h 4 (by omega),h 5 (by omega),h 6 (by omega),h 7 (by omega),h 8 (by omega),h 9 (by omega),h 10 (by omega),h 11 (by omega)]
theorem QX{F G:PS}(h:Gf F=Gf G):∀p,p < 12->F p=G p:=λp hp=>by
 have:=Iz (F:=F) hp;rw [h,Iz hp] at this
 injection this with this
 omega
theorem Ww{F:PS}{p:Nat}(h:p < 12){v:Nat}:Ae (Ls F) p [.d (.v (.int .u16 (v:Int)))]=Ls λi=>if i=p then v else F i:=by
 have b:(Ls F).length=12:=by simp [Gf]
 rw [Hp (by omega)];apply nH;intro i;rw [qx];by_cases hi:i < 12
 ·rw [Mf hi,Mf hi]
  by_cases e:p=i
  ·subst e;rw [if_pos rfl,if_pos (by omega),if_pos rfl]
  ·rw [if_neg e,if_neg (λh=>e h.symm)]
 ·have a:∀G:PS,(Ls G)[i]? = none:=λG=>i8 (by simp [Gf];omega)
  rw [a,a];by_cases e:p=i
  ·omega
  ·rw [if_neg e]
theorem u16_in{n:Nat}(h:n < 65536):IntKind.u16.wrap (n:Int)=n:=by
 unfold IntKind.wrap;simp [IntKind.bits,IntKind.signed,IntKind.min,IntKind.max];omega
instance:Fs Tryz.prog 189 12 .u16:=⟨⟨187,⟨by kernel_rfl,by kernel_rfl,by kernel_rfl,by kernel_rfl⟩,by kernel_rfl⟩,by kernel_rfl,λh=>by
 have a:Nat.beq Tryz.prog.types.size 0=false:=by kernel_rfl
 rw [h] at a;cases a⟩
def DB(t:BE)(l:Int)(F:PS)(k:Nat):PS:=λp':Nat=>(List.range k).foldl (λa p=>if AW t.q p l=(p':Int) then a ||| Dd t.s l (F p) else a) 0
theorem It{t:BE}{l:Int}{F:PS}{k:Nat}:DB t l F (k+1)=λp':Nat=>if AW t.q k l=(p':Int) then DB t l F k p' ||| Dd t.s l (F k) else DB t l F k p':=by
 funext p';unfold DB;rw [oJ,pi];rfl
theorem UX{s:Sys}{l:Int}:Dd s l 0=0:=by
 unfold Dd;split
 ·exact Ik λj=>by
   cases h:(BL s.es l 0).testBit j
   ·rfl
   ·obtain⟨e,_,⟨_,a⟩,_⟩:=Eu.1 h
    simp at a
 ·rfl
theorem Pz{t:BE}{l:Int}{F:PS}{k:Nat}(h:F k=0):DB t l F (k+1)=DB t l F k:=by
 rw [It];funext p';rw [h,UX];split<;>simp
theorem aQ{t:BE}{l:Int}{F:PS}(h:CE t F)(b:t.q.nx.length<=12):DB t l F 12=VW t l F:=by
 have key:∀k,DB t l F (t.q.nx.length+k)=DB t l F t.q.nx.length:=λk=>by
  induction k with
  | zero=>rfl
  | succ k a=>rw [<-nQ,Pz (h.z _ (by omega)),a]
 have:=key (12 - t.q.nx.length);rw [show t.q.nx.length+(12 - t.q.nx.length)=12 by omega] at this;rw [this];rfl
theorem VX{t:BE}(ht:AZ t=true){l:Int}{F:PS}(h:CE t F)(k p:Nat):DB t l F k p < 65536:=by
 induction k with
 | zero=>simp [DB]
 | succ k a=>
  rw [It];simp only;have b:=H0 ht (l:=l) (h.lt k);split
  ·have:=pj (n:=16) a b;omega
  ·exact a
structure Cr where
 F:List PS
 nx:List (List Int)
 un:List Bool
abbrev Lq(r:List Int):List C:=r.map λx=>.d (iD x)
def KG(F:List PS):List (List Int×Int):=F.zipIdx.map λx=>(Gf x.1,(x.2:Int))
abbrev NR(t:BE)(a b c d:C):List C:=[.d (iD t.s.al),.d (iD t.s.st),.d (Gm t.s.es),.d (iD t.q.al),.d (CI t.q.nx),.d (Fv t.q.ac),.d (iD t.al),.ip (FF t.s.es),.d (.l (Fi t.q)),.d (Da (CM t)),a,b,c,d]
abbrev Kk(t:BE)(m:Cr):Ab:=[(0,.cells 131 14 [NR t (.arr 1 12 0 m.F.length) (.mp 2) (.arr 3 6 0 m.nx.length) (.arr 4 1 0 m.un.length)]),(1,.cells 189 12 (m.F.map Ls)),(2,.mp (mapA .u16 (KG m.F))),(3,.cells 109 6 (m.nx.map Lq)),(4,.cells 4 1 (m.un.map AP))]
theorem AB(r:Nat->Nat)(q:IntKind)(l:List Int):C.BK r (l.map λx=>.d (.v (.int q x)))=l.map λx=>.d (.v (.int q x)):=by
 rw [show (l.map λx=>C.d (.v (.int q x)))=(l.map λx=>D.v (.int q x)).map .d by simp,Rt]
theorem NC{P:Program}{Γ:Ctx}{d:Option Tmp}{ty:TypeId}{pos:String}{af:Array Edge}{g:Option (Nat×Bool)}{f:Env}{σ:Ab}{nx:Nat}{t:TypeId}{x:Operand}{id k i j n:Nat}{T:TypeId}{rows:List (List C)}{r:List C}{c:C}[l:DU P t false n](a:ev f x=some (.o (.ptr id k i j)))(e:look σ id=some (.cells T k rows))(b:rows[i]? = some r)(h:r[j]? = some c) :
 AO P TB Γ ⟨d,.load t x,ty,pos,af,g⟩ f σ nx (.o c):=Wz a e b (show gM false n j r=some (.o c) by unfold gM;rw [h];rfl)
theorem Ss{r:List Nat}:∀i,i < 5->(0::1::2::3::4::r)[i]? = some i
 | 0,_|1,_|2,_|3,_|4,_=>rfl
 | n+5,h=>by omega
theorem VN{a b:Nat}(ha:a < 65536)(hb:b < 65536):ZW .u16 (a:Int) (b:Int)=((a ||| b:Nat):Int):=by
 have d:a ||| b < 2 ^ 16:=pj (by omega) (by omega);unfold ZW
 have c:(BitVec.ofInt IntKind.u16.bits (a:Int) ||| BitVec.ofInt IntKind.u16.bits (b:Int)).toNat=a ||| b:=by
  have e:IntKind.u16.bits=16:=rfl;rw [e];simp only [BitVec.toNat_or,BitVec.ofInt_natCast,BitVec.toNat_ofNat];rw [nF (by omega),nF (by omega)]
 rw [c];exact u16_in (by omega)
theorem VV[Fa TB]{t:BE}(ht:AZ t=true)(m:Cr){l:Int}(n:0<=l/\l < 6){F:PS}(A:CE t F):Spec Tryz.prog TB 180 (Kk t m) 5 [.o (.ptr 0 14 0 0),ij F,eI .i64 l] (λx σ nx=>x=ij (VW t l F)/\σ=Kk t m/\nx=5):=by
 have Q:BA t.s=true:=by unfold AZ at ht;simp only [d6] at ht;exact ht.1
 have ha:=CZ ht;have R:=Al ha;rw [<-aQ A (by omega)];refine eR Tryz.func180 rfl (by kernel_rfl) rfl ?_;intro Γ c;(repeat first|refine tA rfl ?_ |refine aU rfl ?_ |refine Aa ?_);refine aB ?_;refine aL (U:={k:Nat // k<=12}) [0,2,6,7,11] [0,1,2,3,4,5] rfl rfl (λs=>[(12,eI .i64 s.1)]) (λs=>[(6,.cells 189 12 [Ls (DB t l F s.1)])]) 7 (λs=>12 - s.1) (⟨0,by omega⟩) c rfl (by (simp[cX,zC,c,AB]<;>rfl)) ?_;rintro⟨k,hk⟩;(try dsimp only[cA,cB]);by_cases I:k < 12
 ·have P:(Gf F)[((k:Nat):Int).toNat]? = some (F k:Int):=by rw [f6];exact Iz I
  have u:=A.lt k;(repeat first|refine s2 rfl λ_ i=>?_ |refine aU rfl ?_ |refine Aa ?_)
  ((refine aC rfl ?_ ?_<;>rintro⟨⟩);all_goals try(exfalso;(simp only[oZ] at *;omega)))
  refine aK ?_;refine aS (aB ?_);(repeat first|refine tA rfl ?_ |refine s2 rfl λ_ i=>?_|(refine Af rfl ?_;refine gA rfl ?_;first| refine gS (λ_ _=>JQ (l:=Gf F) rfl rfl rfl (by omega) P) ?_) |refine aU rfl ?_ |refine Aa ?_);(refine aC rfl ?_ ?_<;>rintro⟨⟩)
  ·have N:F k=0:=by (simp only[oZ] at *;omega)
   refine aE ?_;(repeat first|(refine sA rfl ?_ ?_;first|exact tI|omega) |refine aU rfl ?_ |refine Aa ?_);refine⟨⟨k+1,by omega⟩,by dsimp only;(omega),[0,1,2,3,4,5,6],?_⟩;simp[cX,zC,c,AB,Pz N];exact Ss
  ·have H:k < t.q.nx.length:=by
    rcases nh k t.q.nx.length with K|K
    ·exact K
    ·have:=A.z k K;(simp only[oZ] at *;omega)
   have ta:=Hr (a:=t.q) (q:=((k:Nat):Int).toNat) (by omega);have ra:=FM (h:=λl=>AW t.q k l) n.1 n.2
   have el:((l.toNat:Nat):Int)=l:=by omega
   simp only [el] at ra;have J:=DG ha H n.1 n.2;have w:=fp (TB:=TB) Q n u;have y:=H0 ht (l:=l) u;have G:=VX ht (l:=l) A k
   obtain⟨g,M⟩:∃g:Nat,AW t.q k l=g:=⟨(AW t.q k l).toNat,by omega⟩
   rw [M] at ra J;refine aK ?_;(repeat first|(refine sA rfl ?_ ?_;first|exact tI|omega) |(refine sC rfl (MV _ _) ?_;intro _ i)|(refine Af rfl ?_;refine gA rfl ?_;first| refine gS (λ_ _=>QZ rfl (IntWalk.i64_in _ (by omega))) ?_) |refine aU rfl ?_ |refine Aa ?_)
   have ej:0+((g:Nat):Int).toNat*1=g:=by omega
   have L:(Ls (DB t l F k))[0+((g:Nat):Int).toNat*1]? = some (.d (.v (.int .u16 (DB t l F k g:Int)))):=by rw [ej];exact Mf (by omega)
   have f:=VN (G g) y
   have B:DB t l F (k+1)=λp':Nat=>if p'=g then DB t l F k g ||| Dd t.s l (F k) else DB t l F k p':=by
    rw [It,M];funext p';by_cases e:p'=g
    ·subst e;simp
    ·rw [if_neg e,if_neg (by omega)]
   have b:=Ww (F:=DB t l F k) (p:=g) (by omega) (v:=DB t l F k g ||| Dd t.s l (F k));rw [<-B] at b;(refine aC rfl ?_ ?_<;>rintro⟨⟩)
   ·have hb:Ep t.s.al l.toNat=true:=by simpa [hasB,n.1] using i
    have j:Dd t.s l (F k)=BL t.s.es l (F k):=by unfold Dd;rw [if_pos hb]
    rw [<-j] at w;(repeat first|(refine sA rfl ?_ ?_;first|exact tI|omega) |(refine s4 rfl ‹_› rfl ?_ ?_;omega) |refine sP rfl (w) rfl ?_ |refine aU rfl ?_ |refine Aa ?_);(repeat first|(refine sA rfl ?_ ?_;first|exact tI|omega)|(refine Af rfl ?_;refine gA rfl ?_;first| refine gS (λ_ _=>Dp rfl ra) ?_|refine gQ (NC rfl rfl rfl L) rfl ?_|refine gS (λ_ _=>QZ rfl (u16_in y)) ?_|refine gS (λ_ _=>ix rfl rfl f) ?_));(refine Af rfl ?_;refine EO ?_ rfl (by rfl);refine Eb (r:=Ls (DB t l F k)) rfl rfl rfl rfl rfl rfl (by show 0+((g:Nat):Int).toNat*1+1<=12;omega) ?_);refine Aa ?_;(repeat first|(refine sA rfl ?_ ?_;first|exact tI|omega) |refine aU rfl ?_ |refine Aa ?_);refine⟨⟨k+1,by omega⟩,by dsimp only;(omega),[0,1,2,3,4,5,6],?_⟩;simp[cX,zC,c,AB,f];exact⟨Ss,by simpa [Ae] using b⟩
   ·have hb:Ep t.s.al l.toNat=false:=by simpa [hasB,n.1] using i
    have j:Dd t.s l (F k)=F k:=by unfold Dd;rw [if_neg (by simp [hb])]
    rw [j] at f b;refine aK ?_;(repeat first|(refine sA rfl ?_ ?_;first|exact tI|omega) |(refine s4 rfl ‹_› rfl ?_ ?_;omega)|(refine Af rfl ?_;refine gA rfl ?_;first| refine gS (λ_ _=>Dp rfl ra) ?_|refine gQ (NC rfl rfl rfl L) rfl ?_|refine gS (λ_ _=>QZ rfl (u16_in u)) ?_|refine gS (λ_ _=>ix rfl rfl f) ?_) |refine aU rfl ?_);(refine Af rfl ?_;refine EO ?_ rfl (by rfl);refine Eb (r:=Ls (DB t l F k)) rfl rfl rfl rfl rfl rfl (by show 0+((g:Nat):Int).toNat*1+1<=12;omega) ?_);refine Aa ?_;(repeat first|(refine sA rfl ?_ ?_;first|exact tI|omega) |refine aU rfl ?_ |refine Aa ?_);refine⟨⟨k+1,by omega⟩,by dsimp only;(omega),[0,1,2,3,4,5,6],?_⟩;simp[cX,zC,c,AB,f];exact⟨Ss,by simpa [Ae] using b⟩
 ·obtain rfl:k=12:=by omega
  (repeat first|refine s2 rfl λ_ i=>?_ |refine aU rfl ?_ |refine Aa ?_)
  ((refine aC rfl ?_ ?_<;>rintro⟨⟩);all_goals try(exfalso;(simp only[oZ] at *;omega)))
  refine aE ?_;(repeat first|refine tA rfl ?_ |refine aU rfl ?_ |refine Aa ?_);refine aR ⟨_,rfl,[0,1,2,3,4],ij (DB t l F 12),Kk t m,⟨Ss,by decide⟩,rfl,by (simp[cX,zC,c,AB]),rfl,rfl,rfl⟩
end Go.Am
namespace Go.Am
set_option linter.unusedVariables false
theorem Bd{U:Type}{l:List U}{k:Nat}{x d:U}(h:l[k]? = some x):l.getD k d=x:=by rw [lw,h];rfl
def fA(a:AK)(q l:Int):Int:=AW a q.toNat l
def ED(a:AK)(q:Int):Bool:=a.ac.getD q.toNat false
def GS(a:AK):AK:=match FV a.nx.length (fA a) (Ac a.al) 0 with
 | some p=>⟨a.al,p.2,p.1.map (ED a)⟩
 | none=>⟨a.al,[],[]⟩
theorem BI{a:AK}(h:Hz a){q:Nat}(f:q < a.nx.length){l:Int}(j:0<=l)(i:l < 6):0<=AW a q l/\AW a q l < a.nx.length:=by
 obtain⟨row,e,g,d⟩:=h.2 q f;unfold AW;split
 ·rename_i hb
  have b:(Ay a.al l.toNat).length < row.length:=by rw [g];exact He (by omega) hb
  obtain⟨y,c⟩:=get_some b;have:=d _ y c
  simpa [List.getD,e,c] using this
 ·omega
theorem PM{a:AK}:∀(w:List Int) (q:Int),(∀l∈w,l∈Ac a.al)->Rw (fA a) q w=AN a q (Ei w)
 | [],q,_=>rfl
 | l::w,q,h=>by
  have c:=Ai (h l (by simp));have e:AN a q (Ei (l::w))=AN a (AW a q.toNat (((lb l).toNat:Int) - 97)) (Ei w):=rfl;rw [e,Es c.1 (by omega)];exact PM w _ λm b=>h m (by simp [b])
theorem KC{s l:Int}(h:l∈Ac s):(Ac s)[(Ay s l.toNat).length]? = some l:=by
 obtain⟨k,hk⟩:=n7.1 h;rw [EA hk];exact hk
theorem OP{a:AK}(h:Hz a)(n:1<=a.nx.length):∃nd rows,FV a.nx.length (fA a) (Ac a.al) 0=some (nd,rows)/\LF (fA a) (Ac a.al) 0 nd rows/\nd.length<=a.nx.length/\(∀q∈nd,0<=q/\q < a.nx.length)/\GS a=⟨a.al,rows,nd.map (ED a)⟩:=by
 have d:∀q l:Int,0<=q/\q < ((a.nx.length:Nat):Int)->l∈Ac a.al->0<=fA a q l/\fA a q l < ((a.nx.length:Nat):Int):=λq l b c=>by
  have c:=Ai c;exact BI h (q:=q.toNat) (by omega) c.1 (by omega)
 obtain⟨⟨nd,rows⟩,hp⟩:=Yt (lim:=a.nx.length) (f:=fA a) (ls:=Ac a.al) (s:=0) d (by omega);obtain⟨e,k,_⟩:=Hh n hp;refine⟨nd,rows,hp,e,k,λq b=>?_,by unfold GS;rw [hp]⟩;obtain⟨w,j,rfl⟩:=e.rc q b
 have key:∀(w:List Int) (q:Int),(∀l∈w,l∈Ac a.al)->0<=q/\q < ((a.nx.length:Nat):Int)->0<=Rw (fA a) q w/\Rw (fA a) q w < ((a.nx.length:Nat):Int):=λw=>by
  induction w with
  | nil=>exact λq _ b=>b
  | cons l w g=>exact λq hw b=>g _ (λm i=>hw m (by simp [i])) (d q l b (hw l (by simp)))
 exact key w 0 j (by omega)
theorem QN{a:AK}{nd:List Int}{rows:List (List Int)}(h:LF (fA a) (Ac a.al) 0 nd rows){ac:List Bool}{i:Nat}{q l:Int}(hi:nd[i]? = some q)(b:l∈Ac a.al):AW ⟨a.al,rows,ac⟩ i l=((nd.idxOf (AW a q.toNat l):Nat):Int):=by
 have c:=h.row i q hi;have hb:=Ai b;unfold AW;rw [if_pos hb.2.2]
 show (rows.getD i []).getD _ 0=_
 rw [lw,lw,c,nW,d9,KC b,nv,nW];rfl
theorem Qq{nd:List Int}{x:Int}(h:x∈nd):nd[nd.idxOf x]? = some x:=by
 rw [d5 (mZ.2 h),n8]
theorem Ix{a:AK}{nd:List Int}{rows:List (List Int)}(h:LF (fA a) (Ac a.al) 0 nd rows){ac:List Bool}:∀(w:W) {i:Nat} {q:Int},Av (AU a.al) w->nd[i]? = some q->∃j:Nat,AN ⟨a.al,rows,ac⟩ i w=j/\nd[j]? = some (AN a q w)
 | [],i,q,_,hi=>⟨i,rfl,hi⟩
 | c :: w,i,q,hw,hi=>by
  obtain⟨l,b,rfl⟩:=em.1 (hw c (by simp));have hb:=Ai b;have e:=QN h (ac:=ac) hi b;have f:=h.cl q (ce hi) l b;obtain⟨j,m,k⟩:=Ix h (ac:=ac) w (λd g=>hw d (by simp [g])) (Qq f);refine⟨j,?_,?_⟩
  ·show AN _ (AW _ ((i:Int).toNat) (((lb l).toNat:Int) - 97)) w=_
   rw [Es hb.1 (by omega),f6,e];exact m
  ·show nd[j]? = some (AN a (AW a q.toNat (((lb l).toNat:Int) - 97)) w)
   rw [Es hb.1 (by omega)];exact k
theorem fG{a:AK}(h:Hz a)(f:1<=a.nx.length){w:W}(hw:Av (AU a.al) w):LA (GS a) w=LA a w:=by
 obtain⟨nd,rows,_,c,_,_,e⟩:=OP h f;obtain⟨j,b,d⟩:=Ix c (ac:=nd.map (ED a)) w hw c.st;rw [e];unfold LA;have b:AN ⟨a.al,rows,nd.map (ED a)⟩ 0 w=(j:Int):=b;rw [b]
 show (nd.map (ED a)).getD ((j:Int).toNat) false=_
 rw [f6,lw,d9,d];rfl
theorem Oe(a:AK):(GS a).al=a.al:=by
 unfold GS;split<;>rfl
theorem lg{a:AK}(h:Hz a)(s:1<=a.nx.length):Hz (GS a)/\1<=(GS a).nx.length/\(GS a).nx.length<=a.nx.length/\(GS a).ac.length=(GS a).nx.length/\∀i,i < (GS a).nx.length->∃w,Av (AU a.al) w/\AN (GS a) 0 w=(i:Nat):=by
 obtain⟨nd,rows,_,c,A,z,e⟩:=OP h s;have u:=c.len;have o:=(am.1 c.st).1;have t:=h.1;rw [e];refine⟨⟨?_,λq g=>?_⟩,?_,?_,?_,λi hi=>?_⟩
 ·show rows.length<=64;omega
 ·have g:q < rows.length:=g
  obtain⟨x,d⟩:=get_some (l:=nd) (k:=q) (by omega);refine⟨_,c.row q x d,by simp,λk y b=>?_⟩;rw [d9] at b
  cases hk:(Ac a.al)[k]? with
  | none=>rw [hk] at b;cases b
  | some l=>
   rw [hk] at b
   injection b with b
   have b:((nd.idxOf (fA a x l):Nat):Int)=y:=b;have p:=c.cl x (ce d) l (ce hk);have:=mZ.2 p
   show 0<=y/\y < ((rows.length:Nat):Int)
   omega
 ·show 1<=rows.length;omega
 ·show rows.length<=_;omega
 ·show (nd.map (ED a)).length=rows.length;rw [f7];omega
 ·have hi:i < rows.length:=hi
  obtain⟨x,d⟩:=get_some (l:=nd) (k:=i) (by omega);obtain⟨w,f,n⟩:=c.rc x (ce d);rw [PM w 0 f] at n;obtain⟨j,r,m⟩:=Ix c (ac:=nd.map (ED a)) (Ei w) (Vk f) c.st;rw [n,<-d] at m;refine⟨Ei w,Vk f,r.trans ?_⟩;have v:=(ox (by omega) c.nodup).1 (m.symm);omega
theorem cI{n:Int}{row:List Int}{k:Nat}(b:row.length=k)(h:∀(i:Nat) y,row[i]? = some y->0<=y/\y < n):En k n row=true:=by
 unfold En;rw [d6,gt];refine⟨by simp [b],λx a=>?_⟩;obtain⟨i,hi⟩:=n7.1 a;have:=h i x hi;unfold OM;exact decide_eq_true this
theorem dy{a:AK}(h:Hz a)(j:1<=a.nx.length)(i:a.nx.length<=12)(hal:Bv a.al=true)(e:a.ac.length=a.nx.length):AI a=true:=by
 unfold AI;rw [hal,decide_eq_true (⟨j,i⟩:1<=a.nx.length/\a.nx.length<=12),decide_eq_true e];simp only [pC];rw [gt];intro row d;obtain⟨q,c⟩:=n7.1 d;obtain⟨row',b,g,f⟩:=h.2 q (am.1 c).1
 rw [c] at b;injection b with b;subst b
 exact cI g f
end Go.Am
namespace Go.Am
open Go Go.Proofs
set_option maxHeartbeats 1000000
set_option maxRecDepth 4000
attribute [local irreducible] AO BS Lex A4 Au Spec
variable {TB:Bi}
structure mE (P:Program) (TB:Bi) (gA gQ:FuncId) (t:TK) (al:Int) (A:W->Bool):Prop where
 alph:Pure P TB gA [Xq t] (eI .i64 al)
 ask:∀w:W,w.length<=1099511627776->Pure P TB gQ [Xq t,eT w] (eB (A w))
structure kR (t:Bh):Prop where
 rl:t.rows.length<=4194304
 cl:t.cols.length<=4194304
 rb:∀w∈t.rows,w.length<=4194304
 cb:∀w∈t.cols,w.length<=4194304
def rowAt(al:Int)(l:List W)(i:Nat):Bool:=match l[i]? with
 | none=>true
 | some w=>!decide (w.length=0) && (within w al && decide (w.dropLast∈l.take i))
def Lf(al:Int)(l:List W)(i:Nat):Bool:=match l[i]? with
 | none=>true
 | some w=>decide (w.length<=4000) && (within w al && !decide (w∈l.take i))
def EG(f:Nat->Bool)(n:Nat):Bool:=(List.range n).all λi=>decide (i=0) || f i
theorem MS{f:Nat->Bool}{k:Nat}(h:EG f k=true)(a:f k=true):EG f (k+1)=true:=by
 unfold EG at *;rw [oJ,List.all_append,h];simp [a]
theorem Kx{f:Nat->Bool}{k n:Nat}(b:0 < k)(h:k < n)(a:f k=false):EG f n=false:=by
 unfold EG;rw [qA];exact⟨k,jp.2 h,by simp [a];omega⟩
def KV(al:Int)(t:Bh):Bool:=decide (0<=al) && (decide (1<=t.rows.length/\t.rows.length<=12) && (decide (1<=t.cols.length/\t.cols.length<=20) && (decide (t.rows[0]? = some []) && decide (t.cols[0]? = some []))))
def Ho(al:Int)(t:Bh):Bool:=KV al t && (EG (rowAt al t.rows) t.rows.length && EG (Lf al t.cols) t.cols.length)
def av(al:Int)(w:W):Bool:=within w al && decide (w.length<=4000)
def C6(A:W->Bool)(al:Int)(t:Bh):Bool:=Ho al t && decide (AQ A t).Nodup
theorem dY{l:List W}{k:Nat}{x:W}(c:l[k]? = some x)(h:(l.take k).Nodup)(d:x∉l.take k):(l.take (k+1)).Nodup:=by
 rw [gc,c,nR];refine⟨h,by simp,λa ha b hb e=>?_⟩;simp at hb;subst hb;exact d (e ▸ ha)
def FX(A:W->Bool)(al:Int)(t:Bh):Bool:=C6 A al t && (Bw A (AU al) t).isNone
end Go.Am
