/-
  The reference: the column that a wrong word shows.
-/
import Derived.Test.YtdipaikojjjebaaGreatDoorPart28
import Derived.Test.YtdipaikojjjebaaGreatDoorPart20
import Derived.Test.YtdipaikojjjebaaGreatDoorPart29
set_option linter.all false
namespace Go.Am
open Go Go.Proofs
set_option maxHeartbeats 1000000
set_option maxRecDepth 4000
attribute [local irreducible] A6 CC Lex Bz Ak Spec
variable {TB:BJ}
def FH(A:W->Bool)(al:Int)(t:A0)(w:W):Option W:=if BA A al t && Gs al w then CD A t w else none
theorem PL{al:Int}{w:W}(h:Gs al w=true):AP (A7 al) w/\w.length<=4000/\within w al=true:=by
 unfold Gs at h;rw[d4,decide_eq_true_eq]at h;exact⟨EN h.1,h.2,h.1⟩
theorem cm{A:W->Bool}{al:Int}{t:A0}{w:W}(ha:Bb al=true)(a:BV A (A7 al) t)(c:t.rows.length<=12)(b:Gs al w=true):QS (A1 A al t) w=Na A t w:=by
 obtain⟨e,f,d⟩:=PL b;unfold QS;rw[LK ha a c,Lx a e]
 show (true && (within w al && _))=_
 rw[d];rfl
theorem VW{A:W->Bool}{t:A0}{w:W}{k q:Nat}{c:UInt8}{R:Option W}(d:w[k]?=some c)(a:R=splitAt A t (A w) q (w.drop k)) :
 (A (t.rows.getD (Df A t (t.rows.getD q []++[c])) []++w.drop (k+1))≠A w->R=some (w.drop (k+1)))/\(A (t.rows.getD (Df A t (t.rows.getD q []++[c])) []++w.drop (k+1))=A w->R=splitAt A t (A w) (Df A t (t.rows.getD q []++[c])) (w.drop (k+1))):=by
 have:=MC (L:=A) (t:=t) (b:=A w) (q:=q) d;rw[this]at a;exact⟨λh=>by rw[a,if_pos h],λh=>by rw[a,if_neg (by simpa using h)]⟩
theorem RC{t:EP}{al:Int}{A:W->Bool}(G:KJ Tryz.prog TB 140 186 t al A)(hal:0<=al->Bb al=true)(tab:A0)(P:WI tab)(w:W)(hw:w.length<=1048576) :
 Pure Tryz.prog TB 149 [EW t,Er tab,eT w] (ah (FH A al tab w)):=by
 have n:=Hz G tab P;have q:=PM G w (by omega);have h4:=G.ask w (by omega);by_cases r:BA A al tab=true
 ·rw [if_pos r]at n
  obtain⟨Q,ho,f⟩:=JQ r;have d:=(Ey Q).1;have ha:=hal d.pos;have hau:=LK ha f d.rl;have I:=Pj (TB:=TB) (A1 A al tab) w (by omega);by_cases i:Gs al w=true
  ·rw [i]at q
   rw[cm ha f d.rl i]at I
   have u:FH A al tab w=CD A tab w:=by unfold FH;rw[r,i];rfl
   rw[u];by_cases J:Na A tab w=A w
   ·have y:CD A tab w=none:=by unfold CD;rw[if_pos J]
    rw[y];rw[J]at I;refine eG Tryz.func149 rfl (by kernel_rfl) rfl ?_;intro Γ b;(repeat' first|refine tA rfl ?_|(refine s2 rfl λ_ a=>?_;try (simp only[pT,p7]at a;subst a))|refine sP rfl (n) rfl ?_|refine sP rfl (q) rfl ?_|refine sP rfl (I) rfl ?_|refine sP rfl (h4) rfl ?_|refine aU rfl ?_|apply Aa|refine rE (by kernel_rfl) ?_|(refine aC rfl ?_ ?_<;>rintro⟨⟩)|apply aK|apply aE|apply aB|refine aR ⟨_,rfl,?_⟩)
    all_goals first
     | rfl
     | (exfalso;grind;done)
   ·obtain⟨R,M⟩:∃R,R=CD A tab w:=⟨_,rfl⟩
    rw[<-M]
    have M:R=splitAt A tab (A w) 0 (w.drop 0):=by rw[M];unfold CD;rw[if_neg J];rfl
    obtain⟨m,hw4,_⟩:=PL i;have hrl:=d.rl;have T:=d.r1;refine eG Tryz.func149 rfl (by kernel_rfl) rfl ?_;intro Γ b;(repeat first|refine tA rfl ?_|refine sP rfl (n) rfl ?_|refine sP rfl (q) rfl ?_|refine sP rfl (I) rfl ?_|refine sP rfl (h4) rfl ?_|refine aU rfl ?_|apply Aa);refine rG (Hm []) (by kernel_rfl) ?_;(repeat first|refine tA rfl ?_|(refine s2 rfl λ_ a=>?_;try (simp only[pT,p7]at a;subst a))|refine sP rfl (n) rfl ?_|refine sP rfl (q) rfl ?_|refine sP rfl (I) rfl ?_|refine sP rfl (h4) rfl ?_|apply Aa);refine Ak.cond rfl (λhb=>?_) (λhb=>?_)<;>cases hb
    ·exfalso;exact J (by simpa using a)
    apply aK;(repeat first|refine tA rfl ?_|refine aU rfl ?_|apply Aa);have h0:0<tab.rows.length:=T;apply aB;refine aL (α:={k:Nat // k<=w.length/\R=splitAt A tab (A w) (runM A tab 0 (w.take k)) (w.drop k)/\A (tab.rows.getD (runM A tab 0 (w.take k)) []++w.drop k)=A w}) [2,3,4,8] [0] rfl rfl (λ⟨k,hk,p,H⟩=>[(10,eI .i64 (runM A tab 0 (w.take k):Nat)),(11,eI .i64 k)]) (λ⟨k,hk,p,H⟩=>[]) 1 (λ⟨k,hk,p,H⟩=>w.length-k) (⟨0,by omega,M,by simp[d.r0,runM]⟩) b rfl (by (simp[cX,zC,b]<;>rfl)) ?_;rintro⟨k,hk,p,H⟩;(try dsimp only[cA,cB]);have x:=f.run (w.take k) 0 (J0 m k) h0;by_cases X:k<w.length
    ·obtain⟨c,K⟩:=get_some X
     have Z:w[((k:Nat):Int).toNat]?=some c:=by simpa using K
     have F:=m c (co K);have B:=IF F;have Y:=IC (TB:=TB) w k c Z
     have hnl:(A1 A al tab).nx.length=tab.rows.length:=by simp[A1]
     have z:=JV (TB:=TB) (A1 A al tab) hau (runM A tab 0 (w.take k)) (by omega) ((c.toNat:Int)-97) B.1 B.2;have s:=NH (L:=A) (t:=tab) K 0;have v:=f.run (w.take (k+1)) 0 (J0 m (k+1)) h0;rw[LY (L:=A) (al:=al) (t:=tab) x F,<-s]at z;have e:=VW K p;rw[<-s]at e;obtain⟨N,l⟩:=get_some x;have hx1':=get_map (g:=CX) l;obtain⟨o,j⟩:=get_some v;have hx2':=get_map (g:=CX) j
     have e1:tab.rows.getD (runM A tab 0 (w.take k)) []=N:=by simp[l]
     have e2:tab.rows.getD (runM A tab 0 (w.take (k+1))) []=o:=by simp[j]
     have hr1b:=P.rb N (co l);have hr2b:=P.rb o (co j);rw[e1]at H;rw[e2]at e
     have V:Pure Tryz.prog TB 186 [EW t,eT (N++w.drop ((k:Nat):Int).toNat)] (eB (A w)):=by
      rw[i7,<-H];exact G.ask _ (by simp;omega)
     have ek:(((k:Nat):Int)+1).toNat=k+1:=by omega
     have U:Pure Tryz.prog TB 186 [EW t,eT (o++w.drop (((k:Nat):Int)+1).toNat)] (eB (A (o++w.drop (k+1)))):=by
      rw[ek];exact G.ask _ (by simp;omega)
     have hd1:(w.drop ((k:Nat):Int).toNat).length<=1048576:=by simp;omega
     have hd2:(w.drop (((k:Nat):Int)+1).toNat).length<=1048576:=by simp;omega
     (repeat first|refine tA rfl ?_|refine s2 rfl λ_ a=>?_|refine aU rfl ?_|apply Aa);refine Ak.cond rfl (λhb=>?_) (λhb=>?_)<;>cases hb
     rotate_left
     ·exfalso;(simp only[oZ] at *;omega)
     (repeat' first|(refine sA rfl ?_ ?_;first|exact tI|omega)|(refine s4 rfl ‹_› rfl ?_ ?_;omega)|refine s2 rfl λ_ a=>?_|refine sP rfl (Y) rfl ?_|refine sP rfl (z) rfl ?_|refine sP rfl (V) rfl ?_|refine sP rfl (U) rfl ?_|(refine Ag rfl ?_;refine gA rfl ?_;first|refine gS (λ_ _=>EC rfl rfl (by omega) (by omega)) ?_)|refine aU rfl ?_|apply Aa|refine rE (by kernel_rfl) ?_|(refine aC rfl ?_ ?_<;>rintro⟨⟩)|apply aK|apply aE|apply aB|refine aR ⟨_,rfl,?_⟩)
     ·have y:=e.1 (by intro h;rw[h]at a;simp at a)
      rw[y]
      show E.t _=E.t _
      rw[ek]
     ·have S:=e.2 (by simpa using (by simpa using a:A w=A (o++w.drop (k+1))).symm)
      have hA2:A (tab.rows.getD (runM A tab 0 (w.take (k+1))) []++w.drop (k+1))=A w:=by rw[e2];exact(by simpa using a:A w=A (o++w.drop (k+1))).symm
      refine⟨⟨k+1,by omega,S,hA2⟩,by dsimp only;(omega),[0],?_⟩;simp[cX,zC,b]
    ·obtain rfl:k=w.length:=by omega
     rw[q9]at p;have y:R=none:=p;rw[y];(repeat first|refine tA rfl ?_|refine s2 rfl λ_ a=>?_|refine aU rfl ?_|apply Aa);refine Ak.cond rfl (λhb=>?_) (λhb=>?_)<;>cases hb
     ·exfalso;(simp only[oZ] at *;omega)
     (repeat' first|refine tA rfl ?_|refine aU rfl ?_|apply Aa|(refine aC rfl ?_ ?_<;>rintro⟨⟩)|apply aK|apply aE|apply aB|refine aR ⟨_,rfl,?_⟩);rfl
  ·have i:Gs al w=false:=by simpa using i
   rw[i]at q
   have u:FH A al tab w=none:=by unfold FH;rw[i];simp
   rw[u];refine eG Tryz.func149 rfl (by kernel_rfl) rfl ?_;intro Γ b;(repeat' first|refine tA rfl ?_|(refine s2 rfl λ_ a=>?_;try (simp only[pT,p7]at a;subst a))|refine sP rfl (n) rfl ?_|refine sP rfl (q) rfl ?_|refine aU rfl ?_|apply Aa|refine rE (by kernel_rfl) ?_|(refine aC rfl ?_ ?_<;>rintro⟨⟩)|apply aK|apply aE|apply aB|refine aR ⟨_,rfl,?_⟩)
   all_goals first
    | rfl
    | (exfalso;grind;done)
 ·have u:FH A al tab w=none:=by unfold FH;simp[r]
  rw[if_neg r]at n;rw[u];refine eG Tryz.func149 rfl (by kernel_rfl) rfl ?_;intro Γ b;(repeat' first|refine tA rfl ?_|(refine s2 rfl λ_ a=>?_;try (simp only[pT,p7]at a;subst a))|refine sP rfl (n) rfl ?_|refine aU rfl ?_|apply Aa|refine rE (by kernel_rfl) ?_|(refine aC rfl ?_ ?_<;>rintro⟨⟩)|apply aK|apply aE|apply aB|refine aR ⟨_,rfl,?_⟩)
  all_goals first
   | rfl
   | (exfalso;grind;done)
def Iw(A:W->Bool)(al:Int)(t:A0):Option A0:=if A4 A al t then Bp A (A7 al) 13 t else none
def ME(A:W->Bool)(al:Int)(t:A0)(w:W):Option A0:=(FH A al t w).bind λv=>(Pk A al t v).bind λu=>Iw A al u
theorem XY{A:W->Bool}{al:Int}{t:A0}{w v:W}(h:FH A al t w=some v):v.length<=w.length:=by
 unfold FH at h;split at h
 ·obtain⟨p,_,rfl⟩:=Hh h
  simp
 ·cases h
theorem fI{A:W->Bool}{al:Int}{t u:A0}{w:W}(h:Pk A al t w=some u):WI u:=by
 unfold Pk at h;split at h
 ·rename_i d
  rw[d4]at d;have b:=(Ey d.1).1;have f:=PL d.2;unfold Fx at h;split at h
  ·cases h
  ·injection h with h
   subst h;have c:=b.sz;have e:=b.cl;refine⟨c.rl,by simp;omega,c.rb,λx a=>?_⟩
   rcases f6.1 a with a|a
   ·exact c.cb x a
   ·simp at a;subst a;omega
 ·cases h
theorem Rs{t:EP}{al:Int}{A:W->Bool}(g:KJ Tryz.prog TB 140 186 t al A)(hal:0<=al->Bb al=true)(tab:A0)(h:WI tab)(w:W)(j:w.length<=1048576) :
 Pure Tryz.prog TB 81 [EW t,Er tab,eT w] (IZ (ME A al tab w)):=by
 have e:=RC g hal tab h w j
 rcases b:FH A al tab w with _|v
 ·have d:ME A al tab w=none:=by unfold ME;rw[b];rfl
  rw[d];rw[b]at e;refine eG Tryz.func81 rfl (by kernel_rfl) rfl ?_;intro Γ c;(repeat' first|refine tA rfl ?_|(refine s2 rfl λ_ a=>?_;try (simp only[pT,p7]at a;subst a))|refine sP rfl (e) rfl ?_|(refine Ag rfl ?_;refine gA rfl ?_;first|refine gS (λ_ _=>AG rfl rfl (by rfl) (by rfl)) ?_)|refine aU rfl ?_|apply Aa|(refine aC rfl ?_ ?_<;>rintro⟨⟩)|apply aK|apply aE|apply aB|refine aR ⟨_,rfl,?_⟩)
  all_goals rfl
 ·rw [b]at e
  have l:=XY b;have f:=QT g tab h v (by omega)
  rcases ha:Pk A al tab v with _|u
  ·have d:ME A al tab w=none:=by unfold ME;rw[b];simp[ha]
   rw[d];rw[ha]at f;refine eG Tryz.func81 rfl (by kernel_rfl) rfl ?_;intro Γ c;(repeat' first|refine tA rfl ?_|(refine s2 rfl λ_ a=>?_;try (simp only[pT,p7]at a;subst a))|refine sP rfl (e) rfl ?_|refine sP rfl (f) rfl ?_|(refine Ag rfl ?_;refine gA rfl ?_;first|refine gS (λ_ _=>AG rfl rfl (by rfl) (by rfl)) ?_)|refine aU rfl ?_|apply Aa|(refine aC rfl ?_ ?_<;>rintro⟨⟩)|apply aK|apply aE|apply aB|refine aR ⟨_,rfl,?_⟩)
   all_goals rfl
  ·have d:ME A al tab w=Iw A al u:=by unfold ME;rw[b];simp[ha]
   rw[d];rw[ha]at f;have i:Pure Tryz.prog TB 138 [EW t,Er u] (IZ (Iw A al u)):=Jl g u (fI ha)
   rcases k:Iw A al u with _|x<;>rw[k]at i<;>(
    refine eG Tryz.func81 rfl (by kernel_rfl) rfl ?_;intro Γ c;(repeat' first|refine tA rfl ?_|(refine s2 rfl λ_ a=>?_;try (simp only[pT,p7]at a;subst a))|refine sP rfl (e) rfl ?_|refine sP rfl (f) rfl ?_|refine sP rfl (i) rfl ?_|(refine Ag rfl ?_;refine gA rfl ?_;first|refine gS (λ_ _=>AG rfl rfl (by rfl) (by rfl)) ?_)|refine aU rfl ?_|apply Aa|(refine aC rfl ?_ ?_<;>rintro⟨⟩)|apply aK|apply aE|apply aB|refine aR ⟨_,rfl,?_⟩)
    all_goals rfl)
theorem ab(l:List Int)(h:l.length<=1048576):Spec Tryz.prog TB 84 [] 0 [Al l] (λx σ nx=>x=.o (.arr 0 1 0 l.length)/\nx=1/\σ=[(0,.cells 3 1 (l.map AD))]):=by
 refine eN Tryz.func84 rfl (by kernel_rfl) rfl ?_;intro Γ a;(repeat first|refine aU rfl ?_);(refine Ag rfl ?_;refine CM (λ_ _=>CQ rfl) rfl ?_);(repeat first|refine tM rfl ?_|refine aU rfl ?_|apply Aa);(refine pW rfl ?_ rfl (by rfl);refine Mm rfl ?_;intro d b);(repeat first|apply Aa);(refine aC rfl ?_ ?_<;>rintro⟨⟩)
 ·obtain rfl:l=[]:=by simpa using b rfl
  (repeat first|refine aU rfl ?_);(refine pW rfl ?_ rfl (by rfl);refine Hv 1 3 ?_);(repeat first|apply Aa);refine aR ⟨_,rfl,rfl,rfl,rfl⟩
 ·apply aK
  (repeat first|refine aU rfl ?_);(refine pW rfl ?_ rfl (by rfl);refine Bj rfl rfl rfl rfl (by simp) (by rfl) (by rfl) (by rfl) (by rfl) ?_);(repeat first|refine tM rfl ?_);(refine pW rfl ?_ rfl (by rfl);refine Au rfl rfl rfl (by first|(simp;done)|(simp;(omega))) rfl (by intro r c;simp only[pR,d9]at c;obtain⟨_,_,rfl⟩:=c;rfl) (by rfl) (am rfl) (by simp;omega) ?_);(repeat first|refine tM rfl ?_|apply Aa);refine Ak.names [1] [(2,.o (.arr 0 1 0 l.length))] [(0,.cells 3 1 (l.map AD))] (by intro i hi;rw[a]at hi;omega) (by simp) (by simp[cX,zC,a]) (by simp[cX,zC,a]) ?_;refine aR ⟨_,rfl,rfl,rfl,rfl⟩
theorem Z0(l:List Bool)(h:l.length<=1048576):Spec Tryz.prog TB 83 [] 0 [Py l] (λx σ nx=>x=.o (.arr 0 1 0 l.length)/\nx=1/\σ=[(0,.cells 4 1 (l.map AU))]):=by
 refine eN Tryz.func83 rfl (by kernel_rfl) rfl ?_;intro Γ a;(repeat first|refine aU rfl ?_);(refine Ag rfl ?_;refine CM (λ_ _=>CQ rfl) rfl ?_);(repeat first|refine tM rfl ?_|refine aU rfl ?_|apply Aa);(refine pW rfl ?_ rfl (by rfl);refine Mm rfl ?_;intro d b);(repeat first|apply Aa);(refine aC rfl ?_ ?_<;>rintro⟨⟩)
 ·obtain rfl:l=[]:=by simpa using b rfl
  (repeat first|refine aU rfl ?_);(refine pW rfl ?_ rfl (by rfl);refine Hv 1 4 ?_);(repeat first|apply Aa);refine aR ⟨_,rfl,rfl,rfl,rfl⟩
 ·apply aK
  (repeat first|refine aU rfl ?_);(refine pW rfl ?_ rfl (by rfl);refine Bj rfl rfl rfl rfl (by simp) (by rfl) (by rfl) (by rfl) (by rfl) ?_);(repeat first|refine tM rfl ?_);(refine pW rfl ?_ rfl (by rfl);refine Au rfl rfl rfl (by first|(simp;done)|(simp;(omega))) rfl (by intro r c;simp only[pR,d9]at c;obtain⟨_,_,rfl⟩:=c;rfl) (by rfl) (am rfl) (by simp;omega) ?_);(repeat first|refine tM rfl ?_|apply Aa);refine Ak.names [1] [(2,.o (.arr 0 1 0 l.length))] [(0,.cells 4 1 (l.map AU))] (by intro i hi;rw[a]at hi;omega) (by simp) (by simp[cX,zC,a]) (by simp[cX,zC,a]) ?_;refine aR ⟨_,rfl,rfl,rfl,rfl⟩
theorem Nf(a:AY)(ha:MV 1000000 a):AR Tryz.prog TB 33 0 [] 0 [Bk a] (Lt a):=by
 have y:=ha.nx;have x:=ha.ac;have t:=Z0 (TB:=TB) a.ac (by omega);refine AR.Bi (AR.Sq (m:=0) (am rfl) Tryz.func33 rfl (by kernel_rfl) (am rfl) ?_);intro Γ b;(repeat first|refine tA rfl ?_|refine aU rfl ?_|apply Aa);refine R.Rz [(6,3),(0,2),(1,2),(2,2),(3,2),(4,1),(5,1),(7,5)] mixed (by kernel_rfl) rfl (by kernel_rfl) ?_;(repeat ((refine R.Ag rfl ?_;first|(refine R.yQ (md:=false) rfl rfl rfl ?_ ?_;exact tI)|refine R.yP rfl rfl rfl rfl ?_ )));(refine R.Ag rfl ?_;refine R.Kz (λ_=>?_) rfl rfl;refine Ai [] rfl rfl t ⟨rfl,by simp,by simp⟩ rfl trivial ?_;rintro u f h ⟨rfl,rfl,rfl⟩ _);(refine R.Ag rfl ?_;refine R.Kz (λ_=>?_) rfl rfl;refine Jw 1 1 63 rfl rfl rfl (by rfl) (by rfl) ?_);(repeat ((refine R.Ag rfl ?_;first|refine R.yA rfl rfl rfl rfl ?_ )));refine R.Ru ?_;apply aS;(repeat first|refine sN rfl ?_|refine tA rfl ?_|refine aU rfl ?_|apply Aa);apply aB;refine Ak.fb 3 ?_;refine aL (α:={s:Nat×IY // s.1<=a.nx.length/\s.2.map (·.2)=a.nx.take s.1}) [2,3,13,14] [] rfl rfl (λs=>[(15,eI .i64 s.1.1)]) (λs=>[(0,.cells 29 3 [[.d (iD 0),.d (.l []),.d (.l [])]]),(1,.cells 4 1 (a.ac.map AU)),(2,.cells 63 1 (AA s.1.2)),(3,.cells 29 3 [[.d (iD a.al),.arr 2 1 0 s.1.2.length,.arr 1 1 0 a.ac.length]]),(4,.sld 3 (sI s.1.2))]) 5 (λs=>a.nx.length-s.1.1) (⟨⟨0,[]⟩,by simp⟩) b rfl (by (simp[cX,zC,b,cN,BU,Ae,eC]<;>rfl)) ?_;rintro⟨⟨k,l⟩,hk,e⟩;(try dsimp only[cA,cB]);have hk:k<=a.nx.length:=hk;have e:l.map (·.2)=a.nx.take k:=e
 have c:l.length=k:=by have:=congrArg List.length e;simp at this;omega
 (repeat first|refine s2 rfl λ_ z=>?_|refine aU rfl ?_|apply Aa)
 ((refine aC rfl ?_ ?_<;>rintro⟨⟩);all_goals try(exfalso;omega))
 ·have o:k<a.nx.length:=by (simp only[oZ] at *;omega)
  obtain⟨r,j⟩:=get_some (l:=a.nx) (k:=k) o;have w:=get_map (g:=Fa) j;have n:=ha.row r (co j);have q:=ab (TB:=TB) r (by omega);apply aK;refine aS (aB ?_);(repeat first|refine tA rfl ?_|(refine s4 rfl ‹_› rfl ?_ ?_;omega)|refine aU rfl ?_|apply Aa);refine rG (KC [(1,13),(3,1008),(4,1008),(5,1),(7,1)]) (by kernel_rfl) ?_;(repeat first|refine tX rfl ?_);(refine Ag rfl ?_;refine Di ?_ rfl ⟨rfl,rfl⟩;refine Ai [] rfl rfl (q) ⟨rfl,by decide,by decide⟩ rfl (by simp[cX,zC,b,cN]) ?_;rintro u f h ⟨rfl,rfl,rfl⟩ _;refine⟨Fs 3 rfl rfl,?_⟩);(refine Ag rfl ?_;refine Di ?_ rfl ⟨rfl,rfl⟩;refine Bj rfl rfl rfl rfl (by simp[eC,E.Bi,C.Bi]) (by rfl) (by rfl) (by rfl) (by rfl) ?_;refine⟨Fs 3 rfl rfl,?_⟩);(refine pW rfl ?_ rfl (by rfl);refine Au rfl rfl rfl (CR _) rfl (by intro r n;simp at n;subst n;rfl) (by rfl) (am rfl) (by simp;omega) ?_);(repeat first|refine tA rfl ?_);apply Aa;refine Ak.Ay [2,3,13,14,15] [] rfl rfl [] [(0,.cells 29 3 [[.d (iD 0),.d (.l []),.d (.l [])]]),(1,.cells 4 1 (a.ac.map AU)),(2,.cells 63 1 (AA l++[[.arr 5 1 0 r.length]])),(3,.cells 29 3 [[.d (iD a.al),.arr 2 1 0 (l.length+1),.arr 1 1 0 a.ac.length]]),(4,.sld 3 (sI l)),(5,.cells 3 1 (r.map AD))] [0,1,7,3,4,5] (rl b rfl) (by (simp[cX,zC,b,cN,BU,Ae,eC])) ?_;(try dsimp only[cA,cB]);refine Ak.TQ 2 5 4 l r rfl rfl rfl λv=>?_;(repeat first|(refine sA rfl ?_ ?_;first|exact tI|omega)|refine aU rfl ?_|apply Aa);refine⟨⟨⟨k+1,l++[(v,r)]⟩,by dsimp only;omega,by dsimp only;rw[pO,e,d8,j];rfl⟩,by dsimp only;(omega),[0,1,2,3,4],?_⟩;(simp[cX,zC,b,cN]<;>rfl)
 have p:k=a.nx.length:=by (simp only[oZ] at *;omega)
 apply aE;(repeat first|refine tA rfl ?_|refine aU rfl ?_|apply Aa)
 have c:l.map (·.2)=a.nx:=by rw[e,p,io]
 refine aR ⟨_,rfl,[2,1,4],Xf a.al 0 1 l.length a.ac.length,[(0,.cells 63 1 (AA l)),(1,.cells 4 1 (a.ac.map AU)),(2,.sld 3 (sI l))],⟨by intro i hi;omega,by decide⟩,rfl,by (simp[cX,zC,b,cN]),l,c,rfl,rfl,rfl⟩
theorem Po{a:AY}(ha:AE a=true):MV 1000000 a:=by
 have f:=AJ ha;refine⟨by omega,by omega,λr c=>?_⟩;obtain⟨i,hi,e⟩:=pk c;obtain⟨row,b,h,g⟩:=HO ha hi;rw[d6 hi,e]at b
 injection b with b
 subst b;have d:(Ac a.al).length<=6:=AM a.al 6;omega
structure nT (te:EP):Prop where
 pn:te.p.nx.length<=1048576
 pa:te.p.ac.length<=1048576
 pr:∀r∈te.p.nx,r.length<=1048576
 es:te.s.es.length<=1048576
 qn:te.q.nx.length<=1048576
 qa:te.q.ac.length<=1048576
 qr:∀r∈te.q.nx,r.length<=1048576
end Go.Am
namespace Go.Am
open Go
theorem cg{p:AY}(a:AE p=true):Ui (QS p) (LA p) p.al:=λw b c=>by
 unfold QS;rw[a,Ha b c (AJ a).1];rfl
theorem cn{A L:W->Bool}{al:Int}{b:Nat}{t:A0}(h:Ui A L al)(ht:Hl al b t)(hb:b<=20100)(hk:BV L (A7 al) t){w:W}(a:AP (A7 al) w):Na A t w=Na L t w:=by
 rw[<-Lx (hk.m7 h ht hb) a,<-Lx hk a,Pm h ht hb]
theorem Qu{A L:W->Bool}{al:Int}{b:Nat}{t:A0}(h:Ui A L al)(ht:Hl al b t)(hb:b<=20100)(hk:BV L (A7 al) t){w:W}(a:AP (A7 al) w)(c:w.length<=20000):CD A t w=CD L t w:=by
 have d:0<t.rows.length:=(ce.1 hk.r0).1;unfold CD;rw[cn h ht hb hk a,h w a (by omega),Ot h ht hb hk (L w) w 0 d a c]
section
variable {α:Type}{f:Nat->α}{l:List α}{i:Nat}
end
end Go.Am
namespace Go.Am
open Go Go.Proofs
set_option maxHeartbeats 1000000
set_option maxRecDepth 4000
attribute [local irreducible] A6 CC Lex Bz Ak Spec
section
variable {P:Program}{TB:BJ}{Γ:Ctx}{d:Option Tmp}{ty:TypeId}{pos:String}{af:Array Edge}{g:Option (Nat×Bool)}{f:Env}{σ:Ab}{nx:Nat}
end
variable {TB:BJ}
theorem cf.short{al:Int}{t:A0}(h:cf al t):∀(i:Nat) w,t.rows[i]?=some w->w.length<=i:=by
 intro i
 induction i using Nat.strongRecOn with
 | ind i b=>
  intro w hi
  rcases pL i with rfl|e
  ·have:=h.r0.symm.trans hi
   injection this with this
   subst this;simp
  ·obtain⟨c,j,d,a⟩:=h.pre i w hi e
   have:=b j d _ a;rw[List.length_dropLast]at this;omega
theorem cf.bd{al:Int}{t:A0}(h:cf al t):Hl al 20000 t:=by
 refine⟨λw b=>⟨(h.rw w b).2,?_⟩,λx a=>⟨(h.cw x a).2,by have:=(h.cw x a).1;omega⟩,h.rl,h.cl⟩;obtain⟨i,hi,c⟩:=pk b;have:=h.short i w (by rw[d6 hi,c]);have:=h.rl;omega
end Go.Am
namespace Go.Am
open Go Go.Proofs
set_option maxHeartbeats 1000000
set_option maxRecDepth 4000
attribute [local irreducible] A6 CC Lex Bz Ak Spec
variable {TB:BJ}
theorem DD(L:W->Bool)(al:Int)(t:A0):BA L al t=(A4 L al t && (Bg L (A7 al) t).isNone):=rfl
theorem TE{t:EP}{al:Int}{A:W->Bool}(f:KJ Tryz.prog TB 140 186 t al A):Pure Tryz.prog TB 76 [EW t] (IZ (Iw A al Bx)):=by
 have c:Pure Tryz.prog TB 138 [EW t,Er Bx] (IZ (Iw A al Bx)):=Jl f Bx ⟨by decide,by decide,λw a=>by simp[Bx]at a;subst a;simp,λw a=>by simp[Bx]at a;subst a;simp⟩
 rcases e:Iw A al Bx with _|x<;>rw[e]at c<;>(
  refine eG Tryz.func76 rfl (by kernel_rfl) rfl ?_;intro Γ d;(repeat' first|refine sN rfl ?_|((first|refine sA rfl ?_ ?_|refine s4 rfl ‹_› rfl ?_ ?_);first|exact tI|omega|simp only[oZ] at *;omega)|(refine s2 rfl λ_ b=>?_;try (simp only[pT,p7]at b;subst b))|refine sP rfl (c) rfl ?_|(refine Ag rfl ?_;refine gA rfl ?_;first|refine gS (λ_ _=>AG rfl rfl (by rfl) (by rfl)) ?_)|refine s3 rfl ?_ ?_<;>rintro rfl|refine aU rfl ?_|apply Aa|refine rE (by kernel_rfl) ?_|(refine aC rfl ?_ ?_<;>rintro⟨⟩)|apply aK|apply aE|apply aB|refine aR ⟨_,rfl,?_⟩)
  all_goals rfl)
end Go.Am
