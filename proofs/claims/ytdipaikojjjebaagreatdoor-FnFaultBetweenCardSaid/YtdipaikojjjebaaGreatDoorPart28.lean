/-
  The reference's tables: marks, shapes, the first open word.
-/
import Derived.Test.YtdipaikojjjebaaGreatDoorPart26
set_option linter.all false
namespace Go.Am
open Go Go.Proofs
set_option maxHeartbeats 1000000
set_option maxRecDepth 4000
attribute [local irreducible] A5 Ck Lex Br Aj Spec
variable {TB:BJ}
structure KK (P:Program) (TB:BJ) (gA gQ:FuncId) (t:FF) (al:Int) (A:W->Bool):Prop where
 alph:Pure P TB gA [EO t] (eI .i64 al)
 ask:∀w:W,w.length<=1099511627776->Pure P TB gQ [EO t,eT w] (eB (A w))
structure WU (t:Bl):Prop where
 rl:t.rows.length<=4194304
 cl:t.cols.length<=4194304
 rb:∀w∈t.rows,w.length<=4194304
 cb:∀w∈t.cols,w.length<=4194304
theorem Ju(l:List W)(s:W)(n:l.length<=1099511627776):Pure Tryz.prog TB 203 [Cb l,eT s] (eB (decide (s∈l))):=by
 refine eN Tryz.func203 rfl (by kernel_rfl) rfl ?_;intro U b;(repeat first|refine tA rfl ?_|refine aU rfl ?_|apply Aa);apply aB;refine aL (α:={k:Nat // k<=l.length/\s∉l.take k}) [0,1] [] rfl rfl (λ⟨k,hk,c⟩=>[(5,eI .i64 k)]) (λ⟨k,hk,c⟩=>[]) 0 (λ⟨k,hk,c⟩=>l.length-k) (⟨0,by omega,by simp⟩) b rfl (by (simp[cX,zC,b])) ?_;rintro⟨k,hk,c⟩;(try dsimp only[cA,cB]);by_cases i:k<l.length
 ·obtain⟨x,e⟩:=get_some i
  have j:=get_map (g:=Dv) e;by_cases d:x=s
  ·have m:s∈l:=d▸co e
   (repeat first|refine sN rfl ?_|refine tA rfl ?_|refine s2 rfl λ_ a=>?_|refine aU rfl ?_|apply Aa);(refine aC rfl ?_ ?_<;>rintro⟨⟩)
   ·(repeat' first|(refine sA rfl ?_ ?_;first|exact tI|omega)|(refine s4 rfl ‹_› rfl ?_ ?_;omega)|refine s2 rfl λ_ a=>?_|refine aU rfl ?_|apply Aa|(refine aC rfl ?_ ?_<;>rintro⟨⟩)|apply aK|apply aE|apply aB|refine aR ⟨_,rfl,?_⟩)
    ·simp[m]
    ·exfalso;simp[d]at a
   ·exfalso;(simp only[oZ] at *;omega)
  ·have f:s∉l.take (k+1):=by
    rw[i7,e];intro h
    rcases gc.1 h with h|h
    ·exact c h
    ·simp at h;exact d h.symm
   (repeat first|refine sN rfl ?_|refine tA rfl ?_|refine s2 rfl λ_ a=>?_|refine aU rfl ?_|apply Aa);(refine aC rfl ?_ ?_<;>rintro⟨⟩)
   ·(repeat' first|(refine sA rfl ?_ ?_;first|exact tI|omega)|(refine s4 rfl ‹_› rfl ?_ ?_;omega)|refine s2 rfl λ_ a=>?_|refine aU rfl ?_|apply Aa|(refine aC rfl ?_ ?_<;>rintro⟨⟩)|apply aK|apply aE|apply aB|refine aR ⟨_,rfl,?_⟩)
    ·exfalso;simp[d]at a
    ·refine⟨⟨k+1,by omega,f⟩,by dsimp only;(omega),[],?_⟩
     simp[cX,zC,b]
   ·exfalso;(simp only[oZ] at *;omega)
 ·rw [kw (by omega)]at c
  (repeat first|refine sN rfl ?_|refine tA rfl ?_|refine s2 rfl λ_ a=>?_|refine aU rfl ?_|apply Aa);(refine aC rfl ?_ ?_<;>rintro⟨⟩)
  ·exfalso;(simp only[oZ] at *;omega)
  ·(repeat' first|refine tA rfl ?_|refine aU rfl ?_|apply Aa|(refine aC rfl ?_ ?_<;>rintro⟨⟩)|apply aK|apply aE|apply aB|refine aR ⟨_,rfl,?_⟩)
   simp[c]
theorem XT{A:W->Bool}{cols:List W}{w c:W}{k:Nat}(a:cols[k]?=some c):marks A (cols.take (k+1)) w=marks A (cols.take k) w++[ZA (A (w++c))]:=by
 unfold marks;rw[i7,a];simp
theorem bZ{A:W->Bool}{cols:List W}{w:W}:(marks A cols w).length=cols.length:=by simp[marks]
theorem Ng{t:FF}{al:Int}{A:W->Bool}(l:KK Tryz.prog TB 140 186 t al A)(cols:List W)(w:W)(n:cols.length<=4194304)(m:w.length<=4194305)(hb:∀x∈cols,x.length<=4194304) :
 Pure Tryz.prog TB 143 [EO t,Cb cols,eT w] (eT (marks A cols w)):=by
 refine eN Tryz.func143 rfl (by kernel_rfl) rfl ?_;intro U a;(repeat first|refine tA rfl ?_|refine aU rfl ?_|apply Aa);apply aB;refine aL (α:={k:Nat // k<=cols.length}) [1,2,3] [] rfl rfl (λ⟨k,hk⟩=>[(7,eT (marks A (cols.take k) w)),(8,eI .i64 k)]) (λ⟨k,hk⟩=>[]) 0 (λ⟨k,hk⟩=>cols.length-k) (⟨0,by omega⟩) a rfl (by (simp[cX,zC,a]<;>rfl)) ?_;rintro⟨k,hk⟩;(try dsimp only[cA,cB])
 have j:(marks A (cols.take k) w).length<=4194304:=by rw[bZ,sL];omega
 by_cases e:k<cols.length
 ·obtain⟨x,d⟩:=get_some e
  have h:=get_map (g:=Dv) d;have f:=hb x (co d);have i:=l.ask (w++x) (by simp;omega);have b:=XT (A:=A) (w:=w) d;(repeat first|refine sN rfl ?_|refine tA rfl ?_|refine s2 rfl λ_ c=>?_|refine aU rfl ?_|apply Aa);(refine aC rfl ?_ ?_<;>rintro⟨⟩)
  ·apply aK
   refine aS (aB ?_);(repeat first|(refine sA rfl ?_ ?_;first|exact tI|omega)|(refine s4 rfl ‹_› rfl ?_ ?_;omega)|(refine sC rfl (i) ?_;intro _ c)|refine aU rfl ?_|apply Aa|refine rE (by kernel_rfl) ?_);(refine aC rfl ?_ ?_<;>rintro⟨⟩)
   ·rw[c]at b
    (repeat first|(refine sA rfl ?_ ?_;first|exact tI|omega|simp only[oZ] at *;omega)|refine aU rfl ?_|apply Aa);refine⟨⟨k+1,by omega⟩,by dsimp only;(omega),[],?_⟩;simp[cX,zC,a,b,ZA]
   ·rw[c]at b
    (repeat first|(refine sA rfl ?_ ?_;first|exact tI|omega|simp only[oZ] at *;omega)|refine aU rfl ?_|apply Aa);refine⟨⟨k+1,by omega⟩,by dsimp only;(omega),[],?_⟩;simp[cX,zC,a,b,ZA]
  ·exfalso;(simp only[oZ] at *;omega)
 ·obtain rfl:k=cols.length:=by omega
  rw[i8];(repeat first|refine sN rfl ?_|refine tA rfl ?_|refine s2 rfl λ_ c=>?_|refine aU rfl ?_|apply Aa);(refine aC rfl ?_ ?_<;>rintro⟨⟩)
  ·exfalso;(simp only[oZ] at *;omega)
  ·(repeat' first|refine tA rfl ?_|refine aU rfl ?_|apply Aa|(refine aC rfl ?_ ?_<;>rintro⟨⟩)|apply aK|apply aE|apply aB|refine aR ⟨_,rfl,?_⟩)
   rfl
theorem KY{t:FF}{al:Int}{A:W->Bool}(n:KK Tryz.prog TB 140 186 t al A)(cols words:List W)(m:cols.length<=4194304)(l:∀w∈words,w.length<=4194305)(hb:∀x∈cols,x.length<=4194304)(j:words.length<=4194304) :
 Pure Tryz.prog TB 141 [EO t,Cb cols,Cb words] (Cb (words.map (marks A cols))):=by
 refine eN Tryz.func141 rfl (by kernel_rfl) rfl ?_;intro U a;(repeat first|refine aU rfl ?_);(refine Al rfl ?_;refine CX (λ_ _=>Gm rfl rfl rfl) rfl ?_);(repeat first|refine tX rfl ?_|refine aU rfl ?_|apply Aa);(refine pW rfl ?_ rfl (by rfl);refine A8 rfl rfl rfl rfl (by simp) (by rfl) (by rfl) (by rfl) (by rfl) ?_);(repeat first|refine tX rfl ?_|refine aU rfl ?_|apply Aa);apply aB;refine aL (α:={k:Nat // k<=words.length}) [1,2,3] [] rfl rfl (λ⟨k,hk⟩=>[(7,.o (.arr 0 1 0 k)),(8,eI .i64 k)]) (λ⟨k,hk⟩=>[(0,.cells 9 1 ((words.take k).map λw=>[.d (tD (marks A cols w))]))]) 1 (λ⟨k,hk⟩=>words.length-k) (⟨0,by omega⟩) a rfl (by (simp[cX,zC,a])) ?_;rintro⟨k,hk⟩;(try dsimp only[cA,cB]);by_cases f:k<words.length
 ·obtain⟨x,c⟩:=get_some f
  have i:=get_map (g:=Dv) c;have b:=Ng n cols x m (l x (co c)) hb
  have e:(words.take (k+1)).map (λw=>[C.d (tD (marks A cols w))])=(words.take k).map (λw=>[C.d (tD (marks A cols w))])++[[C.d (tD (marks A cols x))]]:=by rw[i7,c];simp
  (repeat first|refine sN rfl ?_|refine tX rfl ?_|refine s2 rfl λ_ h=>?_|refine aU rfl ?_|apply Aa);(refine aC rfl ?_ ?_<;>rintro⟨⟩)
  ·apply aK
   refine aS (aB ?_);refine rG (Hz [9]) (by kernel_rfl) ?_;(repeat first|refine tA rfl ?_|(refine s4 rfl ‹_› rfl ?_ ?_;omega)|refine sP rfl (b) rfl ?_);(refine pW rfl ?_ rfl (by rfl);refine Au rfl rfl rfl (by first|(simp;done)|(simp;(omega))) rfl (by intro r b;simp at b;subst b;rfl) (by rfl) (ce rfl) (by simp;omega) ?_);(repeat first|(refine sA rfl ?_ ?_;first|exact tI|omega)|refine aU rfl ?_|apply Aa);refine⟨⟨k+1,by omega⟩,by dsimp only;(omega),[1],?_⟩;simp[cX,zC,a,e]
  ·exfalso;(simp only[oZ] at *;omega)
 ·obtain rfl:k=words.length:=by omega
  rw[i8];(repeat first|refine sN rfl ?_|refine tX rfl ?_|refine s2 rfl λ_ h=>?_|refine aU rfl ?_|apply Aa);(refine aC rfl ?_ ?_<;>rintro⟨⟩)
  ·exfalso;(simp only[oZ] at *;omega)
  ·apply aE
   (repeat first|refine tX rfl ?_|refine aU rfl ?_|apply Aa);refine Aj.settle [(6,Cb (words.map (marks A cols)))] ⟨⟨_,rfl,.o (.full rfl (by simp[d5]) (by simp))⟩,trivial⟩ ?_;refine aR ⟨_,rfl,rfl⟩
def rowAt(al:Int)(l:List W)(i:Nat):Bool:=match l[i]? with
 | none=>true
 | some w=>!decide (w.length=0) && (within w al && decide (w.dropLast∈l.take i))
def Pn(al:Int)(l:List W)(i:Nat):Bool:=match l[i]? with
 | none=>true
 | some w=>decide (w.length<=4000) && (within w al && !decide (w∈l.take i))
def GU(f:Nat->Bool)(n:Nat):Bool:=(List.range n).all λi=>decide (i=0) || f i
theorem Py{f:Nat->Bool}{k:Nat}(h:GU f k=true)(a:f k=true):GU f (k+1)=true:=by
 unfold GU at *;rw[sT,List.all_append,h];simp[a]
theorem RX{f:Nat->Bool}{k n:Nat}(b:0<k)(h:k<n)(a:f k=false):GU f n=false:=by
 unfold GU;rw[uW];exact⟨k,pi.2 h,by simp[a];omega⟩
def Nz(al:Int)(t:Bl):Bool:=decide (0<=al) && (decide (1<=t.rows.length/\t.rows.length<=12) && (decide (1<=t.cols.length/\t.cols.length<=20) && (decide (t.rows[0]?=some []) && decide (t.cols[0]?=some []))))
def Gp(al:Int)(t:Bl):Bool:=Nz al t && (GU (rowAt al t.rows) t.rows.length && GU (Pn al t.cols) t.cols.length)
theorem Vk(al:Int)(t:Bl)(s:WU t):Pure Tryz.prog TB 214 [eI .i64 al,KQ t] (eB (Gp al t)):=by
 have B:=s.rl;have F:=s.cl;by_cases q:Nz al t=true
 ·have n : Gp al t=(GU (rowAt al t.rows) t.rows.length && GU (Pn al t.cols) t.cols.length):=by unfold Gp;rw[q];rfl
  rw[n];unfold Nz at q;simp only[d4,decide_eq_true_eq]at q;obtain⟨R,Q,P,L,K⟩:=q;have A:=get_map (g:=Dv) (k:=0) L;have z:=get_map (g:=Dv) (k:=0) K;have N:((0:Nat):Int).toNat=(0:Int).toNat:=rfl;rw[N]at A z;refine eN Tryz.func214 rfl (by kernel_rfl) rfl ?_;intro U b;(repeat' first|refine sN rfl ?_|refine tA rfl ?_|(refine s4 rfl ‹_› rfl ?_ ?_;omega)|refine s2 rfl λ_ a=>?_|refine s3 rfl ?_ ?_<;>rintro rfl|refine aU rfl ?_|apply Aa|(refine aC rfl ?_ ?_<;>rintro⟨⟩)|apply aK|apply aE|apply aB|refine aR ⟨_,rfl,?_⟩)
  all_goals first
   | (exfalso;(simp only[oZ] at *;omega);done)
   | (exfalso;simp at *;done)
   | skip
  refine aL (α:={k:Nat // 1<=k/\k<=t.rows.length/\GU (rowAt al t.rows) k=true}) [0,3,5,6] [] rfl rfl (λ⟨k,c,hk,ha⟩=>[(7,eI .i64 k)]) (λ⟨k,c,hk,ha⟩=>[]) 0 (λ⟨k,c,hk,ha⟩=>t.rows.length-k) (⟨1,by omega,by omega,rfl⟩) b rfl (by (simp[cX,zC,b])) ?_;rintro⟨k,c,hk,ha⟩;(try dsimp only[cA,cB]);by_cases f:k<t.rows.length
  ·obtain⟨x,i⟩:=get_some f
   have v:=get_map (g:=Dv) i;have u:=s.rb x (co i)
   have e:rowAt al t.rows k=(!decide (x.length=0) && (within x al && decide (x.dropLast∈t.rows.take k))):=by unfold rowAt;rw[i]
   have j:=Eg (TB:=TB) x al (by omega)
   have p:Pure Tryz.prog TB 203 [.o (.d (.l ((t.rows.map Dv).take ((k:Nat):Int).toNat))),eT (x.take ((x.length:Int)-1).toNat)] (eB (decide (x.dropLast∈t.rows.take k))):=by
    have M:(x.take ((x.length:Int)-1).toNat)=x.dropLast:=by rw[List.dropLast_eq_take];congr 1;omega
    rw[M,d8,<-uQ];exact Ju _ _ (by simp;omega)
   (repeat first|refine tA rfl ?_|refine s2 rfl λ_ a=>?_|refine aU rfl ?_|apply Aa);(refine aC rfl ?_ ?_<;>rintro⟨⟩)
   ·(repeat' first|(refine sA rfl ?_ ?_;first|exact tI|omega)|(refine s4 rfl ‹_› rfl ?_ ?_;omega)|refine s2 rfl λ_ a=>?_|(refine sC rfl (j) ?_;intro _ a)|(refine sC rfl (p) ?_;intro _ a)|(refine Al rfl ?_;refine gA rfl ?_;first|refine gS (λ_ _=>OY rfl rfl (by simp) (by omega) (by (simp only[oZ] at *;omega))) ?_|refine gS (λ_ _=>ZW rfl rfl (by (simp only[oZ] at *;omega)) (by omega)) ?_)|refine s3 rfl ?_ ?_<;>rintro rfl|refine aU rfl ?_|apply Aa|refine rE (by kernel_rfl) ?_|(refine aC rfl ?_ ?_<;>rintro⟨⟩)|apply aK|apply aE|apply aB|refine aR ⟨_,rfl,?_⟩)
    all_goals first
     | (show eB false=eB _;rw[RX (by omega) f (by rw[e];grind)];rfl)
     | (have m:=Py ha (by rw[e];grind);refine⟨⟨k+1,by omega,by omega,m⟩,by dsimp only;(omega),[],?_⟩;simp[cX,zC,b])
   ·exfalso;(simp only[oZ] at *;omega)
  ·obtain rfl:k=t.rows.length:=by omega
   rw[ha];(repeat first|refine tA rfl ?_|refine s2 rfl λ_ a=>?_|refine aU rfl ?_|apply Aa);(refine aC rfl ?_ ?_<;>rintro⟨⟩)
   ·exfalso;(simp only[oZ] at *;omega)
   ·(repeat' first|refine tA rfl ?_|refine aU rfl ?_|apply Aa|(refine aC rfl ?_ ?_<;>rintro⟨⟩)|apply aK|apply aE|apply aB|refine aR ⟨_,rfl,?_⟩)
    refine aL (α:={k:Nat // 1<=k/\k<=t.cols.length/\GU (Pn al t.cols) k=true}) [0,3,6] [] rfl rfl (λ⟨k,c,hk,ha⟩=>[(9,eI .i64 k)]) (λ⟨k,c,hk,ha⟩=>[]) 0 (λ⟨k,c,hk,ha⟩=>t.cols.length-k) (⟨1,by omega,by omega,rfl⟩) b rfl (by (simp[cX,zC,b])) ?_;rintro⟨k,c,hk,ha⟩;(try dsimp only[cA,cB]);by_cases f:k<t.cols.length
    ·obtain⟨x,i⟩:=get_some f
     have v:=get_map (g:=Dv) i;have u:=s.cb x (co i)
     have e:Pn al t.cols k=(decide (x.length<=4000) && (within x al && !decide (x∈t.cols.take k))):=by unfold Pn;rw[i]
     have j:=Eg (TB:=TB) x al (by omega)
     have p:Pure Tryz.prog TB 203 [.o (.d (.l ((t.cols.map Dv).take ((k:Nat):Int).toNat))),eT x] (eB (decide (x∈t.cols.take k))):=by
      rw[d8,<-uQ];exact Ju _ _ (by simp;omega)
     (repeat first|refine tA rfl ?_|refine s2 rfl λ_ a=>?_|refine aU rfl ?_|apply Aa);(refine aC rfl ?_ ?_<;>rintro⟨⟩)
     ·(repeat' first|(refine sA rfl ?_ ?_;first|exact tI|omega)|(refine s4 rfl ‹_› rfl ?_ ?_;omega)|refine s2 rfl λ_ a=>?_|(refine sC rfl (j) ?_;intro _ a)|(refine sC rfl (p) ?_;intro _ a)|(refine Al rfl ?_;refine gA rfl ?_;first|refine gS (λ_ _=>OY rfl rfl (by simp) (by omega) (by (simp only[oZ] at *;omega))) ?_)|refine s3 rfl ?_ ?_<;>rintro rfl|refine aU rfl ?_|apply Aa|(refine aC rfl ?_ ?_<;>rintro⟨⟩)|apply aK|apply aE|apply aB|refine aR ⟨_,rfl,?_⟩)
      all_goals first
       | (show eB false=eB _;rw[RX (by omega) f (by rw[e];grind)];rfl)
       | (have m:=Py ha (by rw[e];grind);refine⟨⟨k+1,by omega,by omega,m⟩,by dsimp only;(omega),[],?_⟩;simp[cX,zC,b])
     ·exfalso;(simp only[oZ] at *;omega)
    ·obtain rfl:k=t.cols.length:=by omega
     rw[ha];(repeat first|refine tA rfl ?_|refine s2 rfl λ_ a=>?_|refine aU rfl ?_|apply Aa);(refine aC rfl ?_ ?_<;>rintro⟨⟩)
     ·exfalso;(simp only[oZ] at *;omega)
     ·(repeat' first|refine tA rfl ?_|refine aU rfl ?_|apply Aa|(refine aC rfl ?_ ?_<;>rintro⟨⟩)|apply aK|apply aE|apply aB|refine aR ⟨_,rfl,?_⟩)
      rfl
 ·have n:Gp al t=false:=by unfold Gp;simp[q]
  rw[n]
  have r:¬(0<=al/\(1<=t.rows.length/\t.rows.length<=12)/\(1<=t.cols.length/\t.cols.length<=20)/\t.rows[0]?=some []/\t.cols[0]?=some []):=by
   intro h;apply q;unfold Nz;simp[h]
  have w:(t.rows.map Dv)[(0:Int).toNat]?=(t.rows[0]?).map Dv:=by simp
  have y:(t.cols.map Dv)[(0:Int).toNat]?=(t.cols[0]?).map Dv:=by simp
  have G:t.rows[0]?=none->t.rows.length=0:=λh=>by have:=tB.1 h;omega
  have I:t.cols[0]?=none->t.cols.length=0:=λh=>by have:=tB.1 h;omega
  refine eN Tryz.func214 rfl (by kernel_rfl) rfl ?_;intro U b
  cases H:t.rows[0]?<;>cases J:t.cols[0]?<;>rw[H]at w r<;>rw[J]at y r<;>(
   (repeat' first|refine sN rfl ?_|refine tA rfl ?_|(refine s4 rfl ‹_› rfl ?_ ?_;omega)|refine s2 rfl λ_ a=>?_|refine s3 rfl ?_ ?_<;>rintro rfl|refine aU rfl ?_|apply Aa|(refine aC rfl ?_ ?_<;>rintro⟨⟩)|apply aK|apply aE|apply aB|refine aR ⟨_,rfl,?_⟩)
   all_goals first
    | rfl
    | (exfalso;grind;done))
def Gw(al:Int)(w:W):Bool:=within w al && decide (w.length<=4000)
theorem PI{t:FF}{al:Int}{A:W->Bool}(e:KK Tryz.prog TB 140 186 t al A)(w:W)(c:w.length<=1099511627776):Pure Tryz.prog TB 200 [EO t,eT w] (eB (Gw al w)):=by
 have g:=e.alph;have f:=Eg (TB:=TB) w al c
 have d:Gw al w=(within w al && decide ((w.length:Int)<=4000)):=by unfold Gw;congr 1;rw[decide_eq_decide];omega
 rw[d];refine eN Tryz.func200 rfl (by kernel_rfl) rfl ?_;intro U b;(repeat' first|refine tA rfl ?_|refine s2 rfl λ_ a=>?_|refine sP rfl (g) rfl ?_|(refine sC rfl (f) ?_;intro _ a)|refine s3 rfl ?_ ?_<;>rintro rfl|refine aU rfl ?_|apply Aa|(refine aC rfl ?_ ?_<;>rintro⟨⟩)|apply aK|apply aE|apply aB|refine aR ⟨_,rfl,?_⟩)
 all_goals (show E.o _=E.o _;congr;grind)
def AZ(A:W->Bool)(al:Int)(t:Bl):Bool:=Gp al t && decide (A2 A t).Nodup
theorem jo{l:List W}{k:Nat}{x:W}(c:l[k]?=some x)(h:(l.take k).Nodup)(d:x∉l.take k):(l.take (k+1)).Nodup:=by
 rw[i7,c,r8];refine⟨h,by simp,λa ha b hb e=>?_⟩;simp at hb;subst hb;exact d (e▸ha)
theorem lU{l:List W}{k:Nat}{x:W}(a:l[k]?=some x)(b:x∈l.take k):¬l.Nodup:=by
 intro h;obtain⟨c,rfl⟩:=am.1 a;rw[<-rZ k l,r8]at h;exact h.2.2 _ b _ (by rw[tu c];exact tQ) rfl
theorem FK{t:FF}{al:Int}{A:W->Bool}(q:KK Tryz.prog TB 140 186 t al A)(tab:Bl)(c:WU tab):Pure Tryz.prog TB 182 [EO t,KQ tab] (eB (AZ A al tab)):=by
 have s:=q.alph;have r:=Vk (TB:=TB) al tab c;have B:=KY q tab.cols tab.rows c.cl (λw v=>by have:=c.rb w v;omega) c.cb c.rl;by_cases p:Gp al tab=true
 ·have h:AZ A al tab=decide (A2 A tab).Nodup:=by unfold AZ;rw[p];rfl
  rw[h];have n:Pure Tryz.prog TB 141 [EO t,Cb tab.cols,Cb tab.rows] (Cb (A2 A tab)):=B
  have z:(A2 A tab).length=tab.rows.length:=by simp[A2]
  have y:=c.rl;generalize A2 A tab=l at *;refine eN Tryz.func182 rfl (by kernel_rfl) rfl ?_;intro U b;(repeat' first|refine tA rfl ?_|refine s2 rfl λ_ a=>?_|refine sP rfl (s) rfl ?_|(refine sC rfl (r) ?_;intro _ a)|refine sP rfl (n) rfl ?_|refine aU rfl ?_|apply Aa|refine rE (by kernel_rfl) ?_|(refine aC rfl ?_ ?_<;>rintro⟨⟩)|apply aK|apply aE|apply aB|refine aR ⟨_,rfl,?_⟩)
  all_goals first
   | (exfalso;grind;done)
   | skip
  refine aL (α:={k:Nat // k<=l.length/\(l.take k).Nodup}) [5] [] rfl rfl (λ⟨k,hk,e⟩=>[(6,eI .i64 k)]) (λ⟨k,hk,e⟩=>[]) 0 (λ⟨k,hk,e⟩=>l.length-k) (⟨0,by omega,by simp⟩) b rfl (by (simp[cX,zC,b])) ?_;rintro⟨k,hk,e⟩;(try dsimp only[cA,cB]);by_cases j:k<l.length
  ·obtain⟨x,f⟩:=get_some j
   have u:=get_map (g:=Dv) f
   have m:Pure Tryz.prog TB 203 [.o (.d (.l ((l.map Dv).take ((k:Nat):Int).toNat))),eT x] (eB (decide (x∈l.take k))):=by
    rw[d8,<-uQ];exact Ju _ _ (by simp;omega)
   (repeat first|refine sN rfl ?_|refine tA rfl ?_|refine s2 rfl λ_ a=>?_|refine aU rfl ?_|apply Aa);(refine aC rfl ?_ ?_<;>rintro⟨⟩)
   ·(repeat' first|(refine sA rfl ?_ ?_;first|exact tI|omega)|(refine s4 rfl ‹_› rfl ?_ ?_;omega)|(refine sC rfl (m) ?_;intro _ a)|(refine Al rfl ?_;refine gA rfl ?_;first|refine gS (λ_ _=>OY rfl rfl (by simp) (by omega) (by (simp only[oZ] at *;omega))) ?_)|refine aU rfl ?_|apply Aa|refine rE (by kernel_rfl) ?_|(refine aC rfl ?_ ?_<;>rintro⟨⟩)|apply aK|apply aE|apply aB|refine aR ⟨_,rfl,?_⟩)
    ·show eB false=eB _
     rw[decide_eq_false (lU f (by simpa using a))]
    ·have i:=jo f e (by simpa using a)
     refine⟨⟨k+1,by omega,i⟩,by dsimp only;(omega),[],?_⟩;simp[cX,zC,b]
   ·exfalso;(simp only[oZ] at *;omega)
  ·rw [kw (by omega)]at e
   (repeat first|refine sN rfl ?_|refine tA rfl ?_|refine s2 rfl λ_ a=>?_|refine aU rfl ?_|apply Aa);(refine aC rfl ?_ ?_<;>rintro⟨⟩)
   ·exfalso;(simp only[oZ] at *;omega)
   ·(repeat' first|refine tA rfl ?_|refine aU rfl ?_|apply Aa|(refine aC rfl ?_ ?_<;>rintro⟨⟩)|apply aK|apply aE|apply aB|refine aR ⟨_,rfl,?_⟩)
    rw[decide_eq_true e]
 ·have h:AZ A al tab=false:=by unfold AZ;simp[p]
  rw[h];refine eN Tryz.func182 rfl (by kernel_rfl) rfl ?_;intro U b;(repeat' first|refine tA rfl ?_|refine s2 rfl λ_ a=>?_|refine sP rfl (s) rfl ?_|(refine sC rfl (r) ?_;intro _ a)|refine aU rfl ?_|apply Aa|refine rE (by kernel_rfl) ?_|(refine aC rfl ?_ ?_<;>rintro⟨⟩)|apply aK|apply aE|apply aB|refine aR ⟨_,rfl,?_⟩)
  all_goals first
   | rfl
   | (exfalso;grind;done)
theorem KX{t:FF}{al:Int}{A:W->Bool}(G:KK Tryz.prog TB 140 186 t al A)(tab:Bl)(h:WU tab):Pure Tryz.prog TB 183 [EO t,KQ tab] (iO (Bp A (BA al) tab)):=by
 have P:=G.alph;have N:=BX (TB:=TB) al;have M:Pure Tryz.prog TB 141 [EO t,Cb tab.cols,Cb tab.rows] (Cb (A2 A tab)):=KY G tab.cols tab.rows h.cl (λw f=>by have:=h.rb w f;omega) h.cb h.rl;have I:=h.rl;have K:(Ab al).length<=6:=AJ al 6;refine eN Tryz.func183 rfl (by kernel_rfl) rfl ?_;intro U a;(repeat' first|refine tA rfl ?_|refine sP rfl (P) rfl ?_|refine sP rfl (N) rfl ?_|refine sP rfl (M) rfl ?_|refine aU rfl ?_|apply Aa|(refine aC rfl ?_ ?_<;>rintro⟨⟩)|apply aK|apply aE|apply aB|refine aR ⟨_,rfl,?_⟩);refine aL (α:={k:Nat // k<=tab.rows.length/\∀w∈Dm (BA al) (tab.rows.take k),marks A tab.cols w∈A2 A tab}) [2,3,6,7] [] rfl rfl (λ⟨k,hk,b⟩=>[(8,eI .i64 k)]) (λ⟨k,hk,b⟩=>[]) 0 (λ⟨k,hk,b⟩=>tab.rows.length-k) (⟨0,by omega,by simp[Dm]⟩) a rfl (by (simp[cX,zC,a])) ?_;rintro⟨k,hk,b⟩;(try dsimp only[cA,cB]);by_cases v:k<tab.rows.length
 ·obtain⟨r, d⟩:=get_some v
  have H:=get_map (g:=Dv) d;have J:=h.rb r (co d);(repeat first|refine sN rfl ?_|refine tA rfl ?_|refine s2 rfl λ_ e=>?_|refine aU rfl ?_|apply Aa);(refine aC rfl ?_ ?_<;>rintro⟨⟩)
  ·apply aK
   refine aS (aB ?_);(repeat first|refine tA rfl ?_|refine aU rfl ?_|apply Aa);apply aB;refine aL (α:={j:Nat // j<=(Ab al).length/\∀x∈(BA al).take j,marks A tab.cols (r++[x])∈A2 A tab}) [2,3,6,7,8] [] rfl rfl (λ⟨j,B,c⟩=>[(9,eI .i64 j)]) (λ⟨j,B,c⟩=>[]) 0 (λ⟨j,B,c⟩=>(Ab al).length-j) (⟨0,by omega,by simp⟩) a rfl (by (simp[cX,zC,a])) ?_;rintro⟨j,B,c⟩;(try dsimp only[cA,cB]);by_cases p:j<(Ab al).length
   ·obtain⟨l,z⟩:=get_some p
    have L:=get_map (g:=Bc) z;have y:=Af (co z)
    have n:(BA al)[j]?=some (lb l):=by simp[BA,z]
    have u:Pure Tryz.prog TB 101 [eI .i64 l] (eT [lb l]):=HW l y.1 (by omega);have m:=Ng G tab.cols (r++[lb l]) h.cl (by simp;omega) h.cb;have F:=Ju (TB:=TB) (A2 A tab) (marks A tab.cols (r++[lb l])) (by simp[A2];omega);(repeat first|refine sN rfl ?_|refine tA rfl ?_|refine s2 rfl λ_ e=>?_|refine aU rfl ?_|apply Aa);(refine aC rfl ?_ ?_<;>rintro⟨⟩)
    ·(repeat' first|(refine sA rfl ?_ ?_;first|exact tI|omega|simp only[oZ] at *;omega)|(refine s4 rfl ‹_› rfl ?_ ?_;omega)|refine s2 rfl λ_ e=>?_|refine sP rfl (u) rfl ?_|refine sP rfl (m) rfl ?_|(refine sC rfl (F) ?_;intro _ e)|refine aU rfl ?_|apply Aa|refine rE (by kernel_rfl) ?_|(refine aC rfl ?_ ?_<;>rintro⟨⟩)|apply aK|apply aE|apply aB|refine aR ⟨_,rfl,?_⟩)
     ·have hno:marks A tab.cols (r++[lb l])∉A2 A tab:=by grind
      rw[jw d n b c hno];rfl
     ·have i:marks A tab.cols (r++[lb l])∈A2 A tab:=by grind
      have q:∀x∈(BA al).take (j+1),marks A tab.cols (r++[x])∈A2 A tab:=λx d=>by
       rw[i7,n]at d
       rcases gc.1 d with d|d
       ·exact c x d
       ·simp at d;subst d;exact i
      refine⟨⟨j+1,by omega,q⟩,by dsimp only;(omega),[],?_⟩;simp[cX,zC,a]
    ·exfalso;(simp only[oZ] at *;omega)
   ·have o:∀w∈Dm (BA al) (tab.rows.take (k+1)),marks A tab.cols w∈A2 A tab:=λw f=>by
     rw[XW d]at f
     rcases gc.1 f with f|f
     ·exact b w f
     ·obtain⟨x,s,rfl⟩:=d9.1 f
      exact c x (by rw[kw (by simp[BA];omega)];exact s)
    (repeat first|refine sN rfl ?_|refine tA rfl ?_|refine s2 rfl λ_ e=>?_|refine aU rfl ?_|apply Aa);(refine aC rfl ?_ ?_<;>rintro⟨⟩)
    ·exfalso;(simp only[oZ] at *;omega)
    ·(repeat' first|(refine sA rfl ?_ ?_;first|exact tI|omega)|refine aU rfl ?_|apply Aa|(refine aC rfl ?_ ?_<;>rintro⟨⟩)|apply aK|apply aE|apply aB|refine aR ⟨_,rfl,?_⟩)
     refine⟨⟨k+1,by omega,o⟩,by dsimp only;(omega),[],?_⟩;simp[cX,zC,a]
  ·exfalso;(simp only[oZ] at *;omega)
 ·have hno:Bp A (BA al) tab=none:=uj.2 λw f=>by
   have:=b w (by rw[kw (by omega)];exact f)
   simpa using this
  rw[hno];(repeat first|refine sN rfl ?_|refine tA rfl ?_|refine s2 rfl λ_ e=>?_|refine aU rfl ?_|apply Aa);(refine aC rfl ?_ ?_<;>rintro⟨⟩)
  ·exfalso;(simp only[oZ] at *;omega)
  ·(repeat' first|refine tA rfl ?_|refine aU rfl ?_|apply Aa|(refine aC rfl ?_ ?_<;>rintro⟨⟩)|apply aK|apply aE|apply aB|refine aR ⟨_,rfl,?_⟩)
   rfl
theorem Rq{t:FF}{al:Int}{A:W->Bool}(e:KK Tryz.prog TB 140 186 t al A)(tab:Bl)(c:WU tab):Pure Tryz.prog TB 184 [EO t,KQ tab] (iO (if AZ A al tab then Bp A (BA al) tab else none)):=by
 have g:=FK e tab c;have f:=KX e tab c;by_cases d:AZ A al tab=true
 ·rw [if_pos d]
  cases h:Bp A (BA al) tab<;>rw[h]at f<;>(
   refine eN Tryz.func184 rfl (by kernel_rfl) rfl ?_;intro U b;(repeat' first|refine tA rfl ?_|refine s2 rfl λ_ a=>?_|(refine sC rfl (g) ?_;intro _ a)|refine sP rfl (f) rfl ?_|refine aU rfl ?_|apply Aa|(refine aC rfl ?_ ?_<;>rintro⟨⟩)|apply aK|apply aE|apply aB|refine aR ⟨_,rfl,?_⟩)
   all_goals first
    | rfl
    | (exfalso;grind;done))
 ·rw [if_neg d]
  refine eN Tryz.func184 rfl (by kernel_rfl) rfl ?_;intro U b;(repeat' first|refine tA rfl ?_|refine s2 rfl λ_ a=>?_|(refine sC rfl (g) ?_;intro _ a)|refine aU rfl ?_|apply Aa|(refine aC rfl ?_ ?_<;>rintro⟨⟩)|apply aK|apply aE|apply aB|refine aR ⟨_,rfl,?_⟩)
  all_goals first
   | rfl
   | (exfalso;grind;done)
def BC(A:W->Bool)(al:Int)(t:Bl):Bool:=AZ A al t && (Bp A (BA al) t).isNone
theorem Qv{t:FF}{al:Int}{A:W->Bool}(g:KK Tryz.prog TB 140 186 t al A)(tab:Bl)(f:WU tab):Pure Tryz.prog TB 139 [EO t,KQ tab] (eB (BC A al tab)):=by
 have h:=FK g tab f;have b:=Rq g tab f;by_cases c:AZ A al tab=true
 ·rw [if_pos c]at b
  have e:BC A al tab=(Bp A (BA al) tab).isNone:=by unfold BC;rw[c];rfl
  rw[e]
  cases i:Bp A (BA al) tab<;>rw[i]at b<;>(
   refine eN Tryz.func139 rfl (by kernel_rfl) rfl ?_;intro U d;(repeat' first|refine tA rfl ?_|refine s2 rfl λ_ a=>?_|(refine sC rfl (h) ?_;intro _ a)|refine sP rfl (b) rfl ?_|refine s3 rfl ?_ ?_<;>rintro rfl|refine aU rfl ?_|apply Aa|(refine aC rfl ?_ ?_<;>rintro⟨⟩)|apply aK|apply aE|apply aB|refine aR ⟨_,rfl,?_⟩)
   all_goals first
    | rfl
    | (exfalso;grind;done)
    | (show E.o _=E.o _;congr;first|grind|(simp at *;assumption)))
 ·rw [if_neg c]at b
  have e:BC A al tab=false:=by unfold BC;simp[c]
  rw[e];refine eN Tryz.func139 rfl (by kernel_rfl) rfl ?_;intro U d;(repeat' first|refine tA rfl ?_|refine s2 rfl λ_ a=>?_|(refine sC rfl (h) ?_;intro _ a)|refine sP rfl (b) rfl ?_|refine s3 rfl ?_ ?_<;>rintro rfl|refine aU rfl ?_|apply Aa|(refine aC rfl ?_ ?_<;>rintro⟨⟩)|apply aK|apply aE|apply aB|refine aR ⟨_,rfl,?_⟩)
  all_goals first
   | rfl
   | (exfalso;grind;done)
theorem lM{l:List W}{s:W}{k:Nat}(a:l[k]?=some s)(b:s∉l.take k):l.idxOf s=k:=by
 have c:k<l.length:=(am.1 a).1
 have e:l=l.take k++s::l.drop (k+1):=by rw[<-Bv a,rZ]
 rw[e,tt,if_neg b,List.idxOf_cons_self];simp;omega
theorem Vj(l:List W)(s:W)(m:s∈l)(o:l.length<=1099511627776):Pure Tryz.prog TB 142 [Cb l,eT s] (eI .i64 (l.idxOf s:Nat)):=by
 refine eN Tryz.func142 rfl (by kernel_rfl) rfl ?_;intro U a;(repeat first|refine tA rfl ?_|refine aU rfl ?_|apply Aa);apply aB;refine aL (α:={k:Nat // k<=l.length/\s∉l.take k}) [0,1] [] rfl rfl (λ⟨k,hk,b⟩=>[(5,eI .i64 k)]) (λ⟨k,hk,b⟩=>[]) 0 (λ⟨k,hk,b⟩=>l.length-k) (⟨0,by omega,by simp⟩) a rfl (by (simp[cX,zC,a])) ?_;rintro⟨k,hk,b⟩;(try dsimp only[cA,cB])
 have i:k<l.length:=by
  rcases rn k l.length with h|h
  ·exact h
  ·rw[kw h]at b;exact absurd m b
 obtain⟨x,d⟩:=get_some (l:=l) (k:=k) i;have j:=get_map (g:=Dv) d;by_cases e:x=s
 ·subst e
  have n:=lM d b;rw[n];(repeat first|refine tA rfl ?_|(refine s4 rfl ‹_› rfl ?_ ?_;omega)|refine s2 rfl λ_ c=>?_|refine aU rfl ?_|apply Aa);(refine aC rfl ?_ ?_<;>rintro⟨⟩)
  ·exfalso;simp at c
  ·(repeat' first|refine tA rfl ?_|refine aU rfl ?_|apply Aa|(refine aC rfl ?_ ?_<;>rintro⟨⟩)|apply aK|apply aE|apply aB|refine aR ⟨_,rfl,?_⟩)
   rfl
 ·have f:s∉l.take (k+1):=by
   rw[i7,d];intro h
   rcases gc.1 h with h|h
   ·exact b h
   ·simp at h;exact e h.symm
  (repeat first|refine tA rfl ?_|(refine s4 rfl ‹_› rfl ?_ ?_;omega)|refine s2 rfl λ_ c=>?_|refine aU rfl ?_|apply Aa);(refine aC rfl ?_ ?_<;>rintro⟨⟩)
  ·(repeat' first|(refine sA rfl ?_ ?_;first|exact tI|omega)|refine aU rfl ?_|apply Aa|(refine aC rfl ?_ ?_<;>rintro⟨⟩)|apply aK|apply aE|apply aB|refine aR ⟨_,rfl,?_⟩)
   refine⟨⟨k+1,by omega,f⟩,by dsimp only;(omega),[],?_⟩;simp[cX,zC,a]
  ·exfalso;simp[e]at c
end Go.Am
namespace Go.Am
section
variable {α:Type}[DecidableEq α]
def Cu{α:Type}(f:α->Int->α):α->List Int->α
 | q,[]=>q
 | q,l::w=>Cu f (f q l) w
theorem JI{α:Type}(f:α->Int->α):∀(u w:List Int) (q:α),Cu f q (u++w)=Cu f (Cu f q u) w
 | [],_,_=>rfl
 | l::u,w,q=>JI f u w _
def Er(lim:Nat)(f:α->Int->α)(q:α):List α->List Int->List Int->Option (List α×List Int)
 | nd,row,[]=>some (nd,row)
 | nd,row,l::ls=>if f q l∈nd then Er lim f q nd (row++[((nd.idxOf (f q l):Nat):Int)]) ls
  else if nd.length=lim then none else Er lim f q (nd++[f q l]) (row++[(nd.length:Int)]) ls
def FO(lim:Nat)(f:α->Int->α)(ls:List Int):Nat->List α->List (List Int)->Option (List α×List (List Int))
 | 0,nd,rows=>some (nd,rows)
 | k+1,nd,rows=>match nd[rows.length]? with
  | none=>some (nd,rows)
  | some q=>match Er lim f q nd [] ls with
   | none=>none
   | some p=>FO lim f ls k p.1 (rows++[p.2])
def HC(lim:Nat)(f:α->Int->α)(ls:List Int)(s:α):Option (List α×List (List Int)):=FO lim f ls lim [s] []
structure Part (f:α->Int->α) (ls:List Int) (s:α) (nd:List α) (rows:List (List Int)) (lim:Nat):Prop where
 st:nd[0]?=some s
 nodup:nd.Nodup
 len:rows.length<=nd.length
 lim:nd.length<=lim
 row:∀(i:Nat) (r:List Int),rows[i]?=some r->∃q,nd[i]?=some q/\r=ls.map (λl=>((nd.idxOf (f q l):Nat):Int))/\∀l∈ls,f q l∈nd
 rc:∀q∈nd,∃w:List Int,(∀l∈w,l∈ls)/\Cu f s w=q
theorem TE{lim:Nat}{f:α->Int->α}{ls:List Int}{s q:α}{rows:List (List Int)}{i:Nat}:∀(rs ds:List Int) {nd:List α} {row:List Int} {nd':List α} {row':List Int},ls=ds++rs->Part f ls s nd rows lim->nd[i]?=some q->row=ds.map (λl=>((nd.idxOf (f q l):Nat):Int))->(∀l∈ds,f q l∈nd)->
 Er lim f q nd row rs=some (nd',row')->Part f ls s nd' rows lim/\nd'[i]?=some q/\row'=ls.map (λl=>((nd'.idxOf (f q l):Nat):Int))/\∀l∈ls,f q l∈nd'
 | [],ds,nd,row,nd',row',e,h,hi,u,o,k=>by
  simp only[Er,Option.some.injEq,Prod.mk.injEq]at k;obtain⟨rfl,rfl⟩:=k;rw[rv]at e;subst e;exact⟨h,hi,u,o⟩
 | l :: rs, ds,nd,row,nd',row',e,h,hi,u,o,k=>by
  simp only[Er]at k;split at k
  ·rename_i g
   exact TE rs (ds++[l]) (by rw[e];simp) h hi (by rw[u];simp) (λm c=>by
    rcases gc.1 c with d|d
    ·exact o m d
    ·simp at d;subst d;exact g) k
  ·rename_i g
   split at k
   ·cases k
   ·rename_i B
    have t:∀x∈nd,(nd++[f q l]).idxOf x=nd.idxOf x:=λx v=>by rw[tt,if_pos v]
    have z:=h.lim;refine TE rs (ds++[l]) (by rw[e];simp) ⟨?_,?_,?_,by simp;omega,?_,?_⟩ ?_ ?_ ?_ k
    ·rw[f9 (am.1 h.st).1];exact h.st
    ·exact r8.2 ⟨h.nodup,by simp,λa ha b hb=>by simp at hb;subst hb;exact λe=>g (e▸ha)⟩
    ·have:=h.len;simp;omega
    ·intro j r A
     obtain⟨p,d,y,n⟩:=h.row j r A;refine⟨p,by rw[f9 (am.1 d).1];exact d,?_,λm c=>q6 _ (n m c)⟩;rw[y]
     exact rB λm c=>by rw[t _ (n m c)]
    ·intro x v
     rcases gc.1 v with d|d
     ·exact h.rc x d
     ·simp at d;subst d
      obtain⟨w,d,y⟩:=h.rc q (co hi);refine⟨w++[l],λm c=>?_,by rw[JI,y];rfl⟩
      rcases gc.1 c with n|n
      ·exact d m n
      ·simp at n;subst n;rw[e];simp
    ·rw[f9 (am.1 hi).1];exact hi
    ·rw[u,rI]
     congr 1
     ·exact rB λm c=>by rw[t _ (o m c)]
     ·simp[tt,g]
    ·intro m c
     rcases gc.1 c with d|d
     ·exact q6 _ (o m d)
     ·simp at d;subst d;simp
structure Om (f:α->Int->α) (ls:List Int) (s:α) (nd:List α) (rows:List (List Int)):Prop where
 st:nd[0]?=some s
 nodup:nd.Nodup
 len:rows.length=nd.length
 row:∀(i:Nat) (q:α),nd[i]?=some q->rows[i]?=some (ls.map λl=>((nd.idxOf (f q l):Nat):Int))
 cl:∀q∈nd,∀l∈ls,f q l∈nd
 rc:∀q∈nd,∃w:List Int,(∀l∈w,l∈ls)/\Cu f s w=q
theorem Part.done{f:α->Int->α}{ls:List Int}{s:α}{nd:List α}{rows:List (List Int)}{lim:Nat}(h:Part f ls s nd rows lim)(k:nd.length<=rows.length):Om f ls s nd rows:=by
 have e:=h.len
 have key:∀(i:Nat) (q:α),nd[i]?=some q->rows[i]?=some (ls.map λl=>((nd.idxOf (f q l):Nat):Int))/\∀l∈ls,f q l∈nd:=λi q hi=>by
  have d:=(am.1 hi).1
  obtain⟨r,b⟩:∃r,rows[i]?=some r:=⟨_,d6 (by omega)⟩
  obtain⟨p,a,j,g⟩:=h.row i r b
  rw[hi]at a;injection a with a;subst a
  exact⟨by rw[b,j],g⟩
 refine⟨h.st,h.nodup,by omega,λi q hi=>(key i q hi).1,λq c=>?_,h.rc⟩;obtain⟨i,hi⟩:=sB.1 c;exact(key i q hi).2
theorem Np{lim lim':Nat}(b:lim<=lim'){f:α->Int->α}{q:α}:∀(ls:List Int) {nd:List α} {row:List Int} {p:List α×List Int},nd.length<=lim->Er lim f q nd row ls=some p->Er lim' f q nd row ls=some p
 | [],nd,row,p,_,h=>h
 | l :: ls,nd,row,p,d,h=>by
  simp only[Er]at h |-;split at h
  ·rename_i a
   rw[if_pos a];exact Np b ls d h
  ·rename_i a
   rw[if_neg a];split at h
   ·cases h
   ·rename_i c
    rw[if_neg (by omega)];exact Np b ls (by simp;omega) h
theorem Part.push{f:α->Int->α}{ls:List Int}{s q:α}{nd:List α}{rows:List (List Int)}{lim:Nat}{p:List α×List Int}(h:Part f ls s nd rows lim)(e:nd[rows.length]?=some q)(hp:Er lim f q nd [] ls=some p):Part f ls s p.1 (rows++[p.2]) lim:=by
 obtain⟨b,d,k,i⟩:=TE ls [] (row:=[]) (nd':=p.1) (row':=p.2) rfl h e rfl (by simp) hp;have g:=(am.1 d).1;refine⟨b.st,b.nodup,by simp;omega,b.lim,λj r a=>?_,b.rc⟩
 rcases rn j rows.length with c|c
 ·rw[f9 c]at a;exact b.row j r a
 ·rw[io c]at a
  have l:j-rows.length<1:=(am.1 a).1
  obtain rfl:j=rows.length:=by omega
  simp at a;subst a;exact⟨q,d,k,i⟩
theorem Zc{lim:Nat}{f:α->Int->α}{ls:List Int}{s:α}:∀(k:Nat) {nd:List α} {rows:List (List Int)} {p:List α×List (List Int)},lim<=k+rows.length->Part f ls s nd rows lim->FO lim f ls k nd rows=some p->Om f ls s p.1 p.2/\p.1.length<=lim/\∀lim' k',lim<=lim'->k<=k'->FO lim' f ls k' nd rows=some p
 | 0,nd,rows,p,hk,h,a=>by
  simp only[FO,Option.some.injEq]at a;subst a;have g:=h.lim;refine⟨h.done (by omega),h.lim,λlim' k' c b=>?_⟩
  cases k' with
  | zero=>rfl
  | succ k'=>simp only[FO];rw[qT (by omega)]
 | k + 1, nd,rows,p,hk,h,a=>by
  simp only[FO]at a;split at a
  ·rename_i e
   simp only[Option.some.injEq]at a;subst a;refine⟨h.done (by simpa using e),h.lim,λlim' k' c b=>?_⟩
   cases k' with
   | zero=>omega
   | succ k'=>simp only[FO];rw[e]
  ·rename_i q d
   split at a
   ·cases a
   ·rename_i m hp
    obtain⟨l,j,i⟩:=Zc k (by simp;omega) (h.push d hp) a;refine⟨l,j,λlim' k' c b=>?_⟩
    cases k' with
    | zero=>omega
    | succ k'=>
     simp only[FO];rw[d];simp only;rw[Np c ls h.lim hp];exact i lim' k' c (by omega)
theorem J8{lim:Nat}{f:α->Int->α}{ls:List Int}{s:α}{nd:List α}{rows:List (List Int)}(g:1<=lim)(h:HC lim f ls s=some (nd,rows)):Om f ls s nd rows/\nd.length<=lim/\∀lim',lim<=lim'->HC lim' f ls s=some (nd,rows):=by
 obtain⟨a,b,c⟩:=Zc lim (by simp) ⟨rfl,by simp,by simp,by simpa using g,by simp,λq d=>⟨[],by simp,by simp at d;subst d;rfl⟩⟩ h;exact⟨a,b,λlim' e=>c lim' lim' e e⟩
end
theorem iT:∀(n:Nat) (l:List Nat),l.Nodup->(∀x∈l,x<n)->n<=l.length->∀x,x<n->x∈l:=λn l d c f x b=>by
 refine Classical.byContradiction λe=>?_
 have:=PX n (x::l) (tj.2 ⟨e,d⟩) (λy a=>by
  rcases lw.1 a with rfl|h
  ·exact b
  ·exact c y h)
 simp at this;omega
theorem ep{n:Nat}{l:List Int}(i:l.Nodup)(d:∀x∈l,0<=x/\x<n)(g:n<=l.length){x:Int}(m:0<=x/\x<n):x∈l:=by
 have k:(l.map Int.toNat).Nodup:=by
  unfold List.Nodup at *;rw[se];refine(List.Pairwise.and_mem.1 i).imp λ{a b} h e=>?_;have ha:=d a h.1;have hb:=d b h.2.1;exact h.2.2 (by omega)
 have j:=iT n (l.map Int.toNat) k (λy f=>by
  obtain⟨z,c,rfl⟩:=d9.1 f
  have:=d z c;omega) (by simpa using g) x.toNat (by omega)
 obtain⟨z,c,o⟩:=d9.1 j;have:=d z c
 obtain rfl:z=x:=by omega
 exact c
theorem Nq{lim:Nat}{f:Int->Int->Int}{q:Int}(i:∀nd:List Int,nd.Nodup->(∀x∈nd,0<=x/\x<lim)->nd.length=lim->∀x:Int,0<=x/\x<lim->x∈nd):∀(ls:List Int) {nd row:List Int},nd.Nodup->(∀x∈nd,0<=x/\x<(lim:Int))->(∀l∈ls,0<=f q l/\f q l<lim)->∃p,Er lim f q nd row ls=some p/\p.1.Nodup/\∀x∈p.1,0<=x/\x<(lim:Int)
 | [],nd,row,g,hb,_=>⟨(nd,row),rfl,g,hb⟩
 | l :: ls,nd,row,g,hb,k=>by
  simp only[Er];have d:=k l (by simp);by_cases c:f q l∈nd
  ·rw[if_pos c];exact Nq i ls g hb λm j=>k m (by simp[j])
  ·rw [if_neg c,if_neg λe=>c (i nd g hb e _ d)]
   exact Nq i ls (r8.2 ⟨g,by simp,λa ha b hb=>by simp at hb;subst hb;exact λe=>c (e▸ha)⟩) (λx n=>by
    rcases gc.1 n with h|h
    ·exact hb x h
    ·simp at h;subst h;exact d) λm j=>k m (by simp[j])
theorem RL{lim:Nat}{f:Int->Int->Int}{ls:List Int}(c:∀q l:Int,0<=q/\q<lim->l∈ls->0<=f q l/\f q l<lim):∀(k:Nat) {nd:List Int} {rows:List (List Int)},nd.Nodup->(∀x∈nd,0<=x/\x<(lim:Int))->∃p,FO lim f ls k nd rows=some p
 | 0,nd,rows,_,_=>⟨_,rfl⟩
 | k+1,nd,rows,a,hb=>by
  simp only[FO];split
  ·exact⟨_,rfl⟩
  ·rename_i q e
   obtain⟨p,i,h,g⟩:=Nq (q:=q) (f:=f) (λnd a hb b x d=>ep a hb (by omega) d) ls (row:=[]) a hb (λl b=>c q l (hb q (co e)) b);rw[i];exact RL c k h g
theorem cn{lim:Nat}{f:Int->Int->Int}{ls:List Int}{s:Int}(c:∀q l:Int,0<=q/\q<lim->l∈ls->0<=f q l/\f q l<lim)(b:0<=s/\s<(lim:Int)):∃p,HC lim f ls s=some p:=
 RL c lim (by simp) (λx a=>by simp at a;subst a;exact b)
section
variable {α β:Type}[DecidableEq α][DecidableEq β]
theorem Tm{R:α->Prop}{φ:α->β}(hi:∀a b,R a->R b->φ a=φ b->a=b):∀ {nd:List α} {x:α},(∀y∈nd,R y)->R x->((φ x∈nd.map φ↔x∈nd)/\(nd.map φ).idxOf (φ x)=nd.idxOf x)
 | [],x,_,_=>⟨by simp,rfl⟩
 | y :: nd,x,h,d=>by
  obtain⟨i,g⟩:=Tm hi (nd:=nd) (λz f=>h z (by simp[f])) d
  have e:φ x=φ y↔x=y:=⟨hi x y d (h y (by simp)),λe=>by rw[e]⟩
  refine⟨by rw[rX,lw,lw,i,e],?_⟩;rw[rX,vh,vh,g];by_cases c:y=x
  ·subst c;simp
  ·have j:¬φ y=φ x:=λh=>c (e.1 h.symm).symm
   simp[beq_eq_false_iff_ne.2 c,beq_eq_false_iff_ne.2 j]
theorem PY{lim:Nat}{f:α->Int->α}{g:β->Int->β}{R:α->Prop}{φ:α->β}(hi:∀a b,R a->R b->φ a=φ b->a=b){q:α}:∀(ls:List Int) {nd:List α} {row:List Int},(∀y∈nd,R y)->(∀l∈ls,R (f q l)/\φ (f q l)=g (φ q) l)->
 (Er lim g (φ q) (nd.map φ) row ls=(Er lim f q nd row ls).map λp=>(p.1.map φ,p.2))/\∀p,Er lim f q nd row ls=some p->∀y∈p.1,R y
 | [],nd,row,h,_=>⟨rfl,λp hp=>by simp only[Er,Option.some.injEq]at hp;subst hp;exact h⟩
 | l :: ls,nd,row,h,k=>by
  obtain⟨o,t⟩:=k l (by simp);obtain⟨n,s⟩:=Tm hi h o;simp only[Er];rw[<-t,s];by_cases c:f q l∈nd
  ·rw[if_pos c,if_pos (n.2 c)]
   exact PY hi ls h λm j=>k m (by simp[j])
  ·rw [if_neg c,if_neg (λe=>c (n.1 e)),gt]
   by_cases d:nd.length=lim
   ·rw[if_pos d,if_pos d];exact⟨rfl,λp hp=>by cases hp⟩
   ·rw [if_neg d,if_neg d]
    have e:nd.map φ++[φ (f q l)]=(nd++[f q l]).map φ:=by simp
    rw[e]
    exact PY hi ls (λy r=>by
     rcases gc.1 r with i|i
     ·exact h y i
     ·simp at i;subst i;exact o) λm j=>k m (by simp[j])
theorem Ur{lim:Nat}{f:α->Int->α}{g:β->Int->β}{ls:List Int}{R:α->Prop}{φ:α->β}(hi:∀a b,R a->R b->φ a=φ b->a=b)(c:∀q l,R q->l∈ls->R (f q l)/\φ (f q l)=g (φ q) l):∀(k:Nat) {nd:List α} {rows:List (List Int)},(∀y∈nd,R y)->
 FO lim g ls k (nd.map φ) rows=(FO lim f ls k nd rows).map λp=>(p.1.map φ,p.2)
 | 0,nd,rows,h=>rfl
 | k+1,nd,rows,h=>by
  simp only[FO];rw[f6]
  cases e:nd[rows.length]? with
  | none=>rfl
  | some q=>
   obtain⟨m,j⟩:=PY (lim:=lim) (f:=f) (g:=g) hi (q:=q) ls (row:=[]) h (λl i=>c q l (h q (co e)) i);simp only[rM];rw[m]
   cases d:Er lim f q nd [] ls with
   | none=>rfl
   | some p=>exact Ur hi c k (j p d)
theorem fz{lim:Nat}{f:α->Int->α}{g:β->Int->β}{ls:List Int}{R:α->Prop}{φ:α->β}(hi:∀a b,R a->R b->φ a=φ b->a=b)(e:∀q l,R q->l∈ls->R (f q l)/\φ (f q l)=g (φ q) l){s:α}(d:R s) :
 HC lim g ls (φ s)=(HC lim f ls s).map λp=>(p.1.map φ,p.2):=Ur hi e lim (nd:=[s]) (λy c=>by simp at c;subst c;exact d)
end
theorem Ej{α:Type}{l:List α}{k:Nat}{x d:α}(h:l[k]?=some x):l.getD k d=x:=by rw[jp,h];rfl
def fA(a:AK)(q l:Int):Int:=Bg a q.toNat l
def EG(a:AK)(q:Int):Bool:=a.ac.getD q.toNat false
def Ub(a:AK):AK:=match HC a.nx.length (fA a) (Ab a.al) 0 with
 | some p=>⟨a.al,p.2,p.1.map (EG a)⟩
 | none=>⟨a.al,[],[]⟩
theorem Ds{a:AK}(h:Kw a){q:Nat}(f:q<a.nx.length){l:Int}(j:0<=l)(i:l<6):0<=Bg a q l/\Bg a q l<a.nx.length:=by
 obtain⟨row,e,g,d⟩:=h.2 q f;unfold Bg;split
 ·rename_i hb
  have b:(AI a.al l.toNat).length<row.length:=by rw[g];exact IH (by omega) hb
  obtain⟨y,c⟩:=get_some b;have:=d _ y c
  simpa[List.getD,e,c]using this
 ·omega
theorem Nx{a:AK}:∀(w:List Int) (q:Int),(∀l∈w,l∈Ab a.al)->Cu (fA a) q w=Bk a q (C0 w)
 | [],q,_=>rfl
 | l::w,q,h=>by
  have c:=Af (h l (by simp));have e:Bk a q (C0 (l::w))=Bk a (Bg a q.toNat (((lb l).toNat:Int)-97)) (C0 w):=rfl;rw[e,Fm c.1 (by omega)];exact Nx w _ λm b=>h m (by simp[b])
theorem Nk{s l:Int}(h:l∈Ab s):(Ab s)[(AI s l.toNat).length]?=some l:=by
 obtain⟨k,hk⟩:=sB.1 h;rw[FG hk];exact hk
theorem YM{a:AK}(h:Kw a)(o:1<=a.nx.length):∃nd rows,HC a.nx.length (fA a) (Ab a.al) 0=some (nd,rows)/\Om (fA a) (Ab a.al) 0 nd rows/\nd.length<=a.nx.length/\(∀q∈nd,0<=q/\q<a.nx.length)/\Ub a=⟨a.al,rows,nd.map (EG a)⟩:=by
 have e:∀q l:Int,0<=q/\q<((a.nx.length:Nat):Int)->l∈Ab a.al->0<=fA a q l/\fA a q l<((a.nx.length:Nat):Int):=λq l b c=>by
  have c:=Af c;exact Ds h (q:=q.toNat) (by omega) c.1 (by omega)
 obtain⟨⟨nd,rows⟩,hp⟩:=cn (lim:=a.nx.length) (f:=fA a) (ls:=Ab a.al) (s:=0) e (by omega);obtain⟨g,n,_⟩:=J8 o hp;refine⟨nd,rows,hp,g,n,λq b=>?_,by unfold Ub;rw[hp]⟩;obtain⟨w,k,rfl⟩:=g.rc q b
 have key:∀(w:List Int) (q:Int),(∀l∈w,l∈Ab a.al)->0<=q/\q<((a.nx.length:Nat):Int)->0<=Cu (fA a) q w/\Cu (fA a) q w<((a.nx.length:Nat):Int):=λw=>by
  induction w with
  | nil=>exact λq _ b=>b
  | cons l w i=>exact λq d b=>i _ (λm j=>d m (by simp[j])) (e q l b (d l (by simp)))
 exact key w 0 k (by omega)
theorem l4{a:AK}{nd:List Int}{rows:List (List Int)}(h:Om (fA a) (Ab a.al) 0 nd rows){ac:List Bool}{i:Nat}{q l:Int}(hi:nd[i]?=some q)(b:l∈Ab a.al):Bg ⟨a.al,rows,ac⟩ i l=((nd.idxOf (Bg a q.toNat l):Nat):Int):=by
 have c:=h.row i q hi;have hb:=Af b;unfold Bg;rw[if_pos hb.2.2]
 show (rows.getD i []).getD _ 0=_
 rw[jp,jp,c,sr,f6,Nk b,rM,sr];rfl
theorem iZ{nd:List Int}{x:Int}(h:x∈nd):nd[nd.idxOf x]?=some x:=by
 rw[d6 (rJ.2 h),ti]
theorem Ma{a:AK}{nd:List Int}{rows:List (List Int)}(h:Om (fA a) (Ab a.al) 0 nd rows){ac:List Bool}:∀(w:W) {i:Nat} {q:Int},AL (BA a.al) w->nd[i]?=some q->∃j:Nat,Bk ⟨a.al,rows,ac⟩ i w=j/\nd[j]?=some (Bk a q w)
 | [],i,q,_,hi=>⟨i,rfl,hi⟩
 | c :: w,i,q,f,hi=>by
  obtain⟨l,b,rfl⟩:=d9.1 (f c (by simp));have hb:=Af b;have e:=l4 h (ac:=ac) hi b;have g:=h.cl q (co hi) l b;obtain⟨j,n,m⟩:=Ma h (ac:=ac) w (λd k=>f d (by simp[k])) (iZ g);refine⟨j,?_,?_⟩
  ·show Bk _ (Bg _ ((i:Int).toNat) (((lb l).toNat:Int)-97)) w=_
   rw[Fm hb.1 (by omega),d8,e];exact n
  ·show nd[j]?=some (Bk a (Bg a q.toNat (((lb l).toNat:Int)-97)) w)
   rw[Fm hb.1 (by omega)];exact m
theorem mY{a:AK}(h:Kw a)(g:1<=a.nx.length){w:W}(d:AL (BA a.al) w):LA (Ub a) w=LA a w:=by
 obtain⟨nd,rows,_,c,_,_,e⟩:=YM h g;obtain⟨j,b,f⟩:=Ma c (ac:=nd.map (EG a)) w d c.st;rw[e];unfold LA;have b:Bk ⟨a.al,rows,nd.map (EG a)⟩ 0 w=(j:Int):=b;rw[b]
 show (nd.map (EG a)).getD ((j:Int).toNat) false=_
 rw[d8,jp,f6,f];rfl
theorem oX(a:AK):(Ub a).al=a.al:=by
 unfold Ub;split<;>rfl
theorem qP{a:AK}(h:Kw a)(s:1<=a.nx.length):Kw (Ub a)/\1<=(Ub a).nx.length/\(Ub a).nx.length<=a.nx.length/\(Ub a).ac.length=(Ub a).nx.length/\∀i,i<(Ub a).nx.length->∃w,AL (BA a.al) w/\Bk (Ub a) 0 w=(i:Nat):=by
 obtain⟨nd,rows,_,c,A,z,e⟩:=YM h s;have u:=c.len;have o:=(am.1 c.st).1;have t:=h.1;rw[e];refine⟨⟨?_,λq g=>?_⟩,?_,?_,?_,λi hi=>?_⟩
 ·show rows.length<=64;omega
 ·have g:q<rows.length:=g
  obtain⟨x,d⟩:=get_some (l:=nd) (k:=q) (by omega);refine⟨_,c.row q x d,by simp,λk y b=>?_⟩;rw[f6]at b
  cases hk:(Ab a.al)[k]? with
  | none=>rw[hk]at b;cases b
  | some l=>
   rw[hk]at b
   injection b with b
   have b:((nd.idxOf (fA a x l):Nat):Int)=y:=b;have p:=c.cl x (co d) l (co hk);have:=rJ.2 p
   show 0<=y/\y<((rows.length:Nat):Int)
   omega
 ·show 1<=rows.length;omega
 ·show rows.length<=_;omega
 ·show (nd.map (EG a)).length=rows.length;rw[gt];omega
 ·have hi:i<rows.length:=hi
  obtain⟨x,d⟩:=get_some (l:=nd) (k:=i) (by omega);obtain⟨w,f,n⟩:=c.rc x (co d);rw[Nx w 0 f]at n;obtain⟨j,r,m⟩:=Ma c (ac:=nd.map (EG a)) (C0 w) (QB f) c.st;rw[n,<-d]at m;refine⟨C0 w,QB f,r.trans ?_⟩;have v:=(tU (by omega) c.nodup).1 (m.symm);omega
theorem gK{n:Int}{row:List Int}{k:Nat}(b:row.length=k)(h:∀(i:Nat) y,row[i]?=some y->0<=y/\y<n):Fe k n row=true:=by
 unfold Fe;rw[d4,ge];refine⟨by simp[b],λx a=>?_⟩;obtain⟨i,hi⟩:=sB.1 a;have:=h i x hi;unfold RG;exact decide_eq_true this
theorem Zg{a:AK}(h:Kw a)(j:1<=a.nx.length)(i:a.nx.length<=12)(hal:A1 a.al=true)(e:a.ac.length=a.nx.length):AD a=true:=by
 unfold AD;rw[hal,decide_eq_true (⟨j,i⟩:1<=a.nx.length/\a.nx.length<=12),decide_eq_true e];simp only[ro];rw[ge];intro row d;obtain⟨q,c⟩:=sB.1 d;obtain⟨row',b,g,f⟩:=h.2 q (am.1 c).1
 rw[c]at b;injection b with b;subst b
 exact gK g f
end Go.Am
namespace Go.Am
open Go
theorem UO{f:Nat->Bool}{n k:Nat}(h:GU f n=true)(a:0<k)(hk:k<n):f k=true:=by
 unfold GU at h;have:=(ge.1 h) k (pi.2 hk);simp at this
 rcases this with h|h
 ·omega
 ·exact h
theorem UP{f:Nat->Bool}{n:Nat}(h:∀k,0<k->k<n->f k=true):GU f n=true:=by
 unfold GU;refine ge.2 λk hk=>?_;have hk:=pi.1 hk
 rcases rV k with a|a
 ·subst a;rfl
 ·simp[h k a hk]
structure dD (al:Int) (t:Bl):Prop where
 pos:0<=al
 r1:1<=t.rows.length
 rl:t.rows.length<=12
 c1:1<=t.cols.length
 cl:t.cols.length<=20
 r0:t.rows[0]?=some []
 c0:t.cols[0]?=some []
 rw:∀w∈t.rows,w.length<=50000/\AL (BA al) w
 cw:∀w∈t.cols,w.length<=4000/\AL (BA al) w
 pre:∀(i:Nat) w,t.rows[i]?=some w->0<i->w≠[]/\∃j,j<i/\t.rows[j]?=some w.dropLast
 ndC:t.cols.Nodup
theorem NZ{α:Type}{l:List α}{k:Nat}{x:α}(h:x∈l.take k):∃j,j<k/\l[j]?=some x:=by
 obtain⟨j,a,b⟩:=q9 h
 have c:j<k:=by simp at a;omega
 refine⟨j,c,?_⟩;rw[<-b,List.getElem_take,d6]
theorem NM{α:Type}{l:List α}{j k:Nat}{x:α}(h:l[j]?=some x)(a:j<k):x∈l.take k:=by
 have:(l.take k)[j]?=some x:=by rw[rh,if_pos a];exact h
 exact co this
theorem YW{w:W}{al:Int}(h:within w al=true):w.length<=50000:=by
 unfold within at h;simp only[d4,decide_eq_true_eq]at h;exact h.1
theorem Wu{al:Int}{t:Bl}(h:Gp al t=true):dD al t:=by
 unfold Gp Nz at h;simp only[d4,decide_eq_true_eq]at h;obtain⟨⟨v,q,p,o,n⟩,u,s⟩:=h
 have d:∀(i:Nat) w,t.rows[i]?=some w->0<i->w≠[]/\within w al=true/\w.dropLast∈t.rows.take i:=λi w hi b=>by
  have:=UO u b (am.1 hi).1;unfold rowAt at this;rw[hi]at this;simp only[d4,decide_eq_true_eq,sW,decide_eq_false_iff_not]at this;exact⟨λe=>this.1 (by rw[e];rfl),this.2.1,this.2.2⟩
 have f:∀(i:Nat) w,t.cols[i]?=some w->0<i->w.length<=4000/\within w al=true/\w∉t.cols.take i:=λi w hi b=>by
  have:=UO s b (am.1 hi).1;unfold Pn at this;rw[hi]at this;simp only[d4,decide_eq_true_eq,sW,decide_eq_false_iff_not]at this;exact this
 refine⟨v,q.1,q.2,p.1,p.2,o,n,λw k=>?_,λw k=>?_,λi w hi b=>?_,?_⟩
 ·obtain⟨i,hi,g⟩:=q9 k
  have a:t.rows[i]?=some w:=by rw[d6 hi,g]
  rcases rV i with b|b
  ·subst b
   rw[o]at a;injection a with a;subst a
   exact⟨by simp,λc m=>by cases m⟩
  ·have:=d i w a b
   exact⟨YW this.2.1,Ew this.2.1⟩
 ·obtain⟨i,hi,g⟩:=q9 k
  have a:t.cols[i]?=some w:=by rw[d6 hi,g]
  rcases rV i with b|b
  ·subst b
   rw[n]at a;injection a with a;subst a
   exact⟨by simp,λc m=>by cases m⟩
  ·have:=f i w a b
   exact⟨this.1,Ew this.2.1⟩
 ·have:=d i w hi b
  exact⟨this.1,NZ this.2.2⟩
 ·unfold List.Nodup
  rw[q8];intro i j hi r l g;have:=f j t.cols[j] (d6 r) (by omega);exact this.2.2 (NM (by rw[d6 hi,g]) l)
theorem cV{al:Int}{t:Bl}(ha:A1 al=true)(q:0<=al)(l:1<=t.rows.length/\t.rows.length<=12)(n:1<=t.cols.length/\t.cols.length<=20)(h:t.rows[0]?=some [])(r:t.cols[0]?=some [])
 (rw':∀w∈t.rows,w.length<=50000/\AL (BA al) w) (cw:∀w∈t.cols,w.length<=4000/\AL (BA al) w) (pre:∀(i:Nat) w,t.rows[i]?=some w->0<i->w≠[]/\∃j,j<i/\t.rows[j]?=some w.dropLast) (ndC:t.cols.Nodup):Gp al t=true:=by
 unfold Gp Nz;simp only[d4,decide_eq_true_eq];refine⟨⟨q,l,n,h,r⟩,UP λk hk a=>?_,UP λk hk a=>?_⟩
 ·have c:=d6 a
  obtain⟨p,j,f,o⟩:=pre k _ c hk;have b:=rw' _ (rF a);unfold rowAt;rw[c];simp only[d4,decide_eq_true_eq,sW,decide_eq_false_iff_not];exact⟨λe=>p (pp.1 e),GY b.2 b.1 ha,NM o f⟩
 ·have c:=d6 a
  have b:=cw _ (rF a);unfold Pn;rw[c];simp only[d4,decide_eq_true_eq,sW,decide_eq_false_iff_not];refine⟨b.1,GY b.2 (by omega) ha,λm=>?_⟩;obtain⟨j,f,g⟩:=NZ m;obtain⟨d,g⟩:=am.1 g;exact(q8.1 ndC) j k d a f g
theorem EY{A:W->Bool}{al:Int}{t:Bl}(h:AZ A al t=true):dD al t/\(A2 A t).Nodup:=by
 unfold AZ at h;rw[d4,decide_eq_true_eq]at h;exact⟨Wu h.1,h.2⟩
theorem I0{A:W->Bool}{al:Int}{t:Bl}(h:AZ A al t=true):TOk A (BA al) t:=by
 obtain⟨a,c⟩:=EY h;exact⟨a.r0,a.c0,a.pre,λw b=>(a.rw w b).2,λw b=>(a.cw w b).2,c,a.ndC⟩
theorem Kt{A:W->Bool}{al:Int}{t:Bl}(ha:A1 al=true)(i:0<=al)(h:TOk A (BA al) t)(d:t.rows.length<=12)(e:t.cols.length<=20)(b:∀w∈t.rows,w.length<=50000)(c:∀w∈t.cols,w.length<=4000):AZ A al t=true:=by
 unfold AZ;rw[d4,decide_eq_true_eq];have g:=(am.1 h.r0).1;have f:=(am.1 h.c0).1;exact⟨cV ha i ⟨g,d⟩ ⟨f,e⟩ h.r0 h.c0 (λw a=>⟨b w a,h.onR w a⟩) (λw a=>⟨c w a,h.onC w a⟩) h.pre h.ndC,h.nd⟩
theorem MQ{A:W->Bool}{al:Int}{t:Bl}(h:BC A al t=true):AZ A al t=true/\Bp A (BA al) t=none/\Ci A (BA al) t:=by
 unfold BC at h;rw[d4]at h
 have a:Bp A (BA al) t=none:=by simpa using h.2
 exact⟨h.1,a,⟨I0 h.1,Ha a⟩⟩
theorem dD.sz{al:Int}{t:Bl}(h:dD al t):WU t:=⟨by have:=h.rl;omega,by have:=h.cl;omega,λw a=>by have:=(h.rw w a).1;omega,λw a=>by have:=(h.cw w a).1;omega⟩
def Uj(A L:W->Bool)(al:Int):Prop:=∀w,AL (BA al) w->w.length<=50000->A w=L w
theorem XZ{ls:List UInt8}{u w:W}(b:AL ls u)(a:AL ls w):AL ls (u++w):=λc d=>by
 rcases gc.1 d with h|h
 ·exact b c h
 ·exact a c h
theorem Se{A L:W->Bool}{al:Int}(h:Uj A L al){cols:List W}{w:W}(c:AL (BA al) w)(b:∀x∈cols,AL (BA al) x/\w.length+x.length<=50000):marks A cols w=marks L cols w:=by
 rw[marks,marks,sY];intro x a;rw[h _ (XZ c (b x a).1) (by simp;exact(b x a).2)]
theorem Ii{A L:W->Bool}{al:Int}{b:Nat}{t:Bl}(h:Uj A L al)(ht:WT al b t)(hb:b<=20100):A2 A t=A2 L t:=by
 rw[A2,A2,sY];intro r c;have:=ht.onR r c
 exact Se h this.1 λx a=>⟨(ht.onC x a).1,by have:=(ht.onC x a).2;omega⟩
theorem PU{A L:W->Bool}{al:Int}{b:Nat}{t:Bl}(h:Uj A L al)(ht:WT al b t)(hb:b<=20100){r:W}{l:UInt8}(e:r∈t.rows)(f:l∈BA al):marks A t.cols (r++[l])=marks L t.cols (r++[l]):=by
 have:=ht.onR r e
 refine Se h (XZ this.1 (λc d=>by simp at d;subst d;exact f)) λx a=>⟨(ht.onC x a).1,by have:=(ht.onC x a).2;simp;omega⟩
theorem UM{α:Type}{p q:α->Bool}:∀ {l:List α},(∀x∈l,p x=q x)->l.find? p=l.find? q
 | [],_=>rfl
 | x::l,h=>by
  rw[vg,vg,h x (by simp),UM (l:=l) λy a=>h y (by simp[a])]
theorem Ns{A L:W->Bool}{al:Int}{b:Nat}{t:Bl}(h:Uj A L al)(ht:WT al b t)(hb:b<=20100):Bp A (BA al) t=Bp L (BA al) t:=by
 unfold Bp;refine UM λw a=>?_;unfold Dm at a;simp only[s8,d9]at a;obtain⟨r,c,l,d,rfl⟩:=a;rw[Ii h ht hb,PU h ht hb c d]
theorem Pk{A L:W->Bool}{al:Int}(h:Uj A L al):∀(n:Nat) {b:Nat} {t:Bl},WT al b t->b+n<=20100->BZ A (BA al) n t=BZ L (BA al) n t
 | 0,_,_,_,_=>rfl
 | n + 1,b,t,ht,hb=>by
  unfold BZ;rw[Ns h ht (by omega)]
  cases d:Bp L (BA al) t with
  | none=>rfl
  | some w=>
   dsimp only;by_cases a:t.rows.length=12
   ·rw[if_pos a,if_pos a]
   ·rw[if_neg a,if_neg a]
    have c:=ht.rl;exact Pk h n (ht.push d (by omega)) (by omega)
theorem UZ{A L:W->Bool}{al:Int}{b:Nat}{t:Bl}(h:Uj A L al)(ht:WT al b t)(hb:b<=20100){r:W}{l:UInt8}(a:r∈t.rows)(c:l∈BA al):En A t (r++[l])=En L t (r++[l]):=by
 unfold En;rw[Ii h ht hb,PU h ht hb a c]
theorem Ux{A L:W->Bool}{al:Int}{b:Nat}{t:Bl}(h:Uj A L al)(ht:WT al b t)(hb:b<=20100):Cj A al t=Cj L al t:=by
 unfold Cj;congr 1
 ·refine sY.2 λr a=>sY.2 λl c=>?_
  rw[UZ h ht hb a (ON c)]
 ·refine sY.2 λr a=>?_
  have:=ht.onR r a;rw[h r this.1 (by omega)]
theorem TOk.po{A L:W->Bool}{al:Int}{b:Nat}{t:Bl}(h:Uj A L al)(ht:WT al b t)(hb:b<=20100)(hk:TOk L (BA al) t):TOk A (BA al) t:=⟨hk.r0,hk.c0,hk.pre,hk.onR,hk.onC,by rw[Ii h ht hb];exact hk.nd,hk.ndC⟩
theorem Ci.po{A L:W->Bool}{al:Int}{b:Nat}{t:Bl}(h:Uj A L al)(ht:WT al b t)(hb:b<=20100)(hk:Ci L (BA al) t):Ci A (BA al) t:=⟨hk.toTOk.po h ht hb,λr a l c=>by
 rw[PU h ht hb a c,Ii h ht hb];exact hk.cl r a l c⟩
theorem gL{A:W->Bool}{al:Int}{t:Bl}(h:Ci A (BA al) t){q:Nat}(a:q<t.rows.length):t.rows.getD q []∈t.rows:=by
 rw[List.getD,d6 a];exact rF a
theorem Oc{A L:W->Bool}{al:Int}{l:Nat}{t:Bl}(h:Uj A L al)(ht:WT al l t)(hb:l<=20100)(hk:Ci L (BA al) t)(b:Bool):∀(w:W) (q:Nat),q<t.rows.length->AL (BA al) w->w.length<=20000->splitAt A t b q w=splitAt L t b q w
 | [],_,_,_,_=>rfl
 | c :: w,q,f,g,o=>by
  have n:=gL hk f;have j:=g c (by simp);have r:=UZ h ht hb n j;obtain⟨r',k,_⟩:=hk.idx (i:=q) (d6 f) j
  have p:t.rows.getD q []=t.rows[q]:=by rw[List.getD,d6 f];rfl
  rw[<-p]at k;have e:=(am.1 k).1;have d:=gL hk e;have a:AL (BA al) w:=λx m=>g x (by simp[m]);simp at o
  have s:A (t.rows.getD (En L t (t.rows.getD q []++[c])) []++w)=L (t.rows.getD (En L t (t.rows.getD q []++[c])) []++w):=
   h _ (XZ (ht.onR _ d).1 a) (by have:=(ht.onR _ d).2;simp only[rW];omega)
  unfold splitAt;rw[r,s];split
  ·rfl
  ·exact Oc h ht hb hk b w _ e a (by omega)
section
variable {a b:AK}(ha:AD a=true)(hb:AD b=true)(hal:a.al=b.al)(hL:∀w,AL (BA a.al) w->LA a w=LA b w)
include ha hb hal hL
end
end Go.Am
namespace Go.Am
open Go Go.Proofs
set_option maxHeartbeats 1000000
set_option maxRecDepth 4000
attribute [local irreducible] A5 Ck Lex Br Aj Spec
section
variable {P:Program}{TB:BJ}{U:Ctx}{d:Option Tmp}{ty:TypeId}{pos:String}{af:Array Edge}{g:Option (Nat×Bool)}{f:Env}{σ:Ac}{nx:Nat}
end
variable {TB:BJ}
theorem dD.short{al:Int}{t:Bl}(h:dD al t):∀(i:Nat) w,t.rows[i]?=some w->w.length<=i:=by
 intro i
 induction i using Nat.strongRecOn with
 | ind i b=>
  intro w hi
  rcases rV i with rfl|e
  ·have:=h.r0.symm.trans hi
   injection this with this
   subst this;simp
  ·obtain⟨c,j,d,a⟩:=h.pre i w hi e
   have:=b j d _ a;rw[List.length_dropLast]at this;omega
theorem dD.bd{al:Int}{t:Bl}(h:dD al t):WT al 20000 t:=by
 refine⟨λw b=>⟨(h.rw w b).2,?_⟩,λx a=>⟨(h.cw x a).2,by have:=(h.cw x a).1;omega⟩,h.rl,h.cl⟩;obtain⟨i,hi,c⟩:=q9 b;have:=h.short i w (by rw[d6 hi,c]);have:=h.rl;omega
end Go.Am
namespace Go.Am
open Go Go.Proofs
set_option maxHeartbeats 1000000
set_option maxRecDepth 4000
attribute [local irreducible] A5 Ck Lex Br Aj Spec
variable {TB:BJ}
end Go.Am
