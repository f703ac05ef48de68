/-
  The reference's tables: marks, shapes, the first open word.
-/
import Derived.Test.YtdipaikojjjebaaGreatDoorPart25
set_option linter.all false
namespace Go.Am
open Go Go.Proofs
set_option maxHeartbeats 1000000
set_option maxRecDepth 4000
attribute [local irreducible] A6 CC Lex Bz Ak Spec
variable {TB:BJ}
structure KJ (P:Program) (TB:BJ) (gA gQ:FuncId) (t:EP) (al:Int) (A:W->Bool):Prop where
 alph:Pure P TB gA [EW t] (eI .i64 al)
 ask:∀w:W,w.length<=1099511627776->Pure P TB gQ [EW t,eT w] (eB (A w))
structure WI (t:A0):Prop where
 rl:t.rows.length<=4194304
 cl:t.cols.length<=4194304
 rb:∀w∈t.rows,w.length<=4194304
 cb:∀w∈t.cols,w.length<=4194304
theorem Jr(l:List W)(s:W)(n:l.length<=1099511627776):Pure Tryz.prog TB 203 [BW l,eT s] (eB (decide (s∈l))):=by
 refine eN Tryz.func203 rfl (by kernel_rfl) rfl ?_;intro Γ b;(repeat first|refine tA rfl ?_|refine aU rfl ?_|apply Aa);apply aB;refine aL (α:={k:Nat // k<=l.length/\s∉l.take k}) [0,1] [] rfl rfl (λ⟨k,hk,c⟩=>[(5,eI .i64 k)]) (λ⟨k,hk,c⟩=>[]) 0 (λ⟨k,hk,c⟩=>l.length-k) (⟨0,by omega,by simp⟩) b rfl (by (simp[cX,zC,b])) ?_;rintro⟨k,hk,c⟩;(try dsimp only[cA,cB]);by_cases i:k<l.length
 ·obtain⟨x,e⟩:=get_some i
  have j:=get_map (g:=CX) e;by_cases d:x=s
  ·have m:s∈l:=d▸co e
   (repeat first|refine sN rfl ?_|refine tA rfl ?_|refine s2 rfl λ_ a=>?_|refine aU rfl ?_|apply Aa);(refine aC rfl ?_ ?_<;>rintro⟨⟩)
   ·(repeat' first|(refine sA rfl ?_ ?_;first|exact tI|omega)|(refine s4 rfl ‹_› rfl ?_ ?_;omega)|refine s2 rfl λ_ a=>?_|refine aU rfl ?_|apply Aa|(refine aC rfl ?_ ?_<;>rintro⟨⟩)|apply aK|apply aE|apply aB|refine aR ⟨_,rfl,?_⟩)
    ·simp[m]
    ·exfalso;simp[d]at a
   ·exfalso;(simp only[oZ] at *;omega)
  ·have f:s∉l.take (k+1):=by
    rw[d8,e];intro h
    rcases f6.1 h with h|h
    ·exact c h
    ·simp at h;exact d h.symm
   (repeat first|refine sN rfl ?_|refine tA rfl ?_|refine s2 rfl λ_ a=>?_|refine aU rfl ?_|apply Aa);(refine aC rfl ?_ ?_<;>rintro⟨⟩)
   ·(repeat' first|(refine sA rfl ?_ ?_;first|exact tI|omega)|(refine s4 rfl ‹_› rfl ?_ ?_;omega)|refine s2 rfl λ_ a=>?_|refine aU rfl ?_|apply Aa|(refine aC rfl ?_ ?_<;>rintro⟨⟩)|apply aK|apply aE|apply aB|refine aR ⟨_,rfl,?_⟩)
    ·exfalso;simp[d]at a
    ·refine⟨⟨k+1,by omega,f⟩,by dsimp only;(omega),[],?_⟩
     simp[cX,zC,b]
   ·exfalso;(simp only[oZ] at *;omega)
 ·rw [ge (by omega)]at c
  (repeat first|refine sN rfl ?_|refine tA rfl ?_|refine s2 rfl λ_ a=>?_|refine aU rfl ?_|apply Aa);(refine aC rfl ?_ ?_<;>rintro⟨⟩)
  ·exfalso;(simp only[oZ] at *;omega)
  ·(repeat' first|refine tA rfl ?_|refine aU rfl ?_|apply Aa|(refine aC rfl ?_ ?_<;>rintro⟨⟩)|apply aK|apply aE|apply aB|refine aR ⟨_,rfl,?_⟩)
   simp[c]
theorem XE{A:W->Bool}{cols:List W}{w c:W}{k:Nat}(a:cols[k]?=some c):marks A (cols.take (k+1)) w=marks A (cols.take k) w++[Si (A (w++c))]:=by
 unfold marks;rw[d8,a];simp
theorem aV{A:W->Bool}{cols:List W}{w:W}:(marks A cols w).length=cols.length:=by simp[marks]
theorem Ns{t:EP}{al:Int}{A:W->Bool}(l:KJ Tryz.prog TB 140 186 t al A)(cols:List W)(w:W)(n:cols.length<=4194304)(m:w.length<=4194305)(hb:∀x∈cols,x.length<=4194304) :
 Pure Tryz.prog TB 143 [EW t,BW cols,eT w] (eT (marks A cols w)):=by
 refine eN Tryz.func143 rfl (by kernel_rfl) rfl ?_;intro Γ a;(repeat first|refine tA rfl ?_|refine aU rfl ?_|apply Aa);apply aB;refine aL (α:={k:Nat // k<=cols.length}) [1,2,3] [] rfl rfl (λ⟨k,hk⟩=>[(7,eT (marks A (cols.take k) w)),(8,eI .i64 k)]) (λ⟨k,hk⟩=>[]) 0 (λ⟨k,hk⟩=>cols.length-k) (⟨0,by omega⟩) a rfl (by (simp[cX,zC,a]<;>rfl)) ?_;rintro⟨k,hk⟩;(try dsimp only[cA,cB])
 have j:(marks A (cols.take k) w).length<=4194304:=by rw[aV,qu];omega
 by_cases e:k<cols.length
 ·obtain⟨x,d⟩:=get_some e
  have h:=get_map (g:=CX) d;have f:=hb x (co d);have i:=l.ask (w++x) (by simp;omega);have b:=XE (A:=A) (w:=w) d;(repeat first|refine sN rfl ?_|refine tA rfl ?_|refine s2 rfl λ_ c=>?_|refine aU rfl ?_|apply Aa);(refine aC rfl ?_ ?_<;>rintro⟨⟩)
  ·apply aK
   refine aS (aB ?_);(repeat first|(refine sA rfl ?_ ?_;first|exact tI|omega)|(refine s4 rfl ‹_› rfl ?_ ?_;omega)|(refine sC rfl (i) ?_;intro _ c)|refine aU rfl ?_|apply Aa|refine rE (by kernel_rfl) ?_);(refine aC rfl ?_ ?_<;>rintro⟨⟩)
   ·rw[c]at b
    (repeat first|(refine sA rfl ?_ ?_;first|exact tI|omega|simp only[oZ] at *;omega)|refine aU rfl ?_|apply Aa);refine⟨⟨k+1,by omega⟩,by dsimp only;(omega),[],?_⟩;simp[cX,zC,a,b,Si]
   ·rw[c]at b
    (repeat first|(refine sA rfl ?_ ?_;first|exact tI|omega|simp only[oZ] at *;omega)|refine aU rfl ?_|apply Aa);refine⟨⟨k+1,by omega⟩,by dsimp only;(omega),[],?_⟩;simp[cX,zC,a,b,Si]
  ·exfalso;(simp only[oZ] at *;omega)
 ·obtain rfl:k=cols.length:=by omega
  rw[io];(repeat first|refine sN rfl ?_|refine tA rfl ?_|refine s2 rfl λ_ c=>?_|refine aU rfl ?_|apply Aa);(refine aC rfl ?_ ?_<;>rintro⟨⟩)
  ·exfalso;(simp only[oZ] at *;omega)
  ·(repeat' first|refine tA rfl ?_|refine aU rfl ?_|apply Aa|(refine aC rfl ?_ ?_<;>rintro⟨⟩)|apply aK|apply aE|apply aB|refine aR ⟨_,rfl,?_⟩)
   rfl
theorem La{t:EP}{al:Int}{A:W->Bool}(n:KJ Tryz.prog TB 140 186 t al A)(cols words:List W)(m:cols.length<=4194304)(l:∀w∈words,w.length<=4194305)(hb:∀x∈cols,x.length<=4194304)(j:words.length<=4194304) :
 Pure Tryz.prog TB 141 [EW t,BW cols,BW words] (BW (words.map (marks A cols))):=by
 refine eN Tryz.func141 rfl (by kernel_rfl) rfl ?_;intro Γ a;(repeat first|refine aU rfl ?_);(refine Ag rfl ?_;refine CM (λ_ _=>Dj rfl rfl rfl) rfl ?_);(repeat first|refine tX rfl ?_|refine aU rfl ?_|apply Aa);(refine pW rfl ?_ rfl (by rfl);refine Bj rfl rfl rfl rfl (by simp) (by rfl) (by rfl) (by rfl) (by rfl) ?_);(repeat first|refine tX rfl ?_|refine aU rfl ?_|apply Aa);apply aB;refine aL (α:={k:Nat // k<=words.length}) [1,2,3] [] rfl rfl (λ⟨k,hk⟩=>[(7,.o (.arr 0 1 0 k)),(8,eI .i64 k)]) (λ⟨k,hk⟩=>[(0,.cells 9 1 ((words.take k).map λw=>[.d (tD (marks A cols w))]))]) 1 (λ⟨k,hk⟩=>words.length-k) (⟨0,by omega⟩) a rfl (by (simp[cX,zC,a])) ?_;rintro⟨k,hk⟩;(try dsimp only[cA,cB]);by_cases f:k<words.length
 ·obtain⟨x,c⟩:=get_some f
  have i:=get_map (g:=CX) c;have b:=Ns n cols x m (l x (co c)) hb
  have e:(words.take (k+1)).map (λw=>[C.d (tD (marks A cols w))])=(words.take k).map (λw=>[C.d (tD (marks A cols w))])++[[C.d (tD (marks A cols x))]]:=by rw[d8,c];simp
  (repeat first|refine sN rfl ?_|refine tX rfl ?_|refine s2 rfl λ_ h=>?_|refine aU rfl ?_|apply Aa);(refine aC rfl ?_ ?_<;>rintro⟨⟩)
  ·apply aK
   refine aS (aB ?_);refine rG (Hm [9]) (by kernel_rfl) ?_;(repeat first|refine tA rfl ?_|(refine s4 rfl ‹_› rfl ?_ ?_;omega)|refine sP rfl (b) rfl ?_);(refine pW rfl ?_ rfl (by rfl);refine Au rfl rfl rfl (by first|(simp;done)|(simp;(omega))) rfl (by intro r b;simp at b;subst b;rfl) (by rfl) (am rfl) (by simp;omega) ?_);(repeat first|(refine sA rfl ?_ ?_;first|exact tI|omega)|refine aU rfl ?_|apply Aa);refine⟨⟨k+1,by omega⟩,by dsimp only;(omega),[1],?_⟩;simp[cX,zC,a,e]
  ·exfalso;(simp only[oZ] at *;omega)
 ·obtain rfl:k=words.length:=by omega
  rw[io];(repeat first|refine sN rfl ?_|refine tX rfl ?_|refine s2 rfl λ_ h=>?_|refine aU rfl ?_|apply Aa);(refine aC rfl ?_ ?_<;>rintro⟨⟩)
  ·exfalso;(simp only[oZ] at *;omega)
  ·apply aE
   (repeat first|refine tX rfl ?_|refine aU rfl ?_|apply Aa);refine Ak.settle [(6,BW (words.map (marks A cols)))] ⟨⟨_,rfl,.o (.full rfl (by simp[d5]) (by simp))⟩,trivial⟩ ?_;refine aR ⟨_,rfl,rfl⟩
def rowAt(al:Int)(l:List W)(i:Nat):Bool:=match l[i]? with
 | none=>true
 | some w=>!decide (w.length=0) && (within w al && decide (w.dropLast∈l.take i))
def Pv(al:Int)(l:List W)(i:Nat):Bool:=match l[i]? with
 | none=>true
 | some w=>decide (w.length<=4000) && (within w al && !decide (w∈l.take i))
def GX(f:Nat->Bool)(n:Nat):Bool:=(List.range n).all λi=>decide (i=0) || f i
theorem PE{f:Nat->Bool}{k:Nat}(h:GX f k=true)(a:f k=true):GX f (k+1)=true:=by
 unfold GX at *;rw[qz,List.all_append,h];simp[a]
theorem RU{f:Nat->Bool}{k n:Nat}(b:0<k)(h:k<n)(a:f k=false):GX f n=false:=by
 unfold GX;rw[sH];exact⟨k,o5.2 h,by simp[a];omega⟩
def NK(al:Int)(t:A0):Bool:=decide (0<=al) && (decide (1<=t.rows.length/\t.rows.length<=12) && (decide (1<=t.cols.length/\t.cols.length<=20) && (decide (t.rows[0]?=some []) && decide (t.cols[0]?=some []))))
def Gw(al:Int)(t:A0):Bool:=NK al t && (GX (rowAt al t.rows) t.rows.length && GX (Pv al t.cols) t.cols.length)
theorem UT(al:Int)(t:A0)(s:WI t):Pure Tryz.prog TB 214 [eI .i64 al,Er t] (eB (Gw al t)):=by
 have B:=s.rl;have F:=s.cl;by_cases q:NK al t=true
 ·have n : Gw al t=(GX (rowAt al t.rows) t.rows.length && GX (Pv al t.cols) t.cols.length):=by unfold Gw;rw[q];rfl
  rw[n];unfold NK at q;simp only[d4,decide_eq_true_eq]at q;obtain⟨R,Q,P,L,K⟩:=q;have A:=get_map (g:=CX) (k:=0) L;have z:=get_map (g:=CX) (k:=0) K;have N:((0:Nat):Int).toNat=(0:Int).toNat:=rfl;rw[N]at A z;refine eN Tryz.func214 rfl (by kernel_rfl) rfl ?_;intro Γ b;(repeat' first|refine sN rfl ?_|refine tA rfl ?_|(refine s4 rfl ‹_› rfl ?_ ?_;omega)|refine s2 rfl λ_ a=>?_|refine s3 rfl ?_ ?_<;>rintro rfl|refine aU rfl ?_|apply Aa|(refine aC rfl ?_ ?_<;>rintro⟨⟩)|apply aK|apply aE|apply aB|refine aR ⟨_,rfl,?_⟩)
  all_goals first
   | (exfalso;(simp only[oZ] at *;omega);done)
   | (exfalso;simp at *;done)
   | skip
  refine aL (α:={k:Nat // 1<=k/\k<=t.rows.length/\GX (rowAt al t.rows) k=true}) [0,3,5,6] [] rfl rfl (λ⟨k,c,hk,ha⟩=>[(7,eI .i64 k)]) (λ⟨k,c,hk,ha⟩=>[]) 0 (λ⟨k,c,hk,ha⟩=>t.rows.length-k) (⟨1,by omega,by omega,rfl⟩) b rfl (by (simp[cX,zC,b])) ?_;rintro⟨k,c,hk,ha⟩;(try dsimp only[cA,cB]);by_cases f:k<t.rows.length
  ·obtain⟨x,i⟩:=get_some f
   have v:=get_map (g:=CX) i;have u:=s.rb x (co i)
   have e:rowAt al t.rows k=(!decide (x.length=0) && (within x al && decide (x.dropLast∈t.rows.take k))):=by unfold rowAt;rw[i]
   have j:=Ez (TB:=TB) x al (by omega)
   have p:Pure Tryz.prog TB 203 [.o (.d (.l ((t.rows.map CX).take ((k:Nat):Int).toNat))),eT (x.take ((x.length:Int)-1).toNat)] (eB (decide (x.dropLast∈t.rows.take k))):=by
    have M:(x.take ((x.length:Int)-1).toNat)=x.dropLast:=by rw[List.dropLast_eq_take];congr 1;omega
    rw[M,i7,<-sx];exact Jr _ _ (by simp;omega)
   (repeat first|refine tA rfl ?_|refine s2 rfl λ_ a=>?_|refine aU rfl ?_|apply Aa);(refine aC rfl ?_ ?_<;>rintro⟨⟩)
   ·(repeat' first|(refine sA rfl ?_ ?_;first|exact tI|omega)|(refine s4 rfl ‹_› rfl ?_ ?_;omega)|refine s2 rfl λ_ a=>?_|(refine sC rfl (j) ?_;intro _ a)|(refine sC rfl (p) ?_;intro _ a)|(refine Ag rfl ?_;refine gA rfl ?_;first|refine gS (λ_ _=>O9 rfl rfl (by simp) (by omega) (by (simp only[oZ] at *;omega))) ?_|refine gS (λ_ _=>Zu rfl rfl (by (simp only[oZ] at *;omega)) (by omega)) ?_)|refine s3 rfl ?_ ?_<;>rintro rfl|refine aU rfl ?_|apply Aa|refine rE (by kernel_rfl) ?_|(refine aC rfl ?_ ?_<;>rintro⟨⟩)|apply aK|apply aE|apply aB|refine aR ⟨_,rfl,?_⟩)
    all_goals first
     | (show eB false=eB _;rw[RU (by omega) f (by rw[e];grind)];rfl)
     | (have m:=PE ha (by rw[e];grind);refine⟨⟨k+1,by omega,by omega,m⟩,by dsimp only;(omega),[],?_⟩;simp[cX,zC,b])
   ·exfalso;(simp only[oZ] at *;omega)
  ·obtain rfl:k=t.rows.length:=by omega
   rw[ha];(repeat first|refine tA rfl ?_|refine s2 rfl λ_ a=>?_|refine aU rfl ?_|apply Aa);(refine aC rfl ?_ ?_<;>rintro⟨⟩)
   ·exfalso;(simp only[oZ] at *;omega)
   ·(repeat' first|refine tA rfl ?_|refine aU rfl ?_|apply Aa|(refine aC rfl ?_ ?_<;>rintro⟨⟩)|apply aK|apply aE|apply aB|refine aR ⟨_,rfl,?_⟩)
    refine aL (α:={k:Nat // 1<=k/\k<=t.cols.length/\GX (Pv al t.cols) k=true}) [0,3,6] [] rfl rfl (λ⟨k,c,hk,ha⟩=>[(9,eI .i64 k)]) (λ⟨k,c,hk,ha⟩=>[]) 0 (λ⟨k,c,hk,ha⟩=>t.cols.length-k) (⟨1,by omega,by omega,rfl⟩) b rfl (by (simp[cX,zC,b])) ?_;rintro⟨k,c,hk,ha⟩;(try dsimp only[cA,cB]);by_cases f:k<t.cols.length
    ·obtain⟨x,i⟩:=get_some f
     have v:=get_map (g:=CX) i;have u:=s.cb x (co i)
     have e:Pv al t.cols k=(decide (x.length<=4000) && (within x al && !decide (x∈t.cols.take k))):=by unfold Pv;rw[i]
     have j:=Ez (TB:=TB) x al (by omega)
     have p:Pure Tryz.prog TB 203 [.o (.d (.l ((t.cols.map CX).take ((k:Nat):Int).toNat))),eT x] (eB (decide (x∈t.cols.take k))):=by
      rw[i7,<-sx];exact Jr _ _ (by simp;omega)
     (repeat first|refine tA rfl ?_|refine s2 rfl λ_ a=>?_|refine aU rfl ?_|apply Aa);(refine aC rfl ?_ ?_<;>rintro⟨⟩)
     ·(repeat' first|(refine sA rfl ?_ ?_;first|exact tI|omega)|(refine s4 rfl ‹_› rfl ?_ ?_;omega)|refine s2 rfl λ_ a=>?_|(refine sC rfl (j) ?_;intro _ a)|(refine sC rfl (p) ?_;intro _ a)|(refine Ag rfl ?_;refine gA rfl ?_;first|refine gS (λ_ _=>O9 rfl rfl (by simp) (by omega) (by (simp only[oZ] at *;omega))) ?_)|refine s3 rfl ?_ ?_<;>rintro rfl|refine aU rfl ?_|apply Aa|(refine aC rfl ?_ ?_<;>rintro⟨⟩)|apply aK|apply aE|apply aB|refine aR ⟨_,rfl,?_⟩)
      all_goals first
       | (show eB false=eB _;rw[RU (by omega) f (by rw[e];grind)];rfl)
       | (have m:=PE ha (by rw[e];grind);refine⟨⟨k+1,by omega,by omega,m⟩,by dsimp only;(omega),[],?_⟩;simp[cX,zC,b])
     ·exfalso;(simp only[oZ] at *;omega)
    ·obtain rfl:k=t.cols.length:=by omega
     rw[ha];(repeat first|refine tA rfl ?_|refine s2 rfl λ_ a=>?_|refine aU rfl ?_|apply Aa);(refine aC rfl ?_ ?_<;>rintro⟨⟩)
     ·exfalso;(simp only[oZ] at *;omega)
     ·(repeat' first|refine tA rfl ?_|refine aU rfl ?_|apply Aa|(refine aC rfl ?_ ?_<;>rintro⟨⟩)|apply aK|apply aE|apply aB|refine aR ⟨_,rfl,?_⟩)
      rfl
 ·have n:Gw al t=false:=by unfold Gw;simp[q]
  rw[n]
  have r:¬(0<=al/\(1<=t.rows.length/\t.rows.length<=12)/\(1<=t.cols.length/\t.cols.length<=20)/\t.rows[0]?=some []/\t.cols[0]?=some []):=by
   intro h;apply q;unfold NK;simp[h]
  have w:(t.rows.map CX)[(0:Int).toNat]?=(t.rows[0]?).map CX:=by simp
  have y:(t.cols.map CX)[(0:Int).toNat]?=(t.cols[0]?).map CX:=by simp
  have G:t.rows[0]?=none->t.rows.length=0:=λh=>by have:=qV.1 h;omega
  have I:t.cols[0]?=none->t.cols.length=0:=λh=>by have:=qV.1 h;omega
  refine eN Tryz.func214 rfl (by kernel_rfl) rfl ?_;intro Γ b
  cases H:t.rows[0]?<;>cases J:t.cols[0]?<;>rw[H]at w r<;>rw[J]at y r<;>(
   (repeat' first|refine sN rfl ?_|refine tA rfl ?_|(refine s4 rfl ‹_› rfl ?_ ?_;omega)|refine s2 rfl λ_ a=>?_|refine s3 rfl ?_ ?_<;>rintro rfl|refine aU rfl ?_|apply Aa|(refine aC rfl ?_ ?_<;>rintro⟨⟩)|apply aK|apply aE|apply aB|refine aR ⟨_,rfl,?_⟩)
   all_goals first
    | rfl
    | (exfalso;grind;done))
def Gs(al:Int)(w:W):Bool:=within w al && decide (w.length<=4000)
theorem PM{t:EP}{al:Int}{A:W->Bool}(e:KJ Tryz.prog TB 140 186 t al A)(w:W)(c:w.length<=1099511627776):Pure Tryz.prog TB 200 [EW t,eT w] (eB (Gs al w)):=by
 have g:=e.alph;have f:=Ez (TB:=TB) w al c
 have d:Gs al w=(within w al && decide ((w.length:Int)<=4000)):=by unfold Gs;congr 1;rw[decide_eq_decide];omega
 rw[d];refine eN Tryz.func200 rfl (by kernel_rfl) rfl ?_;intro Γ b;(repeat' first|refine tA rfl ?_|refine s2 rfl λ_ a=>?_|refine sP rfl (g) rfl ?_|(refine sC rfl (f) ?_;intro _ a)|refine s3 rfl ?_ ?_<;>rintro rfl|refine aU rfl ?_|apply Aa|(refine aC rfl ?_ ?_<;>rintro⟨⟩)|apply aK|apply aE|apply aB|refine aR ⟨_,rfl,?_⟩)
 all_goals (show E.o _=E.o _;congr;grind)
def A4(A:W->Bool)(al:Int)(t:A0):Bool:=Gw al t && decide (AK A t).Nodup
theorem gz{l:List W}{k:Nat}{x:W}(c:l[k]?=some x)(h:(l.take k).Nodup)(d:x∉l.take k):(l.take (k+1)).Nodup:=by
 rw[d8,c,qD];refine⟨h,by simp,λa ha b hb e=>?_⟩;simp at hb;subst hb;exact d (e▸ha)
theorem jK{l:List W}{k:Nat}{x:W}(a:l[k]?=some x)(b:x∈l.take k):¬l.Nodup:=by
 intro h;obtain⟨c,rfl⟩:=ce.1 a;rw[<-pP k l,qD]at h;exact h.2.2 _ b _ (by rw[qS c];exact qO) rfl
theorem FP{t:EP}{al:Int}{A:W->Bool}(q:KJ Tryz.prog TB 140 186 t al A)(tab:A0)(c:WI tab):Pure Tryz.prog TB 182 [EW t,Er tab] (eB (A4 A al tab)):=by
 have s:=q.alph;have r:=UT (TB:=TB) al tab c;have B:=La q tab.cols tab.rows c.cl (λw v=>by have:=c.rb w v;omega) c.cb c.rl;by_cases p:Gw al tab=true
 ·have h:A4 A al tab=decide (AK A tab).Nodup:=by unfold A4;rw[p];rfl
  rw[h];have n:Pure Tryz.prog TB 141 [EW t,BW tab.cols,BW tab.rows] (BW (AK A tab)):=B
  have z:(AK A tab).length=tab.rows.length:=by simp[AK]
  have y:=c.rl;generalize AK A tab=l at *;refine eN Tryz.func182 rfl (by kernel_rfl) rfl ?_;intro Γ b;(repeat' first|refine tA rfl ?_|refine s2 rfl λ_ a=>?_|refine sP rfl (s) rfl ?_|(refine sC rfl (r) ?_;intro _ a)|refine sP rfl (n) rfl ?_|refine aU rfl ?_|apply Aa|refine rE (by kernel_rfl) ?_|(refine aC rfl ?_ ?_<;>rintro⟨⟩)|apply aK|apply aE|apply aB|refine aR ⟨_,rfl,?_⟩)
  all_goals first
   | (exfalso;grind;done)
   | skip
  refine aL (α:={k:Nat // k<=l.length/\(l.take k).Nodup}) [5] [] rfl rfl (λ⟨k,hk,e⟩=>[(6,eI .i64 k)]) (λ⟨k,hk,e⟩=>[]) 0 (λ⟨k,hk,e⟩=>l.length-k) (⟨0,by omega,by simp⟩) b rfl (by (simp[cX,zC,b])) ?_;rintro⟨k,hk,e⟩;(try dsimp only[cA,cB]);by_cases j:k<l.length
  ·obtain⟨x,f⟩:=get_some j
   have u:=get_map (g:=CX) f
   have m:Pure Tryz.prog TB 203 [.o (.d (.l ((l.map CX).take ((k:Nat):Int).toNat))),eT x] (eB (decide (x∈l.take k))):=by
    rw[i7,<-sx];exact Jr _ _ (by simp;omega)
   (repeat first|refine sN rfl ?_|refine tA rfl ?_|refine s2 rfl λ_ a=>?_|refine aU rfl ?_|apply Aa);(refine aC rfl ?_ ?_<;>rintro⟨⟩)
   ·(repeat' first|(refine sA rfl ?_ ?_;first|exact tI|omega)|(refine s4 rfl ‹_› rfl ?_ ?_;omega)|(refine sC rfl (m) ?_;intro _ a)|(refine Ag rfl ?_;refine gA rfl ?_;first|refine gS (λ_ _=>O9 rfl rfl (by simp) (by omega) (by (simp only[oZ] at *;omega))) ?_)|refine aU rfl ?_|apply Aa|refine rE (by kernel_rfl) ?_|(refine aC rfl ?_ ?_<;>rintro⟨⟩)|apply aK|apply aE|apply aB|refine aR ⟨_,rfl,?_⟩)
    ·show eB false=eB _
     rw[decide_eq_false (jK f (by simpa using a))]
    ·have i:=gz f e (by simpa using a)
     refine⟨⟨k+1,by omega,i⟩,by dsimp only;(omega),[],?_⟩;simp[cX,zC,b]
   ·exfalso;(simp only[oZ] at *;omega)
  ·rw [ge (by omega)]at e
   (repeat first|refine sN rfl ?_|refine tA rfl ?_|refine s2 rfl λ_ a=>?_|refine aU rfl ?_|apply Aa);(refine aC rfl ?_ ?_<;>rintro⟨⟩)
   ·exfalso;(simp only[oZ] at *;omega)
   ·(repeat' first|refine tA rfl ?_|refine aU rfl ?_|apply Aa|(refine aC rfl ?_ ?_<;>rintro⟨⟩)|apply aK|apply aE|apply aB|refine aR ⟨_,rfl,?_⟩)
    rw[decide_eq_true e]
 ·have h:A4 A al tab=false:=by unfold A4;simp[p]
  rw[h];refine eN Tryz.func182 rfl (by kernel_rfl) rfl ?_;intro Γ b;(repeat' first|refine tA rfl ?_|refine s2 rfl λ_ a=>?_|refine sP rfl (s) rfl ?_|(refine sC rfl (r) ?_;intro _ a)|refine aU rfl ?_|apply Aa|refine rE (by kernel_rfl) ?_|(refine aC rfl ?_ ?_<;>rintro⟨⟩)|apply aK|apply aE|apply aB|refine aR ⟨_,rfl,?_⟩)
  all_goals first
   | rfl
   | (exfalso;grind;done)
theorem KZ{t:EP}{al:Int}{A:W->Bool}(G:KJ Tryz.prog TB 140 186 t al A)(tab:A0)(h:WI tab):Pure Tryz.prog TB 183 [EW t,Er tab] (ah (Bg A (A7 al) tab)):=by
 have P:=G.alph;have N:=Cm (TB:=TB) al;have M:Pure Tryz.prog TB 141 [EW t,BW tab.cols,BW tab.rows] (BW (AK A tab)):=La G tab.cols tab.rows h.cl (λw f=>by have:=h.rb w f;omega) h.cb h.rl;have I:=h.rl;have K:(Ac al).length<=6:=AM al 6;refine eN Tryz.func183 rfl (by kernel_rfl) rfl ?_;intro Γ a;(repeat' first|refine tA rfl ?_|refine sP rfl (P) rfl ?_|refine sP rfl (N) rfl ?_|refine sP rfl (M) rfl ?_|refine aU rfl ?_|apply Aa|(refine aC rfl ?_ ?_<;>rintro⟨⟩)|apply aK|apply aE|apply aB|refine aR ⟨_,rfl,?_⟩);refine aL (α:={k:Nat // k<=tab.rows.length/\∀w∈CW (A7 al) (tab.rows.take k),marks A tab.cols w∈AK A tab}) [2,3,6,7] [] rfl rfl (λ⟨k,hk,b⟩=>[(8,eI .i64 k)]) (λ⟨k,hk,b⟩=>[]) 0 (λ⟨k,hk,b⟩=>tab.rows.length-k) (⟨0,by omega,by simp[CW]⟩) a rfl (by (simp[cX,zC,a])) ?_;rintro⟨k,hk,b⟩;(try dsimp only[cA,cB]);by_cases v:k<tab.rows.length
 ·obtain⟨r, d⟩:=get_some v
  have H:=get_map (g:=CX) d;have J:=h.rb r (co d);(repeat first|refine sN rfl ?_|refine tA rfl ?_|refine s2 rfl λ_ e=>?_|refine aU rfl ?_|apply Aa);(refine aC rfl ?_ ?_<;>rintro⟨⟩)
  ·apply aK
   refine aS (aB ?_);(repeat first|refine tA rfl ?_|refine aU rfl ?_|apply Aa);apply aB;refine aL (α:={j:Nat // j<=(Ac al).length/\∀x∈(A7 al).take j,marks A tab.cols (r++[x])∈AK A tab}) [2,3,6,7,8] [] rfl rfl (λ⟨j,B,c⟩=>[(9,eI .i64 j)]) (λ⟨j,B,c⟩=>[]) 0 (λ⟨j,B,c⟩=>(Ac al).length-j) (⟨0,by omega,by simp⟩) a rfl (by (simp[cX,zC,a])) ?_;rintro⟨j,B,c⟩;(try dsimp only[cA,cB]);by_cases p:j<(Ac al).length
   ·obtain⟨l,z⟩:=get_some p
    have L:=get_map (g:=Bs) z;have y:=Aj (co z)
    have n:(A7 al)[j]?=some (lb l):=by simp[A7,z]
    have u:Pure Tryz.prog TB 101 [eI .i64 l] (eT [lb l]):=HX l y.1 (by omega);have m:=Ns G tab.cols (r++[lb l]) h.cl (by simp;omega) h.cb;have F:=Jr (TB:=TB) (AK A tab) (marks A tab.cols (r++[lb l])) (by simp[AK];omega);(repeat first|refine sN rfl ?_|refine tA rfl ?_|refine s2 rfl λ_ e=>?_|refine aU rfl ?_|apply Aa);(refine aC rfl ?_ ?_<;>rintro⟨⟩)
    ·(repeat' first|(refine sA rfl ?_ ?_;first|exact tI|omega|simp only[oZ] at *;omega)|(refine s4 rfl ‹_› rfl ?_ ?_;omega)|refine s2 rfl λ_ e=>?_|refine sP rfl (u) rfl ?_|refine sP rfl (m) rfl ?_|(refine sC rfl (F) ?_;intro _ e)|refine aU rfl ?_|apply Aa|refine rE (by kernel_rfl) ?_|(refine aC rfl ?_ ?_<;>rintro⟨⟩)|apply aK|apply aE|apply aB|refine aR ⟨_,rfl,?_⟩)
     ·have hno:marks A tab.cols (r++[lb l])∉AK A tab:=by grind
      rw[Zl d n b c hno];rfl
     ·have i:marks A tab.cols (r++[lb l])∈AK A tab:=by grind
      have q:∀x∈(A7 al).take (j+1),marks A tab.cols (r++[x])∈AK A tab:=λx d=>by
       rw[d8,n]at d
       rcases f6.1 d with d|d
       ·exact c x d
       ·simp at d;subst d;exact i
      refine⟨⟨j+1,by omega,q⟩,by dsimp only;(omega),[],?_⟩;simp[cX,zC,a]
    ·exfalso;(simp only[oZ] at *;omega)
   ·have o:∀w∈CW (A7 al) (tab.rows.take (k+1)),marks A tab.cols w∈AK A tab:=λw f=>by
     rw[PY d]at f
     rcases f6.1 f with f|f
     ·exact b w f
     ·obtain⟨x,s,rfl⟩:=d9.1 f
      exact c x (by rw[ge (by simp[A7];omega)];exact s)
    (repeat first|refine sN rfl ?_|refine tA rfl ?_|refine s2 rfl λ_ e=>?_|refine aU rfl ?_|apply Aa);(refine aC rfl ?_ ?_<;>rintro⟨⟩)
    ·exfalso;(simp only[oZ] at *;omega)
    ·(repeat' first|(refine sA rfl ?_ ?_;first|exact tI|omega)|refine aU rfl ?_|apply Aa|(refine aC rfl ?_ ?_<;>rintro⟨⟩)|apply aK|apply aE|apply aB|refine aR ⟨_,rfl,?_⟩)
     refine⟨⟨k+1,by omega,o⟩,by dsimp only;(omega),[],?_⟩;simp[cX,zC,a]
  ·exfalso;(simp only[oZ] at *;omega)
 ·have hno:Bg A (A7 al) tab=none:=qN.2 λw f=>by
   have:=b w (by rw[ge (by omega)];exact f)
   simpa using this
  rw[hno];(repeat first|refine sN rfl ?_|refine tA rfl ?_|refine s2 rfl λ_ e=>?_|refine aU rfl ?_|apply Aa);(refine aC rfl ?_ ?_<;>rintro⟨⟩)
  ·exfalso;(simp only[oZ] at *;omega)
  ·(repeat' first|refine tA rfl ?_|refine aU rfl ?_|apply Aa|(refine aC rfl ?_ ?_<;>rintro⟨⟩)|apply aK|apply aE|apply aB|refine aR ⟨_,rfl,?_⟩)
   rfl
theorem Rm{t:EP}{al:Int}{A:W->Bool}(e:KJ Tryz.prog TB 140 186 t al A)(tab:A0)(c:WI tab):Pure Tryz.prog TB 184 [EW t,Er tab] (ah (if A4 A al tab then Bg A (A7 al) tab else none)):=by
 have g:=FP e tab c;have f:=KZ e tab c;by_cases d:A4 A al tab=true
 ·rw [if_pos d]
  cases h:Bg A (A7 al) tab<;>rw[h]at f<;>(
   refine eN Tryz.func184 rfl (by kernel_rfl) rfl ?_;intro Γ b;(repeat' first|refine tA rfl ?_|refine s2 rfl λ_ a=>?_|(refine sC rfl (g) ?_;intro _ a)|refine sP rfl (f) rfl ?_|refine aU rfl ?_|apply Aa|(refine aC rfl ?_ ?_<;>rintro⟨⟩)|apply aK|apply aE|apply aB|refine aR ⟨_,rfl,?_⟩)
   all_goals first
    | rfl
    | (exfalso;grind;done))
 ·rw [if_neg d]
  refine eN Tryz.func184 rfl (by kernel_rfl) rfl ?_;intro Γ b;(repeat' first|refine tA rfl ?_|refine s2 rfl λ_ a=>?_|(refine sC rfl (g) ?_;intro _ a)|refine aU rfl ?_|apply Aa|(refine aC rfl ?_ ?_<;>rintro⟨⟩)|apply aK|apply aE|apply aB|refine aR ⟨_,rfl,?_⟩)
  all_goals first
   | rfl
   | (exfalso;grind;done)
def BA(A:W->Bool)(al:Int)(t:A0):Bool:=A4 A al t && (Bg A (A7 al) t).isNone
theorem Qz{t:EP}{al:Int}{A:W->Bool}(g:KJ Tryz.prog TB 140 186 t al A)(tab:A0)(f:WI tab):Pure Tryz.prog TB 139 [EW t,Er tab] (eB (BA A al tab)):=by
 have h:=FP g tab f;have b:=Rm g tab f;by_cases c:A4 A al tab=true
 ·rw [if_pos c]at b
  have e:BA A al tab=(Bg A (A7 al) tab).isNone:=by unfold BA;rw[c];rfl
  rw[e]
  cases i:Bg A (A7 al) tab<;>rw[i]at b<;>(
   refine eN Tryz.func139 rfl (by kernel_rfl) rfl ?_;intro Γ d;(repeat' first|refine tA rfl ?_|refine s2 rfl λ_ a=>?_|(refine sC rfl (h) ?_;intro _ a)|refine sP rfl (b) rfl ?_|refine s3 rfl ?_ ?_<;>rintro rfl|refine aU rfl ?_|apply Aa|(refine aC rfl ?_ ?_<;>rintro⟨⟩)|apply aK|apply aE|apply aB|refine aR ⟨_,rfl,?_⟩)
   all_goals first
    | rfl
    | (exfalso;grind;done)
    | (show E.o _=E.o _;congr;first|grind|(simp at *;assumption)))
 ·rw [if_neg c]at b
  have e:BA A al tab=false:=by unfold BA;simp[c]
  rw[e];refine eN Tryz.func139 rfl (by kernel_rfl) rfl ?_;intro Γ d;(repeat' first|refine tA rfl ?_|refine s2 rfl λ_ a=>?_|(refine sC rfl (h) ?_;intro _ a)|refine sP rfl (b) rfl ?_|refine s3 rfl ?_ ?_<;>rintro rfl|refine aU rfl ?_|apply Aa|(refine aC rfl ?_ ?_<;>rintro⟨⟩)|apply aK|apply aE|apply aB|refine aR ⟨_,rfl,?_⟩)
  all_goals first
   | rfl
   | (exfalso;grind;done)
theorem jB{l:List W}{s:W}{k:Nat}(a:l[k]?=some s)(b:s∉l.take k):l.idxOf s=k:=by
 have c:k<l.length:=(ce.1 a).1
 have e:l=l.take k++s::l.drop (k+1):=by rw[<-BF a,pP]
 rw[e,sK,if_neg b,si];simp;omega
theorem US(l:List W)(s:W)(m:s∈l)(o:l.length<=1099511627776):Pure Tryz.prog TB 142 [BW l,eT s] (eI .i64 (l.idxOf s:Nat)):=by
 refine eN Tryz.func142 rfl (by kernel_rfl) rfl ?_;intro Γ a;(repeat first|refine tA rfl ?_|refine aU rfl ?_|apply Aa);apply aB;refine aL (α:={k:Nat // k<=l.length/\s∉l.take k}) [0,1] [] rfl rfl (λ⟨k,hk,b⟩=>[(5,eI .i64 k)]) (λ⟨k,hk,b⟩=>[]) 0 (λ⟨k,hk,b⟩=>l.length-k) (⟨0,by omega,by simp⟩) a rfl (by (simp[cX,zC,a])) ?_;rintro⟨k,hk,b⟩;(try dsimp only[cA,cB])
 have i:k<l.length:=by
  rcases po k l.length with h|h
  ·exact h
  ·rw[ge h]at b;exact absurd m b
 obtain⟨x,d⟩:=get_some (l:=l) (k:=k) i;have j:=get_map (g:=CX) d;by_cases e:x=s
 ·subst e
  have n:=jB d b;rw[n];(repeat first|refine tA rfl ?_|(refine s4 rfl ‹_› rfl ?_ ?_;omega)|refine s2 rfl λ_ c=>?_|refine aU rfl ?_|apply Aa);(refine aC rfl ?_ ?_<;>rintro⟨⟩)
  ·exfalso;simp at c
  ·(repeat' first|refine tA rfl ?_|refine aU rfl ?_|apply Aa|(refine aC rfl ?_ ?_<;>rintro⟨⟩)|apply aK|apply aE|apply aB|refine aR ⟨_,rfl,?_⟩)
   rfl
 ·have f:s∉l.take (k+1):=by
   rw[d8,d];intro h
   rcases f6.1 h with h|h
   ·exact b h
   ·simp at h;exact e h.symm
  (repeat first|refine tA rfl ?_|(refine s4 rfl ‹_› rfl ?_ ?_;omega)|refine s2 rfl λ_ c=>?_|refine aU rfl ?_|apply Aa);(refine aC rfl ?_ ?_<;>rintro⟨⟩)
  ·(repeat' first|(refine sA rfl ?_ ?_;first|exact tI|omega)|refine aU rfl ?_|apply Aa|(refine aC rfl ?_ ?_<;>rintro⟨⟩)|apply aK|apply aE|apply aB|refine aR ⟨_,rfl,?_⟩)
   refine⟨⟨k+1,by omega,f⟩,by dsimp only;(omega),[],?_⟩;simp[cX,zC,a]
  ·exfalso;simp[e]at c
end Go.Am
namespace Go.Am
open Go
theorem UI{f:Nat->Bool}{n k:Nat}(h:GX f n=true)(a:0<k)(hk:k<n):f k=true:=by
 unfold GX at h;have:=(f7.1 h) k (o5.2 hk);simp at this
 rcases this with h|h
 ·omega
 ·exact h
theorem UJ{f:Nat->Bool}{n:Nat}(h:∀k,0<k->k<n->f k=true):GX f n=true:=by
 unfold GX;refine f7.2 λk hk=>?_;have hk:=o5.1 hk
 rcases pL k with a|a
 ·subst a;rfl
 ·simp[h k a hk]
structure cf (al:Int) (t:A0):Prop where
 pos:0<=al
 r1:1<=t.rows.length
 rl:t.rows.length<=12
 c1:1<=t.cols.length
 cl:t.cols.length<=20
 r0:t.rows[0]?=some []
 c0:t.cols[0]?=some []
 rw:∀w∈t.rows,w.length<=50000/\AP (A7 al) w
 cw:∀w∈t.cols,w.length<=4000/\AP (A7 al) w
 pre:∀(i:Nat) w,t.rows[i]?=some w->0<i->w≠[]/\∃j,j<i/\t.rows[j]?=some w.dropLast
 ndC:t.cols.Nodup
theorem Oi{α:Type}{l:List α}{k:Nat}{x:α}(h:x∈l.take k):∃j,j<k/\l[j]?=some x:=by
 obtain⟨j,a,b⟩:=pk h
 have c:j<k:=by simp at a;omega
 refine⟨j,c,?_⟩;rw[<-b,List.getElem_take,d6]
theorem NZ{α:Type}{l:List α}{j k:Nat}{x:α}(h:l[j]?=some x)(a:j<k):x∈l.take k:=by
 have:(l.take k)[j]?=some x:=by rw[pi,if_pos a];exact h
 exact co this
theorem Yy{w:W}{al:Int}(h:within w al=true):w.length<=50000:=by
 unfold within at h;simp only[d4,decide_eq_true_eq]at h;exact h.1
theorem VS{al:Int}{t:A0}(h:Gw al t=true):cf al t:=by
 unfold Gw NK at h;simp only[d4,decide_eq_true_eq]at h;obtain⟨⟨v,q,p,o,n⟩,u,s⟩:=h
 have d:∀(i:Nat) w,t.rows[i]?=some w->0<i->w≠[]/\within w al=true/\w.dropLast∈t.rows.take i:=λi w hi b=>by
  have:=UI u b (ce.1 hi).1;unfold rowAt at this;rw[hi]at this;simp only[d4,decide_eq_true_eq,qC,decide_eq_false_iff_not]at this;exact⟨λe=>this.1 (by rw[e];rfl),this.2.1,this.2.2⟩
 have f:∀(i:Nat) w,t.cols[i]?=some w->0<i->w.length<=4000/\within w al=true/\w∉t.cols.take i:=λi w hi b=>by
  have:=UI s b (ce.1 hi).1;unfold Pv at this;rw[hi]at this;simp only[d4,decide_eq_true_eq,qC,decide_eq_false_iff_not]at this;exact this
 refine⟨v,q.1,q.2,p.1,p.2,o,n,λw k=>?_,λw k=>?_,λi w hi b=>?_,?_⟩
 ·obtain⟨i,hi,g⟩:=pk k
  have a:t.rows[i]?=some w:=by rw[d6 hi,g]
  rcases pL i with b|b
  ·subst b
   rw[o]at a;injection a with a;subst a
   exact⟨by simp,λc m=>by cases m⟩
  ·have:=d i w a b
   exact⟨Yy this.2.1,EN this.2.1⟩
 ·obtain⟨i,hi,g⟩:=pk k
  have a:t.cols[i]?=some w:=by rw[d6 hi,g]
  rcases pL i with b|b
  ·subst b
   rw[n]at a;injection a with a;subst a
   exact⟨by simp,λc m=>by cases m⟩
  ·have:=f i w a b
   exact⟨this.1,EN this.2.1⟩
 ·have:=d i w hi b
  exact⟨this.1,Oi this.2.2⟩
 ·unfold List.Nodup
  rw[o7];intro i j hi r l g;have:=f j t.cols[j] (d6 r) (by omega);exact this.2.2 (NZ (by rw[d6 hi,g]) l)
theorem bH{al:Int}{t:A0}(ha:Bb al=true)(q:0<=al)(l:1<=t.rows.length/\t.rows.length<=12)(n:1<=t.cols.length/\t.cols.length<=20)(h:t.rows[0]?=some [])(r:t.cols[0]?=some [])
 (rw':∀w∈t.rows,w.length<=50000/\AP (A7 al) w) (cw:∀w∈t.cols,w.length<=4000/\AP (A7 al) w) (pre:∀(i:Nat) w,t.rows[i]?=some w->0<i->w≠[]/\∃j,j<i/\t.rows[j]?=some w.dropLast) (ndC:t.cols.Nodup):Gw al t=true:=by
 unfold Gw NK;simp only[d4,decide_eq_true_eq];refine⟨⟨q,l,n,h,r⟩,UJ λk hk a=>?_,UJ λk hk a=>?_⟩
 ·have c:=d6 a
  obtain⟨p,j,f,o⟩:=pre k _ c hk;have b:=rw' _ (pz a);unfold rowAt;rw[c];simp only[d4,decide_eq_true_eq,qC,decide_eq_false_iff_not];exact⟨λe=>p (mt.1 e),Ha b.2 b.1 ha,NZ o f⟩
 ·have c:=d6 a
  have b:=cw _ (pz a);unfold Pv;rw[c];simp only[d4,decide_eq_true_eq,qC,decide_eq_false_iff_not];refine⟨b.1,Ha b.2 (by omega) ha,λm=>?_⟩;obtain⟨j,f,g⟩:=Oi m;obtain⟨d,g⟩:=ce.1 g;exact(o7.1 ndC) j k d a f g
theorem Ey{A:W->Bool}{al:Int}{t:A0}(h:A4 A al t=true):cf al t/\(AK A t).Nodup:=by
 unfold A4 at h;rw[d4,decide_eq_true_eq]at h;exact⟨VS h.1,h.2⟩
theorem IU{A:W->Bool}{al:Int}{t:A0}(h:A4 A al t=true):TOk A (A7 al) t:=by
 obtain⟨a,c⟩:=Ey h;exact⟨a.r0,a.c0,a.pre,λw b=>(a.rw w b).2,λw b=>(a.cw w b).2,c,a.ndC⟩
theorem Kr{A:W->Bool}{al:Int}{t:A0}(ha:Bb al=true)(i:0<=al)(h:TOk A (A7 al) t)(d:t.rows.length<=12)(e:t.cols.length<=20)(b:∀w∈t.rows,w.length<=50000)(c:∀w∈t.cols,w.length<=4000):A4 A al t=true:=by
 unfold A4;rw[d4,decide_eq_true_eq];have g:=(ce.1 h.r0).1;have f:=(ce.1 h.c0).1;exact⟨bH ha i ⟨g,d⟩ ⟨f,e⟩ h.r0 h.c0 (λw a=>⟨b w a,h.onR w a⟩) (λw a=>⟨c w a,h.onC w a⟩) h.pre h.ndC,h.nd⟩
theorem JQ{A:W->Bool}{al:Int}{t:A0}(h:BA A al t=true):A4 A al t=true/\Bg A (A7 al) t=none/\BV A (A7 al) t:=by
 unfold BA at h;rw[d4]at h
 have a:Bg A (A7 al) t=none:=by simpa using h.2
 exact⟨h.1,a,⟨IU h.1,Hc a⟩⟩
theorem cf.sz{al:Int}{t:A0}(h:cf al t):WI t:=⟨by have:=h.rl;omega,by have:=h.cl;omega,λw a=>by have:=(h.rw w a).1;omega,λw a=>by have:=(h.cw w a).1;omega⟩
def Ui(A L:W->Bool)(al:Int):Prop:=∀w,AP (A7 al) w->w.length<=50000->A w=L w
theorem TH{ls:List UInt8}{u w:W}(b:AP ls u)(a:AP ls w):AP ls (u++w):=λc d=>by
 rcases f6.1 d with h|h
 ·exact b c h
 ·exact a c h
theorem Sf{A L:W->Bool}{al:Int}(h:Ui A L al){cols:List W}{w:W}(c:AP (A7 al) w)(b:∀x∈cols,AP (A7 al) x/\w.length+x.length<=50000):marks A cols w=marks L cols w:=by
 rw[marks,marks,qQ];intro x a;rw[h _ (TH c (b x a).1) (by simp;exact(b x a).2)]
theorem Ie{A L:W->Bool}{al:Int}{b:Nat}{t:A0}(h:Ui A L al)(ht:Hl al b t)(hb:b<=20100):AK A t=AK L t:=by
 rw[AK,AK,qQ];intro r c;have:=ht.onR r c
 exact Sf h this.1 λx a=>⟨(ht.onC x a).1,by have:=(ht.onC x a).2;omega⟩
theorem PX{A L:W->Bool}{al:Int}{b:Nat}{t:A0}(h:Ui A L al)(ht:Hl al b t)(hb:b<=20100){r:W}{l:UInt8}(e:r∈t.rows)(f:l∈A7 al):marks A t.cols (r++[l])=marks L t.cols (r++[l]):=by
 have:=ht.onR r e
 refine Sf h (TH this.1 (λc d=>by simp at d;subst d;exact f)) λx a=>⟨(ht.onC x a).1,by have:=(ht.onC x a).2;simp;omega⟩
theorem UF{α:Type}{p q:α->Bool}:∀ {l:List α},(∀x∈l,p x=q x)->l.find? p=l.find? q
 | [],_=>rfl
 | x::l,h=>by
  rw[List.find?_cons,List.find?_cons,h x (by simp),UF (l:=l) λy a=>h y (by simp[a])]
theorem J6{A L:W->Bool}{al:Int}{b:Nat}{t:A0}(h:Ui A L al)(ht:Hl al b t)(hb:b<=20100):Bg A (A7 al) t=Bg L (A7 al) t:=by
 unfold Bg;refine UF λw a=>?_;unfold CW at a;simp only[qg,d9]at a;obtain⟨r,c,l,d,rfl⟩:=a;rw[Ie h ht hb,PX h ht hb c d]
theorem Iv{A L:W->Bool}{al:Int}(h:Ui A L al):∀(n:Nat) {b:Nat} {t:A0},Hl al b t->b+n<=20100->Bp A (A7 al) n t=Bp L (A7 al) n t
 | 0,_,_,_,_=>rfl
 | n + 1,b,t,ht,hb=>by
  unfold Bp;rw[J6 h ht (by omega)]
  cases d:Bg L (A7 al) t with
  | none=>rfl
  | some w=>
   dsimp only;by_cases a:t.rows.length=12
   ·rw[if_pos a,if_pos a]
   ·rw[if_neg a,if_neg a]
    have c:=ht.rl;exact Iv h n (ht.push d (by omega)) (by omega)
theorem UQ{A L:W->Bool}{al:Int}{b:Nat}{t:A0}(h:Ui A L al)(ht:Hl al b t)(hb:b<=20100){r:W}{l:UInt8}(a:r∈t.rows)(c:l∈A7 al):Df A t (r++[l])=Df L t (r++[l]):=by
 unfold Df;rw[Ie h ht hb,PX h ht hb a c]
theorem Pm{A L:W->Bool}{al:Int}{b:Nat}{t:A0}(h:Ui A L al)(ht:Hl al b t)(hb:b<=20100):A1 A al t=A1 L al t:=by
 unfold A1;congr 1
 ·refine qQ.2 λr a=>qQ.2 λl c=>?_
  rw[UQ h ht hb a (OZ c)]
 ·refine qQ.2 λr a=>?_
  have:=ht.onR r a;rw[h r this.1 (by omega)]
theorem TOk.m7{A L:W->Bool}{al:Int}{b:Nat}{t:A0}(h:Ui A L al)(ht:Hl al b t)(hb:b<=20100)(hk:TOk L (A7 al) t):TOk A (A7 al) t:=⟨hk.r0,hk.c0,hk.pre,hk.onR,hk.onC,by rw[Ie h ht hb];exact hk.nd,hk.ndC⟩
theorem BV.m7{A L:W->Bool}{al:Int}{b:Nat}{t:A0}(h:Ui A L al)(ht:Hl al b t)(hb:b<=20100)(hk:BV L (A7 al) t):BV A (A7 al) t:=⟨hk.toTOk.m7 h ht hb,λr a l c=>by
 rw[PX h ht hb a c,Ie h ht hb];exact hk.cl r a l c⟩
theorem eQ{A:W->Bool}{al:Int}{t:A0}(h:BV A (A7 al) t){q:Nat}(a:q<t.rows.length):t.rows.getD q []∈t.rows:=by
 rw[List.getD,d6 a];exact pz a
theorem Ot{A L:W->Bool}{al:Int}{l:Nat}{t:A0}(h:Ui A L al)(ht:Hl al l t)(hb:l<=20100)(hk:BV L (A7 al) t)(b:Bool):∀(w:W) (q:Nat),q<t.rows.length->AP (A7 al) w->w.length<=20000->splitAt A t b q w=splitAt L t b q w
 | [],_,_,_,_=>rfl
 | c :: w,q,f,g,o=>by
  have n:=eQ hk f;have j:=g c (by simp);have r:=UQ h ht hb n j;obtain⟨r',k,_⟩:=hk.idx (i:=q) (d6 f) j
  have p:t.rows.getD q []=t.rows[q]:=by rw[List.getD,d6 f];rfl
  rw[<-p]at k;have e:=(ce.1 k).1;have d:=eQ hk e;have a:AP (A7 al) w:=λx m=>g x (by simp[m]);simp at o
  have s:A (t.rows.getD (Df L t (t.rows.getD q []++[c])) []++w)=L (t.rows.getD (Df L t (t.rows.getD q []++[c])) []++w):=
   h _ (TH (ht.onR _ d).1 a) (by have:=(ht.onR _ d).2;simp only[qb];omega)
  unfold splitAt;rw[r,s];split
  ·rfl
  ·exact Ot h ht hb hk b w _ e a (by omega)
section
variable {a b:AY}(ha:AE a=true)(hb:AE b=true)(hal:a.al=b.al)(hL:∀w,AP (A7 a.al) w->LA a w=LA b w)
include ha hb hal hL
end
end Go.Am
namespace Go.Am
open Go Go.Proofs
set_option maxHeartbeats 1000000
set_option maxRecDepth 4000
attribute [local irreducible] A6 CC Lex Bz Ak Spec
variable {TB:BJ}
theorem Uz{A:W->Bool}{ls:List UInt8}{m:Nat}{u:A0}{w:W}{R:Option A0}(b:R=Bp A ls (m+1) u)(a:Bg A ls u=some w)(c:u.rows.length<12):R=Bp A ls m ⟨u.rows++[w],u.cols⟩:=by
 rw[b]
 conv=>lhs;unfold Bp
 rw[a];dsimp only;rw[if_neg (by omega)]
theorem Jl{t:EP}{al:Int}{A:W->Bool}(Z:KJ Tryz.prog TB 140 186 t al A)(tab:A0)(hz:WI tab) :
 Pure Tryz.prog TB 138 [EW t,Er tab] (IZ (if A4 A al tab then Bp A (A7 al) 13 tab else none)):=by
 have N:=FP Z tab hz;by_cases v:A4 A al tab=true
 ·rw [if_pos v]
  rw[v]at N;have g:cf al tab:=(Ey v).1;have H:=g.r1;have L:=g.c1;have T:=g.rl;have Y:=g.cl;refine eG Tryz.func138 rfl (by kernel_rfl) rfl ?_;intro Γ e;(repeat first|refine tA rfl ?_|refine s2 rfl λ_ i=>?_|refine sP rfl (N) rfl ?_|refine aU rfl ?_|apply Aa)
  ((refine aC rfl ?_ ?_<;>rintro⟨⟩);all_goals try (simp at i;done))
  apply aK;(repeat first|refine aU rfl ?_);refine R.Rz [(0,2),(1,2),(2,2),(4,2),(5,2),(6,2),(9,3),(3,1),(7,1),(8,2),(10,5)] mixed (by kernel_rfl) rfl (by kernel_rfl) ?_;(repeat ((refine R.Ag rfl ?_;first|(refine R.yQ (md:=false) rfl rfl rfl ?_ ?_;exact tI)|refine R.yP rfl rfl rfl rfl ?_|refine R.CM (λ_ _ _=>TS (by rfl) (by rfl)) rfl rfl ?_ )));(refine R.Ag rfl ?_;refine R.Kz (λ_=>?_) rfl rfl;refine ES rfl rfl rfl (by intro r k;simp at k;obtain⟨_,_,rfl⟩:=k;rfl) (by rfl) (am rfl) (by simp;omega) (λh=>?_) (λ_=>?_))
  ·exfalso;simp at h;rw[h]at H;simp at H
  (refine R.Ag rfl ?_;refine R.Kz (λ_=>?_) rfl rfl;refine ES rfl rfl rfl (by intro r k;simp at k;obtain⟨_,_,rfl⟩:=k;rfl) (by rfl) (am rfl) (by simp;omega) (λh=>?_) (λ_=>?_))
  ·exfalso;simp at h;rw[h]at L;simp at L
  (repeat ((refine R.Ag rfl ?_;first|refine R.yA rfl rfl rfl rfl ?_|refine R.CM (λ_ _ _=>AG rfl rfl (by rfl) (by rfl)) rfl rfl ?_ )));refine R.Ru ?_;apply aS;refine Ak.Ay [2] [] rfl rfl [(4,.o (.ptr 0 2 0 0)),(6,.o (.ptr 3 2 0 0))] [(0,.cells 109 2 [[.d (.l []),.d (.l [])]]),(1,.cells 9 1 (tab.rows.map Ex)),(2,.cells 9 1 (tab.cols.map Ex)),(3,.cells 109 2 [[.arr 1 1 0 tab.rows.length,.arr 2 1 0 tab.cols.length]])] [0,1,2,3] (rl e rfl) (by (simp[cX,zC,e])) ?_;(try dsimp only[cA,cB]);have s:=KZ Z tab hz
  have G:∀l:List W,((l.map Ex).drop 0).take l.length=(l.map CX).map (λr=>r.map C.d):=λl=>by rw[pN,ge (by simp)];simp[d5]
  have K:∀u:A0,iX [(0,.cells 109 2 [[.d (.l []),.d (.l [])]]),(1,.cells 9 1 (u.rows.map Ex)),(2,.cells 9 1 (u.cols.map Ex)),(3,.cells 109 2 [[.arr 1 1 0 u.rows.length,.arr 2 1 0 u.cols.length]])] [EW t,.a [.arr 1 1 0 u.rows.length,.arr 2 1 0 u.cols.length]] [EW t,Er u]:=λu=>
   .cons (.cons (.pure rfl) (.cons (.pure rfl) (.cons (.pure rfl) (.cons (.pure rfl) (.cons (.pure rfl) (.cons (.pure rfl) (.cons (.pure rfl) (.cons (.pure rfl) (.cons (.pure rfl) (.cons (.pure rfl) (.cons (.pure rfl) .nil))))))))))) (.cons (.cons (.arr rfl (by simp) (G _)) (.cons (.arr rfl (by simp) (G _)) .nil)) .nil)
  have I:∀x:A0,ah (Bg A (A7 al) x)=.t [(false,[.d (tD ((Bg A (A7 al) x).getD []))]),(false,[.d (bD (Bg A (A7 al) x).isSome)])]:=λx=>by cases Bg A (A7 al) x<;>rfl
  rw[I]at s;(repeat first|refine tA rfl ?_|(refine Ag rfl ?_;refine gA rfl ?_;first|refine gQ (IK rfl rfl ((K tab)) (s) rfl) rfl ?_)|refine aU rfl ?_|apply Aa)
  obtain⟨R,hR⟩:∃R,R=Bp A (A7 al) 13 tab:=⟨_,rfl⟩
  rw[<-hR];apply aB;refine aL (α:={p:Nat×A0 // p.1<=13/\13<=p.1+p.2.rows.length/\p.2.rows.length<=12/\p.2.cols.length<=20/\(∀w∈p.2.rows,w.length<=50000+p.2.rows.length)/\(∀w∈p.2.cols,w.length<=4000)/\R=Bp A (A7 al) p.1 p.2}) [2,4,6] [0] rfl rfl (λ⟨⟨m,u⟩,M,q,n,j,b,c,z⟩=>[(7,eT ((Bg A (A7 al) u).getD [])),(8,eB (Bg A (A7 al) u).isSome)]) (λ⟨⟨m,u⟩,M,q,n,j,b,c,z⟩=>[(1,.cells 9 1 (u.rows.map Ex)),(2,.cells 9 1 (u.cols.map Ex)),(3,.cells 109 2 [[.arr 1 1 0 u.rows.length,.arr 2 1 0 u.cols.length]])]) 4 (λ⟨⟨m,u⟩,M,q,n,j,b,c,z⟩=>m) (⟨(13,tab),by simp,by simp,T,Y,λw F=>by have:=(g.rw w F).1;show w.length<=50000+tab.rows.length;omega,λw F=>(g.cw w F).1,hR⟩) e rfl (by (simp[cX,zC,e])) ?_;rintro⟨⟨m,u⟩,M,q,n,j,b,c,z⟩;(try dsimp only[cA,cB]);dsimp only at M q n j b c z
  have Q:Bg A (A7 al) u=none\/∃w,Bg A (A7 al) u=some w:=by cases Bg A (A7 al) u<;>simp
  rcases Q with y|⟨w,y⟩
  ·rw [y]
   have V:R=some u:=by
    rw[z]
    obtain⟨m',rfl⟩:∃m',m=m'+1:=⟨m-1,by omega⟩
    simp[Bp,y]
   (repeat first|refine tA rfl ?_|refine aU rfl ?_|apply Aa)
   ((refine aC rfl ?_ ?_<;>rintro⟨⟩);all_goals try (simp at i;done))
   apply aE;(repeat first|refine tA rfl ?_|refine aU rfl ?_|apply Aa);refine Ak.settle [(4,.o (.ip [Cf u.rows,Cf u.cols])),(5,eB true)] ⟨⟨_,rfl,.o (.box rfl (.cons (.full rfl (by simp[d5]) (by simp)) (.cons (.full rfl (by simp[d5]) (by simp)) .nil)))⟩,⟨_,rfl,.o .d⟩,trivial⟩ ?_;refine aR ⟨_,rfl,?_⟩;rw[V];rfl
  ·rw [y]
   obtain⟨m',rfl⟩:∃m',m=m'+1:=⟨m-1,by omega⟩
   obtain⟨⟨r,k,l,hl,F⟩,_⟩:=IH y
   have B:w.length<=50000+(u.rows++[w]).length:=by
    have:=b r k;rw[F];simp;omega
   (repeat first|refine tA rfl ?_|refine aU rfl ?_|apply Aa)
   ((refine aC rfl ?_ ?_<;>rintro⟨⟩);all_goals try (simp at i;done))
   apply aK;apply aB;(repeat first|refine tA rfl ?_|refine s2 rfl λ_ i=>?_|refine aU rfl ?_|apply Aa);(refine aC rfl ?_ ?_<;>rintro⟨⟩)
   ·have h12:u.rows.length=12:=by (simp only[oZ] at *;omega)
    have V:R=none:=by
     rw[z];simp[Bp,y,h12]
    (repeat first|refine tA rfl ?_|(refine Ag rfl ?_;refine gA rfl ?_;first|refine gS (λ_ _=>AG rfl rfl (by rfl) (by rfl)) ?_)|refine aU rfl ?_|apply Aa);refine Ak.settle [(4,.o (.ip [.l [],.l []])),(5,eB false)] ⟨⟨_,rfl,.o (.box rfl (.cons .d (.cons .d .nil)))⟩,⟨_,rfl,.o .d⟩,trivial⟩ ?_;refine aR ⟨_,rfl,?_⟩;rw[V];rfl
   ·have X:u.rows.length<12:=by (simp only[oZ] at *;omega)
    have S:=Uz z y X
    have P:WI ⟨u.rows++[w],u.cols⟩:=⟨by simp;omega,by dsimp only;omega,λx f=>by
     rcases f6.1 f with f|f
     ·have:=b x f;omega
     ·simp at f;subst f;simp at B;omega,λx f=>by have:=c x f;omega⟩
    have J:=KZ Z ⟨u.rows++[w],u.cols⟩ P;rw[I]at J;apply aK;(repeat first|refine tA rfl ?_|refine aU rfl ?_);(refine pW rfl ?_ rfl (by rfl);refine Au rfl rfl rfl (by first|(simp;done)|(simp;(omega))) rfl (by intro r k;simp at k;subst k;rfl) (by rfl) (am rfl) (by simp;omega) ?_);(repeat first|refine tA rfl ?_);apply Aa
    have U:∀x∈u.rows++[w],x.length<=50000+(u.rows++[w]).length:=λx f=>by
     rcases f6.1 f with f|f
     ·have:=b x f;simp;omega
     ·simp at f;subst f;exact B
    refine Ak.Ay [2,4,6] [] rfl rfl [] [(0,.cells 109 2 [[.d (.l []),.d (.l [])]]),(1,.cells 9 1 ((u.rows++[w]).map Ex)),(2,.cells 9 1 (u.cols.map Ex)),(3,.cells 109 2 [[.arr 1 1 0 (u.rows++[w]).length,.arr 2 1 0 u.cols.length]])] [0,4,2,3] (rl e rfl) (by (simp[cX,zC,e])) ?_;(try dsimp only[cA,cB]);(repeat first|refine tA rfl ?_|(refine Ag rfl ?_;refine gA rfl ?_;first|refine gQ (IK rfl rfl ((K ⟨u.rows++[w],u.cols⟩)) (J) rfl) rfl ?_)|refine aU rfl ?_|apply Aa);refine⟨⟨⟨m',⟨u.rows++[w],u.cols⟩⟩,by dsimp only;omega,by simp;omega,by simp;omega,j,U,c,S⟩,by dsimp only;(omega),[0,1,2,3],?_⟩;simp[cX,zC,e]
 ·have v:A4 A al tab=false:=by simpa using v
  rw[if_neg (by simp[v])];rw[v]at N;refine eG Tryz.func138 rfl (by kernel_rfl) rfl ?_;intro Γ e;(repeat first|refine tA rfl ?_|refine s2 rfl λ_ i=>?_|refine sP rfl (N) rfl ?_|refine aU rfl ?_|apply Aa)
  ((refine aC rfl ?_ ?_<;>rintro⟨⟩);all_goals try (simp at i;done))
  (repeat first|refine tA rfl ?_|(refine Ag rfl ?_;refine gA rfl ?_;first|refine gS (λ_ _=>AG rfl rfl (by rfl) (by rfl)) ?_)|refine aU rfl ?_|apply Aa);refine Ak.settle [(4,.o (.ip [.l [],.l []])),(5,eB false)] ⟨⟨_,rfl,.o (.box rfl (.cons .d (.cons .d .nil)))⟩,⟨_,rfl,.o .d⟩,trivial⟩ ?_;refine aR ⟨_,rfl,rfl⟩
def iH(o:Option AY):E:=match o with
 | some p=>.t [(true,[.d (iD p.al),.d (C7 p.nx),.d (Fo p.ac)]),(false,[.d (bD true)])]
 | none=>.t [(true,[.d (iD 0),.d (.l []),.d (.l [])]),(false,[.d (bD false)])]
theorem Hz{t:EP}{al:Int}{A:W->Bool}(v:KJ Tryz.prog TB 140 186 t al A)(tab:A0)(f:WI tab) :
 Pure Tryz.prog TB 77 [EW t,Er tab] (iH (if BA A al tab then some (A1 A al tab) else none)):=by
 have x:=Qz v tab f;by_cases i:BA A al tab=true
 ·rw [if_pos i]
  rw[i]at x;obtain⟨y,V,N⟩:=JQ i;have e:=(Ey y).1;have U:=e.r1;have S:=e.rl;have N:=e.cl;have h2:=v.alph;have h3:=Cm (TB:=TB) al;have h4:Pure Tryz.prog TB 141 [EW t,BW tab.cols,BW tab.rows] (BW (AK A tab)):=La v tab.cols tab.rows f.cl (λw R=>by have:=f.rb w R;omega) f.cb f.rl;have hla:(Ac al).length<=6:=AM al 6
  have Y:(AK A tab).length=tab.rows.length:=by simp[AK]
  refine eG Tryz.func77 rfl (by kernel_rfl) rfl ?_;intro Γ c;(repeat first|refine tA rfl ?_|refine s2 rfl λ_ a=>?_|refine sP rfl (x) rfl ?_|refine aU rfl ?_|apply Aa)
  ((refine aC rfl ?_ ?_<;>rintro⟨⟩);all_goals try (simp at a;done))
  apply aK;(repeat first|refine tX rfl ?_|refine sP rfl (h2) rfl ?_|refine aU rfl ?_);(refine pW rfl ?_ rfl (by rfl);refine JY 1 1 63 2 1 4 rfl rfl (by decide) rfl rfl (by rfl) (by rfl) ?_);(repeat first|refine tX rfl ?_|refine sP rfl (h3) rfl ?_|refine sP rfl (h4) rfl ?_|refine aU rfl ?_|apply Aa);apply aB;refine aL (α:={k:Nat // k<=tab.rows.length}) [2,3,4,6,7,8] [0] rfl rfl (λ⟨k,hk⟩=>[(9,eI .i64 k)]) (λ⟨k,hk⟩=>[(1,.cells 63 1 (((A1 A al tab).nx.take k).map λr=>[.d (Fp r)])),(2,.cells 4 1 (((A1 A al tab).ac.take k).map λb=>[.d (bD b)])),(3,.cells 29 3 [[.d (iD al),.arr 1 1 0 k,.arr 2 1 0 k]])]) 4 (λ⟨k,hk⟩=>tab.rows.length-k) (⟨0,by omega⟩) c rfl (by (simp[cX,zC,c])) ?_;rintro⟨k,hk⟩;(try dsimp only[cA,cB])
  have X:(A1 A al tab).nx.length=tab.rows.length:=by simp[A1]
  have hac:(A1 A al tab).ac.length=tab.rows.length:=by simp[A1]
  by_cases I:k<tab.rows.length
  ·obtain⟨r,n⟩:=get_some I
   have Q:=get_map (g:=CX) n;have m:=co n;have T:=f.rb r m
   have hm:(AK A tab)[k]?=some (marks A tab.cols r):=by simp[AK,n]
   have hm':=get_map (g:=CX) hm
   have Z:(marks A tab.cols r)[(0:Int).toNat]?=some (Si (A r)):=by
    have:=e.c0;simp[marks,this]
   (repeat first|refine sN rfl ?_|refine tX rfl ?_|refine s2 rfl λ_ a=>?_|refine aU rfl ?_|apply Aa);refine Ak.cond rfl (λhb=>?_) (λhb=>?_)<;>cases hb
   rotate_left
   ·exfalso;(simp only[oZ] at *;omega)
   apply aK;refine aS (aB ?_);(repeat first|refine aU rfl ?_);(refine pW rfl ?_ rfl (by rfl);refine Bj rfl rfl rfl rfl (by simp) (by rfl) (by rfl) (by rfl) (by rfl) ?_);(repeat first|refine tX rfl ?_|refine aU rfl ?_|apply Aa);apply aB;refine aL (α:={j:Nat // j<=(Ac al).length}) [2,3,4,6,7,8,9] [0,1,2,3] rfl rfl (λ⟨j,L⟩=>[(10,.o (.arr 4 1 0 j)),(11,eI .i64 j)]) (λ⟨j,L⟩=>[(4,.cells 3 1 (((Ac al).take j).map λl=>[.d (iD ((Df A tab (r++[lb l]):Nat):Int))]))]) 5 (λ⟨j,L⟩=>(Ac al).length-j) (⟨0,by omega⟩) c rfl (by (simp[cX,zC,c])) ?_;rintro⟨j,L⟩;(try dsimp only[cA,cB]);by_cases s:j<(Ac al).length
   ·obtain⟨l,K⟩:=get_some s
    have hl':=get_map (g:=Bs) K;have q:=co K;have J:=Aj q;have z:Pure Tryz.prog TB 101 [eI .i64 l] (eT [lb l]):=HX l J.1 (by omega);have p:=Ns v tab.cols (r++[lb l]) f.cl (by simp;omega) f.cb;have H:marks A tab.cols (r++[lb l])∈AK A tab:=Hc V r m (lb l) (OZ q);have M:Pure Tryz.prog TB 142 [BW (AK A tab),eT (marks A tab.cols (r++[lb l]))] (eI .i64 (Df A tab (r++[lb l]):Nat)):=US (AK A tab) _ H (by omega);(repeat first|refine sN rfl ?_|refine tX rfl ?_|refine s2 rfl λ_ a=>?_|refine aU rfl ?_|apply Aa);refine Ak.cond rfl (λhb=>?_) (λhb=>?_)<;>cases hb
    rotate_left
    ·exfalso;(simp only[oZ] at *;omega)
    apply aK;refine aS (aB ?_);refine rG (Hm [19]) (by kernel_rfl) ?_;(repeat first|(refine sA rfl ?_ ?_;first|exact tI|simp only[oZ] at *;omega)|(refine s4 rfl ‹_› rfl ?_ ?_;omega)|refine sP rfl (z) rfl ?_|refine sP rfl (p) rfl ?_|refine sP rfl (M) rfl ?_);(refine pW rfl ?_ rfl (by rfl);refine Au rfl rfl rfl (by first|(simp;done)|(simp;(omega))) rfl (by intro r h;simp at h;subst h;rfl) (by rfl) (am rfl) (by simp;omega) ?_);(repeat first|(refine sA rfl ?_ ?_;first|exact tI|omega)|refine aU rfl ?_|apply Aa);refine⟨⟨j+1,by omega⟩,by dsimp only;(omega),[0,1,2,3,5],?_⟩;(simp[cX,zC,c,d8,K])
   ·obtain rfl:j=(Ac al).length:=by omega
    have G:(A1 A al tab).nx.take (k+1)=(A1 A al tab).nx.take k++[(Ac al).map λl=>((Df A tab (r++[lb l]):Nat):Int)]:=by
     rw[d8];simp[A1,n]
    have u:(A1 A al tab).ac.take (k+1)=(A1 A al tab).ac.take k++[A r]:=by
     rw[d8];simp[A1,n]
    rw[io];(repeat first|refine sN rfl ?_|refine tX rfl ?_|refine s2 rfl λ_ a=>?_|refine aU rfl ?_|apply Aa);refine Ak.cond rfl (λhb=>?_) (λhb=>?_)<;>cases hb
    ·exfalso;(simp only[oZ] at *;omega)
    apply aE;refine Ak.YX [4] [2,3,4,6,7,8,9] rfl [(10,Al ((Ac al).map λl=>((Df A tab (r++[lb l]):Nat):Int)))] ⟨⟨_,rfl,.o (.full (by simp) rfl (by simp[d5]) (by simp))⟩,trivial⟩ ?_;(try dsimp only[cA,cB]);(repeat first|refine tA rfl ?_|refine aU rfl ?_);(refine pW rfl ?_ rfl (by rfl);refine Au rfl rfl rfl (by first|(simp;done)|(simp;(omega))) rfl (by intro r h;simp at h;subst h;rfl) (by rfl) (am rfl) (by simp;omega) ?_);(repeat first|refine tA rfl ?_|apply Aa);refine rG (Hm [9,11]) (by kernel_rfl) ?_;(repeat first|refine tA rfl ?_|(refine s4 rfl ‹_› rfl ?_ ?_;omega)|refine s2 rfl λ_ a=>?_);rename_i b
    have P:b=A r:=by
     cases hA:A r<;>cases b<;>simp[hA,Si]at a<;>rfl
    subst P;(refine pW rfl ?_ rfl (by rfl);refine Au rfl rfl rfl (by first|(simp;done)|(simp;(omega))) rfl (by intro r h;simp at h;subst h;rfl) (by rfl) (am rfl) (by simp;omega) ?_);(repeat first|(refine sA rfl ?_ ?_;first|exact tI|omega)|refine aU rfl ?_|apply Aa);refine⟨⟨k+1,by omega⟩,by dsimp only;(omega),[0,5,6,3],?_⟩;(simp[cX,zC,c,G,u])
  ·obtain rfl:k=tab.rows.length:=by omega
   have F:(A1 A al tab).nx.take tab.rows.length=(A1 A al tab).nx:=ge (by simp[A1]);have B:(A1 A al tab).ac.take tab.rows.length=(A1 A al tab).ac:=ge (by simp[A1]);rw[F,B];(repeat first|refine sN rfl ?_|refine tX rfl ?_|refine s2 rfl λ_ a=>?_|refine aU rfl ?_|apply Aa);refine Ak.cond rfl (λhb=>?_) (λhb=>?_)<;>cases hb
   ·exfalso;(simp only[oZ] at *;omega)
   apply aE;(repeat first|refine tX rfl ?_|refine aU rfl ?_|apply Aa);refine Ak.settle [(4,.o (.ip [iD al,C7 (A1 A al tab).nx,Fo (A1 A al tab).ac])),(5,eB true)] ⟨⟨_,rfl,.o (.box rfl (.cons .d (.cons (.full rfl (by simp[d5]) (by simp[A1])) (.cons (.full rfl (by simp[d5]) (by simp[A1])) .nil))))⟩,⟨_,rfl,.o .d⟩,trivial⟩ ?_;refine aR ⟨_,rfl,rfl⟩
 ·have i:BA A al tab=false:=by simpa using i
  rw[if_neg (by simp[i])];rw[i]at x;refine eG Tryz.func77 rfl (by kernel_rfl) rfl ?_;intro Γ c;(repeat first|refine tA rfl ?_|refine s2 rfl λ_ a=>?_|refine sP rfl (x) rfl ?_|refine aU rfl ?_|apply Aa)
  ((refine aC rfl ?_ ?_<;>rintro⟨⟩);all_goals try (simp at a;done))
  (repeat first|refine tA rfl ?_|(refine Ag rfl ?_;refine gA rfl ?_;first|refine gS (λ_ _=>AG rfl rfl (by rfl) (by rfl)) ?_)|refine aU rfl ?_|apply Aa);refine Ak.settle [(4,.o (.ip [iD 0,.l [],.l []])),(5,eB false)] ⟨⟨_,rfl,.o (.box rfl (.cons .d (.cons .d (.cons .d .nil))))⟩,⟨_,rfl,.o .d⟩,trivial⟩ ?_;refine aR ⟨_,rfl,rfl⟩
def Pk(A:W->Bool)(al:Int)(t:A0)(w:W):Option A0:=if A4 A al t && Gs al w then Fx t w else none
theorem QT{t:EP}{al:Int}{A:W->Bool}(n:KJ Tryz.prog TB 140 186 t al A)(tab:A0)(q:WI tab)(w:W)(y:w.length<=1048576) :
 Pure Tryz.prog TB 150 [EW t,Er tab,eT w] (IZ (Pk A al tab w)):=by
 have i:=FP n tab q;have g:=PM n w (by omega);have f:=Jr (TB:=TB) tab.cols w (by have:=q.cl;omega);by_cases e:(A4 A al tab && Gs al w)=true
 ·have ha:Pk A al tab w=Fx tab w:=by unfold Pk;rw[if_pos e]
  rw[ha];rw[d4]at e;rw[e.1]at i;rw[e.2]at g;have b:cf al tab:=(Ey e.1).1;have k:=b.r1;have l:=b.c1;have s:=b.rl;have v:=b.cl;by_cases m:tab.cols.length=20\/w∈tab.cols
  ·have p:Fx tab w=none:=by unfold Fx;rw[if_pos m]
   rw[p];refine eG Tryz.func150 rfl (by kernel_rfl) rfl ?_;intro Γ j;(repeat' first|refine sN rfl ?_|refine tA rfl ?_|(refine s2 rfl λ_ a=>?_;try (simp only[pT,p7]at a;subst a))|refine sP rfl (i) rfl ?_|refine sP rfl (g) rfl ?_|(refine sC rfl (f) ?_;intro _ a)|(refine Ag rfl ?_;refine gA rfl ?_;first|refine gS (λ_ _=>AG rfl rfl (by rfl) (by rfl)) ?_)|refine s3 rfl ?_ ?_<;>rintro rfl|refine aU rfl ?_|apply Aa|refine rE (by kernel_rfl) ?_|(refine aC rfl ?_ ?_<;>rintro⟨⟩)|apply aK|apply aE|apply aB|refine aR ⟨_,rfl,?_⟩)
   all_goals first
    | rfl
    | (exfalso;clear i g f n;simp at *;grind;done)
    | skip
  ·have p:Fx tab w=some ⟨tab.rows,tab.cols++[w]⟩:=by unfold Fx;rw[if_neg m]
   rw[p];have u:decide (w∈tab.cols)=false:=decide_eq_false λh=>m (.inr h);have x:tab.cols.length≠20:=λh=>m (.inl h);rw[u]at f;refine eG Tryz.func150 rfl (by kernel_rfl) rfl ?_;intro Γ j;(repeat first|refine sN rfl ?_|refine tA rfl ?_|(refine s2 rfl λ_ a=>?_;try (simp only[pT,p7]at a;subst a))|refine sP rfl (i) rfl ?_|refine sP rfl (g) rfl ?_|refine sP rfl (f) rfl ?_|refine aU rfl ?_|apply Aa);refine Ak.cond rfl (λhb=>?_) (λhb=>?_)<;>cases hb
   ·exfalso;(simp only[oZ] at *;omega)
   apply aK;(repeat first|refine aU rfl ?_);refine rG (nZ [0,1,2,4,5,6,8,9,3,7,10,11,12,13] [3,7,10,12] [0,1,2,4,5,6,8,9]) (by kernel_rfl) ?_;(repeat first|refine tX rfl ?_|(refine Ag rfl ?_;refine gA rfl ?_;first|refine gS (λ_ _=>TS (by rfl) (by rfl)) ?_|refine gS (λ_ _=>Qb rfl rfl rfl rfl rfl (by rfl) (by rfl) (by rfl) (by rfl) (by rfl)) ?_));(refine pW rfl ?_ rfl (by rfl);refine ES rfl rfl rfl (by intro r c;simp at c;obtain⟨_,_,rfl⟩:=c;rfl) (by rfl) (am rfl) (by simp;omega) (λh=>?_) (λ_=>?_))
   ·exfalso;simp at h;rw[h]at k;simp at k
   (repeat first|(refine Ag rfl ?_;refine gA rfl ?_;first|refine gS (λ_ _=>TS (by rfl) (by rfl)) ?_|refine gS (λ_ _=>Qb rfl rfl rfl rfl rfl (by rfl) (by rfl) (by rfl) (by rfl) (by rfl)) ?_));(refine pW rfl ?_ rfl (by rfl);refine ES rfl rfl rfl (by intro r c;simp at c;obtain⟨_,_,rfl⟩:=c;rfl) (by rfl) (am rfl) (by simp;omega) (λh=>?_) (λ_=>?_))
   ·exfalso;simp at h;rw[h]at l;simp at l
   (refine pW rfl ?_ rfl (by rfl);refine Au rfl rfl rfl (by first|(simp;done)|(simp;(omega))) rfl (by intro r c;simp at c;subst c;rfl) (by rfl) (am rfl) (by simp;omega) ?_);(repeat first|refine tA rfl ?_|(refine Ag rfl ?_;refine gA rfl ?_;first|refine gS (λ_ _=>AG rfl rfl (by rfl) (by rfl)) ?_)|apply Aa);refine Ak.settle [(6,.o (.ip [Cf tab.rows,Cf (tab.cols++[w])])),(7,eB true)] ⟨⟨_,rfl,.o (.box rfl (.cons (.full rfl (by simp[d5]) (by simp)) (.cons (.full rfl (by simp[d5]) (by simp)) .nil)))⟩,⟨_,rfl,.o .d⟩,trivial⟩ ?_;refine aR ⟨_,rfl,rfl⟩
 ·have ha:Pk A al tab w=none:=by unfold Pk;rw[if_neg e]
  rw[ha];refine eG Tryz.func150 rfl (by kernel_rfl) rfl ?_;intro Γ j;(repeat' first|refine sN rfl ?_|refine tA rfl ?_|(refine s2 rfl λ_ a=>?_;try (simp only[pT,p7]at a;subst a))|(refine sC rfl (i) ?_;intro _ a)|(refine sC rfl (g) ?_;intro _ a)|(refine sC rfl (f) ?_;intro _ a)|(refine Ag rfl ?_;refine gA rfl ?_;first|refine gS (λ_ _=>AG rfl rfl (by rfl) (by rfl)) ?_)|refine s3 rfl ?_ ?_<;>rintro rfl|refine aU rfl ?_|apply Aa|refine rE (by kernel_rfl) ?_|(refine aC rfl ?_ ?_<;>rintro⟨⟩)|apply aK|apply aE|apply aB|refine aR ⟨_,rfl,?_⟩)
  all_goals first
   | rfl
   | (exfalso;clear i g f n;simp at *;grind;done)
   | skip
end Go.Am
