/-
  The reference's tables: marks, shapes, the first open word.
-/
import Derived.Test.YtohfiindiidcfaaGreatDoorPart25
set_option linter.all false
namespace Go.Am
open Go Go.Proofs
set_option maxHeartbeats 1000000
set_option maxRecDepth 4000
attribute [local irreducible] A6 Cz Lex Bv Aj Spec
variable {TB:BF}
structure Kj (P:Program) (TB:BF) (gA gQ:FuncId) (t:EE) (al:Int) (A:W->Bool):Prop where
 alph:Pure P TB gA [EL t] (eI .i64 al)
 ask:∀w:W,w.length<=1099511627776->Pure P TB gQ [EL t,eT w] (eB (A w))
structure VR (t:A1):Prop where
 rl:t.rows.length<=4194304
 cl:t.cols.length<=4194304
 rb:∀w∈t.rows,w.length<=4194304
 cb:∀w∈t.cols,w.length<=4194304
theorem Je(l:List W)(s:W)(m:l.length<=1099511627776):Pure Tryz.prog TB 187 [BT l,eT s] (eB (decide (s∈l))):=by
 refine eN Tryz.func187 rfl (by kernel_rfl) rfl ?_;intro Γ b;(repeat first|refine tA rfl ?_ |refine aU rfl ?_ |apply Aa);apply aB;refine aL (α:={k:Nat // k<=l.length/\s∉l.take k}) [0,1] [] rfl rfl (λ⟨k,hk,c⟩=>[(5,eI .i64 k)]) (λ⟨k,hk,c⟩=>[]) 0 (λ⟨k,hk,c⟩=>l.length - k) (⟨0,by omega,by simp⟩) b rfl (by (simp[cX,zC,b])) ?_;rintro⟨k,hk,c⟩;(try dsimp only[cA,cB]);by_cases f:k < l.length
 ·obtain⟨x,d⟩:=get_some f
  have i:=get_map (g:=CQ) d;by_cases hs:x=s
  ·have j:s∈l:=hs ▸ co d
   (repeat first|refine sN rfl ?_ |refine tA rfl ?_ |refine s2 rfl λ_ a=>?_ |refine aU rfl ?_ |apply Aa);(refine aC rfl ?_ ?_<;>rintro⟨⟩)
   ·(repeat' first|(refine sA rfl ?_ ?_;first|exact tI|omega) |(refine s4 rfl ‹_› rfl ?_ ?_;omega) |refine s2 rfl λ_ a=>?_ |refine aU rfl ?_ |apply Aa|(refine aC rfl ?_ ?_<;>rintro⟨⟩)|apply aK|apply aE|apply aB|refine aR ⟨_,rfl,?_⟩)
    ·simp [j]
    ·exfalso;simp [hs] at a
   ·exfalso;(simp only[oZ] at *;omega)
  ·have e:s∉l.take (k+1):=by
    rw [d8,d];intro h
    rcases em.1 h with h|h
    ·exact c h
    ·simp at h;exact hs h.symm
   (repeat first|refine sN rfl ?_ |refine tA rfl ?_ |refine s2 rfl λ_ a=>?_ |refine aU rfl ?_ |apply Aa);(refine aC rfl ?_ ?_<;>rintro⟨⟩)
   ·(repeat' first|(refine sA rfl ?_ ?_;first|exact tI|omega) |(refine s4 rfl ‹_› rfl ?_ ?_;omega) |refine s2 rfl λ_ a=>?_ |refine aU rfl ?_ |apply Aa|(refine aC rfl ?_ ?_<;>rintro⟨⟩)|apply aK|apply aE|apply aB|refine aR ⟨_,rfl,?_⟩)
    ·exfalso;simp [hs] at a
    ·refine⟨⟨k+1,by omega,e⟩,by dsimp only;(omega),[],?_⟩
     simp[cX,zC,b]
   ·exfalso;(simp only[oZ] at *;omega)
 ·rw [gc (by omega)] at c
  (repeat first|refine sN rfl ?_ |refine tA rfl ?_ |refine s2 rfl λ_ a=>?_ |refine aU rfl ?_ |apply Aa);(refine aC rfl ?_ ?_<;>rintro⟨⟩)
  ·exfalso;(simp only[oZ] at *;omega)
  ·(repeat' first|refine tA rfl ?_ |refine aU rfl ?_ |apply Aa|(refine aC rfl ?_ ?_<;>rintro⟨⟩)|apply aK|apply aE|apply aB|refine aR ⟨_,rfl,?_⟩)
   simp [c]
theorem Xe{A:W->Bool}{cols:List W}{w c:W}{k:Nat}(a:cols[k]? = some c):marks A (cols.take (k+1)) w=marks A (cols.take k) w++[RE (A (w++c))]:=by
 unfold marks;rw [d8,a];simp
theorem ZY{A:W->Bool}{cols:List W}{w:W}:(marks A cols w).length=cols.length:=by simp [marks]
theorem MV{t:EE}{al:Int}{A:W->Bool}(l:Kj Tryz.prog TB 123 170 t al A)(cols:List W)(w:W)(n:cols.length<=4194304)(m:w.length<=4194305)(hb:∀x∈cols,x.length<=4194304) :
 Pure Tryz.prog TB 126 [EL t,BT cols,eT w] (eT (marks A cols w)):=by
 refine eN Tryz.func126 rfl (by kernel_rfl) rfl ?_;intro Γ a;(repeat first|refine tA rfl ?_ |refine aU rfl ?_ |apply Aa);apply aB;refine aL (α:={k:Nat // k<=cols.length}) [1,2,3] [] rfl rfl (λ⟨k,hk⟩=>[(7,eT (marks A (cols.take k) w)),(8,eI .i64 k)]) (λ⟨k,hk⟩=>[]) 0 (λ⟨k,hk⟩=>cols.length - k) (⟨0,by omega⟩) a rfl (by (simp[cX,zC,a]<;>rfl)) ?_;rintro⟨k,hk⟩;(try dsimp only[cA,cB])
 have j:(marks A (cols.take k) w).length<=4194304:=by rw [ZY,pH];omega
 by_cases e:k < cols.length
 ·obtain⟨x,d⟩:=get_some e
  have h:=get_map (g:=CQ) d;have f:=hb x (co d);have i:=l.ask (w++x) (by simp;omega);have b:=Xe (A:=A) (w:=w) d;(repeat first|refine sN rfl ?_ |refine tA rfl ?_ |refine s2 rfl λ_ c=>?_ |refine aU rfl ?_ |apply Aa);(refine aC rfl ?_ ?_<;>rintro⟨⟩)
  ·apply aK
   refine aS (aB ?_);(repeat first|(refine sA rfl ?_ ?_;first|exact tI|omega) |(refine s4 rfl ‹_› rfl ?_ ?_;omega) |(refine sC rfl (i) ?_;intro _ c) |refine aU rfl ?_ |apply Aa |refine rE (by kernel_rfl) ?_);(refine aC rfl ?_ ?_<;>rintro⟨⟩)
   ·rw [c] at b
    (repeat first|(refine sA rfl ?_ ?_;first|exact tI|omega|simp only[oZ] at *;omega) |refine aU rfl ?_ |apply Aa);refine⟨⟨k+1,by omega⟩,by dsimp only;(omega),[],?_⟩;simp[cX,zC,a,b,RE]
   ·rw [c] at b
    (repeat first|(refine sA rfl ?_ ?_;first|exact tI|omega|simp only[oZ] at *;omega) |refine aU rfl ?_ |apply Aa);refine⟨⟨k+1,by omega⟩,by dsimp only;(omega),[],?_⟩;simp[cX,zC,a,b,RE]
  ·exfalso;(simp only[oZ] at *;omega)
 ·obtain rfl:k=cols.length:=by omega
  rw [ge];(repeat first|refine sN rfl ?_ |refine tA rfl ?_ |refine s2 rfl λ_ c=>?_ |refine aU rfl ?_ |apply Aa);(refine aC rfl ?_ ?_<;>rintro⟨⟩)
  ·exfalso;(simp only[oZ] at *;omega)
  ·(repeat' first|refine tA rfl ?_ |refine aU rfl ?_ |apply Aa|(refine aC rfl ?_ ?_<;>rintro⟨⟩)|apply aK|apply aE|apply aB|refine aR ⟨_,rfl,?_⟩)
   rfl
theorem KA{t:EE}{al:Int}{A:W->Bool}(n:Kj Tryz.prog TB 123 170 t al A)(cols words:List W)(m:cols.length<=4194304)(l:∀w∈words,w.length<=4194305)(hb:∀x∈cols,x.length<=4194304)(j:words.length<=4194304) :
 Pure Tryz.prog TB 124 [EL t,BT cols,BT words] (BT (words.map (marks A cols))):=by
 refine eN Tryz.func124 rfl (by kernel_rfl) rfl ?_;intro Γ a;(repeat first|refine aU rfl ?_);(refine Af rfl ?_;refine CE (λ_ _=>C7 rfl rfl rfl) rfl ?_);(repeat first|refine tX rfl ?_ |refine aU rfl ?_ |apply Aa);(refine pW rfl ?_ rfl (by rfl);refine Bk rfl rfl rfl rfl (by simp) (by rfl) (by rfl) (by rfl) (by rfl) ?_);(repeat first|refine tX rfl ?_ |refine aU rfl ?_ |apply Aa);apply aB;refine aL (α:={k:Nat // k<=words.length}) [1,2,3] [] rfl rfl (λ⟨k,hk⟩=>[(7,.o (.arr 0 1 0 k)),(8,eI .i64 k)]) (λ⟨k,hk⟩=>[(0,.cells 9 1 ((words.take k).map λw=>[.d (tD (marks A cols w))]))]) 1 (λ⟨k,hk⟩=>words.length - k) (⟨0,by omega⟩) a rfl (by (simp[cX,zC,a])) ?_;rintro⟨k,hk⟩;(try dsimp only[cA,cB]);by_cases f:k < words.length
 ·obtain⟨x,c⟩:=get_some f
  have i:=get_map (g:=CQ) c;have b:=MV n cols x m (l x (co c)) hb
  have e:(words.take (k+1)).map (λw=>[C.d (tD (marks A cols w))])=(words.take k).map (λw=>[C.d (tD (marks A cols w))])++[[C.d (tD (marks A cols x))]]:=by rw [d8,c];simp
  (repeat first|refine sN rfl ?_ |refine tX rfl ?_ |refine s2 rfl λ_ h=>?_ |refine aU rfl ?_ |apply Aa);(refine aC rfl ?_ ?_<;>rintro⟨⟩)
  ·apply aK
   refine aS (aB ?_);refine rG (He [9]) (by kernel_rfl) ?_;(repeat first|refine tA rfl ?_ |(refine s4 rfl ‹_› rfl ?_ ?_;omega) |refine sP rfl (b) rfl ?_);(refine pW rfl ?_ rfl (by rfl);refine Al rfl rfl rfl (by first| (simp;done)|(simp;(omega))) rfl (by intro r b;simp at b;subst b;rfl) (by rfl) (am rfl) (by simp;omega) ?_);(repeat first|(refine sA rfl ?_ ?_;first|exact tI|omega) |refine aU rfl ?_ |apply Aa);refine⟨⟨k+1,by omega⟩,by dsimp only;(omega),[1],?_⟩;simp[cX,zC,a,e]
  ·exfalso;(simp only[oZ] at *;omega)
 ·obtain rfl:k=words.length:=by omega
  rw [ge];(repeat first|refine sN rfl ?_ |refine tX rfl ?_ |refine s2 rfl λ_ h=>?_ |refine aU rfl ?_ |apply Aa);(refine aC rfl ?_ ?_<;>rintro⟨⟩)
  ·exfalso;(simp only[oZ] at *;omega)
  ·apply aE
   (repeat first|refine tX rfl ?_ |refine aU rfl ?_ |apply Aa);refine Aj.settle [(6,BT (words.map (marks A cols)))] ⟨⟨_,rfl,.o (.full rfl (by simp [d5]) (by simp))⟩,trivial⟩ ?_;refine aR ⟨_,rfl,rfl⟩
def rowAt(al:Int)(l:List W)(i:Nat):Bool:=match l[i]? with
 | none=>true
 | some w=>!decide (w.length=0) && (within w al && decide (w.dropLast∈l.take i))
def OY(al:Int)(l:List W)(i:Nat):Bool:=match l[i]? with
 | none=>true
 | some w=>decide (w.length<=4000) && (within w al && !decide (w∈l.take i))
def GM(f:Nat->Bool)(n:Nat):Bool:=(List.range n).all λi=>decide (i=0) || f i
theorem O8{f:Nat->Bool}{k:Nat}(h:GM f k=true)(a:f k=true):GM f (k+1)=true:=by
 unfold GM at *;rw [pN,List.all_append,h];simp [a]
theorem Rp{f:Nat->Bool}{k n:Nat}(b:0 < k)(h:k < n)(a:f k=false):GM f n=false:=by
 unfold GM;rw [rN];exact⟨k,oc.2 h,by simp [a];omega⟩
def Nm(al:Int)(t:A1):Bool:=decide (0<=al) && (decide (1<=t.rows.length/\t.rows.length<=12) && (decide (1<=t.cols.length/\t.cols.length<=20) && (decide (t.rows[0]? = some []) && decide (t.cols[0]? = some []))))
def Gl(al:Int)(t:A1):Bool:=Nm al t && (GM (rowAt al t.rows) t.rows.length && GM (OY al t.cols) t.cols.length)
theorem Uz(al:Int)(t:A1)(s:VR t):Pure Tryz.prog TB 198 [eI .i64 al,Ef t] (eB (Gl al t)):=by
 have B:=s.rl;have F:=s.cl;by_cases q:Nm al t=true
 ·have n : Gl al t=(GM (rowAt al t.rows) t.rows.length && GM (OY al t.cols) t.cols.length):=by unfold Gl;rw [q];rfl
  rw [n];unfold Nm at q;simp only [d4,decide_eq_true_eq] at q;obtain⟨R,Q,P,L,K⟩:=q;have A:=get_map (g:=CQ) (k:=0) L;have z:=get_map (g:=CQ) (k:=0) K;have N:((0:Nat):Int).toNat=(0:Int).toNat:=rfl;rw [N] at A z;refine eN Tryz.func198 rfl (by kernel_rfl) rfl ?_;intro Γ b;(repeat' first|refine sN rfl ?_ |refine tA rfl ?_ |(refine s4 rfl ‹_› rfl ?_ ?_;omega) |refine s2 rfl λ_ a=>?_ |refine s3 rfl ?_ ?_<;>rintro rfl |refine aU rfl ?_ |apply Aa|(refine aC rfl ?_ ?_<;>rintro⟨⟩)|apply aK|apply aE|apply aB|refine aR ⟨_,rfl,?_⟩)
  all_goals first
   | (exfalso;(simp only[oZ] at *;omega);done)
   | (exfalso;simp at *;done)
   | skip
  refine aL (α:={k:Nat // 1<=k/\k<=t.rows.length/\GM (rowAt al t.rows) k=true}) [0,3,5,6] [] rfl rfl (λ⟨k,c,hk,ha⟩=>[(7,eI .i64 k)]) (λ⟨k,c,hk,ha⟩=>[]) 0 (λ⟨k,c,hk,ha⟩=>t.rows.length - k) (⟨1,by omega,by omega,rfl⟩) b rfl (by (simp[cX,zC,b])) ?_;rintro⟨k,c,hk,ha⟩;(try dsimp only[cA,cB]);by_cases f:k < t.rows.length
  ·obtain⟨x,i⟩:=get_some f
   have v:=get_map (g:=CQ) i;have u:=s.rb x (co i)
   have e:rowAt al t.rows k=(!decide (x.length=0) && (within x al && decide (x.dropLast∈t.rows.take k))):=by unfold rowAt;rw [i]
   have j:=El (TB:=TB) x al (by omega)
   have p:Pure Tryz.prog TB 187 [.o (.d (.l ((t.rows.map CQ).take ((k:Nat):Int).toNat))),eT (x.take ((x.length:Int) - 1).toNat)] (eB (decide (x.dropLast∈t.rows.take k))):=by
    have M:(x.take ((x.length:Int) - 1).toNat)=x.dropLast:=by rw [List.dropLast_eq_take];congr 1;omega
    rw [M,io,<-rH];exact Je _ _ (by simp;omega)
   (repeat first|refine tA rfl ?_ |refine s2 rfl λ_ a=>?_ |refine aU rfl ?_ |apply Aa);(refine aC rfl ?_ ?_<;>rintro⟨⟩)
   ·(repeat' first|(refine sA rfl ?_ ?_;first|exact tI|omega) |(refine s4 rfl ‹_› rfl ?_ ?_;omega) |refine s2 rfl λ_ a=>?_ |(refine sC rfl (j) ?_;intro _ a)|(refine sC rfl (p) ?_;intro _ a)|(refine Af rfl ?_;refine gA rfl ?_;first| refine gS (λ_ _=>OE rfl rfl (by simp) (by omega) (by (simp only[oZ] at *;omega))) ?_|refine gS (λ_ _=>YY rfl rfl (by (simp only[oZ] at *;omega)) (by omega)) ?_) |refine s3 rfl ?_ ?_<;>rintro rfl |refine aU rfl ?_ |apply Aa |refine rE (by kernel_rfl) ?_|(refine aC rfl ?_ ?_<;>rintro⟨⟩)|apply aK|apply aE|apply aB|refine aR ⟨_,rfl,?_⟩)
    all_goals first
     | (show eB false=eB _;rw [Rp (by omega) f (by rw [e];grind)];rfl)
     | (have m:=O8 ha (by rw [e];grind);refine⟨⟨k+1,by omega,by omega,m⟩,by dsimp only;(omega),[],?_⟩;simp[cX,zC,b])
   ·exfalso;(simp only[oZ] at *;omega)
  ·obtain rfl:k=t.rows.length:=by omega
   rw [ha];(repeat first|refine tA rfl ?_ |refine s2 rfl λ_ a=>?_ |refine aU rfl ?_ |apply Aa);(refine aC rfl ?_ ?_<;>rintro⟨⟩)
   ·exfalso;(simp only[oZ] at *;omega)
   ·(repeat' first|refine tA rfl ?_ |refine aU rfl ?_ |apply Aa|(refine aC rfl ?_ ?_<;>rintro⟨⟩)|apply aK|apply aE|apply aB|refine aR ⟨_,rfl,?_⟩)
    refine aL (α:={k:Nat // 1<=k/\k<=t.cols.length/\GM (OY al t.cols) k=true}) [0,3,6] [] rfl rfl (λ⟨k,c,hk,ha⟩=>[(9,eI .i64 k)]) (λ⟨k,c,hk,ha⟩=>[]) 0 (λ⟨k,c,hk,ha⟩=>t.cols.length - k) (⟨1,by omega,by omega,rfl⟩) b rfl (by (simp[cX,zC,b])) ?_;rintro⟨k,c,hk,ha⟩;(try dsimp only[cA,cB]);by_cases f:k < t.cols.length
    ·obtain⟨x,i⟩:=get_some f
     have v:=get_map (g:=CQ) i;have u:=s.cb x (co i)
     have e:OY al t.cols k=(decide (x.length<=4000) && (within x al && !decide (x∈t.cols.take k))):=by unfold OY;rw [i]
     have j:=El (TB:=TB) x al (by omega)
     have p:Pure Tryz.prog TB 187 [.o (.d (.l ((t.cols.map CQ).take ((k:Nat):Int).toNat))),eT x] (eB (decide (x∈t.cols.take k))):=by
      rw [io,<-rH];exact Je _ _ (by simp;omega)
     (repeat first|refine tA rfl ?_ |refine s2 rfl λ_ a=>?_ |refine aU rfl ?_ |apply Aa);(refine aC rfl ?_ ?_<;>rintro⟨⟩)
     ·(repeat' first|(refine sA rfl ?_ ?_;first|exact tI|omega) |(refine s4 rfl ‹_› rfl ?_ ?_;omega) |refine s2 rfl λ_ a=>?_ |(refine sC rfl (j) ?_;intro _ a)|(refine sC rfl (p) ?_;intro _ a)|(refine Af rfl ?_;refine gA rfl ?_;first| refine gS (λ_ _=>OE rfl rfl (by simp) (by omega) (by (simp only[oZ] at *;omega))) ?_) |refine s3 rfl ?_ ?_<;>rintro rfl |refine aU rfl ?_ |apply Aa|(refine aC rfl ?_ ?_<;>rintro⟨⟩)|apply aK|apply aE|apply aB|refine aR ⟨_,rfl,?_⟩)
      all_goals first
       | (show eB false=eB _;rw [Rp (by omega) f (by rw [e];grind)];rfl)
       | (have m:=O8 ha (by rw [e];grind);refine⟨⟨k+1,by omega,by omega,m⟩,by dsimp only;(omega),[],?_⟩;simp[cX,zC,b])
     ·exfalso;(simp only[oZ] at *;omega)
    ·obtain rfl:k=t.cols.length:=by omega
     rw [ha];(repeat first|refine tA rfl ?_ |refine s2 rfl λ_ a=>?_ |refine aU rfl ?_ |apply Aa);(refine aC rfl ?_ ?_<;>rintro⟨⟩)
     ·exfalso;(simp only[oZ] at *;omega)
     ·(repeat' first|refine tA rfl ?_ |refine aU rfl ?_ |apply Aa|(refine aC rfl ?_ ?_<;>rintro⟨⟩)|apply aK|apply aE|apply aB|refine aR ⟨_,rfl,?_⟩)
      rfl
 ·have n:Gl al t=false:=by unfold Gl;simp [q]
  rw [n]
  have r:¬(0<=al/\(1<=t.rows.length/\t.rows.length<=12)/\(1<=t.cols.length/\t.cols.length<=20)/\t.rows[0]? = some []/\t.cols[0]? = some []):=by
   intro h;apply q;unfold Nm;simp [h]
  have w:(t.rows.map CQ)[(0:Int).toNat]? = (t.rows[0]?).map CQ:=by simp
  have y:(t.cols.map CQ)[(0:Int).toNat]? = (t.cols[0]?).map CQ:=by simp
  have G:t.rows[0]? = none->t.rows.length=0:=λh=>by have:=qR.1 h;omega
  have I:t.cols[0]? = none->t.cols.length=0:=λh=>by have:=qR.1 h;omega
  refine eN Tryz.func198 rfl (by kernel_rfl) rfl ?_;intro Γ b
  cases H:t.rows[0]?<;>cases J:t.cols[0]?<;>rw [H] at w r<;>rw [J] at y r<;>(
   (repeat' first|refine sN rfl ?_ |refine tA rfl ?_ |(refine s4 rfl ‹_› rfl ?_ ?_;omega) |refine s2 rfl λ_ a=>?_ |refine s3 rfl ?_ ?_<;>rintro rfl |refine aU rfl ?_ |apply Aa|(refine aC rfl ?_ ?_<;>rintro⟨⟩)|apply aK|apply aE|apply aB|refine aR ⟨_,rfl,?_⟩)
   all_goals first
    | rfl
    | (exfalso;grind;done))
def Gs(al:Int)(w:W):Bool:=within w al && decide (w.length<=4000)
theorem Ph{t:EE}{al:Int}{A:W->Bool}(e:Kj Tryz.prog TB 123 170 t al A)(w:W)(c:w.length<=1099511627776):Pure Tryz.prog TB 184 [EL t,eT w] (eB (Gs al w)):=by
 have g:=e.alph;have f:=El (TB:=TB) w al c
 have d:Gs al w=(within w al && decide ((w.length:Int)<=4000)):=by unfold Gs;congr 1;rw [decide_eq_decide];omega
 rw [d];refine eN Tryz.func184 rfl (by kernel_rfl) rfl ?_;intro Γ b;(repeat' first|refine tA rfl ?_ |refine s2 rfl λ_ a=>?_ |refine sP rfl (g) rfl ?_|(refine sC rfl (f) ?_;intro _ a) |refine s3 rfl ?_ ?_<;>rintro rfl |refine aU rfl ?_ |apply Aa|(refine aC rfl ?_ ?_<;>rintro⟨⟩)|apply aK|apply aE|apply aB|refine aR ⟨_,rfl,?_⟩)
 all_goals (show E.o _=E.o _;congr;grind)
def A2(A:W->Bool)(al:Int)(t:A1):Bool:=Gl al t && decide (AI A t).Nodup
theorem fW{l:List W}{k:Nat}{x:W}(c:l[k]? = some x)(h:(l.take k).Nodup)(d:x∉l.take k):(l.take (k+1)).Nodup:=by
 rw [d8,c,pR];refine⟨h,by simp,λa ha b hb e=>?_⟩;simp at hb;subst hb;exact d (e ▸ ha)
theorem jn{l:List W}{k:Nat}{x:W}(a:l[k]? = some x)(b:x∈l.take k):¬l.Nodup:=by
 intro h;obtain⟨c,rfl⟩:=ce.1 a;rw [<-o7 k l,pR] at h;exact h.2.2 _ b _ (by rw [qd c];exact p8) rfl
theorem FA{t:EE}{al:Int}{A:W->Bool}(p:Kj Tryz.prog TB 123 170 t al A)(tab:A1)(c:VR tab):Pure Tryz.prog TB 166 [EL t,Ef tab] (eB (A2 A al tab)):=by
 have r:=p.alph;have q:=Uz (TB:=TB) al tab c;have z:=KA p tab.cols tab.rows c.cl (λw u=>by have:=c.rb w u;omega) c.cb c.rl;by_cases hs:Gl al tab=true
 ·have h:A2 A al tab=decide (AI A tab).Nodup:=by unfold A2;rw [hs];rfl
  rw [h];have n:Pure Tryz.prog TB 124 [EL t,BT tab.cols,BT tab.rows] (BT (AI A tab)):=z
  have y:(AI A tab).length=tab.rows.length:=by simp [AI]
  have v:=c.rl;generalize AI A tab=l at *;refine eN Tryz.func166 rfl (by kernel_rfl) rfl ?_;intro Γ b;(repeat' first|refine tA rfl ?_ |refine s2 rfl λ_ a=>?_ |refine sP rfl (r) rfl ?_|(refine sC rfl (q) ?_;intro _ a)|refine sP rfl (n) rfl ?_ |refine aU rfl ?_ |apply Aa |refine rE (by kernel_rfl) ?_|(refine aC rfl ?_ ?_<;>rintro⟨⟩)|apply aK|apply aE|apply aB|refine aR ⟨_,rfl,?_⟩)
  all_goals first
   | (exfalso;grind;done)
   | skip
  refine aL (α:={k:Nat // k<=l.length/\(l.take k).Nodup}) [5] [] rfl rfl (λ⟨k,hk,e⟩=>[(6,eI .i64 k)]) (λ⟨k,hk,e⟩=>[]) 0 (λ⟨k,hk,e⟩=>l.length - k) (⟨0,by omega,by simp⟩) b rfl (by (simp[cX,zC,b])) ?_;rintro⟨k,hk,e⟩;(try dsimp only[cA,cB]);by_cases j:k < l.length
  ·obtain⟨x,f⟩:=get_some j
   have s:=get_map (g:=CQ) f
   have m:Pure Tryz.prog TB 187 [.o (.d (.l ((l.map CQ).take ((k:Nat):Int).toNat))),eT x] (eB (decide (x∈l.take k))):=by
    rw [io,<-rH];exact Je _ _ (by simp;omega)
   (repeat first|refine sN rfl ?_ |refine tA rfl ?_ |refine s2 rfl λ_ a=>?_ |refine aU rfl ?_ |apply Aa);(refine aC rfl ?_ ?_<;>rintro⟨⟩)
   ·(repeat' first|(refine sA rfl ?_ ?_;first|exact tI|omega) |(refine s4 rfl ‹_› rfl ?_ ?_;omega) |(refine sC rfl (m) ?_;intro _ a)|(refine Af rfl ?_;refine gA rfl ?_;first| refine gS (λ_ _=>OE rfl rfl (by simp) (by omega) (by (simp only[oZ] at *;omega))) ?_) |refine aU rfl ?_ |apply Aa |refine rE (by kernel_rfl) ?_|(refine aC rfl ?_ ?_<;>rintro⟨⟩)|apply aK|apply aE|apply aB|refine aR ⟨_,rfl,?_⟩)
    ·show eB false=eB _
     rw [decide_eq_false (jn f (by simpa using a))]
    ·have i:=fW f e (by simpa using a)
     refine⟨⟨k+1,by omega,i⟩,by dsimp only;(omega),[],?_⟩;simp[cX,zC,b]
   ·exfalso;(simp only[oZ] at *;omega)
  ·rw [gc (by omega)] at e
   (repeat first|refine sN rfl ?_ |refine tA rfl ?_ |refine s2 rfl λ_ a=>?_ |refine aU rfl ?_ |apply Aa);(refine aC rfl ?_ ?_<;>rintro⟨⟩)
   ·exfalso;(simp only[oZ] at *;omega)
   ·(repeat' first|refine tA rfl ?_ |refine aU rfl ?_ |apply Aa|(refine aC rfl ?_ ?_<;>rintro⟨⟩)|apply aK|apply aE|apply aB|refine aR ⟨_,rfl,?_⟩)
    rw [decide_eq_true e]
 ·have h:A2 A al tab=false:=by unfold A2;simp [hs]
  rw [h];refine eN Tryz.func166 rfl (by kernel_rfl) rfl ?_;intro Γ b;(repeat' first|refine tA rfl ?_ |refine s2 rfl λ_ a=>?_ |refine sP rfl (r) rfl ?_|(refine sC rfl (q) ?_;intro _ a) |refine aU rfl ?_ |apply Aa |refine rE (by kernel_rfl) ?_|(refine aC rfl ?_ ?_<;>rintro⟨⟩)|apply aK|apply aE|apply aB|refine aR ⟨_,rfl,?_⟩)
  all_goals first
   | rfl
   | (exfalso;grind;done)
theorem Kz{t:EE}{al:Int}{A:W->Bool}(G:Kj Tryz.prog TB 123 170 t al A)(tab:A1)(h:VR tab):Pure Tryz.prog TB 167 [EL t,Ef tab] (ZF (Bh A (A7 al) tab)):=by
 have P:=G.alph;have N:=Cj (TB:=TB) al;have M:Pure Tryz.prog TB 124 [EL t,BT tab.cols,BT tab.rows] (BT (AI A tab)):=KA G tab.cols tab.rows h.cl (λw f=>by have:=h.rb w f;omega) h.cb h.rl;have I:=h.rl;have K:(Ac al).length<=6:=AM al 6;refine eN Tryz.func167 rfl (by kernel_rfl) rfl ?_;intro Γ a;(repeat' first|refine tA rfl ?_ |refine sP rfl (P) rfl ?_|refine sP rfl (N) rfl ?_|refine sP rfl (M) rfl ?_ |refine aU rfl ?_ |apply Aa|(refine aC rfl ?_ ?_<;>rintro⟨⟩)|apply aK|apply aE|apply aB|refine aR ⟨_,rfl,?_⟩);refine aL (α:={k:Nat // k<=tab.rows.length/\∀w∈CP (A7 al) (tab.rows.take k),marks A tab.cols w∈AI A tab}) [2,3,6,7] [] rfl rfl (λ⟨k,hk,b⟩=>[(8,eI .i64 k)]) (λ⟨k,hk,b⟩=>[]) 0 (λ⟨k,hk,b⟩=>tab.rows.length - k) (⟨0,by omega,by simp [CP]⟩) a rfl (by (simp[cX,zC,a])) ?_;rintro⟨k,hk,b⟩;(try dsimp only[cA,cB]);by_cases v:k < tab.rows.length
 ·obtain⟨r, d⟩:=get_some v
  have H:=get_map (g:=CQ) d;have J:=h.rb r (co d);(repeat first|refine sN rfl ?_ |refine tA rfl ?_ |refine s2 rfl λ_ e=>?_ |refine aU rfl ?_ |apply Aa);(refine aC rfl ?_ ?_<;>rintro⟨⟩)
  ·apply aK
   refine aS (aB ?_);(repeat first|refine tA rfl ?_ |refine aU rfl ?_ |apply Aa);apply aB;refine aL (α:={j:Nat // j<=(Ac al).length/\∀x∈(A7 al).take j,marks A tab.cols (r++[x])∈AI A tab}) [2,3,6,7,8] [] rfl rfl (λ⟨j,B,c⟩=>[(9,eI .i64 j)]) (λ⟨j,B,c⟩=>[]) 0 (λ⟨j,B,c⟩=>(Ac al).length - j) (⟨0,by omega,by simp⟩) a rfl (by (simp[cX,zC,a])) ?_;rintro⟨j,B,c⟩;(try dsimp only[cA,cB]);by_cases p:j < (Ac al).length
   ·obtain⟨l,z⟩:=get_some p
    have L:=get_map (g:=Br) z;have y:=Au (co z)
    have n:(A7 al)[j]? = some (lb l):=by simp [A7,z]
    have u:Pure Tryz.prog TB 127 [eI .i64 l] (eT [lb l]):=HP l y.1 (by omega);have m:=MV G tab.cols (r++[lb l]) h.cl (by simp;omega) h.cb;have F:=Je (TB:=TB) (AI A tab) (marks A tab.cols (r++[lb l])) (by simp [AI];omega);(repeat first|refine sN rfl ?_ |refine tA rfl ?_ |refine s2 rfl λ_ e=>?_ |refine aU rfl ?_ |apply Aa);(refine aC rfl ?_ ?_<;>rintro⟨⟩)
    ·(repeat' first|(refine sA rfl ?_ ?_;first|exact tI|omega|simp only[oZ] at *;omega) |(refine s4 rfl ‹_› rfl ?_ ?_;omega) |refine s2 rfl λ_ e=>?_ |refine sP rfl (u) rfl ?_|refine sP rfl (m) rfl ?_|(refine sC rfl (F) ?_;intro _ e) |refine aU rfl ?_ |apply Aa |refine rE (by kernel_rfl) ?_|(refine aC rfl ?_ ?_<;>rintro⟨⟩)|apply aK|apply aE|apply aB|refine aR ⟨_,rfl,?_⟩)
     ·have hno:marks A tab.cols (r++[lb l])∉AI A tab:=by grind
      rw [YP d n b c hno];rfl
     ·have i:marks A tab.cols (r++[lb l])∈AI A tab:=by grind
      have q:∀x∈(A7 al).take (j+1),marks A tab.cols (r++[x])∈AI A tab:=λx d=>by
       rw [d8,n] at d
       rcases em.1 d with d|d
       ·exact c x d
       ·simp at d;subst d;exact i
      refine⟨⟨j+1,by omega,q⟩,by dsimp only;(omega),[],?_⟩;simp[cX,zC,a]
    ·exfalso;(simp only[oZ] at *;omega)
   ·have o:∀w∈CP (A7 al) (tab.rows.take (k+1)),marks A tab.cols w∈AI A tab:=λw f=>by
     rw [Pt d] at f
     rcases em.1 f with f|f
     ·exact b w f
     ·obtain⟨x,s,rfl⟩:=d9.1 f
      exact c x (by rw [gc (by simp [A7];omega)];exact s)
    (repeat first|refine sN rfl ?_ |refine tA rfl ?_ |refine s2 rfl λ_ e=>?_ |refine aU rfl ?_ |apply Aa);(refine aC rfl ?_ ?_<;>rintro⟨⟩)
    ·exfalso;(simp only[oZ] at *;omega)
    ·(repeat' first|(refine sA rfl ?_ ?_;first|exact tI|omega) |refine aU rfl ?_ |apply Aa|(refine aC rfl ?_ ?_<;>rintro⟨⟩)|apply aK|apply aE|apply aB|refine aR ⟨_,rfl,?_⟩)
     refine⟨⟨k+1,by omega,o⟩,by dsimp only;(omega),[],?_⟩;simp[cX,zC,a]
  ·exfalso;(simp only[oZ] at *;omega)
 ·have hno:Bh A (A7 al) tab=none:=p7.2 λw f=>by
   have:=b w (by rw [gc (by omega)];exact f)
   simpa using this
  rw [hno];(repeat first|refine sN rfl ?_ |refine tA rfl ?_ |refine s2 rfl λ_ e=>?_ |refine aU rfl ?_ |apply Aa);(refine aC rfl ?_ ?_<;>rintro⟨⟩)
  ·exfalso;(simp only[oZ] at *;omega)
  ·(repeat' first|refine tA rfl ?_ |refine aU rfl ?_ |apply Aa|(refine aC rfl ?_ ?_<;>rintro⟨⟩)|apply aK|apply aE|apply aB|refine aR ⟨_,rfl,?_⟩)
   rfl
theorem Qv{t:EE}{al:Int}{A:W->Bool}(e:Kj Tryz.prog TB 123 170 t al A)(tab:A1)(c:VR tab):Pure Tryz.prog TB 168 [EL t,Ef tab] (ZF (if A2 A al tab then Bh A (A7 al) tab else none)):=by
 have g:=FA e tab c;have f:=Kz e tab c;by_cases d:A2 A al tab=true
 ·rw [if_pos d]
  cases h:Bh A (A7 al) tab<;>rw [h] at f<;>(
   refine eN Tryz.func168 rfl (by kernel_rfl) rfl ?_;intro Γ b;(repeat' first|refine tA rfl ?_ |refine s2 rfl λ_ a=>?_ |(refine sC rfl (g) ?_;intro _ a)|refine sP rfl (f) rfl ?_ |refine aU rfl ?_ |apply Aa|(refine aC rfl ?_ ?_<;>rintro⟨⟩)|apply aK|apply aE|apply aB|refine aR ⟨_,rfl,?_⟩)
   all_goals first
    | rfl
    | (exfalso;grind;done))
 ·rw [if_neg d]
  refine eN Tryz.func168 rfl (by kernel_rfl) rfl ?_;intro Γ b;(repeat' first|refine tA rfl ?_ |refine s2 rfl λ_ a=>?_ |(refine sC rfl (g) ?_;intro _ a) |refine aU rfl ?_ |apply Aa|(refine aC rfl ?_ ?_<;>rintro⟨⟩)|apply aK|apply aE|apply aB|refine aR ⟨_,rfl,?_⟩)
  all_goals first
   | rfl
   | (exfalso;grind;done)
def BA(A:W->Bool)(al:Int)(t:A1):Bool:=A2 A al t && (Bh A (A7 al) t).isNone
theorem P5{t:EE}{al:Int}{A:W->Bool}(g:Kj Tryz.prog TB 123 170 t al A)(tab:A1)(f:VR tab):Pure Tryz.prog TB 122 [EL t,Ef tab] (eB (BA A al tab)):=by
 have h:=FA g tab f;have b:=Qv g tab f;by_cases c:A2 A al tab=true
 ·rw [if_pos c] at b
  have e:BA A al tab=(Bh A (A7 al) tab).isNone:=by unfold BA;rw [c];rfl
  rw [e]
  cases i:Bh A (A7 al) tab<;>rw [i] at b<;>(
   refine eN Tryz.func122 rfl (by kernel_rfl) rfl ?_;intro Γ d;(repeat' first|refine tA rfl ?_ |refine s2 rfl λ_ a=>?_ |(refine sC rfl (h) ?_;intro _ a)|refine sP rfl (b) rfl ?_ |refine s3 rfl ?_ ?_<;>rintro rfl |refine aU rfl ?_ |apply Aa|(refine aC rfl ?_ ?_<;>rintro⟨⟩)|apply aK|apply aE|apply aB|refine aR ⟨_,rfl,?_⟩)
   all_goals first
    | rfl
    | (exfalso;grind;done)
    | (show E.o _=E.o _;congr;first| grind|(simp at *;assumption)))
 ·rw [if_neg c] at b
  have e:BA A al tab=false:=by unfold BA;simp [c]
  rw [e];refine eN Tryz.func122 rfl (by kernel_rfl) rfl ?_;intro Γ d;(repeat' first|refine tA rfl ?_ |refine s2 rfl λ_ a=>?_ |(refine sC rfl (h) ?_;intro _ a)|refine sP rfl (b) rfl ?_ |refine s3 rfl ?_ ?_<;>rintro rfl |refine aU rfl ?_ |apply Aa|(refine aC rfl ?_ ?_<;>rintro⟨⟩)|apply aK|apply aE|apply aB|refine aR ⟨_,rfl,?_⟩)
  all_goals first
   | rfl
   | (exfalso;grind;done)
theorem jd{l:List W}{s:W}{k:Nat}(a:l[k]? = some s)(b:s∉l.take k):l.idxOf s=k:=by
 have c:k < l.length:=(ce.1 a).1
 have e:l=l.take k++s::l.drop (k+1):=by rw [<-BB a,o7]
 rw [e,rP,if_neg b,rv];simp;omega
theorem Uy(l:List W)(s:W)(j:s∈l)(n:l.length<=1099511627776):Pure Tryz.prog TB 125 [BT l,eT s] (eI .i64 (l.idxOf s:Nat)):=by
 refine eN Tryz.func125 rfl (by kernel_rfl) rfl ?_;intro Γ a;(repeat first|refine tA rfl ?_ |refine aU rfl ?_ |apply Aa);apply aB;refine aL (α:={k:Nat // k<=l.length/\s∉l.take k}) [0,1] [] rfl rfl (λ⟨k,hk,b⟩=>[(5,eI .i64 k)]) (λ⟨k,hk,b⟩=>[]) 0 (λ⟨k,hk,b⟩=>l.length - k) (⟨0,by omega,by simp⟩) a rfl (by (simp[cX,zC,a])) ?_;rintro⟨k,hk,b⟩;(try dsimp only[cA,cB])
 have f:k < l.length:=by
  rcases oK k l.length with h|h
  ·exact h
  ·rw [gc h] at b;exact absurd j b
 obtain⟨x,d⟩:=get_some (l:=l) (k:=k) f;have i:=get_map (g:=CQ) d;by_cases hs:x=s
 ·subst hs
  have m:=jd d b;rw [m];(repeat first|refine tA rfl ?_ |(refine s4 rfl ‹_› rfl ?_ ?_;omega) |refine s2 rfl λ_ c=>?_ |refine aU rfl ?_ |apply Aa);(refine aC rfl ?_ ?_<;>rintro⟨⟩)
  ·exfalso;simp at c
  ·(repeat' first|refine tA rfl ?_ |refine aU rfl ?_ |apply Aa|(refine aC rfl ?_ ?_<;>rintro⟨⟩)|apply aK|apply aE|apply aB|refine aR ⟨_,rfl,?_⟩)
   rfl
 ·have e:s∉l.take (k+1):=by
   rw [d8,d];intro h
   rcases em.1 h with h|h
   ·exact b h
   ·simp at h;exact hs h.symm
  (repeat first|refine tA rfl ?_ |(refine s4 rfl ‹_› rfl ?_ ?_;omega) |refine s2 rfl λ_ c=>?_ |refine aU rfl ?_ |apply Aa);(refine aC rfl ?_ ?_<;>rintro⟨⟩)
  ·(repeat' first|(refine sA rfl ?_ ?_;first|exact tI|omega) |refine aU rfl ?_ |apply Aa|(refine aC rfl ?_ ?_<;>rintro⟨⟩)|apply aK|apply aE|apply aB|refine aR ⟨_,rfl,?_⟩)
   refine⟨⟨k+1,by omega,e⟩,by dsimp only;(omega),[],?_⟩;simp[cX,zC,a]
  ·exfalso;simp [hs] at c
end Go.Am
namespace Go.Am
open Go
theorem Uo{f:Nat->Bool}{n k:Nat}(h:GM f n=true)(a:0 < k)(hk:k < n):f k=true:=by
 unfold GM at h;have:=(f7.1 h) k (oc.2 hk);simp at this
 rcases this with h|h
 ·omega
 ·exact h
theorem Up{f:Nat->Bool}{n:Nat}(h:∀k,0 < k->k < n->f k=true):GM f n=true:=by
 unfold GM;refine f7.2 λk hk=>?_;have hk:=oc.1 hk
 rcases o3 k with a|a
 ·subst a;rfl
 ·simp [h k a hk]
structure bB (al:Int) (t:A1):Prop where
 pos:0<=al
 r1:1<=t.rows.length
 rl:t.rows.length<=12
 c1:1<=t.cols.length
 cl:t.cols.length<=20
 r0:t.rows[0]? = some []
 c0:t.cols[0]? = some []
 rw:∀w∈t.rows,w.length<=50000/\AR (A7 al) w
 cw:∀w∈t.cols,w.length<=4000/\AR (A7 al) w
 pre:∀(i:Nat) w,t.rows[i]? = some w->0 < i->w≠[]/\∃j,j < i/\t.rows[j]? = some w.dropLast
 ndC:t.cols.Nodup
theorem NO{α:Type}{l:List α}{k:Nat}{x:α}(h:x∈l.take k):∃j,j < k/\l[j]? = some x:=by
 obtain⟨j,a,b⟩:=oy h
 have c:j < k:=by simp at a;omega
 refine⟨j,c,?_⟩;rw [<-b,List.getElem_take,d6]
theorem NA{α:Type}{l:List α}{j k:Nat}{x:α}(h:l[j]? = some x)(a:j < k):x∈l.take k:=by
 have:(l.take k)[j]? = some x:=by rw [ow,if_pos a];exact h
 exact co this
theorem XJ{w:W}{al:Int}(h:within w al=true):w.length<=50000:=by
 unfold within at h;simp only [d4,decide_eq_true_eq] at h;exact h.1
theorem Vv{al:Int}{t:A1}(h:Gl al t=true):bB al t:=by
 unfold Gl Nm at h;simp only [d4,decide_eq_true_eq] at h;obtain⟨⟨v,q,p,o,n⟩,u,s⟩:=h
 have d:∀(i:Nat) w,t.rows[i]? = some w->0 < i->w≠[]/\within w al=true/\w.dropLast∈t.rows.take i:=λi w hi b=>by
  have:=Uo u b (ce.1 hi).1;unfold rowAt at this;rw [hi] at this;simp only [d4,decide_eq_true_eq,pQ,decide_eq_false_iff_not] at this;exact⟨λe=>this.1 (by rw [e];rfl),this.2.1,this.2.2⟩
 have f:∀(i:Nat) w,t.cols[i]? = some w->0 < i->w.length<=4000/\within w al=true/\w∉t.cols.take i:=λi w hi b=>by
  have:=Uo s b (ce.1 hi).1;unfold OY at this;rw [hi] at this;simp only [d4,decide_eq_true_eq,pQ,decide_eq_false_iff_not] at this;exact this
 refine⟨v,q.1,q.2,p.1,p.2,o,n,λw k=>?_,λw k=>?_,λi w hi b=>?_,?_⟩
 ·obtain⟨i,hi,g⟩:=oy k
  have a:t.rows[i]? = some w:=by rw [d6 hi,g]
  rcases o3 i with b|b
  ·subst b
   rw [o] at a;injection a with a;subst a
   exact⟨by simp,λc m=>by cases m⟩
  ·have:=d i w a b
   exact⟨XJ this.2.1,Dg this.2.1⟩
 ·obtain⟨i,hi,g⟩:=oy k
  have a:t.cols[i]? = some w:=by rw [d6 hi,g]
  rcases o3 i with b|b
  ·subst b
   rw [n] at a;injection a with a;subst a
   exact⟨by simp,λc m=>by cases m⟩
  ·have:=f i w a b
   exact⟨this.1,Dg this.2.1⟩
 ·have:=d i w hi b
  exact⟨this.1,NO this.2.2⟩
 ·unfold List.Nodup
  rw [oe];intro i j hi r l g;have:=f j t.cols[j] (d6 r) (by omega);exact this.2.2 (NA (by rw [d6 hi,g]) l)
theorem aH{al:Int}{t:A1}(ha:A8 al=true)(q:0<=al)(l:1<=t.rows.length/\t.rows.length<=12)(n:1<=t.cols.length/\t.cols.length<=20)(h:t.rows[0]? = some [])(r:t.cols[0]? = some [])
 (rw':∀w∈t.rows,w.length<=50000/\AR (A7 al) w) (cw:∀w∈t.cols,w.length<=4000/\AR (A7 al) w) (pre:∀(i:Nat) w,t.rows[i]? = some w->0 < i->w≠[]/\∃j,j < i/\t.rows[j]? = some w.dropLast) (ndC:t.cols.Nodup):Gl al t=true:=by
 unfold Gl Nm;simp only [d4,decide_eq_true_eq];refine⟨⟨q,l,n,h,r⟩,Up λk hk a=>?_,Up λk hk a=>?_⟩
 ·have c:=d6 a
  obtain⟨p,j,f,o⟩:=pre k _ c hk;have b:=rw' _ (oN a);unfold rowAt;rw [c];simp only [d4,decide_eq_true_eq,pQ,decide_eq_false_iff_not];exact⟨λe=>p (ms.1 e),GQ b.2 b.1 ha,NA o f⟩
 ·have c:=d6 a
  have b:=cw _ (oN a);unfold OY;rw [c];simp only [d4,decide_eq_true_eq,pQ,decide_eq_false_iff_not];refine⟨b.1,GQ b.2 (by omega) ha,λm=>?_⟩;obtain⟨j,f,g⟩:=NO m;obtain⟨d,g⟩:=ce.1 g;exact(oe.1 ndC) j k d a f g
theorem Ek{A:W->Bool}{al:Int}{t:A1}(h:A2 A al t=true):bB al t/\(AI A t).Nodup:=by
 unfold A2 at h;rw [d4,decide_eq_true_eq] at h;exact⟨Vv h.1,h.2⟩
theorem IG{A:W->Bool}{al:Int}{t:A1}(h:A2 A al t=true):TOk A (A7 al) t:=by
 obtain⟨a,c⟩:=Ek h;exact⟨a.r0,a.c0,a.pre,λw b=>(a.rw w b).2,λw b=>(a.cw w b).2,c,a.ndC⟩
theorem JQ{A:W->Bool}{al:Int}{t:A1}(ha:A8 al=true)(i:0<=al)(h:TOk A (A7 al) t)(d:t.rows.length<=12)(e:t.cols.length<=20)(b:∀w∈t.rows,w.length<=50000)(c:∀w∈t.cols,w.length<=4000):A2 A al t=true:=by
 unfold A2;rw [d4,decide_eq_true_eq];have g:=(ce.1 h.r0).1;have f:=(ce.1 h.c0).1;exact⟨aH ha i ⟨g,d⟩ ⟨f,e⟩ h.r0 h.c0 (λw a=>⟨b w a,h.onR w a⟩) (λw a=>⟨c w a,h.onC w a⟩) h.pre h.ndC,h.nd⟩
theorem Jx{A:W->Bool}{al:Int}{t:A1}(h:BA A al t=true):A2 A al t=true/\Bh A (A7 al) t=none/\BS A (A7 al) t:=by
 unfold BA at h;rw [d4] at h
 have a:Bh A (A7 al) t=none:=by simpa using h.2
 exact⟨h.1,a,⟨IG h.1,GU a⟩⟩
theorem bB.sz{al:Int}{t:A1}(h:bB al t):VR t:=⟨by have:=h.rl;omega,by have:=h.cl;omega,λw a=>by have:=(h.rw w a).1;omega,λw a=>by have:=(h.cw w a).1;omega⟩
def TL(A L:W->Bool)(al:Int):Prop:=∀w,AR (A7 al) w->w.length<=50000->A w=L w
theorem Tc{ls:List UInt8}{u w:W}(b:AR ls u)(a:AR ls w):AR ls (u++w):=λc d=>by
 rcases em.1 d with h|h
 ·exact b c h
 ·exact a c h
theorem RB{A L:W->Bool}{al:Int}(h:TL A L al){cols:List W}{w:W}(c:AR (A7 al) w)(b:∀x∈cols,AR (A7 al) x/\w.length+x.length<=50000):marks A cols w=marks L cols w:=by
 rw [marks,marks,qc];intro x a;rw [h _ (Tc c (b x a).1) (by simp;exact(b x a).2)]
theorem HZ{A L:W->Bool}{al:Int}{b:Nat}{t:A1}(h:TL A L al)(ht:Hd al b t)(hb:b<=20100):AI A t=AI L t:=by
 rw [AI,AI,qc];intro r c;have:=ht.onR r c
 exact RB h this.1 λx a=>⟨(ht.onC x a).1,by have:=(ht.onC x a).2;omega⟩
theorem Ps{A L:W->Bool}{al:Int}{b:Nat}{t:A1}(h:TL A L al)(ht:Hd al b t)(hb:b<=20100){r:W}{l:UInt8}(e:r∈t.rows)(f:l∈A7 al):marks A t.cols (r++[l])=marks L t.cols (r++[l]):=by
 have:=ht.onR r e
 refine RB h (Tc this.1 (λc d=>by simp at d;subst d;exact f)) λx a=>⟨(ht.onC x a).1,by have:=(ht.onC x a).2;simp;omega⟩
theorem Ul{α:Type}{p q:α->Bool}:∀ {l:List α},(∀x∈l,p x=q x)->l.find? p=l.find? q
 | [],_=>rfl
 | x::l,h=>by
  rw [List.find?_cons,List.find?_cons,h x (by simp),Ul (l:=l) λy a=>h y (by simp [a])]
theorem Nc{A L:W->Bool}{al:Int}{b:Nat}{t:A1}(h:TL A L al)(ht:Hd al b t)(hb:b<=20100):Bh A (A7 al) t=Bh L (A7 al) t:=by
 unfold Bh;refine Ul λw a=>?_;unfold CP at a;simp only [pu,d9] at a;obtain⟨r,c,l,d,rfl⟩:=a;rw [HZ h ht hb,Ps h ht hb c d]
theorem OV{A L:W->Bool}{al:Int}(h:TL A L al):∀(n:Nat) {b:Nat} {t:A1},Hd al b t->b+n<=20100->Bq A (A7 al) n t=Bq L (A7 al) n t
 | 0,_,_,_,_=>rfl
 | n + 1,b,t,ht,hb=>by
  unfold Bq;rw [Nc h ht (by omega)]
  cases d:Bh L (A7 al) t with
  | none=>rfl
  | some w=>
   dsimp only;by_cases a:t.rows.length=12
   ·rw [if_pos a,if_pos a]
   ·rw [if_neg a,if_neg a]
    have c:=ht.rl;exact OV h n (ht.push d (by omega)) (by omega)
theorem Uw{A L:W->Bool}{al:Int}{b:Nat}{t:A1}(h:TL A L al)(ht:Hd al b t)(hb:b<=20100){r:W}{l:UInt8}(a:r∈t.rows)(c:l∈A7 al):C3 A t (r++[l])=C3 L t (r++[l]):=by
 unfold C3;rw [HZ h ht hb,Ps h ht hb a c]
theorem T9{A L:W->Bool}{al:Int}{b:Nat}{t:A1}(h:TL A L al)(ht:Hd al b t)(hb:b<=20100):AZ A al t=AZ L al t:=by
 unfold AZ;congr 1
 ·refine qc.2 λr a=>qc.2 λl c=>?_
  rw [Uw h ht hb a (Ow c)]
 ·refine qc.2 λr a=>?_
  have:=ht.onR r a;rw [h r this.1 (by omega)]
theorem TOk.mn{A L:W->Bool}{al:Int}{b:Nat}{t:A1}(h:TL A L al)(ht:Hd al b t)(hb:b<=20100)(hk:TOk L (A7 al) t):TOk A (A7 al) t:=⟨hk.r0,hk.c0,hk.pre,hk.onR,hk.onC,by rw [HZ h ht hb];exact hk.nd,hk.ndC⟩
theorem BS.mn{A L:W->Bool}{al:Int}{b:Nat}{t:A1}(h:TL A L al)(ht:Hd al b t)(hb:b<=20100)(hk:BS L (A7 al) t):BS A (A7 al) t:=⟨hk.toTOk.mn h ht hb,λr a l c=>by
 rw [Ps h ht hb a c,HZ h ht hb];exact hk.cl r a l c⟩
theorem dX{A:W->Bool}{al:Int}{t:A1}(h:BS A (A7 al) t){q:Nat}(a:q < t.rows.length):t.rows.getD q []∈t.rows:=by
 rw [List.getD,d6 a];exact oN a
theorem NW{A L:W->Bool}{al:Int}{l:Nat}{t:A1}(h:TL A L al)(ht:Hd al l t)(hb:l<=20100)(hk:BS L (A7 al) t)(b:Bool):∀(w:W) (q:Nat),q < t.rows.length->AR (A7 al) w->w.length<=20000->splitAt A t b q w=splitAt L t b q w
 | [],_,_,_,_=>rfl
 | c :: w,q,f,g,o=>by
  have n:=dX hk f;have j:=g c (by simp);have p:=Uw h ht hb n j;obtain⟨r',k,_⟩:=hk.idx (i:=q) (d6 f) j
  have hg:t.rows.getD q []=t.rows[q]:=by rw [List.getD,d6 f];rfl
  rw [<-hg] at k;have e:=(ce.1 k).1;have d:=dX hk e;have a:AR (A7 al) w:=λx m=>g x (by simp [m]);simp at o
  have r:A (t.rows.getD (C3 L t (t.rows.getD q []++[c])) []++w)=L (t.rows.getD (C3 L t (t.rows.getD q []++[c])) []++w):=
   h _ (Tc (ht.onR _ d).1 a) (by have:=(ht.onR _ d).2;simp only [pj];omega)
  unfold splitAt;rw [p,r];split
  ·rfl
  ·exact NW h ht hb hk b w _ e a (by omega)
abbrev N6:=Int->Int->List Int
def JT(c:N6):List Int->Int->Int->Prop
 | [],q,r=>r=q
 | l::w,q,r=>∃y,y∈c q l/\JT c w y r
def La:List N6->List Int->List Int->List Int->Prop
 | [],_,[],[]=>True
 | c::cs,w,q::st,r::st'=>JT c w q r/\La cs w st st'
 | _,_,_,_=>False
def TT:List N6->Int->List Int->List Int->Prop
 | [],_,[],[]=>True
 | c::cs,l,q::st,r::st'=>r∈c q l/\TT cs l st st'
 | _,_,_,_=>False
theorem JR:∀ {cs:List N6} {l:Int} {w st st':List Int},La cs (l::w) st st'↔∃st1,TT cs l st st1/\La cs w st1 st'
 | [],l,w,[],[]=>⟨λ_=>⟨[],trivial,trivial⟩,λ_=>trivial⟩
 | [],l,w,[],_::_=>⟨λh=>h.elim,λ⟨st1,a,b⟩=>by cases st1<;>simp [TT,La] at a b⟩
 | [],l,w,_::_,st'=>⟨λh=>by cases st'<;>exact h.elim,λ⟨st1,a,b⟩=>by cases st1<;>exact a.elim⟩
 | c::cs,l,w,[],st'=>⟨λh=>by cases st'<;>exact h.elim,λ⟨st1,a,b⟩=>by cases st1<;>exact a.elim⟩
 | c::cs,l,w,q::st,[]=>⟨λh=>h.elim,λ⟨st1,a,b⟩=>by cases st1<;>first|exact a.elim|exact b.elim⟩
 | c :: cs,l,w,q::st,r::st'=>by
  have d:=JR (cs:=cs) (l:=l) (w:=w) (st:=st) (st':=st');constructor
  ·rintro⟨⟨y,e,a⟩,b⟩
   obtain⟨st1,g,f⟩:=d.1 b;exact⟨y::st1,⟨e,g⟩,a,f⟩
  ·rintro⟨st1,a,b⟩
   cases st1 with
   | nil=>exact a.elim
   | cons y st1=>exact⟨⟨y,a.1,b.1⟩,d.2 ⟨st1,a.2,b.2⟩⟩
def Ea(n:Net):List N6:=n.ps.map (λs q l=>BO s q l)++n.au.map (λa q l=>[CC a q.toNat l])
def Se:List Int->List (List Int)->Prop
 | [],[]=>True
 | x::xs,c::cs=>x∈c/\Se xs cs
 | _,_=>False
theorem YF:∀ {zs:List Int} {cs:List (List Int)} {out:List Int} {v:Int},cs.length=zs.length->(v∈Hf zs cs out↔∃o∈out,∃st1,Se st1 cs/\v=DB zs st1 o)
 | [],[],out,v,_=>by
  constructor
  ·intro h;exact⟨v,h,[],trivial,rfl⟩
  ·rintro⟨o,a,st1,h,rfl⟩
   cases st1 with
   | nil=>exact a
   | cons x st1=>exact h.elim
 | [],_::_,_,_,h=>by simp at h
 | _::_,[],_,_,h=>by simp at h
 | z :: zs,c::cs,out,v,h=>by
  have g:=YF (zs:=zs) (cs:=cs) (out:=out.flatMap λo=>c.map λx=>o*z+x) (v:=v) (by simpa using h)
  show v∈Hf zs cs _↔_
  rw [g];constructor
  ·rintro⟨o,a,st1,b,e⟩
   obtain⟨f,d,j⟩:=pu.1 a;obtain⟨x,i,rfl⟩:=d9.1 j;exact⟨f,d,x::st1,⟨i,b⟩,e⟩
  ·rintro⟨o,a,st1,b,e⟩
   cases st1 with
   | nil=>exact b.elim
   | cons x st1=>exact⟨o*z+x,pu.2 ⟨o,a,d9.2 ⟨x,b.1,rfl⟩⟩,st1,b.2,e⟩
theorem Ig:∀ {cs:List N6} {l:Int} {st st1:List Int},cs.length=st.length->(Se st1 (cs.zipWith (λc q=>c q l) st)↔TT cs l st st1)
 | [],l,[],st1,_=>by
  cases st1 with
  | nil=>exact⟨λ_=>trivial,λ_=>trivial⟩
  | cons x st1=>exact⟨λh=>h.elim,λh=>h.elim⟩
 | [],_,_::_,_,h=>by simp at h
 | _::_,_,[],_,h=>by simp at h
 | c::cs,l,q::st,st1,h=>by
  have a:=λst1=>Ig (cs:=cs) (l:=l) (st:=st) (st1:=st1) (by simpa using h)
  cases st1 with
  | nil=>exact⟨λh=>h.elim,λh=>h.elim⟩
  | cons x st1=>exact⟨λh=>⟨h.1,(a st1).1 h.2⟩,λh=>⟨h.1,(a st1).2 h.2⟩⟩
theorem Sv{n:Net}{st:List Int}(h:n.ps.length+n.au.length=st.length)(l:Int):Ks n st l=(Ea n).zipWith (λc q=>c q l) st:=by
 unfold Ks Ea;have e:st=st.take n.ps.length++st.drop n.ps.length:=(o7 _ _).symm
 conv=>rhs;rw [e]
 rw [List.zipWith_append (by simp;omega),List.zipWith_map_left,List.zipWith_map_left];congr 1;exact Gu _ _ _
theorem SB:∀ {zs ss:List Int},Fits zs ss->∀n:Int,DB zs ss n=n*Aw zs+DB zs ss 0
 | _,_,.nil,n=>by simp [DB,Aw]
 | _,_,@Fits.cons z s zs ss c b a,n=>by
  show DB zs ss (n*z+s)=n*(z*Aw zs)+DB zs ss (0*z+s)
  rw [SB a (n*z+s),SB a (0*z+s),qg,qg,pU,Int.zero_mul,Int.zero_mul,Int.zero_add,Int.add_assoc]
theorem Oo:∀ {zs ss:List Int},Fits zs ss->∀m:Int,BG zs (DB zs ss m)=ss
 | _,_,.nil,m=>rfl
 | _,_,@Fits.cons z s zs ss d c a,m=>by
  show (DB zs ss (m*z+s) / Aw zs % z)::BG zs (DB zs ss (m*z+s))=s::ss
  rw [Oo a];congr 1;have e:=a.pos;have b:=a.enc 0 (by omega);rw [Int.zero_add,rA] at b;rw [SB a,Int.add_comm,Int.add_mul_ediv_right _ _ (by omega),Int.ediv_eq_zero_of_lt b.1 b.2,Int.zero_add,Int.add_comm,Int.add_mul_emod_self_right,Int.emod_eq_of_lt d c]
theorem Ld:∀ {zs:List Int} {cs:List (List Int)} {st:List Int},FB zs cs->Se st cs->Fits zs st
 | _,_,[],.nil,_=>.nil
 | _,_,_::_,.nil,h=>h.elim
 | _,_,[],.cons _ _ _,h=>h.elim
 | _,_,x::st,.cons a c b,h=>.cons (a x h.1).1 (a x h.1).2 (Ld b h.2)
theorem Ms:∀ {cs:List N6} {st st':List Int},cs.length=st.length->(La cs [] st st'↔st'=st)
 | [],[],[],_=>⟨λ_=>rfl,λ_=>trivial⟩
 | [],[],_::_,_=>⟨λh=>h.elim,λh=>by cases h⟩
 | [],_::_,_,h=>by simp at h
 | _::_,[],_,h=>by simp at h
 | c::cs,q::st,[],h=>⟨λh=>h.elim,λh=>by cases h⟩
 | c :: cs,q::st,r::st',h=>by
  have d:=Ms (cs:=cs) (st:=st) (st':=st') (by simpa using h);constructor
  ·rintro⟨a,b⟩
   have a:r=q:=a;rw [d.1 b,a]
  ·intro h
   injection h with a b
   exact⟨a,d.2 b⟩
theorem HX{n:Net}(q:DW n):∀ {w:List Int} {st:List Int} {x:Int},Fits (Ag n) st->(∀l∈w,0<=l/\l < 6)->(reach (En n) w (DB (Ag n) st 0) x↔∃st',La (Ea n) w st st'/\Fits (Ag n) st'/\x=DB (Ag n) st' 0)
 | [],st,x,e,_=>by
  have j:=e.len
  have f:(Ea n).length=st.length:=by simp [Ea,Ag] at j |-;omega
  constructor
  ·intro h
   exact⟨st,(Ms f).2 rfl,e,h.symm⟩
  ·rintro⟨st',a,_,b⟩
   rw [(Ms f).1 a] at b;exact b.symm
 | l :: w,st,x,e,k=>by
  have j:=e.len
  have f:(Ea n).length=st.length:=by simp [Ea,Ag] at j |-;omega
  have g:=k l (by simp);have d:=Il q e g.1 g.2
  have c:n.ps.length+n.au.length=st.length:=by simp [Ag] at j;omega
  have hs:(En n).succ (DB (Ag n) st 0) l=Hf (Ag n) (Ks n st l) [0]:=by
   show Fs n (Ag n) (BG (Ag n) (DB (Ag n) st 0)) l=_
   rw [Oo e];rfl
  have key:∀y,y∈(En n).succ (DB (Ag n) st 0) l↔∃st1,TT (Ea n) l st st1/\Fits (Ag n) st1/\y=DB (Ag n) st1 0:=λy=>by
   rw [hs,YF d.len.symm];constructor
   ·rintro⟨o,p,st1,a,b⟩
    have p:o=0:=by simpa using p
    subst p;exact⟨st1,(Ig f).1 (by rw [<-Sv c];exact a),Ld d a,b⟩
   ·rintro⟨st1,a,_,b⟩
    exact⟨0,by simp,st1,by rw [Sv c];exact(Ig f).2 a,b⟩
  constructor
  ·rintro⟨y,u,h⟩
   obtain⟨st1,a,b,rfl⟩:=(key y).1 u;obtain⟨st',t,s⟩:=(HX q b λm r=>k m (by simp [r])).1 h;exact⟨st',JR.2 ⟨st1,a,t⟩,s⟩
  ·rintro⟨st',t,s⟩
   obtain⟨st1,a,v⟩:=JR.1 t;have i:Fits (Ag n) st1:=Ld d (by rw [Sv c];exact(Ig f).2 a);exact⟨_,(key _).2 ⟨st1,a,i,rfl⟩,(HX q i λm r=>k m (by simp [r])).2 ⟨st',v,s⟩⟩
theorem Nv{n:Net}(g:DW n):∀ {w:List Int} {st st':List Int},Fits (Ag n) st->(∀l∈w,0<=l/\l < 6)->La (Ea n) w st st'->Fits (Ag n) st'
 | [],st,st',b,_,h=>by
  have c:=b.len
  have e:(Ea n).length=st.length:=by simp [Ea,Ag] at c |-;omega
  rw [(Ms e).1 h];exact b
 | l::w,st,st',b,f,h=>by
  have c:=b.len
  have e:(Ea n).length=st.length:=by simp [Ea,Ag] at c |-;omega
  have a:=f l (by simp)
  have d:n.ps.length+n.au.length=st.length:=by simp [Ag] at c;omega
  obtain⟨st1,k,j⟩:=JR.1 h;exact Nv g (Ld (Il g b a.1 a.2) (by rw [Sv d];exact(Ig e).2 k)) (λm i=>f m (by simp [i])) j
theorem GJ{a:AX}:∀ {w:List Int} {q r:Int},JT (λq l=>[CC a q.toNat l]) w q r↔r=Dw (fA a) q w
 | [],q,r=>Iff.rfl
 | l::w,q,r=>by
  have b:=GJ (a:=a) (w:=w) (q:=fA a q l) (r:=r)
  show (∃y,y∈[CC a q.toNat l]/\JT _ w y r)↔_
  simp only [rB,exists_eq_left];exact b
abbrev Nn(s:Sys):N6:=λq l=>BO s q l
abbrev mx(a:AX):N6:=λq l=>[CC a q.toNat l]
def Fk(s:Sys)(w:List Int):Prop:=∃q,JT (Nn s) w 0 q
def Er(a:AX)(w:List Int):Bool:=VZ a (Dw (fA a) 0 w)
theorem jb{s:Sys}{a p:AX}(h:CR s a p=true){w:List Int}(u:over (En (Eb s a p)) w):SF (En (Eb s a p)) w↔Fk s w/\Er a w=true/\Er p w=false:=by
 obtain⟨m,hk,i⟩:=Oy h
 have d:∀l∈w,0<=l/\l < 6:=λl y=>by have:=Au (u l y);omega
 have hg:∀ {q k j:Int},Fits (Ag (Eb s a p)) [q,k,j]->(En (Eb s a p)).goal (DB (Ag (Eb s a p)) [q,k,j] 0)=(VZ a k && !VZ p j):=λi=>by
  unfold En;dsimp only;rw [Oo i];rfl
 unfold SF;constructor
 ·rintro⟨x,t,b⟩
  obtain⟨st',c,n,rfl⟩:=(HX m i d).1 t
  match st',c,n,b with
  | [q,k,j],c,n,b=>
   rw [hg n] at b;obtain⟨o,f,e,_⟩:=c;have f:=GJ.1 f;have e:=GJ.1 e;subst f e;refine⟨⟨q,o⟩,?_,?_⟩
   ·unfold Er;revert b;cases VZ a (Dw (fA a) 0 w)<;>simp
   ·unfold Er;revert b;cases VZ p (Dw (fA p) 0 w)<;>simp
  | [],c,_,_=>exact c.elim
  | [_],c,_,_=>exact c.2.elim
  | [_,_],c,_,_=>exact c.2.2.elim
  | _::_::_::_::_,c,_,_=>exact c.2.2.2.elim
 ·rintro⟨⟨q,o⟩,f,e⟩
  have r:La (Ea (Eb s a p)) w [0,0,0] [q,Dw (fA a) 0 w,Dw (fA p) 0 w]:=⟨o,GJ.2 rfl,GJ.2 rfl,trivial⟩
  have v:=λx=>HX (w:=w) (x:=x) m i d;have g:Fits (Ag (Eb s a p)) [q,Dw (fA a) 0 w,Dw (fA p) 0 w]:=Nv m i d r;refine⟨_,(v _).2 ⟨_,r,g,rfl⟩,?_⟩;rw [hg g];unfold Er at f e;rw [f,e];rfl
theorem Jv{w:List Int}:∀ {cs ds:List N6} {st st2 x:List Int},cs.length=st.length->(La (cs++ds) w (st++st2) x↔∃y z,x=y++z/\La cs w st y/\La ds w st2 z)
 | [],ds,[],st2,x,_=>by
  constructor
  ·intro h;exact⟨[],x,rfl,trivial,h⟩
  ·rintro⟨y,z,rfl,b,d⟩
   cases y with
   | nil=>exact d
   | cons a y=>exact b.elim
 | [],_,_::_,_,_,h=>by simp at h
 | _::_,_,[],_,_,h=>by simp at h
 | c :: cs,ds,q::st,st2,x,h=>by
  have f:=λx=>Jv (w:=w) (cs:=cs) (ds:=ds) (st:=st) (st2:=st2) (x:=x) (by simpa using h);constructor
  ·intro e
   cases x with
   | nil=>exact e.elim
   | cons r x=>
    obtain⟨y,z,b,d,g⟩:=(f x).1 e.2;exact⟨r::y,z,by rw [b];rfl,⟨e.1,d⟩,g⟩
  ·rintro⟨y,z,rfl,b,d⟩
   cases y with
   | nil=>exact b.elim
   | cons r y=>exact⟨b.1,(f _).2 ⟨y,z,rfl,b.2,d⟩⟩
theorem Qh{w:List Int}:∀ {l:List Sys},(∃y,La (l.map Nn) w (List.replicate l.length 0) y)↔∀s∈l,Fk s w
 | []=>Iff.intro (λ_ s hs=>absurd hs q9) (λ_=>⟨[],trivial⟩)
 | s :: l=>by
  have a:=Qh (w:=w) (l:=l);constructor
  ·rintro⟨y,h⟩ t ht
   cases y with
   | nil=>exact h.elim
   | cons r y=>
    rcases n8.1 ht with rfl|ht
    ·exact⟨r,h.1⟩
    ·exact a.1 ⟨y,h.2⟩ t ht
  ·intro h
   obtain⟨r,c⟩:=h s (by simp);obtain⟨y,b⟩:=a.2 λt ht=>h t (by simp [ht]);exact⟨r::y,c,b⟩
theorem Qg{w:List Int}:∀ {cs:List N6} {st st':List Int},La cs w st st'->st'.length=cs.length
 | [],[],[],_=>rfl
 | [],[],_::_,h=>h.elim
 | [],_::_,[],h=>h.elim
 | [],_::_,_::_,h=>h.elim
 | _::_,[],[],h=>h.elim
 | _::_,[],_::_,h=>h.elim
 | _::_,_::_,[],h=>h.elim
 | c::cs,q::st,r::st',h=>by simp [Qg h.2]
theorem ja{l:List Sys}{p:AX}(h:(A3 l && AJ p)=true){w:List Int}(F:over (En (C0 l p)) w):SF (En (C0 l p)) w↔(∀s∈l,Fk s w)/\Er p w=false:=by
 obtain⟨v,hk,n⟩:=Ox h
 have f:∀m∈w,0<=m/\m < 6:=λm G=>by have:=Au (F m G);omega
 have hg:∀ {y:List Int} {r:Int},y.length=l.length->Fits (Ag (C0 l p)) (y++[r])->(En (C0 l p)).goal (DB (Ag (C0 l p)) (y++[r]) 0) = !VZ p r:=λ{y r} k n=>by
  unfold En;dsimp only;rw [Oo n]
  show (!ab (C0 l p) (y++[r]) 0)=_
  unfold ab VZ
  have e:(y++[r]).getD ((C0 l p).ps.length+0) 0=r:=Ou (by
   show (y++[r])[l.length+0]? = some r
   rw [qE,<-k];simp)
  rw [e];rfl
 have g:(C0 l p).st=List.replicate l.length 0++[0]:=by
  show List.replicate (l.length+1) 0=_
  rw [List.replicate_succ']
 have j:Ea (C0 l p)=l.map Nn++[mx p]:=rfl
 have b:(l.map Nn).length=(List.replicate l.length (0:Int)).length:=by simp
 have u:=λx=>HX (w:=w) (x:=x) v n f;unfold SF;constructor
 ·rintro⟨x,B,a⟩
  obtain⟨st',o,d,rfl⟩:=(u x).1 B;rw [g,j] at o;obtain⟨y,z,rfl,A,c⟩:=(Jv b).1 o
  have q:y.length=l.length:=by rw [Qg A];simp
  match z,c,d,a with
  | [r],c,d,a=>
   rw [hg q d] at a;have H:=GJ.1 c.1;subst H;exact⟨Qh.1 ⟨y,A⟩,by unfold Er;revert a;cases VZ p (Dw (fA p) 0 w)<;>simp⟩
  | [],c,_,_=>exact c.elim
  | _::_::_,c,_,_=>exact c.2.elim
 ·rintro⟨o,d⟩
  obtain⟨y,k⟩:=Qh.2 o
  have t:La (Ea (C0 l p)) w (C0 l p).st (y++[Dw (fA p) 0 w]):=by
   rw [g,j];exact(Jv b).2 ⟨y,_,rfl,k,GJ.2 rfl,trivial⟩
  have i:=Nv v n f t;refine⟨_,(u _).2 ⟨_,t,i,rfl⟩,?_⟩;rw [hg (by rw [Qg k];simp) i];unfold Er at d;rw [d];rfl
end Go.Am
namespace Go.Am
open Go Go.Proofs
set_option maxHeartbeats 1000000
set_option maxRecDepth 4000
attribute [local irreducible] A6 Cz Lex Bv Aj Spec
variable {TB:BF}
theorem Ud{A:W->Bool}{ls:List UInt8}{m:Nat}{u:A1}{w:W}{R:Option A1}(b:R=Bq A ls (m+1) u)(a:Bh A ls u=some w)(c:u.rows.length < 12):R=Bq A ls m ⟨u.rows++[w],u.cols⟩:=by
 rw [b]
 conv=>lhs;unfold Bq
 rw [a];dsimp only;rw [if_neg (by omega)]
theorem I7{t:EE}{al:Int}{A:W->Bool}(Z:Kj Tryz.prog TB 123 170 t al A)(tab:A1)(hz:VR tab) :
 Pure Tryz.prog TB 121 [EL t,Ef tab] (IK (if A2 A al tab then Bq A (A7 al) 13 tab else none)):=by
 have N:=FA Z tab hz;by_cases v:A2 A al tab=true
 ·rw [if_pos v]
  rw [v] at N;have g:bB al tab:=(Ek v).1;have H:=g.r1;have L:=g.c1;have T:=g.rl;have Y:=g.cl;refine eG Tryz.func121 rfl (by kernel_rfl) rfl ?_;intro Γ e;(repeat first|refine tA rfl ?_ |refine s2 rfl λ_ i=>?_ |refine sP rfl (N) rfl ?_ |refine aU rfl ?_ |apply Aa)
  ((refine aC rfl ?_ ?_<;>rintro⟨⟩);all_goals try (simp at i;done))
  apply aK;(repeat first|refine aU rfl ?_);refine R.QJ [(0,2),(1,2),(2,2),(4,2),(5,2),(6,2),(9,3),(3,1),(7,1),(8,2),(10,5)] mixed (by kernel_rfl) rfl (by kernel_rfl) ?_;(repeat ((refine R.Af rfl ?_;first|(refine R.yQ (md:=false) rfl rfl rfl ?_ ?_;exact tI) |refine R.yP rfl rfl rfl rfl ?_|refine R.CE (λ_ _ _=>Tk (by rfl) (by rfl)) rfl rfl ?_ )));(refine R.Af rfl ?_;refine R.JY (λ_=>?_) rfl rfl;refine EI rfl rfl rfl (by intro r k;simp at k;obtain⟨_,_,rfl⟩:=k;rfl) (by rfl) (am rfl) (by simp;omega) (λh=>?_) (λ_=>?_))
  ·exfalso;simp at h;rw [h] at H;simp at H
  (refine R.Af rfl ?_;refine R.JY (λ_=>?_) rfl rfl;refine EI rfl rfl rfl (by intro r k;simp at k;obtain⟨_,_,rfl⟩:=k;rfl) (by rfl) (am rfl) (by simp;omega) (λh=>?_) (λ_=>?_))
  ·exfalso;simp at h;rw [h] at L;simp at L
  (repeat ((refine R.Af rfl ?_;first|refine R.yA rfl rfl rfl rfl ?_|refine R.CE (λ_ _ _=>AB rfl rfl (by rfl) (by rfl)) rfl rfl ?_ )));refine R.QE ?_;apply aS;refine Aj.Ay [2] [] rfl rfl [(4,.o (.ptr 0 2 0 0)),(6,.o (.ptr 3 2 0 0))] [(0,.cells 98 2 [[.d (.l []),.d (.l [])]]),(1,.cells 9 1 (tab.rows.map Ej)),(2,.cells 9 1 (tab.cols.map Ej)),(3,.cells 98 2 [[.arr 1 1 0 tab.rows.length,.arr 2 1 0 tab.cols.length]])] [0,1,2,3] (rl e rfl) (by (simp[cX,zC,e])) ?_;(try dsimp only[cA,cB]);have s:=Kz Z tab hz
  have G:∀l:List W,((l.map Ej).drop 0).take l.length=(l.map CQ).map (λr=>r.map C.d):=λl=>by rw [o5,gc (by simp)];simp [d5]
  have K:∀u:A1,iw [(0,.cells 98 2 [[.d (.l []),.d (.l [])]]),(1,.cells 9 1 (u.rows.map Ej)),(2,.cells 9 1 (u.cols.map Ej)),(3,.cells 98 2 [[.arr 1 1 0 u.rows.length,.arr 2 1 0 u.cols.length]])] [EL t,.a [.arr 1 1 0 u.rows.length,.arr 2 1 0 u.cols.length]] [EL t,Ef u]:=λu=>
   .cons (.cons (.pure rfl) (.cons (.pure rfl) (.cons (.pure rfl) (.cons (.pure rfl) (.cons (.pure rfl) (.cons (.pure rfl) (.cons (.pure rfl) (.cons (.pure rfl) (.cons (.pure rfl) (.cons (.pure rfl) (.cons (.pure rfl) .nil))))))))))) (.cons (.cons (.arr rfl (by simp) (G _)) (.cons (.arr rfl (by simp) (G _)) .nil)) .nil)
  have I:∀x:A1,ZF (Bh A (A7 al) x)=.t [(false,[.d (tD ((Bh A (A7 al) x).getD []))]),(false,[.d (bD (Bh A (A7 al) x).isSome)])]:=λx=>by cases Bh A (A7 al) x<;>rfl
  rw [I] at s;(repeat first|refine tA rfl ?_|(refine Af rfl ?_;refine gA rfl ?_;first| refine gQ (Iy rfl rfl ((K tab)) (s) rfl) rfl ?_) |refine aU rfl ?_ |apply Aa)
  obtain⟨R,hR⟩:∃R,R=Bq A (A7 al) 13 tab:=⟨_,rfl⟩
  rw [<-hR];apply aB;refine aL (α:={p:Nat×A1 // p.1<=13/\13<=p.1+p.2.rows.length/\p.2.rows.length<=12/\p.2.cols.length<=20/\(∀w∈p.2.rows,w.length<=50000+p.2.rows.length)/\(∀w∈p.2.cols,w.length<=4000)/\R=Bq A (A7 al) p.1 p.2}) [2,4,6] [0] rfl rfl (λ⟨⟨m,u⟩,M,q,n,j,b,c,z⟩=>[(7,eT ((Bh A (A7 al) u).getD [])),(8,eB (Bh A (A7 al) u).isSome)]) (λ⟨⟨m,u⟩,M,q,n,j,b,c,z⟩=>[(1,.cells 9 1 (u.rows.map Ej)),(2,.cells 9 1 (u.cols.map Ej)),(3,.cells 98 2 [[.arr 1 1 0 u.rows.length,.arr 2 1 0 u.cols.length]])]) 4 (λ⟨⟨m,u⟩,M,q,n,j,b,c,z⟩=>m) (⟨(13,tab),by simp,by simp,T,Y,λw F=>by have:=(g.rw w F).1;show w.length<=50000+tab.rows.length;omega,λw F=>(g.cw w F).1,hR⟩) e rfl (by (simp[cX,zC,e])) ?_;rintro⟨⟨m,u⟩,M,q,n,j,b,c,z⟩;(try dsimp only[cA,cB]);dsimp only at M q n j b c z
  have Q:Bh A (A7 al) u=none\/∃w,Bh A (A7 al) u=some w:=by cases Bh A (A7 al) u<;>simp
  rcases Q with y|⟨w,y⟩
  ·rw [y]
   have V:R=some u:=by
    rw [z]
    obtain⟨m',rfl⟩:∃m',m=m'+1:=⟨m - 1,by omega⟩
    simp [Bq,y]
   (repeat first|refine tA rfl ?_ |refine aU rfl ?_ |apply Aa)
   ((refine aC rfl ?_ ?_<;>rintro⟨⟩);all_goals try (simp at i;done))
   apply aE;(repeat first|refine tA rfl ?_ |refine aU rfl ?_ |apply Aa);refine Aj.settle [(4,.o (.ip [Cb u.rows,Cb u.cols])),(5,eB true)] ⟨⟨_,rfl,.o (.box rfl (.cons (.full rfl (by simp [d5]) (by simp)) (.cons (.full rfl (by simp [d5]) (by simp)) .nil)))⟩,⟨_,rfl,.o .d⟩,trivial⟩ ?_;refine aR ⟨_,rfl,?_⟩;rw [V];rfl
  ·rw [y]
   obtain⟨m',rfl⟩:∃m',m=m'+1:=⟨m - 1,by omega⟩
   obtain⟨⟨r,k,l,hl,F⟩,_⟩:=Iw y
   have B:w.length<=50000+(u.rows++[w]).length:=by
    have:=b r k;rw [F];simp;omega
   (repeat first|refine tA rfl ?_ |refine aU rfl ?_ |apply Aa)
   ((refine aC rfl ?_ ?_<;>rintro⟨⟩);all_goals try (simp at i;done))
   apply aK;apply aB;(repeat first|refine tA rfl ?_ |refine s2 rfl λ_ i=>?_ |refine aU rfl ?_ |apply Aa);(refine aC rfl ?_ ?_<;>rintro⟨⟩)
   ·have h12:u.rows.length=12:=by (simp only[oZ] at *;omega)
    have V:R=none:=by
     rw [z];simp [Bq,y,h12]
    (repeat first|refine tA rfl ?_|(refine Af rfl ?_;refine gA rfl ?_;first| refine gS (λ_ _=>AB rfl rfl (by rfl) (by rfl)) ?_) |refine aU rfl ?_ |apply Aa);refine Aj.settle [(4,.o (.ip [.l [],.l []])),(5,eB false)] ⟨⟨_,rfl,.o (.box rfl (.cons .d (.cons .d .nil)))⟩,⟨_,rfl,.o .d⟩,trivial⟩ ?_;refine aR ⟨_,rfl,?_⟩;rw [V];rfl
   ·have X:u.rows.length < 12:=by (simp only[oZ] at *;omega)
    have S:=Ud z y X
    have P:VR ⟨u.rows++[w],u.cols⟩:=⟨by simp;omega,by dsimp only;omega,λx f=>by
     rcases em.1 f with f|f
     ·have:=b x f;omega
     ·simp at f;subst f;simp at B;omega,λx f=>by have:=c x f;omega⟩
    have J:=Kz Z ⟨u.rows++[w],u.cols⟩ P;rw [I] at J;apply aK;(repeat first|refine tA rfl ?_ |refine aU rfl ?_);(refine pW rfl ?_ rfl (by rfl);refine Al rfl rfl rfl (by first| (simp;done)|(simp;(omega))) rfl (by intro r k;simp at k;subst k;rfl) (by rfl) (am rfl) (by simp;omega) ?_);(repeat first|refine tA rfl ?_);apply Aa
    have U:∀x∈u.rows++[w],x.length<=50000+(u.rows++[w]).length:=λx f=>by
     rcases em.1 f with f|f
     ·have:=b x f;simp;omega
     ·simp at f;subst f;exact B
    refine Aj.Ay [2,4,6] [] rfl rfl [] [(0,.cells 98 2 [[.d (.l []),.d (.l [])]]),(1,.cells 9 1 ((u.rows++[w]).map Ej)),(2,.cells 9 1 (u.cols.map Ej)),(3,.cells 98 2 [[.arr 1 1 0 (u.rows++[w]).length,.arr 2 1 0 u.cols.length]])] [0,4,2,3] (rl e rfl) (by (simp[cX,zC,e])) ?_;(try dsimp only[cA,cB]);(repeat first|refine tA rfl ?_|(refine Af rfl ?_;refine gA rfl ?_;first| refine gQ (Iy rfl rfl ((K ⟨u.rows++[w],u.cols⟩)) (J) rfl) rfl ?_) |refine aU rfl ?_ |apply Aa);refine⟨⟨⟨m',⟨u.rows++[w],u.cols⟩⟩,by dsimp only;omega,by simp;omega,by simp;omega,j,U,c,S⟩,by dsimp only;(omega),[0,1,2,3],?_⟩;simp[cX,zC,e]
 ·have v:A2 A al tab=false:=by simpa using v
  rw [if_neg (by simp [v])];rw [v] at N;refine eG Tryz.func121 rfl (by kernel_rfl) rfl ?_;intro Γ e;(repeat first|refine tA rfl ?_ |refine s2 rfl λ_ i=>?_ |refine sP rfl (N) rfl ?_ |refine aU rfl ?_ |apply Aa)
  ((refine aC rfl ?_ ?_<;>rintro⟨⟩);all_goals try (simp at i;done))
  (repeat first|refine tA rfl ?_|(refine Af rfl ?_;refine gA rfl ?_;first| refine gS (λ_ _=>AB rfl rfl (by rfl) (by rfl)) ?_) |refine aU rfl ?_ |apply Aa);refine Aj.settle [(4,.o (.ip [.l [],.l []])),(5,eB false)] ⟨⟨_,rfl,.o (.box rfl (.cons .d (.cons .d .nil)))⟩,⟨_,rfl,.o .d⟩,trivial⟩ ?_;refine aR ⟨_,rfl,rfl⟩
end Go.Am
