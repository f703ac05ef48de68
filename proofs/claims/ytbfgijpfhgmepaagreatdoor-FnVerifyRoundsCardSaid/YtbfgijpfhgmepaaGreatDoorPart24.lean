/-
  The reference's tables: rows, shapes, validity.
-/
import Derived.Test.YtbfgijpfhgmepaaGreatDoorPart23
import Derived.Test.YtbfgijpfhgmepaaGreatDoorPart19
import Derived.Test.YtbfgijpfhgmepaaGreatDoorPart15
set_option linter.constructorNameAsVariable false
set_option linter.unusedSectionVars false
set_option linter.unusedSimpArgs false
set_option linter.unusedVariables false
namespace Go.Am
open Go Go.Proofs
set_option maxHeartbeats 1000000
attribute [local irreducible] AX Cb Lex Bh Aj Spec
variable {TB:Bz}
theorem Km{t:EF}{al:Int}{A:W->Bool}(n:J6 Tryz.prog TB 120 175 t al A)(cols words:List W)(m:cols.length<=4194304)(l:∀w∈words,w.length<=4194305)(hb:∀x∈cols,x.length<=4194304)(j:words.length<=4194304) :
 Pure Tryz.prog TB 122 [EE t,BO cols,BO words] (BO (words.map (marks A cols))):=by
 refine eN Tryz.func122 rfl (by kernel_rfl) rfl ?_;intro Z a;(repeat first|refine aU rfl ?_);(refine Ag rfl ?_;refine CB (λ_ _=>C4 rfl rfl rfl) rfl ?_);(repeat first|refine tX rfl ?_ |refine aU rfl ?_ |refine Aa ?_);(refine pW rfl ?_ rfl (by rfl);refine Bf rfl rfl rfl rfl (by simp) (by rfl) (by rfl) (by rfl) (by rfl) ?_);(repeat first|refine tX rfl ?_ |refine aU rfl ?_ |refine Aa ?_);refine aB ?_;refine aL (α:={k:Nat // k<=words.length}) [1,2,3] [] rfl rfl (λ⟨k,hk⟩=>[(7,.o (.arr 0 1 0 k)),(8,eI .i64 k)]) (λ⟨k,hk⟩=>[(0,.cells 9 1 ((words.take k).map λw=>[.d (tD (marks A cols w))]))]) 1 (λ⟨k,hk⟩=>words.length - k) (⟨0,by omega⟩) a rfl (by (simp[cX,zC,a])) ?_;rintro⟨k,hk⟩;(try dsimp only[cA,cB]);by_cases f:k < words.length
 ·obtain⟨x,c⟩:=get_some f
  have i:=get_map (g:=CN) c;have b:=Mw n cols x m (l x (co c)) hb
  have e:(words.take (k+1)).map (λw=>[C.d (tD (marks A cols w))])=(words.take k).map (λw=>[C.d (tD (marks A cols w))])++[[C.d (tD (marks A cols x))]]:=by rw [d8,c];simp
  (repeat first|refine sN rfl ?_ |refine tX rfl ?_ |refine s2 rfl λ_ h=>?_ |refine aU rfl ?_ |refine Aa ?_);(refine aC rfl ?_ ?_<;>rintro⟨⟩)
  ·refine aK ?_
   refine aS (aB ?_);refine rG (Gj [9]) (by kernel_rfl) ?_;(repeat first|refine tA rfl ?_ |(refine s4 rfl ‹_› rfl ?_ ?_;omega) |refine sP rfl (b) rfl ?_);(refine pW rfl ?_ rfl (by rfl);refine Al rfl rfl rfl (by first| (simp;done)|(simp;(omega))) rfl (by intro r b;simp at b;subst b;rfl) (by rfl) (am rfl) (by simp;omega) ?_);(repeat first|(refine sA rfl ?_ ?_;first|exact tI|omega) |refine aU rfl ?_ |refine Aa ?_);refine⟨⟨k+1,by omega⟩,by dsimp only;(omega),[1],?_⟩;simp[cX,zC,a,e]
  ·exfalso;(simp only[oZ] at *;omega)
 ·obtain rfl:k=words.length:=by omega
  rw [io];(repeat first|refine sN rfl ?_ |refine tX rfl ?_ |refine s2 rfl λ_ h=>?_ |refine aU rfl ?_ |refine Aa ?_);(refine aC rfl ?_ ?_<;>rintro⟨⟩)
  ·exfalso;(simp only[oZ] at *;omega)
  ·refine aE ?_
   (repeat first|refine tX rfl ?_ |refine aU rfl ?_ |refine Aa ?_);refine Aj.settle [(6,BO (words.map (marks A cols)))] ⟨⟨_,rfl,.o (.full rfl (by simp [d5]) (by simp))⟩,trivial⟩ ?_;refine aR ⟨_,rfl,rfl⟩
def rowAt(al:Int)(l:List W)(i:Nat):Bool:=match l[i]? with
 | none=>true
 | some w=>!decide (w.length=0) && (within w al && decide (w.dropLast∈l.take i))
def OB(al:Int)(l:List W)(i:Nat):Bool:=match l[i]? with
 | none=>true
 | some w=>decide (w.length<=4000) && (within w al && !decide (w∈l.take i))
def GG(f:Nat->Bool)(n:Nat):Bool:=(List.range n).all λi=>decide (i=0) || f i
theorem OK{f:Nat->Bool}{k:Nat}(h:GG f k=true)(a:f k=true):GG f (k+1)=true:=by
 unfold GG at *;rw [oU,List.all_append,h];simp [a]
theorem QE{f:Nat->Bool}{k n:Nat}(b:0 < k)(h:k < n)(a:f k=false):GG f n=false:=by
 unfold GG;rw [qK];exact⟨k,nk.2 h,by simp [a];omega⟩
def MM(al:Int)(t:A0):Bool:=decide (0<=al) && (decide (1<=t.rows.length/\t.rows.length<=12) && (decide (1<=t.cols.length/\t.cols.length<=20) && (decide (t.rows[0]? = some []) && decide (t.cols[0]? = some []))))
def Ga(al:Int)(t:A0):Bool:=MM al t && (GG (rowAt al t.rows) t.rows.length && GG (OB al t.cols) t.cols.length)
theorem TW(al:Int)(t:A0)(s:Vm t):Pure Tryz.prog TB 211 [eI .i64 al,DY t] (eB (Ga al t)):=by
 have B:=s.rl;have F:=s.cl;by_cases q:MM al t=true
 ·have n : Ga al t=(GG (rowAt al t.rows) t.rows.length && GG (OB al t.cols) t.cols.length):=by unfold Ga;rw [q];rfl
  rw [n];unfold MM at q;simp only [d4,decide_eq_true_eq] at q;obtain⟨R,Q,P,L,K⟩:=q;have A:=get_map (g:=CN) (k:=0) L;have z:=get_map (g:=CN) (k:=0) K;have N:((0:Nat):Int).toNat=(0:Int).toNat:=rfl;rw [N] at A z;refine eN Tryz.func211 rfl (by kernel_rfl) rfl ?_;intro Z b;(repeat' first|refine sN rfl ?_ |refine tA rfl ?_ |(refine s4 rfl ‹_› rfl ?_ ?_;omega) |refine s2 rfl λ_ a=>?_ |refine s3 rfl ?_ ?_<;>rintro rfl |refine aU rfl ?_ |refine Aa ?_|(refine aC rfl ?_ ?_<;>rintro⟨⟩)|refine aK ?_|refine aE ?_|refine aB ?_|refine aR ⟨_,rfl,?_⟩)
  all_goals first
   | (exfalso;(simp only[oZ] at *;omega);done)
   | (exfalso;simp at *;done)
   | skip
  refine aL (α:={k:Nat // 1<=k/\k<=t.rows.length/\GG (rowAt al t.rows) k=true}) [0,3,5,6] [] rfl rfl (λ⟨k,c,hk,ha⟩=>[(7,eI .i64 k)]) (λ⟨k,c,hk,ha⟩=>[]) 0 (λ⟨k,c,hk,ha⟩=>t.rows.length - k) (⟨1,by omega,by omega,rfl⟩) b rfl (by (simp[cX,zC,b])) ?_;rintro⟨k,c,hk,ha⟩;(try dsimp only[cA,cB]);by_cases f:k < t.rows.length
  ·obtain⟨x,i⟩:=get_some f
   have v:=get_map (g:=CN) i;have u:=s.rb x (co i)
   have e:rowAt al t.rows k=(!decide (x.length=0) && (within x al && decide (x.dropLast∈t.rows.take k))):=by unfold rowAt;rw [i]
   have j:=Ef (TB:=TB) x al (by omega)
   have p:Pure Tryz.prog TB 195 [.o (.d (.l ((t.rows.map CN).take ((k:Nat):Int).toNat))),eT (x.take ((x.length:Int) - 1).toNat)] (eB (decide (x.dropLast∈t.rows.take k))):=by
    have M:(x.take ((x.length:Int) - 1).toNat)=x.dropLast:=by rw [List.dropLast_eq_take];congr 1;omega
    rw [M,i7,<-qE];exact IY _ _ (by simp;omega)
   (repeat first|refine tA rfl ?_ |refine s2 rfl λ_ a=>?_ |refine aU rfl ?_ |refine Aa ?_);(refine aC rfl ?_ ?_<;>rintro⟨⟩)
   ·(repeat' first|(refine sA rfl ?_ ?_;first|exact tI|omega) |(refine s4 rfl ‹_› rfl ?_ ?_;omega) |refine s2 rfl λ_ a=>?_ |(refine sC rfl (j) ?_;intro _ a)|(refine sC rfl (p) ?_;intro _ a)|(refine Ag rfl ?_;refine gA rfl ?_;first| refine gS (λ_ _=>Oe rfl rfl (by simp) (by omega) (by (simp only[oZ] at *;omega))) ?_|refine gS (λ_ _=>Ys rfl rfl (by (simp only[oZ] at *;omega)) (by omega)) ?_) |refine s3 rfl ?_ ?_<;>rintro rfl |refine aU rfl ?_ |refine Aa ?_ |refine rE (by kernel_rfl) ?_|(refine aC rfl ?_ ?_<;>rintro⟨⟩)|refine aK ?_|refine aE ?_|refine aB ?_|refine aR ⟨_,rfl,?_⟩)
    all_goals first
     | (show eB false=eB _;rw [QE (by omega) f (by rw [e];grind)];rfl)
     | (have m:=OK ha (by rw [e];grind);refine⟨⟨k+1,by omega,by omega,m⟩,by dsimp only;(omega),[],?_⟩;simp[cX,zC,b])
   ·exfalso;(simp only[oZ] at *;omega)
  ·obtain rfl:k=t.rows.length:=by omega
   rw [ha];(repeat first|refine tA rfl ?_ |refine s2 rfl λ_ a=>?_ |refine aU rfl ?_ |refine Aa ?_);(refine aC rfl ?_ ?_<;>rintro⟨⟩)
   ·exfalso;(simp only[oZ] at *;omega)
   ·(repeat' first|refine tA rfl ?_ |refine aU rfl ?_ |refine Aa ?_|(refine aC rfl ?_ ?_<;>rintro⟨⟩)|refine aK ?_|refine aE ?_|refine aB ?_|refine aR ⟨_,rfl,?_⟩)
    refine aL (α:={k:Nat // 1<=k/\k<=t.cols.length/\GG (OB al t.cols) k=true}) [0,3,6] [] rfl rfl (λ⟨k,c,hk,ha⟩=>[(9,eI .i64 k)]) (λ⟨k,c,hk,ha⟩=>[]) 0 (λ⟨k,c,hk,ha⟩=>t.cols.length - k) (⟨1,by omega,by omega,rfl⟩) b rfl (by (simp[cX,zC,b])) ?_;rintro⟨k,c,hk,ha⟩;(try dsimp only[cA,cB]);by_cases f:k < t.cols.length
    ·obtain⟨x,i⟩:=get_some f
     have v:=get_map (g:=CN) i;have u:=s.cb x (co i)
     have e:OB al t.cols k=(decide (x.length<=4000) && (within x al && !decide (x∈t.cols.take k))):=by unfold OB;rw [i]
     have j:=Ef (TB:=TB) x al (by omega)
     have p:Pure Tryz.prog TB 195 [.o (.d (.l ((t.cols.map CN).take ((k:Nat):Int).toNat))),eT x] (eB (decide (x∈t.cols.take k))):=by
      rw [i7,<-qE];exact IY _ _ (by simp;omega)
     (repeat first|refine tA rfl ?_ |refine s2 rfl λ_ a=>?_ |refine aU rfl ?_ |refine Aa ?_);(refine aC rfl ?_ ?_<;>rintro⟨⟩)
     ·(repeat' first|(refine sA rfl ?_ ?_;first|exact tI|omega) |(refine s4 rfl ‹_› rfl ?_ ?_;omega) |refine s2 rfl λ_ a=>?_ |(refine sC rfl (j) ?_;intro _ a)|(refine sC rfl (p) ?_;intro _ a)|(refine Ag rfl ?_;refine gA rfl ?_;first| refine gS (λ_ _=>Oe rfl rfl (by simp) (by omega) (by (simp only[oZ] at *;omega))) ?_) |refine s3 rfl ?_ ?_<;>rintro rfl |refine aU rfl ?_ |refine Aa ?_|(refine aC rfl ?_ ?_<;>rintro⟨⟩)|refine aK ?_|refine aE ?_|refine aB ?_|refine aR ⟨_,rfl,?_⟩)
      all_goals first
       | (show eB false=eB _;rw [QE (by omega) f (by rw [e];grind)];rfl)
       | (have m:=OK ha (by rw [e];grind);refine⟨⟨k+1,by omega,by omega,m⟩,by dsimp only;(omega),[],?_⟩;simp[cX,zC,b])
     ·exfalso;(simp only[oZ] at *;omega)
    ·obtain rfl:k=t.cols.length:=by omega
     rw [ha];(repeat first|refine tA rfl ?_ |refine s2 rfl λ_ a=>?_ |refine aU rfl ?_ |refine Aa ?_);(refine aC rfl ?_ ?_<;>rintro⟨⟩)
     ·exfalso;(simp only[oZ] at *;omega)
     ·(repeat' first|refine tA rfl ?_ |refine aU rfl ?_ |refine Aa ?_|(refine aC rfl ?_ ?_<;>rintro⟨⟩)|refine aK ?_|refine aE ?_|refine aB ?_|refine aR ⟨_,rfl,?_⟩)
      rfl
 ·have n:Ga al t=false:=by unfold Ga;simp [q]
  rw [n]
  have r:¬(0<=al/\(1<=t.rows.length/\t.rows.length<=12)/\(1<=t.cols.length/\t.cols.length<=20)/\t.rows[0]? = some []/\t.cols[0]? = some []):=by
   intro h;apply q;unfold MM;simp [h]
  have w:(t.rows.map CN)[(0:Int).toNat]? = (t.rows[0]?).map CN:=by simp
  have y:(t.cols.map CN)[(0:Int).toNat]? = (t.cols[0]?).map CN:=by simp
  have G:t.rows[0]? = none->t.rows.length=0:=λh=>by have:=p7.1 h;omega
  have I:t.cols[0]? = none->t.cols.length=0:=λh=>by have:=p7.1 h;omega
  refine eN Tryz.func211 rfl (by kernel_rfl) rfl ?_;intro Z b
  cases H:t.rows[0]?<;>cases J:t.cols[0]?<;>rw [H] at w r<;>rw [J] at y r<;>(
   (repeat' first|refine sN rfl ?_ |refine tA rfl ?_ |(refine s4 rfl ‹_› rfl ?_ ?_;omega) |refine s2 rfl λ_ a=>?_ |refine s3 rfl ?_ ?_<;>rintro rfl |refine aU rfl ?_ |refine Aa ?_|(refine aC rfl ?_ ?_<;>rintro⟨⟩)|refine aK ?_|refine aE ?_|refine aB ?_|refine aR ⟨_,rfl,?_⟩)
   all_goals first
    | rfl
    | (exfalso;grind;done))
def Gf(al:Int)(w:W):Bool:=within w al && decide (w.length<=4000)
theorem OS{t:EF}{al:Int}{A:W->Bool}(e:J6 Tryz.prog TB 120 175 t al A)(w:W)(c:w.length<=1099511627776):Pure Tryz.prog TB 192 [EE t,eT w] (eB (Gf al w)):=by
 have g:=e.alph;have f:=Ef (TB:=TB) w al c
 have d:Gf al w=(within w al && decide ((w.length:Int)<=4000)):=by unfold Gf;congr 1;rw [decide_eq_decide];omega
 rw [d];refine eN Tryz.func192 rfl (by kernel_rfl) rfl ?_;intro Z b;(repeat' first|refine tA rfl ?_ |refine s2 rfl λ_ a=>?_ |refine sP rfl (g) rfl ?_|(refine sC rfl (f) ?_;intro _ a) |refine s3 rfl ?_ ?_<;>rintro rfl |refine aU rfl ?_ |refine Aa ?_|(refine aC rfl ?_ ?_<;>rintro⟨⟩)|refine aK ?_|refine aE ?_|refine aB ?_|refine aR ⟨_,rfl,?_⟩)
 all_goals (show E.o _=E.o _;congr;grind)
def A5(A:W->Bool)(al:Int)(t:A0):Bool:=Ga al t && decide (AJ A t).Nodup
theorem fc{l:List W}{k:Nat}{x:W}(c:l[k]? = some x)(h:(l.take k).Nodup)(d:x∉l.take k):(l.take (k+1)).Nodup:=by
 rw [d8,c,o3];refine⟨h,by simp,λa ha b hb e=>?_⟩;simp at hb;subst hb;exact d (e ▸ ha)
theorem iE{l:List W}{k:Nat}{x:W}(a:l[k]? = some x)(b:x∈l.take k):¬l.Nodup:=by
 intro h;obtain⟨c,rfl⟩:=ce.1 a;rw [<-nZ k l,o3] at h;exact h.2.2 _ b _ (by rw [pi c];exact pc) rfl
theorem Fw{t:EF}{al:Int}{A:W->Bool}(q:J6 Tryz.prog TB 120 175 t al A)(tab:A0)(c:Vm tab):Pure Tryz.prog TB 171 [EE t,DY tab] (eB (A5 A al tab)):=by
 have s:=q.alph;have r:=TW (TB:=TB) al tab c;have B:=Km q tab.cols tab.rows c.cl (λw v=>by have:=c.rb w v;omega) c.cb c.rl;by_cases p:Ga al tab=true
 ·have h:A5 A al tab=decide (AJ A tab).Nodup:=by unfold A5;rw [p];rfl
  rw [h];have n:Pure Tryz.prog TB 122 [EE t,BO tab.cols,BO tab.rows] (BO (AJ A tab)):=B
  have z:(AJ A tab).length=tab.rows.length:=by simp [AJ]
  have y:=c.rl;generalize AJ A tab=l at *;refine eN Tryz.func171 rfl (by kernel_rfl) rfl ?_;intro Z b;(repeat' first|refine tA rfl ?_ |refine s2 rfl λ_ a=>?_ |refine sP rfl (s) rfl ?_|(refine sC rfl (r) ?_;intro _ a)|refine sP rfl (n) rfl ?_ |refine aU rfl ?_ |refine Aa ?_ |refine rE (by kernel_rfl) ?_|(refine aC rfl ?_ ?_<;>rintro⟨⟩)|refine aK ?_|refine aE ?_|refine aB ?_|refine aR ⟨_,rfl,?_⟩)
  all_goals first
   | (exfalso;grind;done)
   | skip
  refine aL (α:={k:Nat // k<=l.length/\(l.take k).Nodup}) [5] [] rfl rfl (λ⟨k,hk,e⟩=>[(6,eI .i64 k)]) (λ⟨k,hk,e⟩=>[]) 0 (λ⟨k,hk,e⟩=>l.length - k) (⟨0,by omega,by simp⟩) b rfl (by (simp[cX,zC,b])) ?_;rintro⟨k,hk,e⟩;(try dsimp only[cA,cB]);by_cases j:k < l.length
  ·obtain⟨x,f⟩:=get_some j
   have u:=get_map (g:=CN) f
   have m:Pure Tryz.prog TB 195 [.o (.d (.l ((l.map CN).take ((k:Nat):Int).toNat))),eT x] (eB (decide (x∈l.take k))):=by
    rw [i7,<-qE];exact IY _ _ (by simp;omega)
   (repeat first|refine sN rfl ?_ |refine tA rfl ?_ |refine s2 rfl λ_ a=>?_ |refine aU rfl ?_ |refine Aa ?_);(refine aC rfl ?_ ?_<;>rintro⟨⟩)
   ·(repeat' first|(refine sA rfl ?_ ?_;first|exact tI|omega) |(refine s4 rfl ‹_› rfl ?_ ?_;omega) |(refine sC rfl (m) ?_;intro _ a)|(refine Ag rfl ?_;refine gA rfl ?_;first| refine gS (λ_ _=>Oe rfl rfl (by simp) (by omega) (by (simp only[oZ] at *;omega))) ?_) |refine aU rfl ?_ |refine Aa ?_ |refine rE (by kernel_rfl) ?_|(refine aC rfl ?_ ?_<;>rintro⟨⟩)|refine aK ?_|refine aE ?_|refine aB ?_|refine aR ⟨_,rfl,?_⟩)
    ·show eB false=eB _
     rw [decide_eq_false (iE f (by simpa using a))]
    ·have i:=fc f e (by simpa using a)
     refine⟨⟨k+1,by omega,i⟩,by dsimp only;(omega),[],?_⟩;simp[cX,zC,b]
   ·exfalso;(simp only[oZ] at *;omega)
  ·rw [ge (by omega)] at e
   (repeat first|refine sN rfl ?_ |refine tA rfl ?_ |refine s2 rfl λ_ a=>?_ |refine aU rfl ?_ |refine Aa ?_);(refine aC rfl ?_ ?_<;>rintro⟨⟩)
   ·exfalso;(simp only[oZ] at *;omega)
   ·(repeat' first|refine tA rfl ?_ |refine aU rfl ?_ |refine Aa ?_|(refine aC rfl ?_ ?_<;>rintro⟨⟩)|refine aK ?_|refine aE ?_|refine aB ?_|refine aR ⟨_,rfl,?_⟩)
    rw [decide_eq_true e]
 ·have h:A5 A al tab=false:=by unfold A5;simp [p]
  rw [h];refine eN Tryz.func171 rfl (by kernel_rfl) rfl ?_;intro Z b;(repeat' first|refine tA rfl ?_ |refine s2 rfl λ_ a=>?_ |refine sP rfl (s) rfl ?_|(refine sC rfl (r) ?_;intro _ a) |refine aU rfl ?_ |refine Aa ?_ |refine rE (by kernel_rfl) ?_|(refine aC rfl ?_ ?_<;>rintro⟨⟩)|refine aK ?_|refine aE ?_|refine aB ?_|refine aR ⟨_,rfl,?_⟩)
  all_goals first
   | rfl
   | (exfalso;grind;done)
theorem Kl{t:EF}{al:Int}{A:W->Bool}(G:J6 Tryz.prog TB 120 175 t al A)(tab:A0)(h:Vm tab):Pure Tryz.prog TB 172 [EE t,DY tab] (Y7 (Bg A (A6 al) tab)):=by
 have P:=G.alph;have N:=Ch (TB:=TB) al;have M:Pure Tryz.prog TB 122 [EE t,BO tab.cols,BO tab.rows] (BO (AJ A tab)):=Km G tab.cols tab.rows h.cl (λw f=>by have:=h.rb w f;omega) h.cb h.rl;have I:=h.rl;have K:(Ac al).length<=6:=AK al 6;refine eN Tryz.func172 rfl (by kernel_rfl) rfl ?_;intro Z a;(repeat' first|refine tA rfl ?_ |refine sP rfl (P) rfl ?_|refine sP rfl (N) rfl ?_|refine sP rfl (M) rfl ?_ |refine aU rfl ?_ |refine Aa ?_|(refine aC rfl ?_ ?_<;>rintro⟨⟩)|refine aK ?_|refine aE ?_|refine aB ?_|refine aR ⟨_,rfl,?_⟩);refine aL (α:={k:Nat // k<=tab.rows.length/\∀w∈CM (A6 al) (tab.rows.take k),marks A tab.cols w∈AJ A tab}) [2,3,6,7] [] rfl rfl (λ⟨k,hk,b⟩=>[(8,eI .i64 k)]) (λ⟨k,hk,b⟩=>[]) 0 (λ⟨k,hk,b⟩=>tab.rows.length - k) (⟨0,by omega,by simp [CM]⟩) a rfl (by (simp[cX,zC,a])) ?_;rintro⟨k,hk,b⟩;(try dsimp only[cA,cB]);by_cases v:k < tab.rows.length
 ·obtain⟨r, d⟩:=get_some v
  have H:=get_map (g:=CN) d;have J:=h.rb r (co d);(repeat first|refine sN rfl ?_ |refine tA rfl ?_ |refine s2 rfl λ_ e=>?_ |refine aU rfl ?_ |refine Aa ?_);(refine aC rfl ?_ ?_<;>rintro⟨⟩)
  ·refine aK ?_
   refine aS (aB ?_);(repeat first|refine tA rfl ?_ |refine aU rfl ?_ |refine Aa ?_);refine aB ?_;refine aL (α:={j:Nat // j<=(Ac al).length/\∀x∈(A6 al).take j,marks A tab.cols (r++[x])∈AJ A tab}) [2,3,6,7,8] [] rfl rfl (λ⟨j,B,c⟩=>[(9,eI .i64 j)]) (λ⟨j,B,c⟩=>[]) 0 (λ⟨j,B,c⟩=>(Ac al).length - j) (⟨0,by omega,by simp⟩) a rfl (by (simp[cX,zC,a])) ?_;rintro⟨j,B,c⟩;(try dsimp only[cA,cB]);by_cases p:j < (Ac al).length
   ·obtain⟨l,z⟩:=get_some p
    have L:=get_map (g:=Bq) z;have y:=Au (co z)
    have n:(A6 al)[j]? = some (lb l):=by simp [A6,z]
    have u:Pure Tryz.prog TB 125 [eI .i64 l] (eT [lb l]):=HE l y.1 (by omega);have m:=Mw G tab.cols (r++[lb l]) h.cl (by simp;omega) h.cb;have F:=IY (TB:=TB) (AJ A tab) (marks A tab.cols (r++[lb l])) (by simp [AJ];omega);(repeat first|refine sN rfl ?_ |refine tA rfl ?_ |refine s2 rfl λ_ e=>?_ |refine aU rfl ?_ |refine Aa ?_);(refine aC rfl ?_ ?_<;>rintro⟨⟩)
    ·(repeat' first|(refine sA rfl ?_ ?_;first|exact tI|omega|simp only[oZ] at *;omega) |(refine s4 rfl ‹_› rfl ?_ ?_;omega) |refine s2 rfl λ_ e=>?_ |refine sP rfl (u) rfl ?_|refine sP rfl (m) rfl ?_|(refine sC rfl (F) ?_;intro _ e) |refine aU rfl ?_ |refine Aa ?_ |refine rE (by kernel_rfl) ?_|(refine aC rfl ?_ ?_<;>rintro⟨⟩)|refine aK ?_|refine aE ?_|refine aB ?_|refine aR ⟨_,rfl,?_⟩)
     ·have hno:marks A tab.cols (r++[lb l])∉AJ A tab:=by grind
      rw [XW d n b c hno];rfl
     ·have i:marks A tab.cols (r++[lb l])∈AJ A tab:=by grind
      have q:∀x∈(A6 al).take (j+1),marks A tab.cols (r++[x])∈AJ A tab:=λx d=>by
       rw [d8,n] at d
       rcases em.1 d with d|d
       ·exact c x d
       ·simp at d;subst d;exact i
      refine⟨⟨j+1,by omega,q⟩,by dsimp only;(omega),[],?_⟩;simp[cX,zC,a]
    ·exfalso;(simp only[oZ] at *;omega)
   ·have o:∀w∈CM (A6 al) (tab.rows.take (k+1)),marks A tab.cols w∈AJ A tab:=λw f=>by
     rw [O3 d] at f
     rcases em.1 f with f|f
     ·exact b w f
     ·obtain⟨x,s,rfl⟩:=d9.1 f
      exact c x (by rw [ge (by simp [A6];omega)];exact s)
    (repeat first|refine sN rfl ?_ |refine tA rfl ?_ |refine s2 rfl λ_ e=>?_ |refine aU rfl ?_ |refine Aa ?_);(refine aC rfl ?_ ?_<;>rintro⟨⟩)
    ·exfalso;(simp only[oZ] at *;omega)
    ·(repeat' first|(refine sA rfl ?_ ?_;first|exact tI|omega) |refine aU rfl ?_ |refine Aa ?_|(refine aC rfl ?_ ?_<;>rintro⟨⟩)|refine aK ?_|refine aE ?_|refine aB ?_|refine aR ⟨_,rfl,?_⟩)
     refine⟨⟨k+1,by omega,o⟩,by dsimp only;(omega),[],?_⟩;simp[cX,zC,a]
  ·exfalso;(simp only[oZ] at *;omega)
 ·have hno:Bg A (A6 al) tab=none:=pe.2 λw f=>by
   have:=b w (by rw [ge (by omega)];exact f)
   simpa using this
  rw [hno];(repeat first|refine sN rfl ?_ |refine tA rfl ?_ |refine s2 rfl λ_ e=>?_ |refine aU rfl ?_ |refine Aa ?_);(refine aC rfl ?_ ?_<;>rintro⟨⟩)
  ·exfalso;(simp only[oZ] at *;omega)
  ·(repeat' first|refine tA rfl ?_ |refine aU rfl ?_ |refine Aa ?_|(refine aC rfl ?_ ?_<;>rintro⟨⟩)|refine aK ?_|refine aE ?_|refine aB ?_|refine aR ⟨_,rfl,?_⟩)
   rfl
theorem P5{t:EF}{al:Int}{A:W->Bool}(e:J6 Tryz.prog TB 120 175 t al A)(tab:A0)(c:Vm tab):Pure Tryz.prog TB 173 [EE t,DY tab] (Y7 (if A5 A al tab then Bg A (A6 al) tab else none)):=by
 have g:=Fw e tab c;have f:=Kl e tab c;by_cases d:A5 A al tab=true
 ·rw [if_pos d]
  cases h:Bg A (A6 al) tab<;>rw [h] at f<;>(
   refine eN Tryz.func173 rfl (by kernel_rfl) rfl ?_;intro Z b;(repeat' first|refine tA rfl ?_ |refine s2 rfl λ_ a=>?_ |(refine sC rfl (g) ?_;intro _ a)|refine sP rfl (f) rfl ?_ |refine aU rfl ?_ |refine Aa ?_|(refine aC rfl ?_ ?_<;>rintro⟨⟩)|refine aK ?_|refine aE ?_|refine aB ?_|refine aR ⟨_,rfl,?_⟩)
   all_goals first
    | rfl
    | (exfalso;grind;done))
 ·rw [if_neg d]
  refine eN Tryz.func173 rfl (by kernel_rfl) rfl ?_;intro Z b;(repeat' first|refine tA rfl ?_ |refine s2 rfl λ_ a=>?_ |(refine sC rfl (g) ?_;intro _ a) |refine aU rfl ?_ |refine Aa ?_|(refine aC rfl ?_ ?_<;>rintro⟨⟩)|refine aK ?_|refine aE ?_|refine aB ?_|refine aR ⟨_,rfl,?_⟩)
  all_goals first
   | rfl
   | (exfalso;grind;done)
def BD(A:W->Bool)(al:Int)(t:A0):Bool:=A5 A al t && (Bg A (A6 al) t).isNone
theorem Pz{t:EF}{al:Int}{A:W->Bool}(g:J6 Tryz.prog TB 120 175 t al A)(tab:A0)(f:Vm tab):Pure Tryz.prog TB 119 [EE t,DY tab] (eB (BD A al tab)):=by
 have h:=Fw g tab f;have b:=P5 g tab f;by_cases c:A5 A al tab=true
 ·rw [if_pos c] at b
  have e:BD A al tab=(Bg A (A6 al) tab).isNone:=by unfold BD;rw [c];rfl
  rw [e]
  cases i:Bg A (A6 al) tab<;>rw [i] at b<;>(
   refine eN Tryz.func119 rfl (by kernel_rfl) rfl ?_;intro Z d;(repeat' first|refine tA rfl ?_ |refine s2 rfl λ_ a=>?_ |(refine sC rfl (h) ?_;intro _ a)|refine sP rfl (b) rfl ?_ |refine s3 rfl ?_ ?_<;>rintro rfl |refine aU rfl ?_ |refine Aa ?_|(refine aC rfl ?_ ?_<;>rintro⟨⟩)|refine aK ?_|refine aE ?_|refine aB ?_|refine aR ⟨_,rfl,?_⟩)
   all_goals first
    | rfl
    | (exfalso;grind;done)
    | (show E.o _=E.o _;congr;first| grind|(simp at *;assumption)))
 ·rw [if_neg c] at b
  have e:BD A al tab=false:=by unfold BD;simp [c]
  rw [e];refine eN Tryz.func119 rfl (by kernel_rfl) rfl ?_;intro Z d;(repeat' first|refine tA rfl ?_ |refine s2 rfl λ_ a=>?_ |(refine sC rfl (h) ?_;intro _ a)|refine sP rfl (b) rfl ?_ |refine s3 rfl ?_ ?_<;>rintro rfl |refine aU rfl ?_ |refine Aa ?_|(refine aC rfl ?_ ?_<;>rintro⟨⟩)|refine aK ?_|refine aE ?_|refine aB ?_|refine aR ⟨_,rfl,?_⟩)
  all_goals first
   | rfl
   | (exfalso;grind;done)
theorem iu{l:List W}{s:W}{k:Nat}(a:l[k]? = some s)(b:s∉l.take k):l.idxOf s=k:=by
 have c:k < l.length:=(ce.1 a).1
 have e:l=l.take k++s::l.drop (k+1):=by rw [<-BA a,nZ]
 rw [e,qM,if_neg b,qw];simp;omega
theorem TV(l:List W)(s:W)(m:s∈l)(o:l.length<=1099511627776):Pure Tryz.prog TB 123 [BO l,eT s] (eI .i64 (l.idxOf s:Nat)):=by
 refine eN Tryz.func123 rfl (by kernel_rfl) rfl ?_;intro Z a;(repeat first|refine tA rfl ?_ |refine aU rfl ?_ |refine Aa ?_);refine aB ?_;refine aL (α:={k:Nat // k<=l.length/\s∉l.take k}) [0,1] [] rfl rfl (λ⟨k,hk,b⟩=>[(5,eI .i64 k)]) (λ⟨k,hk,b⟩=>[]) 0 (λ⟨k,hk,b⟩=>l.length - k) (⟨0,by omega,by simp⟩) a rfl (by (simp[cX,zC,a])) ?_;rintro⟨k,hk,b⟩;(try dsimp only[cA,cB])
 have i:k < l.length:=by
  rcases nG k l.length with h|h
  ·exact h
  ·rw [ge h] at b;exact absurd m b
 obtain⟨x,d⟩:=get_some (l:=l) (k:=k) i;have j:=get_map (g:=CN) d;by_cases e:x=s
 ·subst e
  have n:=iu d b;rw [n];(repeat first|refine tA rfl ?_ |(refine s4 rfl ‹_› rfl ?_ ?_;omega) |refine s2 rfl λ_ c=>?_ |refine aU rfl ?_ |refine Aa ?_);(refine aC rfl ?_ ?_<;>rintro⟨⟩)
  ·exfalso;simp at c
  ·(repeat' first|refine tA rfl ?_ |refine aU rfl ?_ |refine Aa ?_|(refine aC rfl ?_ ?_<;>rintro⟨⟩)|refine aK ?_|refine aE ?_|refine aB ?_|refine aR ⟨_,rfl,?_⟩)
   rfl
 ·have f:s∉l.take (k+1):=by
   rw [d8,d];intro h
   rcases em.1 h with h|h
   ·exact b h
   ·simp at h;exact e h.symm
  (repeat first|refine tA rfl ?_ |(refine s4 rfl ‹_› rfl ?_ ?_;omega) |refine s2 rfl λ_ c=>?_ |refine aU rfl ?_ |refine Aa ?_);(refine aC rfl ?_ ?_<;>rintro⟨⟩)
  ·(repeat' first|(refine sA rfl ?_ ?_;first|exact tI|omega) |refine aU rfl ?_ |refine Aa ?_|(refine aC rfl ?_ ?_<;>rintro⟨⟩)|refine aK ?_|refine aE ?_|refine aB ?_|refine aR ⟨_,rfl,?_⟩)
   refine⟨⟨k+1,by omega,f⟩,by dsimp only;(omega),[],?_⟩;simp[cX,zC,a]
  ·exfalso;simp [e] at c
end Go.Am
namespace Go.Am
open Go
set_option linter.unusedVariables false
theorem TJ{f:Nat->Bool}{n k:Nat}(h:GG f n=true)(a:0 < k)(hk:k < n):f k=true:=by
 unfold GG at h;have:=(f9.1 h) k (nk.2 hk);simp at this
 rcases this with h|h
 ·omega
 ·exact h
theorem TK{f:Nat->Bool}{n:Nat}(h:∀k,0 < k->k < n->f k=true):GG f n=true:=by
 unfold GG;refine f9.2 λk hk=>?_;have hk:=nk.1 hk
 rcases nV k with a|a
 ·subst a;rfl
 ·simp [h k a hk]
structure aD (al:Int) (t:A0):Prop where
 pos:0<=al
 r1:1<=t.rows.length
 rl:t.rows.length<=12
 c1:1<=t.cols.length
 cl:t.cols.length<=20
 r0:t.rows[0]? = some []
 c0:t.cols[0]? = some []
 rw:∀w∈t.rows,w.length<=50000/\AT (A6 al) w
 cw:∀w∈t.cols,w.length<=4000/\AT (A6 al) w
 pre:∀(i:Nat) w,t.rows[i]? = some w->0 < i->w≠[]/\∃j,j < i/\t.rows[j]? = some w.dropLast
 ndC:t.cols.Nodup
theorem Nm{α:Type}{l:List α}{k:Nat}{x:α}(h:x∈l.take k):∃j,j < k/\l[j]? = some x:=by
 obtain⟨j,a,b⟩:=nB h
 have c:j < k:=by simp at a;omega
 refine⟨j,c,?_⟩;rw [<-b,List.getElem_take,d6]
theorem MZ{α:Type}{l:List α}{j k:Nat}{x:α}(h:l[j]? = some x)(a:j < k):x∈l.take k:=by
 have:(l.take k)[j]? = some x:=by rw [nz,if_pos a];exact h
 exact co this
theorem Xf{w:W}{al:Int}(h:within w al=true):w.length<=50000:=by
 unfold within at h;simp only [d4,decide_eq_true_eq] at h;exact h.1
theorem UL{al:Int}{t:A0}(h:Ga al t=true):aD al t:=by
 unfold Ga MM at h;simp only [d4,decide_eq_true_eq] at h;obtain⟨⟨v,q,p,o,n⟩,u,s⟩:=h
 have d:∀(i:Nat) w,t.rows[i]? = some w->0 < i->w≠[]/\within w al=true/\w.dropLast∈t.rows.take i:=λi w hi b=>by
  have:=TJ u b (ce.1 hi).1;unfold rowAt at this;rw [hi] at this;simp only [d4,decide_eq_true_eq,oX,decide_eq_false_iff_not] at this;exact⟨λe=>this.1 (by rw [e];rfl),this.2.1,this.2.2⟩
 have f:∀(i:Nat) w,t.cols[i]? = some w->0 < i->w.length<=4000/\within w al=true/\w∉t.cols.take i:=λi w hi b=>by
  have:=TJ s b (ce.1 hi).1;unfold OB at this;rw [hi] at this;simp only [d4,decide_eq_true_eq,oX,decide_eq_false_iff_not] at this;exact this
 refine⟨v,q.1,q.2,p.1,p.2,o,n,λw k=>?_,λw k=>?_,λi w hi b=>?_,?_⟩
 ·obtain⟨i,hi,g⟩:=nB k
  have a:t.rows[i]? = some w:=by rw [d6 hi,g]
  rcases nV i with b|b
  ·subst b
   rw [o] at a;injection a with a;subst a
   exact⟨by simp,λc m=>by cases m⟩
  ·have:=d i w a b
   exact⟨Xf this.2.1,Ex this.2.1⟩
 ·obtain⟨i,hi,g⟩:=nB k
  have a:t.cols[i]? = some w:=by rw [d6 hi,g]
  rcases nV i with b|b
  ·subst b
   rw [n] at a;injection a with a;subst a
   exact⟨by simp,λc m=>by cases m⟩
  ·have:=f i w a b
   exact⟨this.1,Ex this.2.1⟩
 ·have:=d i w hi b
  exact⟨this.1,Nm this.2.2⟩
 ·unfold List.Nodup
  rw [nn];intro i j hi r l g;have:=f j t.cols[j] (d6 r) (by omega);exact this.2.2 (MZ (by rw [d6 hi,g]) l)
theorem ZS{al:Int}{t:A0}(ha:A7 al=true)(q:0<=al)(l:1<=t.rows.length/\t.rows.length<=12)(n:1<=t.cols.length/\t.cols.length<=20)(h:t.rows[0]? = some [])(r:t.cols[0]? = some [])
 (rw':∀w∈t.rows,w.length<=50000/\AT (A6 al) w) (cw:∀w∈t.cols,w.length<=4000/\AT (A6 al) w) (pre:∀(i:Nat) w,t.rows[i]? = some w->0 < i->w≠[]/\∃j,j < i/\t.rows[j]? = some w.dropLast) (ndC:t.cols.Nodup):Ga al t=true:=by
 unfold Ga MM;simp only [d4,decide_eq_true_eq];refine⟨⟨q,l,n,h,r⟩,TK λk hk a=>?_,TK λk hk a=>?_⟩
 ·have c:=d6 a
  obtain⟨p,j,f,o⟩:=pre k _ c hk;have b:=rw' _ (nJ a);unfold rowAt;rw [c];simp only [d4,decide_eq_true_eq,oX,decide_eq_false_iff_not];exact⟨λe=>p (ms.1 e),GI b.2 b.1 ha,MZ o f⟩
 ·have c:=d6 a
  have b:=cw _ (nJ a);unfold OB;rw [c];simp only [d4,decide_eq_true_eq,oX,decide_eq_false_iff_not];refine⟨b.1,GI b.2 (by omega) ha,λm=>?_⟩;obtain⟨j,f,g⟩:=Nm m;obtain⟨d,g⟩:=ce.1 g;exact(nn.1 ndC) j k d a f g
theorem EW{A:W->Bool}{al:Int}{t:A0}(h:A5 A al t=true):aD al t/\(AJ A t).Nodup:=by
 unfold A5 at h;rw [d4,decide_eq_true_eq] at h;exact⟨UL h.1,h.2⟩
theorem Iw{A:W->Bool}{al:Int}{t:A0}(h:A5 A al t=true):TOk A (A6 al) t:=by
 obtain⟨a,c⟩:=EW h;exact⟨a.r0,a.c0,a.pre,λw b=>(a.rw w b).2,λw b=>(a.cw w b).2,c,a.ndC⟩
theorem JI{A:W->Bool}{al:Int}{t:A0}(ha:A7 al=true)(i:0<=al)(h:TOk A (A6 al) t)(d:t.rows.length<=12)(e:t.cols.length<=20)(b:∀w∈t.rows,w.length<=50000)(c:∀w∈t.cols,w.length<=4000):A5 A al t=true:=by
 unfold A5;rw [d4,decide_eq_true_eq];have g:=(ce.1 h.r0).1;have f:=(ce.1 h.c0).1;exact⟨ZS ha i ⟨g,d⟩ ⟨f,e⟩ h.r0 h.c0 (λw a=>⟨b w a,h.onR w a⟩) (λw a=>⟨c w a,h.onC w a⟩) h.pre h.ndC,h.nd⟩
theorem Mi{A:W->Bool}{al:Int}{t:A0}(h:BD A al t=true):A5 A al t=true/\Bg A (A6 al) t=none/\BX A (A6 al) t:=by
 unfold BD at h;rw [d4] at h
 have a:Bg A (A6 al) t=none:=by simpa using h.2
 exact⟨h.1,a,⟨Iw h.1,GL a⟩⟩
theorem aD.sz{al:Int}{t:A0}(h:aD al t):Vm t:=⟨by have:=h.rl;omega,by have:=h.cl;omega,λw a=>by have:=(h.rw w a).1;omega,λw a=>by have:=(h.cw w a).1;omega⟩
def Td(A L:W->Bool)(al:Int):Prop:=∀w,AT (A6 al) w->w.length<=50000->A w=L w
theorem Wz{ls:List UInt8}{u w:W}(b:AT ls u)(a:AT ls w):AT ls (u++w):=λc d=>by
 rcases em.1 d with h|h
 ·exact b c h
 ·exact a c h
theorem QO{A L:W->Bool}{al:Int}(h:Td A L al){cols:List W}{w:W}(c:AT (A6 al) w)(b:∀x∈cols,AT (A6 al) x/\w.length+x.length<=50000):marks A cols w=marks L cols w:=by
 rw [marks,marks,ph];intro x a;rw [h _ (Wz c (b x a).1) (by simp;exact(b x a).2)]
theorem HN{A L:W->Bool}{al:Int}{b:Nat}{t:A0}(h:Td A L al)(ht:GU al b t)(hb:b<=20100):AJ A t=AJ L t:=by
 rw [AJ,AJ,ph];intro r c;have:=ht.onR r c
 exact QO h this.1 λx a=>⟨(ht.onC x a).1,by have:=(ht.onC x a).2;omega⟩
theorem O2{A L:W->Bool}{al:Int}{b:Nat}{t:A0}(h:Td A L al)(ht:GU al b t)(hb:b<=20100){r:W}{l:UInt8}(e:r∈t.rows)(f:l∈A6 al):marks A t.cols (r++[l])=marks L t.cols (r++[l]):=by
 have:=ht.onR r e
 refine QO h (Wz this.1 (λc d=>by simp at d;subst d;exact f)) λx a=>⟨(ht.onC x a).1,by have:=(ht.onC x a).2;simp;omega⟩
theorem TF{α:Type}{p q:α->Bool}:∀ {l:List α},(∀x∈l,p x=q x)->l.find? p=l.find? q
 | [],_=>rfl
 | x::l,h=>by
  rw [List.find?_cons,List.find?_cons,h x (by simp),TF (l:=l) λy a=>h y (by simp [a])]
theorem ME{A L:W->Bool}{al:Int}{b:Nat}{t:A0}(h:Td A L al)(ht:GU al b t)(hb:b<=20100):Bg A (A6 al) t=Bg L (A6 al) t:=by
 unfold Bg;refine TF λw a=>?_;unfold CM at a;simp only [ow,d9] at a;obtain⟨r,c,l,d,rfl⟩:=a;rw [HN h ht hb,O2 h ht hb c d]
theorem Oy{A L:W->Bool}{al:Int}(h:Td A L al):∀(n:Nat) {b:Nat} {t:A0},GU al b t->b+n<=20100->Bo A (A6 al) n t=Bo L (A6 al) n t
 | 0,_,_,_,_=>rfl
 | n + 1,b,t,ht,hb=>by
  unfold Bo;rw [ME h ht (by omega)]
  cases d:Bg L (A6 al) t with
  | none=>rfl
  | some w=>
   dsimp only;by_cases a:t.rows.length=12
   ·rw [if_pos a,if_pos a]
   ·rw [if_neg a,if_neg a]
    have c:=ht.rl;exact Oy h n (ht.push d (by omega)) (by omega)
theorem TS{A L:W->Bool}{al:Int}{b:Nat}{t:A0}(h:Td A L al)(ht:GU al b t)(hb:b<=20100){r:W}{l:UInt8}(a:r∈t.rows)(c:l∈A6 al):Da A t (r++[l])=Da L t (r++[l]):=by
 unfold Da;rw [HN h ht hb,O2 h ht hb a c]
theorem Ts{A L:W->Bool}{al:Int}{b:Nat}{t:A0}(h:Td A L al)(ht:GU al b t)(hb:b<=20100):AY A al t=AY L al t:=by
 unfold AY;congr 1
 ·refine ph.2 λr a=>ph.2 λl c=>?_
  rw [TS h ht hb a (N6 c)]
 ·refine ph.2 λr a=>?_
  have:=ht.onR r a;rw [h r this.1 (by omega)]
theorem TOk.lA{A L:W->Bool}{al:Int}{b:Nat}{t:A0}(h:Td A L al)(ht:GU al b t)(hb:b<=20100)(hk:TOk L (A6 al) t):TOk A (A6 al) t:=⟨hk.r0,hk.c0,hk.pre,hk.onR,hk.onC,by rw [HN h ht hb];exact hk.nd,hk.ndC⟩
theorem BX.lA{A L:W->Bool}{al:Int}{b:Nat}{t:A0}(h:Td A L al)(ht:GU al b t)(hb:b<=20100)(hk:BX L (A6 al) t):BX A (A6 al) t:=⟨hk.toTOk.lA h ht hb,λr a l c=>by
 rw [O2 h ht hb a c,HN h ht hb];exact hk.cl r a l c⟩
theorem dh{A:W->Bool}{al:Int}{t:A0}(h:BX A (A6 al) t){q:Nat}(a:q < t.rows.length):t.rows.getD q []∈t.rows:=by
 rw [List.getD,d6 a];exact nJ a
theorem Nv{A L:W->Bool}{al:Int}{l:Nat}{t:A0}(h:Td A L al)(ht:GU al l t)(hb:l<=20100)(hk:BX L (A6 al) t)(b:Bool):∀(w:W) (q:Nat),q < t.rows.length->AT (A6 al) w->w.length<=20000->splitAt A t b q w=splitAt L t b q w
 | [],_,_,_,_=>rfl
 | c :: w,q,f,g,o=>by
  have n:=dh hk f;have j:=g c (by simp);have r:=TS h ht hb n j;obtain⟨r',k,_⟩:=hk.idx (i:=q) (d6 f) j
  have p:t.rows.getD q []=t.rows[q]:=by rw [List.getD,d6 f];rfl
  rw [<-p] at k;have e:=(ce.1 k).1;have d:=dh hk e;have a:AT (A6 al) w:=λx m=>g x (by simp [m]);simp at o
  have s:A (t.rows.getD (Da L t (t.rows.getD q []++[c])) []++w)=L (t.rows.getD (Da L t (t.rows.getD q []++[c])) []++w):=
   h _ (Wz (ht.onR _ d).1 a) (by have:=(ht.onR _ d).2;simp only [ol];omega)
  unfold splitAt;rw [r,s];split
  ·rfl
  ·exact Nv h ht hb hk b w _ e a (by omega)
end Go.Am
namespace Go.Am
open Go Go.Proofs
set_option maxHeartbeats 1000000
attribute [local irreducible] AX Cb Lex Bh Aj Spec
section
variable {P:Program}{TB:Bz}{Z:Ctx}{d:Option Tmp}{ty:TypeId}{pos:String}{af:Array Edge}{g:Option (Nat×Bool)}{f:Env}{σ:Ab}{nx:Nat}
end
variable {TB:Bz}
theorem aD.short{al:Int}{t:A0}(h:aD al t):∀(i:Nat) w,t.rows[i]? = some w->w.length<=i:=by
 intro i
 induction i using Nat.strongRecOn with
 | ind i b=>
  intro w hi
  rcases nV i with rfl|e
  ·have:=h.r0.symm.trans hi
   injection this with this
   subst this;simp
  ·obtain⟨c,j,d,a⟩:=h.pre i w hi e
   have:=b j d _ a;rw [List.length_dropLast] at this;omega
theorem aD.bd{al:Int}{t:A0}(h:aD al t):GU al 20000 t:=by
 refine⟨λw b=>⟨(h.rw w b).2,?_⟩,λx a=>⟨(h.cw x a).2,by have:=(h.cw x a).1;omega⟩,h.rl,h.cl⟩;obtain⟨i,hi,c⟩:=nB b;have:=h.short i w (by rw [d6 hi,c]);have:=h.rl;omega
end Go.Am
namespace Go.Am
open Go Go.Proofs
set_option maxHeartbeats 1000000
attribute [local irreducible] AX Cb Lex Bh Aj Spec
variable {TB:Bz}
end Go.Am
namespace Go.Am
open Go Go.Proofs
set_option linter.unusedVariables false
def ED(n:Nat)(p:W->Prop):Prop:=∃l:List W,l.length<=n/\∀w,p w->w∈l
theorem ED.or{a b:Nat}{p q:W->Prop}(h:ED a p)(f:ED b q):ED (a+b) (λw=>p w\/q w):=by
 obtain⟨l,i,e⟩:=h;obtain⟨l',g,d⟩:=f;exact⟨l++l',by simp;omega,λw c=>em.2 (c.imp (e w) (d w))⟩
theorem ED.sub{a b:Nat}{p q:W->Prop}(h:ED a p)(d:∀w,q w->p w)(hb:a<=b):ED b q:=by
 obtain⟨l,f,e⟩:=h;exact⟨l,by omega,λw c=>e w (d w c)⟩
theorem ED.none{n:Nat}{p:W->Prop}(h:∀w,¬p w):ED n p:=⟨[],by simp,λw a=>absurd a (h w)⟩
theorem OZ{α β:Type}(f:α->List β)(b:Nat):∀(l:List α),(∀x∈l,(f x).length<=b)->(l.flatMap f).length<=l.length*b
 | [],_=>by simp
 | x::l,h=>by
  have d:=OZ f b l λy a=>h y (by simp [a]);have c:=h x (by simp);rw [pJ,ol,nM,Nat.succ_mul];omega
theorem ED.ex{α:Type}{n b:Nat}{p:W->Prop}{q:α->W->Prop}(l:List α)(i:l.length<=n)(g:∀x∈l,ED b (q x))(h:∀w,p w->∃x∈l,q x w):ED (n*b) p:=by
 classical
 have e:∀x:α,∃k:List W,x∈l->k.length<=b/\∀w,q x w->w∈k:=λx=>by
  by_cases a:x∈l
  ·obtain⟨k,m,j⟩:=g x a;exact⟨k,λ_=>⟨m,j⟩⟩
  ·exact⟨[],λh=>absurd h a⟩
 have d:=λx=>Classical.choose_spec (e x);refine⟨l.flatMap λx=>Classical.choose (e x),li (OZ _ b l λx a=>(d x a).1) (nL b i),λw f=>?_⟩;obtain⟨x,a,c⟩:=h w f;exact ow.2 ⟨x,a,(d x a).2 w c⟩
theorem ED.map{α:Type}{n:Nat}{p:W->Prop}(f:α->W)(l:List α)(c:l.length<=n)(h:∀w,p w->∃x∈l,w=f x):ED n p:=
 ⟨l.map f,by simpa using c,λw b=>by obtain⟨x,a,rfl⟩:=h w b;exact d9.2 ⟨x,a,rfl⟩⟩
theorem eW(al:Int):(A6 al).length<=6:=by
 unfold A6;rw [gt];exact AK al 6
theorem Mn{al:Int}{b:Nat}{t:A0}(h:GU al b t):ED 1764 (MY (A6 al) t):=by
 have c:=h.rl;have g:=h.cl;refine ED.ex (n:=12) (b:=147) (q:=λr v=>∃m:W,(m=[]\/∃l∈A6 al,m=[l])/\∃x:W,(x=[]\/x∈t.cols)/\v=r++m++x) t.rows c (λr _=>?_) λw a=>a;refine ED.ex (n:=7) (b:=21) (q:=λm v=>∃x:W,(x=[]\/x∈t.cols)/\v=r++m++x) ([]::(A6 al).map λl=>[l]) (by have:=eW al;simp;omega) (λm _=>?_) λw a=>?_
 ·exact ED.map (λx=>r++m++x) ([]::t.cols) (by simp;omega) λw ⟨x,d,a⟩=>⟨x,by simpa using d,a⟩
 ·obtain⟨m,e,i⟩:=a
  refine⟨m,?_,i⟩
  rcases e with rfl|⟨l,f,rfl⟩
  ·simp
  ·exact ny _ (d9.2 ⟨l,f,rfl⟩)
theorem QF{L:W->Bool}{ls:List UInt8}:∀(n:Nat) (t:A0),(EK L ls n t).length<=n+1
 | 0,t=>by simp [EK]
 | n + 1,t=>by
  unfold EK
  cases Bg L ls t with
  | none=>simp
  | some w=>
   dsimp only;split
   ·simp
   ·have:=QF (L:=L) (ls:=ls) n ⟨t.rows++[w],t.cols⟩
    simp;omega
theorem QA{L:W->Bool}{al:Int}{b:Nat}{t:A0}(h:GU al b t):ED 24696 (λv=>∃y∈EK L (A6 al) 13 t,MY (A6 al) y v):=
 ED.ex (n:=14) (b:=1764) (q:=λy v=>MY (A6 al) y v) (EK L (A6 al) 13 t) (QF 13 t) (λy a=>Mn (h.grow a)) λw c=>c
theorem Ze{al:Int}{b:Nat}{t:A0}(h:GU al b t){w:W}(e:w.length<=20000):ED 260013 (Xu t w):=by
 have c:=h.rl
 refine ED.ex (n:=13) (b:=20001) (q:=λr v=>∃k:Nat,v=r++w.drop k) ([]::t.rows) (by simp;omega) (λr _=>?_) λv ⟨r,d,a⟩=>⟨r,by simpa using d,a⟩
 refine ED.map (λk=>r++w.drop k) (List.range 20001) (by simp) λv ⟨k,a⟩=>?_;by_cases hk:k < 20001
 ·exact⟨k,nk.2 hk,a⟩
 ·exact⟨20000,by simp,by rw [a,ox (by omega),ox (by omega)]⟩
theorem Zd{L:W->Bool}{al:Int}{t:A0}(h:GU al 20000 t){w:W}(f:AT (A6 al) w)(g:w.length<=20000):ED 286473 (Xt L (A6 al) t w):=by
 refine((Mn h).or ((Ze h g).or (b:=24696) ?_)).sub (b:=286473) (λv e=>e) (by omega)
 cases i:CJ L t w with
 | none=>exact .none λv ⟨x,a,_⟩=>by cases a
 | some x=>
  cases ha:Fy t x with
  | none=>exact .none λv ⟨x',a,u,d,_⟩=>by injection a with a;subst a;rw [ha] at d;cases d
  | some u=>
   obtain⟨p,_,rfl⟩:=Iu i
   exact(QA (L:=L) (RH h (λc j=>f c (by simp [j])) (by simp at g;omega) ha)).sub (λv ⟨x',a,u',d,e⟩=>by
    injection a with a;subst a
    rw [ha] at d;injection d with d;subst d;exact e) (jp _)
def okB(al:Int)(w:W):Prop:=AT (A6 al) w/\w.length<=50000
theorem I9(al:Int):RG (okB al) al:=λw b a=>⟨b,a⟩
theorem YI{α:Type}:∀(l m:List α),l.Nodup->(∀x∈l,x∈m)->l.length<=m.length
 | [],_,_,_=>by simp
 | x :: l,m,d,f=>by
  obtain⟨a,b,rfl⟩:=List.append_of_mem (f x (by simp));rw [List.nodup_cons] at d
  have h:=YI l (a++b) d.2 λy e=>by
   have c:=f y (ny _ e);simp only [em,ng] at c |-
   rcases c with c|rfl|c
   ·exact .inl c
   ·exact absurd e d.1
   ·exact .inr c
  simp at h |-;omega
theorem eu{t:CK}{n:Nat}{p:W->Prop}{al:Int}(h:ED n p)(j:n<=20000000)(hb:∀w,p w->okB al w):jn t p:=by
 obtain⟨k,hk,e⟩:=h;intro l c f
 have a:l ⊆ Cu t::(k.filter λw=>w.length<=50000).flatMap λw=>(List.range 50001).map λi=>GO t (Cu t) (w.take i):=λF g=>by
  rcases f F g with rfl|⟨u,v,d,rfl⟩
  ·simp
  ·have b:=(hb _ d).2
   refine ny _ (ow.2 ⟨u++v,nr.2 ⟨e _ d,by simpa using b⟩,d9.2 ⟨u.length,nk.2 (by simp at b;omega),by simp⟩⟩)
 have b:=YI _ _ c a;have q:=OZ (λw:W=>(List.range 50001).map λi=>GO t (Cu t) (w.take i)) 50001 (k.filter λw=>w.length<=50000) (λx _=>by simp);have o:(k.filter λw=>w.length<=50000).length<=n:=li (oP _ _) hk;rw [nM] at b;have m:(k.filter λw=>decide (w.length<=50000)).length*50001<=20000000*50001:=nL _ (by omega);omega
theorem ki{al:Int}{w:W}(h:okB al w):jt al w:=⟨h.1,li h.2 (by omega)⟩
theorem fU{te:EF}{n:Nat}{p:W->Prop}(h:ED n p)(c:n<=20000000)(hb:∀w,p w->okB (Bb te) w):(∀w,p w->jt (Bb te) w)/\SU te p:=by
 refine⟨λw b=>ki (hb w b),?_⟩;obtain⟨kn,a,s,q,al⟩:=te
 cases kn with
 | true=>intro h;cases h
 | false=>exact λ_=>eu h c hb
end Go.Am
namespace Go.Am
open Go Go.Proofs
set_option maxHeartbeats 1000000
attribute [local irreducible] AX Cb Lex Bh Aj Spec
variable {TB:Bz}
theorem Tw{A:W->Bool}{ls:List UInt8}{m:Nat}{u:A0}{w:W}{R:Option A0}(b:R=Bo A ls (m+1) u)(a:Bg A ls u=some w)(c:u.rows.length < 12):R=Bo A ls m ⟨u.rows++[w],u.cols⟩:=by
 rw [b]
 conv=>lhs;unfold Bo
 rw [a];dsimp only;rw [if_neg (by omega)]
theorem IT{t:EF}{al:Int}{A:W->Bool}(hT:J6 Tryz.prog TB 120 175 t al A)(tab:A0)(hz:Vm tab) :
 Pure Tryz.prog TB 118 [EE t,DY tab] (Iz (if A5 A al tab then Bo A (A6 al) 13 tab else none)):=by
 have N:=Fw hT tab hz;by_cases v:A5 A al tab=true
 ·rw [if_pos v]
  rw [v] at N;have g:aD al tab:=(EW v).1;have H:=g.r1;have L:=g.c1;have T:=g.rl;have Y:=g.cl;refine eG Tryz.func118 rfl (by kernel_rfl) rfl ?_;intro Z e;(repeat first|refine tA rfl ?_ |refine s2 rfl λ_ i=>?_ |refine sP rfl (N) rfl ?_ |refine aU rfl ?_ |refine Aa ?_)
  ((refine aC rfl ?_ ?_<;>rintro⟨⟩);all_goals try (simp at i;done))
  refine aK ?_;(repeat first|refine aU rfl ?_);refine R.Qj [(0,2),(1,2),(2,2),(4,2),(5,2),(6,2),(9,3),(3,1),(7,1),(8,2),(10,5)] mixed (by kernel_rfl) rfl (by kernel_rfl) ?_;(repeat ((refine R.Ag rfl ?_;first|(refine R.yQ (md:=false) rfl rfl rfl ?_ ?_;exact tI) |refine R.yP rfl rfl rfl rfl ?_|refine R.CB (λ_ _ _=>Sz (by rfl) (by rfl)) rfl rfl ?_ )));(refine R.Ag rfl ?_;refine R.JQ (λ_=>?_) rfl rfl;refine EA rfl rfl rfl (by intro r k;simp at k;obtain⟨_,_,rfl⟩:=k;rfl) (by rfl) (am rfl) (by simp;omega) (λh=>?_) (λ_=>?_))
  ·exfalso;simp at h;rw [h] at H;simp at H
  (refine R.Ag rfl ?_;refine R.JQ (λ_=>?_) rfl rfl;refine EA rfl rfl rfl (by intro r k;simp at k;obtain⟨_,_,rfl⟩:=k;rfl) (by rfl) (am rfl) (by simp;omega) (λh=>?_) (λ_=>?_))
  ·exfalso;simp at h;rw [h] at L;simp at L
  (repeat ((refine R.Ag rfl ?_;first|refine R.yA rfl rfl rfl rfl ?_|refine R.CB (λ_ _ _=>AF rfl rfl (by rfl) (by rfl)) rfl rfl ?_ )));refine R.Qe ?_;refine aS ?_;refine Aj.Ay [2] [] rfl rfl [(4,.o (.ptr 0 2 0 0)),(6,.o (.ptr 3 2 0 0))] [(0,.cells 99 2 [[.d (.l []),.d (.l [])]]),(1,.cells 9 1 (tab.rows.map Ed)),(2,.cells 9 1 (tab.cols.map Ed)),(3,.cells 99 2 [[.arr 1 1 0 tab.rows.length,.arr 2 1 0 tab.cols.length]])] [0,1,2,3] (rl e rfl) (by (simp[cX,zC,e])) ?_;(try dsimp only[cA,cB]);have s:=Kl hT tab hz
  have G:∀l:List W,((l.map Ed).drop 0).take l.length=(l.map CN).map (λr=>r.map C.d):=λl=>by rw [nX,ge (by simp)];simp [d5]
  have K:∀u:A0,gE [(0,.cells 99 2 [[.d (.l []),.d (.l [])]]),(1,.cells 9 1 (u.rows.map Ed)),(2,.cells 9 1 (u.cols.map Ed)),(3,.cells 99 2 [[.arr 1 1 0 u.rows.length,.arr 2 1 0 u.cols.length]])] [EE t,.a [.arr 1 1 0 u.rows.length,.arr 2 1 0 u.cols.length]] [EE t,DY u]:=λu=>
   .cons (.cons (.pure rfl) (.cons (.pure rfl) (.cons (.pure rfl) (.cons (.pure rfl) (.cons (.pure rfl) (.cons (.pure rfl) (.cons (.pure rfl) (.cons (.pure rfl) (.cons (.pure rfl) (.cons (.pure rfl) (.cons (.pure rfl) .nil))))))))))) (.cons (.cons (.arr rfl (by simp) (G _)) (.cons (.arr rfl (by simp) (G _)) .nil)) .nil)
  have I:∀x:A0,Y7 (Bg A (A6 al) x)=.t [(false,[.d (tD ((Bg A (A6 al) x).getD []))]),(false,[.d (bD (Bg A (A6 al) x).isSome)])]:=λx=>by cases Bg A (A6 al) x<;>rfl
  rw [I] at s;(repeat first|refine tA rfl ?_|(refine Ag rfl ?_;refine gA rfl ?_;first| refine gQ (Io rfl rfl ((K tab)) (s) rfl) rfl ?_) |refine aU rfl ?_ |refine Aa ?_)
  obtain⟨R,hR⟩:∃R,R=Bo A (A6 al) 13 tab:=⟨_,rfl⟩
  rw [<-hR];refine aB ?_;refine aL (α:={p:Nat×A0 // p.1<=13/\13<=p.1+p.2.rows.length/\p.2.rows.length<=12/\p.2.cols.length<=20/\(∀w∈p.2.rows,w.length<=50000+p.2.rows.length)/\(∀w∈p.2.cols,w.length<=4000)/\R=Bo A (A6 al) p.1 p.2}) [2,4,6] [0] rfl rfl (λ⟨⟨m,u⟩,M,q,n,j,b,c,z⟩=>[(7,eT ((Bg A (A6 al) u).getD [])),(8,eB (Bg A (A6 al) u).isSome)]) (λ⟨⟨m,u⟩,M,q,n,j,b,c,z⟩=>[(1,.cells 9 1 (u.rows.map Ed)),(2,.cells 9 1 (u.cols.map Ed)),(3,.cells 99 2 [[.arr 1 1 0 u.rows.length,.arr 2 1 0 u.cols.length]])]) 4 (λ⟨⟨m,u⟩,M,q,n,j,b,c,z⟩=>m) (⟨(13,tab),by simp,by simp,T,Y,λw F=>by have:=(g.rw w F).1;show w.length<=50000+tab.rows.length;omega,λw F=>(g.cw w F).1,hR⟩) e rfl (by (simp[cX,zC,e])) ?_;rintro⟨⟨m,u⟩,M,q,n,j,b,c,z⟩;(try dsimp only[cA,cB]);dsimp only at M q n j b c z
  have Q:Bg A (A6 al) u=none\/∃w,Bg A (A6 al) u=some w:=by cases Bg A (A6 al) u<;>simp
  rcases Q with y|⟨w,y⟩
  ·rw [y]
   have V:R=some u:=by
    rw [z]
    obtain⟨m',rfl⟩:∃m',m=m'+1:=⟨m - 1,by omega⟩
    simp [Bo,y]
   (repeat first|refine tA rfl ?_ |refine aU rfl ?_ |refine Aa ?_)
   ((refine aC rfl ?_ ?_<;>rintro⟨⟩);all_goals try (simp at i;done))
   refine aE ?_;(repeat first|refine tA rfl ?_ |refine aU rfl ?_ |refine Aa ?_);refine Aj.settle [(4,.o (.ip [BW u.rows,BW u.cols])),(5,eB true)] ⟨⟨_,rfl,.o (.box rfl (.cons (.full rfl (by simp [d5]) (by simp)) (.cons (.full rfl (by simp [d5]) (by simp)) .nil)))⟩,⟨_,rfl,.o .d⟩,trivial⟩ ?_;refine aR ⟨_,rfl,?_⟩;rw [V];rfl
  ·rw [y]
   obtain⟨m',rfl⟩:∃m',m=m'+1:=⟨m - 1,by omega⟩
   obtain⟨⟨r,k,l,hl,F⟩,_⟩:=Il y
   have B:w.length<=50000+(u.rows++[w]).length:=by
    have:=b r k;rw [F];simp;omega
   (repeat first|refine tA rfl ?_ |refine aU rfl ?_ |refine Aa ?_)
   ((refine aC rfl ?_ ?_<;>rintro⟨⟩);all_goals try (simp at i;done))
   refine aK ?_;refine aB ?_;(repeat first|refine tA rfl ?_ |refine s2 rfl λ_ i=>?_ |refine aU rfl ?_ |refine Aa ?_);(refine aC rfl ?_ ?_<;>rintro⟨⟩)
   ·have h12:u.rows.length=12:=by (simp only[oZ] at *;omega)
    have V:R=none:=by
     rw [z];simp [Bo,y,h12]
    (repeat first|refine tA rfl ?_|(refine Ag rfl ?_;refine gA rfl ?_;first| refine gS (λ_ _=>AF rfl rfl (by rfl) (by rfl)) ?_) |refine aU rfl ?_ |refine Aa ?_);refine Aj.settle [(4,.o (.ip [.l [],.l []])),(5,eB false)] ⟨⟨_,rfl,.o (.box rfl (.cons .d (.cons .d .nil)))⟩,⟨_,rfl,.o .d⟩,trivial⟩ ?_;refine aR ⟨_,rfl,?_⟩;rw [V];rfl
   ·have X:u.rows.length < 12:=by (simp only[oZ] at *;omega)
    have S:=Tw z y X
    have P:Vm ⟨u.rows++[w],u.cols⟩:=⟨by simp;omega,by dsimp only;omega,λx f=>by
     rcases em.1 f with f|f
     ·have:=b x f;omega
     ·simp at f;subst f;simp at B;omega,λx f=>by have:=c x f;omega⟩
    have J:=Kl hT ⟨u.rows++[w],u.cols⟩ P;rw [I] at J;refine aK ?_;(repeat first|refine tA rfl ?_ |refine aU rfl ?_);(refine pW rfl ?_ rfl (by rfl);refine Al rfl rfl rfl (by first| (simp;done)|(simp;(omega))) rfl (by intro r k;simp at k;subst k;rfl) (by rfl) (am rfl) (by simp;omega) ?_);(repeat first|refine tA rfl ?_);refine Aa ?_
    have U:∀x∈u.rows++[w],x.length<=50000+(u.rows++[w]).length:=λx f=>by
     rcases em.1 f with f|f
     ·have:=b x f;simp;omega
     ·simp at f;subst f;exact B
    refine Aj.Ay [2,4,6] [] rfl rfl [] [(0,.cells 99 2 [[.d (.l []),.d (.l [])]]),(1,.cells 9 1 ((u.rows++[w]).map Ed)),(2,.cells 9 1 (u.cols.map Ed)),(3,.cells 99 2 [[.arr 1 1 0 (u.rows++[w]).length,.arr 2 1 0 u.cols.length]])] [0,4,2,3] (rl e rfl) (by (simp[cX,zC,e])) ?_;(try dsimp only[cA,cB]);(repeat first|refine tA rfl ?_|(refine Ag rfl ?_;refine gA rfl ?_;first| refine gQ (Io rfl rfl ((K ⟨u.rows++[w],u.cols⟩)) (J) rfl) rfl ?_) |refine aU rfl ?_ |refine Aa ?_);refine⟨⟨⟨m',⟨u.rows++[w],u.cols⟩⟩,by dsimp only;omega,by simp;omega,by simp;omega,j,U,c,S⟩,by dsimp only;(omega),[0,1,2,3],?_⟩;simp[cX,zC,e]
 ·have v:A5 A al tab=false:=by simpa using v
  rw [if_neg (by simp [v])];rw [v] at N;refine eG Tryz.func118 rfl (by kernel_rfl) rfl ?_;intro Z e;(repeat first|refine tA rfl ?_ |refine s2 rfl λ_ i=>?_ |refine sP rfl (N) rfl ?_ |refine aU rfl ?_ |refine Aa ?_)
  ((refine aC rfl ?_ ?_<;>rintro⟨⟩);all_goals try (simp at i;done))
  (repeat first|refine tA rfl ?_|(refine Ag rfl ?_;refine gA rfl ?_;first| refine gS (λ_ _=>AF rfl rfl (by rfl) (by rfl)) ?_) |refine aU rfl ?_ |refine Aa ?_);refine Aj.settle [(4,.o (.ip [.l [],.l []])),(5,eB false)] ⟨⟨_,rfl,.o (.box rfl (.cons .d (.cons .d .nil)))⟩,⟨_,rfl,.o .d⟩,trivial⟩ ?_;refine aR ⟨_,rfl,rfl⟩
def gi(o:Option AZ):E:=match o with
 | some p=>.t [(true,[.d (iD p.al),.d (CW p.nx),.d (E4 p.ac)]),(false,[.d (bD true)])]
 | none=>.t [(true,[.d (iD 0),.d (.l []),.d (.l [])]),(false,[.d (bD false)])]
theorem Hg{t:EF}{al:Int}{A:W->Bool}(v:J6 Tryz.prog TB 120 175 t al A)(tab:A0)(f:Vm tab) :
 Pure Tryz.prog TB 69 [EE t,DY tab] (gi (if BD A al tab then some (AY A al tab) else none)):=by
 have x:=Pz v tab f;by_cases i:BD A al tab=true
 ·rw [if_pos i]
  rw [i] at x;obtain⟨y,V,N⟩:=Mi i;have e:=(EW y).1;have U:=e.r1;have S:=e.rl;have N:=e.cl;have h2:=v.alph;have h3:=Ch (TB:=TB) al;have h4:Pure Tryz.prog TB 122 [EE t,BO tab.cols,BO tab.rows] (BO (AJ A tab)):=Km v tab.cols tab.rows f.cl (λw R=>by have:=f.rb w R;omega) f.cb f.rl;have hla:(Ac al).length<=6:=AK al 6
  have Y:(AJ A tab).length=tab.rows.length:=by simp [AJ]
  refine eG Tryz.func69 rfl (by kernel_rfl) rfl ?_;intro Z c;(repeat first|refine tA rfl ?_ |refine s2 rfl λ_ a=>?_ |refine sP rfl (x) rfl ?_ |refine aU rfl ?_ |refine Aa ?_)
  ((refine aC rfl ?_ ?_<;>rintro⟨⟩);all_goals try (simp at a;done))
  refine aK ?_;(repeat first|refine tX rfl ?_ |refine sP rfl (h2) rfl ?_ |refine aU rfl ?_);(refine pW rfl ?_ rfl (by rfl);refine Jw 1 1 62 2 1 4 rfl rfl (by decide) rfl rfl (by rfl) (by rfl) ?_);(repeat first|refine tX rfl ?_ |refine sP rfl (h3) rfl ?_|refine sP rfl (h4) rfl ?_ |refine aU rfl ?_ |refine Aa ?_);refine aB ?_;refine aL (α:={k:Nat // k<=tab.rows.length}) [2,3,4,6,7,8] [0] rfl rfl (λ⟨k,hk⟩=>[(9,eI .i64 k)]) (λ⟨k,hk⟩=>[(1,.cells 62 1 (((AY A al tab).nx.take k).map λr=>[.d (E5 r)])),(2,.cells 4 1 (((AY A al tab).ac.take k).map λb=>[.d (bD b)])),(3,.cells 29 3 [[.d (iD al),.arr 1 1 0 k,.arr 2 1 0 k]])]) 4 (λ⟨k,hk⟩=>tab.rows.length - k) (⟨0,by omega⟩) c rfl (by (simp[cX,zC,c])) ?_;rintro⟨k,hk⟩;(try dsimp only[cA,cB])
  have X:(AY A al tab).nx.length=tab.rows.length:=by simp [AY]
  have hac:(AY A al tab).ac.length=tab.rows.length:=by simp [AY]
  by_cases I:k < tab.rows.length
  ·obtain⟨r,n⟩:=get_some I
   have Q:=get_map (g:=CN) n;have m:=co n;have T:=f.rb r m
   have hm:(AJ A tab)[k]? = some (marks A tab.cols r):=by simp [AJ,n]
   have hm':=get_map (g:=CN) hm
   have hm0:(marks A tab.cols r)[(0:Int).toNat]? = some (QR (A r)):=by
    have:=e.c0;simp [marks,this]
   (repeat first|refine sN rfl ?_ |refine tX rfl ?_ |refine s2 rfl λ_ a=>?_ |refine aU rfl ?_ |refine Aa ?_);refine Aj.cond rfl (λhb=>?_) (λhb=>?_)<;>cases hb
   rotate_left
   ·exfalso;(simp only[oZ] at *;omega)
   refine aK ?_;refine aS (aB ?_);(repeat first|refine aU rfl ?_);(refine pW rfl ?_ rfl (by rfl);refine Bf rfl rfl rfl rfl (by simp) (by rfl) (by rfl) (by rfl) (by rfl) ?_);(repeat first|refine tX rfl ?_ |refine aU rfl ?_ |refine Aa ?_);refine aB ?_;refine aL (α:={j:Nat // j<=(Ac al).length}) [2,3,4,6,7,8,9] [0,1,2,3] rfl rfl (λ⟨j,L⟩=>[(10,.o (.arr 4 1 0 j)),(11,eI .i64 j)]) (λ⟨j,L⟩=>[(4,.cells 3 1 (((Ac al).take j).map λl=>[.d (iD ((Da A tab (r++[lb l]):Nat):Int))]))]) 5 (λ⟨j,L⟩=>(Ac al).length - j) (⟨0,by omega⟩) c rfl (by (simp[cX,zC,c])) ?_;rintro⟨j,L⟩;(try dsimp only[cA,cB]);by_cases s:j < (Ac al).length
   ·obtain⟨l,K⟩:=get_some s
    have hl':=get_map (g:=Bq) K;have q:=co K;have J:=Au q;have z:Pure Tryz.prog TB 125 [eI .i64 l] (eT [lb l]):=HE l J.1 (by omega);have p:=Mw v tab.cols (r++[lb l]) f.cl (by simp;omega) f.cb;have H:marks A tab.cols (r++[lb l])∈AJ A tab:=GL V r m (lb l) (N6 q);have M:Pure Tryz.prog TB 123 [BO (AJ A tab),eT (marks A tab.cols (r++[lb l]))] (eI .i64 (Da A tab (r++[lb l]):Nat)):=TV (AJ A tab) _ H (by omega);(repeat first|refine sN rfl ?_ |refine tX rfl ?_ |refine s2 rfl λ_ a=>?_ |refine aU rfl ?_ |refine Aa ?_);refine Aj.cond rfl (λhb=>?_) (λhb=>?_)<;>cases hb
    rotate_left
    ·exfalso;(simp only[oZ] at *;omega)
    refine aK ?_;refine aS (aB ?_);refine rG (Gj [19]) (by kernel_rfl) ?_;(repeat first|(refine sA rfl ?_ ?_;first|exact tI|simp only[oZ] at *;omega) |(refine s4 rfl ‹_› rfl ?_ ?_;omega) |refine sP rfl (z) rfl ?_|refine sP rfl (p) rfl ?_|refine sP rfl (M) rfl ?_);(refine pW rfl ?_ rfl (by rfl);refine Al rfl rfl rfl (by first| (simp;done)|(simp;(omega))) rfl (by intro r h;simp at h;subst h;rfl) (by rfl) (am rfl) (by simp;omega) ?_);(repeat first|(refine sA rfl ?_ ?_;first|exact tI|omega) |refine aU rfl ?_ |refine Aa ?_);refine⟨⟨j+1,by omega⟩,by dsimp only;(omega),[0,1,2,3,5],?_⟩;(simp[cX,zC,c,d8,K])
   ·obtain rfl:j=(Ac al).length:=by omega
    have G:(AY A al tab).nx.take (k+1)=(AY A al tab).nx.take k++[(Ac al).map λl=>((Da A tab (r++[lb l]):Nat):Int)]:=by
     rw [d8];simp [AY,n]
    have u:(AY A al tab).ac.take (k+1)=(AY A al tab).ac.take k++[A r]:=by
     rw [d8];simp [AY,n]
    rw [io];(repeat first|refine sN rfl ?_ |refine tX rfl ?_ |refine s2 rfl λ_ a=>?_ |refine aU rfl ?_ |refine Aa ?_);refine Aj.cond rfl (λhb=>?_) (λhb=>?_)<;>cases hb
    ·exfalso;(simp only[oZ] at *;omega)
    refine aE ?_;refine Aj.XE [4] [2,3,4,6,7,8,9] rfl [(10,Ak ((Ac al).map λl=>((Da A tab (r++[lb l]):Nat):Int)))] ⟨⟨_,rfl,.o (.full (by simp) rfl (by simp [d5]) (by simp))⟩,trivial⟩ ?_;(try dsimp only[cA,cB]);(repeat first|refine tA rfl ?_ |refine aU rfl ?_);(refine pW rfl ?_ rfl (by rfl);refine Al rfl rfl rfl (by first| (simp;done)|(simp;(omega))) rfl (by intro r h;simp at h;subst h;rfl) (by rfl) (am rfl) (by simp;omega) ?_);(repeat first|refine tA rfl ?_ |refine Aa ?_);refine rG (Gj [9,11]) (by kernel_rfl) ?_;(repeat first|refine tA rfl ?_ |(refine s4 rfl ‹_› rfl ?_ ?_;omega) |refine s2 rfl λ_ a=>?_);rename_i b
    have P:b=A r:=by
     cases hA:A r<;>cases b<;>simp [hA,QR] at a<;>rfl
    subst P;(refine pW rfl ?_ rfl (by rfl);refine Al rfl rfl rfl (by first| (simp;done)|(simp;(omega))) rfl (by intro r h;simp at h;subst h;rfl) (by rfl) (am rfl) (by simp;omega) ?_);(repeat first|(refine sA rfl ?_ ?_;first|exact tI|omega) |refine aU rfl ?_ |refine Aa ?_);refine⟨⟨k+1,by omega⟩,by dsimp only;(omega),[0,5,6,3],?_⟩;(simp[cX,zC,c,G,u])
  ·obtain rfl:k=tab.rows.length:=by omega
   have F:(AY A al tab).nx.take tab.rows.length=(AY A al tab).nx:=ge (by simp [AY]);have B:(AY A al tab).ac.take tab.rows.length=(AY A al tab).ac:=ge (by simp [AY]);rw [F,B];(repeat first|refine sN rfl ?_ |refine tX rfl ?_ |refine s2 rfl λ_ a=>?_ |refine aU rfl ?_ |refine Aa ?_);refine Aj.cond rfl (λhb=>?_) (λhb=>?_)<;>cases hb
   ·exfalso;(simp only[oZ] at *;omega)
   refine aE ?_;(repeat first|refine tX rfl ?_ |refine aU rfl ?_ |refine Aa ?_);refine Aj.settle [(4,.o (.ip [iD al,CW (AY A al tab).nx,E4 (AY A al tab).ac])),(5,eB true)] ⟨⟨_,rfl,.o (.box rfl (.cons .d (.cons (.full rfl (by simp [d5]) (by simp [AY])) (.cons (.full rfl (by simp [d5]) (by simp [AY])) .nil))))⟩,⟨_,rfl,.o .d⟩,trivial⟩ ?_;refine aR ⟨_,rfl,rfl⟩
 ·have i:BD A al tab=false:=by simpa using i
  rw [if_neg (by simp [i])];rw [i] at x;refine eG Tryz.func69 rfl (by kernel_rfl) rfl ?_;intro Z c;(repeat first|refine tA rfl ?_ |refine s2 rfl λ_ a=>?_ |refine sP rfl (x) rfl ?_ |refine aU rfl ?_ |refine Aa ?_)
  ((refine aC rfl ?_ ?_<;>rintro⟨⟩);all_goals try (simp at a;done))
  (repeat first|refine tA rfl ?_|(refine Ag rfl ?_;refine gA rfl ?_;first| refine gS (λ_ _=>AF rfl rfl (by rfl) (by rfl)) ?_) |refine aU rfl ?_ |refine Aa ?_);refine Aj.settle [(4,.o (.ip [iD 0,.l [],.l []])),(5,eB false)] ⟨⟨_,rfl,.o (.box rfl (.cons .d (.cons .d (.cons .d .nil))))⟩,⟨_,rfl,.o .d⟩,trivial⟩ ?_;refine aR ⟨_,rfl,rfl⟩
theorem Di(L:W->Bool)(al:Int)(t:A0):BD L al t=(A5 L al t && (Bg L (A6 al) t).isNone):=rfl
theorem HT{te:EF}(a:CT te=true):A7 (Bb te)=true:=by
 obtain⟨kn,p,s,q,al⟩:=te
 cases kn with
 | true=>exact(AH a).1
 | false=>
  have ht:Bc ⟨s,q,al⟩=true:=a;unfold Bc at ht;simp only [d4] at ht;exact ht.2.2
def Oo(A:W->Bool)(al:Int)(t:A0)(w:W):Option A0:=if A5 A al t && Gf al w then Fy t w else none
theorem PR{t:EF}{al:Int}{A:W->Bool}(n:J6 Tryz.prog TB 120 175 t al A)(tab:A0)(q:Vm tab)(w:W)(y:w.length<=1048576) :
 Pure Tryz.prog TB 134 [EE t,DY tab,eT w] (Iz (Oo A al tab w)):=by
 have i:=Fw n tab q;have g:=OS n w (by omega);have f:=IY (TB:=TB) tab.cols w (by have:=q.cl;omega);by_cases e:(A5 A al tab && Gf al w)=true
 ·have ha:Oo A al tab w=Fy tab w:=by unfold Oo;rw [if_pos e]
  rw [ha];rw [d4] at e;rw [e.1] at i;rw [e.2] at g;have b:aD al tab:=(EW e.1).1;have k:=b.r1;have l:=b.c1;have s:=b.rl;have v:=b.cl;by_cases m:tab.cols.length=20\/w∈tab.cols
  ·have p:Fy tab w=none:=by unfold Fy;rw [if_pos m]
   rw [p];refine eG Tryz.func134 rfl (by kernel_rfl) rfl ?_;intro Z j;(repeat' first|refine sN rfl ?_ |refine tA rfl ?_ |(refine s2 rfl λ_ a=>?_;try (simp only[n9,og] at a;subst a)) |refine sP rfl (i) rfl ?_|refine sP rfl (g) rfl ?_|(refine sC rfl (f) ?_;intro _ a)|(refine Ag rfl ?_;refine gA rfl ?_;first| refine gS (λ_ _=>AF rfl rfl (by rfl) (by rfl)) ?_) |refine s3 rfl ?_ ?_<;>rintro rfl |refine aU rfl ?_ |refine Aa ?_ |refine rE (by kernel_rfl) ?_|(refine aC rfl ?_ ?_<;>rintro⟨⟩)|refine aK ?_|refine aE ?_|refine aB ?_|refine aR ⟨_,rfl,?_⟩)
   all_goals first
    | rfl
    | (exfalso;clear i g f n;simp at *;grind;done)
    | skip
  ·have p:Fy tab w=some ⟨tab.rows,tab.cols++[w]⟩:=by unfold Fy;rw [if_neg m]
   rw [p];have u:decide (w∈tab.cols)=false:=decide_eq_false λh=>m (.inr h);have x:tab.cols.length≠20:=λh=>m (.inl h);rw [u] at f;refine eG Tryz.func134 rfl (by kernel_rfl) rfl ?_;intro Z j;(repeat first|refine sN rfl ?_ |refine tA rfl ?_ |(refine s2 rfl λ_ a=>?_;try (simp only[n9,og] at a;subst a)) |refine sP rfl (i) rfl ?_|refine sP rfl (g) rfl ?_|refine sP rfl (f) rfl ?_ |refine aU rfl ?_ |refine Aa ?_);refine Aj.cond rfl (λhb=>?_) (λhb=>?_)<;>cases hb
   ·exfalso;(simp only[oZ] at *;omega)
   refine aK ?_;(repeat first|refine aU rfl ?_);refine rG (mj [0,1,2,4,5,6,8,9,3,7,10,11,12,13] [3,7,10,12] [0,1,2,4,5,6,8,9]) (by kernel_rfl) ?_;(repeat first|refine tX rfl ?_|(refine Ag rfl ?_;refine gA rfl ?_;first| refine gS (λ_ _=>Sz (by rfl) (by rfl)) ?_|refine gS (λ_ _=>Pc rfl rfl rfl rfl rfl (by rfl) (by rfl) (by rfl) (by rfl) (by rfl)) ?_));(refine pW rfl ?_ rfl (by rfl);refine EA rfl rfl rfl (by intro r c;simp at c;obtain⟨_,_,rfl⟩:=c;rfl) (by rfl) (am rfl) (by simp;omega) (λh=>?_) (λ_=>?_))
   ·exfalso;simp at h;rw [h] at k;simp at k
   (repeat first| (refine Ag rfl ?_;refine gA rfl ?_;first| refine gS (λ_ _=>Sz (by rfl) (by rfl)) ?_|refine gS (λ_ _=>Pc rfl rfl rfl rfl rfl (by rfl) (by rfl) (by rfl) (by rfl) (by rfl)) ?_));(refine pW rfl ?_ rfl (by rfl);refine EA rfl rfl rfl (by intro r c;simp at c;obtain⟨_,_,rfl⟩:=c;rfl) (by rfl) (am rfl) (by simp;omega) (λh=>?_) (λ_=>?_))
   ·exfalso;simp at h;rw [h] at l;simp at l
   (refine pW rfl ?_ rfl (by rfl);refine Al rfl rfl rfl (by first| (simp;done)|(simp;(omega))) rfl (by intro r c;simp at c;subst c;rfl) (by rfl) (am rfl) (by simp;omega) ?_);(repeat first|refine tA rfl ?_|(refine Ag rfl ?_;refine gA rfl ?_;first| refine gS (λ_ _=>AF rfl rfl (by rfl) (by rfl)) ?_) |refine Aa ?_);refine Aj.settle [(6,.o (.ip [BW tab.rows,BW (tab.cols++[w])])),(7,eB true)] ⟨⟨_,rfl,.o (.box rfl (.cons (.full rfl (by simp [d5]) (by simp)) (.cons (.full rfl (by simp [d5]) (by simp)) .nil)))⟩,⟨_,rfl,.o .d⟩,trivial⟩ ?_;refine aR ⟨_,rfl,rfl⟩
 ·have ha:Oo A al tab w=none:=by unfold Oo;rw [if_neg e]
  rw [ha];refine eG Tryz.func134 rfl (by kernel_rfl) rfl ?_;intro Z j;(repeat' first|refine sN rfl ?_ |refine tA rfl ?_ |(refine s2 rfl λ_ a=>?_;try (simp only[n9,og] at a;subst a)) |(refine sC rfl (i) ?_;intro _ a)|(refine sC rfl (g) ?_;intro _ a)|(refine sC rfl (f) ?_;intro _ a)|(refine Ag rfl ?_;refine gA rfl ?_;first| refine gS (λ_ _=>AF rfl rfl (by rfl) (by rfl)) ?_) |refine s3 rfl ?_ ?_<;>rintro rfl |refine aU rfl ?_ |refine Aa ?_ |refine rE (by kernel_rfl) ?_|(refine aC rfl ?_ ?_<;>rintro⟨⟩)|refine aK ?_|refine aE ?_|refine aB ?_|refine aR ⟨_,rfl,?_⟩)
  all_goals first
   | rfl
   | (exfalso;clear i g f n;simp at *;grind;done)
   | skip
end Go.Am
