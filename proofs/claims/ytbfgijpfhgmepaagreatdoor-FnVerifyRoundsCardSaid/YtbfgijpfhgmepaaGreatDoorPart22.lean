/-
  The reference's step from a set of states; its closure: walked.
-/
import Derived.Test.YtbfgijpfhgmepaaGreatDoorPart21
import Derived.Test.YtbfgijpfhgmepaaGreatDoorPart17
import Derived.Test.YtbfgijpfhgmepaaGreatDoorPart19
import Derived.Test.YtbfgijpfhgmepaaGreatDoorPart18
import Derived.Laws.StructEq
import Derived.Test.YtbfgijpfhgmepaaGreatDoorPart10
set_option linter.constructorNameAsVariable false
set_option linter.unusedSectionVars false
set_option linter.unusedSimpArgs false
set_option linter.unusedVariables false
namespace Go.Am
open Go Go.Proofs
set_option maxHeartbeats 1000000
attribute [local irreducible] AX Cb Lex Bh Aj Spec
variable {TB:Bz}
theorem Ws{es:List DW}{l:Int}{m k:Nat}{e:DW}(a:es[k]? = some e):Cn (es.take (k+1)) l m=if e.l=l/\m.testBit e.f.toNat=true then Cn (es.take k) l m ||| 2 ^ e.t.toNat else Cn (es.take k) l m:=by
 unfold Cn;rw [d8,a,pK];rfl
theorem Ue{s:Sys}(a:AU s=true){l:Int}{m k:Nat}:Cn (s.es.take k) l m < 65536:=Jo λj b=>by
 obtain⟨e,c,_,rfl⟩:=DJ.1 b;have hb:=Dc a (nt c);have d:=AN a;unfold Dy at hb;simp only [d4,decide_eq_true_eq] at hb;omega
theorem QL{s:Sys}(o:AU s=true)(l:Int){m:Nat}(F:m < 65536):Pure Tryz.prog TB 214 [Bv s,eI .i64 (m:Nat),eI .i64 l] (eI .i64 (Cn s.es l m:Nat)):=by
 have G:=AN o;refine eG Tryz.func214 rfl (by kernel_rfl) rfl ?_;intro Z d;refine Aj.bound 0 rfl λw=>?_;have B:=w (s.es.map Df) ⟨2,_,rfl,.refl⟩;rw [gt] at B;(repeat first|refine tA rfl ?_ |refine aU rfl ?_ |refine Aa ?_);refine aB ?_;refine aL (α:={k:Nat // k<=s.es.length}) [1,2,3] [] rfl rfl (λ⟨k,hk⟩=>[(7,eI .i64 (Cn (s.es.take k) l m:Nat)),(8,eI .i64 k)]) (λ⟨k,hk⟩=>[]) 0 (λ⟨k,hk⟩=>s.es.length - k) (⟨0,by omega⟩) d rfl (by (simp[cX,zC,d]<;>rfl)) ?_;rintro⟨k,hk⟩;(try dsimp only[cA,cB]);by_cases q:k < s.es.length
 ·obtain⟨e,u⟩:=get_some q
  have r:=get_map (g:=Df) u
  have A:(s.es.map Df)[((k:Nat):Int).toNat]? = some (Df e):=by rw [i7];exact r
  have hb:=Dc o (co u);unfold Dy at hb;simp only [d4,decide_eq_true_eq] at hb;have i:=Ws (l:=l) (m:=m) u;have x:=Ue o (l:=l) (m:=m) (k:=k);have j:=C0 (TB:=TB) (m:Nat) e.f (by omega) (by omega);rw [De (by omega) (by omega)] at j;have v:=T7 (TB:=TB) e.t (by omega) (by omega)
  have z:2 ^ e.t.toNat < 65536:=by
   have:2 ^ e.t.toNat<=2 ^ 15:=nU (by omega) (by omega);omega
  have p:=N5 (a:=Cn (s.es.take k) l m) (b:=2 ^ e.t.toNat) (by omega) (by omega);generalize 2 ^ e.t.toNat=y at *;(repeat first|refine sN rfl ?_ |refine tA rfl ?_ |refine s2 rfl λ_ c=>?_ |refine aU rfl ?_ |refine Aa ?_)
  ((refine aC rfl ?_ ?_<;>rintro⟨⟩);all_goals try(exfalso;(simp only[oZ] at *;omega)))
  refine aK ?_;refine aS (aB ?_)
  (repeat' first|(refine sA rfl ?_ ?_;first|exact tI|omega) |(refine s4 rfl ‹_› rfl ?_ ?_;omega) |refine s2 rfl λ_ c=>?_ |(refine sC rfl (j) ?_;intro _ c)|refine sP rfl (v) rfl ?_ |refine s3 rfl ?_ ?_<;>rintro rfl |refine aU rfl ?_ |refine Aa ?_|(refine aC rfl ?_ ?_<;>rintro⟨⟩));all_goals try contradiction
  ·refine⟨⟨k+1,by omega⟩,by dsimp only;(omega),[],?_⟩
   have n:Cn (s.es.take (k+1)) l m=Cn (s.es.take k) l m ||| y:=by rw [i,if_pos ⟨by simpa using ‹decide (e.l=l)=true›,c⟩]
   simp[cX,zC,d,p,n]
  ·have n:Cn (s.es.take (k+1)) l m=Cn (s.es.take k) l m:=by rw [i,if_neg (by simp [c])]
   refine aK ?_;(repeat first|(refine sA rfl ?_ ?_;first|exact tI|omega) |refine aU rfl ?_ |refine Aa ?_);refine⟨⟨k+1,by omega⟩,by dsimp only;(omega),[],?_⟩;simp[cX,zC,d,n]
  ·have n:Cn (s.es.take (k+1)) l m=Cn (s.es.take k) l m:=by rw [i,if_neg (λh=>by simp [h.1] at c)]
   refine aK ?_;(repeat first|(refine sA rfl ?_ ?_;first|exact tI|omega) |refine aU rfl ?_ |refine Aa ?_);refine⟨⟨k+1,by omega⟩,by dsimp only;(omega),[],?_⟩;simp[cX,zC,d,n]
 ·obtain rfl:k=s.es.length:=by omega
  rw [io];(repeat first|refine sN rfl ?_ |refine tA rfl ?_ |refine s2 rfl λ_ c=>?_ |refine aU rfl ?_ |refine Aa ?_)
  ((refine aC rfl ?_ ?_<;>rintro⟨⟩);all_goals try(exfalso;(simp only[oZ] at *;omega)))
  refine aE ?_;(repeat first|refine tA rfl ?_ |refine aU rfl ?_ |refine Aa ?_);(subst_vars;exact aR ⟨_,rfl,rfl⟩)
abbrev MG(n:Nat)(F:PS):List Int:=(List.range n).map λp=>(F p:Int)
def Cl(t:CK)(G:PS)(i k:Nat):Prop:=∀p,p < t.q.nx.length->∀l∈Cs t,(p < i\/(p=i/\l∈(Cs t).take k))->∀j,(Cn t.s.es l (G p)).testBit j=true->(G (CA t.q p l).toNat).testBit j=true
structure Th (t:CK) (F0 F:PS) (i k:Nat) (G:PS) (b:Bool):Prop where
 ok:CZ t G
 lo:∀p j,(F0 p).testBit j=true->(G p).testBit j=true
 hi:∀p j,(G p).testBit j=true->PN t F0 p j
 le:∀p,F p<=G p
 yes:b=true->NO G < NO F
 no:b=false->G=F/\Cl t F i k
theorem eX{F G:PS}(h:∀p,F p<=G p):NO G<=NO F:=by
 unfold NO
 repeat' apply Nat.add_le_add
 all_goals exact Nat.sub_le_sub_left (h _) _
def WX(G:PS)(x v:Nat):PS:=λp=>if p=x then v else G p
theorem Th.Pw{t:CK}(ht:Bc t=true){F0 F G:PS}{i k:Nat}{b:Bool}(h:Th t F0 F i k G b)(hi:i < t.q.nx.length){l:Int}(hk:(Cs t)[k]? = some l){x:Nat}(u:CA t.q i l=(x:Int))(m:G x ||| Cn t.s.es l (G i)≠G x):Th t F0 F i (k+1) (WX G x (G x ||| Cn t.s.es l (G i))) true:=by
 have r:=co hk;have d:=DH ht r;have w:=Dl (Cw ht) hi d.1 d.2.1;have c:=Jf ht (l:=l) (h.ok.lt i);unfold Dh at c;rw [if_pos d.2.2] at c
 have f:G x ||| Cn t.s.es l (G i) < 65536:=by have:=o4 (n:=16) (h.ok.lt x) c;omega
 have g:∀p,G p<=WX G x (G x ||| Cn t.s.es l (G i)) p:=λp=>by
  unfold WX;split
  ·rename_i e;subst e;exact Nat.left_le_or
  ·exact jp _
 refine⟨⟨λp=>?_,λp v=>?_⟩,λp j a=>?_,λp j a=>?_,λp=>li (h.le p) (g p),λ_=>?_,λh=>by cases h⟩
 ·unfold WX
  split
  ·exact f
  ·exact h.ok.lt p
 ·unfold WX
  rw [if_neg (by omega)];exact h.ok.z p v
 ·have:=h.lo p j a
  unfold WX;split
  ·rename_i e;subst e;rw [oK,this];rfl
  ·exact this
 ·unfold WX at a
  split at a
  ·rename_i e
   subst e;rw [oK,nq] at a
   rcases a with a|a
   ·exact h.hi p j a
   ·obtain⟨e,o,⟨B,A⟩,y⟩:=DJ.1 a
    subst B;have:=PN.step (h.hi i _ A) o r rfl;rw [u,y] at this
    simpa using this
  ·exact h.hi p j a
 ·have H:=eX h.le
  refine lw (XL h.ok.lt (λp=>?_) g λo=>m ?_) H
  ·unfold WX
   split
   ·exact f
   ·exact h.ok.lt p
  ·have I:=AH (Cw ht)
   have:=Sw o x (by omega)
   simpa [WX] using this
theorem Th.kP{t:CK}(ht:Bc t=true){F0 F G:PS}{i k:Nat}{b:Bool}(h:Th t F0 F i k G b){l:Int}(hk:(Cs t)[k]? = some l){x:Nat}(m:CA t.q i l=(x:Int))(n:G x ||| Cn t.s.es l (G i)=G x):Th t F0 F i (k+1) G b:=
 ⟨h.ok, h.lo,h.hi,h.le,h.yes,λhb=>by
  obtain⟨rfl,g⟩:=h.no hb;refine⟨rfl,λp f l' c d j e=>?_⟩
  rcases d with a|⟨rfl,a⟩
  ·exact g p f l' c (.inl a) j e
  ·rw [d8,hk] at a
   rcases em.1 a with a|a
   ·exact g p f l' c (.inr ⟨rfl,a⟩) j e
   ·simp at a
    subst a
    rw [m,i7,<-n,oK,e,pQ]⟩
theorem Th.row{t:CK}{F0 F G:PS}{i:Nat}{b:Bool}(h:Th t F0 F i (Cs t).length G b):Th t F0 F (i+1) 0 G b:=
 ⟨h.ok,h.lo,h.hi,h.le,h.yes,λhb=>by
  obtain⟨rfl,f⟩:=h.no hb;refine⟨rfl,λp d l' a c j e=>?_⟩
  rcases c with k|⟨rfl,k⟩
  ·rcases nG p i with g|g
   ·exact f p d l' a (.inl g) j e
   ·exact f p d l' a (.inr ⟨by omega,by rw [io];exact a⟩) j e
  ·simp at k⟩
theorem Th.done{t:CK}(ht:Bc t=true){F0 F G:PS}(e:CZ t F0)(h:Th t F0 F t.q.nx.length 0 G false):G=RP t F0:=by
 obtain⟨rfl,d⟩:=h.no rfl;exact bf ht e h.ok.z h.lo h.hi λp l j a b c=>d p a l b (.inl a) j c
theorem fO{a b:Int}(ha:A7 a=true)(hb:A7 b=true):a - FW .i64 a b=Ha .i64 a b/\0<=FW .i64 a b/\FW .i64 a b<=63:=by
 have key:((List.range 64).all λx=>(List.range 64).all λy=>decide (((x:Nat):Int) - FW .i64 (x:Nat) (y:Nat)=Ha .i64 (x:Nat) (y:Nat)/\0<=FW .i64 (x:Nat) (y:Nat)/\FW .i64 (x:Nat) (y:Nat)<=63))=true:=by kernel_rfl
 unfold A7 at ha hb;simp only [decide_eq_true_eq] at ha hb;have d:=f9.1 key a.toNat (nk.2 (by omega));have c:=f9.1 d b.toNat (nk.2 (by omega));rw [pX ha.1,pX hb.1] at c;exact of_decide_eq_true c
abbrev k9(r:DW×Bool):E:=.t [(true,(A9 r.1)),(false,[.d (bD r.2)])]
theorem VU(a:W)(u:a.length<=1000000):Spec Tryz.prog TB 145 [] 0 [eT a] (Eg (λ_:DW×Bool=>True) k9):=by
 refine eR Tryz.func145 rfl (by kernel_rfl) rfl ?_;intro Z b;(repeat first|refine tA rfl ?_ |refine aU rfl ?_ |refine Aa ?_);refine aB ?_;refine aL (α:={k:Nat // k<=a.length}) [0] [] rfl rfl (λs=>[(2,.o (.ptr 0 3 0 0)),(4,eI .i64 s.1)]) (λs=>[(0,.cells 126 3 [A9 ⟨0,0,0⟩])]) 1 (λs=>a.length - s.1) (⟨0,by omega⟩) b rfl (by (simp[cX,zC,b,cN])) ?_;rintro⟨k,hk⟩;(try dsimp only[cA,cB]);by_cases p:k < a.length
 ·obtain⟨c,r⟩:=get_some (l:=a) (k:=(k:Int).toNat) (by omega)
  have q:=c.toNat_lt;have j:=Ih (TB:=TB) a k c r;(repeat first|refine tA rfl ?_ |refine s2 rfl λ_ d=>?_ |refine aU rfl ?_ |refine Aa ?_)
  ((refine aC rfl ?_ ?_<;>rintro⟨⟩);all_goals try(exfalso;(simp only[oZ] at *;omega)))
  refine aK ?_;refine aS (aB ?_)
  (repeat' first|refine tA rfl ?_ |(refine s4 rfl ‹_› rfl ?_ ?_;omega) |refine s2 rfl λ_ d=>?_ |refine s3 rfl ?_ ?_<;>rintro rfl |refine aU rfl ?_ |refine Aa ?_|(refine aC rfl ?_ ?_<;>rintro⟨⟩));all_goals try contradiction
  all_goals first| (exfalso;omega;done)|skip
  ·(repeat first| (refine Ag rfl ?_;refine gA rfl ?_;first| refine gS (λ_ _=>Ys rfl rfl (by omega) (by omega)) ?_))
   (refine pW rfl ?_ rfl (by rfl);refine Ai [] rfl rfl (Jr (TB:=TB) (a.take (k:Int).toNat) (by simp;omega)) ⟨rfl,by decide,by decide⟩ rfl trivial ?_;rintro n g h ⟨⟨f,t⟩,_,rfl,rfl,rfl⟩ _);(repeat first|(refine sA rfl ?_ ?_;first|exact tI|omega)|(refine Ag rfl ?_;refine gA rfl ?_;first| refine gS (λ_ _=>Ej rfl rfl (by omega) (by omega)) ?_) |refine aU rfl ?_ |refine Aa ?_);(refine pW rfl ?_ rfl (by rfl);refine Ai [] rfl rfl (Jr (TB:=TB) (a.drop ((k:Int)+1).toNat) (by simp;omega)) ⟨rfl,by decide,by decide⟩ rfl trivial ?_;rintro n g h ⟨⟨e,m⟩,_,rfl,rfl,rfl⟩ _);(repeat' first|refine tA rfl ?_ |refine sP rfl (j) rfl ?_|(refine Ag rfl ?_;refine gA rfl ?_;first| refine gS (λ_ _=>AF rfl rfl (by rfl) (by rfl)) ?_) |refine s3 rfl ?_ ?_<;>rintro rfl |refine aU rfl ?_ |refine Aa ?_|(refine aC rfl ?_ ?_<;>rintro⟨⟩))
   all_goals first
    | exact aR ⟨_,rfl,[],k9 (⟨f,(c.toNat:Int) - 97,e⟩,m),[],⟨λi hi=>absurd hi (lc i),lm⟩,rfl,trivial,(⟨f,(c.toNat:Int) - 97,e⟩,m),trivial,rfl,rfl,rfl⟩
    | exact aR ⟨_,rfl,[],k9 (⟨f,(c.toNat:Int) - 97,e⟩,false),[],⟨λi hi=>absurd hi (lc i),lm⟩,rfl,trivial,(⟨f,(c.toNat:Int) - 97,e⟩,false),trivial,rfl,rfl,rfl⟩
  all_goals
   refine aK ?_;(repeat first|(refine sA rfl ?_ ?_;first|exact tI|omega) |refine aU rfl ?_ |refine Aa ?_);refine⟨⟨k+1,by omega⟩,by dsimp only;(omega),[0],?_⟩;(simp[cX,zC,b,cN]<;>rfl)
 ·(repeat first|refine tA rfl ?_ |refine s2 rfl λ_ d=>?_ |refine aU rfl ?_ |refine Aa ?_)
  ((refine aC rfl ?_ ?_<;>rintro⟨⟩);all_goals try(exfalso;(simp only[oZ] at *;omega)))
  refine aE ?_;(repeat first|refine tA rfl ?_|(refine Ag rfl ?_;refine gA rfl ?_;first| refine gS (λ_ _=>AF rfl rfl (by rfl) (by rfl)) ?_) |refine aU rfl ?_ |refine Aa ?_);exact aR ⟨_,rfl,[],k9 (⟨0,0,0⟩,false),[],⟨λi hi=>absurd hi (lc i),lm⟩,rfl,trivial,(⟨0,0,0⟩,false),trivial,rfl,rfl,rfl⟩
theorem Ix(y:Sys)(hb:y.es.length<=100000):Spec Tryz.prog TB 146 [] 0 [Bv y] (Eg (λr:W=>r.length<=1000000) eT):=by
 have A:=BZ (TB:=TB) y;refine eR Tryz.func146 rfl (by kernel_rfl) rfl ?_;intro Z d;(repeat first|refine tA rfl ?_ |refine s2 rfl λ_ a=>?_ |(refine sC rfl (A) ?_;intro _ a) |refine aU rfl ?_ |refine Aa ?_);(refine aC rfl ?_ ?_<;>rintro⟨⟩)
 ·(repeat first|refine tA rfl ?_ |refine aU rfl ?_ |refine Aa ?_)
  exact aR ⟨_,rfl,[],eT [],[],⟨λi hi=>absurd hi (lc i),lm⟩,rfl,trivial,[],nR _,rfl,rfl,rfl⟩
 have h:AU y=true:=by (simp at a;subst a;assumption)
 have K:=AN h;refine aK ?_;(repeat first|refine aU rfl ?_);refine rG ⟨FV [(2,1),(6,1)],ak [0,1,4,5,2,3,6,7,8]⟩ (by kernel_rfl) ?_;(repeat first|refine tA rfl ?_);(refine pW rfl ?_ rfl (by rfl);refine Ai [] rfl rfl (EG (TB:=TB) y.al) ⟨rfl,by decide,by decide⟩ rfl trivial ?_;rintro j b c ⟨u,x,rfl,rfl,rfl⟩ _);(repeat first|(refine sA rfl ?_ ?_;simp only[oZ] at *;omega));(refine pW rfl ?_ rfl (by rfl);refine Ai [] rfl rfl (HD (TB:=TB) y.st (by omega)) ⟨rfl,by decide,by decide⟩ rfl trivial ?_;rintro j b c ⟨q,v,rfl,rfl,rfl⟩ _);(repeat first|(refine sA rfl ?_ ?_;first|exact tI|simp only[oZ] at *;omega) |refine aU rfl ?_ |refine Aa ?_);refine aB ?_;refine aL (α:={z:Nat×W // z.1<=y.es.length/\z.2.length<=10+9*z.1}) [1] [] rfl rfl (λs=>[(3,eT s.1.2),(4,eI .i64 s.1.1)]) (λs=>[]) 0 (λs=>y.es.length - s.1.1) (⟨⟨0,u++[32]++q⟩,by simp;omega⟩) d rfl (by (simp[cX,zC,d])) ?_;rintro⟨⟨k,w⟩,hk,o⟩;(try dsimp only[cA,cB]);have hk:k<=y.es.length:=hk;have o:w.length<=10+9*k:=o;by_cases m:k < y.es.length
 ·obtain⟨e,p⟩:=get_some m
  have n:=get_map (g:=Df) p
  have F:(y.es.map Df)[((k:Nat):Int).toNat]? = some (Df e):=by rw [i7];exact n
  have hb:=Dc h (co p);unfold Dy at hb;simp only [d4,decide_eq_true_eq] at hb;(repeat first|refine sN rfl ?_ |refine tA rfl ?_ |refine s2 rfl λ_ a=>?_ |refine aU rfl ?_ |refine Aa ?_)
  ((refine aC rfl ?_ ?_<;>rintro⟨⟩);all_goals try(exfalso;(simp only[oZ] at *;omega)))
  refine aK ?_;refine aS (aB ?_);(repeat first|refine tA rfl ?_ |(refine s4 rfl ‹_› rfl ?_ ?_;omega) |refine aU rfl ?_ |refine Aa ?_);refine rG ⟨FV [(3,10),(7,10),(11,10),(4,1001),(12,1001)],ak [0,1,2,3,6,7,10,11,4,5,8,9,12,13,14]⟩ (by kernel_rfl) ?_;(repeat first|(refine sA rfl ?_ ?_;first|exact tI|simp only[oZ] at *;omega));(refine Ag rfl ?_;refine C3 ?_ rfl ⟨rfl,rfl⟩;refine Ai [] rfl rfl (HD (TB:=TB) e.f (by omega)) ⟨rfl,by decide,by decide⟩ rfl trivial ?_;rintro j b c ⟨J,H,rfl,rfl,rfl⟩ _;refine⟨E9 0 rfl rfl,?_⟩);(repeat first|(refine sA rfl ?_ ?_;simp only[oZ] at *;omega) |refine sP rfl (HE e.l (by omega) (by omega)) rfl ?_);(refine Ag rfl ?_;refine C3 ?_ rfl ⟨rfl,rfl⟩;refine Ai [] rfl rfl (HD (TB:=TB) e.t (by omega)) ⟨rfl,by decide,by decide⟩ rfl trivial ?_;rintro j b c ⟨I,G,rfl,rfl,rfl⟩ _;refine⟨E9 0 rfl rfl,?_⟩);(repeat first|(refine sA rfl ?_ ?_;first|exact tI|omega|simp only[oZ] at *;omega) |refine aU rfl ?_ |refine Aa ?_);refine⟨⟨⟨k+1,w++[32]++J++[UInt8.ofNat (97+e.l.toNat)]++I⟩,by dsimp only;omega,by simp;omega⟩,by dsimp only;(omega),[],?_⟩;(simp[cX,zC,d,cN]<;>rfl)
 ·have B:k=y.es.length:=by omega
  (repeat first|refine sN rfl ?_ |refine tA rfl ?_ |refine s2 rfl λ_ a=>?_ |refine aU rfl ?_ |refine Aa ?_)
  ((refine aC rfl ?_ ?_<;>rintro⟨⟩);all_goals try(exfalso;(simp only[oZ] at *;omega)))
  refine aE ?_;(repeat first|refine tA rfl ?_ |refine aU rfl ?_ |refine Aa ?_);exact aR ⟨_,rfl,[],eT w,[],⟨λi hi=>absurd hi (lc i),lm⟩,rfl,trivial,w,by show w.length<=_;omega,rfl,rfl,rfl⟩
abbrev gk(r:Sys×Bool):E:=.t [(true,[.d (iD r.1.al),.d (iD r.1.st),.d (Eo r.1.es)]),(false,[.d (bD r.2)])]
def Nc(al n:Int):List DW->Ab
 | []=>[(1,.cells 25 3 [[.d (iD al),.d (iD n),.d (.v (.slice none 0 0))]])]
 | e::l=>[(1,.cells 25 3 [[.d (iD al),.d (iD n),.arr 2 3 0 (l.length+1)]]),(2,.cells 126 3 ((e::l).map A9))]
theorem Gx(f:W)(Y:f.length<=10000):Spec Tryz.prog TB 94 [] 0 [eT f] (Eg (λr:Sys×Bool=>r.1.es.length<=f.length+1) gk):=by
  refine eR Tryz.func94 rfl (by kernel_rfl) rfl ?_;intro Z e;(repeat first|refine tA rfl ?_ |refine aU rfl ?_ |refine Aa ?_);(refine pW rfl ?_ rfl (by rfl);refine Ai [] rfl rfl (Mx (TB:=TB) f (by omega) 32) ⟨rfl,by decide,by decide⟩ rfl trivial ?_;rintro m b c ⟨ps,⟨R,Q,q⟩,rfl,rfl,rfl⟩ _);(repeat first|refine sN rfl ?_ |refine tA rfl ?_ |refine s2 rfl λ_ a=>?_ |refine aU rfl ?_ |refine Aa ?_);by_cases S:ps.length < 2
  · ((refine aC rfl ?_ ?_<;>rintro⟨⟩);all_goals try(exfalso;(simp only[oZ] at *;omega)))
    (repeat first|refine tA rfl ?_|(refine Ag rfl ?_;refine gA rfl ?_;first| refine gS (λ_ _=>AF rfl rfl (by rfl) (by rfl)) ?_) |refine aU rfl ?_ |refine Aa ?_);exact aR ⟨_,rfl,[],gk (⟨0,0,[]⟩,false),[],⟨λi hi=>absurd hi (lc i),lm⟩,rfl,trivial,(⟨0,0,[]⟩,false),nR _,rfl,rfl,rfl⟩
  ((refine aC rfl ?_ ?_<;>rintro⟨⟩);all_goals try(exfalso;(simp only[oZ] at *;omega)))
  refine aK ?_;obtain⟨K,X⟩:=get_some (l:=ps) (k:=(0:Int).toNat) (by simp;omega);have V:=get_map (g:=CN) X;obtain⟨y,F⟩:=get_some (l:=ps) (k:=(1:Int).toNat) (by simp;omega);have U:=get_map (g:=CN) F;have B:=q y (co F);(repeat first|refine tA rfl ?_ |(refine s4 rfl ‹_› rfl ?_ ?_;omega) |refine aU rfl ?_);(refine pW rfl ?_ rfl (by rfl);refine Ai [] rfl rfl (Hr (TB:=TB) K) ⟨rfl,by decide,by decide⟩ rfl trivial ?_;rintro m b c ⟨⟨n,ok⟩,_,rfl,rfl,rfl⟩ _);(repeat first|refine tA rfl ?_ |(refine s4 rfl ‹_› rfl ?_ ?_;omega) |refine aU rfl ?_ |refine Aa ?_);(refine pW rfl ?_ rfl (by rfl);refine Ai [] rfl rfl (Jr (TB:=TB) y (by omega)) ⟨rfl,by decide,by decide⟩ rfl trivial ?_;rintro m b c ⟨⟨st,M⟩,_,rfl,rfl,rfl⟩ _);(repeat first|refine tA rfl ?_ |refine s2 rfl λ_ a=>?_ |refine s3 rfl ?_ ?_<;>rintro rfl |refine aU rfl ?_ |refine Aa ?_)
  (repeat' first|refine tA rfl ?_ |refine s2 rfl λ_ a=>?_ |refine aU rfl ?_ |refine Aa ?_|(refine aC rfl ?_ ?_<;>rintro⟨⟩));all_goals try contradiction
  all_goals first
    | ((repeat first|refine tA rfl ?_|(refine Ag rfl ?_;refine gA rfl ?_;first| refine gS (λ_ _=>AF rfl rfl (by rfl) (by rfl)) ?_) |refine Aa ?_)
       exact aR ⟨_,rfl,[],gk (⟨0,0,[]⟩,false),[],⟨λi hi=>absurd hi (lc i),lm⟩,rfl,trivial,(⟨0,0,[]⟩,false),nR _,rfl,rfl,rfl⟩
       done)
    | skip
  refine aK ?_;(repeat first|refine tA rfl ?_|(refine Ag rfl ?_;refine gA rfl ?_;first| refine gS (λ_ _=>Pa rfl rfl (by rfl) (by rfl)) ?_) |refine aU rfl ?_ |refine Aa ?_);refine aB ?_;refine aL (α:={z:Nat×List DW // (2<=z.1/\z.1<=ps.length)/\z.2.length+2=z.1}) [0,4] [] rfl rfl (λs=>[(2,.o (.ptr 0 3 0 0)),(9,.o (.ptr 1 3 0 0)),(10,eI .i64 s.1.1)]) (λs=>((0,.cells 25 3 [[.d (iD 0),.d (iD 0),.d (.l [])]])::Nc n st s.1.2)) 3 (λs=>ps.length - s.1.1) (⟨⟨2,[]⟩,by simp;omega⟩) e rfl (by (simp[cX,zC,e,Nc,cN])) ?_;rintro⟨⟨k,l⟩,hk,u⟩;(try dsimp only[cA,cB]);have hk:2<=k/\k<=ps.length:=hk;have u:l.length+2=k:=u;(repeat first|refine sN rfl ?_ |refine tA rfl ?_ |refine s2 rfl λ_ a=>?_ |refine aU rfl ?_ |refine Aa ?_)
  ((refine aC rfl ?_ ?_<;>rintro⟨⟩);all_goals try (simp at a;done))
  · have x:k < ps.length:=by (simp only[oZ] at *;omega)
    obtain⟨w,A⟩:=get_some (l:=ps) (k:=k) x;have P:=get_map (g:=CN) A;have N:=q w (co A);refine aK ?_;refine aS (aB ?_);(repeat first|refine tA rfl ?_ |(refine s4 rfl ‹_› rfl ?_ ?_;omega) |refine aU rfl ?_);(refine pW rfl ?_ rfl (by rfl);refine Ai [] rfl rfl (VU (TB:=TB) w (by omega)) ⟨rfl,by decide,by decide⟩ rfl trivial ?_;rintro m b c ⟨⟨⟨I,H,G⟩,L⟩,_,rfl,rfl,rfl⟩ _);(repeat first|refine tA rfl ?_ |refine s2 rfl λ_ a=>?_ |refine aU rfl ?_ |refine Aa ?_);(refine aC rfl ?_ ?_<;>rintro⟨⟩)
    · (repeat first|refine tA rfl ?_|(refine Ag rfl ?_;refine gA rfl ?_;first| refine gS (λ_ _=>AF rfl rfl (by rfl) (by rfl)) ?_) |refine aU rfl ?_ |refine Aa ?_)
      exact aR ⟨_,rfl,[],gk (⟨0,0,[]⟩,false),[],⟨λi hi=>absurd hi (lc i),lm⟩,rfl,trivial,(⟨0,0,[]⟩,false),nR _,rfl,rfl,rfl⟩
    refine aK ?_
    cases l with
    | nil=>
      (repeat first|refine tA rfl ?_ |refine aU rfl ?_);(refine pW rfl ?_ rfl (by rfl);refine XQ 61 rfl ?_;refine EA rfl rfl rfl (by intro r p;simp at p;subst p;rfl) (by rfl) (am rfl) (by simp) (λh=>?_) (λ_=>?_))
      · exact absurd h (by simp)
      (repeat first|(refine sA rfl ?_ ?_;first|exact tI|omega) |refine aU rfl ?_ |refine Aa ?_);refine⟨⟨⟨k+1,[⟨I,H,G⟩]⟩,⟨by dsimp only;omega,by dsimp only;omega⟩,by simp at u;simp;omega⟩,by dsimp only;(omega),[0,1,4],?_⟩;(simp[cX,zC,e,cN,Nc,Ae,eC]<;>rfl)
    | cons j l=>
      (repeat first|refine tA rfl ?_ |refine aU rfl ?_);(refine pW rfl ?_ rfl (by rfl);refine Al rfl rfl rfl (by first| (simp;done)|(simp;(omega))) rfl (by intro r p;simp at p;subst p;rfl) (by rfl) (am rfl) (by simp at u |-;omega) ?_);(repeat first|(refine sA rfl ?_ ?_;first|exact tI|omega) |refine aU rfl ?_ |refine Aa ?_);refine⟨⟨⟨k+1,j::(l++[⟨I,H,G⟩])⟩,⟨by dsimp only;omega,by dsimp only;omega⟩,by simp at u |-;omega⟩,by dsimp only;(omega),[0,1,4],?_⟩;(simp[cX,zC,e,cN,Nc,Ae,eC]<;>rfl)
  refine aE ?_
  have T:k=ps.length:=by (simp only[oZ] at *;omega)
  have t:l.length<=f.length+1:=by omega
  cases l with
  | nil=>
    refine Aj.AE [1] [(0,eT f),(2,.o (.ptr 0 3 0 0)),(9,.o (.ip (AI ⟨n,st,[]⟩)))] ⟨⟨_,rfl,.inl rfl⟩,⟨_,rfl,.inl rfl⟩,⟨_,rfl,.inr (.o (.box rfl (.cons .d (.cons .d (.cons .nl .nil)))))⟩,trivial⟩ ?_;(repeat first|refine tA rfl ?_ |refine aU rfl ?_);(refine pW rfl ?_ rfl (by rfl);refine Ai [] rfl rfl (Ix (TB:=TB) ⟨n,st,[]⟩ (by simp)) ⟨rfl,by decide,by decide⟩ rfl trivial ?_;rintro m b c ⟨J,v,rfl,rfl,rfl⟩ _);(repeat first|refine tA rfl ?_ |refine s2 rfl λ_ a=>?_ |refine Aa ?_);(refine aC rfl ?_ ?_<;>rintro⟨⟩)
    · (repeat first|refine tA rfl ?_|(refine Ag rfl ?_;refine gA rfl ?_;first| refine gS (λ_ _=>AF rfl rfl (by rfl) (by rfl)) ?_) |refine aU rfl ?_ |refine Aa ?_)
      exact aR ⟨_,rfl,[],gk (⟨0,0,[]⟩,false),[],⟨λi hi=>absurd hi (lc i),lm⟩,rfl,trivial,(⟨0,0,[]⟩,false),nR _,rfl,rfl,rfl⟩
    refine aK ?_;(repeat first|refine tA rfl ?_ |refine aU rfl ?_ |refine Aa ?_);exact aR ⟨_,rfl,[],gk (⟨n,st,[]⟩,true),[],⟨λi hi=>absurd hi (lc i),lm⟩,rfl,trivial,(⟨n,st,[]⟩,true),nR _,rfl,rfl,rfl⟩
  | cons j l=>
    refine Aj.AE [1,2] [(0,eT f),(2,.o (.ptr 0 3 0 0)),(9,.o (.ip (AI ⟨n,st,j::l⟩)))] ⟨⟨_,rfl,.inl rfl⟩,⟨_,rfl,.inl rfl⟩,⟨_,rfl,.inr (.o (.box rfl (.cons .d (.cons .d (.cons (.full rfl (by simp [d5]) (by simp)) .nil)))))⟩,trivial⟩ ?_;(repeat first|refine tA rfl ?_ |refine aU rfl ?_);(refine pW rfl ?_ rfl (by rfl);refine Ai [] rfl rfl (Ix (TB:=TB) ⟨n,st,j::l⟩ (by simp at t |-;omega)) ⟨rfl,by decide,by decide⟩ rfl trivial ?_;rintro m b c ⟨J,v,rfl,rfl,rfl⟩ _);(repeat first|refine tA rfl ?_ |refine s2 rfl λ_ a=>?_ |refine Aa ?_);(refine aC rfl ?_ ?_<;>rintro⟨⟩)
    · (repeat first|refine tA rfl ?_|(refine Ag rfl ?_;refine gA rfl ?_;first| refine gS (λ_ _=>AF rfl rfl (by rfl) (by rfl)) ?_) |refine aU rfl ?_ |refine Aa ?_)
      exact aR ⟨_,rfl,[],gk (⟨0,0,[]⟩,false),[],⟨λi hi=>absurd hi (lc i),lm⟩,rfl,trivial,(⟨0,0,[]⟩,false),nR _,rfl,rfl,rfl⟩
    refine aK ?_;(repeat first|refine tA rfl ?_ |refine aU rfl ?_ |refine Aa ?_);exact aR ⟨_,rfl,[],gk (⟨n,st,j::l⟩,true),[],⟨λi hi=>absurd hi (lc i),lm⟩,rfl,trivial,(⟨n,st,j::l⟩,true),t,rfl,rfl,rfl⟩
def J0(m n:Nat):Nat:=(List.range n).countP (m.testBit ·)
theorem Pd(m n:Nat):J0 m (n+1)=if m.testBit n then J0 m n+1 else J0 m n:=by
 unfold J0;rw [oU,List.countP_append];cases h:m.testBit n<;>simp [h]
theorem cW(m n:Nat):J0 m n<=n:=by
 unfold J0;have:=List.countP_le_length (p:=(m.testBit ·)) (l:=List.range n);rwa [List.length_range] at this
theorem My(m:Nat)(e:m < 2 ^ 62)(n:Nat)(h:n<=60):Pure Tryz.prog TB 169 [eI .i64 (m:Nat),eI .i64 (n:Nat)] (eI .i64 (J0 m n:Nat)):=by
 refine eG Tryz.func169 rfl (by kernel_rfl) rfl ?_;intro Z a;(repeat first|refine tA rfl ?_ |refine aU rfl ?_ |refine Aa ?_);refine aB ?_;refine aL (α:={k:Nat // k<=n}) [0,1] [] rfl rfl (λ⟨k,hk⟩=>[(5,eI .i64 (J0 m k:Nat)),(6,eI .i64 k)]) (λ⟨k,hk⟩=>[]) 0 (λ⟨k,hk⟩=>n - k) (⟨0,by omega⟩) a rfl (by (simp[cX,zC,a]<;>rfl)) ?_;rintro⟨k,hk⟩;(try dsimp only[cA,cB]);by_cases f:k < n
 ·have g:=cW m k
  have c:=Pd m k;have d:=C0 (TB:=TB) (m:Nat) (k:Int) (by omega) (by omega);rw [De e (by omega)] at d;(repeat first|refine tA rfl ?_ |refine s2 rfl λ_ b=>?_ |refine aU rfl ?_ |refine Aa ?_)
  ((refine aC rfl ?_ ?_<;>rintro⟨⟩);all_goals try(exfalso;(simp only[oZ] at *;omega)))
  refine aK ?_;refine aS (aB ?_);(repeat first|refine tA rfl ?_ |(refine sC rfl (d) ?_;intro _ b) |refine aU rfl ?_ |refine Aa ?_);(refine aC rfl ?_ ?_<;>rintro⟨⟩)
  ·have hb:m.testBit k=true:=by simpa using b
   rw [if_pos hb] at c;(repeat first|(refine sA rfl ?_ ?_;first|exact tI|omega) |refine aU rfl ?_ |refine Aa ?_);refine⟨⟨k+1,by omega⟩,by dsimp only;(omega),[],?_⟩;simp[cX,zC,a,c]
  ·have hb:m.testBit k=false:=by simpa using b
   rw [if_neg (by simp [hb])] at c;refine aK ?_;(repeat first|(refine sA rfl ?_ ?_;first|exact tI|omega) |refine aU rfl ?_ |refine Aa ?_);refine⟨⟨k+1,by omega⟩,by dsimp only;(omega),[],?_⟩;simp[cX,zC,a,c]
 ·obtain rfl:k=n:=by omega
  (repeat first|refine tA rfl ?_ |refine s2 rfl λ_ b=>?_ |refine aU rfl ?_ |refine Aa ?_)
  ((refine aC rfl ?_ ?_<;>rintro⟨⟩);all_goals try(exfalso;(simp only[oZ] at *;omega)))
  refine aE ?_;(repeat first|refine tA rfl ?_ |refine aU rfl ?_ |refine Aa ?_);(subst_vars;exact aR ⟨_,rfl,rfl⟩)
def eM(al n:Int)(l:List DW):Ab:=(0,.cells 25 3 [[.d (iD 0),.d (iD 0),.d (.l [])]])::Nc al n l
theorem VR(n:Int)(d:0<=n)(g:n<=16):Pure Tryz.prog TB 117 [eI .i64 n] (eI .i64 ((2 ^ n.toNat:Nat):Int)):=by
 have a:IntKind.i64.wrap (1*2 ^ (min n.toNat IntKind.i64.bits))=((2 ^ n.toNat:Nat):Int):=by
  have e:min n.toNat IntKind.i64.bits=n.toNat:=by
   have:IntKind.i64.bits=64:=rfl;omega
  rw [e,qA];have f:2 ^ n.toNat < 2 ^ 17:=pk (by omega) (by omega)
  have c:(2:Int) ^ n.toNat=((2 ^ n.toNat:Nat):Int):=by push_cast;rfl
  rw [c];generalize 2 ^ n.toNat=p at *;exact IntWalk.i64_in _ (by omega)
 refine eN Tryz.func117 rfl (by kernel_rfl) rfl ?_;intro Z b;(repeat' first|(refine sA rfl ?_ ?_;first|exact tI|omega)|(refine Ag rfl ?_;refine gA rfl ?_;first| refine gS (λ_ _=>cV rfl rfl d a) ?_) |refine aU rfl ?_ |refine Aa ?_|(refine aC rfl ?_ ?_<;>rintro⟨⟩)|refine aK ?_|refine aE ?_|refine aB ?_|refine aR ⟨_,rfl,?_⟩);rfl
abbrev mh(r:CK×Bool):E:=.t [(true,(LK r.1).map .d),(false,[.d (bD r.2)])]
theorem Fh(b:List UInt8)(hb:b.length<=2000)(p:Int)(P:0<=p/\p < 800000000)(y:Sys)(N:y.es.length<=100000):Spec Tryz.prog TB 98 [(0,Bn b p)] 1 [.o (.ptr 0 2 0 0),Bv y] (KK b p 5 (λs=>s.es.length<=y.es.length+1)):=by
 obtain⟨k,M,L,hk⟩:=Bm (TB:=TB) b hb p y.es.length (by omega);obtain⟨c,S,Q,K⟩:=Bm (TB:=TB) b hb (p+1) 30 (by omega);refine eR Tryz.func98 rfl (by kernel_rfl) rfl ?_;intro Z a;(repeat first|refine tA rfl ?_ |refine aU rfl ?_ |refine Aa ?_);refine R.Qj [(0,2),(1,2),(2,2),(3,2),(5,2),(6,2),(9,3),(4,1),(7,1),(8,0),(10,5)] mixed (by kernel_rfl) rfl (by kernel_rfl) ?_;(repeat ((refine R.Ag rfl ?_;first|(refine R.yQ (md:=false) rfl rfl rfl ?_ ?_;exact tI) |refine R.yP rfl rfl rfl rfl ?_ )));(refine R.Ag rfl ?_;refine R.JQ (λ_=>?_) rfl rfl;refine Bf rfl rfl rfl rfl (by simp) (by rfl) (by rfl) (by rfl) (by rfl) ?_);(refine R.Ag rfl ?_;refine R.JQ (λ_=>?_) rfl rfl;refine Al rfl rfl rfl (by simp) rfl (by intro r u;simp only [n7,d9] at u;obtain⟨_,_,rfl⟩:=u;rfl) (by rfl) (am rfl) (by simp;omega) ?_);(repeat ((refine R.Ag rfl ?_;first|refine R.yA rfl rfl rfl rfl ?_|refine R.CB (λ_ _ _=>AF rfl rfl (by rfl) (by rfl)) rfl rfl ?_ )));refine R.Qe ?_;refine Aj.Ay [0] [] rfl rfl [(4,.o (.ptr 1 3 0 0)),(5,.o (.ptr 3 3 0 0))] [(0,Bn b p),(1,.cells 25 3 [[.d (iD 0),.d (iD 0),.d (.l [])]]),(2,.cells 126 3 (y.es.map A9)),(3,.cells 25 3 [[.d (iD y.al),.d (iD y.st),.arr 2 3 0 y.es.length]])] [0,1,3,4] (rl a rfl) (by (simp[cX,zC,a,cN,Ae,BN,eC])) ?_;(try dsimp only[cA,cB]);(repeat first|refine tA rfl ?_ |refine aU rfl ?_ |refine Aa ?_);(refine pW rfl ?_ rfl (by rfl);refine Ai [0] rfl rfl (hk) ⟨rfl,by decide,by decide⟩ rfl (by simp[cX,zC,a,cN]) ?_;rintro t j m ⟨rfl,rfl,rfl⟩ _);(repeat first|refine tA rfl ?_ |refine aU rfl ?_ |refine Aa ?_);(refine pW rfl ?_ rfl (by rfl);refine Ai [0] rfl rfl (K) ⟨rfl,by decide,by decide⟩ rfl (by simp[cX,zC,a,cN]) ?_;rintro t j m ⟨rfl,rfl,rfl⟩ _);refine Aa ?_;refine Aj.Ay [0] [] rfl rfl [(4,.o (.ptr 1 3 0 0)),(5,.o (.ptr 3 3 0 0)),(6,eI .i64 y.es.length),(7,eI .i64 k),(24,eI .i64 c)] [(0,Bn b (p+1+1)),(1,.cells 25 3 [[.d (iD 0),.d (iD 0),.d (.l [])]]),(2,.cells 126 3 (y.es.map A9)),(3,.cells 25 3 [[.d (iD y.al),.d (iD y.st),.arr 2 3 0 y.es.length]])] [0,1,2,3] (rl a rfl) (by (simp[cX,zC,a,cN])) ?_;(try dsimp only[cA,cB]);refine aB ?_;(repeat first|refine tA rfl ?_ |refine s2 rfl λ_ e=>?_ |refine aU rfl ?_ |refine Aa ?_);(refine aC rfl ?_ ?_<;>rintro⟨⟩)
 ·obtain⟨z,G,v⟩:=Db (TB:=TB) b hb (p+1+1) (by omega) [64,-1,1,63] (by decide) (by decide)
  (repeat first|refine tA rfl ?_ |refine aU rfl ?_);(refine pW rfl ?_ rfl (by rfl);refine Ai [0] rfl rfl (v) ⟨rfl,by decide,by decide⟩ rfl (by simp[cX,zC,a,cN]) ?_;rintro t j m ⟨rfl,rfl,rfl⟩ _);(repeat first|refine tA rfl ?_ |refine aU rfl ?_ |refine Aa ?_);refine Aj.Ay [] [] rfl rfl [(4,.o (.ptr 1 3 0 0))] [(0,Bn b (p+1+1+1)),(1,.cells 25 3 [[.d (iD (z)),.d (iD (y.st)),.arr 2 3 0 (y.es).length]]),(2,.cells 126 3 ((y.es).map A9))] [0,1,2] (rl a rfl) (by (simp[cX,zC,a,cN,Ae,eC])) ?_;(try dsimp only[cA,cB]);refine Aj.AE [1,2] [(4,.o (.ip (AI ⟨z,y.st,y.es⟩)))] ⟨⟨_,rfl,.inr (.o (.box rfl (.cons .d (.cons .d (.cons (.full rfl (by simp [d5]) (by simp)) .nil)))))⟩,trivial⟩ ?_;refine aR ⟨_,rfl,[0],Bv ⟨z,y.st,y.es⟩,[(0,Bn b (p+1+1+1))],⟨by intro i hi;match i with|0=>rfl,by decide⟩,rfl,by (simp[cX,zC,a,cN]),p+1+1+1,⟨z,y.st,y.es⟩,by omega,by first|(simp;done)|(simp;omega),rfl,rfl,rfl⟩
 (repeat first|refine tA rfl ?_ |refine s2 rfl λ_ e=>?_ |refine aU rfl ?_ |refine Aa ?_);(refine aC rfl ?_ ?_<;>rintro⟨⟩)
 ·obtain⟨z,G,v⟩:=Db (TB:=TB) b hb (p+1+1) (by omega) [0,17,-1,16,1] (by decide) (by decide)
  (repeat first|refine tA rfl ?_ |refine aU rfl ?_);(refine pW rfl ?_ rfl (by rfl);refine Ai [0] rfl rfl (v) ⟨rfl,by decide,by decide⟩ rfl (by simp[cX,zC,a,cN]) ?_;rintro t j m ⟨rfl,rfl,rfl⟩ _);(repeat first|refine tA rfl ?_ |refine aU rfl ?_ |refine Aa ?_);refine Aj.Ay [] [] rfl rfl [(4,.o (.ptr 1 3 0 0))] [(0,Bn b (p+1+1+1)),(1,.cells 25 3 [[.d (iD (y.al)),.d (iD (z)),.arr 2 3 0 (y.es).length]]),(2,.cells 126 3 ((y.es).map A9))] [0,1,2] (rl a rfl) (by (simp[cX,zC,a,cN,Ae,eC])) ?_;(try dsimp only[cA,cB]);refine Aj.AE [1,2] [(4,.o (.ip (AI ⟨y.al,z,y.es⟩)))] ⟨⟨_,rfl,.inr (.o (.box rfl (.cons .d (.cons .d (.cons (.full rfl (by simp [d5]) (by simp)) .nil)))))⟩,trivial⟩ ?_;refine aR ⟨_,rfl,[0],Bv ⟨y.al,z,y.es⟩,[(0,Bn b (p+1+1+1))],⟨by intro i hi;match i with|0=>rfl,by decide⟩,rfl,by (simp[cX,zC,a,cN]),p+1+1+1,⟨y.al,z,y.es⟩,by omega,by first|(simp;done)|(simp;omega),rfl,rfl,rfl⟩
 (repeat first|refine tA rfl ?_ |refine s2 rfl λ_ e=>?_ |refine aU rfl ?_ |refine Aa ?_);(refine aC rfl ?_ ?_<;>rintro⟨⟩)
 ·by_cases v:y.es.length=0
  ·(repeat' first|refine tA rfl ?_ |refine s2 rfl λ_ e=>?_ |refine aU rfl ?_ |refine Aa ?_|(refine aC rfl ?_ ?_<;>rintro⟨⟩));all_goals try contradiction
   all_goals first
    | (exfalso;(simp only[oZ] at *;omega);done)
    | (refine aK ?_;(repeat first|refine tA rfl ?_ |refine aU rfl ?_ |refine Aa ?_);refine Aj.Ay [] [] rfl rfl [(4,.o (.ptr 1 3 0 0))] [(0,Bn b (p+1+1)),(1,.cells 25 3 [[.d (iD (y.al)),.d (iD (y.st)),.arr 2 3 0 (y.es).length]]),(2,.cells 126 3 ((y.es).map A9))] [0,1,2] (rl a rfl) (by (simp[cX,zC,a,cN,Ae,eC])) ?_;(try dsimp only[cA,cB]);refine Aj.AE [1,2] [(4,.o (.ip (AI ⟨y.al,y.st,y.es⟩)))] ⟨⟨_,rfl,.inr (.o (.box rfl (.cons .d (.cons .d (.cons (.full rfl (by simp [d5]) (by simp)) .nil)))))⟩,trivial⟩ ?_;refine aR ⟨_,rfl,[0],Bv ⟨y.al,y.st,y.es⟩,[(0,Bn b (p+1+1))],⟨by intro i hi;match i with|0=>rfl,by decide⟩,rfl,by (simp[cX,zC,a,cN]),p+1+1,⟨y.al,y.st,y.es⟩,by omega,by first|(simp;done)|(simp;omega),rfl,rfl,rfl⟩)
  obtain⟨⟨h,g,f⟩,x⟩:=get_some (l:=y.es) (k:=k.toNat) (by omega)
  have w:(y.es.map A9)[0+k.toNat]? = some (A9 ⟨h,g,f⟩):=by rw [nf];simp [x]
  obtain⟨z,G,q⟩:=Db (TB:=TB) b hb (p+1+1) (by omega) [-1,16,0,2] (by decide) (by decide)
  have n:(y.es.map A9).set (0+k.toNat) (A9 ⟨z,g,f⟩)=(y.es.set k.toNat ⟨z,g,f⟩).map A9:=by rw [nf,oe]
  (repeat first|refine tA rfl ?_ |refine s2 rfl λ_ e=>?_ |refine aU rfl ?_ |refine Aa ?_)
  ((refine aC rfl ?_ ?_<;>rintro⟨⟩);all_goals try(exfalso;(simp only[oZ] at *;omega)))
  refine rG (JU [(1,13),(5,1008),(6,2),(7,2),(8,1)]) (by kernel_rfl) ?_;(repeat first|refine tA rfl ?_);(refine Ag rfl ?_;refine C3 ?_ rfl ⟨rfl,rfl⟩;refine Ai [0] rfl rfl (q) ⟨rfl,by decide,by decide⟩ rfl (by simp[cX,zC,a,cN]) ?_;rintro t j m ⟨rfl,rfl,rfl⟩ _;refine⟨E9 3 rfl rfl,?_⟩);(repeat first|(refine sA rfl ?_ ?_;first|exact tI|omega) |refine t4 rfl ‹_› rfl ?_ |refine aU rfl ?_ |refine Aa ?_);refine Aj.Ay [] [] rfl rfl [(4,.o (.ptr 1 3 0 0))] [(0,Bn b (p+1+1+1)),(1,.cells 25 3 [[.d (iD (y.al)),.d (iD (y.st)),.arr 2 3 0 (y.es.set k.toNat ⟨z,g,f⟩).length]]),(2,.cells 126 3 ((y.es.set k.toNat ⟨z,g,f⟩).map A9))] [0,1,2] (rl a rfl) (by (simp[cX,zC,a,cN,Ae,eC,n])) ?_;(try dsimp only[cA,cB]);refine Aj.AE [1,2] [(4,.o (.ip (AI ⟨y.al,y.st,y.es.set k.toNat ⟨z,g,f⟩⟩)))] ⟨⟨_,rfl,.inr (.o (.box rfl (.cons .d (.cons .d (.cons (.full rfl (by simp [d5]) (by simp)) .nil)))))⟩,trivial⟩ ?_;refine aR ⟨_,rfl,[0],Bv ⟨y.al,y.st,y.es.set k.toNat ⟨z,g,f⟩⟩,[(0,Bn b (p+1+1+1))],⟨by intro i hi;match i with|0=>rfl,by decide⟩,rfl,by (simp[cX,zC,a,cN]),p+1+1+1,⟨y.al,y.st,y.es.set k.toNat ⟨z,g,f⟩⟩,by omega,by first|(simp;done)|(simp;omega),rfl,rfl,rfl⟩
 (repeat first|refine tA rfl ?_ |refine s2 rfl λ_ e=>?_ |refine aU rfl ?_ |refine Aa ?_);(refine aC rfl ?_ ?_<;>rintro⟨⟩)
 ·by_cases v:y.es.length=0
  ·(repeat' first|refine tA rfl ?_ |refine s2 rfl λ_ e=>?_ |refine aU rfl ?_ |refine Aa ?_|(refine aC rfl ?_ ?_<;>rintro⟨⟩));all_goals try contradiction
   all_goals first
    | (exfalso;(simp only[oZ] at *;omega);done)
    | (refine aK ?_;(repeat first|refine tA rfl ?_ |refine aU rfl ?_ |refine Aa ?_);refine Aj.Ay [] [] rfl rfl [(4,.o (.ptr 1 3 0 0))] [(0,Bn b (p+1+1)),(1,.cells 25 3 [[.d (iD (y.al)),.d (iD (y.st)),.arr 2 3 0 (y.es).length]]),(2,.cells 126 3 ((y.es).map A9))] [0,1,2] (rl a rfl) (by (simp[cX,zC,a,cN,Ae,eC])) ?_;(try dsimp only[cA,cB]);refine Aj.AE [1,2] [(4,.o (.ip (AI ⟨y.al,y.st,y.es⟩)))] ⟨⟨_,rfl,.inr (.o (.box rfl (.cons .d (.cons .d (.cons (.full rfl (by simp [d5]) (by simp)) .nil)))))⟩,trivial⟩ ?_;refine aR ⟨_,rfl,[0],Bv ⟨y.al,y.st,y.es⟩,[(0,Bn b (p+1+1))],⟨by intro i hi;match i with|0=>rfl,by decide⟩,rfl,by (simp[cX,zC,a,cN]),p+1+1,⟨y.al,y.st,y.es⟩,by omega,by first|(simp;done)|(simp;omega),rfl,rfl,rfl⟩)
  obtain⟨⟨h,g,f⟩,x⟩:=get_some (l:=y.es) (k:=k.toNat) (by omega)
  have w:(y.es.map A9)[0+k.toNat]? = some (A9 ⟨h,g,f⟩):=by rw [nf];simp [x]
  obtain⟨z,G,q⟩:=Db (TB:=TB) b hb (p+1+1) (by omega) [-1,16,0,3] (by decide) (by decide)
  have n:(y.es.map A9).set (0+k.toNat) (A9 ⟨h,g,z⟩)=(y.es.set k.toNat ⟨h,g,z⟩).map A9:=by rw [nf,oe]
  (repeat first|refine tA rfl ?_ |refine s2 rfl λ_ e=>?_ |refine aU rfl ?_ |refine Aa ?_)
  ((refine aC rfl ?_ ?_<;>rintro⟨⟩);all_goals try(exfalso;(simp only[oZ] at *;omega)))
  refine rG (JU [(1,13),(5,1008),(6,2),(7,2),(8,1)]) (by kernel_rfl) ?_;(repeat first|refine tA rfl ?_);(refine Ag rfl ?_;refine C3 ?_ rfl ⟨rfl,rfl⟩;refine Ai [0] rfl rfl (q) ⟨rfl,by decide,by decide⟩ rfl (by simp[cX,zC,a,cN]) ?_;rintro t j m ⟨rfl,rfl,rfl⟩ _;refine⟨E9 3 rfl rfl,?_⟩);(repeat first|(refine sA rfl ?_ ?_;first|exact tI|omega) |refine t4 rfl ‹_› rfl ?_ |refine aU rfl ?_ |refine Aa ?_);refine Aj.Ay [] [] rfl rfl [(4,.o (.ptr 1 3 0 0))] [(0,Bn b (p+1+1+1)),(1,.cells 25 3 [[.d (iD (y.al)),.d (iD (y.st)),.arr 2 3 0 (y.es.set k.toNat ⟨h,g,z⟩).length]]),(2,.cells 126 3 ((y.es.set k.toNat ⟨h,g,z⟩).map A9))] [0,1,2] (rl a rfl) (by (simp[cX,zC,a,cN,Ae,eC,n])) ?_;(try dsimp only[cA,cB]);refine Aj.AE [1,2] [(4,.o (.ip (AI ⟨y.al,y.st,y.es.set k.toNat ⟨h,g,z⟩⟩)))] ⟨⟨_,rfl,.inr (.o (.box rfl (.cons .d (.cons .d (.cons (.full rfl (by simp [d5]) (by simp)) .nil)))))⟩,trivial⟩ ?_;refine aR ⟨_,rfl,[0],Bv ⟨y.al,y.st,y.es.set k.toNat ⟨h,g,z⟩⟩,[(0,Bn b (p+1+1+1))],⟨by intro i hi;match i with|0=>rfl,by decide⟩,rfl,by (simp[cX,zC,a,cN]),p+1+1+1,⟨y.al,y.st,y.es.set k.toNat ⟨h,g,z⟩⟩,by omega,by first|(simp;done)|(simp;omega),rfl,rfl,rfl⟩
 (repeat first|refine tA rfl ?_ |refine s2 rfl λ_ e=>?_ |refine aU rfl ?_ |refine Aa ?_);(refine aC rfl ?_ ?_<;>rintro⟨⟩)
 ·by_cases v:y.es.length=0
  ·(repeat' first|refine tA rfl ?_ |refine s2 rfl λ_ e=>?_ |refine aU rfl ?_ |refine Aa ?_|(refine aC rfl ?_ ?_<;>rintro⟨⟩));all_goals try contradiction
   all_goals first
    | (exfalso;(simp only[oZ] at *;omega);done)
    | (refine aK ?_;(repeat first|refine tA rfl ?_ |refine aU rfl ?_ |refine Aa ?_);refine Aj.Ay [] [] rfl rfl [(4,.o (.ptr 1 3 0 0))] [(0,Bn b (p+1+1)),(1,.cells 25 3 [[.d (iD (y.al)),.d (iD (y.st)),.arr 2 3 0 (y.es).length]]),(2,.cells 126 3 ((y.es).map A9))] [0,1,2] (rl a rfl) (by (simp[cX,zC,a,cN,Ae,eC])) ?_;(try dsimp only[cA,cB]);refine Aj.AE [1,2] [(4,.o (.ip (AI ⟨y.al,y.st,y.es⟩)))] ⟨⟨_,rfl,.inr (.o (.box rfl (.cons .d (.cons .d (.cons (.full rfl (by simp [d5]) (by simp)) .nil)))))⟩,trivial⟩ ?_;refine aR ⟨_,rfl,[0],Bv ⟨y.al,y.st,y.es⟩,[(0,Bn b (p+1+1))],⟨by intro i hi;match i with|0=>rfl,by decide⟩,rfl,by (simp[cX,zC,a,cN]),p+1+1,⟨y.al,y.st,y.es⟩,by omega,by first|(simp;done)|(simp;omega),rfl,rfl,rfl⟩)
  obtain⟨⟨h,g,f⟩,x⟩:=get_some (l:=y.es) (k:=k.toNat) (by omega)
  have w:(y.es.map A9)[0+k.toNat]? = some (A9 ⟨h,g,f⟩):=by rw [nf];simp [x]
  obtain⟨z,G,q⟩:=Db (TB:=TB) b hb (p+1+1) (by omega) [-1,6,70,5,0] (by decide) (by decide)
  have n:(y.es.map A9).set (0+k.toNat) (A9 ⟨h,z,f⟩)=(y.es.set k.toNat ⟨h,z,f⟩).map A9:=by rw [nf,oe]
  (repeat first|refine tA rfl ?_ |refine s2 rfl λ_ e=>?_ |refine aU rfl ?_ |refine Aa ?_)
  ((refine aC rfl ?_ ?_<;>rintro⟨⟩);all_goals try(exfalso;(simp only[oZ] at *;omega)))
  refine rG (JU [(1,13),(5,1008),(6,2),(7,2),(8,1)]) (by kernel_rfl) ?_;(repeat first|refine tA rfl ?_);(refine Ag rfl ?_;refine C3 ?_ rfl ⟨rfl,rfl⟩;refine Ai [0] rfl rfl (q) ⟨rfl,by decide,by decide⟩ rfl (by simp[cX,zC,a,cN]) ?_;rintro t j m ⟨rfl,rfl,rfl⟩ _;refine⟨E9 3 rfl rfl,?_⟩);(repeat first|(refine sA rfl ?_ ?_;first|exact tI|omega) |refine t4 rfl ‹_› rfl ?_ |refine aU rfl ?_ |refine Aa ?_);refine Aj.Ay [] [] rfl rfl [(4,.o (.ptr 1 3 0 0))] [(0,Bn b (p+1+1+1)),(1,.cells 25 3 [[.d (iD (y.al)),.d (iD (y.st)),.arr 2 3 0 (y.es.set k.toNat ⟨h,z,f⟩).length]]),(2,.cells 126 3 ((y.es.set k.toNat ⟨h,z,f⟩).map A9))] [0,1,2] (rl a rfl) (by (simp[cX,zC,a,cN,Ae,eC,n])) ?_;(try dsimp only[cA,cB]);refine Aj.AE [1,2] [(4,.o (.ip (AI ⟨y.al,y.st,y.es.set k.toNat ⟨h,z,f⟩⟩)))] ⟨⟨_,rfl,.inr (.o (.box rfl (.cons .d (.cons .d (.cons (.full rfl (by simp [d5]) (by simp)) .nil)))))⟩,trivial⟩ ?_;refine aR ⟨_,rfl,[0],Bv ⟨y.al,y.st,y.es.set k.toNat ⟨h,z,f⟩⟩,[(0,Bn b (p+1+1+1))],⟨by intro i hi;match i with|0=>rfl,by decide⟩,rfl,by (simp[cX,zC,a,cN]),p+1+1+1,⟨y.al,y.st,y.es.set k.toNat ⟨h,z,f⟩⟩,by omega,by first|(simp;done)|(simp;omega),rfl,rfl,rfl⟩
 (repeat first|refine tA rfl ?_ |refine s2 rfl λ_ e=>?_ |refine aU rfl ?_ |refine Aa ?_);(refine aC rfl ?_ ?_<;>rintro⟨⟩)
 ·by_cases v:y.es.length=0
  ·(repeat' first|refine tA rfl ?_ |refine s2 rfl λ_ e=>?_ |refine aU rfl ?_ |refine Aa ?_|(refine aC rfl ?_ ?_<;>rintro⟨⟩));all_goals try contradiction
   all_goals first
    | (exfalso;(simp only[oZ] at *;omega);done)
    | (refine aK ?_;(repeat first|refine tA rfl ?_ |refine aU rfl ?_ |refine Aa ?_);refine Aj.Ay [] [] rfl rfl [(4,.o (.ptr 1 3 0 0))] [(0,Bn b (p+1+1)),(1,.cells 25 3 [[.d (iD (y.al)),.d (iD (y.st)),.arr 2 3 0 (y.es).length]]),(2,.cells 126 3 ((y.es).map A9))] [0,1,2] (rl a rfl) (by (simp[cX,zC,a,cN,Ae,eC])) ?_;(try dsimp only[cA,cB]);refine Aj.AE [1,2] [(4,.o (.ip (AI ⟨y.al,y.st,y.es⟩)))] ⟨⟨_,rfl,.inr (.o (.box rfl (.cons .d (.cons .d (.cons (.full rfl (by simp [d5]) (by simp)) .nil)))))⟩,trivial⟩ ?_;refine aR ⟨_,rfl,[0],Bv ⟨y.al,y.st,y.es⟩,[(0,Bn b (p+1+1))],⟨by intro i hi;match i with|0=>rfl,by decide⟩,rfl,by (simp[cX,zC,a,cN]),p+1+1,⟨y.al,y.st,y.es⟩,by omega,by first|(simp;done)|(simp;omega),rfl,rfl,rfl⟩)
  obtain⟨⟨h,g,f⟩,x⟩:=get_some (l:=y.es) (k:=k.toNat) (by omega)
  have w:(y.es.map A9)[0+k.toNat]? = some (A9 ⟨h,g,f⟩):=by rw [nf];simp [x]
  (repeat first|refine tA rfl ?_ |refine s2 rfl λ_ e=>?_ |refine aU rfl ?_ |refine Aa ?_)
  ((refine aC rfl ?_ ?_<;>rintro⟨⟩);all_goals try(exfalso;(simp only[oZ] at *;omega)))
  refine rG (JU [(1,13),(3,13),(6,12),(8,1),(10,1)]) (by kernel_rfl) ?_;(repeat first|(refine sA rfl ?_ ?_;first|exact tI|omega) |refine t4 rfl ‹_› rfl ?_);(refine pW rfl ?_ rfl (by rfl);refine Al rfl rfl rfl (by first| (simp;done)|(simp;(omega))) rfl (by intro r u;simp at u;subst u;rfl) (by rfl) (am rfl) (by simp;omega) ?_);(repeat first|refine tA rfl ?_ |refine aU rfl ?_ |refine Aa ?_);refine Aj.Ay [] [] rfl rfl [(4,.o (.ptr 1 3 0 0))] [(0,Bn b (p+1+1)),(1,.cells 25 3 [[.d (iD (y.al)),.d (iD (y.st)),.arr 2 3 0 (y.es++[(⟨h,g,f⟩:DW)]).length]]),(2,.cells 126 3 ((y.es++[(⟨h,g,f⟩:DW)]).map A9))] [0,1,4] (rl a rfl) (by (simp[cX,zC,a,cN,Ae,eC])) ?_;(try dsimp only[cA,cB]);refine Aj.AE [1,2] [(4,.o (.ip (AI ⟨y.al,y.st,y.es++[(⟨h,g,f⟩:DW)]⟩)))] ⟨⟨_,rfl,.inr (.o (.box rfl (.cons .d (.cons .d (.cons (.full rfl (by simp [d5]) (by simp)) .nil)))))⟩,trivial⟩ ?_;refine aR ⟨_,rfl,[0],Bv ⟨y.al,y.st,y.es++[(⟨h,g,f⟩:DW)]⟩,[(0,Bn b (p+1+1))],⟨by intro i hi;match i with|0=>rfl,by decide⟩,rfl,by (simp[cX,zC,a,cN]),p+1+1,⟨y.al,y.st,y.es++[(⟨h,g,f⟩:DW)]⟩,by omega,by first|(simp;done)|(simp;omega),rfl,rfl,rfl⟩
 (repeat first|refine tA rfl ?_ |refine s2 rfl λ_ e=>?_ |refine aU rfl ?_ |refine Aa ?_);(refine aC rfl ?_ ?_<;>rintro⟨⟩)
 ·obtain⟨F,_,_,J⟩:=Bm (TB:=TB) b hb (p+1+1) 4 (by omega)
  obtain⟨B,_,_,I⟩:=Bm (TB:=TB) b hb (p+1+1+1) 3 (by omega);obtain⟨A,_,_,H⟩:=Bm (TB:=TB) b hb (p+1+1+1+1) 4 (by omega);refine rG ⟨FV [(1,13),(3,1008),(5,1008),(7,1008),(10,1),(12,1)],ak [0,1,2,4,6,3,5,7,8,9,10,11,12]⟩ (by kernel_rfl) ?_;(repeat first|refine tA rfl ?_);(refine Ag rfl ?_;refine C3 ?_ rfl ⟨rfl,rfl⟩;refine Ai [0] rfl rfl (J) ⟨rfl,by decide,by decide⟩ rfl (by simp[cX,zC,a,cN]) ?_;rintro t j m ⟨rfl,rfl,rfl⟩ _;refine⟨E9 3 rfl rfl,?_⟩);(refine Ag rfl ?_;refine C3 ?_ rfl ⟨rfl,rfl⟩;refine Ai [0] rfl rfl (I) ⟨rfl,by decide,by decide⟩ rfl (by simp[cX,zC,a,cN]) ?_;rintro t j m ⟨rfl,rfl,rfl⟩ _;refine⟨E9 3 rfl rfl,?_⟩);(refine Ag rfl ?_;refine C3 ?_ rfl ⟨rfl,rfl⟩;refine Ai [0] rfl rfl (H) ⟨rfl,by decide,by decide⟩ rfl (by simp[cX,zC,a,cN]) ?_;rintro t j m ⟨rfl,rfl,rfl⟩ _;refine⟨E9 3 rfl rfl,?_⟩);(repeat first|refine tA rfl ?_|(refine Ag rfl ?_;refine gA rfl ?_;first| refine gS (λ_ _=>AF rfl rfl (by rfl) (by rfl)) ?_));(refine pW rfl ?_ rfl (by rfl);refine Al rfl rfl rfl (by first| (simp;done)|(simp;(omega))) rfl (by intro r u;simp at u;subst u;rfl) (by rfl) (am rfl) (by simp;omega) ?_);(repeat first|refine tA rfl ?_ |refine aU rfl ?_ |refine Aa ?_);refine Aj.Ay [] [] rfl rfl [(4,.o (.ptr 1 3 0 0))] [(0,Bn b (p+1+1+1+1+1)),(1,.cells 25 3 [[.d (iD (y.al)),.d (iD (y.st)),.arr 2 3 0 (y.es++[(⟨F,B,A⟩:DW)]).length]]),(2,.cells 126 3 ((y.es++[(⟨F,B,A⟩:DW)]).map A9))] [0,1,4] (rl a rfl) (by (simp[cX,zC,a,cN,Ae,eC])) ?_;(try dsimp only[cA,cB]);refine Aj.AE [1,2] [(4,.o (.ip (AI ⟨y.al,y.st,y.es++[(⟨F,B,A⟩:DW)]⟩)))] ⟨⟨_,rfl,.inr (.o (.box rfl (.cons .d (.cons .d (.cons (.full rfl (by simp [d5]) (by simp)) .nil)))))⟩,trivial⟩ ?_;refine aR ⟨_,rfl,[0],Bv ⟨y.al,y.st,y.es++[(⟨F,B,A⟩:DW)]⟩,[(0,Bn b (p+1+1+1+1+1))],⟨by intro i hi;match i with|0=>rfl,by decide⟩,rfl,by (simp[cX,zC,a,cN]),p+1+1+1+1+1,⟨y.al,y.st,y.es++[(⟨F,B,A⟩:DW)]⟩,by omega,by first|(simp;done)|(simp;omega),rfl,rfl,rfl⟩
 refine aK ?_;(repeat first|refine tA rfl ?_ |refine aU rfl ?_ |refine Aa ?_);refine Aj.Ay [] [] rfl rfl [(4,.o (.ptr 1 3 0 0))] [(0,Bn b (p+1+1)),(1,.cells 25 3 [[.d (iD (y.al)),.d (iD (y.st)),.arr 2 3 0 (y.es).length]]),(2,.cells 126 3 ((y.es).map A9))] [0,1,2] (rl a rfl) (by (simp[cX,zC,a,cN,Ae,eC])) ?_;(try dsimp only[cA,cB]);refine Aj.AE [1,2] [(4,.o (.ip (AI ⟨y.al,y.st,y.es⟩)))] ⟨⟨_,rfl,.inr (.o (.box rfl (.cons .d (.cons .d (.cons (.full rfl (by simp [d5]) (by simp)) .nil)))))⟩,trivial⟩ ?_;refine aR ⟨_,rfl,[0],Bv ⟨y.al,y.st,y.es⟩,[(0,Bn b (p+1+1))],⟨by intro i hi;match i with|0=>rfl,by decide⟩,rfl,by (simp[cX,zC,a,cN]),p+1+1,⟨y.al,y.st,y.es⟩,by omega,by first|(simp;done)|(simp;omega),rfl,rfl,rfl⟩
end Go.Am
namespace Go.Am
open Go Go.Proofs
set_option maxHeartbeats 1000000
attribute [local irreducible] AX Cb Lex Bh Aj Spec
def jU(P:Program)(t it:TypeId):Bool:=match (P.fieldsOf t).toList with
 | [c,b,a]=>decide (c.name≠ "_") && c.type == it && c.offset == 0 && (decide (b.name≠ "_") && b.type == it && b.offset == 1) && (decide (a.name≠ "_") && a.type == it && a.offset == 2)
 | _=>false
theorem RV {P:Program} {it:TypeId} (c:P.underlying it=some (.int .i64)) {xs ys:Array Value} {a b:Int} {fl:Field} {fs:List Field} {o:Nat} (h:(decide (fl.name≠ "_") && fl.type == it && fl.offset == o)=true) (i:xs[o]? = some (.int .i64 a)) (g:ys[o]? = some (.int .i64 b)) (w:World) :
 (Op.eqFields 9999 xs ys (fl::fs)).run P w=if a=b then (Op.eqFields 9999 xs ys fs).run P w else .ok false w:=by
 simp only [d4,decide_eq_true_eq,beq_iff_eq] at h;obtain⟨⟨l,k⟩,j⟩:=h
 have f:(part it xs o).run P w=.ok (.int .i64 a) w:=by simp [part,isAgg,run_underlying c,i]
 have e:(part it ys o).run P w=.ok (.int .i64 b) w:=by simp [part,isAgg,run_underlying c,g]
 have d:(Op.equalIn 9999 it (.int .i64 a) (.int .i64 b)).run P w=.ok (a == b) w:=run_equalIn_int w 9998 it .i64 .i64 a b c;rw [Op.eqFields,if_pos l,k,j];simp only [nc,f,e,d,kw];by_cases h:a=b
 ·simp [h]
 ·simp [h]
section
variable {TB:Bz}{Z:Ctx}{d:Option Tmp}{ty:TypeId}{pos:String}{af:Array Edge}{g:Option (Nat×Bool)}{f:Env}{σ:Ab}{nx:Nat}
theorem ep:jU Tryz.prog 126 3=true:=by kernel_rfl
theorem dj(a b:DW)(w:World):(Op.equalIn 10000 126 (.agg #[.int .i64 a.f,.int .i64 a.l,.int .i64 a.t]) (.agg #[.int .i64 b.f,.int .i64 b.l,.int .i64 b.t])).run Tryz.prog w=.ok (decide (a.f=b.f/\a.l=b.l/\a.t=b.t)) w:=by
 have d:Tryz.prog.underlying 3=some (.int .i64):=by kernel_rfl
 have c:=ep;rw [show (10000:Nat)=9999+1 from rfl,run_equalIn_struct w 9999 126 _ _ (by kernel_rfl) (by kernel_rfl)];unfold jU at c;split at c
 ·rename_i x v u i
  rw [i];simp only [d4 (b:=(_ && _)),d4] at c;obtain⟨⟨⟨⟨s,r⟩,q⟩,⟨p,o⟩,n⟩,⟨m,k⟩,j⟩:=c;rw [RV d (by rw [s,r,q];rfl) rfl rfl,RV d (by rw [p,o,n];rfl) rfl rfl,RV d (by rw [m,k,j];rfl) rfl rfl,Op.eqFields];by_cases h:a.f=b.f<;>by_cases g:a.l=b.l<;>by_cases e:a.t=b.t<;>simp [h,g,e]
 ·cases c
theorem gp{V:View}{a b c:Int}{vs:Array Value}(h:C8 V [.d (iD a),.d (iD b),.d (iD c)] vs):vs = #[.int .i64 a,.int .i64 b,.int .i64 c]:=by
 obtain⟨k,g⟩:=h;have j:vs.size=3:=k;apply Array.ext
 ·simpa using j
 ·intro i hi f
  have e:vs[i]? = some vs[i]:=mt hi
  match i,f with
  | 0,_=>exact AG.val (g 0 _ _ rfl e)
  | 1,_=>exact AG.val (g 1 _ _ rfl e)
  | 2,_=>exact AG.val (g 2 _ _ rfl e)
def ib(a b:DW):Bool:=decide (a.f=b.f/\a.l=b.l/\a.t=b.t)
theorem WD{x y:Operand}{yt:TypeId}{a b:DW}(j:ev f x=some (VG a))(i:ev f y=some (VG b)):AX Tryz.prog TB Z ⟨d,.binOp .eql 126 x y yt,ty,pos,af,g⟩ f σ nx (eB (ib a b)):=
 AO λV ρ h _=>by
  obtain⟨xs,l,e⟩:=h.get (by simp [Op.operands]) j;obtain⟨ys,k,c⟩:=h.get (by simp [Op.operands]) i;have p:=gp e;have o:=gp c;refine⟨.bool (ib a b),?_,.d (.v rfl)⟩;have n:execOp ρ ⟨d,.binOp .eql 126 x y yt,ty,pos,af,g⟩=(do let v <-(do eqGuard .eql 126 x y (ρ x) (ρ y);binOp .eql 126 (ρ x) (ρ y));pure (.value v)):=rfl
  have m:Tryz.prog.eqGuardType Tryz.prog.depth 126=false:=by kernel_rfl
  rw [n,l,k,p,o];simp only [nc,run_eqGuard_agg V.w .eql 126 x y _ _ m,run_eql_struct,dj,kw,Sem.run_pure];rfl
end
end Go.Am
namespace Go.Am
open Go Go.Proofs
set_option maxHeartbeats 1000000
attribute [local irreducible] AX Cb Lex Bh Aj Spec
variable {TB:Bz}
theorem jS{C X:Int->Bool->DW->Prop}{Y:Prop}(h:∀q m l,C q m l->X q m l)(hk:(∀q m l,C q m l->X q m l)->Y):Y:=hk h
theorem Nk(b:List UInt8)(hb:b.length<=2000)(p:Int)(h0:0<=p/\p < 800000000)(y:Sys)(hy:y.es.length<=100000):Spec Tryz.prog TB 96 [(0,Bn b p)] 1 [.o (.ptr 0 2 0 0),Bv y] (KK b p 5 (λs=>s.es.length<=y.es.length+1)):=by
 obtain⟨g,g0,g1,U⟩:=Bm (TB:=TB) b hb p (y.es.length+2) (by omega);obtain⟨f,f0,f1,V⟩:=Bm (TB:=TB) b hb (p+1) y.st (by omega);obtain⟨t,t0,t1,ht⟩:=Bm (TB:=TB) b hb (p+1+1) y.st (by omega);obtain⟨c,c0,c1,hc⟩:=Bm (TB:=TB) b hb (p+1+1+1) 2 (by omega);have H:=Ch (TB:=TB) y.al;have T:(Ac y.al).length<=6:=AK y.al 6;generalize Ac y.al=ls at *;refine eR Tryz.func96 rfl (by kernel_rfl) rfl ?_;intro Z a;(repeat first|refine tA rfl ?_ |refine aU rfl ?_ |refine Aa ?_);(refine pW rfl ?_ rfl (by rfl);refine I8 2 3 126 rfl rfl rfl (by rfl) (by rfl) ?_);(repeat first|refine sN rfl ?_ |(refine sA rfl ?_ ?_;first|exact tI|omega) |refine aU rfl ?_ |refine Aa ?_);(refine pW rfl ?_ rfl (by rfl);refine Ai [0] rfl rfl (U) ⟨rfl,by decide,by decide⟩ rfl (by simp[cX,zC,a,cN]) ?_;rintro K w z ⟨rfl,rfl,rfl⟩ _);(repeat first|refine tA rfl ?_ |refine aU rfl ?_ |refine Aa ?_);refine R.Qj [(0,2),(1,2),(2,2),(4,2),(5,2),(6,2),(9,3),(3,1),(7,1),(8,0),(10,5)] mixed (by kernel_rfl) rfl (by kernel_rfl) ?_;(repeat ((refine R.Ag rfl ?_;first|(refine R.yQ (md:=false) rfl rfl rfl ?_ ?_;exact tI) |refine R.yP rfl rfl rfl rfl ?_ )));(refine R.Ag rfl ?_;refine R.JQ (λ_=>?_) rfl rfl;refine Ai [0] rfl rfl V ⟨rfl,by decide,by decide⟩ rfl (by simp[cX,zC,a,cN]) ?_;rintro K w z ⟨rfl,rfl,rfl⟩ _);(refine R.Ag rfl ?_;refine R.JQ (λ_=>?_) rfl rfl;refine Ai [0] rfl rfl ht ⟨rfl,by decide,by decide⟩ rfl (by simp[cX,zC,a,cN]) ?_;rintro K w z ⟨rfl,rfl,rfl⟩ _);(repeat ((refine R.Ag rfl ?_;first|refine R.yA rfl rfl rfl rfl ?_|refine R.CB (λ_ _ _=>AF rfl rfl (by rfl) (by rfl)) rfl rfl ?_ )));refine R.Qe ?_;refine Aj.Ay [0,3,6] [] rfl rfl [(4,.o (.ptr 1 3 0 0)),(5,.o (.ptr 2 3 0 0)),(7,.o (.ptr 4 3 0 0))] [(0,Bn b (p+1+1+1)),(1,.cells 25 3 [[.d (iD 0),.d (iD 0),.d (.l [])]]),(2,.cells 25 3 [[.d (iD y.al),.d (iD y.st),.arr 3 3 0 0]]),(3,.cells 126 3 []),(4,.cells 126 3 [A9 ⟨f,0,t⟩])] [0,1,3,2,4] (rl a rfl) (by (simp[cX,zC,a,cN,Ae,eC,BN])) ?_;(try dsimp only[cA,cB]);apply jS (C:=λq m e=>p<=q/\q<=p+5)
 case hk =>
  intro hk;by_cases hz:0 < ls.length
  ·(repeat' first|refine sN rfl ?_ |refine tA rfl ?_ |refine s2 rfl λ_ j=>?_ |refine sP rfl (H) rfl ?_ |refine s3 rfl ?_ ?_<;>rintro rfl |refine aU rfl ?_ |refine Aa ?_|(refine aC rfl ?_ ?_<;>rintro⟨⟩));all_goals try contradiction
   all_goals first
    | (exfalso;(simp only[oZ] at *;omega);done)
    | skip
   (refine pW rfl ?_ rfl (by rfl);refine Ai [0] rfl rfl (hc) ⟨rfl,by decide,by decide⟩ rfl (by simp[cX,zC,a,cN]) ?_;rintro K w z ⟨rfl,rfl,rfl⟩ _);by_cases hc0:c=0
   ·obtain⟨k,k0,k1,L⟩:=Bm (TB:=TB) b hb (p+1+1+1+1) ls.length (by omega)
    obtain⟨x,S⟩:=get_some (l:=ls) (k:=k.toNat) (by omega)
    have Q:(ls.map Bq)[k.toNat]? = some (Bq x):=by simp [S]
    (repeat' first|refine sN rfl ?_ |refine tA rfl ?_ |refine s2 rfl λ_ j=>?_ |refine aU rfl ?_ |refine Aa ?_|(refine aC rfl ?_ ?_<;>rintro⟨⟩));all_goals try contradiction
    all_goals first
     | (exfalso;(simp only[oZ] at *;omega);done)
     | skip
    (refine pW rfl ?_ rfl (by rfl);refine Ai [0] rfl rfl (L) ⟨rfl,by decide,by decide⟩ rfl (by simp[cX,zC,a,cN]) ?_;rintro K w z ⟨rfl,rfl,rfl⟩ _);(repeat first|refine tA rfl ?_ |(refine s4 rfl ‹_› rfl ?_ ?_;omega) |refine aU rfl ?_ |refine Aa ?_)
    obtain⟨q,F⟩:∃q,q=p+1+1+1+1+1:=⟨_,rfl⟩
    obtain⟨m,G⟩:∃m,m=true:=⟨_,rfl⟩
    obtain⟨e,I⟩:∃e:DW,e=⟨f,x,t⟩:=⟨_,rfl⟩
    refine Aj.Ay [0,3,6] [1,2,3] rfl rfl [(4,.o (.ptr 1 3 0 0)),(5,.o (.ptr 2 3 0 0)),(7,.o (.ptr 4 3 0 0)),(9,eB m),(10,eI .i64 0)] [(0,Bn b q),(4,.cells 126 3 [A9 e])] [0,1,2,3,4] (rl a rfl) (by (simp[cX,zC,a,cN,F,G,I,Ae,eC])) ?_;(try dsimp only[cA,cB]);exact hk q m e ⟨by omega,by omega⟩
   ·(repeat' first|refine sN rfl ?_ |refine tA rfl ?_ |refine s2 rfl λ_ j=>?_ |refine aU rfl ?_ |refine Aa ?_|(refine aC rfl ?_ ?_<;>rintro⟨⟩));all_goals try contradiction
    all_goals first
     | (exfalso;(simp only[oZ] at *;omega);done)
     | skip
    refine aK ?_;(repeat first|refine tA rfl ?_ |refine aU rfl ?_ |refine Aa ?_)
    obtain⟨q,F⟩:∃q,q=p+1+1+1+1:=⟨_,rfl⟩
    obtain⟨m,G⟩:∃m,m=false:=⟨_,rfl⟩
    obtain⟨e,I⟩:∃e:DW,e=⟨f,0,t⟩:=⟨_,rfl⟩
    refine Aj.Ay [0,3,6] [1,2,3] rfl rfl [(4,.o (.ptr 1 3 0 0)),(5,.o (.ptr 2 3 0 0)),(7,.o (.ptr 4 3 0 0)),(9,eB m),(10,eI .i64 0)] [(0,Bn b q),(4,.cells 126 3 [A9 e])] [0,1,2,3,4] (rl a rfl) (by (simp[cX,zC,a,cN,F,G,I,Ae,eC])) ?_;(try dsimp only[cA,cB]);exact hk q m e ⟨by omega,by omega⟩
  ·(repeat' first|refine sN rfl ?_ |refine tA rfl ?_ |refine s2 rfl λ_ j=>?_ |refine sP rfl (H) rfl ?_ |refine s3 rfl ?_ ?_<;>rintro rfl |refine aU rfl ?_ |refine Aa ?_|(refine aC rfl ?_ ?_<;>rintro⟨⟩));all_goals try contradiction
   all_goals first
    | (exfalso;(simp only[oZ] at *;omega);done)
    | skip
   refine aK ?_;(repeat first|refine tA rfl ?_ |refine aU rfl ?_ |refine Aa ?_)
   obtain⟨q,F⟩:∃q,q=p+1+1+1:=⟨_,rfl⟩
   obtain⟨m,G⟩:∃m,m=false:=⟨_,rfl⟩
   obtain⟨e,I⟩:∃e:DW,e=⟨f,0,t⟩:=⟨_,rfl⟩
   refine Aj.Ay [0,3,6] [1,2,3] rfl rfl [(4,.o (.ptr 1 3 0 0)),(5,.o (.ptr 2 3 0 0)),(7,.o (.ptr 4 3 0 0)),(9,eB m),(10,eI .i64 0)] [(0,Bn b q),(4,.cells 126 3 [A9 e])] [0,1,2,3,4] (rl a rfl) (by (simp[cX,zC,a,cN,F,G,I,Ae,eC])) ?_;(try dsimp only[cA,cB]);exact hk q m e ⟨by omega,by omega⟩
 case h =>
  intro q P e F;refine aB ?_;refine aL (α:={s:Nat×Bool×List DW // s.1<=y.es.length/\s.2.2.length+(bif s.2.1 then 1 else 0)<=s.1+1}) [0,3,4,5,6,7] [0,1,4] rfl rfl (λs=>[(9,eB s.1.2.1),(10,eI .i64 s.1.1)]) (λs=>[(2,.cells 25 3 [[.d (iD y.al),.d (iD y.st),.arr 3 3 0 s.1.2.2.length]]),(3,.cells 126 3 (s.1.2.2.map A9))]) 5 (λs=>y.es.length - s.1.1) (⟨⟨0,P,[]⟩,by simp,by cases P<;>simp⟩) a rfl (by (simp[cX,zC,a,cN])) ?_;rintro⟨⟨k,m,l⟩,hk,v⟩;(try dsimp only[cA,cB]);have hk:k<=y.es.length:=hk;have v:l.length+(bif m then 1 else 0)<=k+1:=v;by_cases M:k < y.es.length
  ·obtain⟨d, Y⟩:=get_some M
   have N:=get_map (g:=Df) Y
   have X:(y.es.map Df)[((k:Nat):Int).toNat]? = some (Df d):=by rw [i7];exact N
   have u:=IZ (TB:=TB) e d;(repeat first|refine sN rfl ?_ |refine tA rfl ?_ |refine s2 rfl λ_ j=>?_ |refine aU rfl ?_ |refine Aa ?_)
   ((refine aC rfl ?_ ?_<;>rintro⟨⟩);all_goals try(exfalso;(simp only[oZ] at *;omega)))
   refine aK ?_;refine aS (aB ?_);cases m
   ·have v:l.length<=k+1:=by simpa using v
    (repeat first|refine aU rfl ?_);refine rG (Gj []) (by kernel_rfl) ?_
    (repeat' first|refine tA rfl ?_ |refine Aa ?_|(refine aC rfl ?_ ?_<;>rintro⟨⟩));all_goals try contradiction
    refine aK ?_;(repeat first|refine aU rfl ?_);refine rG (Gj []) (by kernel_rfl) ?_
    (repeat' first|refine tA rfl ?_ |refine Aa ?_|(refine aC rfl ?_ ?_<;>rintro⟨⟩));all_goals try contradiction
    refine aK ?_;by_cases A:(k:Int)=g
    ·(repeat first|refine tA rfl ?_ |refine s2 rfl λ_ j=>?_ |refine aU rfl ?_ |refine Aa ?_)
     ((refine aC rfl ?_ ?_<;>rintro⟨⟩);all_goals try(exfalso;(simp only[oZ] at *;omega)))
     refine aK ?_;(repeat first|(refine sA rfl ?_ ?_;first|exact tI|omega) |refine aU rfl ?_ |refine Aa ?_);refine⟨⟨⟨k+1,false,l⟩,by dsimp only;omega,by (simp;omega)⟩,by dsimp only;(omega),[0,1,2,3,4],?_⟩;simp[cX,zC,a,cN,Ae,eC]
    ·(repeat first|refine tA rfl ?_ |refine s2 rfl λ_ j=>?_ |refine aU rfl ?_ |refine Aa ?_)
     ((refine aC rfl ?_ ?_<;>rintro⟨⟩);all_goals try(exfalso;(simp only[oZ] at *;omega)))
     refine rG (JU [(1,12),(8,1),(10,1)]) (by kernel_rfl) ?_;(repeat first|refine tA rfl ?_ |(refine s4 rfl ‹_› rfl ?_ ?_;omega));(refine pW rfl ?_ rfl (by rfl);refine Al rfl rfl rfl (by first| (simp;done)|(simp;(omega))) rfl (by intro r n;simp at n;subst n;rfl) (by rfl) (am rfl) (by simp;omega) ?_);(repeat first|(refine sA rfl ?_ ?_;first|exact tI|omega) |refine aU rfl ?_ |refine Aa ?_);refine⟨⟨⟨k+1,false,l++[d]⟩,by dsimp only;omega,by (simp;omega)⟩,by dsimp only;(omega),[0,1,2,5,4],?_⟩;simp[cX,zC,a,cN,Ae,eC]
   ·have v : l.length<=k:=by simpa using v
    cases J:JO e d
    ·rw [J] at u
     cases B:ib e d
     ·(repeat first|refine aU rfl ?_)
      refine rG (Gj []) (by kernel_rfl) ?_
      (repeat' first|refine tA rfl ?_ |(refine s4 rfl ‹_› rfl ?_ ?_;omega) |refine sP rfl (u) rfl ?_ |refine Aa ?_|(refine aC rfl ?_ ?_<;>rintro⟨⟩));all_goals try contradiction
      refine aK ?_;(repeat first|refine aU rfl ?_);refine rG (Gj []) (by kernel_rfl) ?_
      (repeat' first|refine tA rfl ?_ |(refine s4 rfl ‹_› rfl ?_ ?_;omega)|(refine Ag rfl ?_;refine gA rfl ?_;first| refine gS (λ_ _=>B ▸ WD rfl rfl) ?_) |refine Aa ?_|(refine aC rfl ?_ ?_<;>rintro⟨⟩));all_goals try contradiction
      refine aK ?_;by_cases A:(k:Int)=g
      ·(repeat first|refine tA rfl ?_ |refine s2 rfl λ_ j=>?_ |refine aU rfl ?_ |refine Aa ?_)
       ((refine aC rfl ?_ ?_<;>rintro⟨⟩);all_goals try(exfalso;(simp only[oZ] at *;omega)))
       refine aK ?_;(repeat first|(refine sA rfl ?_ ?_;first|exact tI|omega) |refine aU rfl ?_ |refine Aa ?_);refine⟨⟨⟨k+1,true,l⟩,by dsimp only;omega,by (simp;omega)⟩,by dsimp only;(omega),[0,1,2,3,4],?_⟩;simp[cX,zC,a,cN,Ae,eC]
      ·(repeat first|refine tA rfl ?_ |refine s2 rfl λ_ j=>?_ |refine aU rfl ?_ |refine Aa ?_)
       ((refine aC rfl ?_ ?_<;>rintro⟨⟩);all_goals try(exfalso;(simp only[oZ] at *;omega)))
       refine rG (JU [(1,12),(8,1),(10,1)]) (by kernel_rfl) ?_;(repeat first|refine tA rfl ?_ |(refine s4 rfl ‹_› rfl ?_ ?_;omega));(refine pW rfl ?_ rfl (by rfl);refine Al rfl rfl rfl (by first| (simp;done)|(simp;(omega))) rfl (by intro r n;simp at n;subst n;rfl) (by rfl) (am rfl) (by simp;omega) ?_);(repeat first|(refine sA rfl ?_ ?_;first|exact tI|omega) |refine aU rfl ?_ |refine Aa ?_);refine⟨⟨⟨k+1,true,l++[d]⟩,by dsimp only;omega,by (simp;omega)⟩,by dsimp only;(omega),[0,1,2,5,4],?_⟩;simp[cX,zC,a,cN,Ae,eC]
     ·(repeat first|refine aU rfl ?_)
      refine rG (Gj []) (by kernel_rfl) ?_
      (repeat' first|refine tA rfl ?_ |(refine s4 rfl ‹_› rfl ?_ ?_;omega) |refine sP rfl (u) rfl ?_ |refine Aa ?_|(refine aC rfl ?_ ?_<;>rintro⟨⟩));all_goals try contradiction
      refine aK ?_;by_cases A:(k:Int)=g
      ·(repeat first|refine aU rfl ?_)
       refine rG (Gj []) (by kernel_rfl) ?_
       (repeat' first|refine tA rfl ?_ |(refine s4 rfl ‹_› rfl ?_ ?_;omega) |refine s2 rfl λ_ j=>?_|(refine Ag rfl ?_;refine gA rfl ?_;first| refine gS (λ_ _=>B ▸ WD rfl rfl) ?_) |refine aU rfl ?_ |refine Aa ?_|(refine aC rfl ?_ ?_<;>rintro⟨⟩));all_goals try contradiction
       all_goals first
        | (exfalso;(simp only[oZ] at *;omega);done)
        | skip
       refine aK ?_;(repeat first|(refine sA rfl ?_ ?_;first|exact tI|omega) |refine aU rfl ?_ |refine Aa ?_);refine⟨⟨⟨k+1,false,l⟩,by dsimp only;omega,by (simp;omega)⟩,by dsimp only;(omega),[0,1,2,3,4],?_⟩;simp[cX,zC,a,cN,Ae,eC]
      ·(repeat first|refine aU rfl ?_)
       refine rG (Gj []) (by kernel_rfl) ?_
       (repeat' first|refine tA rfl ?_ |(refine s4 rfl ‹_› rfl ?_ ?_;omega) |refine s2 rfl λ_ j=>?_|(refine Ag rfl ?_;refine gA rfl ?_;first| refine gS (λ_ _=>B ▸ WD rfl rfl) ?_) |refine aU rfl ?_ |refine Aa ?_|(refine aC rfl ?_ ?_<;>rintro⟨⟩));all_goals try contradiction
       all_goals first
        | (exfalso;(simp only[oZ] at *;omega);done)
        | skip
       refine rG (JU [(1,12),(8,1),(10,1)]) (by kernel_rfl) ?_;(repeat first|refine tA rfl ?_ |(refine s4 rfl ‹_› rfl ?_ ?_;omega));(refine pW rfl ?_ rfl (by rfl);refine Al rfl rfl rfl (by first| (simp;done)|(simp;(omega))) rfl (by intro r n;simp at n;subst n;rfl) (by rfl) (am rfl) (by simp;omega) ?_);(repeat first|(refine sA rfl ?_ ?_;first|exact tI|omega) |refine aU rfl ?_ |refine Aa ?_);refine⟨⟨⟨k+1,false,l++[d]⟩,by dsimp only;omega,by (simp;omega)⟩,by dsimp only;(omega),[0,1,2,5,4],?_⟩;simp[cX,zC,a,cN,Ae,eC]
    ·rw [J] at u
     (repeat first|refine aU rfl ?_);refine rG (Gj []) (by kernel_rfl) ?_
     (repeat' first|refine tA rfl ?_ |(refine s4 rfl ‹_› rfl ?_ ?_;omega) |refine sP rfl (u) rfl ?_ |refine aU rfl ?_ |refine Aa ?_|(refine aC rfl ?_ ?_<;>rintro⟨⟩));all_goals try contradiction
     (refine pW rfl ?_ rfl (by rfl);refine Al rfl rfl rfl (by first| (simp;done)|(simp;(omega))) rfl (by intro r n;simp at n;subst n;rfl) (by rfl) (am rfl) (by simp;omega) ?_);(repeat first|refine tA rfl ?_ |refine aU rfl ?_ |refine Aa ?_);refine rG (Gj []) (by kernel_rfl) ?_
     (repeat' first|refine tA rfl ?_ |refine Aa ?_|(refine aC rfl ?_ ?_<;>rintro⟨⟩));all_goals try contradiction
     refine aK ?_;by_cases A:(k:Int)=g
     ·(repeat first|refine tA rfl ?_ |refine s2 rfl λ_ j=>?_ |refine aU rfl ?_ |refine Aa ?_)
      ((refine aC rfl ?_ ?_<;>rintro⟨⟩);all_goals try(exfalso;(simp only[oZ] at *;omega)))
      refine aK ?_;(repeat first|(refine sA rfl ?_ ?_;first|exact tI|omega) |refine aU rfl ?_ |refine Aa ?_);refine⟨⟨⟨k+1,false,(l++[e])⟩,by dsimp only;omega,by (simp;omega)⟩,by dsimp only;(omega),[0,1,2,5,4],?_⟩;simp[cX,zC,a,cN,Ae,eC]
     ·(repeat first|refine tA rfl ?_ |refine s2 rfl λ_ j=>?_ |refine aU rfl ?_ |refine Aa ?_)
      ((refine aC rfl ?_ ?_<;>rintro⟨⟩);all_goals try(exfalso;(simp only[oZ] at *;omega)))
      refine rG (JU [(1,12),(8,1),(10,1)]) (by kernel_rfl) ?_;(repeat first|refine tA rfl ?_ |(refine s4 rfl ‹_› rfl ?_ ?_;omega));(refine pW rfl ?_ rfl (by rfl);refine Al rfl rfl rfl (by first| (simp;done)|(simp;(omega))) rfl (by intro r n;simp at n;subst n;rfl) (by rfl) (am rfl) (by simp;omega) ?_);(repeat first|(refine sA rfl ?_ ?_;first|exact tI|omega) |refine aU rfl ?_ |refine Aa ?_);refine⟨⟨⟨k+1,false,(l++[e])++[d]⟩,by dsimp only;omega,by (simp;omega)⟩,by dsimp only;(omega),[0,1,2,6,4],?_⟩;simp[cX,zC,a,cN,Ae,eC]
  ·obtain rfl:k=y.es.length:=by omega
   (repeat first|refine sN rfl ?_ |refine tA rfl ?_ |refine s2 rfl λ_ j=>?_ |refine aU rfl ?_ |refine Aa ?_)
   ((refine aC rfl ?_ ?_<;>rintro⟨⟩);all_goals try(exfalso;(simp only[oZ] at *;omega)))
   refine aE ?_;cases m
   ·have v:l.length<=y.es.length+1:=by simpa using v
    (repeat first|refine tA rfl ?_ |refine aU rfl ?_ |refine Aa ?_)
    ((refine aC rfl ?_ ?_<;>rintro⟨⟩);all_goals try (simp at j;done))
    refine aK ?_;(repeat first|refine tA rfl ?_ |refine aU rfl ?_ |refine Aa ?_);refine Aj.Ay [] [] rfl rfl [(4,.o (.ptr 1 3 0 0))] [(0,Bn b (q)),(1,.cells 25 3 [[.d (iD (y.al)),.d (iD (y.st)),.arr 2 3 0 (l).length]]),(2,.cells 126 3 ((l).map A9))] [0,1,3] (rl a rfl) (by (simp[cX,zC,a,cN,Ae,eC])) ?_;(try dsimp only[cA,cB]);refine Aj.AE [1,2] [(4,.o (.ip (AI ⟨y.al,y.st,l⟩)))] ⟨⟨_,rfl,.inr (.o (.box rfl (.cons .d (.cons .d (.cons (.full rfl (by simp [d5]) (by simp)) .nil)))))⟩,trivial⟩ ?_;refine aR ⟨_,rfl,[0],Bv ⟨y.al,y.st,l⟩,[(0,Bn b (q))],⟨by intro i hi;match i with|0=>rfl,by decide⟩,rfl,by (simp[cX,zC,a,cN]),q,⟨y.al,y.st,l⟩,by omega,by first|(simp;done)|(simp;omega),rfl,rfl,rfl⟩
   ·have v:l.length<=y.es.length:=by simpa using v
    (repeat first|refine tA rfl ?_ |refine aU rfl ?_ |refine Aa ?_)
    ((refine aC rfl ?_ ?_<;>rintro⟨⟩);all_goals try (simp at j;done))
    (repeat first|refine tA rfl ?_ |refine aU rfl ?_);(refine pW rfl ?_ rfl (by rfl);refine Al rfl rfl rfl (by first| (simp;done)|(simp;(omega))) rfl (by intro r n;simp at n;subst n;rfl) (by rfl) (am rfl) (by simp;omega) ?_);(repeat first|refine tA rfl ?_ |refine aU rfl ?_ |refine Aa ?_);refine Aj.Ay [] [] rfl rfl [(4,.o (.ptr 1 3 0 0))] [(0,Bn b (q)),(1,.cells 25 3 [[.d (iD (y.al)),.d (iD (y.st)),.arr 2 3 0 (l++[e]).length]]),(2,.cells 126 3 ((l++[e]).map A9))] [0,1,5] (rl a rfl) (by (simp[cX,zC,a,cN,Ae,eC])) ?_;(try dsimp only[cA,cB]);refine Aj.AE [1,2] [(4,.o (.ip (AI ⟨y.al,y.st,l++[e]⟩)))] ⟨⟨_,rfl,.inr (.o (.box rfl (.cons .d (.cons .d (.cons (.full rfl (by simp [d5]) (by simp)) .nil)))))⟩,trivial⟩ ?_;refine aR ⟨_,rfl,[0],Bv ⟨y.al,y.st,l++[e]⟩,[(0,Bn b (q))],⟨by intro i hi;match i with|0=>rfl,by decide⟩,rfl,by (simp[cX,zC,a,cN]),q,⟨y.al,y.st,l++[e]⟩,by omega,by first|(simp;done)|(simp;omega),rfl,rfl,rfl⟩
end Go.Am
