/-
  The reference's step from a set of states; its closure: walked.
-/
import Derived.Test.YtohfiindiidcfaaGreatDoorPart30
import Derived.Test.YtohfiindiidcfaaGreatDoorPart32
import Derived.Laws.StructEq
set_option linter.all false
namespace Go.Am
open Go Go.Proofs
set_option maxHeartbeats 1000000
set_option maxRecDepth 4000
attribute [local irreducible] A6 Cz Lex Bv Aj Spec
variable {TB:BF}
theorem Xa{es:List Ee}{l:Int}{m k:Nat}{e:Ee}(a:es[k]? = some e):Cq (es.take (k+1)) l m=if e.l=l/\m.testBit e.f.toNat=true then Cq (es.take k) l m ||| 2 ^ e.t.toNat else Cq (es.take k) l m:=by
 unfold Cq;rw [d8,a,qB];rfl
theorem UK{s:Sys}(hs:AW s=true){l:Int}{m k:Nat}:Cq (s.es.take k) l m < 65536:=Jw λj a=>by
 obtain⟨e,b,_,rfl⟩:=DO.1 a;have hb:=Df hs (ol b);have c:=AO hs;unfold DF at hb;simp only [d4,decide_eq_true_eq] at hb;omega
theorem Ry{s:Sys}(hs:AW s=true)(l:Int){m:Nat}(B:m < 65536):Pure Tryz.prog TB 201 [Bp s,eI .i64 (m:Nat),eI .i64 l] (eI .i64 (Cq s.es l m:Nat)):=by
 have F:=AO hs;refine eG Tryz.func201 rfl (by kernel_rfl) rfl ?_;intro Γ d;refine Aj.bound 0 rfl λv=>?_;have A:=v (s.es.map Dj) ⟨2,_,rfl,.refl⟩;rw [gt] at A;(repeat first|refine tA rfl ?_ |refine aU rfl ?_ |apply Aa);apply aB;refine aL (α:={k:Nat // k<=s.es.length}) [1,2,3] [] rfl rfl (λ⟨k,hk⟩=>[(7,eI .i64 (Cq (s.es.take k) l m:Nat)),(8,eI .i64 k)]) (λ⟨k,hk⟩=>[]) 0 (λ⟨k,hk⟩=>s.es.length - k) (⟨0,by omega⟩) d rfl (by (simp[cX,zC,d]<;>rfl)) ?_;rintro⟨k,hk⟩;(try dsimp only[cA,cB]);by_cases p:k < s.es.length
 ·obtain⟨e,r⟩:=get_some p
  have q:=get_map (g:=Dj) r
  have z:(s.es.map Dj)[((k:Nat):Int).toNat]? = some (Dj e):=by rw [io];exact q
  have hb:=Df hs (co r);unfold DF at hb;simp only [d4,decide_eq_true_eq] at hb;have i:=Xa (l:=l) (m:=m) r;have w:=UK hs (l:=l) (m:=m) (k:=k);have j:=C4 (TB:=TB) (m:Nat) e.f (by omega) (by omega);rw [Di (by omega) (by omega)] at j;have u:=UD (TB:=TB) e.t (by omega) (by omega)
  have y:2 ^ e.t.toNat < 65536:=by
   have:2 ^ e.t.toNat<=2 ^ 15:=oY (by omega) (by omega);omega
  have o:=Ov (a:=Cq (s.es.take k) l m) (b:=2 ^ e.t.toNat) (by omega) (by omega);generalize 2 ^ e.t.toNat=x at *;(repeat first|refine sN rfl ?_ |refine tA rfl ?_ |refine s2 rfl λ_ c=>?_ |refine aU rfl ?_ |apply Aa)
  ((refine aC rfl ?_ ?_<;>rintro⟨⟩);all_goals try(exfalso;(simp only[oZ] at *;omega)))
  apply aK;refine aS (aB ?_)
  (repeat' first|(refine sA rfl ?_ ?_;first|exact tI|omega) |(refine s4 rfl ‹_› rfl ?_ ?_;omega) |refine s2 rfl λ_ c=>?_ |(refine sC rfl (j) ?_;intro _ c)|refine sP rfl (u) rfl ?_ |refine s3 rfl ?_ ?_<;>rintro rfl |refine aU rfl ?_ |apply Aa|(refine aC rfl ?_ ?_<;>rintro⟨⟩));all_goals try contradiction
  ·refine⟨⟨k+1,by omega⟩,by dsimp only;(omega),[],?_⟩
   have n:Cq (s.es.take (k+1)) l m=Cq (s.es.take k) l m ||| x:=by rw [i,if_pos ⟨by simpa using ‹decide (e.l=l)=true›,c⟩]
   simp[cX,zC,d,o,n]
  ·have n:Cq (s.es.take (k+1)) l m=Cq (s.es.take k) l m:=by rw [i,if_neg (by simp [c])]
   apply aK;(repeat first|(refine sA rfl ?_ ?_;first|exact tI|omega) |refine aU rfl ?_ |apply Aa);refine⟨⟨k+1,by omega⟩,by dsimp only;(omega),[],?_⟩;simp[cX,zC,d,n]
  ·have n:Cq (s.es.take (k+1)) l m=Cq (s.es.take k) l m:=by rw [i,if_neg (λh=>by simp [h.1] at c)]
   apply aK;(repeat first|(refine sA rfl ?_ ?_;first|exact tI|omega) |refine aU rfl ?_ |apply Aa);refine⟨⟨k+1,by omega⟩,by dsimp only;(omega),[],?_⟩;simp[cX,zC,d,n]
 ·obtain rfl:k=s.es.length:=by omega
  rw [ge];(repeat first|refine sN rfl ?_ |refine tA rfl ?_ |refine s2 rfl λ_ c=>?_ |refine aU rfl ?_ |apply Aa)
  ((refine aC rfl ?_ ?_<;>rintro⟨⟩);all_goals try(exfalso;(simp only[oZ] at *;omega)))
  apply aE;(repeat first|refine tA rfl ?_ |refine aU rfl ?_ |apply Aa);(subst_vars;exact aR ⟨_,rfl,rfl⟩)
abbrev Nf(n:Nat)(F:PS):List Int:=(List.range n).map λp=>(F p:Int)
def Cl(t:CM)(G:PS)(i k:Nat):Prop:=∀p,p < t.q.nx.length->∀l∈Cv t,(p < i\/(p=i/\l∈(Cv t).take k))->∀j,(Cq t.s.es l (G p)).testBit j=true->(G (CC t.q p l).toNat).testBit j=true
structure TQ (t:CM) (F0 F:PS) (i k:Nat) (G:PS) (b:Bool):Prop where
 ok:C1 t G
 lo:∀p j,(F0 p).testBit j=true->(G p).testBit j=true
 hi:∀p j,(G p).testBit j=true->Ql t F0 p j
 le:∀p,F p<=G p
 yes:b=true->Og G < Og F
 no:b=false->G=F/\Cl t F i k
theorem fR{F G:PS}(h:∀p,F p<=G p):Og G<=Og F:=by
 unfold Og
 repeat' apply Nat.add_le_add
 all_goals exact Nat.sub_le_sub_left (h _) _
def XB(G:PS)(x v:Nat):PS:=λp=>if p=x then v else G p
theorem TQ.PZ{t:CM}(ht:Bg t=true){F0 F G:PS}{i k:Nat}{b:Bool}(h:TQ t F0 F i k G b)(hi:i < t.q.nx.length){l:Int}(hk:(Cv t)[k]? = some l){x:Nat}(u:CC t.q i l=(x:Int))(m:G x ||| Cq t.s.es l (G i)≠G x):TQ t F0 F i (k+1) (XB G x (G x ||| Cq t.s.es l (G i))) true:=by
 have r:=co hk;have d:=DN ht r;have w:=Ds (CA ht) hi d.1 d.2.1;have c:=Jo ht (l:=l) (h.ok.lt i);unfold Dm at c;rw [if_pos d.2.2] at c
 have f:G x ||| Cq t.s.es l (G i) < 65536:=by have:=pT (n:=16) (h.ok.lt x) c;omega
 have g:∀p,G p<=XB G x (G x ||| Cq t.s.es l (G i)) p:=λp=>by
  unfold XB;split
  ·rename_i e;subst e;exact Nat.left_le_or
  ·exact i8 _
 refine⟨⟨λp=>?_,λp v=>?_⟩,λp j a=>?_,λp j a=>?_,λp=>lc (h.le p) (g p),λ_=>?_,λh=>by cases h⟩
 ·unfold XB
  split
  ·exact f
  ·exact h.ok.lt p
 ·unfold XB
  rw [if_neg (by omega)];exact h.ok.z p v
 ·have:=h.lo p j a
  unfold XB;split
  ·rename_i e;subst e;rw [pC,this];rfl
  ·exact this
 ·unfold XB at a
  split at a
  ·rename_i e
   subst e;rw [pC,og] at a
   rcases a with a|a
   ·exact h.hi p j a
   ·obtain⟨e,o,⟨B,A⟩,y⟩:=DO.1 a
    subst B;have:=Ql.step (h.hi i _ A) o r rfl;rw [u,y] at this
    simpa using this
  ·exact h.hi p j a
 ·have H:=fR h.le
  refine lw (YE h.ok.lt (λp=>?_) g λo=>m ?_) H
  ·unfold XB
   split
   ·exact f
   ·exact h.ok.lt p
  ·have I:=AG (CA ht)
   have:=Th o x (by omega)
   simpa [XB] using this
theorem TQ.lO{t:CM}(ht:Bg t=true){F0 F G:PS}{i k:Nat}{b:Bool}(h:TQ t F0 F i k G b){l:Int}(hk:(Cv t)[k]? = some l){x:Nat}(m:CC t.q i l=(x:Int))(n:G x ||| Cq t.s.es l (G i)=G x):TQ t F0 F i (k+1) G b:=
 ⟨h.ok, h.lo,h.hi,h.le,h.yes,λhb=>by
  obtain⟨rfl,g⟩:=h.no hb;refine⟨rfl,λp f l' c d j e=>?_⟩
  rcases d with a|⟨rfl,a⟩
  ·exact g p f l' c (.inl a) j e
  ·rw [d8,hk] at a
   rcases em.1 a with a|a
   ·exact g p f l' c (.inr ⟨rfl,a⟩) j e
   ·simp at a
    subst a
    rw [m,io,<-n,pC,e,qH]⟩
theorem TQ.row{t:CM}{F0 F G:PS}{i:Nat}{b:Bool}(h:TQ t F0 F i (Cv t).length G b):TQ t F0 F (i+1) 0 G b:=
 ⟨h.ok,h.lo,h.hi,h.le,h.yes,λhb=>by
  obtain⟨rfl,f⟩:=h.no hb;refine⟨rfl,λp d l' a c j e=>?_⟩
  rcases c with k|⟨rfl,k⟩
  ·rcases oK p i with g|g
   ·exact f p d l' a (.inl g) j e
   ·exact f p d l' a (.inr ⟨by omega,by rw [ge];exact a⟩) j e
  ·simp at k⟩
theorem TQ.done{t:CM}(ht:Bg t=true){F0 F G:PS}(e:C1 t F0)(h:TQ t F0 F t.q.nx.length 0 G false):G=Sw t F0:=by
 obtain⟨rfl,d⟩:=h.no rfl;exact bT ht e h.ok.z h.lo h.hi λp l j a b c=>d p a l b (.inl a) j c
theorem gL{a b:Int}(ha:A8 a=true)(hb:A8 b=true):a - Gi .i64 a b=Hn .i64 a b/\0<=Gi .i64 a b/\Gi .i64 a b<=63:=by
 have key:((List.range 64).all λx=>(List.range 64).all λy=>decide (((x:Nat):Int) - Gi .i64 (x:Nat) (y:Nat)=Hn .i64 (x:Nat) (y:Nat)/\0<=Gi .i64 (x:Nat) (y:Nat)/\Gi .i64 (x:Nat) (y:Nat)<=63))=true:=by kernel_rfl
 unfold A8 at ha hb;simp only [decide_eq_true_eq] at ha hb;have d:=f7.1 key a.toNat (oc.2 (by omega));have c:=f7.1 d b.toNat (oc.2 (by omega));rw [qN ha.1,qN hb.1] at c;exact of_decide_eq_true c
abbrev l6(r:Ee×Bool):E:=.t [(true,(Be r.1)),(false,[.d (bD r.2)])]
theorem WR(a:W)(hs:a.length<=1000000):Spec Tryz.prog TB 154 [] 0 [eT a] (Em (λ_:Ee×Bool=>True) l6):=by
 refine eR Tryz.func154 rfl (by kernel_rfl) rfl ?_;intro Γ b;(repeat first|refine tA rfl ?_ |refine aU rfl ?_ |apply Aa);apply aB;refine aL (α:={k:Nat // k<=a.length}) [0] [] rfl rfl (λs=>[(2,.o (.ptr 0 3 0 0)),(4,eI .i64 s.1)]) (λs=>[(0,.cells 116 3 [Be ⟨0,0,0⟩])]) 1 (λs=>a.length - s.1) (⟨0,by omega⟩) b rfl (by (simp[cX,zC,b,cN])) ?_;rintro⟨k,hk⟩;(try dsimp only[cA,cB]);by_cases p:k < a.length
 ·obtain⟨c,r⟩:=get_some (l:=a) (k:=(k:Int).toNat) (by omega)
  have q:=c.toNat_lt;have j:=Ir (TB:=TB) a k c r;(repeat first|refine tA rfl ?_ |refine s2 rfl λ_ d=>?_ |refine aU rfl ?_ |apply Aa)
  ((refine aC rfl ?_ ?_<;>rintro⟨⟩);all_goals try(exfalso;(simp only[oZ] at *;omega)))
  apply aK;refine aS (aB ?_)
  (repeat' first|refine tA rfl ?_ |(refine s4 rfl ‹_› rfl ?_ ?_;omega) |refine s2 rfl λ_ d=>?_ |refine s3 rfl ?_ ?_<;>rintro rfl |refine aU rfl ?_ |apply Aa|(refine aC rfl ?_ ?_<;>rintro⟨⟩));all_goals try contradiction
  all_goals first| (exfalso;omega;done)|skip
  ·(repeat first| (refine Af rfl ?_;refine gA rfl ?_;first| refine gS (λ_ _=>YY rfl rfl (by omega) (by omega)) ?_))
   (refine pW rfl ?_ rfl (by rfl);refine Ai [] rfl rfl (JA (TB:=TB) (a.take (k:Int).toNat) (by simp;omega)) ⟨rfl,by decide,by decide⟩ rfl trivial ?_;rintro n g h ⟨⟨f,t⟩,_,rfl,rfl,rfl⟩ _);(repeat first|(refine sA rfl ?_ ?_;first|exact tI|omega)|(refine Af rfl ?_;refine gA rfl ?_;first| refine gS (λ_ _=>Ep rfl rfl (by omega) (by omega)) ?_) |refine aU rfl ?_ |apply Aa);(refine pW rfl ?_ rfl (by rfl);refine Ai [] rfl rfl (JA (TB:=TB) (a.drop ((k:Int)+1).toNat) (by simp;omega)) ⟨rfl,by decide,by decide⟩ rfl trivial ?_;rintro n g h ⟨⟨e,m⟩,_,rfl,rfl,rfl⟩ _);(repeat' first|refine tA rfl ?_ |refine sP rfl (j) rfl ?_|(refine Af rfl ?_;refine gA rfl ?_;first| refine gS (λ_ _=>AB rfl rfl (by rfl) (by rfl)) ?_) |refine s3 rfl ?_ ?_<;>rintro rfl |refine aU rfl ?_ |apply Aa|(refine aC rfl ?_ ?_<;>rintro⟨⟩))
   all_goals first
    | exact aR ⟨_,rfl,[],l6 (⟨f,(c.toNat:Int) - 97,e⟩,m),[],⟨λi hi=>absurd hi (kw i),lm⟩,rfl,trivial,(⟨f,(c.toNat:Int) - 97,e⟩,m),trivial,rfl,rfl,rfl⟩
    | exact aR ⟨_,rfl,[],l6 (⟨f,(c.toNat:Int) - 97,e⟩,false),[],⟨λi hi=>absurd hi (kw i),lm⟩,rfl,trivial,(⟨f,(c.toNat:Int) - 97,e⟩,false),trivial,rfl,rfl,rfl⟩
  all_goals
   apply aK;(repeat first|(refine sA rfl ?_ ?_;first|exact tI|omega) |refine aU rfl ?_ |apply Aa);refine⟨⟨k+1,by omega⟩,by dsimp only;(omega),[0],?_⟩;(simp[cX,zC,b,cN]<;>rfl)
 ·(repeat first|refine tA rfl ?_ |refine s2 rfl λ_ d=>?_ |refine aU rfl ?_ |apply Aa)
  ((refine aC rfl ?_ ?_<;>rintro⟨⟩);all_goals try(exfalso;(simp only[oZ] at *;omega)))
  apply aE;(repeat first|refine tA rfl ?_|(refine Af rfl ?_;refine gA rfl ?_;first| refine gS (λ_ _=>AB rfl rfl (by rfl) (by rfl)) ?_) |refine aU rfl ?_ |apply Aa);exact aR ⟨_,rfl,[],l6 (⟨0,0,0⟩,false),[],⟨λi hi=>absurd hi (kw i),lm⟩,rfl,trivial,(⟨0,0,0⟩,false),trivial,rfl,rfl,rfl⟩
theorem IH(y:Sys)(hb:y.es.length<=100000):Spec Tryz.prog TB 155 [] 0 [Bp y] (Em (λr:W=>r.length<=1000000) eT):=by
 have A:=Cf (TB:=TB) y;refine eR Tryz.func155 rfl (by kernel_rfl) rfl ?_;intro Γ d;(repeat first|refine tA rfl ?_ |refine s2 rfl λ_ a=>?_ |(refine sC rfl (A) ?_;intro _ a) |refine aU rfl ?_ |apply Aa);(refine aC rfl ?_ ?_<;>rintro⟨⟩)
 ·(repeat first|refine tA rfl ?_ |refine aU rfl ?_ |apply Aa)
  exact aR ⟨_,rfl,[],eT [],[],⟨λi hi=>absurd hi (kw i),lm⟩,rfl,trivial,[],oV _,rfl,rfl,rfl⟩
 have h:AW y=true:=by (simp at a;subst a;assumption)
 have K:=AO h;apply aK;(repeat first|refine aU rfl ?_);refine rG ⟨Gh [(2,1),(6,1)],bg [0,1,4,5,2,3,6,7,8]⟩ (by kernel_rfl) ?_;(repeat first|refine tA rfl ?_);(refine pW rfl ?_ rfl (by rfl);refine Ai [] rfl rfl (EM (TB:=TB) y.al) ⟨rfl,by decide,by decide⟩ rfl trivial ?_;rintro j b c ⟨u,x,rfl,rfl,rfl⟩ _);(repeat first|(refine sA rfl ?_ ?_;simp only[oZ] at *;omega));(refine pW rfl ?_ rfl (by rfl);refine Ai [] rfl rfl (HO (TB:=TB) y.st (by omega)) ⟨rfl,by decide,by decide⟩ rfl trivial ?_;rintro j b c ⟨q,v,rfl,rfl,rfl⟩ _);(repeat first|(refine sA rfl ?_ ?_;first|exact tI|simp only[oZ] at *;omega) |refine aU rfl ?_ |apply Aa);apply aB;refine aL (α:={z:Nat×W // z.1<=y.es.length/\z.2.length<=10+9*z.1}) [1] [] rfl rfl (λs=>[(3,eT s.1.2),(4,eI .i64 s.1.1)]) (λs=>[]) 0 (λs=>y.es.length - s.1.1) (⟨⟨0,u++[32]++q⟩,by simp;omega⟩) d rfl (by (simp[cX,zC,d])) ?_;rintro⟨⟨k,w⟩,hk,o⟩;(try dsimp only[cA,cB]);have hk:k<=y.es.length:=hk;have o:w.length<=10+9*k:=o;by_cases m:k < y.es.length
 ·obtain⟨e,p⟩:=get_some m
  have n:=get_map (g:=Dj) p
  have F:(y.es.map Dj)[((k:Nat):Int).toNat]? = some (Dj e):=by rw [io];exact n
  have hb:=Df h (co p);unfold DF at hb;simp only [d4,decide_eq_true_eq] at hb;(repeat first|refine sN rfl ?_ |refine tA rfl ?_ |refine s2 rfl λ_ a=>?_ |refine aU rfl ?_ |apply Aa)
  ((refine aC rfl ?_ ?_<;>rintro⟨⟩);all_goals try(exfalso;(simp only[oZ] at *;omega)))
  apply aK;refine aS (aB ?_);(repeat first|refine tA rfl ?_ |(refine s4 rfl ‹_› rfl ?_ ?_;omega) |refine aU rfl ?_ |apply Aa);refine rG ⟨Gh [(3,10),(7,10),(11,10),(4,1001),(12,1001)],bg [0,1,2,3,6,7,10,11,4,5,8,9,12,13,14]⟩ (by kernel_rfl) ?_;(repeat first|(refine sA rfl ?_ ?_;first|exact tI|simp only[oZ] at *;omega));(refine Af rfl ?_;refine C6 ?_ rfl ⟨rfl,rfl⟩;refine Ai [] rfl rfl (HO (TB:=TB) e.f (by omega)) ⟨rfl,by decide,by decide⟩ rfl trivial ?_;rintro j b c ⟨J,H,rfl,rfl,rfl⟩ _;refine⟨Fg 0 rfl rfl,?_⟩);(repeat first|(refine sA rfl ?_ ?_;simp only[oZ] at *;omega) |refine sP rfl (HP e.l (by omega) (by omega)) rfl ?_);(refine Af rfl ?_;refine C6 ?_ rfl ⟨rfl,rfl⟩;refine Ai [] rfl rfl (HO (TB:=TB) e.t (by omega)) ⟨rfl,by decide,by decide⟩ rfl trivial ?_;rintro j b c ⟨I,G,rfl,rfl,rfl⟩ _;refine⟨Fg 0 rfl rfl,?_⟩);(repeat first|(refine sA rfl ?_ ?_;first|exact tI|omega|simp only[oZ] at *;omega) |refine aU rfl ?_ |apply Aa);refine⟨⟨⟨k+1,w++[32]++J++[UInt8.ofNat (97+e.l.toNat)]++I⟩,by dsimp only;omega,by simp;omega⟩,by dsimp only;(omega),[],?_⟩;(simp[cX,zC,d,cN]<;>rfl)
 ·have B:k=y.es.length:=by omega
  (repeat first|refine sN rfl ?_ |refine tA rfl ?_ |refine s2 rfl λ_ a=>?_ |refine aU rfl ?_ |apply Aa)
  ((refine aC rfl ?_ ?_<;>rintro⟨⟩);all_goals try(exfalso;(simp only[oZ] at *;omega)))
  apply aE;(repeat first|refine tA rfl ?_ |refine aU rfl ?_ |apply Aa);exact aR ⟨_,rfl,[],eT w,[],⟨λi hi=>absurd hi (kw i),lm⟩,rfl,trivial,w,by show w.length<=_;omega,rfl,rfl,rfl⟩
abbrev hY(r:Sys×Bool):E:=.t [(true,[.d (iD r.1.al),.d (iD r.1.st),.d (Eu r.1.es)]),(false,[.d (bD r.2)])]
def ND(al n:Int):List Ee->Ab
 | []=>[(1,.cells 25 3 [[.d (iD al),.d (iD n),.d (.v (.slice none 0 0))]])]
 | e::l=>[(1,.cells 25 3 [[.d (iD al),.d (iD n),.arr 2 3 0 (l.length+1)]]),(2,.cells 116 3 ((e::l).map Be))]
theorem GH(f:W)(hs:f.length<=10000):Spec Tryz.prog TB 104 [] 0 [eT f] (Em (λr:Sys×Bool=>r.1.es.length<=f.length+1) hY):=by
  refine eR Tryz.func104 rfl (by kernel_rfl) rfl ?_;intro Γ e;(repeat first|refine tA rfl ?_ |refine aU rfl ?_ |apply Aa);(refine pW rfl ?_ rfl (by rfl);refine Ai [] rfl rfl (MW (TB:=TB) f (by omega) 32) ⟨rfl,by decide,by decide⟩ rfl trivial ?_;rintro m b c ⟨ps,⟨R,Q,q⟩,rfl,rfl,rfl⟩ _);(repeat first|refine sN rfl ?_ |refine tA rfl ?_ |refine s2 rfl λ_ a=>?_ |refine aU rfl ?_ |apply Aa);by_cases S:ps.length < 2
  · ((refine aC rfl ?_ ?_<;>rintro⟨⟩);all_goals try(exfalso;(simp only[oZ] at *;omega)))
    (repeat first|refine tA rfl ?_|(refine Af rfl ?_;refine gA rfl ?_;first| refine gS (λ_ _=>AB rfl rfl (by rfl) (by rfl)) ?_) |refine aU rfl ?_ |apply Aa);exact aR ⟨_,rfl,[],hY (⟨0,0,[]⟩,false),[],⟨λi hi=>absurd hi (kw i),lm⟩,rfl,trivial,(⟨0,0,[]⟩,false),oV _,rfl,rfl,rfl⟩
  ((refine aC rfl ?_ ?_<;>rintro⟨⟩);all_goals try(exfalso;(simp only[oZ] at *;omega)))
  apply aK;obtain⟨K,X⟩:=get_some (l:=ps) (k:=(0:Int).toNat) (by simp;omega);have V:=get_map (g:=CQ) X;obtain⟨y,F⟩:=get_some (l:=ps) (k:=(1:Int).toNat) (by simp;omega);have U:=get_map (g:=CQ) F;have B:=q y (co F);(repeat first|refine tA rfl ?_ |(refine s4 rfl ‹_› rfl ?_ ?_;omega) |refine aU rfl ?_);(refine pW rfl ?_ rfl (by rfl);refine Ai [] rfl rfl (HD (TB:=TB) K) ⟨rfl,by decide,by decide⟩ rfl trivial ?_;rintro m b c ⟨⟨n,ok⟩,_,rfl,rfl,rfl⟩ _);(repeat first|refine tA rfl ?_ |(refine s4 rfl ‹_› rfl ?_ ?_;omega) |refine aU rfl ?_ |apply Aa);(refine pW rfl ?_ rfl (by rfl);refine Ai [] rfl rfl (JA (TB:=TB) y (by omega)) ⟨rfl,by decide,by decide⟩ rfl trivial ?_;rintro m b c ⟨⟨st,M⟩,_,rfl,rfl,rfl⟩ _);(repeat first|refine tA rfl ?_ |refine s2 rfl λ_ a=>?_ |refine s3 rfl ?_ ?_<;>rintro rfl |refine aU rfl ?_ |apply Aa)
  (repeat' first|refine tA rfl ?_ |refine s2 rfl λ_ a=>?_ |refine aU rfl ?_ |apply Aa|(refine aC rfl ?_ ?_<;>rintro⟨⟩));all_goals try contradiction
  all_goals first
    | ((repeat first|refine tA rfl ?_|(refine Af rfl ?_;refine gA rfl ?_;first| refine gS (λ_ _=>AB rfl rfl (by rfl) (by rfl)) ?_) |apply Aa)
       exact aR ⟨_,rfl,[],hY (⟨0,0,[]⟩,false),[],⟨λi hi=>absurd hi (kw i),lm⟩,rfl,trivial,(⟨0,0,[]⟩,false),oV _,rfl,rfl,rfl⟩
       done)
    | skip
  apply aK;(repeat first|refine tA rfl ?_|(refine Af rfl ?_;refine gA rfl ?_;first| refine gS (λ_ _=>PA rfl rfl (by rfl) (by rfl)) ?_) |refine aU rfl ?_ |apply Aa);apply aB;refine aL (α:={z:Nat×List Ee // (2<=z.1/\z.1<=ps.length)/\z.2.length+2=z.1}) [0,4] [] rfl rfl (λs=>[(2,.o (.ptr 0 3 0 0)),(9,.o (.ptr 1 3 0 0)),(10,eI .i64 s.1.1)]) (λs=>((0,.cells 25 3 [[.d (iD 0),.d (iD 0),.d (.l [])]])::ND n st s.1.2)) 3 (λs=>ps.length - s.1.1) (⟨⟨2,[]⟩,by simp;omega⟩) e rfl (by (simp[cX,zC,e,ND,cN])) ?_;rintro⟨⟨k,l⟩,hk,u⟩;(try dsimp only[cA,cB]);have hk:2<=k/\k<=ps.length:=hk;have u:l.length+2=k:=u;(repeat first|refine sN rfl ?_ |refine tA rfl ?_ |refine s2 rfl λ_ a=>?_ |refine aU rfl ?_ |apply Aa)
  ((refine aC rfl ?_ ?_<;>rintro⟨⟩);all_goals try (simp at a;done))
  · have x:k < ps.length:=by (simp only[oZ] at *;omega)
    obtain⟨w,A⟩:=get_some (l:=ps) (k:=k) x;have P:=get_map (g:=CQ) A;have N:=q w (co A);apply aK;refine aS (aB ?_);(repeat first|refine tA rfl ?_ |(refine s4 rfl ‹_› rfl ?_ ?_;omega) |refine aU rfl ?_);(refine pW rfl ?_ rfl (by rfl);refine Ai [] rfl rfl (WR (TB:=TB) w (by omega)) ⟨rfl,by decide,by decide⟩ rfl trivial ?_;rintro m b c ⟨⟨⟨I,H,G⟩,L⟩,_,rfl,rfl,rfl⟩ _);(repeat first|refine tA rfl ?_ |refine s2 rfl λ_ a=>?_ |refine aU rfl ?_ |apply Aa);(refine aC rfl ?_ ?_<;>rintro⟨⟩)
    · (repeat first|refine tA rfl ?_|(refine Af rfl ?_;refine gA rfl ?_;first| refine gS (λ_ _=>AB rfl rfl (by rfl) (by rfl)) ?_) |refine aU rfl ?_ |apply Aa)
      exact aR ⟨_,rfl,[],hY (⟨0,0,[]⟩,false),[],⟨λi hi=>absurd hi (kw i),lm⟩,rfl,trivial,(⟨0,0,[]⟩,false),oV _,rfl,rfl,rfl⟩
    apply aK
    cases l with
    | nil=>
      (repeat first|refine tA rfl ?_ |refine aU rfl ?_);(refine pW rfl ?_ rfl (by rfl);refine YJ 61 rfl ?_;refine EI rfl rfl rfl (by intro r p;simp at p;subst p;rfl) (by rfl) (am rfl) (by simp) (λh=>?_) (λ_=>?_))
      · exact absurd h (by simp)
      (repeat first|(refine sA rfl ?_ ?_;first|exact tI|omega) |refine aU rfl ?_ |apply Aa);refine⟨⟨⟨k+1,[⟨I,H,G⟩]⟩,⟨by dsimp only;omega,by dsimp only;omega⟩,by simp at u;simp;omega⟩,by dsimp only;(omega),[0,1,4],?_⟩;(simp[cX,zC,e,cN,ND,Ae,eC]<;>rfl)
    | cons j l=>
      (repeat first|refine tA rfl ?_ |refine aU rfl ?_);(refine pW rfl ?_ rfl (by rfl);refine Al rfl rfl rfl (by first| (simp;done)|(simp;(omega))) rfl (by intro r p;simp at p;subst p;rfl) (by rfl) (am rfl) (by simp at u |-;omega) ?_);(repeat first|(refine sA rfl ?_ ?_;first|exact tI|omega) |refine aU rfl ?_ |apply Aa);refine⟨⟨⟨k+1,j::(l++[⟨I,H,G⟩])⟩,⟨by dsimp only;omega,by dsimp only;omega⟩,by simp at u |-;omega⟩,by dsimp only;(omega),[0,1,4],?_⟩;(simp[cX,zC,e,cN,ND,Ae,eC]<;>rfl)
  apply aE
  have T:k=ps.length:=by (simp only[oZ] at *;omega)
  have t:l.length<=f.length+1:=by omega
  cases l with
  | nil=>
    refine Aj.AF [1] [(0,eT f),(2,.o (.ptr 0 3 0 0)),(9,.o (.ip (AL ⟨n,st,[]⟩)))] ⟨⟨_,rfl,.inl rfl⟩,⟨_,rfl,.inl rfl⟩,⟨_,rfl,.inr (.o (.box rfl (.cons .d (.cons .d (.cons .nl .nil)))))⟩,trivial⟩ ?_;(repeat first|refine tA rfl ?_ |refine aU rfl ?_);(refine pW rfl ?_ rfl (by rfl);refine Ai [] rfl rfl (IH (TB:=TB) ⟨n,st,[]⟩ (by simp)) ⟨rfl,by decide,by decide⟩ rfl trivial ?_;rintro m b c ⟨J,v,rfl,rfl,rfl⟩ _);(repeat first|refine tA rfl ?_ |refine s2 rfl λ_ a=>?_ |apply Aa);(refine aC rfl ?_ ?_<;>rintro⟨⟩)
    · (repeat first|refine tA rfl ?_|(refine Af rfl ?_;refine gA rfl ?_;first| refine gS (λ_ _=>AB rfl rfl (by rfl) (by rfl)) ?_) |refine aU rfl ?_ |apply Aa)
      exact aR ⟨_,rfl,[],hY (⟨0,0,[]⟩,false),[],⟨λi hi=>absurd hi (kw i),lm⟩,rfl,trivial,(⟨0,0,[]⟩,false),oV _,rfl,rfl,rfl⟩
    apply aK;(repeat first|refine tA rfl ?_ |refine aU rfl ?_ |apply Aa);exact aR ⟨_,rfl,[],hY (⟨n,st,[]⟩,true),[],⟨λi hi=>absurd hi (kw i),lm⟩,rfl,trivial,(⟨n,st,[]⟩,true),oV _,rfl,rfl,rfl⟩
  | cons j l=>
    refine Aj.AF [1,2] [(0,eT f),(2,.o (.ptr 0 3 0 0)),(9,.o (.ip (AL ⟨n,st,j::l⟩)))] ⟨⟨_,rfl,.inl rfl⟩,⟨_,rfl,.inl rfl⟩,⟨_,rfl,.inr (.o (.box rfl (.cons .d (.cons .d (.cons (.full rfl (by simp [d5]) (by simp)) .nil)))))⟩,trivial⟩ ?_;(repeat first|refine tA rfl ?_ |refine aU rfl ?_);(refine pW rfl ?_ rfl (by rfl);refine Ai [] rfl rfl (IH (TB:=TB) ⟨n,st,j::l⟩ (by simp at t |-;omega)) ⟨rfl,by decide,by decide⟩ rfl trivial ?_;rintro m b c ⟨J,v,rfl,rfl,rfl⟩ _);(repeat first|refine tA rfl ?_ |refine s2 rfl λ_ a=>?_ |apply Aa);(refine aC rfl ?_ ?_<;>rintro⟨⟩)
    · (repeat first|refine tA rfl ?_|(refine Af rfl ?_;refine gA rfl ?_;first| refine gS (λ_ _=>AB rfl rfl (by rfl) (by rfl)) ?_) |refine aU rfl ?_ |apply Aa)
      exact aR ⟨_,rfl,[],hY (⟨0,0,[]⟩,false),[],⟨λi hi=>absurd hi (kw i),lm⟩,rfl,trivial,(⟨0,0,[]⟩,false),oV _,rfl,rfl,rfl⟩
    apply aK;(repeat first|refine tA rfl ?_ |refine aU rfl ?_ |apply Aa);exact aR ⟨_,rfl,[],hY (⟨n,st,j::l⟩,true),[],⟨λi hi=>absurd hi (kw i),lm⟩,rfl,trivial,(⟨n,st,j::l⟩,true),t,rfl,rfl,rfl⟩
theorem Tg{n x v:Nat}{G:PS}:((Nf n G).map AE).set x (AE (v:Int))=(Nf n (XB G x v)).map AE:=by
 apply px;intro i;rw [rK];by_cases hi:i < n
 ·have a:∀H:PS,((Nf n H).map AE)[i]? = some (AE (H i:Int)):=λH=>by simp [hi]
  rw [a,a];unfold XB;by_cases e:x=i
  ·subst e;rw [if_pos rfl,if_pos (by simpa using hi),if_pos rfl]
  ·rw [if_neg e,if_neg (λh=>e h.symm)]
 ·have a:∀H:PS,((Nf n H).map AE)[i]? = none:=λH=>oa (by simp;omega)
  rw [a,a];by_cases e:x=i
  ·subst e;rw [if_pos rfl,if_neg (by simpa using hi)]
  ·rw [if_neg e]
theorem Tf{n x:Nat}{G:PS}(h:x < n):((Nf n G).map AE)[0+((x:Nat):Int).toNat]? = some (AE (G x:Int)):=by rw [n7,io];simp [h]
theorem TQ.start{t:CM}{F0 F:PS}(a:C1 t F)(c:∀p j,(F0 p).testBit j=true->(F p).testBit j=true)(b:∀p j,(F p).testBit j=true->Ql t F0 p j):TQ t F0 F 0 0 F false:=
 ⟨a,c,b,λ_=>i8 _,λh=>(by cases h),λ_=>⟨rfl,λp _ l _ h=>by simp at h⟩⟩
theorem Pm{t:CM}(ht:Bg t=true){F0:PS}(K:C1 t F0):Spec Tryz.prog TB 200 [(0,.cells 3 1 ((Nf t.q.nx.length F0).map AE))] 1 [Qu t,.o (.arr 0 1 0 t.q.nx.length)] (λx σ nx=>x=.o (.arr 0 1 0 t.q.nx.length)/\σ=[(0,.cells 3 1 ((Nf t.q.nx.length (Sw t F0)).map AE))]/\nx=1):=by
 have hs:AW t.s=true:=by unfold Bg at ht;simp only [d4] at ht;exact ht.1
 have A:A8 t.al=true:=by unfold Bg at ht;simp only [d4] at ht;exact ht.2.2
 have y:=AO hs;have g:=CA ht;have hah:=AG g;have H:=gL y.1 A;have I:=y.1;unfold A8 at I;simp only [decide_eq_true_eq] at I
 have Q:Pure Tryz.prog TB 85 [eI .i64 (t.s.al - Gi .i64 t.s.al t.al)] (Ak (Cv t)):=by
  have:=Cj (TB:=TB) (t.s.al - Gi .i64 t.s.al t.al);rw [H.1,Jh y.1 A] at this;rw [H.1];exact this
 have Y:(Cv t).length<=6:=by
  unfold Cv;have U:(Ac t.s.al).length<=6:=AM _ _;exact lc (pI _ _) U
 refine eR Tryz.func200 rfl (by kernel_rfl) rfl ?_;intro Γ c;(repeat first|(refine sA rfl ?_ ?_;first|exact tI|omega) |refine sP rfl (Q) rfl ?_ |refine aU rfl ?_ |apply Aa);apply aB;refine aL (α:={s:PS×Bool // C1 t s.1/\(∀p j,(F0 p).testBit j=true->(s.1 p).testBit j=true)/\(∀p j,(s.1 p).testBit j=true->Ql t F0 p j)/\(s.2=false->s.1=Sw t F0)}) [1,2,5] [] rfl rfl (λs=>[(6,eB s.1.2)]) (λs=>[(0,.cells 3 1 ((Nf t.q.nx.length s.1.1).map AE))]) 1 (λs=>(if s.1.2 then Og s.1.1+1 else 0)) (⟨⟨F0,true⟩,K,λ_ _ h=>h,λ_ _ h=>.base h,λh=>by cases h⟩) c rfl (by (simp[cX,zC,c])) ?_;rintro⟨⟨F,b⟩,T,U,h2,h3⟩;(try dsimp only[cA,cB]);have T:C1 t F:=T
 cases b with
 | false=>
  obtain rfl:F=Sw t F0:=h3 rfl;(repeat first|refine tA rfl ?_ |refine aU rfl ?_ |apply Aa);(refine aC rfl ?_ ?_<;>rintro⟨⟩);apply aE;(repeat first|refine tA rfl ?_ |refine aU rfl ?_ |apply Aa);refine aR ⟨_,rfl,[0],.o (.arr 0 1 0 t.q.nx.length),_,⟨by intro i hi;match i with|0=>rfl,by decide⟩,rfl,?_,rfl,rfl,rfl⟩;(simp[cX,zC,c])
 | true =>
  (repeat first|refine tA rfl ?_ |refine aU rfl ?_ |apply Aa);(refine aC rfl ?_ ?_<;>rintro⟨⟩);apply aK;apply aB;(repeat first|refine tA rfl ?_ |refine aU rfl ?_ |apply Aa);apply aB;refine aL (α:={s:Nat×PS×Bool // s.1<=t.q.nx.length/\TQ t F0 F s.1 0 s.2.1 s.2.2}) [1,2,5] [] rfl rfl (λs=>[(6,eB s.1.2.2),(7,eI .i64 s.1.1)]) (λs=>[(0,.cells 3 1 ((Nf t.q.nx.length s.1.2.1).map AE))]) 1 (λs=>t.q.nx.length - s.1.1) (⟨⟨0,F,false⟩,by simp,.start T U h2⟩) c rfl (by (simp[cX,zC,c])) ?_;rintro⟨⟨i,G,b⟩,hi,w⟩;(try dsimp only[cA,cB]);have hi:i<=t.q.nx.length:=hi;have w:TQ t F0 F i 0 G b:=w;by_cases u:i < t.q.nx.length
  ·(repeat first|refine tA rfl ?_ |refine s2 rfl λ_ d=>?_ |refine aU rfl ?_ |apply Aa)
   ((refine aC rfl ?_ ?_<;>rintro⟨⟩);all_goals try(exfalso;(simp only[oZ] at *;omega)))
   apply aK;refine aS (aB ?_);(repeat first|refine tA rfl ?_ |refine aU rfl ?_ |apply Aa);apply aB;refine aL (α:={s:Nat×PS×Bool // s.1<=(Cv t).length/\TQ t F0 F i s.1 s.2.1 s.2.2}) [1,2,5,7] [] rfl rfl (λs=>[(6,eB s.1.2.2),(8,eI .i64 s.1.1)]) (λs=>[(0,.cells 3 1 ((Nf t.q.nx.length s.1.2.1).map AE))]) 1 (λs=>(Cv t).length - s.1.1) (⟨⟨0,G,b⟩,by simp,w⟩) c rfl (by (simp[cX,zC,c])) ?_;rintro⟨⟨k,G',b'⟩,hk,e⟩;(try dsimp only[cA,cB]);have hk:k<=(Cv t).length:=hk;have e:TQ t F0 F i k G' b':=e;clear w;by_cases R:k < (Cv t).length
   ·obtain⟨l,r⟩:=get_some R
    have f:=DN ht (co r)
    have Z:((Cv t).map Br)[((k:Nat):Int).toNat]? = some (Br l):=by rw [io];simp [r]
    have J:=JC (TB:=TB) t.q g i u l f.1 f.2.1;have S:=Ds g u f.1 f.2.1
    obtain⟨x,L⟩:∃x:Nat,CC t.q i l=x:=⟨(CC t.q i l).toNat,by omega⟩
    rw [L] at J S;have M:=Ry (TB:=TB) hs l (e.ok.lt i)
    have X:Cq t.s.es l (G' i) < 65536:=by
     have:=UK hs (l:=l) (m:=G' i) (k:=t.s.es.length);rwa [ge] at this
    have r1:=Tf (n:=t.q.nx.length) (G:=G') (x:=x) (by omega);have r2:=Tf (n:=t.q.nx.length) (G:=G') (x:=i) u;have V:=e.ok.lt x;have z:=Ov (a:=G' x) (b:=Cq t.s.es l (G' i)) (by omega) (by omega);have B:=Tg (n:=t.q.nx.length) (x:=x) (v:=G' x ||| Cq t.s.es l (G' i)) (G:=G');(repeat first|refine sN rfl ?_ |refine tA rfl ?_ |refine s2 rfl λ_ d=>?_ |refine aU rfl ?_ |apply Aa)
    ((refine aC rfl ?_ ?_<;>rintro⟨⟩);all_goals try(exfalso;(simp only[oZ] at *;omega)))
    apply aK;refine aS (aB ?_);(repeat first|refine aU rfl ?_);refine rG (He []) (by kernel_rfl) ?_;(repeat first|refine tA rfl ?_ |(refine s4 rfl ‹_› rfl ?_ ?_;omega) |refine sP rfl (J) rfl ?_ |refine aU rfl ?_ |apply Aa);refine rG (He []) (by kernel_rfl) ?_;(repeat first|((first|refine sA rfl ?_ ?_|refine s4 rfl ‹_› rfl ?_ ?_);first|exact tI|omega) |refine s2 rfl λ_ d=>?_ |refine sP rfl (M) rfl ?_ |refine aU rfl ?_ |apply Aa);(refine aC rfl ?_ ?_<;>rintro⟨⟩)
    ·have P:G' x ||| Cq t.s.es l (G' i)≠G' x:=by
      rw [z] at d;simp only [decide_eq_true_eq] at d;omega
     (repeat first|(refine sA rfl ?_ ?_;first|exact tI|omega) |refine t4 rfl ‹_› rfl ?_ |refine aU rfl ?_ |apply Aa);have N:=e.PZ ht u r L P;generalize XB G' x (G' x ||| Cq t.s.es l (G' i))=G2 at *;refine⟨⟨⟨k+1,G2,true⟩,by omega,N⟩,by dsimp only;(omega),[0],?_⟩
     simp[cX,zC,c,z];simpa [d5] using B
    ·have he:G' x ||| Cq t.s.es l (G' i)=G' x:=by
      rw [z] at d;simp only [decide_eq_false_iff_not] at d;omega
     apply aK;(repeat first|(refine sA rfl ?_ ?_;first|exact tI|omega) |refine aU rfl ?_ |apply Aa);refine⟨⟨⟨k+1,G',b'⟩,by omega,e.lO ht r L he⟩,by dsimp only;(omega),[0],?_⟩;simp[cX,zC,c]
   ·obtain rfl:k=(Cv t).length:=by omega
    (repeat first|refine sN rfl ?_ |refine tA rfl ?_ |refine s2 rfl λ_ d=>?_ |refine aU rfl ?_ |apply Aa)
    ((refine aC rfl ?_ ?_<;>rintro⟨⟩);all_goals try(exfalso;(simp only[oZ] at *;omega)))
    apply aE;(repeat first|(refine sA rfl ?_ ?_;first|exact tI|omega) |refine aU rfl ?_ |apply Aa);refine⟨⟨⟨i+1,G',b'⟩,by omega,e.row⟩,by dsimp only;(omega),[0],?_⟩;simp[cX,zC,c]
  ·obtain rfl:i=t.q.nx.length:=by omega
   (repeat first|refine tA rfl ?_ |refine s2 rfl λ_ d=>?_ |refine aU rfl ?_ |apply Aa)
   ((refine aC rfl ?_ ?_<;>rintro⟨⟩);all_goals try(exfalso;(simp only[oZ] at *;omega)))
   apply aE;refine⟨⟨⟨G,b⟩,w.ok,w.lo,w.hi,λhb=>by have hb:b=false:=hb;subst hb;exact w.done ht K⟩,by cases b<;>simp_all [w.yes],[0],?_⟩;simp[cX,zC,c]
def fK(al n:Int)(l:List Ee):Ab:=(0,.cells 25 3 [[.d (iD 0),.d (iD 0),.d (.l [])]])::ND al n l
theorem WN(n:Int)(d:0<=n)(g:n<=16):Pure Tryz.prog TB 120 [eI .i64 n] (eI .i64 ((2 ^ n.toNat:Nat):Int)):=by
 have a:IntKind.i64.wrap (1*2 ^ (min n.toNat IntKind.i64.bits))=((2 ^ n.toNat:Nat):Int):=by
  have e:min n.toNat IntKind.i64.bits=n.toNat:=by
   have:IntKind.i64.bits=64:=rfl;omega
  rw [e,rA];have f:2 ^ n.toNat < 2 ^ 17:=qf (by omega) (by omega)
  have c:(2:Int) ^ n.toNat=((2 ^ n.toNat:Nat):Int):=by push_cast;rfl
  rw [c];generalize 2 ^ n.toNat=p at *;exact IntWalk.i64_in _ (by omega)
 refine eN Tryz.func120 rfl (by kernel_rfl) rfl ?_;intro Γ b;(repeat' first|(refine sA rfl ?_ ?_;first|exact tI|omega)|(refine Af rfl ?_;refine gA rfl ?_;first| refine gS (λ_ _=>dK rfl rfl d a) ?_) |refine aU rfl ?_ |apply Aa|(refine aC rfl ?_ ?_<;>rintro⟨⟩)|apply aK|apply aE|apply aB|refine aR ⟨_,rfl,?_⟩);rfl
abbrev nk(r:CM×Bool):E:=.t [(true,(Mn r.1).map .d),(false,[.d (bD r.2)])]
theorem Fp(b:List UInt8)(hb:b.length<=2000)(p:Int)(P:0<=p/\p < 800000000)(y:Sys)(N:y.es.length<=100000):Spec Tryz.prog TB 106 [(0,Bo b p)] 1 [.o (.ptr 0 2 0 0),Bp y] (KZ b p 5 (λs=>s.es.length<=y.es.length+1)):=by
 obtain⟨k,M,L,hk⟩:=Bn (TB:=TB) b hb p y.es.length (by omega);obtain⟨c,S,Q,K⟩:=Bn (TB:=TB) b hb (p+1) 30 (by omega);refine eR Tryz.func106 rfl (by kernel_rfl) rfl ?_;intro Γ a;(repeat first|refine tA rfl ?_ |refine aU rfl ?_ |apply Aa);refine R.QJ [(0,2),(1,2),(2,2),(3,2),(5,2),(6,2),(9,3),(4,1),(7,1),(8,0),(10,5)] mixed (by kernel_rfl) rfl (by kernel_rfl) ?_;(repeat ((refine R.Af rfl ?_;first|(refine R.yQ (md:=false) rfl rfl rfl ?_ ?_;exact tI) |refine R.yP rfl rfl rfl rfl ?_ )));(refine R.Af rfl ?_;refine R.JY (λ_=>?_) rfl rfl;refine Bk rfl rfl rfl rfl (by simp) (by rfl) (by rfl) (by rfl) (by rfl) ?_);(refine R.Af rfl ?_;refine R.JY (λ_=>?_) rfl rfl;refine Al rfl rfl rfl (by simp) rfl (by intro r u;simp only [o9,d9] at u;obtain⟨_,_,rfl⟩:=u;rfl) (by rfl) (am rfl) (by simp;omega) ?_);(repeat ((refine R.Af rfl ?_;first|refine R.yA rfl rfl rfl rfl ?_|refine R.CE (λ_ _ _=>AB rfl rfl (by rfl) (by rfl)) rfl rfl ?_ )));refine R.QE ?_;refine Aj.Ay [0] [] rfl rfl [(4,.o (.ptr 1 3 0 0)),(5,.o (.ptr 3 3 0 0))] [(0,Bo b p),(1,.cells 25 3 [[.d (iD 0),.d (iD 0),.d (.l [])]]),(2,.cells 116 3 (y.es.map Be)),(3,.cells 25 3 [[.d (iD y.al),.d (iD y.st),.arr 2 3 0 y.es.length]])] [0,1,3,4] (rl a rfl) (by (simp[cX,zC,a,cN,Ae,BR,eC])) ?_;(try dsimp only[cA,cB]);(repeat first|refine tA rfl ?_ |refine aU rfl ?_ |apply Aa);(refine pW rfl ?_ rfl (by rfl);refine Ai [0] rfl rfl (hk) ⟨rfl,by decide,by decide⟩ rfl (by simp[cX,zC,a,cN]) ?_;rintro t j m ⟨rfl,rfl,rfl⟩ _);(repeat first|refine tA rfl ?_ |refine aU rfl ?_ |apply Aa);(refine pW rfl ?_ rfl (by rfl);refine Ai [0] rfl rfl (K) ⟨rfl,by decide,by decide⟩ rfl (by simp[cX,zC,a,cN]) ?_;rintro t j m ⟨rfl,rfl,rfl⟩ _);apply Aa;refine Aj.Ay [0] [] rfl rfl [(4,.o (.ptr 1 3 0 0)),(5,.o (.ptr 3 3 0 0)),(6,eI .i64 y.es.length),(7,eI .i64 k),(24,eI .i64 c)] [(0,Bo b (p+1+1)),(1,.cells 25 3 [[.d (iD 0),.d (iD 0),.d (.l [])]]),(2,.cells 116 3 (y.es.map Be)),(3,.cells 25 3 [[.d (iD y.al),.d (iD y.st),.arr 2 3 0 y.es.length]])] [0,1,2,3] (rl a rfl) (by (simp[cX,zC,a,cN])) ?_;(try dsimp only[cA,cB]);apply aB;(repeat first|refine tA rfl ?_ |refine s2 rfl λ_ e=>?_ |refine aU rfl ?_ |apply Aa);(refine aC rfl ?_ ?_<;>rintro⟨⟩)
 ·obtain⟨z,G,v⟩:=De (TB:=TB) b hb (p+1+1) (by omega) [64,-1,1,63] (by decide) (by decide)
  (repeat first|refine tA rfl ?_ |refine aU rfl ?_);(refine pW rfl ?_ rfl (by rfl);refine Ai [0] rfl rfl (v) ⟨rfl,by decide,by decide⟩ rfl (by simp[cX,zC,a,cN]) ?_;rintro t j m ⟨rfl,rfl,rfl⟩ _);(repeat first|refine tA rfl ?_ |refine aU rfl ?_ |apply Aa);refine Aj.Ay [] [] rfl rfl [(4,.o (.ptr 1 3 0 0))] [(0,Bo b (p+1+1+1)),(1,.cells 25 3 [[.d (iD (z)),.d (iD (y.st)),.arr 2 3 0 (y.es).length]]),(2,.cells 116 3 ((y.es).map Be))] [0,1,2] (rl a rfl) (by (simp[cX,zC,a,cN,Ae,eC])) ?_;(try dsimp only[cA,cB]);refine Aj.AF [1,2] [(4,.o (.ip (AL ⟨z,y.st,y.es⟩)))] ⟨⟨_,rfl,.inr (.o (.box rfl (.cons .d (.cons .d (.cons (.full rfl (by simp [d5]) (by simp)) .nil)))))⟩,trivial⟩ ?_;refine aR ⟨_,rfl,[0],Bp ⟨z,y.st,y.es⟩,[(0,Bo b (p+1+1+1))],⟨by intro i hi;match i with|0=>rfl,by decide⟩,rfl,by (simp[cX,zC,a,cN]),p+1+1+1,⟨z,y.st,y.es⟩,by omega,by first|(simp;done)|(simp;omega),rfl,rfl,rfl⟩
 (repeat first|refine tA rfl ?_ |refine s2 rfl λ_ e=>?_ |refine aU rfl ?_ |apply Aa);(refine aC rfl ?_ ?_<;>rintro⟨⟩)
 ·obtain⟨z,G,v⟩:=De (TB:=TB) b hb (p+1+1) (by omega) [0,17,-1,16,1] (by decide) (by decide)
  (repeat first|refine tA rfl ?_ |refine aU rfl ?_);(refine pW rfl ?_ rfl (by rfl);refine Ai [0] rfl rfl (v) ⟨rfl,by decide,by decide⟩ rfl (by simp[cX,zC,a,cN]) ?_;rintro t j m ⟨rfl,rfl,rfl⟩ _);(repeat first|refine tA rfl ?_ |refine aU rfl ?_ |apply Aa);refine Aj.Ay [] [] rfl rfl [(4,.o (.ptr 1 3 0 0))] [(0,Bo b (p+1+1+1)),(1,.cells 25 3 [[.d (iD (y.al)),.d (iD (z)),.arr 2 3 0 (y.es).length]]),(2,.cells 116 3 ((y.es).map Be))] [0,1,2] (rl a rfl) (by (simp[cX,zC,a,cN,Ae,eC])) ?_;(try dsimp only[cA,cB]);refine Aj.AF [1,2] [(4,.o (.ip (AL ⟨y.al,z,y.es⟩)))] ⟨⟨_,rfl,.inr (.o (.box rfl (.cons .d (.cons .d (.cons (.full rfl (by simp [d5]) (by simp)) .nil)))))⟩,trivial⟩ ?_;refine aR ⟨_,rfl,[0],Bp ⟨y.al,z,y.es⟩,[(0,Bo b (p+1+1+1))],⟨by intro i hi;match i with|0=>rfl,by decide⟩,rfl,by (simp[cX,zC,a,cN]),p+1+1+1,⟨y.al,z,y.es⟩,by omega,by first|(simp;done)|(simp;omega),rfl,rfl,rfl⟩
 (repeat first|refine tA rfl ?_ |refine s2 rfl λ_ e=>?_ |refine aU rfl ?_ |apply Aa);(refine aC rfl ?_ ?_<;>rintro⟨⟩)
 ·by_cases v:y.es.length=0
  ·(repeat' first|refine tA rfl ?_ |refine s2 rfl λ_ e=>?_ |refine aU rfl ?_ |apply Aa|(refine aC rfl ?_ ?_<;>rintro⟨⟩));all_goals try contradiction
   all_goals first
    | (exfalso;(simp only[oZ] at *;omega);done)
    | (apply aK;(repeat first|refine tA rfl ?_ |refine aU rfl ?_ |apply Aa);refine Aj.Ay [] [] rfl rfl [(4,.o (.ptr 1 3 0 0))] [(0,Bo b (p+1+1)),(1,.cells 25 3 [[.d (iD (y.al)),.d (iD (y.st)),.arr 2 3 0 (y.es).length]]),(2,.cells 116 3 ((y.es).map Be))] [0,1,2] (rl a rfl) (by (simp[cX,zC,a,cN,Ae,eC])) ?_;(try dsimp only[cA,cB]);refine Aj.AF [1,2] [(4,.o (.ip (AL ⟨y.al,y.st,y.es⟩)))] ⟨⟨_,rfl,.inr (.o (.box rfl (.cons .d (.cons .d (.cons (.full rfl (by simp [d5]) (by simp)) .nil)))))⟩,trivial⟩ ?_;refine aR ⟨_,rfl,[0],Bp ⟨y.al,y.st,y.es⟩,[(0,Bo b (p+1+1))],⟨by intro i hi;match i with|0=>rfl,by decide⟩,rfl,by (simp[cX,zC,a,cN]),p+1+1,⟨y.al,y.st,y.es⟩,by omega,by first|(simp;done)|(simp;omega),rfl,rfl,rfl⟩)
  obtain⟨⟨h,g,f⟩,x⟩:=get_some (l:=y.es) (k:=k.toNat) (by omega)
  have w:(y.es.map Be)[0+k.toNat]? = some (Be ⟨h,g,f⟩):=by rw [n7];simp [x]
  obtain⟨z,G,q⟩:=De (TB:=TB) b hb (p+1+1) (by omega) [-1,16,0,2] (by decide) (by decide)
  have n:(y.es.map Be).set (0+k.toNat) (Be ⟨z,g,f⟩)=(y.es.set k.toNat ⟨z,g,f⟩).map Be:=by rw [n7,pg]
  (repeat first|refine tA rfl ?_ |refine s2 rfl λ_ e=>?_ |refine aU rfl ?_ |apply Aa)
  ((refine aC rfl ?_ ?_<;>rintro⟨⟩);all_goals try(exfalso;(simp only[oZ] at *;omega)))
  refine rG (J6 [(1,13),(5,1008),(6,2),(7,2),(8,1)]) (by kernel_rfl) ?_;(repeat first|refine tA rfl ?_);(refine Af rfl ?_;refine C6 ?_ rfl ⟨rfl,rfl⟩;refine Ai [0] rfl rfl (q) ⟨rfl,by decide,by decide⟩ rfl (by simp[cX,zC,a,cN]) ?_;rintro t j m ⟨rfl,rfl,rfl⟩ _;refine⟨Fg 3 rfl rfl,?_⟩);(repeat first|(refine sA rfl ?_ ?_;first|exact tI|omega) |refine t4 rfl ‹_› rfl ?_ |refine aU rfl ?_ |apply Aa);refine Aj.Ay [] [] rfl rfl [(4,.o (.ptr 1 3 0 0))] [(0,Bo b (p+1+1+1)),(1,.cells 25 3 [[.d (iD (y.al)),.d (iD (y.st)),.arr 2 3 0 (y.es.set k.toNat ⟨z,g,f⟩).length]]),(2,.cells 116 3 ((y.es.set k.toNat ⟨z,g,f⟩).map Be))] [0,1,2] (rl a rfl) (by (simp[cX,zC,a,cN,Ae,eC,n])) ?_;(try dsimp only[cA,cB]);refine Aj.AF [1,2] [(4,.o (.ip (AL ⟨y.al,y.st,y.es.set k.toNat ⟨z,g,f⟩⟩)))] ⟨⟨_,rfl,.inr (.o (.box rfl (.cons .d (.cons .d (.cons (.full rfl (by simp [d5]) (by simp)) .nil)))))⟩,trivial⟩ ?_;refine aR ⟨_,rfl,[0],Bp ⟨y.al,y.st,y.es.set k.toNat ⟨z,g,f⟩⟩,[(0,Bo b (p+1+1+1))],⟨by intro i hi;match i with|0=>rfl,by decide⟩,rfl,by (simp[cX,zC,a,cN]),p+1+1+1,⟨y.al,y.st,y.es.set k.toNat ⟨z,g,f⟩⟩,by omega,by first|(simp;done)|(simp;omega),rfl,rfl,rfl⟩
 (repeat first|refine tA rfl ?_ |refine s2 rfl λ_ e=>?_ |refine aU rfl ?_ |apply Aa);(refine aC rfl ?_ ?_<;>rintro⟨⟩)
 ·by_cases v:y.es.length=0
  ·(repeat' first|refine tA rfl ?_ |refine s2 rfl λ_ e=>?_ |refine aU rfl ?_ |apply Aa|(refine aC rfl ?_ ?_<;>rintro⟨⟩));all_goals try contradiction
   all_goals first
    | (exfalso;(simp only[oZ] at *;omega);done)
    | (apply aK;(repeat first|refine tA rfl ?_ |refine aU rfl ?_ |apply Aa);refine Aj.Ay [] [] rfl rfl [(4,.o (.ptr 1 3 0 0))] [(0,Bo b (p+1+1)),(1,.cells 25 3 [[.d (iD (y.al)),.d (iD (y.st)),.arr 2 3 0 (y.es).length]]),(2,.cells 116 3 ((y.es).map Be))] [0,1,2] (rl a rfl) (by (simp[cX,zC,a,cN,Ae,eC])) ?_;(try dsimp only[cA,cB]);refine Aj.AF [1,2] [(4,.o (.ip (AL ⟨y.al,y.st,y.es⟩)))] ⟨⟨_,rfl,.inr (.o (.box rfl (.cons .d (.cons .d (.cons (.full rfl (by simp [d5]) (by simp)) .nil)))))⟩,trivial⟩ ?_;refine aR ⟨_,rfl,[0],Bp ⟨y.al,y.st,y.es⟩,[(0,Bo b (p+1+1))],⟨by intro i hi;match i with|0=>rfl,by decide⟩,rfl,by (simp[cX,zC,a,cN]),p+1+1,⟨y.al,y.st,y.es⟩,by omega,by first|(simp;done)|(simp;omega),rfl,rfl,rfl⟩)
  obtain⟨⟨h,g,f⟩,x⟩:=get_some (l:=y.es) (k:=k.toNat) (by omega)
  have w:(y.es.map Be)[0+k.toNat]? = some (Be ⟨h,g,f⟩):=by rw [n7];simp [x]
  obtain⟨z,G,q⟩:=De (TB:=TB) b hb (p+1+1) (by omega) [-1,16,0,3] (by decide) (by decide)
  have n:(y.es.map Be).set (0+k.toNat) (Be ⟨h,g,z⟩)=(y.es.set k.toNat ⟨h,g,z⟩).map Be:=by rw [n7,pg]
  (repeat first|refine tA rfl ?_ |refine s2 rfl λ_ e=>?_ |refine aU rfl ?_ |apply Aa)
  ((refine aC rfl ?_ ?_<;>rintro⟨⟩);all_goals try(exfalso;(simp only[oZ] at *;omega)))
  refine rG (J6 [(1,13),(5,1008),(6,2),(7,2),(8,1)]) (by kernel_rfl) ?_;(repeat first|refine tA rfl ?_);(refine Af rfl ?_;refine C6 ?_ rfl ⟨rfl,rfl⟩;refine Ai [0] rfl rfl (q) ⟨rfl,by decide,by decide⟩ rfl (by simp[cX,zC,a,cN]) ?_;rintro t j m ⟨rfl,rfl,rfl⟩ _;refine⟨Fg 3 rfl rfl,?_⟩);(repeat first|(refine sA rfl ?_ ?_;first|exact tI|omega) |refine t4 rfl ‹_› rfl ?_ |refine aU rfl ?_ |apply Aa);refine Aj.Ay [] [] rfl rfl [(4,.o (.ptr 1 3 0 0))] [(0,Bo b (p+1+1+1)),(1,.cells 25 3 [[.d (iD (y.al)),.d (iD (y.st)),.arr 2 3 0 (y.es.set k.toNat ⟨h,g,z⟩).length]]),(2,.cells 116 3 ((y.es.set k.toNat ⟨h,g,z⟩).map Be))] [0,1,2] (rl a rfl) (by (simp[cX,zC,a,cN,Ae,eC,n])) ?_;(try dsimp only[cA,cB]);refine Aj.AF [1,2] [(4,.o (.ip (AL ⟨y.al,y.st,y.es.set k.toNat ⟨h,g,z⟩⟩)))] ⟨⟨_,rfl,.inr (.o (.box rfl (.cons .d (.cons .d (.cons (.full rfl (by simp [d5]) (by simp)) .nil)))))⟩,trivial⟩ ?_;refine aR ⟨_,rfl,[0],Bp ⟨y.al,y.st,y.es.set k.toNat ⟨h,g,z⟩⟩,[(0,Bo b (p+1+1+1))],⟨by intro i hi;match i with|0=>rfl,by decide⟩,rfl,by (simp[cX,zC,a,cN]),p+1+1+1,⟨y.al,y.st,y.es.set k.toNat ⟨h,g,z⟩⟩,by omega,by first|(simp;done)|(simp;omega),rfl,rfl,rfl⟩
 (repeat first|refine tA rfl ?_ |refine s2 rfl λ_ e=>?_ |refine aU rfl ?_ |apply Aa);(refine aC rfl ?_ ?_<;>rintro⟨⟩)
 ·by_cases v:y.es.length=0
  ·(repeat' first|refine tA rfl ?_ |refine s2 rfl λ_ e=>?_ |refine aU rfl ?_ |apply Aa|(refine aC rfl ?_ ?_<;>rintro⟨⟩));all_goals try contradiction
   all_goals first
    | (exfalso;(simp only[oZ] at *;omega);done)
    | (apply aK;(repeat first|refine tA rfl ?_ |refine aU rfl ?_ |apply Aa);refine Aj.Ay [] [] rfl rfl [(4,.o (.ptr 1 3 0 0))] [(0,Bo b (p+1+1)),(1,.cells 25 3 [[.d (iD (y.al)),.d (iD (y.st)),.arr 2 3 0 (y.es).length]]),(2,.cells 116 3 ((y.es).map Be))] [0,1,2] (rl a rfl) (by (simp[cX,zC,a,cN,Ae,eC])) ?_;(try dsimp only[cA,cB]);refine Aj.AF [1,2] [(4,.o (.ip (AL ⟨y.al,y.st,y.es⟩)))] ⟨⟨_,rfl,.inr (.o (.box rfl (.cons .d (.cons .d (.cons (.full rfl (by simp [d5]) (by simp)) .nil)))))⟩,trivial⟩ ?_;refine aR ⟨_,rfl,[0],Bp ⟨y.al,y.st,y.es⟩,[(0,Bo b (p+1+1))],⟨by intro i hi;match i with|0=>rfl,by decide⟩,rfl,by (simp[cX,zC,a,cN]),p+1+1,⟨y.al,y.st,y.es⟩,by omega,by first|(simp;done)|(simp;omega),rfl,rfl,rfl⟩)
  obtain⟨⟨h,g,f⟩,x⟩:=get_some (l:=y.es) (k:=k.toNat) (by omega)
  have w:(y.es.map Be)[0+k.toNat]? = some (Be ⟨h,g,f⟩):=by rw [n7];simp [x]
  obtain⟨z,G,q⟩:=De (TB:=TB) b hb (p+1+1) (by omega) [-1,6,70,5,0] (by decide) (by decide)
  have n:(y.es.map Be).set (0+k.toNat) (Be ⟨h,z,f⟩)=(y.es.set k.toNat ⟨h,z,f⟩).map Be:=by rw [n7,pg]
  (repeat first|refine tA rfl ?_ |refine s2 rfl λ_ e=>?_ |refine aU rfl ?_ |apply Aa)
  ((refine aC rfl ?_ ?_<;>rintro⟨⟩);all_goals try(exfalso;(simp only[oZ] at *;omega)))
  refine rG (J6 [(1,13),(5,1008),(6,2),(7,2),(8,1)]) (by kernel_rfl) ?_;(repeat first|refine tA rfl ?_);(refine Af rfl ?_;refine C6 ?_ rfl ⟨rfl,rfl⟩;refine Ai [0] rfl rfl (q) ⟨rfl,by decide,by decide⟩ rfl (by simp[cX,zC,a,cN]) ?_;rintro t j m ⟨rfl,rfl,rfl⟩ _;refine⟨Fg 3 rfl rfl,?_⟩);(repeat first|(refine sA rfl ?_ ?_;first|exact tI|omega) |refine t4 rfl ‹_› rfl ?_ |refine aU rfl ?_ |apply Aa);refine Aj.Ay [] [] rfl rfl [(4,.o (.ptr 1 3 0 0))] [(0,Bo b (p+1+1+1)),(1,.cells 25 3 [[.d (iD (y.al)),.d (iD (y.st)),.arr 2 3 0 (y.es.set k.toNat ⟨h,z,f⟩).length]]),(2,.cells 116 3 ((y.es.set k.toNat ⟨h,z,f⟩).map Be))] [0,1,2] (rl a rfl) (by (simp[cX,zC,a,cN,Ae,eC,n])) ?_;(try dsimp only[cA,cB]);refine Aj.AF [1,2] [(4,.o (.ip (AL ⟨y.al,y.st,y.es.set k.toNat ⟨h,z,f⟩⟩)))] ⟨⟨_,rfl,.inr (.o (.box rfl (.cons .d (.cons .d (.cons (.full rfl (by simp [d5]) (by simp)) .nil)))))⟩,trivial⟩ ?_;refine aR ⟨_,rfl,[0],Bp ⟨y.al,y.st,y.es.set k.toNat ⟨h,z,f⟩⟩,[(0,Bo b (p+1+1+1))],⟨by intro i hi;match i with|0=>rfl,by decide⟩,rfl,by (simp[cX,zC,a,cN]),p+1+1+1,⟨y.al,y.st,y.es.set k.toNat ⟨h,z,f⟩⟩,by omega,by first|(simp;done)|(simp;omega),rfl,rfl,rfl⟩
 (repeat first|refine tA rfl ?_ |refine s2 rfl λ_ e=>?_ |refine aU rfl ?_ |apply Aa);(refine aC rfl ?_ ?_<;>rintro⟨⟩)
 ·by_cases v:y.es.length=0
  ·(repeat' first|refine tA rfl ?_ |refine s2 rfl λ_ e=>?_ |refine aU rfl ?_ |apply Aa|(refine aC rfl ?_ ?_<;>rintro⟨⟩));all_goals try contradiction
   all_goals first
    | (exfalso;(simp only[oZ] at *;omega);done)
    | (apply aK;(repeat first|refine tA rfl ?_ |refine aU rfl ?_ |apply Aa);refine Aj.Ay [] [] rfl rfl [(4,.o (.ptr 1 3 0 0))] [(0,Bo b (p+1+1)),(1,.cells 25 3 [[.d (iD (y.al)),.d (iD (y.st)),.arr 2 3 0 (y.es).length]]),(2,.cells 116 3 ((y.es).map Be))] [0,1,2] (rl a rfl) (by (simp[cX,zC,a,cN,Ae,eC])) ?_;(try dsimp only[cA,cB]);refine Aj.AF [1,2] [(4,.o (.ip (AL ⟨y.al,y.st,y.es⟩)))] ⟨⟨_,rfl,.inr (.o (.box rfl (.cons .d (.cons .d (.cons (.full rfl (by simp [d5]) (by simp)) .nil)))))⟩,trivial⟩ ?_;refine aR ⟨_,rfl,[0],Bp ⟨y.al,y.st,y.es⟩,[(0,Bo b (p+1+1))],⟨by intro i hi;match i with|0=>rfl,by decide⟩,rfl,by (simp[cX,zC,a,cN]),p+1+1,⟨y.al,y.st,y.es⟩,by omega,by first|(simp;done)|(simp;omega),rfl,rfl,rfl⟩)
  obtain⟨⟨h,g,f⟩,x⟩:=get_some (l:=y.es) (k:=k.toNat) (by omega)
  have w:(y.es.map Be)[0+k.toNat]? = some (Be ⟨h,g,f⟩):=by rw [n7];simp [x]
  (repeat first|refine tA rfl ?_ |refine s2 rfl λ_ e=>?_ |refine aU rfl ?_ |apply Aa)
  ((refine aC rfl ?_ ?_<;>rintro⟨⟩);all_goals try(exfalso;(simp only[oZ] at *;omega)))
  refine rG (J6 [(1,13),(3,13),(6,12),(8,1),(10,1)]) (by kernel_rfl) ?_;(repeat first|(refine sA rfl ?_ ?_;first|exact tI|omega) |refine t4 rfl ‹_› rfl ?_);(refine pW rfl ?_ rfl (by rfl);refine Al rfl rfl rfl (by first| (simp;done)|(simp;(omega))) rfl (by intro r u;simp at u;subst u;rfl) (by rfl) (am rfl) (by simp;omega) ?_);(repeat first|refine tA rfl ?_ |refine aU rfl ?_ |apply Aa);refine Aj.Ay [] [] rfl rfl [(4,.o (.ptr 1 3 0 0))] [(0,Bo b (p+1+1)),(1,.cells 25 3 [[.d (iD (y.al)),.d (iD (y.st)),.arr 2 3 0 (y.es++[(⟨h,g,f⟩:Ee)]).length]]),(2,.cells 116 3 ((y.es++[(⟨h,g,f⟩:Ee)]).map Be))] [0,1,4] (rl a rfl) (by (simp[cX,zC,a,cN,Ae,eC])) ?_;(try dsimp only[cA,cB]);refine Aj.AF [1,2] [(4,.o (.ip (AL ⟨y.al,y.st,y.es++[(⟨h,g,f⟩:Ee)]⟩)))] ⟨⟨_,rfl,.inr (.o (.box rfl (.cons .d (.cons .d (.cons (.full rfl (by simp [d5]) (by simp)) .nil)))))⟩,trivial⟩ ?_;refine aR ⟨_,rfl,[0],Bp ⟨y.al,y.st,y.es++[(⟨h,g,f⟩:Ee)]⟩,[(0,Bo b (p+1+1))],⟨by intro i hi;match i with|0=>rfl,by decide⟩,rfl,by (simp[cX,zC,a,cN]),p+1+1,⟨y.al,y.st,y.es++[(⟨h,g,f⟩:Ee)]⟩,by omega,by first|(simp;done)|(simp;omega),rfl,rfl,rfl⟩
 (repeat first|refine tA rfl ?_ |refine s2 rfl λ_ e=>?_ |refine aU rfl ?_ |apply Aa);(refine aC rfl ?_ ?_<;>rintro⟨⟩)
 ·obtain⟨F,_,_,J⟩:=Bn (TB:=TB) b hb (p+1+1) 4 (by omega)
  obtain⟨B,_,_,I⟩:=Bn (TB:=TB) b hb (p+1+1+1) 3 (by omega);obtain⟨A,_,_,H⟩:=Bn (TB:=TB) b hb (p+1+1+1+1) 4 (by omega);refine rG ⟨Gh [(1,13),(3,1008),(5,1008),(7,1008),(10,1),(12,1)],bg [0,1,2,4,6,3,5,7,8,9,10,11,12]⟩ (by kernel_rfl) ?_;(repeat first|refine tA rfl ?_);(refine Af rfl ?_;refine C6 ?_ rfl ⟨rfl,rfl⟩;refine Ai [0] rfl rfl (J) ⟨rfl,by decide,by decide⟩ rfl (by simp[cX,zC,a,cN]) ?_;rintro t j m ⟨rfl,rfl,rfl⟩ _;refine⟨Fg 3 rfl rfl,?_⟩);(refine Af rfl ?_;refine C6 ?_ rfl ⟨rfl,rfl⟩;refine Ai [0] rfl rfl (I) ⟨rfl,by decide,by decide⟩ rfl (by simp[cX,zC,a,cN]) ?_;rintro t j m ⟨rfl,rfl,rfl⟩ _;refine⟨Fg 3 rfl rfl,?_⟩);(refine Af rfl ?_;refine C6 ?_ rfl ⟨rfl,rfl⟩;refine Ai [0] rfl rfl (H) ⟨rfl,by decide,by decide⟩ rfl (by simp[cX,zC,a,cN]) ?_;rintro t j m ⟨rfl,rfl,rfl⟩ _;refine⟨Fg 3 rfl rfl,?_⟩);(repeat first|refine tA rfl ?_|(refine Af rfl ?_;refine gA rfl ?_;first| refine gS (λ_ _=>AB rfl rfl (by rfl) (by rfl)) ?_));(refine pW rfl ?_ rfl (by rfl);refine Al rfl rfl rfl (by first| (simp;done)|(simp;(omega))) rfl (by intro r u;simp at u;subst u;rfl) (by rfl) (am rfl) (by simp;omega) ?_);(repeat first|refine tA rfl ?_ |refine aU rfl ?_ |apply Aa);refine Aj.Ay [] [] rfl rfl [(4,.o (.ptr 1 3 0 0))] [(0,Bo b (p+1+1+1+1+1)),(1,.cells 25 3 [[.d (iD (y.al)),.d (iD (y.st)),.arr 2 3 0 (y.es++[(⟨F,B,A⟩:Ee)]).length]]),(2,.cells 116 3 ((y.es++[(⟨F,B,A⟩:Ee)]).map Be))] [0,1,4] (rl a rfl) (by (simp[cX,zC,a,cN,Ae,eC])) ?_;(try dsimp only[cA,cB]);refine Aj.AF [1,2] [(4,.o (.ip (AL ⟨y.al,y.st,y.es++[(⟨F,B,A⟩:Ee)]⟩)))] ⟨⟨_,rfl,.inr (.o (.box rfl (.cons .d (.cons .d (.cons (.full rfl (by simp [d5]) (by simp)) .nil)))))⟩,trivial⟩ ?_;refine aR ⟨_,rfl,[0],Bp ⟨y.al,y.st,y.es++[(⟨F,B,A⟩:Ee)]⟩,[(0,Bo b (p+1+1+1+1+1))],⟨by intro i hi;match i with|0=>rfl,by decide⟩,rfl,by (simp[cX,zC,a,cN]),p+1+1+1+1+1,⟨y.al,y.st,y.es++[(⟨F,B,A⟩:Ee)]⟩,by omega,by first|(simp;done)|(simp;omega),rfl,rfl,rfl⟩
 apply aK;(repeat first|refine tA rfl ?_ |refine aU rfl ?_ |apply Aa);refine Aj.Ay [] [] rfl rfl [(4,.o (.ptr 1 3 0 0))] [(0,Bo b (p+1+1)),(1,.cells 25 3 [[.d (iD (y.al)),.d (iD (y.st)),.arr 2 3 0 (y.es).length]]),(2,.cells 116 3 ((y.es).map Be))] [0,1,2] (rl a rfl) (by (simp[cX,zC,a,cN,Ae,eC])) ?_;(try dsimp only[cA,cB]);refine Aj.AF [1,2] [(4,.o (.ip (AL ⟨y.al,y.st,y.es⟩)))] ⟨⟨_,rfl,.inr (.o (.box rfl (.cons .d (.cons .d (.cons (.full rfl (by simp [d5]) (by simp)) .nil)))))⟩,trivial⟩ ?_;refine aR ⟨_,rfl,[0],Bp ⟨y.al,y.st,y.es⟩,[(0,Bo b (p+1+1))],⟨by intro i hi;match i with|0=>rfl,by decide⟩,rfl,by (simp[cX,zC,a,cN]),p+1+1,⟨y.al,y.st,y.es⟩,by omega,by first|(simp;done)|(simp;omega),rfl,rfl,rfl⟩
theorem Sd{n:Nat}:List.replicate n (AE 0)=(Nf n λ_=>0).map AE:=by
 apply px;intro i;by_cases h:i < n
 ·simp [h]
 ·rw [oa (by simp;omega),oa (by simp;omega)]
theorem Xy{n:Nat}:(List.replicate n (AE 0)).set 0 (AE 1)=(Nf n IN).map AE:=by
 rw [Sd];have:=Tg (n:=n) (x:=0) (v:=1) (G:=λ_=>0)
 have e:XB (λ_=>0) 0 1=IN:=by funext p;rfl
 rw [e] at this;exact this
theorem WZ{t:CM}(ht:Bg t=true):Pure Tryz.prog TB 174 [Qu t] (Ak (Nf t.q.nx.length (Cw t))):=by
 have g:=AG (CA ht);have c:=Pm (TB:=TB) ht (My ht);rw [show Sw t IN=Cw t from rfl] at c;have b:=Xy (n:=t.q.nx.length)
 have f:(List.replicate t.q.nx.length (AE 0))[0+(0:Int).toNat]? = some (AE 0):=by rw [List.getElem?_replicate,if_pos];simp;omega
 refine eG Tryz.func174 rfl (by kernel_rfl) rfl ?_;intro Γ a;(repeat first|refine sN rfl ?_ |refine tA rfl ?_ |refine aU rfl ?_ |apply Aa);(refine pW rfl ?_ rfl (by rfl);refine KG rfl rfl (by rfl) (by rfl) (am rfl) (by omega) (by omega) (by omega) ?_);(repeat first|(refine sA rfl ?_ ?_;first|exact tI|omega) |refine t4 rfl ‹_› rfl ?_ |refine aU rfl ?_ |apply Aa);(refine pW rfl ?_ rfl (by rfl);refine Ai [0] rfl rfl (c) ⟨rfl,by decide,by decide⟩ rfl (by simp[cX,zC,a,b]) ?_;rintro h d e ⟨rfl,rfl,rfl⟩ _);(repeat first|refine tA rfl ?_);apply Aa;refine Aj.Ay [] [] rfl rfl [(2,.o (.arr 0 1 0 t.q.nx.length))] [(0,.cells 3 1 ((Nf t.q.nx.length (Cw t)).map AE))] [0] (rl a rfl) (by (simp[cX,zC,a,b])) ?_;(try dsimp only[cA,cB]);refine Aj.settle [(2,Ak (Nf t.q.nx.length (Cw t)))] ⟨⟨_,rfl,.o (.full rfl (by simp [d5]) (by simp))⟩,trivial⟩ ?_;refine aR ⟨_,rfl,rfl⟩
theorem cK{t:CM}(ht:Bg t=true){F:PS}:Pure Tryz.prog TB 175 [Qu t,Ak (Nf t.q.nx.length F)] (eB (Fm t F)):=by
 have o:=AG (CA ht)
 have m:(Nf t.q.nx.length F).length=t.q.nx.length:=by simp
 have d:Fm t F=HJ t F t.q.nx.length:=rfl;refine eG Tryz.func175 rfl (by kernel_rfl) rfl ?_;intro Γ a;(repeat first|refine tA rfl ?_ |refine aU rfl ?_ |apply Aa);apply aB;refine aL (α:={k:Nat // k<=t.q.nx.length/\HJ t F k=false}) [1,2] [] rfl rfl (λ⟨k,hk,hb⟩=>[(5,eI .i64 k)]) (λ⟨k,hk,hb⟩=>[]) 0 (λ⟨k,hk,hb⟩=>t.q.nx.length - k) (⟨0,by omega,rfl⟩) a rfl (by (simp[cX,zC,a])) ?_;rintro⟨k,hk,hb⟩;(try dsimp only[cA,cB]);by_cases h:k < t.q.nx.length
 ·have r:((Nf t.q.nx.length F).map Br)[((k:Nat):Int).toNat]? = some (Br (F k:Int)):=by rw [io];simp [h]
  obtain⟨b,f⟩:=get_some (l:=t.q.ac) (k:=((k:Nat):Int).toNat) (by omega);have n:=get_map (g:=Ik) f
  have i:t.q.ac.getD k false=b:=by rw [io] at f;simp [List.getD,f]
  have hs:=Ko (t:=t) (F:=F) (k:=k);rw [i,hb] at hs;(repeat first|refine sN rfl ?_ |refine tA rfl ?_ |refine s2 rfl λ_ c=>?_ |refine aU rfl ?_ |apply Aa)
  ((refine aC rfl ?_ ?_<;>rintro⟨⟩);all_goals try(exfalso;(simp only[oZ] at *;omega)))
  apply aK;refine aS (aB ?_)
  (repeat' first|refine tA rfl ?_ |(refine s4 rfl ‹_› rfl ?_ ?_;omega) |refine s2 rfl λ_ c=>?_ |refine s3 rfl ?_ ?_<;>rintro rfl |refine aU rfl ?_ |apply Aa|(refine aC rfl ?_ ?_<;>rintro⟨⟩));all_goals try contradiction
  ·have j:Fm t F=true:=by
    have s:=of_decide_eq_true ‹decide ((F k:Int)≠0)=true›
    have p:F k≠0:=by omega
    rw [d];unfold HJ;exact pZ.2 ⟨k,oc.2 h,by rw [i,c];simp [p]⟩
   rw [j];(subst_vars;exact aR ⟨_,rfl,rfl⟩)
  ·have e:HJ t F (k+1)=false:=by rw [hs];simp_all
   apply aK;(repeat first|(refine sA rfl ?_ ?_;first|exact tI|omega) |refine aU rfl ?_ |apply Aa);refine⟨⟨k+1,by omega,e⟩,by dsimp only;(omega),[],?_⟩;simp[cX,zC,a]
  ·have e:HJ t F (k+1)=false:=by rw [hs];simp at c;simp;omega
   apply aK;(repeat first|(refine sA rfl ?_ ?_;first|exact tI|omega) |refine aU rfl ?_ |apply Aa);refine⟨⟨k+1,by omega,e⟩,by dsimp only;(omega),[],?_⟩;simp[cX,zC,a]
 ·obtain rfl:k=t.q.nx.length:=by omega
  rw [d,hb];(repeat first|refine sN rfl ?_ |refine tA rfl ?_ |refine s2 rfl λ_ c=>?_ |refine aU rfl ?_ |apply Aa)
  ((refine aC rfl ?_ ?_<;>rintro⟨⟩);all_goals try(exfalso;(simp only[oZ] at *;omega)))
  apply aE;(repeat first|refine tA rfl ?_ |refine aU rfl ?_ |apply Aa);(subst_vars;exact aR ⟨_,rfl,rfl⟩)
end Go.Am
namespace Go.Am
open Go Go.Proofs
set_option maxHeartbeats 1000000
set_option maxRecDepth 4000
attribute [local irreducible] A6 Cz Lex Bv Aj Spec
def kM(P:Program)(t it:TypeId):Bool:=match (P.fieldsOf t).toList with
 | [c,b,a]=>decide (c.name≠ "_") && c.type == it && c.offset == 0 && (decide (b.name≠ "_") && b.type == it && b.offset == 1) && (decide (a.name≠ "_") && a.type == it && a.offset == 2)
 | _=>false
theorem SC {P:Program} {it:TypeId} (c:P.underlying it=some (.int .i64)) {xs ys:Array Value} {a b:Int} {fl:Field} {fs:List Field} {o:Nat} (h:(decide (fl.name≠ "_") && fl.type == it && fl.offset == o)=true) (i:xs[o]? = some (.int .i64 a)) (g:ys[o]? = some (.int .i64 b)) (w:World) :
 (Op.eqFields 9999 xs ys (fl::fs)).run P w=if a=b then (Op.eqFields 9999 xs ys fs).run P w else .ok false w:=by
 simp only [d4,decide_eq_true_eq,beq_iff_eq] at h;obtain⟨⟨l,k⟩,j⟩:=h
 have f:(part it xs o).run P w=.ok (.int .i64 a) w:=by simp [part,isAgg,run_underlying c,i]
 have e:(part it ys o).run P w=.ok (.int .i64 b) w:=by simp [part,isAgg,run_underlying c,g]
 have d:(Op.equalIn 9999 it (.int .i64 a) (.int .i64 b)).run P w=.ok (a == b) w:=run_equalIn_int w 9998 it .i64 .i64 a b c;rw [Op.eqFields,if_pos l,k,j];simp only [nZ,f,e,d,jp];by_cases h:a=b
 ·simp [h]
 ·simp [h]
section
variable {TB:BF}{Γ:Ctx}{d:Option Tmp}{ty:TypeId}{pos:String}{af:Array Edge}{g:Option (Nat×Bool)}{f:Env}{σ:Ab}{nx:Nat}
theorem fx:kM Tryz.prog 116 3=true:=by kernel_rfl
theorem dY(a b:Ee)(w:World):(Op.equalIn 10000 116 (.agg #[.int .i64 a.f,.int .i64 a.l,.int .i64 a.t]) (.agg #[.int .i64 b.f,.int .i64 b.l,.int .i64 b.t])).run Tryz.prog w=.ok (decide (a.f=b.f/\a.l=b.l/\a.t=b.t)) w:=by
 have d:Tryz.prog.underlying 3=some (.int .i64):=by kernel_rfl
 have c:=fx;rw [show (10000:Nat)=9999+1 from rfl,run_equalIn_struct w 9999 116 _ _ (by kernel_rfl) (by kernel_rfl)];unfold kM at c;split at c
 ·rename_i x v u i
  rw [i];simp only [d4 (b:=(_ && _)),d4] at c;obtain⟨⟨⟨⟨s,r⟩,q⟩,⟨p,o⟩,n⟩,⟨m,k⟩,j⟩:=c;rw [SC d (by rw [s,r,q];rfl) rfl rfl,SC d (by rw [p,o,n];rfl) rfl rfl,SC d (by rw [m,k,j];rfl) rfl rfl,Op.eqFields];by_cases h:a.f=b.f<;>by_cases g:a.l=b.l<;>by_cases e:a.t=b.t<;>simp [h,g,e]
 ·cases c
theorem ic{V:View}{a b c:Int}{vs:Array Value}(h:Dc V [.d (iD a),.d (iD b),.d (iD c)] vs):vs = #[.int .i64 a,.int .i64 b,.int .i64 c]:=by
 obtain⟨j,g⟩:=h;have hs:vs.size=3:=j;apply Array.ext
 ·simpa using hs
 ·intro i hi f
  have e:vs[i]? = some vs[i]:=mt hi
  match i,f with
  | 0,_=>exact AH.val (g 0 _ _ rfl e)
  | 1,_=>exact AH.val (g 1 _ _ rfl e)
  | 2,_=>exact AH.val (g 2 _ _ rfl e)
def iU(a b:Ee):Bool:=decide (a.f=b.f/\a.l=b.l/\a.t=b.t)
theorem Xj{x y:Operand}{yt:TypeId}{a b:Ee}(j:ev f x=some (WB a))(i:ev f y=some (WB b)):A6 Tryz.prog TB Γ ⟨d,.binOp .eql 116 x y yt,ty,pos,af,g⟩ f σ nx (eB (iU a b)):=
 AK λV ρ h _=>by
  obtain⟨xs,l,e⟩:=h.get (by simp [Op.operands]) j;obtain⟨ys,k,c⟩:=h.get (by simp [Op.operands]) i;have o:=ic e;have n:=ic c;refine⟨.bool (iU a b),?_,.d (.v rfl)⟩;have m:execOp ρ ⟨d,.binOp .eql 116 x y yt,ty,pos,af,g⟩=(do let v <-(do eqGuard .eql 116 x y (ρ x) (ρ y);binOp .eql 116 (ρ x) (ρ y));pure (.value v)):=rfl
  have hg:Tryz.prog.eqGuardType Tryz.prog.depth 116=false:=by kernel_rfl
  rw [m,l,k,o,n];simp only [nZ,run_eqGuard_agg V.w .eql 116 x y _ _ hg,run_eql_struct,dY,jp,Sem.run_pure];rfl
end
end Go.Am
