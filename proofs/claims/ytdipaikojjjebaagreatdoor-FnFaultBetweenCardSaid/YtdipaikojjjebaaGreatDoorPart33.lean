/-
  The reference's step from a set of states; its closure: walked.
-/
import Derived.Test.YtdipaikojjjebaaGreatDoorPart30
import Derived.Test.YtdipaikojjjebaaGreatDoorPart28
set_option linter.all false
namespace Go.Am
open Go Go.Proofs
set_option maxHeartbeats 1000000
set_option maxRecDepth 4000
attribute [local irreducible] A5 Ck Lex Br Aj Spec
variable {TB:BJ}
theorem XR{es:List Ea}{l:Int}{m k:Nat}{e:Ea}(a:es[k]?=some e):Cf (es.take (k+1)) l m=if e.l=l/\m.testBit e.f.toNat=true then Cf (es.take k) l m ||| 2 ^ e.t.toNat else Cf (es.take k) l m:=by
 unfold Cf;rw[i7,a,tT];rfl
theorem Vt{s:Sys}(a:AU s=true){l:Int}{m k:Nat}:Cf (s.es.take k) l m<65536:=JU λj b=>by
 obtain⟨e,c,_,rfl⟩:=DN.1 b;have hb:=C8 a (q7 c);have d:=AN a;unfold DA at hb;simp only[d4,decide_eq_true_eq]at hb;omega
theorem Sc{s:Sys}(o:AU s=true)(l:Int){m:Nat}(F:m<65536):Pure Tryz.prog TB 99 [BK s,eI .i64 (m:Nat),eI .i64 l] (eI .i64 (Cf s.es l m:Nat)):=by
 have G:=AN o;refine eG Tryz.func99 rfl (by kernel_rfl) rfl ?_;intro U d;refine Aj.bound 0 rfl λw=>?_;have B:=w (s.es.map De) ⟨2,_,rfl,.refl⟩;rw[gt]at B;(repeat first|refine tA rfl ?_|refine aU rfl ?_|apply Aa);apply aB;refine aL (α:={k:Nat // k<=s.es.length}) [1,2,3] [] rfl rfl (λ⟨k,hk⟩=>[(7,eI .i64 (Cf (s.es.take k) l m:Nat)),(8,eI .i64 k)]) (λ⟨k,hk⟩=>[]) 0 (λ⟨k,hk⟩=>s.es.length-k) (⟨0,by omega⟩) d rfl (by (simp[cX,zC,d]<;>rfl)) ?_;rintro⟨k,hk⟩;(try dsimp only[cA,cB]);by_cases q:k<s.es.length
 ·obtain⟨e,u⟩:=get_some q
  have r:=get_map (g:=De) u
  have A:(s.es.map De)[((k:Nat):Int).toNat]?=some (De e):=by rw[d8];exact r
  have hb:=C8 o (co u);unfold DA at hb;simp only[d4,decide_eq_true_eq]at hb;have i:=XR (l:=l) (m:=m) u;have x:=Vt o (l:=l) (m:=m) (k:=k);have j:=CT (TB:=TB) (m:Nat) e.f (by omega) (by omega);rw[Dd (by omega) (by omega)]at j;have v:=Vo (TB:=TB) e.t (by omega) (by omega)
  have z:2 ^ e.t.toNat<65536:=by
   have:2 ^ e.t.toNat<=2 ^ 15:=rU (by omega) (by omega);omega
  have p:=OL (a:=Cf (s.es.take k) l m) (b:=2 ^ e.t.toNat) (by omega) (by omega);generalize 2 ^ e.t.toNat=y at *;(repeat first|refine sN rfl ?_|refine tA rfl ?_|refine s2 rfl λ_ c=>?_|refine aU rfl ?_|apply Aa)
  ((refine aC rfl ?_ ?_<;>rintro⟨⟩);all_goals try(exfalso;(simp only[oZ] at *;omega)))
  apply aK;refine aS (aB ?_)
  (repeat' first|(refine sA rfl ?_ ?_;first|exact tI|omega)|(refine s4 rfl ‹_› rfl ?_ ?_;omega)|refine s2 rfl λ_ c=>?_|(refine sC rfl (j) ?_;intro _ c)|refine sP rfl (v) rfl ?_|refine s3 rfl ?_ ?_<;>rintro rfl|refine aU rfl ?_|apply Aa|(refine aC rfl ?_ ?_<;>rintro⟨⟩));all_goals try contradiction
  ·refine⟨⟨k+1,by omega⟩,by dsimp only;(omega),[],?_⟩
   have n:Cf (s.es.take (k+1)) l m=Cf (s.es.take k) l m ||| y:=by rw[i,if_pos ⟨by simpa using ‹decide (e.l=l)=true›,c⟩]
   simp[cX,zC,d,p,n]
  ·have n:Cf (s.es.take (k+1)) l m=Cf (s.es.take k) l m:=by rw[i,if_neg (by simp[c])]
   apply aK;(repeat first|(refine sA rfl ?_ ?_;first|exact tI|omega)|refine aU rfl ?_|apply Aa);refine⟨⟨k+1,by omega⟩,by dsimp only;(omega),[],?_⟩;simp[cX,zC,d,n]
  ·have n:Cf (s.es.take (k+1)) l m=Cf (s.es.take k) l m:=by rw[i,if_neg (λh=>by simp[h.1]at c)]
   apply aK;(repeat first|(refine sA rfl ?_ ?_;first|exact tI|omega)|refine aU rfl ?_|apply Aa);refine⟨⟨k+1,by omega⟩,by dsimp only;(omega),[],?_⟩;simp[cX,zC,d,n]
 ·obtain rfl:k=s.es.length:=by omega
  rw[i8];(repeat first|refine sN rfl ?_|refine tA rfl ?_|refine s2 rfl λ_ c=>?_|refine aU rfl ?_|apply Aa)
  ((refine aC rfl ?_ ?_<;>rintro⟨⟩);all_goals try(exfalso;(simp only[oZ] at *;omega)))
  apply aE;(repeat first|refine tA rfl ?_|refine aU rfl ?_|apply Aa);(subst_vars;exact aR ⟨_,rfl,rfl⟩)
abbrev Nu(n:Nat)(F:PS):List Int:=(List.range n).map λp=>(F p:Int)
def Cl(t:Ch)(G:PS)(i k:Nat):Prop:=∀p,p<t.q.nx.length->∀l∈Cg t,(p<i\/(p=i/\l∈(Cg t).take k))->∀j,(Cf t.s.es l (G p)).testBit j=true->(G (Bg t.q p l).toNat).testBit j=true
structure Up (t:Ch) (F0 F:PS) (i k:Nat) (G:PS) (b:Bool):Prop where
 ok:CR t G
 lo:∀p j,(F0 p).testBit j=true->(G p).testBit j=true
 hi:∀p j,(G p).testBit j=true->QP t F0 p j
 le:∀p,F p<=G p
 yes:b=true->Oz G<Oz F
 no:b=false->G=F/\Cl t F i k
theorem jh{F G:PS}(h:∀p,F p<=G p):Oz G<=Oz F:=by
 unfold Oz
 repeat' apply Nat.add_le_add
 all_goals exact Nat.sub_le_sub_left (h _) _
def YO(G:PS)(x v:Nat):PS:=λp=>if p=x then v else G p
theorem Up.Qs{t:Ch}(ht:A9 t=true){F0 F G:PS}{i k:Nat}{b:Bool}(h:Up t F0 F i k G b)(hi:i<t.q.nx.length){l:Int}(hk:(Cg t)[k]?=some l){x:Nat}(u:Bg t.q i l=(x:Int))(m:G x ||| Cf t.s.es l (G i)≠G x):Up t F0 F i (k+1) (YO G x (G x ||| Cf t.s.es l (G i))) true:=by
 have r:=co hk;have d:=DM ht r;have v:=Cn (Cr ht) hi d.1 d.2.1;have c:=JJ ht (l:=l) (h.ok.lt i);unfold Df at c;rw[if_pos d.2.2]at c
 have f:G x ||| Cf t.s.es l (G i)<65536:=by have:=sZ (n:=16) (h.ok.lt x) c;omega
 have g:∀p,G p<=YO G x (G x ||| Cf t.s.es l (G i)) p:=λp=>by
  unfold YO;split
  ·rename_i e;subst e;exact Nat.left_le_or
  ·exact lc _
 refine⟨⟨λp=>?_,λp hp=>?_⟩,λp j a=>?_,λp j a=>?_,λp=>pm (h.le p) (g p),λ_=>?_,λh=>by cases h⟩
 ·unfold YO
  split
  ·exact f
  ·exact h.ok.lt p
 ·unfold YO
  rw[if_neg (by omega)];exact h.ok.z p hp
 ·have:=h.lo p j a
  unfold YO;split
  ·rename_i e;subst e;rw[sD,this];rfl
  ·exact this
 ·unfold YO at a
  split at a
  ·rename_i e
   subst e;rw[sD,qW]at a
   rcases a with a|a
   ·exact h.hi p j a
   ·obtain⟨e,o,⟨A,y⟩,w⟩:=DN.1 a
    subst A;have:=QP.step (h.hi i _ y) o r rfl;rw[u,w]at this
    simpa using this
  ·exact h.hi p j a
 ·have B:=jh h.le
  refine qV (Zy h.ok.lt (λp=>?_) g λo=>m ?_) B
  ·unfold YO
   split
   ·exact f
   ·exact h.ok.lt p
  ·have H:=AB (Cr ht)
   have:=TN o x (by omega)
   simpa[YO]using this
theorem Up.oM{t:Ch}(ht:A9 t=true){F0 F G:PS}{i k:Nat}{b:Bool}(h:Up t F0 F i k G b){l:Int}(hk:(Cg t)[k]?=some l){x:Nat}(g:Bg t.q i l=(x:Int))(m:G x ||| Cf t.s.es l (G i)=G x):Up t F0 F i (k+1) G b:=
 ⟨h.ok, h.lo,h.hi,h.le,h.yes,λhb=>by
  obtain⟨rfl,f⟩:=h.no hb;refine⟨rfl,λp hp l' c d j e=>?_⟩
  rcases d with a|⟨rfl,a⟩
  ·exact f p hp l' c (.inl a) j e
  ·rw [i7,hk]at a
   rcases gc.1 a with a|a
   ·exact f p hp l' c (.inr ⟨rfl,a⟩) j e
   ·simp at a
    subst a
    rw[g,d8,<-m,sD,e,t6]⟩
theorem Up.row{t:Ch}{F0 F G:PS}{i:Nat}{b:Bool}(h:Up t F0 F i (Cg t).length G b):Up t F0 F (i+1) 0 G b:=
 ⟨h.ok,h.lo,h.hi,h.le,h.yes,λhb=>by
  obtain⟨rfl,e⟩:=h.no hb;refine⟨rfl,λp hp l' a c j d=>?_⟩
  rcases c with g|⟨rfl,g⟩
  ·rcases rn p i with f|f
   ·exact e p hp l' a (.inl f) j d
   ·exact e p hp l' a (.inr ⟨by omega,by rw[i8];exact a⟩) j d
  ·simp at g⟩
theorem Up.done{t:Ch}(ht:A9 t=true){F0 F G:PS}(d:CR t F0)(h:Up t F0 F t.q.nx.length 0 G false):G=SV t F0:=by
 obtain⟨rfl,c⟩:=h.no rfl;exact dU ht d h.ok.z h.lo h.hi λp l j hp a b=>c p hp l a (.inl hp) j b
theorem j8{a b:Int}(ha:A1 a=true)(hb:A1 b=true):a-Gk .i64 a b=Hp .i64 a b/\0<=Gk .i64 a b/\Gk .i64 a b<=63:=by
 have key:((List.range 64).all λx=>(List.range 64).all λy=>decide (((x:Nat):Int)-Gk .i64 (x:Nat) (y:Nat)=Hp .i64 (x:Nat) (y:Nat)/\0<=Gk .i64 (x:Nat) (y:Nat)/\Gk .i64 (x:Nat) (y:Nat)<=63))=true:=by kernel_rfl
 unfold A1 at ha hb;simp only[decide_eq_true_eq]at ha hb;have d:=ge.1 key a.toNat (pi.2 (by omega));have c:=ge.1 d b.toNat (pi.2 (by omega));rw[sK ha.1,sK hb.1]at c;exact of_decide_eq_true c
abbrev o8(r:Ea×Bool):E:=.t [(true,(A3 r.1)),(false,[.d (bD r.2)])]
theorem XF(a:W)(u:a.length<=1000000):Spec Tryz.prog TB 176 [] 0 [eT a] (Eh (λ_:Ea×Bool=>True) o8):=by
 refine eR Tryz.func176 rfl (by kernel_rfl) rfl ?_;intro U b;(repeat first|refine tA rfl ?_|refine aU rfl ?_|apply Aa);apply aB;refine aL (α:={k:Nat // k<=a.length}) [0] [] rfl rfl (λs=>[(2,.o (.ptr 0 3 0 0)),(4,eI .i64 s.1)]) (λs=>[(0,.cells 78 3 [A3 ⟨0,0,0⟩])]) 1 (λs=>a.length-s.1) (⟨0,by omega⟩) b rfl (by (simp[cX,zC,b,cN])) ?_;rintro⟨k,hk⟩;(try dsimp only[cA,cB]);by_cases p:k<a.length
 ·obtain⟨c,r⟩:=get_some (l:=a) (k:=(k:Int).toNat) (by omega)
  have q:=c.toNat_lt;have j:=IG (TB:=TB) a k c r;(repeat first|refine tA rfl ?_|refine s2 rfl λ_ d=>?_|refine aU rfl ?_|apply Aa)
  ((refine aC rfl ?_ ?_<;>rintro⟨⟩);all_goals try(exfalso;(simp only[oZ] at *;omega)))
  apply aK;refine aS (aB ?_)
  (repeat' first|refine tA rfl ?_|(refine s4 rfl ‹_› rfl ?_ ?_;omega)|refine s2 rfl λ_ d=>?_|refine s3 rfl ?_ ?_<;>rintro rfl|refine aU rfl ?_|apply Aa|(refine aC rfl ?_ ?_<;>rintro⟨⟩));all_goals try contradiction
  all_goals first|(exfalso;omega;done)|skip
  ·(repeat first|(refine Al rfl ?_;refine gA rfl ?_;first|refine gS (λ_ _=>ZW rfl rfl (by omega) (by omega)) ?_))
   (refine pW rfl ?_ rfl (by rfl);refine Ag [] rfl rfl (JY (TB:=TB) (a.take (k:Int).toNat) (by simp;omega)) ⟨rfl,by decide,by decide⟩ rfl trivial ?_;rintro n g h ⟨⟨f,t⟩,_,rfl,rfl,rfl⟩ _);(repeat first|(refine sA rfl ?_ ?_;first|exact tI|omega)|(refine Al rfl ?_;refine gA rfl ?_;first|refine gS (λ_ _=>FJ rfl rfl (by omega) (by omega)) ?_)|refine aU rfl ?_|apply Aa);(refine pW rfl ?_ rfl (by rfl);refine Ag [] rfl rfl (JY (TB:=TB) (a.drop ((k:Int)+1).toNat) (by simp;omega)) ⟨rfl,by decide,by decide⟩ rfl trivial ?_;rintro n g h ⟨⟨e,m⟩,_,rfl,rfl,rfl⟩ _);(repeat' first|refine tA rfl ?_|refine sP rfl (j) rfl ?_|(refine Al rfl ?_;refine gA rfl ?_;first|refine gS (λ_ _=>AS rfl rfl (by rfl) (by rfl)) ?_)|refine s3 rfl ?_ ?_<;>rintro rfl|refine aU rfl ?_|apply Aa|(refine aC rfl ?_ ?_<;>rintro⟨⟩))
   all_goals first
    | exact aR ⟨_,rfl,[],o8 (⟨f,(c.toNat:Int)-97,e⟩,m),[],⟨λi hi=>absurd hi (mt i),ol⟩,rfl,trivial,(⟨f,(c.toNat:Int)-97,e⟩,m),trivial,rfl,rfl,rfl⟩
    | exact aR ⟨_,rfl,[],o8 (⟨f,(c.toNat:Int)-97,e⟩,false),[],⟨λi hi=>absurd hi (mt i),ol⟩,rfl,trivial,(⟨f,(c.toNat:Int)-97,e⟩,false),trivial,rfl,rfl,rfl⟩
  all_goals
   apply aK;(repeat first|(refine sA rfl ?_ ?_;first|exact tI|omega)|refine aU rfl ?_|apply Aa);refine⟨⟨k+1,by omega⟩,by dsimp only;(omega),[0],?_⟩;(simp[cX,zC,b,cN]<;>rfl)
 ·(repeat first|refine tA rfl ?_|refine s2 rfl λ_ d=>?_|refine aU rfl ?_|apply Aa)
  ((refine aC rfl ?_ ?_<;>rintro⟨⟩);all_goals try(exfalso;(simp only[oZ] at *;omega)))
  apply aE;(repeat first|refine tA rfl ?_|(refine Al rfl ?_;refine gA rfl ?_;first|refine gS (λ_ _=>AS rfl rfl (by rfl) (by rfl)) ?_)|refine aU rfl ?_|apply Aa);exact aR ⟨_,rfl,[],o8 (⟨0,0,0⟩,false),[],⟨λi hi=>absurd hi (mt i),ol⟩,rfl,trivial,(⟨0,0,0⟩,false),trivial,rfl,rfl,rfl⟩
theorem I6(y:Sys)(hb:y.es.length<=100000):Spec Tryz.prog TB 177 [] 0 [BK y] (Eh (λr:W=>r.length<=1000000) eT):=by
 have A:=BS (TB:=TB) y;refine eR Tryz.func177 rfl (by kernel_rfl) rfl ?_;intro U d;(repeat first|refine tA rfl ?_|refine s2 rfl λ_ a=>?_|(refine sC rfl (A) ?_;intro _ a)|refine aU rfl ?_|apply Aa);(refine aC rfl ?_ ?_<;>rintro⟨⟩)
 ·(repeat first|refine tA rfl ?_|refine aU rfl ?_|apply Aa)
  exact aR ⟨_,rfl,[],eT [],[],⟨λi hi=>absurd hi (mt i),ol⟩,rfl,trivial,[],rQ _,rfl,rfl,rfl⟩
 have h:AU y=true:=by (simp at a;subst a;assumption)
 have K:=AN h;apply aK;(repeat first|refine aU rfl ?_);refine rG ⟨Gj [(2,1),(6,1)],dr [0,1,4,5,2,3,6,7,8]⟩ (by kernel_rfl) ?_;(repeat first|refine tA rfl ?_);(refine pW rfl ?_ rfl (by rfl);refine Ag [] rfl rfl (EI (TB:=TB) y.al) ⟨rfl,by decide,by decide⟩ rfl trivial ?_;rintro j b c ⟨u,x,rfl,rfl,rfl⟩ _);(repeat first|(refine sA rfl ?_ ?_;simp only[oZ] at *;omega));(refine pW rfl ?_ rfl (by rfl);refine Ag [] rfl rfl (HV (TB:=TB) y.st (by omega)) ⟨rfl,by decide,by decide⟩ rfl trivial ?_;rintro j b c ⟨q,v,rfl,rfl,rfl⟩ _);(repeat first|(refine sA rfl ?_ ?_;first|exact tI|simp only[oZ] at *;omega)|refine aU rfl ?_|apply Aa);apply aB;refine aL (α:={z:Nat×W // z.1<=y.es.length/\z.2.length<=10+9*z.1}) [1] [] rfl rfl (λs=>[(3,eT s.1.2),(4,eI .i64 s.1.1)]) (λs=>[]) 0 (λs=>y.es.length-s.1.1) (⟨⟨0,u++[32]++q⟩,by simp;omega⟩) d rfl (by (simp[cX,zC,d])) ?_;rintro⟨⟨k,w⟩,hk,o⟩;(try dsimp only[cA,cB]);have hk:k<=y.es.length:=hk;have o:w.length<=10+9*k:=o;by_cases m:k<y.es.length
 ·obtain⟨e,p⟩:=get_some m
  have n:=get_map (g:=De) p
  have F:(y.es.map De)[((k:Nat):Int).toNat]?=some (De e):=by rw[d8];exact n
  have hb:=C8 h (co p);unfold DA at hb;simp only[d4,decide_eq_true_eq]at hb;(repeat first|refine sN rfl ?_|refine tA rfl ?_|refine s2 rfl λ_ a=>?_|refine aU rfl ?_|apply Aa)
  ((refine aC rfl ?_ ?_<;>rintro⟨⟩);all_goals try(exfalso;(simp only[oZ] at *;omega)))
  apply aK;refine aS (aB ?_);(repeat first|refine tA rfl ?_|(refine s4 rfl ‹_› rfl ?_ ?_;omega)|refine aU rfl ?_|apply Aa);refine rG ⟨Gj [(3,10),(7,10),(11,10),(4,1001),(12,1001)],dr [0,1,2,3,6,7,10,11,4,5,8,9,12,13,14]⟩ (by kernel_rfl) ?_;(repeat first|(refine sA rfl ?_ ?_;first|exact tI|simp only[oZ] at *;omega));(refine Al rfl ?_;refine CW ?_ rfl ⟨rfl,rfl⟩;refine Ag [] rfl rfl (HV (TB:=TB) e.f (by omega)) ⟨rfl,by decide,by decide⟩ rfl trivial ?_;rintro j b c ⟨J,H,rfl,rfl,rfl⟩ _;refine⟨Fc 0 rfl rfl,?_⟩);(repeat first|(refine sA rfl ?_ ?_;simp only[oZ] at *;omega)|refine sP rfl (HW e.l (by omega) (by omega)) rfl ?_);(refine Al rfl ?_;refine CW ?_ rfl ⟨rfl,rfl⟩;refine Ag [] rfl rfl (HV (TB:=TB) e.t (by omega)) ⟨rfl,by decide,by decide⟩ rfl trivial ?_;rintro j b c ⟨I,G,rfl,rfl,rfl⟩ _;refine⟨Fc 0 rfl rfl,?_⟩);(repeat first|(refine sA rfl ?_ ?_;first|exact tI|omega|simp only[oZ] at *;omega)|refine aU rfl ?_|apply Aa);refine⟨⟨⟨k+1,w++[32]++J++[UInt8.ofNat (97+e.l.toNat)]++I⟩,by dsimp only;omega,by simp;omega⟩,by dsimp only;(omega),[],?_⟩;(simp[cX,zC,d,cN]<;>rfl)
 ·have B:k=y.es.length:=by omega
  (repeat first|refine sN rfl ?_|refine tA rfl ?_|refine s2 rfl λ_ a=>?_|refine aU rfl ?_|apply Aa)
  ((refine aC rfl ?_ ?_<;>rintro⟨⟩);all_goals try(exfalso;(simp only[oZ] at *;omega)))
  apply aE;(repeat first|refine tA rfl ?_|refine aU rfl ?_|apply Aa);exact aR ⟨_,rfl,[],eT w,[],⟨λi hi=>absurd hi (mt i),ol⟩,rfl,trivial,w,by show w.length<=_;omega,rfl,rfl,rfl⟩
abbrev kz(r:Sys×Bool):E:=.t [(true,[.d (iD r.1.al),.d (iD r.1.st),.d (Em r.1.es)]),(false,[.d (bD r.2)])]
def NQ(al n:Int):List Ea->Ac
 | []=>[(1,.cells 25 3 [[.d (iD al),.d (iD n),.d (.v (.slice none 0 0))]])]
 | e::l=>[(1,.cells 25 3 [[.d (iD al),.d (iD n),.arr 2 3 0 (l.length+1)]]),(2,.cells 78 3 ((e::l).map A3))]
theorem GM(f:W)(Z:f.length<=10000):Spec Tryz.prog TB 125 [] 0 [eT f] (Eh (λr:Sys×Bool=>r.1.es.length<=f.length+1) kz):=by
  refine eR Tryz.func125 rfl (by kernel_rfl) rfl ?_;intro U e;(repeat first|refine tA rfl ?_|refine aU rfl ?_|apply Aa);(refine pW rfl ?_ rfl (by rfl);refine Ag [] rfl rfl (Nh (TB:=TB) f (by omega) 32) ⟨rfl,by decide,by decide⟩ rfl trivial ?_;rintro m b c ⟨ps,⟨R,Q,q⟩,rfl,rfl,rfl⟩ _);(repeat first|refine sN rfl ?_|refine tA rfl ?_|refine s2 rfl λ_ a=>?_|refine aU rfl ?_|apply Aa);by_cases S:ps.length<2
  · ((refine aC rfl ?_ ?_<;>rintro⟨⟩);all_goals try(exfalso;(simp only[oZ] at *;omega)))
    (repeat first|refine tA rfl ?_|(refine Al rfl ?_;refine gA rfl ?_;first|refine gS (λ_ _=>AS rfl rfl (by rfl) (by rfl)) ?_)|refine aU rfl ?_|apply Aa);exact aR ⟨_,rfl,[],kz (⟨0,0,[]⟩,false),[],⟨λi hi=>absurd hi (mt i),ol⟩,rfl,trivial,(⟨0,0,[]⟩,false),rQ _,rfl,rfl,rfl⟩
  ((refine aC rfl ?_ ?_<;>rintro⟨⟩);all_goals try(exfalso;(simp only[oZ] at *;omega)))
  apply aK;obtain⟨K,Y⟩:=get_some (l:=ps) (k:=(0:Int).toNat) (by simp;omega);have X:=get_map (g:=Dv) Y;obtain⟨y,F⟩:=get_some (l:=ps) (k:=(1:Int).toNat) (by simp;omega);have V:=get_map (g:=Dv) F;have B:=q y (co F);(repeat first|refine tA rfl ?_|(refine s4 rfl ‹_› rfl ?_ ?_;omega)|refine aU rfl ?_);(refine pW rfl ?_ rfl (by rfl);refine Ag [] rfl rfl (HJ (TB:=TB) K) ⟨rfl,by decide,by decide⟩ rfl trivial ?_;rintro m b c ⟨⟨n,ok⟩,_,rfl,rfl,rfl⟩ _);(repeat first|refine tA rfl ?_|(refine s4 rfl ‹_› rfl ?_ ?_;omega)|refine aU rfl ?_|apply Aa);(refine pW rfl ?_ rfl (by rfl);refine Ag [] rfl rfl (JY (TB:=TB) y (by omega)) ⟨rfl,by decide,by decide⟩ rfl trivial ?_;rintro m b c ⟨⟨st,M⟩,_,rfl,rfl,rfl⟩ _);(repeat first|refine tA rfl ?_|refine s2 rfl λ_ a=>?_|refine s3 rfl ?_ ?_<;>rintro rfl|refine aU rfl ?_|apply Aa)
  (repeat' first|refine tA rfl ?_|refine s2 rfl λ_ a=>?_|refine aU rfl ?_|apply Aa|(refine aC rfl ?_ ?_<;>rintro⟨⟩));all_goals try contradiction
  all_goals first
    | ((repeat first|refine tA rfl ?_|(refine Al rfl ?_;refine gA rfl ?_;first|refine gS (λ_ _=>AS rfl rfl (by rfl) (by rfl)) ?_)|apply Aa)
       exact aR ⟨_,rfl,[],kz (⟨0,0,[]⟩,false),[],⟨λi hi=>absurd hi (mt i),ol⟩,rfl,trivial,(⟨0,0,[]⟩,false),rQ _,rfl,rfl,rfl⟩
       done)
    | skip
  apply aK;(repeat first|refine tA rfl ?_|(refine Al rfl ?_;refine gA rfl ?_;first|refine gS (λ_ _=>P8 rfl rfl (by rfl) (by rfl)) ?_)|refine aU rfl ?_|apply Aa);apply aB;refine aL (α:={z:Nat×List Ea // (2<=z.1/\z.1<=ps.length)/\z.2.length+2=z.1}) [0,4] [] rfl rfl (λs=>[(2,.o (.ptr 0 3 0 0)),(9,.o (.ptr 1 3 0 0)),(10,eI .i64 s.1.1)]) (λs=>((0,.cells 25 3 [[.d (iD 0),.d (iD 0),.d (.l [])]])::NQ n st s.1.2)) 3 (λs=>ps.length-s.1.1) (⟨⟨2,[]⟩,by simp;omega⟩) e rfl (by (simp[cX,zC,e,NQ,cN])) ?_;rintro⟨⟨k,l⟩,hk,u⟩;(try dsimp only[cA,cB]);have hk:2<=k/\k<=ps.length:=hk;have u:l.length+2=k:=u;(repeat first|refine sN rfl ?_|refine tA rfl ?_|refine s2 rfl λ_ a=>?_|refine aU rfl ?_|apply Aa)
  ((refine aC rfl ?_ ?_<;>rintro⟨⟩);all_goals try (simp at a;done))
  · have x:k<ps.length:=by (simp only[oZ] at *;omega)
    obtain⟨w,A⟩:=get_some (l:=ps) (k:=k) x;have P:=get_map (g:=Dv) A;have N:=q w (co A);apply aK;refine aS (aB ?_);(repeat first|refine tA rfl ?_|(refine s4 rfl ‹_› rfl ?_ ?_;omega)|refine aU rfl ?_);(refine pW rfl ?_ rfl (by rfl);refine Ag [] rfl rfl (XF (TB:=TB) w (by omega)) ⟨rfl,by decide,by decide⟩ rfl trivial ?_;rintro m b c ⟨⟨⟨I,H,G⟩,L⟩,_,rfl,rfl,rfl⟩ _);(repeat first|refine tA rfl ?_|refine s2 rfl λ_ a=>?_|refine aU rfl ?_|apply Aa);(refine aC rfl ?_ ?_<;>rintro⟨⟩)
    · (repeat first|refine tA rfl ?_|(refine Al rfl ?_;refine gA rfl ?_;first|refine gS (λ_ _=>AS rfl rfl (by rfl) (by rfl)) ?_)|refine aU rfl ?_|apply Aa)
      exact aR ⟨_,rfl,[],kz (⟨0,0,[]⟩,false),[],⟨λi hi=>absurd hi (mt i),ol⟩,rfl,trivial,(⟨0,0,[]⟩,false),rQ _,rfl,rfl,rfl⟩
    apply aK
    cases l with
    | nil=>
      (repeat first|refine tA rfl ?_|refine aU rfl ?_);(refine pW rfl ?_ rfl (by rfl);refine ZE 61 rfl ?_;refine EC rfl rfl rfl (by intro r p;simp at p;subst p;rfl) (by rfl) (ce rfl) (by simp) (λh=>?_) (λ_=>?_))
      · exact absurd h (by simp)
      (repeat first|(refine sA rfl ?_ ?_;first|exact tI|omega)|refine aU rfl ?_|apply Aa);refine⟨⟨⟨k+1,[⟨I,H,G⟩]⟩,⟨by dsimp only;omega,by dsimp only;omega⟩,by simp at u;simp;omega⟩,by dsimp only;(omega),[0,1,4],?_⟩;(simp[cX,zC,e,cN,NQ,Ae,eC]<;>rfl)
    | cons j l=>
      (repeat first|refine tA rfl ?_|refine aU rfl ?_);(refine pW rfl ?_ rfl (by rfl);refine Au rfl rfl rfl (by first|(simp;done)|(simp;(omega))) rfl (by intro r p;simp at p;subst p;rfl) (by rfl) (ce rfl) (by simp at u |-;omega) ?_);(repeat first|(refine sA rfl ?_ ?_;first|exact tI|omega)|refine aU rfl ?_|apply Aa);refine⟨⟨⟨k+1,j::(l++[⟨I,H,G⟩])⟩,⟨by dsimp only;omega,by dsimp only;omega⟩,by simp at u |-;omega⟩,by dsimp only;(omega),[0,1,4],?_⟩;(simp[cX,zC,e,cN,NQ,Ae,eC]<;>rfl)
  apply aE
  have T:k=ps.length:=by (simp only[oZ] at *;omega)
  have t:l.length<=f.length+1:=by omega
  cases l with
  | nil=>
    refine Aj.AA [1] [(0,eT f),(2,.o (.ptr 0 3 0 0)),(9,.o (.ip (AF ⟨n,st,[]⟩)))] ⟨⟨_,rfl,.inl rfl⟩,⟨_,rfl,.inl rfl⟩,⟨_,rfl,.inr (.o (.box rfl (.cons .d (.cons .d (.cons .nl .nil)))))⟩,trivial⟩ ?_;(repeat first|refine tA rfl ?_|refine aU rfl ?_);(refine pW rfl ?_ rfl (by rfl);refine Ag [] rfl rfl (I6 (TB:=TB) ⟨n,st,[]⟩ (by simp)) ⟨rfl,by decide,by decide⟩ rfl trivial ?_;rintro m b c ⟨J,v,rfl,rfl,rfl⟩ _);(repeat first|refine tA rfl ?_|refine s2 rfl λ_ a=>?_|apply Aa);(refine aC rfl ?_ ?_<;>rintro⟨⟩)
    · (repeat first|refine tA rfl ?_|(refine Al rfl ?_;refine gA rfl ?_;first|refine gS (λ_ _=>AS rfl rfl (by rfl) (by rfl)) ?_)|refine aU rfl ?_|apply Aa)
      exact aR ⟨_,rfl,[],kz (⟨0,0,[]⟩,false),[],⟨λi hi=>absurd hi (mt i),ol⟩,rfl,trivial,(⟨0,0,[]⟩,false),rQ _,rfl,rfl,rfl⟩
    apply aK;(repeat first|refine tA rfl ?_|refine aU rfl ?_|apply Aa);exact aR ⟨_,rfl,[],kz (⟨n,st,[]⟩,true),[],⟨λi hi=>absurd hi (mt i),ol⟩,rfl,trivial,(⟨n,st,[]⟩,true),rQ _,rfl,rfl,rfl⟩
  | cons j l=>
    refine Aj.AA [1,2] [(0,eT f),(2,.o (.ptr 0 3 0 0)),(9,.o (.ip (AF ⟨n,st,j::l⟩)))] ⟨⟨_,rfl,.inl rfl⟩,⟨_,rfl,.inl rfl⟩,⟨_,rfl,.inr (.o (.box rfl (.cons .d (.cons .d (.cons (.full rfl (by simp[d5]) (by simp)) .nil)))))⟩,trivial⟩ ?_;(repeat first|refine tA rfl ?_|refine aU rfl ?_);(refine pW rfl ?_ rfl (by rfl);refine Ag [] rfl rfl (I6 (TB:=TB) ⟨n,st,j::l⟩ (by simp at t |-;omega)) ⟨rfl,by decide,by decide⟩ rfl trivial ?_;rintro m b c ⟨J,v,rfl,rfl,rfl⟩ _);(repeat first|refine tA rfl ?_|refine s2 rfl λ_ a=>?_|apply Aa);(refine aC rfl ?_ ?_<;>rintro⟨⟩)
    · (repeat first|refine tA rfl ?_|(refine Al rfl ?_;refine gA rfl ?_;first|refine gS (λ_ _=>AS rfl rfl (by rfl) (by rfl)) ?_)|refine aU rfl ?_|apply Aa)
      exact aR ⟨_,rfl,[],kz (⟨0,0,[]⟩,false),[],⟨λi hi=>absurd hi (mt i),ol⟩,rfl,trivial,(⟨0,0,[]⟩,false),rQ _,rfl,rfl,rfl⟩
    apply aK;(repeat first|refine tA rfl ?_|refine aU rfl ?_|apply Aa);exact aR ⟨_,rfl,[],kz (⟨n,st,j::l⟩,true),[],⟨λi hi=>absurd hi (mt i),ol⟩,rfl,trivial,(⟨n,st,j::l⟩,true),t,rfl,rfl,rfl⟩
def KH(m n:Nat):Nat:=(List.range n).countP (m.testBit ·)
theorem Qc(m n:Nat):KH m (n+1)=if m.testBit n then KH m n+1 else KH m n:=by
 unfold KH;rw[sT,List.countP_append];cases h:m.testBit n<;>simp[h]
theorem gm(m n:Nat):KH m n<=n:=by
 unfold KH;have:=List.countP_le_length (p:=(m.testBit ·)) (l:=List.range n);rwa[ut]at this
theorem Ni(m:Nat)(e:m<2 ^ 62)(n:Nat)(h:n<=60):Pure Tryz.prog TB 181 [eI .i64 (m:Nat),eI .i64 (n:Nat)] (eI .i64 (KH m n:Nat)):=by
 refine eG Tryz.func181 rfl (by kernel_rfl) rfl ?_;intro U a;(repeat first|refine tA rfl ?_|refine aU rfl ?_|apply Aa);apply aB;refine aL (α:={k:Nat // k<=n}) [0,1] [] rfl rfl (λ⟨k,hk⟩=>[(5,eI .i64 (KH m k:Nat)),(6,eI .i64 k)]) (λ⟨k,hk⟩=>[]) 0 (λ⟨k,hk⟩=>n-k) (⟨0,by omega⟩) a rfl (by (simp[cX,zC,a]<;>rfl)) ?_;rintro⟨k,hk⟩;(try dsimp only[cA,cB]);by_cases f:k<n
 ·have g:=gm m k
  have c:=Qc m k;have d:=CT (TB:=TB) (m:Nat) (k:Int) (by omega) (by omega);rw[Dd e (by omega)]at d;(repeat first|refine tA rfl ?_|refine s2 rfl λ_ b=>?_|refine aU rfl ?_|apply Aa)
  ((refine aC rfl ?_ ?_<;>rintro⟨⟩);all_goals try(exfalso;(simp only[oZ] at *;omega)))
  apply aK;refine aS (aB ?_);(repeat first|refine tA rfl ?_|(refine sC rfl (d) ?_;intro _ b)|refine aU rfl ?_|apply Aa);(refine aC rfl ?_ ?_<;>rintro⟨⟩)
  ·have hb:m.testBit k=true:=by simpa using b
   rw[if_pos hb]at c;(repeat first|(refine sA rfl ?_ ?_;first|exact tI|omega)|refine aU rfl ?_|apply Aa);refine⟨⟨k+1,by omega⟩,by dsimp only;(omega),[],?_⟩;simp[cX,zC,a,c]
  ·have hb:m.testBit k=false:=by simpa using b
   rw[if_neg (by simp[hb])]at c;apply aK;(repeat first|(refine sA rfl ?_ ?_;first|exact tI|omega)|refine aU rfl ?_|apply Aa);refine⟨⟨k+1,by omega⟩,by dsimp only;(omega),[],?_⟩;simp[cX,zC,a,c]
 ·obtain rfl:k=n:=by omega
  (repeat first|refine tA rfl ?_|refine s2 rfl λ_ b=>?_|refine aU rfl ?_|apply Aa)
  ((refine aC rfl ?_ ?_<;>rintro⟨⟩);all_goals try(exfalso;(simp only[oZ] at *;omega)))
  apply aE;(repeat first|refine tA rfl ?_|refine aU rfl ?_|apply Aa);(subst_vars;exact aR ⟨_,rfl,rfl⟩)
def jc(al n:Int)(l:List Ea):Ac:=(0,.cells 25 3 [[.d (iD 0),.d (iD 0),.d (.l [])]])::NQ al n l
theorem XC(n:Int)(d:0<=n)(g:n<=16):Pure Tryz.prog TB 137 [eI .i64 n] (eI .i64 ((2 ^ n.toNat:Nat):Int)):=by
 have a:IntKind.i64.wrap (1*2 ^ (min n.toNat IntKind.i64.bits))=((2 ^ n.toNat:Nat):Int):=by
  have e:min n.toNat IntKind.i64.bits=n.toNat:=by
   have:IntKind.i64.bits=64:=rfl;omega
  rw[e,uy];have f:2 ^ n.toNat<2 ^ 17:=tz (by omega) (by omega)
  have c:(2:Int) ^ n.toNat=((2 ^ n.toNat:Nat):Int):=by push_cast;rfl
  rw[c];generalize 2 ^ n.toNat=p at *;exact IntWalk.i64_in _ (by omega)
 refine eN Tryz.func137 rfl (by kernel_rfl) rfl ?_;intro U b;(repeat' first|(refine sA rfl ?_ ?_;first|exact tI|omega)|(refine Al rfl ?_;refine gA rfl ?_;first|refine gS (λ_ _=>gi rfl rfl d a) ?_)|refine aU rfl ?_|apply Aa|(refine aC rfl ?_ ?_<;>rintro⟨⟩)|apply aK|apply aE|apply aB|refine aR ⟨_,rfl,?_⟩);rfl
abbrev qi(r:Ch×Bool):E:=.t [(true,(Sw r.1).map .d),(false,[.d (bD r.2)])]
theorem Fj(b:List UInt8)(hb:b.length<=2000)(p:Int)(P:0<=p/\p<800000000)(y:Sys)(N:y.es.length<=100000):Spec Tryz.prog TB 89 [(0,Bb b p)] 1 [.o (.ptr 0 2 0 0),BK y] (Lr b p 5 (λs=>s.es.length<=y.es.length+1)):=by
 obtain⟨k,M,L,hk⟩:=A4 (TB:=TB) b hb p y.es.length (by omega);obtain⟨c,S,Q,K⟩:=A4 (TB:=TB) b hb (p+1) 30 (by omega);refine eR Tryz.func89 rfl (by kernel_rfl) rfl ?_;intro U a;(repeat first|refine tA rfl ?_|refine aU rfl ?_|apply Aa);refine R.RD [(0,2),(1,2),(2,2),(3,2),(5,2),(6,2),(9,3),(4,1),(7,1),(8,0),(10,5)] mixed (by kernel_rfl) rfl (by kernel_rfl) ?_;(repeat ((refine R.Al rfl ?_;first|(refine R.yQ (md:=false) rfl rfl rfl ?_ ?_;exact tI)|refine R.yP rfl rfl rfl rfl ?_ )));(refine R.Al rfl ?_;refine R.Mi (λ_=>?_) rfl rfl;refine A8 rfl rfl rfl rfl (by simp) (by rfl) (by rfl) (by rfl) (by rfl) ?_);(refine R.Al rfl ?_;refine R.Mi (λ_=>?_) rfl rfl;refine Au rfl rfl rfl (by simp) rfl (by intro r u;simp only[rL,d9]at u;obtain⟨_,_,rfl⟩:=u;rfl) (by rfl) (ce rfl) (by simp;omega) ?_);(repeat ((refine R.Al rfl ?_;first|refine R.yA rfl rfl rfl rfl ?_|refine R.CX (λ_ _ _=>AS rfl rfl (by rfl) (by rfl)) rfl rfl ?_ )));refine R.Rz ?_;refine Aj.Ay [0] [] rfl rfl [(4,.o (.ptr 1 3 0 0)),(5,.o (.ptr 3 3 0 0))] [(0,Bb b p),(1,.cells 25 3 [[.d (iD 0),.d (iD 0),.d (.l [])]]),(2,.cells 78 3 (y.es.map A3)),(3,.cells 25 3 [[.d (iD y.al),.d (iD y.st),.arr 2 3 0 y.es.length]])] [0,1,3,4] (rl a rfl) (by (simp[cX,zC,a,cN,Ae,BM,eC])) ?_;(try dsimp only[cA,cB]);(repeat first|refine tA rfl ?_|refine aU rfl ?_|apply Aa);(refine pW rfl ?_ rfl (by rfl);refine Ag [0] rfl rfl (hk) ⟨rfl,by decide,by decide⟩ rfl (by simp[cX,zC,a,cN]) ?_;rintro t j m ⟨rfl,rfl,rfl⟩ _);(repeat first|refine tA rfl ?_|refine aU rfl ?_|apply Aa);(refine pW rfl ?_ rfl (by rfl);refine Ag [0] rfl rfl (K) ⟨rfl,by decide,by decide⟩ rfl (by simp[cX,zC,a,cN]) ?_;rintro t j m ⟨rfl,rfl,rfl⟩ _);apply Aa;refine Aj.Ay [0] [] rfl rfl [(4,.o (.ptr 1 3 0 0)),(5,.o (.ptr 3 3 0 0)),(6,eI .i64 y.es.length),(7,eI .i64 k),(24,eI .i64 c)] [(0,Bb b (p+1+1)),(1,.cells 25 3 [[.d (iD 0),.d (iD 0),.d (.l [])]]),(2,.cells 78 3 (y.es.map A3)),(3,.cells 25 3 [[.d (iD y.al),.d (iD y.st),.arr 2 3 0 y.es.length]])] [0,1,2,3] (rl a rfl) (by (simp[cX,zC,a,cN])) ?_;(try dsimp only[cA,cB]);apply aB;(repeat first|refine tA rfl ?_|refine s2 rfl λ_ e=>?_|refine aU rfl ?_|apply Aa);(refine aC rfl ?_ ?_<;>rintro⟨⟩)
 ·obtain⟨z,G,v⟩:=CP (TB:=TB) b hb (p+1+1) (by omega) [64,-1,1,63] (by decide) (by decide)
  (repeat first|refine tA rfl ?_|refine aU rfl ?_);(refine pW rfl ?_ rfl (by rfl);refine Ag [0] rfl rfl (v) ⟨rfl,by decide,by decide⟩ rfl (by simp[cX,zC,a,cN]) ?_;rintro t j m ⟨rfl,rfl,rfl⟩ _);(repeat first|refine tA rfl ?_|refine aU rfl ?_|apply Aa);refine Aj.Ay [] [] rfl rfl [(4,.o (.ptr 1 3 0 0))] [(0,Bb b (p+1+1+1)),(1,.cells 25 3 [[.d (iD (z)),.d (iD (y.st)),.arr 2 3 0 (y.es).length]]),(2,.cells 78 3 ((y.es).map A3))] [0,1,2] (rl a rfl) (by (simp[cX,zC,a,cN,Ae,eC])) ?_;(try dsimp only[cA,cB]);refine Aj.AA [1,2] [(4,.o (.ip (AF ⟨z,y.st,y.es⟩)))] ⟨⟨_,rfl,.inr (.o (.box rfl (.cons .d (.cons .d (.cons (.full rfl (by simp[d5]) (by simp)) .nil)))))⟩,trivial⟩ ?_;refine aR ⟨_,rfl,[0],BK ⟨z,y.st,y.es⟩,[(0,Bb b (p+1+1+1))],⟨by intro i hi;match i with|0=>rfl,by decide⟩,rfl,by (simp[cX,zC,a,cN]),p+1+1+1,⟨z,y.st,y.es⟩,by omega,by first|(simp;done)|(simp;omega),rfl,rfl,rfl⟩
 (repeat first|refine tA rfl ?_|refine s2 rfl λ_ e=>?_|refine aU rfl ?_|apply Aa);(refine aC rfl ?_ ?_<;>rintro⟨⟩)
 ·obtain⟨z,G,v⟩:=CP (TB:=TB) b hb (p+1+1) (by omega) [0,17,-1,16,1] (by decide) (by decide)
  (repeat first|refine tA rfl ?_|refine aU rfl ?_);(refine pW rfl ?_ rfl (by rfl);refine Ag [0] rfl rfl (v) ⟨rfl,by decide,by decide⟩ rfl (by simp[cX,zC,a,cN]) ?_;rintro t j m ⟨rfl,rfl,rfl⟩ _);(repeat first|refine tA rfl ?_|refine aU rfl ?_|apply Aa);refine Aj.Ay [] [] rfl rfl [(4,.o (.ptr 1 3 0 0))] [(0,Bb b (p+1+1+1)),(1,.cells 25 3 [[.d (iD (y.al)),.d (iD (z)),.arr 2 3 0 (y.es).length]]),(2,.cells 78 3 ((y.es).map A3))] [0,1,2] (rl a rfl) (by (simp[cX,zC,a,cN,Ae,eC])) ?_;(try dsimp only[cA,cB]);refine Aj.AA [1,2] [(4,.o (.ip (AF ⟨y.al,z,y.es⟩)))] ⟨⟨_,rfl,.inr (.o (.box rfl (.cons .d (.cons .d (.cons (.full rfl (by simp[d5]) (by simp)) .nil)))))⟩,trivial⟩ ?_;refine aR ⟨_,rfl,[0],BK ⟨y.al,z,y.es⟩,[(0,Bb b (p+1+1+1))],⟨by intro i hi;match i with|0=>rfl,by decide⟩,rfl,by (simp[cX,zC,a,cN]),p+1+1+1,⟨y.al,z,y.es⟩,by omega,by first|(simp;done)|(simp;omega),rfl,rfl,rfl⟩
 (repeat first|refine tA rfl ?_|refine s2 rfl λ_ e=>?_|refine aU rfl ?_|apply Aa);(refine aC rfl ?_ ?_<;>rintro⟨⟩)
 ·by_cases v:y.es.length=0
  ·(repeat' first|refine tA rfl ?_|refine s2 rfl λ_ e=>?_|refine aU rfl ?_|apply Aa|(refine aC rfl ?_ ?_<;>rintro⟨⟩));all_goals try contradiction
   all_goals first
    | (exfalso;(simp only[oZ] at *;omega);done)
    | (apply aK;(repeat first|refine tA rfl ?_|refine aU rfl ?_|apply Aa);refine Aj.Ay [] [] rfl rfl [(4,.o (.ptr 1 3 0 0))] [(0,Bb b (p+1+1)),(1,.cells 25 3 [[.d (iD (y.al)),.d (iD (y.st)),.arr 2 3 0 (y.es).length]]),(2,.cells 78 3 ((y.es).map A3))] [0,1,2] (rl a rfl) (by (simp[cX,zC,a,cN,Ae,eC])) ?_;(try dsimp only[cA,cB]);refine Aj.AA [1,2] [(4,.o (.ip (AF ⟨y.al,y.st,y.es⟩)))] ⟨⟨_,rfl,.inr (.o (.box rfl (.cons .d (.cons .d (.cons (.full rfl (by simp[d5]) (by simp)) .nil)))))⟩,trivial⟩ ?_;refine aR ⟨_,rfl,[0],BK ⟨y.al,y.st,y.es⟩,[(0,Bb b (p+1+1))],⟨by intro i hi;match i with|0=>rfl,by decide⟩,rfl,by (simp[cX,zC,a,cN]),p+1+1,⟨y.al,y.st,y.es⟩,by omega,by first|(simp;done)|(simp;omega),rfl,rfl,rfl⟩)
  obtain⟨⟨h,g,f⟩,x⟩:=get_some (l:=y.es) (k:=k.toNat) (by omega)
  have w:(y.es.map A3)[0+k.toNat]?=some (A3 ⟨h,g,f⟩):=by rw[ms];simp[x]
  obtain⟨z,G,q⟩:=CP (TB:=TB) b hb (p+1+1) (by omega) [-1,16,0,2] (by decide) (by decide)
  have n:(y.es.map A3).set (0+k.toNat) (A3 ⟨z,g,f⟩)=(y.es.set k.toNat ⟨z,g,f⟩).map A3:=by rw[ms,sh]
  (repeat first|refine tA rfl ?_|refine s2 rfl λ_ e=>?_|refine aU rfl ?_|apply Aa)
  ((refine aC rfl ?_ ?_<;>rintro⟨⟩);all_goals try(exfalso;(simp only[oZ] at *;omega)))
  refine rG (Jp [(1,13),(5,1008),(6,2),(7,2),(8,1)]) (by kernel_rfl) ?_;(repeat first|refine tA rfl ?_);(refine Al rfl ?_;refine CW ?_ rfl ⟨rfl,rfl⟩;refine Ag [0] rfl rfl (q) ⟨rfl,by decide,by decide⟩ rfl (by simp[cX,zC,a,cN]) ?_;rintro t j m ⟨rfl,rfl,rfl⟩ _;refine⟨Fc 3 rfl rfl,?_⟩);(repeat first|(refine sA rfl ?_ ?_;first|exact tI|omega)|refine t4 rfl ‹_› rfl ?_|refine aU rfl ?_|apply Aa);refine Aj.Ay [] [] rfl rfl [(4,.o (.ptr 1 3 0 0))] [(0,Bb b (p+1+1+1)),(1,.cells 25 3 [[.d (iD (y.al)),.d (iD (y.st)),.arr 2 3 0 (y.es.set k.toNat ⟨z,g,f⟩).length]]),(2,.cells 78 3 ((y.es.set k.toNat ⟨z,g,f⟩).map A3))] [0,1,2] (rl a rfl) (by (simp[cX,zC,a,cN,Ae,eC,n])) ?_;(try dsimp only[cA,cB]);refine Aj.AA [1,2] [(4,.o (.ip (AF ⟨y.al,y.st,y.es.set k.toNat ⟨z,g,f⟩⟩)))] ⟨⟨_,rfl,.inr (.o (.box rfl (.cons .d (.cons .d (.cons (.full rfl (by simp[d5]) (by simp)) .nil)))))⟩,trivial⟩ ?_;refine aR ⟨_,rfl,[0],BK ⟨y.al,y.st,y.es.set k.toNat ⟨z,g,f⟩⟩,[(0,Bb b (p+1+1+1))],⟨by intro i hi;match i with|0=>rfl,by decide⟩,rfl,by (simp[cX,zC,a,cN]),p+1+1+1,⟨y.al,y.st,y.es.set k.toNat ⟨z,g,f⟩⟩,by omega,by first|(simp;done)|(simp;omega),rfl,rfl,rfl⟩
 (repeat first|refine tA rfl ?_|refine s2 rfl λ_ e=>?_|refine aU rfl ?_|apply Aa);(refine aC rfl ?_ ?_<;>rintro⟨⟩)
 ·by_cases v:y.es.length=0
  ·(repeat' first|refine tA rfl ?_|refine s2 rfl λ_ e=>?_|refine aU rfl ?_|apply Aa|(refine aC rfl ?_ ?_<;>rintro⟨⟩));all_goals try contradiction
   all_goals first
    | (exfalso;(simp only[oZ] at *;omega);done)
    | (apply aK;(repeat first|refine tA rfl ?_|refine aU rfl ?_|apply Aa);refine Aj.Ay [] [] rfl rfl [(4,.o (.ptr 1 3 0 0))] [(0,Bb b (p+1+1)),(1,.cells 25 3 [[.d (iD (y.al)),.d (iD (y.st)),.arr 2 3 0 (y.es).length]]),(2,.cells 78 3 ((y.es).map A3))] [0,1,2] (rl a rfl) (by (simp[cX,zC,a,cN,Ae,eC])) ?_;(try dsimp only[cA,cB]);refine Aj.AA [1,2] [(4,.o (.ip (AF ⟨y.al,y.st,y.es⟩)))] ⟨⟨_,rfl,.inr (.o (.box rfl (.cons .d (.cons .d (.cons (.full rfl (by simp[d5]) (by simp)) .nil)))))⟩,trivial⟩ ?_;refine aR ⟨_,rfl,[0],BK ⟨y.al,y.st,y.es⟩,[(0,Bb b (p+1+1))],⟨by intro i hi;match i with|0=>rfl,by decide⟩,rfl,by (simp[cX,zC,a,cN]),p+1+1,⟨y.al,y.st,y.es⟩,by omega,by first|(simp;done)|(simp;omega),rfl,rfl,rfl⟩)
  obtain⟨⟨h,g,f⟩,x⟩:=get_some (l:=y.es) (k:=k.toNat) (by omega)
  have w:(y.es.map A3)[0+k.toNat]?=some (A3 ⟨h,g,f⟩):=by rw[ms];simp[x]
  obtain⟨z,G,q⟩:=CP (TB:=TB) b hb (p+1+1) (by omega) [-1,16,0,3] (by decide) (by decide)
  have n:(y.es.map A3).set (0+k.toNat) (A3 ⟨h,g,z⟩)=(y.es.set k.toNat ⟨h,g,z⟩).map A3:=by rw[ms,sh]
  (repeat first|refine tA rfl ?_|refine s2 rfl λ_ e=>?_|refine aU rfl ?_|apply Aa)
  ((refine aC rfl ?_ ?_<;>rintro⟨⟩);all_goals try(exfalso;(simp only[oZ] at *;omega)))
  refine rG (Jp [(1,13),(5,1008),(6,2),(7,2),(8,1)]) (by kernel_rfl) ?_;(repeat first|refine tA rfl ?_);(refine Al rfl ?_;refine CW ?_ rfl ⟨rfl,rfl⟩;refine Ag [0] rfl rfl (q) ⟨rfl,by decide,by decide⟩ rfl (by simp[cX,zC,a,cN]) ?_;rintro t j m ⟨rfl,rfl,rfl⟩ _;refine⟨Fc 3 rfl rfl,?_⟩);(repeat first|(refine sA rfl ?_ ?_;first|exact tI|omega)|refine t4 rfl ‹_› rfl ?_|refine aU rfl ?_|apply Aa);refine Aj.Ay [] [] rfl rfl [(4,.o (.ptr 1 3 0 0))] [(0,Bb b (p+1+1+1)),(1,.cells 25 3 [[.d (iD (y.al)),.d (iD (y.st)),.arr 2 3 0 (y.es.set k.toNat ⟨h,g,z⟩).length]]),(2,.cells 78 3 ((y.es.set k.toNat ⟨h,g,z⟩).map A3))] [0,1,2] (rl a rfl) (by (simp[cX,zC,a,cN,Ae,eC,n])) ?_;(try dsimp only[cA,cB]);refine Aj.AA [1,2] [(4,.o (.ip (AF ⟨y.al,y.st,y.es.set k.toNat ⟨h,g,z⟩⟩)))] ⟨⟨_,rfl,.inr (.o (.box rfl (.cons .d (.cons .d (.cons (.full rfl (by simp[d5]) (by simp)) .nil)))))⟩,trivial⟩ ?_;refine aR ⟨_,rfl,[0],BK ⟨y.al,y.st,y.es.set k.toNat ⟨h,g,z⟩⟩,[(0,Bb b (p+1+1+1))],⟨by intro i hi;match i with|0=>rfl,by decide⟩,rfl,by (simp[cX,zC,a,cN]),p+1+1+1,⟨y.al,y.st,y.es.set k.toNat ⟨h,g,z⟩⟩,by omega,by first|(simp;done)|(simp;omega),rfl,rfl,rfl⟩
 (repeat first|refine tA rfl ?_|refine s2 rfl λ_ e=>?_|refine aU rfl ?_|apply Aa);(refine aC rfl ?_ ?_<;>rintro⟨⟩)
 ·by_cases v:y.es.length=0
  ·(repeat' first|refine tA rfl ?_|refine s2 rfl λ_ e=>?_|refine aU rfl ?_|apply Aa|(refine aC rfl ?_ ?_<;>rintro⟨⟩));all_goals try contradiction
   all_goals first
    | (exfalso;(simp only[oZ] at *;omega);done)
    | (apply aK;(repeat first|refine tA rfl ?_|refine aU rfl ?_|apply Aa);refine Aj.Ay [] [] rfl rfl [(4,.o (.ptr 1 3 0 0))] [(0,Bb b (p+1+1)),(1,.cells 25 3 [[.d (iD (y.al)),.d (iD (y.st)),.arr 2 3 0 (y.es).length]]),(2,.cells 78 3 ((y.es).map A3))] [0,1,2] (rl a rfl) (by (simp[cX,zC,a,cN,Ae,eC])) ?_;(try dsimp only[cA,cB]);refine Aj.AA [1,2] [(4,.o (.ip (AF ⟨y.al,y.st,y.es⟩)))] ⟨⟨_,rfl,.inr (.o (.box rfl (.cons .d (.cons .d (.cons (.full rfl (by simp[d5]) (by simp)) .nil)))))⟩,trivial⟩ ?_;refine aR ⟨_,rfl,[0],BK ⟨y.al,y.st,y.es⟩,[(0,Bb b (p+1+1))],⟨by intro i hi;match i with|0=>rfl,by decide⟩,rfl,by (simp[cX,zC,a,cN]),p+1+1,⟨y.al,y.st,y.es⟩,by omega,by first|(simp;done)|(simp;omega),rfl,rfl,rfl⟩)
  obtain⟨⟨h,g,f⟩,x⟩:=get_some (l:=y.es) (k:=k.toNat) (by omega)
  have w:(y.es.map A3)[0+k.toNat]?=some (A3 ⟨h,g,f⟩):=by rw[ms];simp[x]
  obtain⟨z,G,q⟩:=CP (TB:=TB) b hb (p+1+1) (by omega) [-1,6,70,5,0] (by decide) (by decide)
  have n:(y.es.map A3).set (0+k.toNat) (A3 ⟨h,z,f⟩)=(y.es.set k.toNat ⟨h,z,f⟩).map A3:=by rw[ms,sh]
  (repeat first|refine tA rfl ?_|refine s2 rfl λ_ e=>?_|refine aU rfl ?_|apply Aa)
  ((refine aC rfl ?_ ?_<;>rintro⟨⟩);all_goals try(exfalso;(simp only[oZ] at *;omega)))
  refine rG (Jp [(1,13),(5,1008),(6,2),(7,2),(8,1)]) (by kernel_rfl) ?_;(repeat first|refine tA rfl ?_);(refine Al rfl ?_;refine CW ?_ rfl ⟨rfl,rfl⟩;refine Ag [0] rfl rfl (q) ⟨rfl,by decide,by decide⟩ rfl (by simp[cX,zC,a,cN]) ?_;rintro t j m ⟨rfl,rfl,rfl⟩ _;refine⟨Fc 3 rfl rfl,?_⟩);(repeat first|(refine sA rfl ?_ ?_;first|exact tI|omega)|refine t4 rfl ‹_› rfl ?_|refine aU rfl ?_|apply Aa);refine Aj.Ay [] [] rfl rfl [(4,.o (.ptr 1 3 0 0))] [(0,Bb b (p+1+1+1)),(1,.cells 25 3 [[.d (iD (y.al)),.d (iD (y.st)),.arr 2 3 0 (y.es.set k.toNat ⟨h,z,f⟩).length]]),(2,.cells 78 3 ((y.es.set k.toNat ⟨h,z,f⟩).map A3))] [0,1,2] (rl a rfl) (by (simp[cX,zC,a,cN,Ae,eC,n])) ?_;(try dsimp only[cA,cB]);refine Aj.AA [1,2] [(4,.o (.ip (AF ⟨y.al,y.st,y.es.set k.toNat ⟨h,z,f⟩⟩)))] ⟨⟨_,rfl,.inr (.o (.box rfl (.cons .d (.cons .d (.cons (.full rfl (by simp[d5]) (by simp)) .nil)))))⟩,trivial⟩ ?_;refine aR ⟨_,rfl,[0],BK ⟨y.al,y.st,y.es.set k.toNat ⟨h,z,f⟩⟩,[(0,Bb b (p+1+1+1))],⟨by intro i hi;match i with|0=>rfl,by decide⟩,rfl,by (simp[cX,zC,a,cN]),p+1+1+1,⟨y.al,y.st,y.es.set k.toNat ⟨h,z,f⟩⟩,by omega,by first|(simp;done)|(simp;omega),rfl,rfl,rfl⟩
 (repeat first|refine tA rfl ?_|refine s2 rfl λ_ e=>?_|refine aU rfl ?_|apply Aa);(refine aC rfl ?_ ?_<;>rintro⟨⟩)
 ·by_cases v:y.es.length=0
  ·(repeat' first|refine tA rfl ?_|refine s2 rfl λ_ e=>?_|refine aU rfl ?_|apply Aa|(refine aC rfl ?_ ?_<;>rintro⟨⟩));all_goals try contradiction
   all_goals first
    | (exfalso;(simp only[oZ] at *;omega);done)
    | (apply aK;(repeat first|refine tA rfl ?_|refine aU rfl ?_|apply Aa);refine Aj.Ay [] [] rfl rfl [(4,.o (.ptr 1 3 0 0))] [(0,Bb b (p+1+1)),(1,.cells 25 3 [[.d (iD (y.al)),.d (iD (y.st)),.arr 2 3 0 (y.es).length]]),(2,.cells 78 3 ((y.es).map A3))] [0,1,2] (rl a rfl) (by (simp[cX,zC,a,cN,Ae,eC])) ?_;(try dsimp only[cA,cB]);refine Aj.AA [1,2] [(4,.o (.ip (AF ⟨y.al,y.st,y.es⟩)))] ⟨⟨_,rfl,.inr (.o (.box rfl (.cons .d (.cons .d (.cons (.full rfl (by simp[d5]) (by simp)) .nil)))))⟩,trivial⟩ ?_;refine aR ⟨_,rfl,[0],BK ⟨y.al,y.st,y.es⟩,[(0,Bb b (p+1+1))],⟨by intro i hi;match i with|0=>rfl,by decide⟩,rfl,by (simp[cX,zC,a,cN]),p+1+1,⟨y.al,y.st,y.es⟩,by omega,by first|(simp;done)|(simp;omega),rfl,rfl,rfl⟩)
  obtain⟨⟨h,g,f⟩,x⟩:=get_some (l:=y.es) (k:=k.toNat) (by omega)
  have w:(y.es.map A3)[0+k.toNat]?=some (A3 ⟨h,g,f⟩):=by rw[ms];simp[x]
  (repeat first|refine tA rfl ?_|refine s2 rfl λ_ e=>?_|refine aU rfl ?_|apply Aa)
  ((refine aC rfl ?_ ?_<;>rintro⟨⟩);all_goals try(exfalso;(simp only[oZ] at *;omega)))
  refine rG (Jp [(1,13),(3,13),(6,12),(8,1),(10,1)]) (by kernel_rfl) ?_;(repeat first|(refine sA rfl ?_ ?_;first|exact tI|omega)|refine t4 rfl ‹_› rfl ?_);(refine pW rfl ?_ rfl (by rfl);refine Au rfl rfl rfl (by first|(simp;done)|(simp;(omega))) rfl (by intro r u;simp at u;subst u;rfl) (by rfl) (ce rfl) (by simp;omega) ?_);(repeat first|refine tA rfl ?_|refine aU rfl ?_|apply Aa);refine Aj.Ay [] [] rfl rfl [(4,.o (.ptr 1 3 0 0))] [(0,Bb b (p+1+1)),(1,.cells 25 3 [[.d (iD (y.al)),.d (iD (y.st)),.arr 2 3 0 (y.es++[(⟨h,g,f⟩:Ea)]).length]]),(2,.cells 78 3 ((y.es++[(⟨h,g,f⟩:Ea)]).map A3))] [0,1,4] (rl a rfl) (by (simp[cX,zC,a,cN,Ae,eC])) ?_;(try dsimp only[cA,cB]);refine Aj.AA [1,2] [(4,.o (.ip (AF ⟨y.al,y.st,y.es++[(⟨h,g,f⟩:Ea)]⟩)))] ⟨⟨_,rfl,.inr (.o (.box rfl (.cons .d (.cons .d (.cons (.full rfl (by simp[d5]) (by simp)) .nil)))))⟩,trivial⟩ ?_;refine aR ⟨_,rfl,[0],BK ⟨y.al,y.st,y.es++[(⟨h,g,f⟩:Ea)]⟩,[(0,Bb b (p+1+1))],⟨by intro i hi;match i with|0=>rfl,by decide⟩,rfl,by (simp[cX,zC,a,cN]),p+1+1,⟨y.al,y.st,y.es++[(⟨h,g,f⟩:Ea)]⟩,by omega,by first|(simp;done)|(simp;omega),rfl,rfl,rfl⟩
 (repeat first|refine tA rfl ?_|refine s2 rfl λ_ e=>?_|refine aU rfl ?_|apply Aa);(refine aC rfl ?_ ?_<;>rintro⟨⟩)
 ·obtain⟨F,_,_,J⟩:=A4 (TB:=TB) b hb (p+1+1) 4 (by omega)
  obtain⟨B,_,_,I⟩:=A4 (TB:=TB) b hb (p+1+1+1) 3 (by omega);obtain⟨A,_,_,H⟩:=A4 (TB:=TB) b hb (p+1+1+1+1) 4 (by omega);refine rG ⟨Gj [(1,13),(3,1008),(5,1008),(7,1008),(10,1),(12,1)],dr [0,1,2,4,6,3,5,7,8,9,10,11,12]⟩ (by kernel_rfl) ?_;(repeat first|refine tA rfl ?_);(refine Al rfl ?_;refine CW ?_ rfl ⟨rfl,rfl⟩;refine Ag [0] rfl rfl (J) ⟨rfl,by decide,by decide⟩ rfl (by simp[cX,zC,a,cN]) ?_;rintro t j m ⟨rfl,rfl,rfl⟩ _;refine⟨Fc 3 rfl rfl,?_⟩);(refine Al rfl ?_;refine CW ?_ rfl ⟨rfl,rfl⟩;refine Ag [0] rfl rfl (I) ⟨rfl,by decide,by decide⟩ rfl (by simp[cX,zC,a,cN]) ?_;rintro t j m ⟨rfl,rfl,rfl⟩ _;refine⟨Fc 3 rfl rfl,?_⟩);(refine Al rfl ?_;refine CW ?_ rfl ⟨rfl,rfl⟩;refine Ag [0] rfl rfl (H) ⟨rfl,by decide,by decide⟩ rfl (by simp[cX,zC,a,cN]) ?_;rintro t j m ⟨rfl,rfl,rfl⟩ _;refine⟨Fc 3 rfl rfl,?_⟩);(repeat first|refine tA rfl ?_|(refine Al rfl ?_;refine gA rfl ?_;first|refine gS (λ_ _=>AS rfl rfl (by rfl) (by rfl)) ?_));(refine pW rfl ?_ rfl (by rfl);refine Au rfl rfl rfl (by first|(simp;done)|(simp;(omega))) rfl (by intro r u;simp at u;subst u;rfl) (by rfl) (ce rfl) (by simp;omega) ?_);(repeat first|refine tA rfl ?_|refine aU rfl ?_|apply Aa);refine Aj.Ay [] [] rfl rfl [(4,.o (.ptr 1 3 0 0))] [(0,Bb b (p+1+1+1+1+1)),(1,.cells 25 3 [[.d (iD (y.al)),.d (iD (y.st)),.arr 2 3 0 (y.es++[(⟨F,B,A⟩:Ea)]).length]]),(2,.cells 78 3 ((y.es++[(⟨F,B,A⟩:Ea)]).map A3))] [0,1,4] (rl a rfl) (by (simp[cX,zC,a,cN,Ae,eC])) ?_;(try dsimp only[cA,cB]);refine Aj.AA [1,2] [(4,.o (.ip (AF ⟨y.al,y.st,y.es++[(⟨F,B,A⟩:Ea)]⟩)))] ⟨⟨_,rfl,.inr (.o (.box rfl (.cons .d (.cons .d (.cons (.full rfl (by simp[d5]) (by simp)) .nil)))))⟩,trivial⟩ ?_;refine aR ⟨_,rfl,[0],BK ⟨y.al,y.st,y.es++[(⟨F,B,A⟩:Ea)]⟩,[(0,Bb b (p+1+1+1+1+1))],⟨by intro i hi;match i with|0=>rfl,by decide⟩,rfl,by (simp[cX,zC,a,cN]),p+1+1+1+1+1,⟨y.al,y.st,y.es++[(⟨F,B,A⟩:Ea)]⟩,by omega,by first|(simp;done)|(simp;omega),rfl,rfl,rfl⟩
 apply aK;(repeat first|refine tA rfl ?_|refine aU rfl ?_|apply Aa);refine Aj.Ay [] [] rfl rfl [(4,.o (.ptr 1 3 0 0))] [(0,Bb b (p+1+1)),(1,.cells 25 3 [[.d (iD (y.al)),.d (iD (y.st)),.arr 2 3 0 (y.es).length]]),(2,.cells 78 3 ((y.es).map A3))] [0,1,2] (rl a rfl) (by (simp[cX,zC,a,cN,Ae,eC])) ?_;(try dsimp only[cA,cB]);refine Aj.AA [1,2] [(4,.o (.ip (AF ⟨y.al,y.st,y.es⟩)))] ⟨⟨_,rfl,.inr (.o (.box rfl (.cons .d (.cons .d (.cons (.full rfl (by simp[d5]) (by simp)) .nil)))))⟩,trivial⟩ ?_;refine aR ⟨_,rfl,[0],BK ⟨y.al,y.st,y.es⟩,[(0,Bb b (p+1+1))],⟨by intro i hi;match i with|0=>rfl,by decide⟩,rfl,by (simp[cX,zC,a,cN]),p+1+1,⟨y.al,y.st,y.es⟩,by omega,by first|(simp;done)|(simp;omega),rfl,rfl,rfl⟩
theorem TM{n x v:Nat}{G:PS}:((Nu n G).map Av).set x (Av (v:Int))=(Nu n (YO G x v)).map Av:=by
 apply sw;intro i;rw[uT];by_cases hi:i<n
 ·have a:∀H:PS,((Nu n H).map Av)[i]?=some (Av (H i:Int)):=λH=>by simp[hi]
  rw[a,a];unfold YO;by_cases e:x=i
  ·subst e;rw[if_pos rfl,if_pos (by simpa using hi),if_pos rfl]
  ·rw[if_neg e,if_neg (λh=>e h.symm)]
 ·have a:∀H:PS,((Nu n H).map Av)[i]?=none:=λH=>qT (by simp;omega)
  rw[a,a];by_cases e:x=i
  ·subst e;rw[if_pos rfl,if_neg (by simpa using hi)]
  ·rw[if_neg e]
theorem TL{n x:Nat}{G:PS}(h:x<n):((Nu n G).map Av)[0+((x:Nat):Int).toNat]?=some (Av (G x:Int)):=by rw[ms,d8];simp[h]
theorem Up.start{t:Ch}{F0 F:PS}(a:CR t F)(c:∀p j,(F0 p).testBit j=true->(F p).testBit j=true)(b:∀p j,(F p).testBit j=true->QP t F0 p j):Up t F0 F 0 0 F false:=
 ⟨a,c,b,λ_=>lc _,λh=>(by cases h),λ_=>⟨rfl,λp _ l _ h=>by simp at h⟩⟩
theorem PL{t:Ch}(ht:A9 t=true){F0:PS}(K:CR t F0):Spec Tryz.prog TB 216 [(0,.cells 3 1 ((Nu t.q.nx.length F0).map Av))] 1 [Ow t,.o (.arr 0 1 0 t.q.nx.length)] (λx σ nx=>x=.o (.arr 0 1 0 t.q.nx.length)/\σ=[(0,.cells 3 1 ((Nu t.q.nx.length (SV t F0)).map Av))]/\nx=1):=by
 have P:AU t.s=true:=by unfold A9 at ht;simp only[d4]at ht;exact ht.1
 have A:A1 t.al=true:=by unfold A9 at ht;simp only[d4]at ht;exact ht.2.2
 have y:=AN P;have g:=Cr ht;have hah:=AB g;have H:=j8 y.1 A;have I:=y.1;unfold A1 at I;simp only[decide_eq_true_eq]at I
 have R:Pure Tryz.prog TB 98 [eI .i64 (t.s.al-Gk .i64 t.s.al t.al)] (Ak (Cg t)):=by
  have:=BX (TB:=TB) (t.s.al-Gk .i64 t.s.al t.al);rw[H.1,Jx y.1 A]at this;rw[H.1];exact this
 have hll:(Cg t).length<=6:=by
  unfold Cg;have X:(Ab t.s.al).length<=6:=AJ _ _;exact pm (tl _ _) X
 refine eR Tryz.func216 rfl (by kernel_rfl) rfl ?_;intro U c;(repeat first|(refine sA rfl ?_ ?_;first|exact tI|omega)|refine sP rfl (R) rfl ?_|refine aU rfl ?_|apply Aa);apply aB;refine aL (α:={s:PS×Bool // CR t s.1/\(∀p j,(F0 p).testBit j=true->(s.1 p).testBit j=true)/\(∀p j,(s.1 p).testBit j=true->QP t F0 p j)/\(s.2=false->s.1=SV t F0)}) [1,2,5] [] rfl rfl (λs=>[(6,eB s.1.2)]) (λs=>[(0,.cells 3 1 ((Nu t.q.nx.length s.1.1).map Av))]) 1 (λs=>(if s.1.2 then Oz s.1.1+1 else 0)) (⟨⟨F0,true⟩,K,λ_ _ h=>h,λ_ _ h=>.base h,λh=>by cases h⟩) c rfl (by (simp[cX,zC,c])) ?_;rintro⟨⟨F,b⟩,V,X,h2,h3⟩;(try dsimp only[cA,cB]);have V:CR t F:=V
 cases b with
 | false=>
  obtain rfl:F=SV t F0:=h3 rfl;(repeat first|refine tA rfl ?_|refine aU rfl ?_|apply Aa);(refine aC rfl ?_ ?_<;>rintro⟨⟩);apply aE;(repeat first|refine tA rfl ?_|refine aU rfl ?_|apply Aa);refine aR ⟨_,rfl,[0],.o (.arr 0 1 0 t.q.nx.length),_,⟨by intro i hi;match i with|0=>rfl,by decide⟩,rfl,?_,rfl,rfl,rfl⟩;(simp[cX,zC,c])
 | true =>
  (repeat first|refine tA rfl ?_|refine aU rfl ?_|apply Aa);(refine aC rfl ?_ ?_<;>rintro⟨⟩);apply aK;apply aB;(repeat first|refine tA rfl ?_|refine aU rfl ?_|apply Aa);apply aB;refine aL (α:={s:Nat×PS×Bool // s.1<=t.q.nx.length/\Up t F0 F s.1 0 s.2.1 s.2.2}) [1,2,5] [] rfl rfl (λs=>[(6,eB s.1.2.2),(7,eI .i64 s.1.1)]) (λs=>[(0,.cells 3 1 ((Nu t.q.nx.length s.1.2.1).map Av))]) 1 (λs=>t.q.nx.length-s.1.1) (⟨⟨0,F,false⟩,by simp,.start V X h2⟩) c rfl (by (simp[cX,zC,c])) ?_;rintro⟨⟨i,G,b⟩,hi,w⟩;(try dsimp only[cA,cB]);have hi:i<=t.q.nx.length:=hi;have w:Up t F0 F i 0 G b:=w;by_cases u:i<t.q.nx.length
  ·(repeat first|refine tA rfl ?_|refine s2 rfl λ_ d=>?_|refine aU rfl ?_|apply Aa)
   ((refine aC rfl ?_ ?_<;>rintro⟨⟩);all_goals try(exfalso;(simp only[oZ] at *;omega)))
   apply aK;refine aS (aB ?_);(repeat first|refine tA rfl ?_|refine aU rfl ?_|apply Aa);apply aB;refine aL (α:={s:Nat×PS×Bool // s.1<=(Cg t).length/\Up t F0 F i s.1 s.2.1 s.2.2}) [1,2,5,7] [] rfl rfl (λs=>[(6,eB s.1.2.2),(8,eI .i64 s.1.1)]) (λs=>[(0,.cells 3 1 ((Nu t.q.nx.length s.1.2.1).map Av))]) 1 (λs=>(Cg t).length-s.1.1) (⟨⟨0,G,b⟩,by simp,w⟩) c rfl (by (simp[cX,zC,c])) ?_;rintro⟨⟨k,G',b'⟩,hk,e⟩;(try dsimp only[cA,cB]);have hk:k<=(Cg t).length:=hk;have e:Up t F0 F i k G' b':=e;clear w;by_cases S:k<(Cg t).length
   ·obtain⟨l,r⟩:=get_some S
    have f:=DM ht (co r)
    have hl':((Cg t).map Bc)[((k:Nat):Int).toNat]?=some (Bc l):=by rw[d8];simp[r]
    have J:=J0 (TB:=TB) t.q g i u l f.1 f.2.1;have T:=Cn g u f.1 f.2.1
    obtain⟨x,L⟩:∃x:Nat,Bg t.q i l=x:=⟨(Bg t.q i l).toNat,by omega⟩
    rw[L]at J T;have M:=Sc (TB:=TB) P l (e.ok.lt i)
    have Z:Cf t.s.es l (G' i)<65536:=by
     have:=Vt P (l:=l) (m:=G' i) (k:=t.s.es.length);rwa[i8]at this
    have r1:=TL (n:=t.q.nx.length) (G:=G') (x:=x) (by omega);have r2:=TL (n:=t.q.nx.length) (G:=G') (x:=i) u;have Y:=e.ok.lt x;have z:=OL (a:=G' x) (b:=Cf t.s.es l (G' i)) (by omega) (by omega);have B:=TM (n:=t.q.nx.length) (x:=x) (v:=G' x ||| Cf t.s.es l (G' i)) (G:=G');(repeat first|refine sN rfl ?_|refine tA rfl ?_|refine s2 rfl λ_ d=>?_|refine aU rfl ?_|apply Aa)
    ((refine aC rfl ?_ ?_<;>rintro⟨⟩);all_goals try(exfalso;(simp only[oZ] at *;omega)))
    apply aK;refine aS (aB ?_);(repeat first|refine aU rfl ?_);refine rG (Hz []) (by kernel_rfl) ?_;(repeat first|refine tA rfl ?_|(refine s4 rfl ‹_› rfl ?_ ?_;omega)|refine sP rfl (J) rfl ?_|refine aU rfl ?_|apply Aa);refine rG (Hz []) (by kernel_rfl) ?_;(repeat first|((first|refine sA rfl ?_ ?_|refine s4 rfl ‹_› rfl ?_ ?_);first|exact tI|omega)|refine s2 rfl λ_ d=>?_|refine sP rfl (M) rfl ?_|refine aU rfl ?_|apply Aa);(refine aC rfl ?_ ?_<;>rintro⟨⟩)
    ·have Q:G' x ||| Cf t.s.es l (G' i)≠G' x:=by
      rw[z]at d;simp only[decide_eq_true_eq]at d;omega
     (repeat first|(refine sA rfl ?_ ?_;first|exact tI|omega)|refine t4 rfl ‹_› rfl ?_|refine aU rfl ?_|apply Aa);have N:=e.Qs ht u r L Q;generalize YO G' x (G' x ||| Cf t.s.es l (G' i))=G2 at *;refine⟨⟨⟨k+1,G2,true⟩,by omega,N⟩,by dsimp only;(omega),[0],?_⟩
     simp[cX,zC,c,z];simpa[d5]using B
    ·have he:G' x ||| Cf t.s.es l (G' i)=G' x:=by
      rw[z]at d;simp only[decide_eq_false_iff_not]at d;omega
     apply aK;(repeat first|(refine sA rfl ?_ ?_;first|exact tI|omega)|refine aU rfl ?_|apply Aa);refine⟨⟨⟨k+1,G',b'⟩,by omega,e.oM ht r L he⟩,by dsimp only;(omega),[0],?_⟩;simp[cX,zC,c]
   ·obtain rfl:k=(Cg t).length:=by omega
    (repeat first|refine sN rfl ?_|refine tA rfl ?_|refine s2 rfl λ_ d=>?_|refine aU rfl ?_|apply Aa)
    ((refine aC rfl ?_ ?_<;>rintro⟨⟩);all_goals try(exfalso;(simp only[oZ] at *;omega)))
    apply aE;(repeat first|(refine sA rfl ?_ ?_;first|exact tI|omega)|refine aU rfl ?_|apply Aa);refine⟨⟨⟨i+1,G',b'⟩,by omega,e.row⟩,by dsimp only;(omega),[0],?_⟩;simp[cX,zC,c]
  ·obtain rfl:i=t.q.nx.length:=by omega
   (repeat first|refine tA rfl ?_|refine s2 rfl λ_ d=>?_|refine aU rfl ?_|apply Aa)
   ((refine aC rfl ?_ ?_<;>rintro⟨⟩);all_goals try(exfalso;(simp only[oZ] at *;omega)))
   apply aE;refine⟨⟨⟨G,b⟩,w.ok,w.lo,w.hi,λhb=>by have hb:b=false:=hb;subst hb;exact w.done ht K⟩,by cases b<;>simp_all[w.yes],[0],?_⟩;simp[cX,zC,c]
theorem SA{n:Nat}:List.replicate n (Av 0)=(Nu n λ_=>0).map Av:=by
 apply sw;intro i;by_cases h:i<n
 ·simp[h]
 ·rw[qT (by simp;omega),qT (by simp;omega)]
theorem YJ{n:Nat}:(List.replicate n (Av 0)).set 0 (Av 1)=(Nu n I8).map Av:=by
 rw[SA];have:=TM (n:=n) (x:=0) (v:=1) (G:=λ_=>0)
 have e:YO (λ_=>0) 0 1=I8:=by funext p;rfl
 rw[e]at this;exact this
theorem XO{t:Ch}(ht:A9 t=true):Pure Tryz.prog TB 190 [Ow t] (Ak (Nu t.q.nx.length (Cq t))):=by
 have g:=AB (Cr ht);have c:=PL (TB:=TB) ht (MJ ht);rw[show SV t I8=Cq t from rfl]at c;have b:=YJ (n:=t.q.nx.length)
 have f:(List.replicate t.q.nx.length (Av 0))[0+(0:Int).toNat]?=some (Av 0):=by rw[uo,if_pos];simp;omega
 refine eG Tryz.func190 rfl (by kernel_rfl) rfl ?_;intro U a;(repeat first|refine sN rfl ?_|refine tA rfl ?_|refine aU rfl ?_|apply Aa);(refine pW rfl ?_ rfl (by rfl);refine JC rfl rfl (by rfl) (by rfl) (ce rfl) (by omega) (by omega) (by omega) ?_);(repeat first|(refine sA rfl ?_ ?_;first|exact tI|omega)|refine t4 rfl ‹_› rfl ?_|refine aU rfl ?_|apply Aa);(refine pW rfl ?_ rfl (by rfl);refine Ag [0] rfl rfl (c) ⟨rfl,by decide,by decide⟩ rfl (by simp[cX,zC,a,b]) ?_;rintro h d e ⟨rfl,rfl,rfl⟩ _);(repeat first|refine tA rfl ?_);apply Aa;refine Aj.Ay [] [] rfl rfl [(2,.o (.arr 0 1 0 t.q.nx.length))] [(0,.cells 3 1 ((Nu t.q.nx.length (Cq t)).map Av))] [0] (rl a rfl) (by (simp[cX,zC,a,b])) ?_;(try dsimp only[cA,cB]);refine Aj.settle [(2,Ak (Nu t.q.nx.length (Cq t)))] ⟨⟨_,rfl,.o (.full rfl (by simp[d5]) (by simp))⟩,trivial⟩ ?_;refine aR ⟨_,rfl,rfl⟩
theorem eX{t:Ch}(ht:A9 t=true){F:PS}:Pure Tryz.prog TB 191 [Ow t,Ak (Nu t.q.nx.length F)] (eB (FQ t F)):=by
 have p:=AB (Cr ht)
 have n:(Nu t.q.nx.length F).length=t.q.nx.length:=by simp
 have d:FQ t F=HM t F t.q.nx.length:=rfl;refine eG Tryz.func191 rfl (by kernel_rfl) rfl ?_;intro U a;(repeat first|refine tA rfl ?_|refine aU rfl ?_|apply Aa);apply aB;refine aL (α:={k:Nat // k<=t.q.nx.length/\HM t F k=false}) [1,2] [] rfl rfl (λ⟨k,hk,hb⟩=>[(5,eI .i64 k)]) (λ⟨k,hk,hb⟩=>[]) 0 (λ⟨k,hk,hb⟩=>t.q.nx.length-k) (⟨0,by omega,rfl⟩) a rfl (by (simp[cX,zC,a])) ?_;rintro⟨k,hk,hb⟩;(try dsimp only[cA,cB]);by_cases h:k<t.q.nx.length
 ·have s:((Nu t.q.nx.length F).map Bc)[((k:Nat):Int).toNat]?=some (Bc (F k:Int)):=by rw[d8];simp[h]
  obtain⟨b,f⟩:=get_some (l:=t.q.ac) (k:=((k:Nat):Int).toNat) (by omega);have o:=get_map (g:=Jk) f
  have i:t.q.ac.getD k false=b:=by rw[d8]at f;simp[List.getD,f]
  have j:=KM (t:=t) (F:=F) (k:=k);rw[i,hb]at j;(repeat first|refine sN rfl ?_|refine tA rfl ?_|refine s2 rfl λ_ c=>?_|refine aU rfl ?_|apply Aa)
  ((refine aC rfl ?_ ?_<;>rintro⟨⟩);all_goals try(exfalso;(simp only[oZ] at *;omega)))
  apply aK;refine aS (aB ?_)
  (repeat' first|refine tA rfl ?_|(refine s4 rfl ‹_› rfl ?_ ?_;omega)|refine s2 rfl λ_ c=>?_|refine s3 rfl ?_ ?_<;>rintro rfl|refine aU rfl ?_|apply Aa|(refine aC rfl ?_ ?_<;>rintro⟨⟩));all_goals try contradiction
  ·have m:FQ t F=true:=by
    have u:=of_decide_eq_true ‹decide ((F k:Int)≠0)=true›
    have r:F k≠0:=by omega
    rw[d];unfold HM;exact s9.2 ⟨k,pi.2 h,by rw[i,c];simp[r]⟩
   rw[m];(subst_vars;exact aR ⟨_,rfl,rfl⟩)
  ·have e:HM t F (k+1)=false:=by rw[j];simp_all
   apply aK;(repeat first|(refine sA rfl ?_ ?_;first|exact tI|omega)|refine aU rfl ?_|apply Aa);refine⟨⟨k+1,by omega,e⟩,by dsimp only;(omega),[],?_⟩;simp[cX,zC,a]
  ·have e:HM t F (k+1)=false:=by rw[j];simp at c;simp;omega
   apply aK;(repeat first|(refine sA rfl ?_ ?_;first|exact tI|omega)|refine aU rfl ?_|apply Aa);refine⟨⟨k+1,by omega,e⟩,by dsimp only;(omega),[],?_⟩;simp[cX,zC,a]
 ·obtain rfl:k=t.q.nx.length:=by omega
  rw[d,hb];(repeat first|refine sN rfl ?_|refine tA rfl ?_|refine s2 rfl λ_ c=>?_|refine aU rfl ?_|apply Aa)
  ((refine aC rfl ?_ ?_<;>rintro⟨⟩);all_goals try(exfalso;(simp only[oZ] at *;omega)))
  apply aE;(repeat first|refine tA rfl ?_|refine aU rfl ?_|apply Aa);(subst_vars;exact aR ⟨_,rfl,rfl⟩)
end Go.Am
