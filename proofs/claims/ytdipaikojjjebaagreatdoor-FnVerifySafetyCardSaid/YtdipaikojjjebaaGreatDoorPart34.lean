/-
  The reference's step from a set of states; its closure: walked.
-/
import Derived.Test.YtdipaikojjjebaaGreatDoorPart30
import Derived.Test.YtdipaikojjjebaaGreatDoorPart32
set_option linter.all false
namespace Go.Am
open Go Go.Proofs
set_option maxHeartbeats 1000000
set_option maxRecDepth 4000
attribute [local irreducible] A6 CC Lex Bz Ak Spec
variable {TB:BJ}
theorem XB{es:List Eo}{l:Int}{m k:Nat}{e:Eo}(a:es[k]?=some e):Cv (es.take (k+1)) l m=if e.l=l/\m.testBit e.f.toNat=true then Cv (es.take k) l m ||| 2 ^ e.t.toNat else Cv (es.take k) l m:=by
 unfold Cv;rw[d8,a,rv];rfl
theorem Vk{s:Sys}(a:AX s=true){l:Int}{m k:Nat}:Cv (s.es.take k) l m<65536:=JP λj b=>by
 obtain⟨e,c,_,rfl⟩:=Eb.1 b;have hb:=Du a (pb c);have d:=AN a;unfold DT at hb;simp only[d4,decide_eq_true_eq]at hb;omega
theorem Sc{s:Sys}(o:AX s=true)(l:Int){m:Nat}(F:m<65536):Pure Tryz.prog TB 99 [Br s,eI .i64 (m:Nat),eI .i64 l] (eI .i64 (Cv s.es l m:Nat)):=by
 have G:=AN o;refine eG Tryz.func99 rfl (by kernel_rfl) rfl ?_;intro Γ d;refine Ak.bound 0 rfl λw=>?_;have B:=w (s.es.map Dy) ⟨2,_,rfl,.refl⟩;rw[gt]at B;(repeat first|refine tA rfl ?_|refine aU rfl ?_|apply Aa);apply aB;refine aL (α:={k:Nat // k<=s.es.length}) [1,2,3] [] rfl rfl (λ⟨k,hk⟩=>[(7,eI .i64 (Cv (s.es.take k) l m:Nat)),(8,eI .i64 k)]) (λ⟨k,hk⟩=>[]) 0 (λ⟨k,hk⟩=>s.es.length-k) (⟨0,by omega⟩) d rfl (by (simp[cX,zC,d]<;>rfl)) ?_;rintro⟨k,hk⟩;(try dsimp only[cA,cB]);by_cases q:k<s.es.length
 ·obtain⟨e,u⟩:=get_some q
  have r:=get_map (g:=Dy) u
  have A:(s.es.map Dy)[((k:Nat):Int).toNat]?=some (Dy e):=by rw[i7];exact r
  have hb:=Du o (co u);unfold DT at hb;simp only[d4,decide_eq_true_eq]at hb;have i:=XB (l:=l) (m:=m) u;have x:=Vk o (l:=l) (m:=m) (k:=k);have j:=Dg (TB:=TB) (m:Nat) e.f (by omega) (by omega);rw[Dx (by omega) (by omega)]at j;have v:=UY (TB:=TB) e.t (by omega) (by omega)
  have z:2 ^ e.t.toNat<65536:=by
   have:2 ^ e.t.toNat<=2 ^ 15:=pK (by omega) (by omega);omega
  have p:=OY (a:=Cv (s.es.take k) l m) (b:=2 ^ e.t.toNat) (by omega) (by omega);generalize 2 ^ e.t.toNat=y at *;(repeat first|refine sN rfl ?_|refine tA rfl ?_|refine s2 rfl λ_ c=>?_|refine aU rfl ?_|apply Aa)
  ((refine aC rfl ?_ ?_<;>rintro⟨⟩);all_goals try(exfalso;(simp only[oZ] at *;omega)))
  apply aK;refine aS (aB ?_)
  (repeat' first|(refine sA rfl ?_ ?_;first|exact tI|omega)|(refine s4 rfl ‹_› rfl ?_ ?_;omega)|refine s2 rfl λ_ c=>?_|(refine sC rfl (j) ?_;intro _ c)|refine sP rfl (v) rfl ?_|refine s3 rfl ?_ ?_<;>rintro rfl|refine aU rfl ?_|apply Aa|(refine aC rfl ?_ ?_<;>rintro⟨⟩));all_goals try contradiction
  ·refine⟨⟨k+1,by omega⟩,by dsimp only;(omega),[],?_⟩
   have n:Cv (s.es.take (k+1)) l m=Cv (s.es.take k) l m ||| y:=by rw[i,if_pos ⟨by simpa using ‹decide (e.l=l)=true›,c⟩]
   simp[cX,zC,d,p,n]
  ·have n:Cv (s.es.take (k+1)) l m=Cv (s.es.take k) l m:=by rw[i,if_neg (by simp[c])]
   apply aK;(repeat first|(refine sA rfl ?_ ?_;first|exact tI|omega)|refine aU rfl ?_|apply Aa);refine⟨⟨k+1,by omega⟩,by dsimp only;(omega),[],?_⟩;simp[cX,zC,d,n]
  ·have n:Cv (s.es.take (k+1)) l m=Cv (s.es.take k) l m:=by rw[i,if_neg (λh=>by simp[h.1]at c)]
   apply aK;(repeat first|(refine sA rfl ?_ ?_;first|exact tI|omega)|refine aU rfl ?_|apply Aa);refine⟨⟨k+1,by omega⟩,by dsimp only;(omega),[],?_⟩;simp[cX,zC,d,n]
 ·obtain rfl:k=s.es.length:=by omega
  rw[io];(repeat first|refine sN rfl ?_|refine tA rfl ?_|refine s2 rfl λ_ c=>?_|refine aU rfl ?_|apply Aa)
  ((refine aC rfl ?_ ?_<;>rintro⟨⟩);all_goals try(exfalso;(simp only[oZ] at *;omega)))
  apply aE;(repeat first|refine tA rfl ?_|refine aU rfl ?_|apply Aa);(subst_vars;exact aR ⟨_,rfl,rfl⟩)
abbrev NB(n:Nat)(F:PS):List Int:=(List.range n).map λp=>(F p:Int)
def Cl(t:CP)(G:PS)(i k:Nat):Prop:=∀p,p<t.q.nx.length->∀l∈Cu t,(p<i\/(p=i/\l∈(Cu t).take k))->∀j,(Cv t.s.es l (G p)).testBit j=true->(G (Cz t.q p l).toNat).testBit j=true
structure Um (t:CP) (F0 F:PS) (i k:Nat) (G:PS) (b:Bool):Prop where
 ok:Dd t G
 lo:∀p j,(F0 p).testBit j=true->(G p).testBit j=true
 hi:∀p j,(G p).testBit j=true->QQ t F0 p j
 le:∀p,F p<=G p
 yes:b=true->OJ G<OJ F
 no:b=false->G=F/\Cl t F i k
theorem gr{F G:PS}(h:∀p,F p<=G p):OJ G<=OJ F:=by
 unfold OJ
 repeat' apply Nat.add_le_add
 all_goals exact Nat.sub_le_sub_left (h _) _
def X9(G:PS)(x v:Nat):PS:=λp=>if p=x then v else G p
theorem Um.Qw{t:CP}(ht:Bc t=true){F0 F G:PS}{i k:Nat}{b:Bool}(h:Um t F0 F i k G b)(hi:i<t.q.nx.length){l:Int}(hk:(Cu t)[k]?=some l){x:Nat}(u:Cz t.q i l=(x:Int))(m:G x ||| Cv t.s.es l (G i)≠G x):Um t F0 F i (k+1) (X9 G x (G x ||| Cv t.s.es l (G i))) true:=by
 have r:=co hk;have d:=CS ht r;have w:=DH (CG ht) hi d.1 d.2.1;have c:=JD ht (l:=l) (h.ok.lt i);unfold DC at c;rw[if_pos d.2.2]at c
 have f:G x ||| Cv t.s.es l (G i)<65536:=by have:=qF (n:=16) (h.ok.lt x) c;omega
 have g:∀p,G p<=X9 G x (G x ||| Cv t.s.es l (G i)) p:=λp=>by
  unfold X9;split
  ·rename_i e;subst e;exact Nat.left_le_or
  ·exact jp _
 refine⟨⟨λp=>?_,λp v=>?_⟩,λp j a=>?_,λp j a=>?_,λp=>lm (h.le p) (g p),λ_=>?_,λh=>by cases h⟩
 ·unfold X9
  split
  ·exact f
  ·exact h.ok.lt p
 ·unfold X9
  rw[if_neg (by omega)];exact h.ok.z p v
 ·have:=h.lo p j a
  unfold X9;split
  ·rename_i e;subst e;rw[ql,this];rfl
  ·exact this
 ·unfold X9 at a
  split at a
  ·rename_i e
   subst e;rw[ql,o8]at a
   rcases a with a|a
   ·exact h.hi p j a
   ·obtain⟨e,o,⟨B,A⟩,y⟩:=Eb.1 a
    subst B;have:=QQ.step (h.hi i _ A) o r rfl;rw[u,y]at this
    simpa using this
  ·exact h.hi p j a
 ·have H:=gr h.le
  refine ms (Zb h.ok.lt (λp=>?_) g λo=>m ?_) H
  ·unfold X9
   split
   ·exact f
   ·exact h.ok.lt p
  ·have I:=AJ (CG ht)
   have:=TP o x (by omega)
   simpa[X9]using this
theorem Um.mq{t:CP}(ht:Bc t=true){F0 F G:PS}{i k:Nat}{b:Bool}(h:Um t F0 F i k G b){l:Int}(hk:(Cu t)[k]?=some l){x:Nat}(m:Cz t.q i l=(x:Int))(n:G x ||| Cv t.s.es l (G i)=G x):Um t F0 F i (k+1) G b:=
 ⟨h.ok, h.lo,h.hi,h.le,h.yes,λhb=>by
  obtain⟨rfl,g⟩:=h.no hb;refine⟨rfl,λp f l' c d j e=>?_⟩
  rcases d with a|⟨rfl,a⟩
  ·exact g p f l' c (.inl a) j e
  ·rw [d8,hk]at a
   rcases f6.1 a with a|a
   ·exact g p f l' c (.inr ⟨rfl,a⟩) j e
   ·simp at a
    subst a
    rw[m,i7,<-n,ql,e,rC]⟩
theorem Um.row{t:CP}{F0 F G:PS}{i:Nat}{b:Bool}(h:Um t F0 F i (Cu t).length G b):Um t F0 F (i+1) 0 G b:=
 ⟨h.ok,h.lo,h.hi,h.le,h.yes,λhb=>by
  obtain⟨rfl,f⟩:=h.no hb;refine⟨rfl,λp d l' a c j e=>?_⟩
  rcases c with k|⟨rfl,k⟩
  ·rcases po p i with g|g
   ·exact f p d l' a (.inl g) j e
   ·exact f p d l' a (.inr ⟨by omega,by rw[io];exact a⟩) j e
  ·simp at k⟩
theorem Um.done{t:CP}(ht:Bc t=true){F0 F G:PS}(e:Dd t F0)(h:Um t F0 F t.q.nx.length 0 G false):G=Td t F0:=by
 obtain⟨rfl,d⟩:=h.no rfl;exact cM ht e h.ok.z h.lo h.hi λp l j a b c=>d p a l b (.inl a) j c
theorem il{a b:Int}(ha:Bb a=true)(hb:Bb b=true):a-Gp .i64 a b=Ht .i64 a b/\0<=Gp .i64 a b/\Gp .i64 a b<=63:=by
 have key:((List.range 64).all λx=>(List.range 64).all λy=>decide (((x:Nat):Int)-Gp .i64 (x:Nat) (y:Nat)=Ht .i64 (x:Nat) (y:Nat)/\0<=Gp .i64 (x:Nat) (y:Nat)/\Gp .i64 (x:Nat) (y:Nat)<=63))=true:=by kernel_rfl
 unfold Bb at ha hb;simp only[decide_eq_true_eq]at ha hb;have d:=f7.1 key a.toNat (o5.2 (by omega));have c:=f7.1 d b.toNat (o5.2 (by omega));rw[rL ha.1,rL hb.1]at c;exact of_decide_eq_true c
abbrev mL(r:Eo×Bool):E:=.t [(true,(Be r.1)),(false,[.d (bD r.2)])]
theorem Xr(a:W)(u:a.length<=1000000):Spec Tryz.prog TB 176 [] 0 [eT a] (EA (λ_:Eo×Bool=>True) mL):=by
 refine eR Tryz.func176 rfl (by kernel_rfl) rfl ?_;intro Γ b;(repeat first|refine tA rfl ?_|refine aU rfl ?_|apply Aa);apply aB;refine aL (α:={k:Nat // k<=a.length}) [0] [] rfl rfl (λs=>[(2,.o (.ptr 0 3 0 0)),(4,eI .i64 s.1)]) (λs=>[(0,.cells 78 3 [Be ⟨0,0,0⟩])]) 1 (λs=>a.length-s.1) (⟨0,by omega⟩) b rfl (by (simp[cX,zC,b,cN])) ?_;rintro⟨k,hk⟩;(try dsimp only[cA,cB]);by_cases p:k<a.length
 ·obtain⟨c,r⟩:=get_some (l:=a) (k:=(k:Int).toNat) (by omega)
  have q:=c.toNat_lt;have j:=IC (TB:=TB) a k c r;(repeat first|refine tA rfl ?_|refine s2 rfl λ_ d=>?_|refine aU rfl ?_|apply Aa)
  ((refine aC rfl ?_ ?_<;>rintro⟨⟩);all_goals try(exfalso;(simp only[oZ] at *;omega)))
  apply aK;refine aS (aB ?_)
  (repeat' first|refine tA rfl ?_|(refine s4 rfl ‹_› rfl ?_ ?_;omega)|refine s2 rfl λ_ d=>?_|refine s3 rfl ?_ ?_<;>rintro rfl|refine aU rfl ?_|apply Aa|(refine aC rfl ?_ ?_<;>rintro⟨⟩));all_goals try contradiction
  all_goals first|(exfalso;omega;done)|skip
  ·(repeat first|(refine Ag rfl ?_;refine gA rfl ?_;first|refine gS (λ_ _=>Zu rfl rfl (by omega) (by omega)) ?_))
   (refine pW rfl ?_ rfl (by rfl);refine Ai [] rfl rfl (JT (TB:=TB) (a.take (k:Int).toNat) (by simp;omega)) ⟨rfl,by decide,by decide⟩ rfl trivial ?_;rintro n g h ⟨⟨f,t⟩,_,rfl,rfl,rfl⟩ _);(repeat first|(refine sA rfl ?_ ?_;first|exact tI|omega)|(refine Ag rfl ?_;refine gA rfl ?_;first|refine gS (λ_ _=>EC rfl rfl (by omega) (by omega)) ?_)|refine aU rfl ?_|apply Aa);(refine pW rfl ?_ rfl (by rfl);refine Ai [] rfl rfl (JT (TB:=TB) (a.drop ((k:Int)+1).toNat) (by simp;omega)) ⟨rfl,by decide,by decide⟩ rfl trivial ?_;rintro n g h ⟨⟨e,m⟩,_,rfl,rfl,rfl⟩ _);(repeat' first|refine tA rfl ?_|refine sP rfl (j) rfl ?_|(refine Ag rfl ?_;refine gA rfl ?_;first|refine gS (λ_ _=>AG rfl rfl (by rfl) (by rfl)) ?_)|refine s3 rfl ?_ ?_<;>rintro rfl|refine aU rfl ?_|apply Aa|(refine aC rfl ?_ ?_<;>rintro⟨⟩))
   all_goals first
    | exact aR ⟨_,rfl,[],mL (⟨f,(c.toNat:Int)-97,e⟩,m),[],⟨λi hi=>absurd hi (lc i),lw⟩,rfl,trivial,(⟨f,(c.toNat:Int)-97,e⟩,m),trivial,rfl,rfl,rfl⟩
    | exact aR ⟨_,rfl,[],mL (⟨f,(c.toNat:Int)-97,e⟩,false),[],⟨λi hi=>absurd hi (lc i),lw⟩,rfl,trivial,(⟨f,(c.toNat:Int)-97,e⟩,false),trivial,rfl,rfl,rfl⟩
  all_goals
   apply aK;(repeat first|(refine sA rfl ?_ ?_;first|exact tI|omega)|refine aU rfl ?_|apply Aa);refine⟨⟨k+1,by omega⟩,by dsimp only;(omega),[0],?_⟩;(simp[cX,zC,b,cN]<;>rfl)
 ·(repeat first|refine tA rfl ?_|refine s2 rfl λ_ d=>?_|refine aU rfl ?_|apply Aa)
  ((refine aC rfl ?_ ?_<;>rintro⟨⟩);all_goals try(exfalso;(simp only[oZ] at *;omega)))
  apply aE;(repeat first|refine tA rfl ?_|(refine Ag rfl ?_;refine gA rfl ?_;first|refine gS (λ_ _=>AG rfl rfl (by rfl) (by rfl)) ?_)|refine aU rfl ?_|apply Aa);exact aR ⟨_,rfl,[],mL (⟨0,0,0⟩,false),[],⟨λi hi=>absurd hi (lc i),lw⟩,rfl,trivial,(⟨0,0,0⟩,false),trivial,rfl,rfl,rfl⟩
theorem IW(y:Sys)(hb:y.es.length<=100000):Spec Tryz.prog TB 177 [] 0 [Br y] (EA (λr:W=>r.length<=1000000) eT):=by
 have A:=Cg (TB:=TB) y;refine eR Tryz.func177 rfl (by kernel_rfl) rfl ?_;intro Γ d;(repeat first|refine tA rfl ?_|refine s2 rfl λ_ a=>?_|(refine sC rfl (A) ?_;intro _ a)|refine aU rfl ?_|apply Aa);(refine aC rfl ?_ ?_<;>rintro⟨⟩)
 ·(repeat first|refine tA rfl ?_|refine aU rfl ?_|apply Aa)
  exact aR ⟨_,rfl,[],eT [],[],⟨λi hi=>absurd hi (lc i),lw⟩,rfl,trivial,[],pH _,rfl,rfl,rfl⟩
 have h:AX y=true:=by (simp at a;subst a;assumption)
 have K:=AN h;apply aK;(repeat first|refine aU rfl ?_);refine rG ⟨Gn [(2,1),(6,1)],bU [0,1,4,5,2,3,6,7,8]⟩ (by kernel_rfl) ?_;(repeat first|refine tA rfl ?_);(refine pW rfl ?_ rfl (by rfl);refine Ai [] rfl rfl (EY (TB:=TB) y.al) ⟨rfl,by decide,by decide⟩ rfl trivial ?_;rintro j b c ⟨u,x,rfl,rfl,rfl⟩ _);(repeat first|(refine sA rfl ?_ ?_;simp only[oZ] at *;omega));(refine pW rfl ?_ rfl (by rfl);refine Ai [] rfl rfl (HW (TB:=TB) y.st (by omega)) ⟨rfl,by decide,by decide⟩ rfl trivial ?_;rintro j b c ⟨q,v,rfl,rfl,rfl⟩ _);(repeat first|(refine sA rfl ?_ ?_;first|exact tI|simp only[oZ] at *;omega)|refine aU rfl ?_|apply Aa);apply aB;refine aL (α:={z:Nat×W // z.1<=y.es.length/\z.2.length<=10+9*z.1}) [1] [] rfl rfl (λs=>[(3,eT s.1.2),(4,eI .i64 s.1.1)]) (λs=>[]) 0 (λs=>y.es.length-s.1.1) (⟨⟨0,u++[32]++q⟩,by simp;omega⟩) d rfl (by (simp[cX,zC,d])) ?_;rintro⟨⟨k,w⟩,hk,o⟩;(try dsimp only[cA,cB]);have hk:k<=y.es.length:=hk;have o:w.length<=10+9*k:=o;by_cases m:k<y.es.length
 ·obtain⟨e,p⟩:=get_some m
  have n:=get_map (g:=Dy) p
  have F:(y.es.map Dy)[((k:Nat):Int).toNat]?=some (Dy e):=by rw[i7];exact n
  have hb:=Du h (co p);unfold DT at hb;simp only[d4,decide_eq_true_eq]at hb;(repeat first|refine sN rfl ?_|refine tA rfl ?_|refine s2 rfl λ_ a=>?_|refine aU rfl ?_|apply Aa)
  ((refine aC rfl ?_ ?_<;>rintro⟨⟩);all_goals try(exfalso;(simp only[oZ] at *;omega)))
  apply aK;refine aS (aB ?_);(repeat first|refine tA rfl ?_|(refine s4 rfl ‹_› rfl ?_ ?_;omega)|refine aU rfl ?_|apply Aa);refine rG ⟨Gn [(3,10),(7,10),(11,10),(4,1001),(12,1001)],bU [0,1,2,3,6,7,10,11,4,5,8,9,12,13,14]⟩ (by kernel_rfl) ?_;(repeat first|(refine sA rfl ?_ ?_;first|exact tI|simp only[oZ] at *;omega));(refine Ag rfl ?_;refine Di ?_ rfl ⟨rfl,rfl⟩;refine Ai [] rfl rfl (HW (TB:=TB) e.f (by omega)) ⟨rfl,by decide,by decide⟩ rfl trivial ?_;rintro j b c ⟨J,H,rfl,rfl,rfl⟩ _;refine⟨Fs 0 rfl rfl,?_⟩);(repeat first|(refine sA rfl ?_ ?_;simp only[oZ] at *;omega)|refine sP rfl (HX e.l (by omega) (by omega)) rfl ?_);(refine Ag rfl ?_;refine Di ?_ rfl ⟨rfl,rfl⟩;refine Ai [] rfl rfl (HW (TB:=TB) e.t (by omega)) ⟨rfl,by decide,by decide⟩ rfl trivial ?_;rintro j b c ⟨I,G,rfl,rfl,rfl⟩ _;refine⟨Fs 0 rfl rfl,?_⟩);(repeat first|(refine sA rfl ?_ ?_;first|exact tI|omega|simp only[oZ] at *;omega)|refine aU rfl ?_|apply Aa);refine⟨⟨⟨k+1,w++[32]++J++[UInt8.ofNat (97+e.l.toNat)]++I⟩,by dsimp only;omega,by simp;omega⟩,by dsimp only;(omega),[],?_⟩;(simp[cX,zC,d,cN]<;>rfl)
 ·have B:k=y.es.length:=by omega
  (repeat first|refine sN rfl ?_|refine tA rfl ?_|refine s2 rfl λ_ a=>?_|refine aU rfl ?_|apply Aa)
  ((refine aC rfl ?_ ?_<;>rintro⟨⟩);all_goals try(exfalso;(simp only[oZ] at *;omega)))
  apply aE;(repeat first|refine tA rfl ?_|refine aU rfl ?_|apply Aa);exact aR ⟨_,rfl,[],eT w,[],⟨λi hi=>absurd hi (lc i),lw⟩,rfl,trivial,w,by show w.length<=_;omega,rfl,rfl,rfl⟩
abbrev iJ(r:Sys×Bool):E:=.t [(true,[.d (iD r.1.al),.d (iD r.1.st),.d (EG r.1.es)]),(false,[.d (bD r.2)])]
def N6(al n:Int):List Eo->Ab
 | []=>[(1,.cells 25 3 [[.d (iD al),.d (iD n),.d (.v (.slice none 0 0))]])]
 | e::l=>[(1,.cells 25 3 [[.d (iD al),.d (iD n),.arr 2 3 0 (l.length+1)]]),(2,.cells 78 3 ((e::l).map Be))]
theorem GP(f:W)(Y:f.length<=10000):Spec Tryz.prog TB 125 [] 0 [eT f] (EA (λr:Sys×Bool=>r.1.es.length<=f.length+1) iJ):=by
  refine eR Tryz.func125 rfl (by kernel_rfl) rfl ?_;intro Γ e;(repeat first|refine tA rfl ?_|refine aU rfl ?_|apply Aa);(refine pW rfl ?_ rfl (by rfl);refine Ai [] rfl rfl (Nt (TB:=TB) f (by omega) 32) ⟨rfl,by decide,by decide⟩ rfl trivial ?_;rintro m b c ⟨ps,⟨R,Q,q⟩,rfl,rfl,rfl⟩ _);(repeat first|refine sN rfl ?_|refine tA rfl ?_|refine s2 rfl λ_ a=>?_|refine aU rfl ?_|apply Aa);by_cases S:ps.length<2
  · ((refine aC rfl ?_ ?_<;>rintro⟨⟩);all_goals try(exfalso;(simp only[oZ] at *;omega)))
    (repeat first|refine tA rfl ?_|(refine Ag rfl ?_;refine gA rfl ?_;first|refine gS (λ_ _=>AG rfl rfl (by rfl) (by rfl)) ?_)|refine aU rfl ?_|apply Aa);exact aR ⟨_,rfl,[],iJ (⟨0,0,[]⟩,false),[],⟨λi hi=>absurd hi (lc i),lw⟩,rfl,trivial,(⟨0,0,[]⟩,false),pH _,rfl,rfl,rfl⟩
  ((refine aC rfl ?_ ?_<;>rintro⟨⟩);all_goals try(exfalso;(simp only[oZ] at *;omega)))
  apply aK;obtain⟨K,X⟩:=get_some (l:=ps) (k:=(0:Int).toNat) (by simp;omega);have V:=get_map (g:=CX) X;obtain⟨y,F⟩:=get_some (l:=ps) (k:=(1:Int).toNat) (by simp;omega);have U:=get_map (g:=CX) F;have B:=q y (co F);(repeat first|refine tA rfl ?_|(refine s4 rfl ‹_› rfl ?_ ?_;omega)|refine aU rfl ?_);(refine pW rfl ?_ rfl (by rfl);refine Ai [] rfl rfl (HK (TB:=TB) K) ⟨rfl,by decide,by decide⟩ rfl trivial ?_;rintro m b c ⟨⟨n,ok⟩,_,rfl,rfl,rfl⟩ _);(repeat first|refine tA rfl ?_|(refine s4 rfl ‹_› rfl ?_ ?_;omega)|refine aU rfl ?_|apply Aa);(refine pW rfl ?_ rfl (by rfl);refine Ai [] rfl rfl (JT (TB:=TB) y (by omega)) ⟨rfl,by decide,by decide⟩ rfl trivial ?_;rintro m b c ⟨⟨st,M⟩,_,rfl,rfl,rfl⟩ _);(repeat first|refine tA rfl ?_|refine s2 rfl λ_ a=>?_|refine s3 rfl ?_ ?_<;>rintro rfl|refine aU rfl ?_|apply Aa)
  (repeat' first|refine tA rfl ?_|refine s2 rfl λ_ a=>?_|refine aU rfl ?_|apply Aa|(refine aC rfl ?_ ?_<;>rintro⟨⟩));all_goals try contradiction
  all_goals first
    | ((repeat first|refine tA rfl ?_|(refine Ag rfl ?_;refine gA rfl ?_;first|refine gS (λ_ _=>AG rfl rfl (by rfl) (by rfl)) ?_)|apply Aa)
       exact aR ⟨_,rfl,[],iJ (⟨0,0,[]⟩,false),[],⟨λi hi=>absurd hi (lc i),lw⟩,rfl,trivial,(⟨0,0,[]⟩,false),pH _,rfl,rfl,rfl⟩
       done)
    | skip
  apply aK;(repeat first|refine tA rfl ?_|(refine Ag rfl ?_;refine gA rfl ?_;first|refine gS (λ_ _=>P8 rfl rfl (by rfl) (by rfl)) ?_)|refine aU rfl ?_|apply Aa);apply aB;refine aL (α:={z:Nat×List Eo // (2<=z.1/\z.1<=ps.length)/\z.2.length+2=z.1}) [0,4] [] rfl rfl (λs=>[(2,.o (.ptr 0 3 0 0)),(9,.o (.ptr 1 3 0 0)),(10,eI .i64 s.1.1)]) (λs=>((0,.cells 25 3 [[.d (iD 0),.d (iD 0),.d (.l [])]])::N6 n st s.1.2)) 3 (λs=>ps.length-s.1.1) (⟨⟨2,[]⟩,by simp;omega⟩) e rfl (by (simp[cX,zC,e,N6,cN])) ?_;rintro⟨⟨k,l⟩,hk,u⟩;(try dsimp only[cA,cB]);have hk:2<=k/\k<=ps.length:=hk;have u:l.length+2=k:=u;(repeat first|refine sN rfl ?_|refine tA rfl ?_|refine s2 rfl λ_ a=>?_|refine aU rfl ?_|apply Aa)
  ((refine aC rfl ?_ ?_<;>rintro⟨⟩);all_goals try (simp at a;done))
  · have x:k<ps.length:=by (simp only[oZ] at *;omega)
    obtain⟨w,A⟩:=get_some (l:=ps) (k:=k) x;have P:=get_map (g:=CX) A;have N:=q w (co A);apply aK;refine aS (aB ?_);(repeat first|refine tA rfl ?_|(refine s4 rfl ‹_› rfl ?_ ?_;omega)|refine aU rfl ?_);(refine pW rfl ?_ rfl (by rfl);refine Ai [] rfl rfl (Xr (TB:=TB) w (by omega)) ⟨rfl,by decide,by decide⟩ rfl trivial ?_;rintro m b c ⟨⟨⟨I,H,G⟩,L⟩,_,rfl,rfl,rfl⟩ _);(repeat first|refine tA rfl ?_|refine s2 rfl λ_ a=>?_|refine aU rfl ?_|apply Aa);(refine aC rfl ?_ ?_<;>rintro⟨⟩)
    · (repeat first|refine tA rfl ?_|(refine Ag rfl ?_;refine gA rfl ?_;first|refine gS (λ_ _=>AG rfl rfl (by rfl) (by rfl)) ?_)|refine aU rfl ?_|apply Aa)
      exact aR ⟨_,rfl,[],iJ (⟨0,0,[]⟩,false),[],⟨λi hi=>absurd hi (lc i),lw⟩,rfl,trivial,(⟨0,0,[]⟩,false),pH _,rfl,rfl,rfl⟩
    apply aK
    cases l with
    | nil=>
      (repeat first|refine tA rfl ?_|refine aU rfl ?_);(refine pW rfl ?_ rfl (by rfl);refine Zg 61 rfl ?_;refine ES rfl rfl rfl (by intro r p;simp at p;subst p;rfl) (by rfl) (am rfl) (by simp) (λh=>?_) (λ_=>?_))
      · exact absurd h (by simp)
      (repeat first|(refine sA rfl ?_ ?_;first|exact tI|omega)|refine aU rfl ?_|apply Aa);refine⟨⟨⟨k+1,[⟨I,H,G⟩]⟩,⟨by dsimp only;omega,by dsimp only;omega⟩,by simp at u;simp;omega⟩,by dsimp only;(omega),[0,1,4],?_⟩;(simp[cX,zC,e,cN,N6,Ae,eC]<;>rfl)
    | cons j l=>
      (repeat first|refine tA rfl ?_|refine aU rfl ?_);(refine pW rfl ?_ rfl (by rfl);refine Au rfl rfl rfl (by first|(simp;done)|(simp;(omega))) rfl (by intro r p;simp at p;subst p;rfl) (by rfl) (am rfl) (by simp at u |-;omega) ?_);(repeat first|(refine sA rfl ?_ ?_;first|exact tI|omega)|refine aU rfl ?_|apply Aa);refine⟨⟨⟨k+1,j::(l++[⟨I,H,G⟩])⟩,⟨by dsimp only;omega,by dsimp only;omega⟩,by simp at u |-;omega⟩,by dsimp only;(omega),[0,1,4],?_⟩;(simp[cX,zC,e,cN,N6,Ae,eC]<;>rfl)
  apply aE
  have T:k=ps.length:=by (simp only[oZ] at *;omega)
  have t:l.length<=f.length+1:=by omega
  cases l with
  | nil=>
    refine Ak.AF [1] [(0,eT f),(2,.o (.ptr 0 3 0 0)),(9,.o (.ip (AL ⟨n,st,[]⟩)))] ⟨⟨_,rfl,.inl rfl⟩,⟨_,rfl,.inl rfl⟩,⟨_,rfl,.inr (.o (.box rfl (.cons .d (.cons .d (.cons .nl .nil)))))⟩,trivial⟩ ?_;(repeat first|refine tA rfl ?_|refine aU rfl ?_);(refine pW rfl ?_ rfl (by rfl);refine Ai [] rfl rfl (IW (TB:=TB) ⟨n,st,[]⟩ (by simp)) ⟨rfl,by decide,by decide⟩ rfl trivial ?_;rintro m b c ⟨J,v,rfl,rfl,rfl⟩ _);(repeat first|refine tA rfl ?_|refine s2 rfl λ_ a=>?_|apply Aa);(refine aC rfl ?_ ?_<;>rintro⟨⟩)
    · (repeat first|refine tA rfl ?_|(refine Ag rfl ?_;refine gA rfl ?_;first|refine gS (λ_ _=>AG rfl rfl (by rfl) (by rfl)) ?_)|refine aU rfl ?_|apply Aa)
      exact aR ⟨_,rfl,[],iJ (⟨0,0,[]⟩,false),[],⟨λi hi=>absurd hi (lc i),lw⟩,rfl,trivial,(⟨0,0,[]⟩,false),pH _,rfl,rfl,rfl⟩
    apply aK;(repeat first|refine tA rfl ?_|refine aU rfl ?_|apply Aa);exact aR ⟨_,rfl,[],iJ (⟨n,st,[]⟩,true),[],⟨λi hi=>absurd hi (lc i),lw⟩,rfl,trivial,(⟨n,st,[]⟩,true),pH _,rfl,rfl,rfl⟩
  | cons j l=>
    refine Ak.AF [1,2] [(0,eT f),(2,.o (.ptr 0 3 0 0)),(9,.o (.ip (AL ⟨n,st,j::l⟩)))] ⟨⟨_,rfl,.inl rfl⟩,⟨_,rfl,.inl rfl⟩,⟨_,rfl,.inr (.o (.box rfl (.cons .d (.cons .d (.cons (.full rfl (by simp[d5]) (by simp)) .nil)))))⟩,trivial⟩ ?_;(repeat first|refine tA rfl ?_|refine aU rfl ?_);(refine pW rfl ?_ rfl (by rfl);refine Ai [] rfl rfl (IW (TB:=TB) ⟨n,st,j::l⟩ (by simp at t |-;omega)) ⟨rfl,by decide,by decide⟩ rfl trivial ?_;rintro m b c ⟨J,v,rfl,rfl,rfl⟩ _);(repeat first|refine tA rfl ?_|refine s2 rfl λ_ a=>?_|apply Aa);(refine aC rfl ?_ ?_<;>rintro⟨⟩)
    · (repeat first|refine tA rfl ?_|(refine Ag rfl ?_;refine gA rfl ?_;first|refine gS (λ_ _=>AG rfl rfl (by rfl) (by rfl)) ?_)|refine aU rfl ?_|apply Aa)
      exact aR ⟨_,rfl,[],iJ (⟨0,0,[]⟩,false),[],⟨λi hi=>absurd hi (lc i),lw⟩,rfl,trivial,(⟨0,0,[]⟩,false),pH _,rfl,rfl,rfl⟩
    apply aK;(repeat first|refine tA rfl ?_|refine aU rfl ?_|apply Aa);exact aR ⟨_,rfl,[],iJ (⟨n,st,j::l⟩,true),[],⟨λi hi=>absurd hi (lc i),lw⟩,rfl,trivial,(⟨n,st,j::l⟩,true),t,rfl,rfl,rfl⟩
theorem TN{n x v:Nat}{G:PS}:((NB n G).map AD).set x (AD (v:Int))=(NB n (X9 G x v)).map AD:=by
 apply pY;intro i;rw[sE];by_cases hi:i<n
 ·have a:∀H:PS,((NB n H).map AD)[i]?=some (AD (H i:Int)):=λH=>by simp[hi]
  rw[a,a];unfold X9;by_cases e:x=i
  ·subst e;rw[if_pos rfl,if_pos (by simpa using hi),if_pos rfl]
  ·rw[if_neg e,if_neg (λh=>e h.symm)]
 ·have a:∀H:PS,((NB n H).map AD)[i]?=none:=λH=>o4 (by simp;omega)
  rw[a,a];by_cases e:x=i
  ·subst e;rw[if_pos rfl,if_neg (by simpa using hi)]
  ·rw[if_neg e]
theorem TM{n x:Nat}{G:PS}(h:x<n):((NB n G).map AD)[0+((x:Nat):Int).toNat]?=some (AD (G x:Int)):=by rw[oY,i7];simp[h]
theorem Um.start{t:CP}{F0 F:PS}(a:Dd t F)(c:∀p j,(F0 p).testBit j=true->(F p).testBit j=true)(b:∀p j,(F p).testBit j=true->QQ t F0 p j):Um t F0 F 0 0 F false:=
 ⟨a,c,b,λ_=>jp _,λh=>(by cases h),λ_=>⟨rfl,λp _ l _ h=>by simp at h⟩⟩
theorem PR{t:CP}(ht:Bc t=true){F0:PS}(K:Dd t F0):Spec Tryz.prog TB 216 [(0,.cells 3 1 ((NB t.q.nx.length F0).map AD))] 1 [QZ t,.o (.arr 0 1 0 t.q.nx.length)] (λx σ nx=>x=.o (.arr 0 1 0 t.q.nx.length)/\σ=[(0,.cells 3 1 ((NB t.q.nx.length (Td t F0)).map AD))]/\nx=1):=by
 have P:AX t.s=true:=by unfold Bc at ht;simp only[d4]at ht;exact ht.1
 have A:Bb t.al=true:=by unfold Bc at ht;simp only[d4]at ht;exact ht.2.2
 have y:=AN P;have g:=CG ht;have hah:=AJ g;have H:=il y.1 A;have I:=y.1;unfold Bb at I;simp only[decide_eq_true_eq]at I
 have R:Pure Tryz.prog TB 98 [eI .i64 (t.s.al-Gp .i64 t.s.al t.al)] (Al (Cu t)):=by
  have:=Cm (TB:=TB) (t.s.al-Gp .i64 t.s.al t.al);rw[H.1,Ju y.1 A]at this;rw[H.1];exact this
 have Z:(Cu t).length<=6:=by
  unfold Cu;have V:(Ac t.s.al).length<=6:=AM _ _;exact lm (qv _ _) V
 refine eR Tryz.func216 rfl (by kernel_rfl) rfl ?_;intro Γ c;(repeat first|(refine sA rfl ?_ ?_;first|exact tI|omega)|refine sP rfl (R) rfl ?_|refine aU rfl ?_|apply Aa);apply aB;refine aL (α:={s:PS×Bool // Dd t s.1/\(∀p j,(F0 p).testBit j=true->(s.1 p).testBit j=true)/\(∀p j,(s.1 p).testBit j=true->QQ t F0 p j)/\(s.2=false->s.1=Td t F0)}) [1,2,5] [] rfl rfl (λs=>[(6,eB s.1.2)]) (λs=>[(0,.cells 3 1 ((NB t.q.nx.length s.1.1).map AD))]) 1 (λs=>(if s.1.2 then OJ s.1.1+1 else 0)) (⟨⟨F0,true⟩,K,λ_ _ h=>h,λ_ _ h=>.base h,λh=>by cases h⟩) c rfl (by (simp[cX,zC,c])) ?_;rintro⟨⟨F,b⟩,U,V,h2,h3⟩;(try dsimp only[cA,cB]);have U:Dd t F:=U
 cases b with
 | false=>
  obtain rfl:F=Td t F0:=h3 rfl;(repeat first|refine tA rfl ?_|refine aU rfl ?_|apply Aa);(refine aC rfl ?_ ?_<;>rintro⟨⟩);apply aE;(repeat first|refine tA rfl ?_|refine aU rfl ?_|apply Aa);refine aR ⟨_,rfl,[0],.o (.arr 0 1 0 t.q.nx.length),_,⟨by intro i hi;match i with|0=>rfl,by decide⟩,rfl,?_,rfl,rfl,rfl⟩;(simp[cX,zC,c])
 | true =>
  (repeat first|refine tA rfl ?_|refine aU rfl ?_|apply Aa);(refine aC rfl ?_ ?_<;>rintro⟨⟩);apply aK;apply aB;(repeat first|refine tA rfl ?_|refine aU rfl ?_|apply Aa);apply aB;refine aL (α:={s:Nat×PS×Bool // s.1<=t.q.nx.length/\Um t F0 F s.1 0 s.2.1 s.2.2}) [1,2,5] [] rfl rfl (λs=>[(6,eB s.1.2.2),(7,eI .i64 s.1.1)]) (λs=>[(0,.cells 3 1 ((NB t.q.nx.length s.1.2.1).map AD))]) 1 (λs=>t.q.nx.length-s.1.1) (⟨⟨0,F,false⟩,by simp,.start U V h2⟩) c rfl (by (simp[cX,zC,c])) ?_;rintro⟨⟨i,G,b⟩,hi,w⟩;(try dsimp only[cA,cB]);have hi:i<=t.q.nx.length:=hi;have w:Um t F0 F i 0 G b:=w;by_cases u:i<t.q.nx.length
  ·(repeat first|refine tA rfl ?_|refine s2 rfl λ_ d=>?_|refine aU rfl ?_|apply Aa)
   ((refine aC rfl ?_ ?_<;>rintro⟨⟩);all_goals try(exfalso;(simp only[oZ] at *;omega)))
   apply aK;refine aS (aB ?_);(repeat first|refine tA rfl ?_|refine aU rfl ?_|apply Aa);apply aB;refine aL (α:={s:Nat×PS×Bool // s.1<=(Cu t).length/\Um t F0 F i s.1 s.2.1 s.2.2}) [1,2,5,7] [] rfl rfl (λs=>[(6,eB s.1.2.2),(8,eI .i64 s.1.1)]) (λs=>[(0,.cells 3 1 ((NB t.q.nx.length s.1.2.1).map AD))]) 1 (λs=>(Cu t).length-s.1.1) (⟨⟨0,G,b⟩,by simp,w⟩) c rfl (by (simp[cX,zC,c])) ?_;rintro⟨⟨k,G',b'⟩,hk,e⟩;(try dsimp only[cA,cB]);have hk:k<=(Cu t).length:=hk;have e:Um t F0 F i k G' b':=e;clear w;by_cases S:k<(Cu t).length
   ·obtain⟨l,r⟩:=get_some S
    have f:=CS ht (co r)
    have hl':((Cu t).map Bs)[((k:Nat):Int).toNat]?=some (Bs l):=by rw[i7];simp[r]
    have J:=JV (TB:=TB) t.q g i u l f.1 f.2.1;have T:=DH g u f.1 f.2.1
    obtain⟨x,L⟩:∃x:Nat,Cz t.q i l=x:=⟨(Cz t.q i l).toNat,by omega⟩
    rw[L]at J T;have M:=Sc (TB:=TB) P l (e.ok.lt i)
    have Y:Cv t.s.es l (G' i)<65536:=by
     have:=Vk P (l:=l) (m:=G' i) (k:=t.s.es.length);rwa[io]at this
    have r1:=TM (n:=t.q.nx.length) (G:=G') (x:=x) (by omega);have r2:=TM (n:=t.q.nx.length) (G:=G') (x:=i) u;have X:=e.ok.lt x;have z:=OY (a:=G' x) (b:=Cv t.s.es l (G' i)) (by omega) (by omega);have B:=TN (n:=t.q.nx.length) (x:=x) (v:=G' x ||| Cv t.s.es l (G' i)) (G:=G');(repeat first|refine sN rfl ?_|refine tA rfl ?_|refine s2 rfl λ_ d=>?_|refine aU rfl ?_|apply Aa)
    ((refine aC rfl ?_ ?_<;>rintro⟨⟩);all_goals try(exfalso;(simp only[oZ] at *;omega)))
    apply aK;refine aS (aB ?_);(repeat first|refine aU rfl ?_);refine rG (Hm []) (by kernel_rfl) ?_;(repeat first|refine tA rfl ?_|(refine s4 rfl ‹_› rfl ?_ ?_;omega)|refine sP rfl (J) rfl ?_|refine aU rfl ?_|apply Aa);refine rG (Hm []) (by kernel_rfl) ?_;(repeat first|((first|refine sA rfl ?_ ?_|refine s4 rfl ‹_› rfl ?_ ?_);first|exact tI|omega)|refine s2 rfl λ_ d=>?_|refine sP rfl (M) rfl ?_|refine aU rfl ?_|apply Aa);(refine aC rfl ?_ ?_<;>rintro⟨⟩)
    ·have Q:G' x ||| Cv t.s.es l (G' i)≠G' x:=by
      rw[z]at d;simp only[decide_eq_true_eq]at d;omega
     (repeat first|(refine sA rfl ?_ ?_;first|exact tI|omega)|refine t4 rfl ‹_› rfl ?_|refine aU rfl ?_|apply Aa);have N:=e.Qw ht u r L Q;generalize X9 G' x (G' x ||| Cv t.s.es l (G' i))=G2 at *;refine⟨⟨⟨k+1,G2,true⟩,by omega,N⟩,by dsimp only;(omega),[0],?_⟩
     simp[cX,zC,c,z];simpa[d5]using B
    ·have he:G' x ||| Cv t.s.es l (G' i)=G' x:=by
      rw[z]at d;simp only[decide_eq_false_iff_not]at d;omega
     apply aK;(repeat first|(refine sA rfl ?_ ?_;first|exact tI|omega)|refine aU rfl ?_|apply Aa);refine⟨⟨⟨k+1,G',b'⟩,by omega,e.mq ht r L he⟩,by dsimp only;(omega),[0],?_⟩;simp[cX,zC,c]
   ·obtain rfl:k=(Cu t).length:=by omega
    (repeat first|refine sN rfl ?_|refine tA rfl ?_|refine s2 rfl λ_ d=>?_|refine aU rfl ?_|apply Aa)
    ((refine aC rfl ?_ ?_<;>rintro⟨⟩);all_goals try(exfalso;(simp only[oZ] at *;omega)))
    apply aE;(repeat first|(refine sA rfl ?_ ?_;first|exact tI|omega)|refine aU rfl ?_|apply Aa);refine⟨⟨⟨i+1,G',b'⟩,by omega,e.row⟩,by dsimp only;(omega),[0],?_⟩;simp[cX,zC,c]
  ·obtain rfl:i=t.q.nx.length:=by omega
   (repeat first|refine tA rfl ?_|refine s2 rfl λ_ d=>?_|refine aU rfl ?_|apply Aa)
   ((refine aC rfl ?_ ?_<;>rintro⟨⟩);all_goals try(exfalso;(simp only[oZ] at *;omega)))
   apply aE;refine⟨⟨⟨G,b⟩,w.ok,w.lo,w.hi,λhb=>by have hb:b=false:=hb;subst hb;exact w.done ht K⟩,by cases b<;>simp_all[w.yes],[0],?_⟩;simp[cX,zC,c]
def gj(al n:Int)(l:List Eo):Ab:=(0,.cells 25 3 [[.d (iD 0),.d (iD 0),.d (.l [])]])::N6 al n l
theorem Xo(n:Int)(d:0<=n)(g:n<=16):Pure Tryz.prog TB 137 [eI .i64 n] (eI .i64 ((2 ^ n.toNat:Nat):Int)):=by
 have a:IntKind.i64.wrap (1*2 ^ (min n.toNat IntKind.i64.bits))=((2 ^ n.toNat:Nat):Int):=by
  have e:min n.toNat IntKind.i64.bits=n.toNat:=by
   have:IntKind.i64.bits=64:=rfl;omega
  rw[e,sr];have f:2 ^ n.toNat<2 ^ 17:=qU (by omega) (by omega)
  have c:(2:Int) ^ n.toNat=((2 ^ n.toNat:Nat):Int):=by push_cast;rfl
  rw[c];generalize 2 ^ n.toNat=p at *;exact IntWalk.i64_in _ (by omega)
 refine eN Tryz.func137 rfl (by kernel_rfl) rfl ?_;intro Γ b;(repeat' first|(refine sA rfl ?_ ?_;first|exact tI|omega)|(refine Ag rfl ?_;refine gA rfl ?_;first|refine gS (λ_ _=>er rfl rfl d a) ?_)|refine aU rfl ?_|apply Aa|(refine aC rfl ?_ ?_<;>rintro⟨⟩)|apply aK|apply aE|apply aB|refine aR ⟨_,rfl,?_⟩);rfl
abbrev nY(r:CP×Bool):E:=.t [(true,(MK r.1).map .d),(false,[.d (bD r.2)])]
theorem FA(b:List UInt8)(hb:b.length<=2000)(p:Int)(P:0<=p/\p<800000000)(y:Sys)(N:y.es.length<=100000):Spec Tryz.prog TB 89 [(0,Bo b p)] 1 [.o (.ptr 0 2 0 0),Br y] (LB b p 5 (λs=>s.es.length<=y.es.length+1)):=by
 obtain⟨k,M,L,hk⟩:=Bn (TB:=TB) b hb p y.es.length (by omega);obtain⟨c,S,Q,K⟩:=Bn (TB:=TB) b hb (p+1) 30 (by omega);refine eR Tryz.func89 rfl (by kernel_rfl) rfl ?_;intro Γ a;(repeat first|refine tA rfl ?_|refine aU rfl ?_|apply Aa);refine R.Rz [(0,2),(1,2),(2,2),(3,2),(5,2),(6,2),(9,3),(4,1),(7,1),(8,0),(10,5)] mixed (by kernel_rfl) rfl (by kernel_rfl) ?_;(repeat ((refine R.Ag rfl ?_;first|(refine R.yQ (md:=false) rfl rfl rfl ?_ ?_;exact tI)|refine R.yP rfl rfl rfl rfl ?_ )));(refine R.Ag rfl ?_;refine R.Kz (λ_=>?_) rfl rfl;refine Bj rfl rfl rfl rfl (by simp) (by rfl) (by rfl) (by rfl) (by rfl) ?_);(refine R.Ag rfl ?_;refine R.Kz (λ_=>?_) rfl rfl;refine Au rfl rfl rfl (by simp) rfl (by intro r u;simp only[pR,d9]at u;obtain⟨_,_,rfl⟩:=u;rfl) (by rfl) (am rfl) (by simp;omega) ?_);(repeat ((refine R.Ag rfl ?_;first|refine R.yA rfl rfl rfl rfl ?_|refine R.CM (λ_ _ _=>AG rfl rfl (by rfl) (by rfl)) rfl rfl ?_ )));refine R.Ru ?_;refine Ak.Ay [0] [] rfl rfl [(4,.o (.ptr 1 3 0 0)),(5,.o (.ptr 3 3 0 0))] [(0,Bo b p),(1,.cells 25 3 [[.d (iD 0),.d (iD 0),.d (.l [])]]),(2,.cells 78 3 (y.es.map Be)),(3,.cells 25 3 [[.d (iD y.al),.d (iD y.st),.arr 2 3 0 y.es.length]])] [0,1,3,4] (rl a rfl) (by (simp[cX,zC,a,cN,Ae,BU,eC])) ?_;(try dsimp only[cA,cB]);(repeat first|refine tA rfl ?_|refine aU rfl ?_|apply Aa);(refine pW rfl ?_ rfl (by rfl);refine Ai [0] rfl rfl (hk) ⟨rfl,by decide,by decide⟩ rfl (by simp[cX,zC,a,cN]) ?_;rintro t j m ⟨rfl,rfl,rfl⟩ _);(repeat first|refine tA rfl ?_|refine aU rfl ?_|apply Aa);(refine pW rfl ?_ rfl (by rfl);refine Ai [0] rfl rfl (K) ⟨rfl,by decide,by decide⟩ rfl (by simp[cX,zC,a,cN]) ?_;rintro t j m ⟨rfl,rfl,rfl⟩ _);apply Aa;refine Ak.Ay [0] [] rfl rfl [(4,.o (.ptr 1 3 0 0)),(5,.o (.ptr 3 3 0 0)),(6,eI .i64 y.es.length),(7,eI .i64 k),(24,eI .i64 c)] [(0,Bo b (p+1+1)),(1,.cells 25 3 [[.d (iD 0),.d (iD 0),.d (.l [])]]),(2,.cells 78 3 (y.es.map Be)),(3,.cells 25 3 [[.d (iD y.al),.d (iD y.st),.arr 2 3 0 y.es.length]])] [0,1,2,3] (rl a rfl) (by (simp[cX,zC,a,cN])) ?_;(try dsimp only[cA,cB]);apply aB;(repeat first|refine tA rfl ?_|refine s2 rfl λ_ e=>?_|refine aU rfl ?_|apply Aa);(refine aC rfl ?_ ?_<;>rintro⟨⟩)
 ·obtain⟨z,G,v⟩:=Ds (TB:=TB) b hb (p+1+1) (by omega) [64,-1,1,63] (by decide) (by decide)
  (repeat first|refine tA rfl ?_|refine aU rfl ?_);(refine pW rfl ?_ rfl (by rfl);refine Ai [0] rfl rfl (v) ⟨rfl,by decide,by decide⟩ rfl (by simp[cX,zC,a,cN]) ?_;rintro t j m ⟨rfl,rfl,rfl⟩ _);(repeat first|refine tA rfl ?_|refine aU rfl ?_|apply Aa);refine Ak.Ay [] [] rfl rfl [(4,.o (.ptr 1 3 0 0))] [(0,Bo b (p+1+1+1)),(1,.cells 25 3 [[.d (iD (z)),.d (iD (y.st)),.arr 2 3 0 (y.es).length]]),(2,.cells 78 3 ((y.es).map Be))] [0,1,2] (rl a rfl) (by (simp[cX,zC,a,cN,Ae,eC])) ?_;(try dsimp only[cA,cB]);refine Ak.AF [1,2] [(4,.o (.ip (AL ⟨z,y.st,y.es⟩)))] ⟨⟨_,rfl,.inr (.o (.box rfl (.cons .d (.cons .d (.cons (.full rfl (by simp[d5]) (by simp)) .nil)))))⟩,trivial⟩ ?_;refine aR ⟨_,rfl,[0],Br ⟨z,y.st,y.es⟩,[(0,Bo b (p+1+1+1))],⟨by intro i hi;match i with|0=>rfl,by decide⟩,rfl,by (simp[cX,zC,a,cN]),p+1+1+1,⟨z,y.st,y.es⟩,by omega,by first|(simp;done)|(simp;omega),rfl,rfl,rfl⟩
 (repeat first|refine tA rfl ?_|refine s2 rfl λ_ e=>?_|refine aU rfl ?_|apply Aa);(refine aC rfl ?_ ?_<;>rintro⟨⟩)
 ·obtain⟨z,G,v⟩:=Ds (TB:=TB) b hb (p+1+1) (by omega) [0,17,-1,16,1] (by decide) (by decide)
  (repeat first|refine tA rfl ?_|refine aU rfl ?_);(refine pW rfl ?_ rfl (by rfl);refine Ai [0] rfl rfl (v) ⟨rfl,by decide,by decide⟩ rfl (by simp[cX,zC,a,cN]) ?_;rintro t j m ⟨rfl,rfl,rfl⟩ _);(repeat first|refine tA rfl ?_|refine aU rfl ?_|apply Aa);refine Ak.Ay [] [] rfl rfl [(4,.o (.ptr 1 3 0 0))] [(0,Bo b (p+1+1+1)),(1,.cells 25 3 [[.d (iD (y.al)),.d (iD (z)),.arr 2 3 0 (y.es).length]]),(2,.cells 78 3 ((y.es).map Be))] [0,1,2] (rl a rfl) (by (simp[cX,zC,a,cN,Ae,eC])) ?_;(try dsimp only[cA,cB]);refine Ak.AF [1,2] [(4,.o (.ip (AL ⟨y.al,z,y.es⟩)))] ⟨⟨_,rfl,.inr (.o (.box rfl (.cons .d (.cons .d (.cons (.full rfl (by simp[d5]) (by simp)) .nil)))))⟩,trivial⟩ ?_;refine aR ⟨_,rfl,[0],Br ⟨y.al,z,y.es⟩,[(0,Bo b (p+1+1+1))],⟨by intro i hi;match i with|0=>rfl,by decide⟩,rfl,by (simp[cX,zC,a,cN]),p+1+1+1,⟨y.al,z,y.es⟩,by omega,by first|(simp;done)|(simp;omega),rfl,rfl,rfl⟩
 (repeat first|refine tA rfl ?_|refine s2 rfl λ_ e=>?_|refine aU rfl ?_|apply Aa);(refine aC rfl ?_ ?_<;>rintro⟨⟩)
 ·by_cases v:y.es.length=0
  ·(repeat' first|refine tA rfl ?_|refine s2 rfl λ_ e=>?_|refine aU rfl ?_|apply Aa|(refine aC rfl ?_ ?_<;>rintro⟨⟩));all_goals try contradiction
   all_goals first
    | (exfalso;(simp only[oZ] at *;omega);done)
    | (apply aK;(repeat first|refine tA rfl ?_|refine aU rfl ?_|apply Aa);refine Ak.Ay [] [] rfl rfl [(4,.o (.ptr 1 3 0 0))] [(0,Bo b (p+1+1)),(1,.cells 25 3 [[.d (iD (y.al)),.d (iD (y.st)),.arr 2 3 0 (y.es).length]]),(2,.cells 78 3 ((y.es).map Be))] [0,1,2] (rl a rfl) (by (simp[cX,zC,a,cN,Ae,eC])) ?_;(try dsimp only[cA,cB]);refine Ak.AF [1,2] [(4,.o (.ip (AL ⟨y.al,y.st,y.es⟩)))] ⟨⟨_,rfl,.inr (.o (.box rfl (.cons .d (.cons .d (.cons (.full rfl (by simp[d5]) (by simp)) .nil)))))⟩,trivial⟩ ?_;refine aR ⟨_,rfl,[0],Br ⟨y.al,y.st,y.es⟩,[(0,Bo b (p+1+1))],⟨by intro i hi;match i with|0=>rfl,by decide⟩,rfl,by (simp[cX,zC,a,cN]),p+1+1,⟨y.al,y.st,y.es⟩,by omega,by first|(simp;done)|(simp;omega),rfl,rfl,rfl⟩)
  obtain⟨⟨h,g,f⟩,x⟩:=get_some (l:=y.es) (k:=k.toNat) (by omega)
  have w:(y.es.map Be)[0+k.toNat]?=some (Be ⟨h,g,f⟩):=by rw[oY];simp[x]
  obtain⟨z,G,q⟩:=Ds (TB:=TB) b hb (p+1+1) (by omega) [-1,16,0,2] (by decide) (by decide)
  have n:(y.es.map Be).set (0+k.toNat) (Be ⟨z,g,f⟩)=(y.es.set k.toNat ⟨z,g,f⟩).map Be:=by rw[oY,p6]
  (repeat first|refine tA rfl ?_|refine s2 rfl λ_ e=>?_|refine aU rfl ?_|apply Aa)
  ((refine aC rfl ?_ ?_<;>rintro⟨⟩);all_goals try(exfalso;(simp only[oZ] at *;omega)))
  refine rG (KC [(1,13),(5,1008),(6,2),(7,2),(8,1)]) (by kernel_rfl) ?_;(repeat first|refine tA rfl ?_);(refine Ag rfl ?_;refine Di ?_ rfl ⟨rfl,rfl⟩;refine Ai [0] rfl rfl (q) ⟨rfl,by decide,by decide⟩ rfl (by simp[cX,zC,a,cN]) ?_;rintro t j m ⟨rfl,rfl,rfl⟩ _;refine⟨Fs 3 rfl rfl,?_⟩);(repeat first|(refine sA rfl ?_ ?_;first|exact tI|omega)|refine t4 rfl ‹_› rfl ?_|refine aU rfl ?_|apply Aa);refine Ak.Ay [] [] rfl rfl [(4,.o (.ptr 1 3 0 0))] [(0,Bo b (p+1+1+1)),(1,.cells 25 3 [[.d (iD (y.al)),.d (iD (y.st)),.arr 2 3 0 (y.es.set k.toNat ⟨z,g,f⟩).length]]),(2,.cells 78 3 ((y.es.set k.toNat ⟨z,g,f⟩).map Be))] [0,1,2] (rl a rfl) (by (simp[cX,zC,a,cN,Ae,eC,n])) ?_;(try dsimp only[cA,cB]);refine Ak.AF [1,2] [(4,.o (.ip (AL ⟨y.al,y.st,y.es.set k.toNat ⟨z,g,f⟩⟩)))] ⟨⟨_,rfl,.inr (.o (.box rfl (.cons .d (.cons .d (.cons (.full rfl (by simp[d5]) (by simp)) .nil)))))⟩,trivial⟩ ?_;refine aR ⟨_,rfl,[0],Br ⟨y.al,y.st,y.es.set k.toNat ⟨z,g,f⟩⟩,[(0,Bo b (p+1+1+1))],⟨by intro i hi;match i with|0=>rfl,by decide⟩,rfl,by (simp[cX,zC,a,cN]),p+1+1+1,⟨y.al,y.st,y.es.set k.toNat ⟨z,g,f⟩⟩,by omega,by first|(simp;done)|(simp;omega),rfl,rfl,rfl⟩
 (repeat first|refine tA rfl ?_|refine s2 rfl λ_ e=>?_|refine aU rfl ?_|apply Aa);(refine aC rfl ?_ ?_<;>rintro⟨⟩)
 ·by_cases v:y.es.length=0
  ·(repeat' first|refine tA rfl ?_|refine s2 rfl λ_ e=>?_|refine aU rfl ?_|apply Aa|(refine aC rfl ?_ ?_<;>rintro⟨⟩));all_goals try contradiction
   all_goals first
    | (exfalso;(simp only[oZ] at *;omega);done)
    | (apply aK;(repeat first|refine tA rfl ?_|refine aU rfl ?_|apply Aa);refine Ak.Ay [] [] rfl rfl [(4,.o (.ptr 1 3 0 0))] [(0,Bo b (p+1+1)),(1,.cells 25 3 [[.d (iD (y.al)),.d (iD (y.st)),.arr 2 3 0 (y.es).length]]),(2,.cells 78 3 ((y.es).map Be))] [0,1,2] (rl a rfl) (by (simp[cX,zC,a,cN,Ae,eC])) ?_;(try dsimp only[cA,cB]);refine Ak.AF [1,2] [(4,.o (.ip (AL ⟨y.al,y.st,y.es⟩)))] ⟨⟨_,rfl,.inr (.o (.box rfl (.cons .d (.cons .d (.cons (.full rfl (by simp[d5]) (by simp)) .nil)))))⟩,trivial⟩ ?_;refine aR ⟨_,rfl,[0],Br ⟨y.al,y.st,y.es⟩,[(0,Bo b (p+1+1))],⟨by intro i hi;match i with|0=>rfl,by decide⟩,rfl,by (simp[cX,zC,a,cN]),p+1+1,⟨y.al,y.st,y.es⟩,by omega,by first|(simp;done)|(simp;omega),rfl,rfl,rfl⟩)
  obtain⟨⟨h,g,f⟩,x⟩:=get_some (l:=y.es) (k:=k.toNat) (by omega)
  have w:(y.es.map Be)[0+k.toNat]?=some (Be ⟨h,g,f⟩):=by rw[oY];simp[x]
  obtain⟨z,G,q⟩:=Ds (TB:=TB) b hb (p+1+1) (by omega) [-1,16,0,3] (by decide) (by decide)
  have n:(y.es.map Be).set (0+k.toNat) (Be ⟨h,g,z⟩)=(y.es.set k.toNat ⟨h,g,z⟩).map Be:=by rw[oY,p6]
  (repeat first|refine tA rfl ?_|refine s2 rfl λ_ e=>?_|refine aU rfl ?_|apply Aa)
  ((refine aC rfl ?_ ?_<;>rintro⟨⟩);all_goals try(exfalso;(simp only[oZ] at *;omega)))
  refine rG (KC [(1,13),(5,1008),(6,2),(7,2),(8,1)]) (by kernel_rfl) ?_;(repeat first|refine tA rfl ?_);(refine Ag rfl ?_;refine Di ?_ rfl ⟨rfl,rfl⟩;refine Ai [0] rfl rfl (q) ⟨rfl,by decide,by decide⟩ rfl (by simp[cX,zC,a,cN]) ?_;rintro t j m ⟨rfl,rfl,rfl⟩ _;refine⟨Fs 3 rfl rfl,?_⟩);(repeat first|(refine sA rfl ?_ ?_;first|exact tI|omega)|refine t4 rfl ‹_› rfl ?_|refine aU rfl ?_|apply Aa);refine Ak.Ay [] [] rfl rfl [(4,.o (.ptr 1 3 0 0))] [(0,Bo b (p+1+1+1)),(1,.cells 25 3 [[.d (iD (y.al)),.d (iD (y.st)),.arr 2 3 0 (y.es.set k.toNat ⟨h,g,z⟩).length]]),(2,.cells 78 3 ((y.es.set k.toNat ⟨h,g,z⟩).map Be))] [0,1,2] (rl a rfl) (by (simp[cX,zC,a,cN,Ae,eC,n])) ?_;(try dsimp only[cA,cB]);refine Ak.AF [1,2] [(4,.o (.ip (AL ⟨y.al,y.st,y.es.set k.toNat ⟨h,g,z⟩⟩)))] ⟨⟨_,rfl,.inr (.o (.box rfl (.cons .d (.cons .d (.cons (.full rfl (by simp[d5]) (by simp)) .nil)))))⟩,trivial⟩ ?_;refine aR ⟨_,rfl,[0],Br ⟨y.al,y.st,y.es.set k.toNat ⟨h,g,z⟩⟩,[(0,Bo b (p+1+1+1))],⟨by intro i hi;match i with|0=>rfl,by decide⟩,rfl,by (simp[cX,zC,a,cN]),p+1+1+1,⟨y.al,y.st,y.es.set k.toNat ⟨h,g,z⟩⟩,by omega,by first|(simp;done)|(simp;omega),rfl,rfl,rfl⟩
 (repeat first|refine tA rfl ?_|refine s2 rfl λ_ e=>?_|refine aU rfl ?_|apply Aa);(refine aC rfl ?_ ?_<;>rintro⟨⟩)
 ·by_cases v:y.es.length=0
  ·(repeat' first|refine tA rfl ?_|refine s2 rfl λ_ e=>?_|refine aU rfl ?_|apply Aa|(refine aC rfl ?_ ?_<;>rintro⟨⟩));all_goals try contradiction
   all_goals first
    | (exfalso;(simp only[oZ] at *;omega);done)
    | (apply aK;(repeat first|refine tA rfl ?_|refine aU rfl ?_|apply Aa);refine Ak.Ay [] [] rfl rfl [(4,.o (.ptr 1 3 0 0))] [(0,Bo b (p+1+1)),(1,.cells 25 3 [[.d (iD (y.al)),.d (iD (y.st)),.arr 2 3 0 (y.es).length]]),(2,.cells 78 3 ((y.es).map Be))] [0,1,2] (rl a rfl) (by (simp[cX,zC,a,cN,Ae,eC])) ?_;(try dsimp only[cA,cB]);refine Ak.AF [1,2] [(4,.o (.ip (AL ⟨y.al,y.st,y.es⟩)))] ⟨⟨_,rfl,.inr (.o (.box rfl (.cons .d (.cons .d (.cons (.full rfl (by simp[d5]) (by simp)) .nil)))))⟩,trivial⟩ ?_;refine aR ⟨_,rfl,[0],Br ⟨y.al,y.st,y.es⟩,[(0,Bo b (p+1+1))],⟨by intro i hi;match i with|0=>rfl,by decide⟩,rfl,by (simp[cX,zC,a,cN]),p+1+1,⟨y.al,y.st,y.es⟩,by omega,by first|(simp;done)|(simp;omega),rfl,rfl,rfl⟩)
  obtain⟨⟨h,g,f⟩,x⟩:=get_some (l:=y.es) (k:=k.toNat) (by omega)
  have w:(y.es.map Be)[0+k.toNat]?=some (Be ⟨h,g,f⟩):=by rw[oY];simp[x]
  obtain⟨z,G,q⟩:=Ds (TB:=TB) b hb (p+1+1) (by omega) [-1,6,70,5,0] (by decide) (by decide)
  have n:(y.es.map Be).set (0+k.toNat) (Be ⟨h,z,f⟩)=(y.es.set k.toNat ⟨h,z,f⟩).map Be:=by rw[oY,p6]
  (repeat first|refine tA rfl ?_|refine s2 rfl λ_ e=>?_|refine aU rfl ?_|apply Aa)
  ((refine aC rfl ?_ ?_<;>rintro⟨⟩);all_goals try(exfalso;(simp only[oZ] at *;omega)))
  refine rG (KC [(1,13),(5,1008),(6,2),(7,2),(8,1)]) (by kernel_rfl) ?_;(repeat first|refine tA rfl ?_);(refine Ag rfl ?_;refine Di ?_ rfl ⟨rfl,rfl⟩;refine Ai [0] rfl rfl (q) ⟨rfl,by decide,by decide⟩ rfl (by simp[cX,zC,a,cN]) ?_;rintro t j m ⟨rfl,rfl,rfl⟩ _;refine⟨Fs 3 rfl rfl,?_⟩);(repeat first|(refine sA rfl ?_ ?_;first|exact tI|omega)|refine t4 rfl ‹_› rfl ?_|refine aU rfl ?_|apply Aa);refine Ak.Ay [] [] rfl rfl [(4,.o (.ptr 1 3 0 0))] [(0,Bo b (p+1+1+1)),(1,.cells 25 3 [[.d (iD (y.al)),.d (iD (y.st)),.arr 2 3 0 (y.es.set k.toNat ⟨h,z,f⟩).length]]),(2,.cells 78 3 ((y.es.set k.toNat ⟨h,z,f⟩).map Be))] [0,1,2] (rl a rfl) (by (simp[cX,zC,a,cN,Ae,eC,n])) ?_;(try dsimp only[cA,cB]);refine Ak.AF [1,2] [(4,.o (.ip (AL ⟨y.al,y.st,y.es.set k.toNat ⟨h,z,f⟩⟩)))] ⟨⟨_,rfl,.inr (.o (.box rfl (.cons .d (.cons .d (.cons (.full rfl (by simp[d5]) (by simp)) .nil)))))⟩,trivial⟩ ?_;refine aR ⟨_,rfl,[0],Br ⟨y.al,y.st,y.es.set k.toNat ⟨h,z,f⟩⟩,[(0,Bo b (p+1+1+1))],⟨by intro i hi;match i with|0=>rfl,by decide⟩,rfl,by (simp[cX,zC,a,cN]),p+1+1+1,⟨y.al,y.st,y.es.set k.toNat ⟨h,z,f⟩⟩,by omega,by first|(simp;done)|(simp;omega),rfl,rfl,rfl⟩
 (repeat first|refine tA rfl ?_|refine s2 rfl λ_ e=>?_|refine aU rfl ?_|apply Aa);(refine aC rfl ?_ ?_<;>rintro⟨⟩)
 ·by_cases v:y.es.length=0
  ·(repeat' first|refine tA rfl ?_|refine s2 rfl λ_ e=>?_|refine aU rfl ?_|apply Aa|(refine aC rfl ?_ ?_<;>rintro⟨⟩));all_goals try contradiction
   all_goals first
    | (exfalso;(simp only[oZ] at *;omega);done)
    | (apply aK;(repeat first|refine tA rfl ?_|refine aU rfl ?_|apply Aa);refine Ak.Ay [] [] rfl rfl [(4,.o (.ptr 1 3 0 0))] [(0,Bo b (p+1+1)),(1,.cells 25 3 [[.d (iD (y.al)),.d (iD (y.st)),.arr 2 3 0 (y.es).length]]),(2,.cells 78 3 ((y.es).map Be))] [0,1,2] (rl a rfl) (by (simp[cX,zC,a,cN,Ae,eC])) ?_;(try dsimp only[cA,cB]);refine Ak.AF [1,2] [(4,.o (.ip (AL ⟨y.al,y.st,y.es⟩)))] ⟨⟨_,rfl,.inr (.o (.box rfl (.cons .d (.cons .d (.cons (.full rfl (by simp[d5]) (by simp)) .nil)))))⟩,trivial⟩ ?_;refine aR ⟨_,rfl,[0],Br ⟨y.al,y.st,y.es⟩,[(0,Bo b (p+1+1))],⟨by intro i hi;match i with|0=>rfl,by decide⟩,rfl,by (simp[cX,zC,a,cN]),p+1+1,⟨y.al,y.st,y.es⟩,by omega,by first|(simp;done)|(simp;omega),rfl,rfl,rfl⟩)
  obtain⟨⟨h,g,f⟩,x⟩:=get_some (l:=y.es) (k:=k.toNat) (by omega)
  have w:(y.es.map Be)[0+k.toNat]?=some (Be ⟨h,g,f⟩):=by rw[oY];simp[x]
  (repeat first|refine tA rfl ?_|refine s2 rfl λ_ e=>?_|refine aU rfl ?_|apply Aa)
  ((refine aC rfl ?_ ?_<;>rintro⟨⟩);all_goals try(exfalso;(simp only[oZ] at *;omega)))
  refine rG (KC [(1,13),(3,13),(6,12),(8,1),(10,1)]) (by kernel_rfl) ?_;(repeat first|(refine sA rfl ?_ ?_;first|exact tI|omega)|refine t4 rfl ‹_› rfl ?_);(refine pW rfl ?_ rfl (by rfl);refine Au rfl rfl rfl (by first|(simp;done)|(simp;(omega))) rfl (by intro r u;simp at u;subst u;rfl) (by rfl) (am rfl) (by simp;omega) ?_);(repeat first|refine tA rfl ?_|refine aU rfl ?_|apply Aa);refine Ak.Ay [] [] rfl rfl [(4,.o (.ptr 1 3 0 0))] [(0,Bo b (p+1+1)),(1,.cells 25 3 [[.d (iD (y.al)),.d (iD (y.st)),.arr 2 3 0 (y.es++[(⟨h,g,f⟩:Eo)]).length]]),(2,.cells 78 3 ((y.es++[(⟨h,g,f⟩:Eo)]).map Be))] [0,1,4] (rl a rfl) (by (simp[cX,zC,a,cN,Ae,eC])) ?_;(try dsimp only[cA,cB]);refine Ak.AF [1,2] [(4,.o (.ip (AL ⟨y.al,y.st,y.es++[(⟨h,g,f⟩:Eo)]⟩)))] ⟨⟨_,rfl,.inr (.o (.box rfl (.cons .d (.cons .d (.cons (.full rfl (by simp[d5]) (by simp)) .nil)))))⟩,trivial⟩ ?_;refine aR ⟨_,rfl,[0],Br ⟨y.al,y.st,y.es++[(⟨h,g,f⟩:Eo)]⟩,[(0,Bo b (p+1+1))],⟨by intro i hi;match i with|0=>rfl,by decide⟩,rfl,by (simp[cX,zC,a,cN]),p+1+1,⟨y.al,y.st,y.es++[(⟨h,g,f⟩:Eo)]⟩,by omega,by first|(simp;done)|(simp;omega),rfl,rfl,rfl⟩
 (repeat first|refine tA rfl ?_|refine s2 rfl λ_ e=>?_|refine aU rfl ?_|apply Aa);(refine aC rfl ?_ ?_<;>rintro⟨⟩)
 ·obtain⟨F,_,_,J⟩:=Bn (TB:=TB) b hb (p+1+1) 4 (by omega)
  obtain⟨B,_,_,I⟩:=Bn (TB:=TB) b hb (p+1+1+1) 3 (by omega);obtain⟨A,_,_,H⟩:=Bn (TB:=TB) b hb (p+1+1+1+1) 4 (by omega);refine rG ⟨Gn [(1,13),(3,1008),(5,1008),(7,1008),(10,1),(12,1)],bU [0,1,2,4,6,3,5,7,8,9,10,11,12]⟩ (by kernel_rfl) ?_;(repeat first|refine tA rfl ?_);(refine Ag rfl ?_;refine Di ?_ rfl ⟨rfl,rfl⟩;refine Ai [0] rfl rfl (J) ⟨rfl,by decide,by decide⟩ rfl (by simp[cX,zC,a,cN]) ?_;rintro t j m ⟨rfl,rfl,rfl⟩ _;refine⟨Fs 3 rfl rfl,?_⟩);(refine Ag rfl ?_;refine Di ?_ rfl ⟨rfl,rfl⟩;refine Ai [0] rfl rfl (I) ⟨rfl,by decide,by decide⟩ rfl (by simp[cX,zC,a,cN]) ?_;rintro t j m ⟨rfl,rfl,rfl⟩ _;refine⟨Fs 3 rfl rfl,?_⟩);(refine Ag rfl ?_;refine Di ?_ rfl ⟨rfl,rfl⟩;refine Ai [0] rfl rfl (H) ⟨rfl,by decide,by decide⟩ rfl (by simp[cX,zC,a,cN]) ?_;rintro t j m ⟨rfl,rfl,rfl⟩ _;refine⟨Fs 3 rfl rfl,?_⟩);(repeat first|refine tA rfl ?_|(refine Ag rfl ?_;refine gA rfl ?_;first|refine gS (λ_ _=>AG rfl rfl (by rfl) (by rfl)) ?_));(refine pW rfl ?_ rfl (by rfl);refine Au rfl rfl rfl (by first|(simp;done)|(simp;(omega))) rfl (by intro r u;simp at u;subst u;rfl) (by rfl) (am rfl) (by simp;omega) ?_);(repeat first|refine tA rfl ?_|refine aU rfl ?_|apply Aa);refine Ak.Ay [] [] rfl rfl [(4,.o (.ptr 1 3 0 0))] [(0,Bo b (p+1+1+1+1+1)),(1,.cells 25 3 [[.d (iD (y.al)),.d (iD (y.st)),.arr 2 3 0 (y.es++[(⟨F,B,A⟩:Eo)]).length]]),(2,.cells 78 3 ((y.es++[(⟨F,B,A⟩:Eo)]).map Be))] [0,1,4] (rl a rfl) (by (simp[cX,zC,a,cN,Ae,eC])) ?_;(try dsimp only[cA,cB]);refine Ak.AF [1,2] [(4,.o (.ip (AL ⟨y.al,y.st,y.es++[(⟨F,B,A⟩:Eo)]⟩)))] ⟨⟨_,rfl,.inr (.o (.box rfl (.cons .d (.cons .d (.cons (.full rfl (by simp[d5]) (by simp)) .nil)))))⟩,trivial⟩ ?_;refine aR ⟨_,rfl,[0],Br ⟨y.al,y.st,y.es++[(⟨F,B,A⟩:Eo)]⟩,[(0,Bo b (p+1+1+1+1+1))],⟨by intro i hi;match i with|0=>rfl,by decide⟩,rfl,by (simp[cX,zC,a,cN]),p+1+1+1+1+1,⟨y.al,y.st,y.es++[(⟨F,B,A⟩:Eo)]⟩,by omega,by first|(simp;done)|(simp;omega),rfl,rfl,rfl⟩
 apply aK;(repeat first|refine tA rfl ?_|refine aU rfl ?_|apply Aa);refine Ak.Ay [] [] rfl rfl [(4,.o (.ptr 1 3 0 0))] [(0,Bo b (p+1+1)),(1,.cells 25 3 [[.d (iD (y.al)),.d (iD (y.st)),.arr 2 3 0 (y.es).length]]),(2,.cells 78 3 ((y.es).map Be))] [0,1,2] (rl a rfl) (by (simp[cX,zC,a,cN,Ae,eC])) ?_;(try dsimp only[cA,cB]);refine Ak.AF [1,2] [(4,.o (.ip (AL ⟨y.al,y.st,y.es⟩)))] ⟨⟨_,rfl,.inr (.o (.box rfl (.cons .d (.cons .d (.cons (.full rfl (by simp[d5]) (by simp)) .nil)))))⟩,trivial⟩ ?_;refine aR ⟨_,rfl,[0],Br ⟨y.al,y.st,y.es⟩,[(0,Bo b (p+1+1))],⟨by intro i hi;match i with|0=>rfl,by decide⟩,rfl,by (simp[cX,zC,a,cN]),p+1+1,⟨y.al,y.st,y.es⟩,by omega,by first|(simp;done)|(simp;omega),rfl,rfl,rfl⟩
theorem SH{n:Nat}:List.replicate n (AD 0)=(NB n λ_=>0).map AD:=by
 apply pY;intro i;by_cases h:i<n
 ·simp[h]
 ·rw[o4 (by simp;omega),o4 (by simp;omega)]
theorem XZ{n:Nat}:(List.replicate n (AD 0)).set 0 (AD 1)=(NB n I8).map AD:=by
 rw[SH];have:=TN (n:=n) (x:=0) (v:=1) (G:=λ_=>0)
 have e:X9 (λ_=>0) 0 1=I8:=by funext p;rfl
 rw[e]at this;exact this
theorem Xz{t:CP}(ht:Bc t=true):Pure Tryz.prog TB 190 [QZ t] (Al (NB t.q.nx.length (CA t))):=by
 have g:=AJ (CG ht);have c:=PR (TB:=TB) ht (MU ht);rw[show Td t I8=CA t from rfl]at c;have b:=XZ (n:=t.q.nx.length)
 have f:(List.replicate t.q.nx.length (AD 0))[0+(0:Int).toNat]?=some (AD 0):=by rw[List.getElem?_replicate,if_pos];simp;omega
 refine eG Tryz.func190 rfl (by kernel_rfl) rfl ?_;intro Γ a;(repeat first|refine sN rfl ?_|refine tA rfl ?_|refine aU rfl ?_|apply Aa);(refine pW rfl ?_ rfl (by rfl);refine Lh rfl rfl (by rfl) (by rfl) (am rfl) (by omega) (by omega) (by omega) ?_);(repeat first|(refine sA rfl ?_ ?_;first|exact tI|omega)|refine t4 rfl ‹_› rfl ?_|refine aU rfl ?_|apply Aa);(refine pW rfl ?_ rfl (by rfl);refine Ai [0] rfl rfl (c) ⟨rfl,by decide,by decide⟩ rfl (by simp[cX,zC,a,b]) ?_;rintro h d e ⟨rfl,rfl,rfl⟩ _);(repeat first|refine tA rfl ?_);apply Aa;refine Ak.Ay [] [] rfl rfl [(2,.o (.arr 0 1 0 t.q.nx.length))] [(0,.cells 3 1 ((NB t.q.nx.length (CA t)).map AD))] [0] (rl a rfl) (by (simp[cX,zC,a,b])) ?_;(try dsimp only[cA,cB]);refine Ak.settle [(2,Al (NB t.q.nx.length (CA t)))] ⟨⟨_,rfl,.o (.full rfl (by simp[d5]) (by simp))⟩,trivial⟩ ?_;refine aR ⟨_,rfl,rfl⟩
theorem dm{t:CP}(ht:Bc t=true){F:PS}:Pure Tryz.prog TB 191 [QZ t,Al (NB t.q.nx.length F)] (eB (Fy t F)):=by
 have p:=AJ (CG ht)
 have n:(NB t.q.nx.length F).length=t.q.nx.length:=by simp
 have d:Fy t F=HQ t F t.q.nx.length:=rfl;refine eG Tryz.func191 rfl (by kernel_rfl) rfl ?_;intro Γ a;(repeat first|refine tA rfl ?_|refine aU rfl ?_|apply Aa);apply aB;refine aL (α:={k:Nat // k<=t.q.nx.length/\HQ t F k=false}) [1,2] [] rfl rfl (λ⟨k,hk,hb⟩=>[(5,eI .i64 k)]) (λ⟨k,hk,hb⟩=>[]) 0 (λ⟨k,hk,hb⟩=>t.q.nx.length-k) (⟨0,by omega,rfl⟩) a rfl (by (simp[cX,zC,a])) ?_;rintro⟨k,hk,hb⟩;(try dsimp only[cA,cB]);by_cases h:k<t.q.nx.length
 ·have s:((NB t.q.nx.length F).map Bs)[((k:Nat):Int).toNat]?=some (Bs (F k:Int)):=by rw[i7];simp[h]
  obtain⟨b,f⟩:=get_some (l:=t.q.ac) (k:=((k:Nat):Int).toNat) (by omega);have o:=get_map (g:=Jj) f
  have i:t.q.ac.getD k false=b:=by rw[i7]at f;simp[List.getD,f]
  have j:=KN (t:=t) (F:=F) (k:=k);rw[i,hb]at j;(repeat first|refine sN rfl ?_|refine tA rfl ?_|refine s2 rfl λ_ c=>?_|refine aU rfl ?_|apply Aa)
  ((refine aC rfl ?_ ?_<;>rintro⟨⟩);all_goals try(exfalso;(simp only[oZ] at *;omega)))
  apply aK;refine aS (aB ?_)
  (repeat' first|refine tA rfl ?_|(refine s4 rfl ‹_› rfl ?_ ?_;omega)|refine s2 rfl λ_ c=>?_|refine s3 rfl ?_ ?_<;>rintro rfl|refine aU rfl ?_|apply Aa|(refine aC rfl ?_ ?_<;>rintro⟨⟩));all_goals try contradiction
  ·have m:Fy t F=true:=by
    have u:=of_decide_eq_true ‹decide ((F k:Int)≠0)=true›
    have r:F k≠0:=by omega
    rw[d];unfold HQ;exact qL.2 ⟨k,o5.2 h,by rw[i,c];simp[r]⟩
   rw[m];(subst_vars;exact aR ⟨_,rfl,rfl⟩)
  ·have e:HQ t F (k+1)=false:=by rw[j];simp_all
   apply aK;(repeat first|(refine sA rfl ?_ ?_;first|exact tI|omega)|refine aU rfl ?_|apply Aa);refine⟨⟨k+1,by omega,e⟩,by dsimp only;(omega),[],?_⟩;simp[cX,zC,a]
  ·have e:HQ t F (k+1)=false:=by rw[j];simp at c;simp;omega
   apply aK;(repeat first|(refine sA rfl ?_ ?_;first|exact tI|omega)|refine aU rfl ?_|apply Aa);refine⟨⟨k+1,by omega,e⟩,by dsimp only;(omega),[],?_⟩;simp[cX,zC,a]
 ·obtain rfl:k=t.q.nx.length:=by omega
  rw[d,hb];(repeat first|refine sN rfl ?_|refine tA rfl ?_|refine s2 rfl λ_ c=>?_|refine aU rfl ?_|apply Aa)
  ((refine aC rfl ?_ ?_<;>rintro⟨⟩);all_goals try(exfalso;(simp only[oZ] at *;omega)))
  apply aE;(repeat first|refine tA rfl ?_|refine aU rfl ?_|apply Aa);(subst_vars;exact aR ⟨_,rfl,rfl⟩)
theorem ZV(a b:List Int):Pure Tryz.prog TB 74 [Al a,Al b] (eB (decide (a=b))):=by
  refine eN Tryz.func74 rfl (by kernel_rfl) rfl ?_;intro Γ c;refine Ak.bound 0 rfl λj=>?_;have j:=j (a.map Bs) .refl;rw[gt]at j;(repeat first|refine sN rfl ?_|refine tA rfl ?_|refine s2 rfl λ_ d=>?_|refine aU rfl ?_|apply Aa);(refine aC rfl ?_ ?_<;>rintro⟨⟩)
  · (repeat first|refine tA rfl ?_|refine aU rfl ?_|apply Aa)
    refine aR ⟨_,rfl,?_⟩
    have r:a≠b:=λh=>by subst h;(simp only[oZ] at *;omega)
    show E.o _=E.o _;congr;grind
  apply aK
  have s:a.length=b.length:=by (simp only[oZ] at *;omega)
  (repeat first|refine tA rfl ?_|refine aU rfl ?_|apply Aa);apply aB;refine Ak.A5 (α:={k:Nat // k<=a.length/\a.take k=b.take k}) (λ⟨k,hk,e⟩=>[(0,Al a),(1,Al b),(5,eI .i64 k)]) (λ⟨k,hk,e⟩=>[]) 0 (λ⟨k,hk,e⟩=>a.length-k) (⟨0,by omega,by simp⟩) [] (En c rfl rfl) (by (simp[cX,zC,c])) ?_;rintro⟨k,hk,e⟩;(try dsimp only);(repeat first|refine sN rfl ?_|refine tA rfl ?_|refine s2 rfl λ_ d=>?_|refine aU rfl ?_|apply Aa)
  ((refine aC rfl ?_ ?_<;>rintro⟨⟩);all_goals try (simp at d;done))
  · have f:k<a.length:=by (simp only[oZ] at *;omega)
    obtain⟨x,n⟩:=get_some (l:=a) (k:=k) f;obtain⟨y,m⟩:=get_some (l:=b) (k:=k) (by omega);have q:=get_map (g:=Bs) n;have p:=get_map (g:=Bs) m;apply aK;refine aS (aB ?_);(repeat first|refine aU rfl ?_);refine rG (Hm []) (by kernel_rfl) ?_;(repeat first|refine tA rfl ?_|(refine s4 rfl ‹_› rfl ?_ ?_;omega)|refine s2 rfl λ_ d=>?_|apply Aa);(refine aC rfl ?_ ?_<;>rintro⟨⟩)
    all_goals first
      | ((repeat first|refine tA rfl ?_|refine aU rfl ?_|apply Aa)
         refine aR ⟨_,rfl,?_⟩
         show E.o _=E.o _;congr;grind
         done)
      | (apply aK
         (repeat first|(refine sA rfl ?_ ?_;first|exact tI|omega)|refine aU rfl ?_|apply Aa);refine⟨⟨k+1,by omega,by rw[d8,d8,n,m];grind⟩,by dsimp only;(omega),[],?_⟩
         simp[cX,zC,c])
  · apply aE
    (repeat first|refine tA rfl ?_|refine aU rfl ?_|apply Aa);refine aR ⟨_,rfl,?_⟩
    have i:a.length<=k:=by (simp only[oZ] at *;omega)
    rw[ge i,ge (by omega)]at e
    show E.o _=E.o _;congr;grind
theorem WS(a b:List Bool):Pure Tryz.prog TB 73 [Py a,Py b] (eB (decide (a=b))):=by
  refine eN Tryz.func73 rfl (by kernel_rfl) rfl ?_;intro Γ c;refine Ak.bound 0 rfl λj=>?_;have j:=j (a.map Jj) .refl;rw[gt]at j;(repeat first|refine sN rfl ?_|refine tA rfl ?_|refine s2 rfl λ_ d=>?_|refine aU rfl ?_|apply Aa);(refine aC rfl ?_ ?_<;>rintro⟨⟩)
  · (repeat first|refine tA rfl ?_|refine aU rfl ?_|apply Aa)
    refine aR ⟨_,rfl,?_⟩
    have r:a≠b:=λh=>by subst h;(simp only[oZ] at *;omega)
    show E.o _=E.o _;congr;grind
  apply aK
  have s:a.length=b.length:=by (simp only[oZ] at *;omega)
  (repeat first|refine tA rfl ?_|refine aU rfl ?_|apply Aa);apply aB;refine Ak.A5 (α:={k:Nat // k<=a.length/\a.take k=b.take k}) (λ⟨k,hk,e⟩=>[(0,Py a),(1,Py b),(5,eI .i64 k)]) (λ⟨k,hk,e⟩=>[]) 0 (λ⟨k,hk,e⟩=>a.length-k) (⟨0,by omega,by simp⟩) [] (En c rfl rfl) (by (simp[cX,zC,c])) ?_;rintro⟨k,hk,e⟩;(try dsimp only);(repeat first|refine sN rfl ?_|refine tA rfl ?_|refine s2 rfl λ_ d=>?_|refine aU rfl ?_|apply Aa)
  ((refine aC rfl ?_ ?_<;>rintro⟨⟩);all_goals try (simp at d;done))
  · have f:k<a.length:=by (simp only[oZ] at *;omega)
    obtain⟨x,n⟩:=get_some (l:=a) (k:=k) f;obtain⟨y,m⟩:=get_some (l:=b) (k:=k) (by omega);have q:=get_map (g:=Jj) n;have p:=get_map (g:=Jj) m;apply aK;refine aS (aB ?_);(repeat first|refine aU rfl ?_);refine rG (Hm []) (by kernel_rfl) ?_;(repeat first|refine tA rfl ?_|(refine s4 rfl ‹_› rfl ?_ ?_;omega)|refine s2 rfl λ_ d=>?_|apply Aa);(refine aC rfl ?_ ?_<;>rintro⟨⟩)
    all_goals first
      | ((repeat first|refine tA rfl ?_|refine aU rfl ?_|apply Aa)
         refine aR ⟨_,rfl,?_⟩
         show E.o _=E.o _;congr;grind
         done)
      | (apply aK
         (repeat first|(refine sA rfl ?_ ?_;first|exact tI|omega)|refine aU rfl ?_|apply Aa);refine⟨⟨k+1,by omega,by rw[d8,d8,n,m];grind⟩,by dsimp only;(omega),[],?_⟩
         simp[cX,zC,c])
  · apply aE
    (repeat first|refine tA rfl ?_|refine aU rfl ?_|apply Aa);refine aR ⟨_,rfl,?_⟩
    have i:a.length<=k:=by (simp only[oZ] at *;omega)
    rw[ge i,ge (by omega)]at e
    show E.o _=E.o _;congr;grind
end Go.Am
