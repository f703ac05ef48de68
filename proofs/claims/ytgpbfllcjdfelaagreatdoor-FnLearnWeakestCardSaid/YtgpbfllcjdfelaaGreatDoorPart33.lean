/-
  Small systems drawn; properties: walked.
-/
import Derived.Test.YtgpbfllcjdfelaaGreatDoorPart31
set_option linter.all false
namespace Go.Am
open Go Go.Proofs
set_option maxHeartbeats 1000000
set_option maxRecDepth 4000
attribute [local irreducible] AO BS Lex A4 Au Spec
variable {TB:Bi}
def mf(m:Int)(s:Sys):Prop:=(∀e∈s.es,0<=e.t/\e.t < m)/\s.es.length<=400
theorem lq.le{n m:Int}{s:Sys}(h:lq n s)(b:n<=m):mf m s:=⟨λe a=>by have:=h.2.1 e a;omega,h.2.2⟩
theorem Nb(b:List UInt8)(hb:b.length<=2000)(p:Int)(x:0<=p/\p < 800000000):Spec Tryz.prog TB 253 [(0,Bo b p)] 1 [.o (.ptr 0 2 0 0)] (LO b p 403 (mf 5)):=by
 obtain⟨j,v,r⟩:=CA (TB:=TB) b hb p (by omega) [3,6,7,5,2] (by decide) (by decide);obtain⟨g,l,n⟩:=CA (TB:=TB) b hb (p+1) (by omega) [2,3,1,3] (by decide) (by decide);obtain⟨h,u,m⟩:=CA (TB:=TB) b hb (p+1+1) (by omega) [2,3,4] (by decide) (by decide)
 have k:1<=g/\g<=3:=by simp at l;omega
 have f:=HQ (TB:=TB) b hb (p+1+1+1) (by omega) j g h (by omega);refine eR Tryz.func253 rfl (by kernel_rfl) rfl ?_;intro Γ a;(repeat first|refine tA rfl ?_ |refine aU rfl ?_ |refine Aa ?_);(refine pW rfl ?_ rfl (by rfl);refine Ag [0] rfl rfl (r) ⟨rfl,by decide,by decide⟩ rfl (by simp[cX,zC,a]) ?_;rintro e c d ⟨rfl,rfl,rfl⟩ _);(repeat first|refine tA rfl ?_);(refine pW rfl ?_ rfl (by rfl);refine Ag [0] rfl rfl (n) ⟨rfl,by decide,by decide⟩ rfl (by simp[cX,zC,a]) ?_;rintro e c d ⟨rfl,rfl,rfl⟩ _);(repeat first|refine tA rfl ?_);(refine pW rfl ?_ rfl (by rfl);refine Ag [0] rfl rfl (m) ⟨rfl,by decide,by decide⟩ rfl (by simp[cX,zC,a]) ?_;rintro e c d ⟨rfl,rfl,rfl⟩ _);(refine pW rfl ?_ rfl (by rfl);refine BJ [0] rfl rfl 1 (f) (by decide) ⟨rfl,by decide,by decide⟩ rfl (by simp[cX,zC,a,cN]) ?_;rintro e c d ⟨q,s,w,t,rfl,rfl,rfl⟩ _);(repeat first|refine tA rfl ?_ |refine Aa ?_);refine aR ⟨_,rfl,[0],Dv s,[(0,Bo b q)],⟨by intro i hi;match i with|0=>rfl,by decide⟩,rfl,by (simp[cX,zC,a,cN]),q,s,by omega,t.le (by omega),rfl,rfl,rfl⟩
theorem Pn(b:List UInt8)(hb:b.length<=2000)(p:Int)(j:0<=p/\p < 800000000):∃n:Int,Spec Tryz.prog TB 238 [(0,Bo b p)] 1 [.o (.ptr 0 2 0 0)] (λx σ nx=>x=eI .i64 n/\σ=[(0,Bo b (p+1))]/\nx=1):=by
 obtain⟨e,h,f⟩:=CA (TB:=TB) b hb p (by omega) [3,7,1,5,0,6,63,2,21] (by decide) (by decide);refine⟨e,?_⟩;refine eR Tryz.func238 rfl (by kernel_rfl) rfl ?_;intro Γ a;(repeat first|refine tA rfl ?_ |refine aU rfl ?_ |refine Aa ?_);(refine pW rfl ?_ rfl (by rfl);refine Ag [0] rfl rfl (f) ⟨rfl,by decide,by decide⟩ rfl (by simp[cX,zC,a]) ?_;rintro g c d ⟨rfl,rfl,rfl⟩ _);(repeat first|refine tA rfl ?_ |refine Aa ?_);refine aR ⟨_,rfl,?_⟩;refine⟨[0],_,[(0,Bo b (p+1))],⟨by first|(simp;done)|decide|(intro i hi;match i with|0=>rfl),by decide⟩,rfl,by (simp[cX,zC,a]),rfl,rfl,rfl⟩
theorem OA(b:List UInt8)(hb:b.length<=2000)(p:Int)(P:0<=p/\p < 700000000)(al:Int):Spec Tryz.prog TB 255 [(0,Bo b p)] 1 [.o (.ptr 0 2 0 0),eI .i64 al] (Mr b p 100 (λa=>Ok 6 a)):=by
 obtain⟨v,N,I⟩:=CA (TB:=TB) b hb p (by omega) [63,63,5,3,6] (by decide) (by decide);obtain⟨c,R,Q,hp⟩:=Bz (TB:=TB) b hb (p+1) 8 (by omega);obtain⟨H,J⟩:=Pn (TB:=TB) b hb (p+1+1) (by omega);refine eR Tryz.func255 rfl (by kernel_rfl) rfl ?_;intro Γ e;(repeat first|refine tA rfl ?_ |refine aU rfl ?_ |refine Aa ?_);(refine pW rfl ?_ rfl (by rfl);refine Ag [0] rfl rfl (I) ⟨rfl,by decide,by decide⟩ rfl (by simp[cX,zC,e]) ?_;rintro h f g ⟨rfl,rfl,rfl⟩ _);(repeat first|refine tA rfl ?_ |refine aU rfl ?_ |refine Aa ?_);(refine pW rfl ?_ rfl (by rfl);refine Ag [0] rfl rfl (hp) ⟨rfl,by decide,by decide⟩ rfl (by simp[cX,zC,e]) ?_;rintro h f g ⟨rfl,rfl,rfl⟩ _);(repeat first|refine s2 rfl λ_ u=>?_ |refine Aa ?_);(refine aC rfl ?_ ?_<;>rintro⟨⟩)
 ·(repeat first|refine tA rfl ?_ |refine aU rfl ?_)
  (refine pW rfl ?_ rfl (by rfl);refine Ag [0] rfl rfl (J) ⟨rfl,by decide,by decide⟩ rfl (by simp[cX,zC,e]) ?_;rintro h f g ⟨rfl,rfl,rfl⟩ _);(repeat first|refine tA rfl ?_ |refine aU rfl ?_ |refine Aa ?_);obtain⟨M,L,K,m⟩:=Bz (TB:=TB) b hb (p+1+1+1) 4 (by omega);obtain⟨k,x,y⟩:=CA (TB:=TB) b hb (p+1+1+1+1) (by omega) [3,2,4,1] (by decide) (by decide)
  have w:1<=k/\k<=4:=by simp at x;omega
  have G:=KB (TB:=TB) b hb (p+1+1+1+1+1) (by omega) (H) k (by omega);have F:=Pt (TB:=TB) b hb (p+1+1+1+1) (by omega) (H)
  obtain⟨j,rfl⟩:∃j,j=H:=⟨_,rfl⟩
  (refine pW rfl ?_ rfl (by rfl);refine Ag [0] rfl rfl (m) ⟨rfl,by decide,by decide⟩ rfl (by simp[cX,zC,e]) ?_;rintro h f g ⟨rfl,rfl,rfl⟩ _);(repeat first|refine s2 rfl λ_ u=>?_ |refine Aa ?_);(refine aC rfl ?_ ?_<;>rintro⟨⟩)
  ·(repeat first|refine tA rfl ?_ |refine aU rfl ?_)
   (refine pW rfl ?_ rfl (by rfl);refine Ag [0] rfl rfl (y) ⟨rfl,by decide,by decide⟩ rfl (by simp[cX,zC,e]) ?_;rintro h f g ⟨rfl,rfl,rfl⟩ _);(refine pW rfl ?_ rfl (by rfl);refine BJ [0] rfl rfl 1 (G) (by decide) ⟨rfl,by decide,by decide⟩ rfl (by simp[cX,zC,e,cN]) ?_;rintro h f g ⟨q,l,ac,A,B,n,z,rfl,rfl,rfl⟩ _);(repeat first|refine tA rfl ?_ |refine Aa ?_);refine Au.AL [4] [] rfl rfl [] [(0,Bo b q),(1,.cells 29 3 [[.d (iD j),.arr 2 1 0 l.length,.arr 3 1 0 ac.length]]),(2,.cells 53 1 (AR l)),(3,.cells 4 1 (ac.map AP)),(4,.sld 3 (sI l))] [0,1,2,3,4] (rl e rfl) (by (simp[cX,zC,e,cN])) ?_;(try dsimp only[cA,cB]);refine Au.AM [1,2,3,4] [(4,.o (.ip (BO ⟨j,l.map (·.2),ac⟩)))] ⟨⟨_,rfl,.inr (.o (.box rfl (.cons .d (.cons (.UI (s:=4) rfl rfl) (.cons (.full rfl (by simp [d4]) (by simp)) .nil)))))⟩,trivial⟩ ?_;refine aR ⟨_,rfl,[0],Bm ⟨j,l.map (·.2),ac⟩,[(0,Bo b q)],⟨by intro i hi;match i with|0=>rfl,by decide⟩,rfl,by (simp[cX,zC,e,cN]),q,_,by omega,QU B n z (by omega) (by omega),rfl,rfl,rfl⟩
  ·refine aK ?_
   (repeat first|refine tA rfl ?_ |refine aU rfl ?_);(refine pW rfl ?_ rfl (by rfl);refine Ag [0] rfl rfl (F) ⟨rfl,by decide,by decide⟩ rfl (by simp[cX,zC,e,cN]) ?_;rintro h f g ⟨q,t,A,r,rfl,rfl,rfl⟩ _);(repeat first|refine tA rfl ?_ |refine Aa ?_);refine aR ⟨_,rfl,[0],Bm t,[(0,Bo b q)],⟨by intro i hi;match i with|0=>rfl,by decide⟩,rfl,by (simp[cX,zC,e,cN]),q,t,by omega,r.2,rfl,rfl,rfl⟩
 ·refine aK ?_
  (repeat first|refine tA rfl ?_ |refine aU rfl ?_);obtain⟨M,L,K,m⟩:=Bz (TB:=TB) b hb (p+1+1) 4 (by omega);obtain⟨k,x,y⟩:=CA (TB:=TB) b hb (p+1+1+1) (by omega) [3,2,4,1] (by decide) (by decide)
  have w:1<=k/\k<=4:=by simp at x;omega
  have G:=KB (TB:=TB) b hb (p+1+1+1+1) (by omega) (E4 .i64 al v) k (by omega);have F:=Pt (TB:=TB) b hb (p+1+1+1) (by omega) (E4 .i64 al v);generalize E4 .i64 al v=j at *;(refine pW rfl ?_ rfl (by rfl);refine Ag [0] rfl rfl (m) ⟨rfl,by decide,by decide⟩ rfl (by simp[cX,zC,e]) ?_;rintro h f g ⟨rfl,rfl,rfl⟩ _);(repeat first|refine s2 rfl λ_ u=>?_ |refine Aa ?_);(refine aC rfl ?_ ?_<;>rintro⟨⟩)
  ·(repeat first|refine tA rfl ?_ |refine aU rfl ?_)
   (refine pW rfl ?_ rfl (by rfl);refine Ag [0] rfl rfl (y) ⟨rfl,by decide,by decide⟩ rfl (by simp[cX,zC,e]) ?_;rintro h f g ⟨rfl,rfl,rfl⟩ _);(refine pW rfl ?_ rfl (by rfl);refine BJ [0] rfl rfl 1 (G) (by decide) ⟨rfl,by decide,by decide⟩ rfl (by simp[cX,zC,e,cN]) ?_;rintro h f g ⟨q,l,ac,A,B,n,z,rfl,rfl,rfl⟩ _);(repeat first|refine tA rfl ?_ |refine Aa ?_);refine Au.AL [4] [] rfl rfl [] [(0,Bo b q),(1,.cells 29 3 [[.d (iD j),.arr 2 1 0 l.length,.arr 3 1 0 ac.length]]),(2,.cells 53 1 (AR l)),(3,.cells 4 1 (ac.map AP)),(4,.sld 3 (sI l))] [0,1,2,3,4] (rl e rfl) (by (simp[cX,zC,e,cN])) ?_;(try dsimp only[cA,cB]);refine Au.AM [1,2,3,4] [(4,.o (.ip (BO ⟨j,l.map (·.2),ac⟩)))] ⟨⟨_,rfl,.inr (.o (.box rfl (.cons .d (.cons (.UI (s:=4) rfl rfl) (.cons (.full rfl (by simp [d4]) (by simp)) .nil)))))⟩,trivial⟩ ?_;refine aR ⟨_,rfl,[0],Bm ⟨j,l.map (·.2),ac⟩,[(0,Bo b q)],⟨by intro i hi;match i with|0=>rfl,by decide⟩,rfl,by (simp[cX,zC,e,cN]),q,_,by omega,QU B n z (by omega) (by omega),rfl,rfl,rfl⟩
  ·refine aK ?_
   (repeat first|refine tA rfl ?_ |refine aU rfl ?_);(refine pW rfl ?_ rfl (by rfl);refine Ag [0] rfl rfl (F) ⟨rfl,by decide,by decide⟩ rfl (by simp[cX,zC,e,cN]) ?_;rintro h f g ⟨q,t,A,r,rfl,rfl,rfl⟩ _);(repeat first|refine tA rfl ?_ |refine Aa ?_);refine aR ⟨_,rfl,[0],Bm t,[(0,Bo b q)],⟨by intro i hi;match i with|0=>rfl,by decide⟩,rfl,by (simp[cX,zC,e,cN]),q,t,by omega,r.2,rfl,rfl,rfl⟩
theorem UC{es:List Ej}{l:Int}{m k:Nat}{e:Ej}(a:es[k]? = some e):BL (es.take (k+1)) l m=if e.l=l/\m.testBit e.f.toNat=true then BL (es.take k) l m ||| 2 ^ e.t.toNat else BL (es.take k) l m:=by
 unfold BL;rw [gc,a,pi];rfl
theorem Sz{s:Sys}(a:BA s=true){l:Int}{m k:Nat}:BL (s.es.take k) l m < 65536:=Ij λj b=>by
 obtain⟨e,c,_,rfl⟩:=Eu.1 b;have hb:=CX a (nE c);have d:=Ck a;unfold Dg at hb;simp only [d6,decide_eq_true_eq] at hb;omega
theorem Pr{s:Sys}(o:BA s=true)(l:Int){m:Nat}(F:m < 65536):Pure Tryz.prog TB 249 [Dv s,eI .i64 (m:Nat),eI .i64 l] (eI .i64 (BL s.es l m:Nat)):=by
 have G:=Ck o;refine eG Tryz.func249 rfl (by kernel_rfl) rfl ?_;intro Γ d;refine Au.bound 0 rfl λw=>?_;have B:=w (s.es.map Dy) ⟨2,_,rfl,.refl⟩;rw [f7] at B;(repeat first|refine tA rfl ?_ |refine aU rfl ?_ |refine Aa ?_);refine aB ?_;refine aL (U:={k:Nat // k<=s.es.length}) [1,2,3] [] rfl rfl (λ⟨k,hk⟩=>[(7,eI .i64 (BL (s.es.take k) l m:Nat)),(8,eI .i64 k)]) (λ⟨k,hk⟩=>[]) 0 (λ⟨k,hk⟩=>s.es.length - k) (⟨0,by omega⟩) d rfl (by (simp[cX,zC,d]<;>rfl)) ?_;rintro⟨k,hk⟩;(try dsimp only[cA,cB]);by_cases q:k < s.es.length
 ·obtain⟨e,u⟩:=get_some q
  have r:=get_map (g:=Dy) u
  have A:(s.es.map Dy)[((k:Nat):Int).toNat]? = some (Dy e):=by rw [f6];exact r
  have hb:=CX o (ce u);unfold Dg at hb;simp only [d6,decide_eq_true_eq] at hb;have i:=UC (l:=l) (m:=m) u;have x:=Sz o (l:=l) (m:=m) (k:=k);have j:=DA (TB:=TB) (m:Nat) e.f (by omega) (by omega);rw [RV (by omega) (by omega)] at j;have v:=aw (TB:=TB) e.t (by omega) (by omega)
  have z:2 ^ e.t.toNat < 65536:=by
   have:2 ^ e.t.toNat<=2 ^ 15:=nY (by omega) (by omega);omega
  have p:=LX (a:=BL (s.es.take k) l m) (b:=2 ^ e.t.toNat) (by omega) (by omega);generalize 2 ^ e.t.toNat=y at *;(repeat first|refine sN rfl ?_ |refine tA rfl ?_ |refine s2 rfl λ_ c=>?_ |refine aU rfl ?_ |refine Aa ?_)
  ((refine aC rfl ?_ ?_<;>rintro⟨⟩);all_goals try(exfalso;(simp only[oZ] at *;omega)))
  refine aK ?_;refine aS (aB ?_)
  (repeat' first|(refine sA rfl ?_ ?_;first|exact tI|omega) |(refine s4 rfl ‹_› rfl ?_ ?_;omega) |refine s2 rfl λ_ c=>?_ |(refine sC rfl (j) ?_;intro _ c)|refine sP rfl (v) rfl ?_ |refine s3 rfl ?_ ?_<;>rintro rfl |refine aU rfl ?_ |refine Aa ?_|(refine aC rfl ?_ ?_<;>rintro⟨⟩));all_goals try contradiction
  ·refine⟨⟨k+1,by omega⟩,by dsimp only;(omega),[],?_⟩
   have n:BL (s.es.take (k+1)) l m=BL (s.es.take k) l m ||| y:=by rw [i,if_pos ⟨by simpa using ‹decide (e.l=l)=true›,c⟩]
   simp[cX,zC,d,p,n]
  ·have n:BL (s.es.take (k+1)) l m=BL (s.es.take k) l m:=by rw [i,if_neg (by simp [c])]
   refine aK ?_;(repeat first|(refine sA rfl ?_ ?_;first|exact tI|omega) |refine aU rfl ?_ |refine Aa ?_);refine⟨⟨k+1,by omega⟩,by dsimp only;(omega),[],?_⟩;simp[cX,zC,d,n]
  ·have n:BL (s.es.take (k+1)) l m=BL (s.es.take k) l m:=by rw [i,if_neg (λh=>by simp [h.1] at c)]
   refine aK ?_;(repeat first|(refine sA rfl ?_ ?_;first|exact tI|omega) |refine aU rfl ?_ |refine Aa ?_);refine⟨⟨k+1,by omega⟩,by dsimp only;(omega),[],?_⟩;simp[cX,zC,d,n]
 ·obtain rfl:k=s.es.length:=by omega
  rw [i9];(repeat first|refine sN rfl ?_ |refine tA rfl ?_ |refine s2 rfl λ_ c=>?_ |refine aU rfl ?_ |refine Aa ?_)
  ((refine aC rfl ?_ ?_<;>rintro⟨⟩);all_goals try(exfalso;(simp only[oZ] at *;omega)))
  refine aE ?_;(repeat first|refine tA rfl ?_ |refine aU rfl ?_ |refine Aa ?_);(subst_vars;exact aR ⟨_,rfl,rfl⟩)
abbrev FJ(n:Nat)(F:PS):List Int:=(List.range n).map λp=>(F p:Int)
theorem Wx{n p:Nat}{F:PS}(h:p < n):(FJ n F)[p]? = some (F p:Int):=by simp [h]
def Cl(t:BE)(G:PS)(i k:Nat):Prop:=∀p,p < t.q.nx.length->∀l∈CM t,(p < i\/(p=i/\l∈(CM t).take k))->∀j,(BL t.s.es l (G p)).testBit j=true->(G (AW t.q p l).toNat).testBit j=true
structure RN (t:BE) (F0 F:PS) (i k:Nat) (G:PS) (b:Bool):Prop where
 ok:CE t G
 lo:∀p j,(F0 p).testBit j=true->(G p).testBit j=true
 hi:∀p j,(G p).testBit j=true->RG t F0 p j
 le:∀p,F p<=G p
 yes:b=true->LJ G < LJ F
 no:b=false->G=F/\Cl t F i k
theorem dS{F G:PS}(h:∀p,F p<=G p):LJ G<=LJ F:=by
 unfold LJ
 repeat' apply Nat.add_le_add
 all_goals exact Nat.sub_le_sub_left (h _) _
def Vl(G:PS)(x v:Nat):PS:=λp=>if p=x then v else G p
theorem RN.N5{t:BE}(ht:AZ t=true){F0 F G:PS}{i k:Nat}{b:Bool}(h:RN t F0 F i k G b)(hi:i < t.q.nx.length){l:Int}(hk:(CM t)[k]? = some l){x:Nat}(u:AW t.q i l=(x:Int))(m:G x ||| BL t.s.es l (G i)≠G x):RN t F0 F i (k+1) (Vl G x (G x ||| BL t.s.es l (G i))) true:=by
 have r:=ce hk;have d:=Hd ht r;have v:=DG (CZ ht) hi d.1 d.2.1;have c:=H0 ht (l:=l) (h.ok.lt i);unfold Dd at c;rw [if_pos d.2.2] at c
 have f:G x ||| BL t.s.es l (G i) < 65536:=by have:=pj (n:=16) (h.ok.lt x) c;omega
 have g:∀p,G p<=Vl G x (G x ||| BL t.s.es l (G i)) p:=λp=>by
  unfold Vl;split
  ·rename_i e;subst e;exact Nat.left_le_or
  ·exact io _
 refine⟨⟨λp=>?_,λp hp=>?_⟩,λp j a=>?_,λp j a=>?_,λp=>kw (h.le p) (g p),λ_=>?_,λh=>by cases h⟩
 ·unfold Vl
  split
  ·exact f
  ·exact h.ok.lt p
 ·unfold Vl
  rw [if_neg (by omega)];exact h.ok.z p hp
 ·have:=h.lo p j a
  unfold Vl;split
  ·rename_i e;subst e;rw [oP,this];rfl
  ·exact this
 ·unfold Vl at a
  split at a
  ·rename_i e
   subst e;rw [oP,nr] at a
   rcases a with a|a
   ·exact h.hi p j a
   ·obtain⟨e,o,⟨A,y⟩,w⟩:=Eu.1 a
    subst A;have:=RG.step (h.hi i _ y) o r rfl;rw [u,w] at this
    simpa using this
  ·exact h.hi p j a
 ·have B:=dS h.le
  refine mW (VT h.ok.lt (λp=>?_) g λo=>m ?_) B
  ·unfold Vl
   split
   ·exact f
   ·exact h.ok.lt p
  ·have H:=Al (CZ ht)
   have:=QX o x (by omega)
   simpa [Vl] using this
theorem RN.kz{t:BE}(ht:AZ t=true){F0 F G:PS}{i k:Nat}{b:Bool}(h:RN t F0 F i k G b){l:Int}(hk:(CM t)[k]? = some l){x:Nat}(g:AW t.q i l=(x:Int))(m:G x ||| BL t.s.es l (G i)=G x):RN t F0 F i (k+1) G b:=
 ⟨h.ok, h.lo,h.hi,h.le,h.yes,λhb=>by
  obtain⟨rfl,f⟩:=h.no hb;refine⟨rfl,λp hp l' c d j e=>?_⟩
  rcases d with a|⟨rfl,a⟩
  ·exact f p hp l' c (.inl a) j e
  ·rw [gc,hk] at a
   rcases f9.1 a with a|a
   ·exact f p hp l' c (.inr ⟨rfl,a⟩) j e
   ·simp at a
    subst a
    rw [g,f6,<-m,oP,e,Bool.or_true]⟩
theorem RN.row{t:BE}{F0 F G:PS}{i:Nat}{b:Bool}(h:RN t F0 F i (CM t).length G b):RN t F0 F (i+1) 0 G b:=
 ⟨h.ok,h.lo,h.hi,h.le,h.yes,λhb=>by
  obtain⟨rfl,e⟩:=h.no hb;refine⟨rfl,λp hp l' a c j d=>?_⟩
  rcases c with g|⟨rfl,g⟩
  ·rcases nh p i with f|f
   ·exact e p hp l' a (.inl f) j d
   ·exact e p hp l' a (.inr ⟨by omega,by rw [i9];exact a⟩) j d
  ·simp at g⟩
theorem RN.done{t:BE}(ht:AZ t=true){F0 F G:PS}(d:CE t F0)(h:RN t F0 F t.q.nx.length 0 G false):G=TL t F0:=by
 obtain⟨rfl,c⟩:=h.no rfl;exact Zz ht d h.ok.z h.lo h.hi λp l j hp a b=>c p hp l a (.inl hp) j b
theorem fq{a b:Int}(ha:Bv a=true)(hb:Bv b=true):a - E4 .i64 a b=Gd .i64 a b/\0<=E4 .i64 a b/\E4 .i64 a b<=63:=by
 have key:((List.range 64).all λx=>(List.range 64).all λy=>decide (((x:Nat):Int) - E4 .i64 (x:Nat) (y:Nat)=Gd .i64 (x:Nat) (y:Nat)/\0<=E4 .i64 (x:Nat) (y:Nat)/\E4 .i64 (x:Nat) (y:Nat)<=63))=true:=by kernel_rfl
 unfold Bv at ha hb;simp only [decide_eq_true_eq] at ha hb;have d:=gt.1 key a.toNat (jp.2 (by omega));have c:=gt.1 d b.toNat (jp.2 (by omega));rw [o7 ha.1,o7 hb.1] at c;exact of_decide_eq_true c
theorem Nc(l:List Int)(n:Int)(h:n∈l):Pure Tryz.prog TB 193 [AH l,eI .i64 n] (eI .i64 (l.idxOf n:Nat)):=by
 refine eG Tryz.func193 rfl (by kernel_rfl) rfl ?_;intro Γ c;refine Au.bound 0 rfl λm=>?_;have r:=m (l.map Br) .refl;rw [f7] at r;(repeat first |refine sN rfl ?_ |((first|refine sA rfl ?_ ?_|refine s4 rfl ‹_› rfl ?_ ?_);first|exact tI|omega|simp only[oZ] at *;omega) |refine s2 rfl λ_ a=>?_ |refine s3 rfl ?_ ?_<;>rintro rfl |refine aU rfl ?_ |refine Aa ?_);refine aB ?_;refine aL (U:={k:Nat // k<=l.length/\n∉l.take k}) [0,1] [] rfl rfl (λ⟨k,hk,b⟩=>[(5,eI .i64 k)]) (λ⟨k,hk,b⟩=>[]) 0 (λ⟨k,hk,b⟩=>l.length - k) (⟨0,by omega,by simp⟩) c rfl (by ((repeat' first|exact tI|rfl|refine And.intro ?_ ?_)<;>(simp[cX,zC,c]<;>rfl))) ?_;rintro⟨k,hk,b⟩;(try dsimp only[cA,cB]);have hk:k<=l.length:=hk;have b:n∉l.take k:=b
 have i:k < l.length:=by
  rcases nh k l.length with o|o
  ·exact o
  ·rw [lm o] at b;exact absurd h b
 obtain⟨x,d⟩:=get_some i;have q:=get_map (g:=Br) d;by_cases p:x=n
 ·subst p
  have hi:l.idxOf x=k:=by
   have e:l=l.take k++x::l.drop (k+1):=by rw [<-BF d,nJ]
   rw [e,nL,if_neg b,ou];simp;omega
  rw [hi];(repeat first |refine sN rfl ?_ |((first|refine sA rfl ?_ ?_|refine s4 rfl ‹_› rfl ?_ ?_);first|exact tI|omega|simp only[oZ] at *;omega) |refine s2 rfl λ_ a=>?_ |refine s3 rfl ?_ ?_<;>rintro rfl |refine aU rfl ?_ |refine Aa ?_)
  ((refine aC rfl ?_ ?_<;>rintro⟨⟩);all_goals try (simp at a;done))
  refine aE ?_;(repeat first |refine sN rfl ?_ |((first|refine sA rfl ?_ ?_|refine s4 rfl ‹_› rfl ?_ ?_);first|exact tI|omega|simp only[oZ] at *;omega) |refine s2 rfl λ_ a=>?_ |refine s3 rfl ?_ ?_<;>rintro rfl |refine aU rfl ?_ |refine Aa ?_);(subst_vars;exact aR ⟨_,rfl,rfl⟩)
 ·have j:¬n=x:=λe=>p e.symm
  have f:n∉l.take (k+1):=by
   rw [gc,d];simp [b,j]
  (repeat first |refine sN rfl ?_ |((first|refine sA rfl ?_ ?_|refine s4 rfl ‹_› rfl ?_ ?_);first|exact tI|omega|simp only[oZ] at *;omega) |refine s2 rfl λ_ a=>?_ |refine s3 rfl ?_ ?_<;>rintro rfl |refine aU rfl ?_ |refine Aa ?_)
  ((refine aC rfl ?_ ?_<;>rintro⟨⟩);all_goals try(exfalso;first|omega|simp only[oZ] at *;omega))
  refine aK ?_;refine aB ?_;(repeat first |refine sN rfl ?_ |((first|refine sA rfl ?_ ?_|refine s4 rfl ‹_› rfl ?_ ?_);first|exact tI|omega|simp only[oZ] at *;omega) |refine s2 rfl λ_ a=>?_ |refine s3 rfl ?_ ?_<;>rintro rfl |refine aU rfl ?_ |refine Aa ?_);refine⟨⟨k+1,by first|omega|simp only[oZ] at *;omega,f⟩,by dsimp only;(first|omega|simp only[oZ] at *;omega),[],?_⟩;simp[cX,zC,c]
theorem gd{n:Int}{nd:List Int}{x:Int}(d:nd.Nodup)(hb:∀q∈nd,0<=q/\q < n)(f:0<=x/\x < n):(My nd x).Nodup/\∀q∈My nd x,0<=q/\q < n:=by
 unfold My;split
 ·exact⟨d,hb⟩
 ·rename_i c
  refine⟨nR.2 ⟨d,by simp,λa ha b hb=>by simp at hb;subst hb;exact λe=>c (e ▸ ha)⟩,λq g=>?_⟩
  rcases f9.1 g with h|h
  ·exact hb q h
  ·simp at h;subst h;exact f
theorem Uu{a:AK}(h:Cg a):Pure Tryz.prog TB 251 [Bm a] (AH (Hj a)):=by
 have hn:=h.b.1;have Y:=h.n1;unfold Hj;generalize p:Oq (λq=>a.nx.getD q.toNat []) a.nx.length [0] 0=A;refine eG Tryz.func251 rfl (by kernel_rfl) rfl ?_;intro Γ f;(repeat first |refine sN rfl ?_ |((first|refine sX rfl ?_ ?_|refine s4 rfl ‹_› rfl ?_ ?_);first|exact tI|omega|simp only[oZ] at *;omega) |refine s2 rfl λ_ c=>?_ |refine s3 rfl ?_ ?_<;>rintro rfl |refine aU rfl ?_ |refine Aa ?_);(refine Af rfl ?_;refine Ew (λ_ _=>DJ rfl rfl rfl) rfl ?_);(repeat first |refine sN rfl ?_ |((first|refine sX rfl ?_ ?_|refine s4 rfl ‹_› rfl ?_ ?_);first|exact tI|omega|simp only[oZ] at *;omega) |refine s2 rfl λ_ c=>?_ |refine s3 rfl ?_ ?_<;>rintro rfl |refine aU rfl ?_ |refine Aa ?_);(refine pW rfl ?_ rfl (by rfl);refine A9 rfl rfl rfl rfl (by simp [eC]) (by rfl) (by rfl) (by rfl) (by rfl) ?_);(repeat first |refine sN rfl ?_ |((first|refine sA rfl ?_ ?_|refine s4 rfl ‹_› rfl ?_ ?_);first|exact tI|omega|simp only[oZ] at *;omega) |refine s2 rfl λ_ c=>?_ |refine s3 rfl ?_ ?_<;>rintro rfl |refine aU rfl ?_ |refine Aa ?_);refine aB ?_;refine aL (U:={z:List Int×Nat // Oq (λq=>a.nx.getD q.toNat []) (a.nx.length - z.2) z.1 z.2=A/\z.2<=z.1.length/\z.1.Nodup/\∀q∈z.1,0<=q/\q < ((a.nx.length:Nat):Int)}) [1] [] rfl rfl (λs=>[(3,.o (.arr 0 1 0 s.1.1.length)),(4,eI .i64 s.1.2)]) (λs=>[(0,.cells 3 1 (s.1.1.map Az))]) 1 (λs=>a.nx.length - s.1.2) (⟨⟨[0],0⟩,p,by simp,by simp,by simp;omega⟩) f rfl (by ((repeat' first|exact tI|rfl|refine And.intro ?_ ?_)<;>(simp[cX,zC,f,eC,Bb,Ae]<;>rfl))) ?_;rintro⟨⟨nd,i⟩,p,hi,H,hb⟩;(try dsimp only[cA,cB]);have p:Oq (λq=>a.nx.getD q.toNat []) (a.nx.length - i) nd i=A:=p;have hi:i<=nd.length:=hi;have H:nd.Nodup:=H;have hb:∀q∈nd,0<=q/\q < ((a.nx.length:Nat):Int):=hb;have X:nd.length<=a.nx.length:=Fk _ _ H hb;by_cases G:i < nd.length
 ·obtain⟨q,L⟩:=get_some G
  have T:=hb q (ce L)
  obtain⟨k,hk⟩:∃k,a.nx.length - i=k+1:=⟨a.nx.length - i - 1,by omega⟩
  have F:=FN h.b (q:=q.toNat) (by omega)
  have K:∀x∈(Ac a.al).map (AW a q.toNat),0<=x/\x < ((a.nx.length:Nat):Int):=λx y=>by
   obtain⟨l,hl,rfl⟩:=em.1 y;have:=Ai hl;exact BI h.b (by omega) this.1 (by omega)
  have Z:((Ac a.al).map (AW a q.toNat)).length<=6:=by rw [f7];exact AD a.al 6
  rw [hk] at p;simp only [Oq,L] at p;rw [Bd F] at p;generalize (Ac a.al).map (AW a q.toNat)=r at *;have S:=get_map (g:=DM) F
  have V:(nd.map Az)[0+((i:Nat):Int).toNat]? = some (Az q):=by rw [ms,f6];simp [L]
  generalize e:SM nd r=B at p;(repeat first |refine sN rfl ?_ |((first|refine sA rfl ?_ ?_|refine s4 rfl ‹_› rfl ?_ ?_);first|exact tI|omega|simp only[oZ] at *;omega) |refine s2 rfl λ_ c=>?_ |refine s3 rfl ?_ ?_<;>rintro rfl |refine aU rfl ?_ |refine Aa ?_)
  ((refine aC rfl ?_ ?_<;>rintro⟨⟩);all_goals try(exfalso;first|omega|simp only[oZ] at *;omega))
  refine aK ?_;refine aS (aB ?_);(repeat first |refine sN rfl ?_ |((first|refine sA rfl ?_ ?_|refine s4 rfl ‹_› rfl ?_ ?_);first|exact tI|omega|simp only[oZ] at *;omega) |refine s2 rfl λ_ c=>?_ |refine s3 rfl ?_ ?_<;>rintro rfl |refine aU rfl ?_ |refine Aa ?_);refine rG (Ha []) (by kernel_rfl) ?_;(repeat first |refine sN rfl ?_ |((first|refine sA rfl ?_ ?_|refine s4 rfl ‹_› rfl ?_ ?_);first|exact tI|omega|simp only[oZ] at *;omega) |refine s2 rfl λ_ c=>?_ |refine s3 rfl ?_ ?_<;>rintro rfl |refine aU rfl ?_ |refine Aa ?_);refine aB ?_;refine aL (U:={z:List Int×Nat // z.2<=r.length/\SM z.1 (r.drop z.2)=B/\i < z.1.length/\z.1.Nodup/\∀q∈z.1,0<=q/\q < ((a.nx.length:Nat):Int)}) [1,4,5] [] rfl rfl (λs=>[(3,.o (.arr 0 1 0 s.1.1.length)),(6,eI .i64 s.1.2)]) (λs=>[(0,.cells 3 1 (s.1.1.map Az))]) 1 (λs=>r.length - s.1.2) (⟨⟨nd,0⟩,by simp,e,G,H,hb⟩) f rfl (by ((repeat' first|exact tI|rfl|refine And.intro ?_ ?_)<;>(simp[cX,zC,f,eC,Bb,Ae]<;>rfl))) ?_;rintro⟨⟨d,j⟩,Q,e,u,m,n⟩;(try dsimp only[cA,cB]);have Q:j<=r.length:=Q;have e:SM d (r.drop j)=B:=e;have u:i < d.length:=u;have m:d.Nodup:=m;have n:∀q∈d,0<=q/\q < ((a.nx.length:Nat):Int):=n;have P:d.length<=a.nx.length:=Fk _ _ m n;by_cases M:j < r.length
  ·obtain⟨x,y⟩:=get_some M
   have R:=get_map (g:=Br) y;have J:=K x (ce y);have I:=dN (TB:=TB) d x;obtain⟨w,v⟩:=gd m n J;rw [BF y] at e;have e:SM (My d x) (r.drop (j+1))=B:=e;(repeat first |refine sN rfl ?_ |((first|refine sA rfl ?_ ?_|refine s4 rfl ‹_› rfl ?_ ?_);first|exact tI|omega|simp only[oZ] at *;omega) |refine s2 rfl λ_ c=>?_ |refine s3 rfl ?_ ?_<;>rintro rfl |refine aU rfl ?_ |refine Aa ?_)
   ((refine aC rfl ?_ ?_<;>rintro⟨⟩);all_goals try(exfalso;first|omega|simp only[oZ] at *;omega))
   refine aK ?_;refine aS (aB ?_);by_cases t:x∈d
   ·rw [decide_eq_true t] at I
    unfold My at e;rw [if_pos t] at e;(repeat first |refine sN rfl ?_ |((first|refine sA rfl ?_ ?_|refine s4 rfl ‹_› rfl ?_ ?_);first|exact tI|omega|simp only[oZ] at *;omega) |refine s2 rfl λ_ c=>?_|(refine Af rfl ?_;refine gA rfl ?_;first|refine gQ (AO.XV [(28,AH d),(32,eI .i64 x)] ⟨⟨_,rfl,.o (.full rfl (by simp [d4]) (by simp))⟩,⟨_,rfl,.Bn rfl⟩,trivial⟩ (λΓ'=>A6 rfl rfl rfl I rfl) rfl) rfl ?_) |refine s3 rfl ?_ ?_<;>rintro rfl |refine aU rfl ?_ |refine Aa ?_)
    ((refine aC rfl ?_ ?_<;>rintro⟨⟩);all_goals try (simp at c;done))
    refine aK ?_;(repeat first |refine sN rfl ?_ |((first|refine sA rfl ?_ ?_|refine s4 rfl ‹_› rfl ?_ ?_);first|exact tI|omega|simp only[oZ] at *;omega) |refine s2 rfl λ_ c=>?_ |refine s3 rfl ?_ ?_<;>rintro rfl |refine aU rfl ?_ |refine Aa ?_);refine⟨⟨⟨d,j+1⟩,by dsimp only;omega,e,u,m,n⟩,by dsimp only;(first|omega|simp only[oZ] at *;omega),[0],?_⟩;simp[cX,zC,f]
   ·rw [decide_eq_false t] at I
    unfold My at e w v;rw [if_neg t] at e w v;(repeat first |refine sN rfl ?_ |((first|refine sA rfl ?_ ?_|refine s4 rfl ‹_› rfl ?_ ?_);first|exact tI|omega|simp only[oZ] at *;omega) |refine s2 rfl λ_ c=>?_|(refine Af rfl ?_;refine gA rfl ?_;first|refine gQ (AO.XV [(28,AH d),(32,eI .i64 x)] ⟨⟨_,rfl,.o (.full rfl (by simp [d4]) (by simp))⟩,⟨_,rfl,.Bn rfl⟩,trivial⟩ (λΓ'=>A6 rfl rfl rfl I rfl) rfl) rfl ?_) |refine s3 rfl ?_ ?_<;>rintro rfl |refine aU rfl ?_ |refine Aa ?_)
    ((refine aC rfl ?_ ?_<;>rintro⟨⟩);all_goals try (simp at c;done))
    (repeat first |refine sN rfl ?_ |((first|refine sA rfl ?_ ?_|refine s4 rfl ‹_› rfl ?_ ?_);first|exact tI|omega|simp only[oZ] at *;omega) |refine s2 rfl λ_ c=>?_ |refine s3 rfl ?_ ?_<;>rintro rfl |refine aU rfl ?_ |refine Aa ?_);(refine pW rfl ?_ rfl (by rfl);refine Aj rfl rfl rfl (by first|(simp;done)|(simp;(first|omega|simp only[oZ] at *;omega))) rfl (by intro r F;simp at F;subst F;rfl) (by rfl) (co rfl) (by simp;omega) ?_);(repeat first |refine sN rfl ?_ |((first|refine sA rfl ?_ ?_|refine s4 rfl ‹_› rfl ?_ ?_);first|exact tI|omega|simp only[oZ] at *;omega) |refine s2 rfl λ_ c=>?_ |refine s3 rfl ?_ ?_<;>rintro rfl |refine aU rfl ?_ |refine Aa ?_);refine⟨⟨⟨d++[x],j+1⟩,by dsimp only;omega,e,by dsimp only;rw [nw];omega,w,v⟩,by dsimp only;(first|omega|simp only[oZ] at *;omega),[1],?_⟩;simp[cX,zC,f]
  ·obtain rfl:j=r.length:=by omega
   rw [oR] at e;have e:d=B:=e;subst e;(repeat first |refine sN rfl ?_ |((first|refine sA rfl ?_ ?_|refine s4 rfl ‹_› rfl ?_ ?_);first|exact tI|omega|simp only[oZ] at *;omega) |refine s2 rfl λ_ c=>?_ |refine s3 rfl ?_ ?_<;>rintro rfl |refine aU rfl ?_ |refine Aa ?_)
   ((refine aC rfl ?_ ?_<;>rintro⟨⟩);all_goals try(exfalso;first|omega|simp only[oZ] at *;omega))
   refine aE ?_;(repeat first |refine sN rfl ?_ |((first|refine sA rfl ?_ ?_|refine s4 rfl ‹_› rfl ?_ ?_);first|exact tI|omega|simp only[oZ] at *;omega) |refine s2 rfl λ_ c=>?_ |refine s3 rfl ?_ ?_<;>rintro rfl |refine aU rfl ?_ |refine Aa ?_);refine⟨⟨⟨d,i+1⟩,by show Oq _ (a.nx.length - (i+1)) d (i+1)=A;rw [show a.nx.length - (i+1)=k by omega];exact p,by dsimp only;omega,m,n⟩,by dsimp only;(first|omega|simp only[oZ] at *;omega),[0],?_⟩;simp[cX,zC,f]
 ·have N:nd=A:=by
   rw [<-p]
   cases a.nx.length - i with
   | zero=>rfl
   | succ k=>simp only [Oq];rw [i8 (by omega)]
  subst N;(repeat first |refine sN rfl ?_ |((first|refine sA rfl ?_ ?_|refine s4 rfl ‹_› rfl ?_ ?_);first|exact tI|omega|simp only[oZ] at *;omega) |refine s2 rfl λ_ c=>?_ |refine s3 rfl ?_ ?_<;>rintro rfl |refine aU rfl ?_ |refine Aa ?_)
  ((refine aC rfl ?_ ?_<;>rintro⟨⟩);all_goals try(exfalso;first|omega|simp only[oZ] at *;omega))
  refine aE ?_;refine Au.settle [(3,AH nd)] ⟨⟨_,rfl,.o (.full rfl (by simp [d4]) (by simp))⟩,trivial⟩ ?_;(repeat first |refine sN rfl ?_ |((first|refine sA rfl ?_ ?_|refine s4 rfl ‹_› rfl ?_ ?_);first|exact tI|omega|simp only[oZ] at *;omega) |refine s2 rfl λ_ c=>?_ |refine s3 rfl ?_ ?_<;>rintro rfl |refine aU rfl ?_ |refine Aa ?_);(subst_vars;exact aR ⟨_,rfl,rfl⟩)
def PX(a:AK)(q:Int):List Int:=(a.nx.getD q.toNat []).map λx=>(((Hj a).idxOf x:Nat):Int)
theorem XN{a:AK}(h:Cg a):Pure Tryz.prog TB 191 [Bm a] (Bm (GS a)):=by
 have S:=h.b.1;have R:=h.ac;have N:=Uu (TB:=TB) h;obtain⟨_,_,y,L,p,_⟩:=Ws h;rw [c8 h]
 show Pure _ _ _ _ (Bm ⟨a.al,(Hj a).map (PX a),(Hj a).map (ED a)⟩)
 have s:∀q∈Hj a,∃r:List Int,a.nx[q.toNat]? = some r/\r.length<=6/\PX a q=r.map (λx=>(((Hj a).idxOf x:Nat):Int))/\∀x∈r,x∈Hj a:=λq i=>by
  have w:=p q i;have f:=FN h.b (q:=q.toNat) (by omega);refine⟨_,f,by rw [f7];exact AD a.al 6,by unfold PX;rw [Bd f],λx m=>?_⟩;obtain⟨l,P,rfl⟩:=em.1 m;exact y.cl q i l P
 generalize M:Hj a=od at *;refine eG Tryz.func191 rfl (by kernel_rfl) rfl ?_;intro Γ e;(repeat first |refine sN rfl ?_ |((first|refine sA rfl ?_ ?_|refine s4 rfl ‹_› rfl ?_ ?_);first|exact tI|omega|simp only[oZ] at *;omega) |refine s2 rfl λ_ c=>?_ |refine sP rfl (N) rfl ?_ |refine s3 rfl ?_ ?_<;>rintro rfl |refine aU rfl ?_ |refine Aa ?_);(refine pW rfl ?_ rfl (by rfl);refine Fj 1 1 53 2 1 4 rfl rfl (by decide) rfl rfl (by rfl) (by rfl) ?_);(repeat first |refine sN rfl ?_ |((first|refine sA rfl ?_ ?_|refine s4 rfl ‹_› rfl ?_ ?_);first|exact tI|omega|simp only[oZ] at *;omega) |refine s2 rfl λ_ c=>?_ |refine s3 rfl ?_ ?_<;>rintro rfl |refine aU rfl ?_ |refine Aa ?_);refine aB ?_;refine aL (U:={k:Nat // k<=od.length}) [1,3] [] rfl rfl (λ⟨k,hk⟩=>[(2,.o (.ptr 0 3 0 0)),(4,.o (.ptr 3 3 0 0)),(5,eI .i64 k)]) (λ⟨k,hk⟩=>[(0,.cells 29 3 [[.d (iD 0),.d (.l []),.d (.l [])]]),(1,.cells 53 1 ((od.take k).map λq=>[.d (Da (PX a q))])),(2,.cells 4 1 ((od.take k).map λq=>AP (ED a q))),(3,.cells 29 3 [[.d (iD a.al),.arr 1 1 0 k,.arr 2 1 0 k]])]) 4 (λ⟨k,hk⟩=>od.length - k) (⟨0,by omega⟩) e rfl (by ((repeat' first|exact tI|rfl|refine And.intro ?_ ?_)<;>(simp[cX,zC,e,eC,Bb,Ae]<;>rfl))) ?_;rintro⟨k,hk⟩;(try dsimp only[cA,cB]);by_cases z:k < od.length
 ·obtain⟨q,i⟩:=get_some z
  have K:=get_map (g:=Br) i;have w:=p q (ce i);obtain⟨r,f,I,v,n⟩:=s q (ce i);have J:=get_map (g:=DM) f;obtain⟨bb,hb⟩:=get_some (l:=a.ac) (k:=q.toNat) (by omega);have Q:=get_map (g:=Gk) hb;have G:ED a q=bb:=Bd hb
  have t:od.take (k+1)=od.take k++[q]:=by rw [gc,i];rfl
  (repeat first |refine sN rfl ?_ |((first|refine sA rfl ?_ ?_|refine s4 rfl ‹_› rfl ?_ ?_);first|exact tI|omega|simp only[oZ] at *;omega) |refine s2 rfl λ_ c=>?_ |refine s3 rfl ?_ ?_<;>rintro rfl |refine aU rfl ?_ |refine Aa ?_)
  ((refine aC rfl ?_ ?_<;>rintro⟨⟩);all_goals try(exfalso;first|omega|simp only[oZ] at *;omega))
  refine aK ?_;refine aS (aB ?_);(repeat first |refine sN rfl ?_ |((first|refine sX rfl ?_ ?_|refine s4 rfl ‹_› rfl ?_ ?_);first|exact tI|omega|simp only[oZ] at *;omega) |refine s2 rfl λ_ c=>?_ |refine s3 rfl ?_ ?_<;>rintro rfl |refine aU rfl ?_ |refine Aa ?_);(refine pW rfl ?_ rfl (by rfl);refine A9 rfl rfl rfl rfl (by simp) (by rfl) (by rfl) (by rfl) (by rfl) ?_);(repeat first |refine sN rfl ?_ |((first|refine sA rfl ?_ ?_|refine s4 rfl ‹_› rfl ?_ ?_);first|exact tI|omega|simp only[oZ] at *;omega) |refine s2 rfl λ_ c=>?_ |refine s3 rfl ?_ ?_<;>rintro rfl |refine aU rfl ?_ |refine Aa ?_);refine aB ?_;refine aL (U:={j:Nat // j<=r.length}) [1,3,5] [0,1,2,3] rfl rfl (λ⟨j,B⟩=>[(2,.o (.ptr 0 3 0 0)),(4,.o (.ptr 3 3 0 0)),(6,.o (.arr 4 1 0 j)),(7,eI .i64 j)]) (λ⟨j,B⟩=>[(4,.cells 3 1 ((r.take j).map λx=>Az (od.idxOf x:Nat)))]) 5 (λ⟨j,B⟩=>r.length - j) (⟨0,by omega⟩) e rfl (by ((repeat' first|exact tI|rfl|refine And.intro ?_ ?_)<;>(simp[cX,zC,e,eC,Bb,Ae]<;>rfl))) ?_;rintro⟨j,B⟩;(try dsimp only[cA,cB]);by_cases A:j < r.length
  ·obtain⟨x,m⟩:=get_some A
   have H:=get_map (g:=Br) m;have F:=Nc (TB:=TB) od x (n x (ce m))
   have u:r.take (j+1)=r.take j++[x]:=by rw [gc,m];rfl
   (repeat first |refine sN rfl ?_ |((first|refine sA rfl ?_ ?_|refine s4 rfl ‹_› rfl ?_ ?_);first|exact tI|omega|simp only[oZ] at *;omega) |refine s2 rfl λ_ c=>?_ |refine s3 rfl ?_ ?_<;>rintro rfl |refine aU rfl ?_ |refine Aa ?_);refine rG (Ha []) (by kernel_rfl) ?_;(repeat first |refine sN rfl ?_ |((first|refine sA rfl ?_ ?_|refine s4 rfl ‹_› rfl ?_ ?_);first|exact tI|omega|simp only[oZ] at *;omega) |refine s2 rfl λ_ c=>?_ |refine s3 rfl ?_ ?_<;>rintro rfl |refine aU rfl ?_ |refine Aa ?_)
   ((refine aC rfl ?_ ?_<;>rintro⟨⟩);all_goals try(exfalso;first|omega|simp only[oZ] at *;omega))
   refine aK ?_;refine aS (aB ?_);(repeat first |refine sN rfl ?_ |((first|refine sA rfl ?_ ?_|refine s4 rfl ‹_› rfl ?_ ?_);first|exact tI|omega|simp only[oZ] at *;omega) |refine s2 rfl λ_ c=>?_ |refine s3 rfl ?_ ?_<;>rintro rfl |refine aU rfl ?_ |refine Aa ?_);refine rG (Ha [15]) (by kernel_rfl) ?_;(repeat first |refine sN rfl ?_ |((first|refine sA rfl ?_ ?_|refine s4 rfl ‹_› rfl ?_ ?_);first|exact tI|omega|simp only[oZ] at *;omega) |refine s2 rfl λ_ c=>?_ |refine sP rfl (F) rfl ?_ |refine s3 rfl ?_ ?_<;>rintro rfl |refine aU rfl ?_ |refine Aa ?_);(refine pW rfl ?_ rfl (by rfl);refine Aj rfl rfl rfl (by first|(simp;done)|(simp;(first|omega|simp only[oZ] at *;omega))) rfl (by intro r f;simp at f;subst f;rfl) (by rfl) (co rfl) (by simp;omega) ?_);(repeat first |refine sN rfl ?_ |((first|refine sA rfl ?_ ?_|refine s4 rfl ‹_› rfl ?_ ?_);first|exact tI|omega|simp only[oZ] at *;omega) |refine s2 rfl λ_ c=>?_ |refine s3 rfl ?_ ?_<;>rintro rfl |refine aU rfl ?_ |refine Aa ?_);refine⟨⟨j+1,by first|omega|simp only[oZ] at *;omega⟩,by dsimp only;(first|omega|simp only[oZ] at *;omega),[0,1,2,3,5],?_⟩;simp[cX,zC,e,u]
  ·obtain rfl:j=r.length:=by omega
   (repeat first |refine sN rfl ?_ |((first|refine sA rfl ?_ ?_|refine s4 rfl ‹_› rfl ?_ ?_);first|exact tI|omega|simp only[oZ] at *;omega) |refine s2 rfl λ_ c=>?_ |refine s3 rfl ?_ ?_<;>rintro rfl |refine aU rfl ?_ |refine Aa ?_);refine rG (Ha []) (by kernel_rfl) ?_;(repeat first |refine sN rfl ?_ |((first|refine sA rfl ?_ ?_|refine s4 rfl ‹_› rfl ?_ ?_);first|exact tI|omega|simp only[oZ] at *;omega) |refine s2 rfl λ_ c=>?_ |refine s3 rfl ?_ ?_<;>rintro rfl |refine aU rfl ?_ |refine Aa ?_)
   ((refine aC rfl ?_ ?_<;>rintro⟨⟩);all_goals try(exfalso;first|omega|simp only[oZ] at *;omega))
   refine aE ?_;refine Au.C9 [4] [1,2,3,4,5,7] rfl [(6,AH (PX a q))] ⟨⟨_,rfl,.o (.full (by simp) rfl (by rw [v,i9];simp [d4]) (by simp))⟩,trivial⟩ ?_;(try dsimp only[cA,cB]);(repeat first |refine sN rfl ?_ |((first|refine sA rfl ?_ ?_|refine s4 rfl ‹_› rfl ?_ ?_);first|exact tI|omega|simp only[oZ] at *;omega) |refine s2 rfl λ_ c=>?_ |refine s3 rfl ?_ ?_<;>rintro rfl |refine aU rfl ?_ |refine Aa ?_);(refine pW rfl ?_ rfl (by rfl);refine Aj rfl rfl rfl (by first|(simp;done)|(simp;(first|omega|simp only[oZ] at *;omega))) rfl (by intro r f;simp at f;subst f;rfl) (by rfl) (co rfl) (by simp;omega) ?_);(repeat first |refine sN rfl ?_ |((first|refine sA rfl ?_ ?_|refine s4 rfl ‹_› rfl ?_ ?_);first|exact tI|omega|simp only[oZ] at *;omega) |refine s2 rfl λ_ c=>?_ |refine s3 rfl ?_ ?_<;>rintro rfl |refine aU rfl ?_ |refine Aa ?_);refine rG (RH [(1,13),(11,1),(13,1)]) (by kernel_rfl) ?_;(repeat first |refine sN rfl ?_ |((first|refine sA rfl ?_ ?_|refine s4 rfl ‹_› rfl ?_ ?_);first|exact tI|omega|simp only[oZ] at *;omega) |refine s2 rfl λ_ c=>?_ |refine s3 rfl ?_ ?_<;>rintro rfl |refine aU rfl ?_ |refine Aa ?_);(refine pW rfl ?_ rfl (by rfl);refine Aj rfl rfl rfl (by first|(simp;done)|(simp;(first|omega|simp only[oZ] at *;omega))) rfl (by intro r f;simp at f;subst f;rfl) (by rfl) (co rfl) (by simp;omega) ?_);(repeat first |refine sN rfl ?_ |((first|refine sA rfl ?_ ?_|refine s4 rfl ‹_› rfl ?_ ?_);first|exact tI|omega|simp only[oZ] at *;omega) |refine s2 rfl λ_ c=>?_ |refine s3 rfl ?_ ?_<;>rintro rfl |refine aU rfl ?_ |refine Aa ?_);refine⟨⟨k+1,by first|omega|simp only[oZ] at *;omega⟩,by dsimp only;(first|omega|simp only[oZ] at *;omega),[0,5,6,3],?_⟩;simp[cX,zC,e,t,G,eC,Bb,Ae]
 ·obtain rfl:k=od.length:=by omega
  rw [i9];(repeat first |refine sN rfl ?_ |((first|refine sA rfl ?_ ?_|refine s4 rfl ‹_› rfl ?_ ?_);first|exact tI|omega|simp only[oZ] at *;omega) |refine s2 rfl λ_ c=>?_ |refine s3 rfl ?_ ?_<;>rintro rfl |refine aU rfl ?_ |refine Aa ?_)
  ((refine aC rfl ?_ ?_<;>rintro⟨⟩);all_goals try(exfalso;first|omega|simp only[oZ] at *;omega))
  refine aE ?_;refine Au.AM [1,2,3] [(2,.o (.ptr 0 3 0 0)),(4,.o (.ip [iD a.al,CI (od.map (PX a)),Fv (od.map (ED a))]))] ⟨⟨_,rfl,.inl rfl⟩,⟨_,rfl,.inr (.o (.box rfl (.cons .d (.cons (.full rfl (by simp [d4]) (by simp)) (.cons (.full rfl (by simp [d4]) (by simp)) .nil)))))⟩,trivial⟩ ?_;(repeat first |refine sN rfl ?_ |((first|refine sA rfl ?_ ?_|refine s4 rfl ‹_› rfl ?_ ?_);first|exact tI|omega|simp only[oZ] at *;omega) |refine s2 rfl λ_ c=>?_ |refine s3 rfl ?_ ?_<;>rintro rfl |refine aU rfl ?_ |refine Aa ?_);(subst_vars;exact aR ⟨_,rfl,rfl⟩)
abbrev kU(r:Ej×Bool):E:=.t [(true,(A7 r.1)),(false,[.d (bD r.2)])]
theorem Up(a:W)(u:a.length<=1000000):Spec Tryz.prog TB 242 [] 0 [eT a] (C7 (λ_:Ej×Bool=>True) kU):=by
 refine eR Tryz.func242 rfl (by kernel_rfl) rfl ?_;intro Γ b;(repeat first|refine tA rfl ?_ |refine aU rfl ?_ |refine Aa ?_);refine aB ?_;refine aL (U:={k:Nat // k<=a.length}) [0] [] rfl rfl (λs=>[(2,.o (.ptr 0 3 0 0)),(4,eI .i64 s.1)]) (λs=>[(0,.cells 158 3 [A7 ⟨0,0,0⟩])]) 1 (λs=>a.length - s.1) (⟨0,by omega⟩) b rfl (by (simp[cX,zC,b,cN])) ?_;rintro⟨k,hk⟩;(try dsimp only[cA,cB]);by_cases p:k < a.length
 ·obtain⟨c,r⟩:=get_some (l:=a) (k:=(k:Int).toNat) (by omega)
  have q:=c.toNat_lt;have j:=dM (TB:=TB) a k c r;(repeat first|refine tA rfl ?_ |refine s2 rfl λ_ d=>?_ |refine aU rfl ?_ |refine Aa ?_)
  ((refine aC rfl ?_ ?_<;>rintro⟨⟩);all_goals try(exfalso;(simp only[oZ] at *;omega)))
  refine aK ?_;refine aS (aB ?_)
  (repeat' first|refine tA rfl ?_ |(refine s4 rfl ‹_› rfl ?_ ?_;omega) |refine s2 rfl λ_ d=>?_ |refine s3 rfl ?_ ?_<;>rintro rfl |refine aU rfl ?_ |refine Aa ?_|(refine aC rfl ?_ ?_<;>rintro⟨⟩));all_goals try contradiction
  all_goals first| (exfalso;omega;done)|skip
  ·(repeat first| (refine Af rfl ?_;refine gA rfl ?_;first| refine gS (λ_ _=>WG rfl rfl (by omega) (by omega)) ?_))
   (refine pW rfl ?_ rfl (by rfl);refine Ag [] rfl rfl (Ip (TB:=TB) (a.take (k:Int).toNat) (by simp;omega)) ⟨rfl,by decide,by decide⟩ rfl trivial ?_;rintro n g h ⟨⟨f,t⟩,_,rfl,rfl,rfl⟩ _);(repeat first|(refine sA rfl ?_ ?_;first|exact tI|omega)|(refine Af rfl ?_;refine gA rfl ?_;first| refine gS (λ_ _=>Ee rfl rfl (by omega) (by omega)) ?_) |refine aU rfl ?_ |refine Aa ?_);(refine pW rfl ?_ rfl (by rfl);refine Ag [] rfl rfl (Ip (TB:=TB) (a.drop ((k:Int)+1).toNat) (by simp;omega)) ⟨rfl,by decide,by decide⟩ rfl trivial ?_;rintro n g h ⟨⟨e,m⟩,_,rfl,rfl,rfl⟩ _);(repeat' first|refine tA rfl ?_ |refine sP rfl (j) rfl ?_|(refine Af rfl ?_;refine gA rfl ?_;first| refine gS (λ_ _=>AF rfl rfl (by rfl) (by rfl)) ?_) |refine s3 rfl ?_ ?_<;>rintro rfl |refine aU rfl ?_ |refine Aa ?_|(refine aC rfl ?_ ?_<;>rintro⟨⟩))
   all_goals first
    | exact aR ⟨_,rfl,[],kU (⟨f,(c.toNat:Int) - 97,e⟩,m),[],⟨λi hi=>absurd hi (mt i),mV⟩,rfl,trivial,(⟨f,(c.toNat:Int) - 97,e⟩,m),trivial,rfl,rfl,rfl⟩
    | exact aR ⟨_,rfl,[],kU (⟨f,(c.toNat:Int) - 97,e⟩,false),[],⟨λi hi=>absurd hi (mt i),mV⟩,rfl,trivial,(⟨f,(c.toNat:Int) - 97,e⟩,false),trivial,rfl,rfl,rfl⟩
  all_goals
   refine aK ?_;(repeat first|(refine sA rfl ?_ ?_;first|exact tI|omega) |refine aU rfl ?_ |refine Aa ?_);refine⟨⟨k+1,by omega⟩,by dsimp only;(omega),[0],?_⟩;(simp[cX,zC,b,cN]<;>rfl)
 ·(repeat first|refine tA rfl ?_ |refine s2 rfl λ_ d=>?_ |refine aU rfl ?_ |refine Aa ?_)
  ((refine aC rfl ?_ ?_<;>rintro⟨⟩);all_goals try(exfalso;(simp only[oZ] at *;omega)))
  refine aE ?_;(repeat first|refine tA rfl ?_|(refine Af rfl ?_;refine gA rfl ?_;first| refine gS (λ_ _=>AF rfl rfl (by rfl) (by rfl)) ?_) |refine aU rfl ?_ |refine Aa ?_);exact aR ⟨_,rfl,[],kU (⟨0,0,0⟩,false),[],⟨λi hi=>absurd hi (mt i),mV⟩,rfl,trivial,(⟨0,0,0⟩,false),trivial,rfl,rfl,rfl⟩
theorem Hu(y:Sys)(hb:y.es.length<=100000):Spec Tryz.prog TB 243 [] 0 [Dv y] (C7 (λr:W=>r.length<=1000000) eT):=by
 have x:=CW (TB:=TB) y;refine eR Tryz.func243 rfl (by kernel_rfl) rfl ?_;intro Γ d;(repeat first|refine tA rfl ?_ |refine s2 rfl λ_ a=>?_ |(refine sC rfl (x) ?_;intro _ a) |refine aU rfl ?_ |refine Aa ?_);(refine aC rfl ?_ ?_<;>rintro⟨⟩)
 ·(repeat first|refine tA rfl ?_ |refine aU rfl ?_ |refine Aa ?_)
  exact aR ⟨_,rfl,[],eT [],[],⟨λi hi=>absurd hi (mt i),mV⟩,rfl,trivial,[],nK _,rfl,rfl,rfl⟩
 have h:BA y=true:=by (simp at a;subst a;assumption)
 have J:=Ck h;refine aK ?_;(repeat first|refine aU rfl ?_);refine rG ⟨Hb [(2,1),(6,1)],dr [0,1,4,5,2,3,6,7,8]⟩ (by kernel_rfl) ?_;(repeat first|refine tA rfl ?_);(refine pW rfl ?_ rfl (by rfl);refine Ag [] rfl rfl (DT (TB:=TB) y.al) ⟨rfl,by decide,by decide⟩ rfl trivial ?_;rintro j b c ⟨q,v,rfl,rfl,rfl⟩ _);(repeat first|(refine sA rfl ?_ ?_;simp only[oZ] at *;omega));(refine pW rfl ?_ rfl (by rfl);refine Ag [] rfl rfl (GK (TB:=TB) y.st (by omega)) ⟨rfl,by decide,by decide⟩ rfl trivial ?_;rintro j b c ⟨p,u,rfl,rfl,rfl⟩ _);(repeat first|(refine sA rfl ?_ ?_;first|exact tI|simp only[oZ] at *;omega) |refine aU rfl ?_ |refine Aa ?_);refine aB ?_;refine aL (U:={z:Nat×W // z.1<=y.es.length/\z.2.length<=10+9*z.1}) [1] [] rfl rfl (λs=>[(3,eT s.1.2),(4,eI .i64 s.1.1)]) (λs=>[]) 0 (λs=>y.es.length - s.1.1) (⟨⟨0,q++[32]++p⟩,by simp;omega⟩) d rfl (by (simp[cX,zC,d])) ?_;rintro⟨⟨k,w⟩,hk,hw⟩;(try dsimp only[cA,cB]);have hk:k<=y.es.length:=hk;have hw:w.length<=10+9*k:=hw;by_cases m:k < y.es.length
 ·obtain⟨e,o⟩:=get_some m
  have n:=get_map (g:=Dy) o
  have B:(y.es.map Dy)[((k:Nat):Int).toNat]? = some (Dy e):=by rw [f6];exact n
  have hb:=CX h (ce o);unfold Dg at hb;simp only [d6,decide_eq_true_eq] at hb;(repeat first|refine sN rfl ?_ |refine tA rfl ?_ |refine s2 rfl λ_ a=>?_ |refine aU rfl ?_ |refine Aa ?_)
  ((refine aC rfl ?_ ?_<;>rintro⟨⟩);all_goals try(exfalso;(simp only[oZ] at *;omega)))
  refine aK ?_;refine aS (aB ?_);(repeat first|refine tA rfl ?_ |(refine s4 rfl ‹_› rfl ?_ ?_;omega) |refine aU rfl ?_ |refine Aa ?_);refine rG ⟨Hb [(3,10),(7,10),(11,10),(4,1001),(12,1001)],dr [0,1,2,3,6,7,10,11,4,5,8,9,12,13,14]⟩ (by kernel_rfl) ?_;(repeat first|(refine sA rfl ?_ ?_;first|exact tI|simp only[oZ] at *;omega));(refine Af rfl ?_;refine DN ?_ rfl ⟨rfl,rfl⟩;refine Ag [] rfl rfl (GK (TB:=TB) e.f (by omega)) ⟨rfl,by decide,by decide⟩ rfl trivial ?_;rintro j b c ⟨I,G,rfl,rfl,rfl⟩ _;refine⟨FA 0 rfl rfl,?_⟩);(repeat first|(refine sA rfl ?_ ?_;simp only[oZ] at *;omega) |refine sP rfl (Po e.l (by omega) (by omega)) rfl ?_);(refine Af rfl ?_;refine DN ?_ rfl ⟨rfl,rfl⟩;refine Ag [] rfl rfl (GK (TB:=TB) e.t (by omega)) ⟨rfl,by decide,by decide⟩ rfl trivial ?_;rintro j b c ⟨H,F,rfl,rfl,rfl⟩ _;refine⟨FA 0 rfl rfl,?_⟩);(repeat first|(refine sA rfl ?_ ?_;first|exact tI|omega|simp only[oZ] at *;omega) |refine aU rfl ?_ |refine Aa ?_);refine⟨⟨⟨k+1,w++[32]++I++[UInt8.ofNat (97+e.l.toNat)]++H⟩,by dsimp only;omega,by simp;omega⟩,by dsimp only;(omega),[],?_⟩;(simp[cX,zC,d,cN]<;>rfl)
 ·have A:k=y.es.length:=by omega
  (repeat first|refine sN rfl ?_ |refine tA rfl ?_ |refine s2 rfl λ_ a=>?_ |refine aU rfl ?_ |refine Aa ?_)
  ((refine aC rfl ?_ ?_<;>rintro⟨⟩);all_goals try(exfalso;(simp only[oZ] at *;omega)))
  refine aE ?_;(repeat first|refine tA rfl ?_ |refine aU rfl ?_ |refine Aa ?_);exact aR ⟨_,rfl,[],eT w,[],⟨λi hi=>absurd hi (mt i),mV⟩,rfl,trivial,w,by show w.length<=_;omega,rfl,rfl,rfl⟩
end Go.Am
namespace Go.Am
set_option linter.unusedVariables false
theorem kN{a:AK}(h:Cg a):GS (GS a)=GS a:=by
 obtain⟨f,e,g,d,c⟩:=lg h.b h.n1;exact bz ⟨f,e,d⟩ (W0 h) (by rw [Oe];exact c)
theorem aJ{a b:AK}(ha:Cg a)(hb:Cg b)(hal:b.al=a.al)(d:∀w,Av (AU a.al) w->LA b w=LA a w):Df b=Df a:=by
 have c:=KF hb;have e:=canon ha c.g (by rw [c.al,hal]) (λw hw=>by rw [c.lang w (by rw [hal];exact hw),d w hw]) (by have:=c.rc;rwa [hal] at this) c.ds;rw [<-e];exact(kN (bY hb).1).symm
section
variable {U:Type}[DecidableEq U]
def LK(f:U->Int->Option U):Option U->Int->Option U
 | none,_=>none
 | some q,l=>f q l
def IF(f:U->Int->Option U):Option U->W->Option U
 | o,[]=>o
 | o,c::w=>IF f (LK f o ((c.toNat:Int) - 97)) w
theorem Ja{β:Type}[DecidableEq β]{lim:Nat}{f:β->Int->β}{q:β}{Z:List β}(k:Z.length<=lim):∀(ls:List Int) {nd:List β} {row:List Int},nd.Nodup->(∀x∈nd,x∈Z)->(∀l∈ls,f q l∈Z)->∃p,CG lim f q nd row ls=some p/\p.1.Nodup/\∀x∈p.1,x∈Z
 | [],nd,row,g,hb,_=>⟨(nd,row),rfl,g,hb⟩
 | l :: ls,nd,row,g,hb,j=>by
  simp only [CG];have d:=j l (by simp);by_cases c:f q l∈nd
  ·rw [if_pos c];exact Ja k ls g hb λm i=>j m (by simp [i])
  ·have r:=CL (l:=f q l::nd) (m:=Z) (oo.2 ⟨c,g⟩) λy n=>by
    rcases lc.1 n with rfl|h
    ·exact d
    ·exact hb y h
   simp at r;rw [if_neg c,if_neg (by omega)]
   exact Ja k ls (nR.2 ⟨g,by simp,λa ha b hb=>by simp at hb;subst hb;exact λe=>c (e ▸ ha)⟩) (λx o=>by
    rcases f9.1 o with h|h
    ·exact hb x h
    ·simp at h;subst h;exact d) λm i=>j m (by simp [i])
theorem IV{β:Type}[DecidableEq β]{lim:Nat}{f:β->Int->β}{ls:List Int}{Z:List β}(a:Z.length<=lim)(b:∀q∈Z,∀l∈ls,f q l∈Z):∀(k:Nat) {nd:List β} {rows:List (List Int)},nd.Nodup->(∀x∈nd,x∈Z)->∃p,C4 lim f ls k nd rows=some p/\∀x∈p.1,x∈Z
 | 0,nd,rows,_,hb=>⟨_,rfl,hb⟩
 | k + 1,nd,rows,d,hb=>by
  simp only [C4];split
  ·exact⟨_,rfl,hb⟩
  ·rename_i q c
   obtain⟨p,h,g,e⟩:=Ja (f:=f) (q:=q) a ls (row:=[]) d hb λl a=>b q (hb q (ce c)) l a;rw [h];exact IV a b k g e
theorem fk{f:U->Int->Option U}{ls:List Int}{s:U}{nd:List (Option U)}{rows:List (List Int)}(h:FV 41 (LK f) ls (some s)=some (nd,rows))(b:nd.length<=40\/none∈nd):∃p,GC 40 f ls 41 [s] []=some p:=by
 obtain⟨e,v,_⟩:=Hh (by omega) h
 have a : (nd.filterMap id).length<=40:=by
  rcases b with b|b
  ·exact kw (List.length_filterMap_le ..) b
  ·have t:∀(l:List (Option U)),none∈l->(l.filterMap id).length < l.length:=λl=>by
    induction l with
    | nil=>intro h;cases h
    | cons x l u=>
     intro h
     cases x with
     | none=>simp;exact Nat.lt_succ_of_le (List.length_filterMap_le ..)
     | some x=>
      rcases lc.1 h with h|h
      ·cases h
      ·simp;exact h
   have:=t nd b;omega
 refine OZ (Z:=nd.filterMap id) (pK.2 ⟨some s,ce e.st,rfl⟩) (λq c l n x g=>?_) a 41 ⟨rfl,by simp,by simp,λi r k=>(by cases k),λZ j _ q c=>by simp at c;subst c;exact j⟩;obtain⟨o,m,d⟩:=pK.1 c;have d:o=some q:=d;subst d;exact pK.2 ⟨some x,by have:=e.cl _ m l n;rwa [show LK f (some q) l=some x from g] at this,rfl⟩
theorem PQ{f:U->Int->Option U}{ls:List Int}{s:U}{nd:List U}{rows:List (List Int)}(h:GC 40 f ls 41 [s] []=some (nd,rows)):∃p,FV 41 (LK f) ls (some s)=some p/\(p.1.length<=40\/none∈p.1):=by
 obtain⟨k,j⟩:=Jn 41 (by simp) (by simp) ⟨rfl,by simp,by simp,λi r o=>(by cases o),λZ c _ q a=>by simp at a;subst a;exact c⟩ h;have j:nd.length<=40:=j;have c:s∈nd:=ce k.st
 have d:(none::nd.map some).length<=41:=by simp;omega
 obtain⟨p,hp,n⟩:=IV (f:=LK f) (ls:=ls) (Z:=none::nd.map some) d (λq a l d=>by
  cases q with
  | none=>exact og ..
  | some q=>
   have a:q∈nd:=by simpa using a
   show f q l∈_
   cases t:f q l with
   | none=>exact og ..
   | some x=>exact nq _ (em.2 ⟨x,k.cl q a l d x t,rfl⟩)) 41 (nd:=[some s]) (rows:=[]) (by simp) (λx b=>by simp at b;subst b;simp [c])
 obtain⟨nd',rows'⟩:=p;refine⟨_,hp,?_⟩;obtain⟨v,w,_⟩:=Hh (by omega) hp;refine Classical.byContradiction λg=>?_;have u:¬nd'.length<=40:=λh=>g (.inl h);have e:none∉nd':=λh=>g (.inr h)
 have:=CL (l:=none::nd') (m:=none::nd.map some) (oo.2 ⟨e,v.nodup⟩) λx b=>by
  rcases lc.1 b with rfl|h
  ·exact og ..
  ·exact n x h
 simp at this;omega
end
theorem Ug{al:Int}{nx:List (List Int)}{ac:List Bool}{i:Nat}{l:Int}{g:Int->Int}(b:nx[i]? = some ((Ac al).map g))(a:l∈Ac al):AW ⟨al,nx,ac⟩ i l=g l:=by
 have hb:=Ai a;unfold AW;rw [if_pos hb.2.2]
 show (nx.getD i []).getD _ 0=_
 rw [lw,lw,b,nW,d9,KC a,nv,nW]
theorem ed{β:Type}[DecidableEq β]{g:β->Int->β}{al:Int}{s:β}{nd:List β}{rows:List (List Int)}(h:LF g (Ac al) s nd rows){ac:List Bool}{i:Nat}{q:β}{l:Int}(hi:nd[i]? = some q)(a:l∈Ac al):∃k:Nat,AW ⟨al,rows,ac⟩ i l=k/\nd[k]? = some (g q l):=by
 have b:=h.cl q (ce hi) l a;exact⟨_,Ug (h.row i q hi) a,by rw [d5 (mZ.2 b),n8]⟩
theorem hO{β:Type}[DecidableEq β]{g:β->Int->β}{al:Int}{s:β}{nd:List β}{rows:List (List Int)}(h:LF g (Ac al) s nd rows)(f:nd.length<=64){ac:List Bool}:Hz ⟨al,rows,ac⟩:=by
 have e:=h.len;refine⟨by show rows.length<=64;omega,λq c=>?_⟩;have c:q < rows.length:=c;obtain⟨x,b⟩:=get_some (l:=nd) (k:=q) (by omega);refine⟨_,h.row q x b,by simp,λk y a=>?_⟩;rw [d9] at a
 cases hk:(Ac al)[k]? with
 | none=>rw [hk] at a;cases a
 | some l=>
  rw [hk] at a
  injection a with a
  have a:((nd.idxOf (g x l):Nat):Int)=y:=a;have d:=h.cl x (ce b) l (ce hk);have:=mZ.2 d
  show 0<=y/\y < ((rows.length:Nat):Int)
  omega
section
variable {U:Type}[DecidableEq U]{f:U->Int->Option U}{al:Int}
def YV(al:Int)(nd:List (Option U))(rows:List (List Int)):AK:=⟨al,rows,nd.map Option.isSome⟩
theorem Xf{o:Option U}{nd:List (Option U)}{rows:List (List Int)}(h:LF (LK f) (Ac al) o nd rows):∀(w:W) {i:Nat} {q:Option U},Av (AU al) w->nd[i]? = some q->∃j:Nat,AN (YV al nd rows) i w=j/\nd[j]? = some (IF f q w)
 | [],i,q,_,hi=>⟨i,rfl,hi⟩
 | c :: w,i,q,hw,hi=>by
  obtain⟨l,b,rfl⟩:=em.1 (hw c (by simp));have hb:=Ai b;have e:((lb l).toNat:Int) - 97=l:=Es hb.1 (by omega);obtain⟨k,a,n⟩:=ed h (ac:=nd.map Option.isSome) hi b;have a:AW (YV al nd rows) i l=k:=a;obtain⟨j,m,g⟩:=Xf h w (λx d=>hw x (by simp [d])) n;refine⟨j,?_,?_⟩
  ·show AN _ (AW _ ((i:Int).toNat) (((lb l).toNat:Int) - 97)) w=_
   rw [e,f6,a];exact m
  ·show nd[j]? = some (IF f (LK f q (((lb l).toNat:Int) - 97)) w)
   rw [e];exact g
theorem iO{o:Option U}{nd:List (Option U)}{rows:List (List Int)}(h:LF (LK f) (Ac al) o nd rows){w:W}(hw:Av (AU al) w):LA (YV al nd rows) w=(IF f o w).isSome:=by
 obtain⟨j,a,b⟩:=Xf h w hw h.st;have c:((0:Nat):Int)=0:=rfl;rw [c] at a;unfold LA;rw [a,f6]
 show (nd.map Option.isSome).getD j false=_
 rw [lw,d9,b];rfl
theorem kP{o:Option U}{nd:List (Option U)}{rows:List (List Int)}(h:LF (LK f) (Ac al) o nd rows)(b:nd.length<=64):Cg (YV al nd rows):=by
 have c:=h.len;have a:=(am.1 h.st).1;exact⟨hO h b,by show 1<=rows.length;omega,by show (nd.map Option.isSome).length=rows.length;rw [f7];omega⟩
def Hm(al:Int)(rows:List (List Int)):AK:=⟨al,rows.take 1++[(Ac al).map λ_=>(1:Int)]++rows.drop 1,(rows.take 1).map (λ_=>true)++[false]++(rows.drop 1).map λ_=>true⟩
def gj(i:Nat):Nat:=if i=0 then 0 else i+1
theorem NF{rows:List (List Int)}(e:1<=rows.length):(Hm al rows).nx[1]? = some ((Ac al).map λ_=>(1:Int))/\(Hm al rows).ac[1]? = some false/\(Hm al rows).nx.length=rows.length+1/\(Hm al rows).ac.length=rows.length+1/\∀(i:Nat) r,rows[i]? = some r->(Hm al rows).nx[gj i]? = some r/\(Hm al rows).ac[gj i]? = some true:=by
 obtain⟨d,rs,rfl⟩:∃d rs,rows=d::rs:=by
  cases rows with
  | nil=>simp at e
  | cons a b=>exact⟨a,b,rfl⟩
 refine⟨rfl,rfl,by simp [Hm],by simp [Hm],λi r c=>?_⟩
 cases i with
 | zero=>exact⟨c,rfl⟩
 | succ i=>
  have c:rs[i]? = some r:=c;refine⟨c,?_⟩
  show (rs.map λ_=>true)[i]? = some true
  rw [d9,c];rfl
theorem MJ{nd:List U}{x:U}:EF nd (some x)=((gj (nd.idxOf x):Nat):Int):=by
 simp only [EF,gj];split<;>simp
theorem Td{s:U}{nd:List U}{rows:List (List Int)}(h:RL f (Ac al) s nd rows):∀(w:W) {o:Option U},Av (AU al) w->(∀x,o=some x->x∈nd)->AN (Hm al rows) (EF nd o) w=EF nd (IF f o w)/\∀x,IF f o w=some x->x∈nd
 | [],o,_,g=>⟨rfl,g⟩
 | c :: w,o,hw,g=>by
  have p:=h.len;have n:=(am.1 h.st).1;obtain⟨u,A,z,y,t⟩:=NF (al:=al) (rows:=rows) (by omega);obtain⟨l,d,rfl⟩:=em.1 (hw c (by simp));have hb:=Ai d;have e:((lb l).toNat:Int) - 97=l:=Es hb.1 (by omega)
  have key:AW (Hm al rows) (EF nd o).toNat l=EF nd (LK f o l)/\∀x,LK f o l=some x->x∈nd:=by
   cases o with
   | none=>exact⟨Ug (al:=al) (i:=1) u d,λx a=>by cases a⟩
   | some q=>
    have j:=g q rfl;have hi:=mZ.2 j
    have b:nd[nd.idxOf q]? = some q:=by rw [d5 hi,n8]
    have r:=(t _ _ (h.row _ q b)).1;refine⟨?_,λx a=>h.cl q j l d x a⟩;rw [MJ,f6];exact Ug (al:=al) r d
  obtain⟨m,k⟩:=Td h w (o:=LK f o l) (λx a=>hw x (by simp [a])) key.2
  have v:IF f o (lb l::w)=IF f (LK f o l) w:=by
   show IF f (LK f o (((lb l).toNat:Int) - 97)) w=_
   rw [e]
  rw [v];refine⟨?_,k⟩
  show AN _ (AW _ ((EF nd o).toNat) (((lb l).toNat:Int) - 97)) w=_
  rw [e,key.1];exact m
theorem eX{s:U}{nd:List U}{rows:List (List Int)}(h:RL f (Ac al) s nd rows){w:W}(hw:Av (AU al) w):LA (Hm al rows) w=(IF f (some s) w).isSome:=by
 have i:=h.len;have g:=(am.1 h.st).1;obtain⟨q,m,p,n,l⟩:=NF (al:=al) (rows:=rows) (by omega);have c:=ce h.st
 have k:EF nd (some s)=0:=by
  have hi:=mZ.2 c
  have a:nd[nd.idxOf s]? = some s:=by rw [d5 hi,n8]
  have:=(ox hi h.nodup).1 (a.trans h.st.symm);simp [EF,this]
 obtain⟨d,e⟩:=Td h w (o:=some s) hw (λx b=>by injection b with b;subst b;exact c);rw [k] at d;unfold LA;rw [d]
 cases j:IF f (some s) w with
 | none=>
  show (Hm al rows).ac.getD 1 false=false
  rw [Bd m]
 | some x=>
  have b:=e x j;have hi:=mZ.2 b
  have a:nd[nd.idxOf x]? = some x:=by rw [d5 hi,n8]
  rw [MJ,f6,Bd (l _ _ (h.row _ x a)).2];rfl
theorem UR{s:U}{nd:List U}{rows:List (List Int)}(h:RL f (Ac al) s nd rows)(p:nd.length<=40):Cg (Hm al rows):=by
 have e:=h.len;have c:=(am.1 h.st).1;obtain⟨m,v,u,t,j⟩:=NF (al:=al) (rows:=rows) (by omega);refine⟨⟨by omega,λq n=>?_⟩,by omega,by omega⟩
 have key:∀(o:Option U),(∀x,o=some x->x∈nd)->0<=EF nd o/\EF nd o < (((Hm al rows).nx.length:Nat):Int):=λo d=>by
  cases o with
  | none=>simp only [EF];omega
  | some x=>
   have hi:=mZ.2 (d x rfl);rw [MJ];unfold gj;split<;>omega
 by_cases g:q=1
 ·subst g
  refine⟨_,m,by simp [Hm],λk y a=>?_⟩;rw [d9] at a
  cases hk:(Ac al)[k]? with
  | none=>rw [hk] at a;cases a
  | some l=>
   rw [hk] at a
   injection a with a
   have a:(1:Int)=y:=a;omega
 ·obtain⟨i,hi,rfl⟩:∃i,i < rows.length/\q=gj i:=by
   rcases nM q with rfl|r
   ·exact⟨0,by omega,rfl⟩
   ·exact⟨q - 1,by omega,by unfold gj;rw [if_neg (by omega)];omega⟩
  obtain⟨x,b⟩:=get_some (l:=nd) (k:=i) (by omega);refine⟨_,(j _ _ (h.row i x b)).1,by simp [Hm],λk y a=>?_⟩;rw [d9] at a
  cases hk:(Ac al)[k]? with
  | none=>rw [hk] at a;cases a
  | some l=>
   rw [hk] at a
   injection a with a
   subst a;exact key _ (h.cl x (ce b) l (ce hk))
end
theorem Fg{U:Type}[DecidableEq U](l:List U):∀(k i q:Nat),(AT l k)[i]? = some q->∃x,l[q]? = some x/\x∉l.take q
 | 0,i,q,h=>by simp [AT] at h
 | k + 1, i,q,h=>by
  unfold AT at h
  cases hk:l[k]? with
  | none=>rw [hk] at h;exact Fg l k i q h
  | some y=>
   rw [hk] at h;have h:(if y∈uq (l.take k) then AT l k else AT l k++[k])[i]? = some q:=h;split at h
   ·exact Fg l k i q h
   ·rename_i b
    rcases nh i (AT l k).length with a|a
    ·rw [d8 a] at h
     exact Fg l k i q h
    ·rw [ge a] at h
     have e:i - (AT l k).length < 1:=(am.1 h).1
     have d:i - (AT l k).length=0:=by omega
     rw [d] at h;simp at h;subst h;exact⟨y,hk,λc=>b (Cp.2 c)⟩
theorem XG{U:Type}[DecidableEq U]{l:List U}{q:Nat}{x:U}(h:l[q]? = some x)(c:x∉l.take q):l.idxOf x=q:=by
 obtain⟨a,rfl⟩:=am.1 h;have g:l.idxOf l[q] < l.length:=mZ.2 (nA a);have f:l[l.idxOf l[q]]=l[q]:=n8 g
 rcases ph (l.idxOf l[q]) q with b|b|b
 ·exfalso
  apply c;rw [<-f];exact List.mem_take_iff_getElem.2 ⟨l.idxOf l[q],by omega,rfl⟩
 ·exact b
 ·exfalso
  have e:l=l.take q++l[q]::l.drop (q+1):=by rw [List.getElem_cons_drop,nJ]
  have d:(l.take q++l[q]::l.drop (q+1)).idxOf l[q]=q:=by
   rw [nL,if_neg c,ou,ol];omega
  rw [<-e] at d;omega
theorem O8{a:AK}(h:Cg a){c:Nat}(u:c < (uq (BN a)).length):(AT (BN a) a.nx.length)[c]? = some ((Dm a).idxOf (c:Int))/\(Dm a).idxOf (c:Int) < a.nx.length:=by
 have hk:=Gl h.b h.n1 h.ac;have j:=WI h
 have o:(BW a).nx.length=(AT (BN a) a.nx.length).length:=by simp [BW,BM]
 obtain⟨r,e⟩:=get_some (l:=AT (BN a) a.nx.length) (k:=c) (by omega);obtain⟨t,y,n,m⟩:=DK _ _ _ _ e;obtain⟨z,d,s⟩:=Fg _ _ _ _ e
 rw [n] at d;injection d with d;subst d
 rw [lm (by have:=hk.len;omega)] at m;have hno:CN (BN a) y=c:=Ma m
 have p:(Dm a)[r]? = some (c:Int):=by
  unfold Dm Cn;rw [d9,n,nv,hno]
 have f:(c:Int)∉(Dm a).take r:=λg=>by
  unfold Dm Cn at g;rw [<-p9] at g;obtain⟨x,i,q⟩:=em.1 g;have:x=y:=JJ (nE i) (by rw [q,hno]);exact s (this ▸ i)
 have:=XG p f;rw [this];exact⟨e,t⟩
theorem eW{a:AK}(h:Cg a):BW a=⟨a.al,(List.range (uq (BN a)).length).map (λc=>(a.nx.getD ((Dm a).idxOf ((c:Nat):Int)) []).map (DZ a)),(List.range (uq (BN a)).length).map λc=>a.ac.getD ((Dm a).idxOf ((c:Nat):Int)) false⟩:=by
 have b:=WI h
 have e:(BW a).nx.length=(AT (BN a) a.nx.length).length:=by simp [BW,BM]
 have d:AT (BN a) a.nx.length=(List.range (uq (BN a)).length).map λc=>(Dm a).idxOf ((c:Nat):Int):=by
  refine nH λi=>?_
  rcases nh i (uq (BN a)).length with hi|hi
  ·rw [(O8 h hi).1];simp [hi]
  ·rw [i8 (by omega),i8 (by simp;omega)]
 unfold BW BM;rw [d,nV,nV];rfl
end Go.Am
