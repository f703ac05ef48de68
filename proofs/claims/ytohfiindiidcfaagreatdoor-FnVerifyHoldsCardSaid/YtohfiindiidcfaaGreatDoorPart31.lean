/-
  The reference's automaton of a closed table.
-/
import Derived.Test.YtohfiindiidcfaaGreatDoorPart28
import Derived.Test.YtohfiindiidcfaaGreatDoorPart27
import Derived.Test.YtohfiindiidcfaaGreatDoorPart29
import Derived.Test.YtohfiindiidcfaaGreatDoorPart26
set_option linter.all false
namespace Go.Am
open Go Go.Proofs
set_option maxHeartbeats 1000000
set_option maxRecDepth 4000
attribute [local irreducible] A3 Cp Lex Bl Aj Spec
variable {TB:BC}
def iz(o:Option AY):E:=match o with
 | some p=>.t [(true,[.d (iD p.al),.d (C4 p.nx),.d (Ff p.ac)]),(false,[.d (bD true)])]
 | none=>.t [(true,[.d (iD 0),.d (.l []),.d (.l [])]),(false,[.d (bD false)])]
theorem Ht{t:EF}{al:Int}{A:W->Bool}(v:Kr Tryz.prog TB 123 170 t al A)(tab:A2)(f:VZ tab) :
 Pure Tryz.prog TB 70 [EL t,Eh tab] (iz (if BB A al tab then some (A1 A al tab) else none)):=by
 have x:=Qm v tab f;by_cases i:BB A al tab=true
 ·rw [if_pos i]
  rw [i] at x;obtain⟨y,V,N⟩:=MO i;have e:=(Fb y).1;have U:=e.r1;have S:=e.rl;have N:=e.cl;have h2:=v.alph;have h3:=Cj (TB:=TB) al;have h4:Pure Tryz.prog TB 124 [EL t,BV tab.cols,BV tab.rows] (BV (AK A tab)):=KI v tab.cols tab.rows f.cl (λw R=>by have:=f.rb w R;omega) f.cb f.rl;have hla:(Ac al).length<=6:=AM al 6
  have Y:(AK A tab).length=tab.rows.length:=by simp [AK]
  refine eG Tryz.func70 rfl (by kernel_rfl) rfl ?_;intro Z c;(repeat first|refine tA rfl ?_ |refine s2 rfl λ_ a=>?_ |refine sP rfl (x) rfl ?_ |refine aU rfl ?_ |refine Aa ?_)
  ((refine aC rfl ?_ ?_<;>rintro⟨⟩);all_goals try (simp at a;done))
  refine aK ?_;(repeat first|refine tX rfl ?_ |refine sP rfl (h2) rfl ?_ |refine aU rfl ?_);(refine pW rfl ?_ rfl (by rfl);refine JN 1 1 64 2 1 4 rfl rfl (by decide) rfl rfl (by rfl) (by rfl) ?_);(repeat first|refine tX rfl ?_ |refine sP rfl (h3) rfl ?_|refine sP rfl (h4) rfl ?_ |refine aU rfl ?_ |refine Aa ?_);refine aB ?_;refine aL (α:={k:Nat // k<=tab.rows.length}) [2,3,4,6,7,8] [0] rfl rfl (λ⟨k,hk⟩=>[(9,eI .i64 k)]) (λ⟨k,hk⟩=>[(1,.cells 64 1 (((A1 A al tab).nx.take k).map λr=>[.d (Fg r)])),(2,.cells 4 1 (((A1 A al tab).ac.take k).map λb=>[.d (bD b)])),(3,.cells 29 3 [[.d (iD al),.arr 1 1 0 k,.arr 2 1 0 k]])]) 4 (λ⟨k,hk⟩=>tab.rows.length - k) (⟨0,by omega⟩) c rfl (by (simp[cX,zC,c])) ?_;rintro⟨k,hk⟩;(try dsimp only[cA,cB])
  have X:(A1 A al tab).nx.length=tab.rows.length:=by simp [A1]
  have hac:(A1 A al tab).ac.length=tab.rows.length:=by simp [A1]
  by_cases I:k < tab.rows.length
  ·obtain⟨r,n⟩:=get_some I
   have Q:=get_map (g:=CT) n;have m:=co n;have T:=f.rb r m
   have hm:(AK A tab)[k]? = some (marks A tab.cols r):=by simp [AK,n]
   have hm':=get_map (g:=CT) hm
   have hm0:(marks A tab.cols r)[(0:Int).toNat]? = some (RU (A r)):=by
    have:=e.c0;simp [marks,this]
   (repeat first|refine sN rfl ?_ |refine tX rfl ?_ |refine s2 rfl λ_ a=>?_ |refine aU rfl ?_ |refine Aa ?_);refine Aj.cond rfl (λhb=>?_) (λhb=>?_)<;>cases hb
   rotate_left
   ·exfalso;(simp only[oZ] at *;omega)
   refine aK ?_;refine aS (aB ?_);(repeat first|refine aU rfl ?_);(refine pW rfl ?_ rfl (by rfl);refine Bk rfl rfl rfl rfl (by simp) (by rfl) (by rfl) (by rfl) (by rfl) ?_);(repeat first|refine tX rfl ?_ |refine aU rfl ?_ |refine Aa ?_);refine aB ?_;refine aL (α:={j:Nat // j<=(Ac al).length}) [2,3,4,6,7,8,9] [0,1,2,3] rfl rfl (λ⟨j,L⟩=>[(10,.o (.arr 4 1 0 j)),(11,eI .i64 j)]) (λ⟨j,L⟩=>[(4,.cells 3 1 (((Ac al).take j).map λl=>[.d (iD ((Dj A tab (r++[lb l]):Nat):Int))]))]) 5 (λ⟨j,L⟩=>(Ac al).length - j) (⟨0,by omega⟩) c rfl (by (simp[cX,zC,c])) ?_;rintro⟨j,L⟩;(try dsimp only[cA,cB]);by_cases s:j < (Ac al).length
   ·obtain⟨l,K⟩:=get_some s
    have hl':=get_map (g:=Bs) K;have q:=co K;have J:=Al q;have z:Pure Tryz.prog TB 127 [eI .i64 l] (eT [lb l]):=HP l J.1 (by omega);have p:=Nc v tab.cols (r++[lb l]) f.cl (by simp;omega) f.cb;have H:marks A tab.cols (r++[lb l])∈AK A tab:=GW V r m (lb l) (OF q);have M:Pure Tryz.prog TB 125 [BV (AK A tab),eT (marks A tab.cols (r++[lb l]))] (eI .i64 (Dj A tab (r++[lb l]):Nat)):=UJ (AK A tab) _ H (by omega);(repeat first|refine sN rfl ?_ |refine tX rfl ?_ |refine s2 rfl λ_ a=>?_ |refine aU rfl ?_ |refine Aa ?_);refine Aj.cond rfl (λhb=>?_) (λhb=>?_)<;>cases hb
    rotate_left
    ·exfalso;(simp only[oZ] at *;omega)
    refine aK ?_;refine aS (aB ?_);refine rG (Hg [19]) (by kernel_rfl) ?_;(repeat first|(refine sA rfl ?_ ?_;first|exact tI|simp only[oZ] at *;omega) |(refine s4 rfl ‹_› rfl ?_ ?_;omega) |refine sP rfl (z) rfl ?_|refine sP rfl (p) rfl ?_|refine sP rfl (M) rfl ?_);(refine pW rfl ?_ rfl (by rfl);refine Au rfl rfl rfl (by first| (simp;done)|(simp;(omega))) rfl (by intro r h;simp at h;subst h;rfl) (by rfl) (am rfl) (by simp;omega) ?_);(repeat first|(refine sA rfl ?_ ?_;first|exact tI|omega) |refine aU rfl ?_ |refine Aa ?_);refine⟨⟨j+1,by omega⟩,by dsimp only;(omega),[0,1,2,3,5],?_⟩;(simp[cX,zC,c,d9,K])
   ·obtain rfl:j=(Ac al).length:=by omega
    have G:(A1 A al tab).nx.take (k+1)=(A1 A al tab).nx.take k++[(Ac al).map λl=>((Dj A tab (r++[lb l]):Nat):Int)]:=by
     rw [d9];simp [A1,n]
    have u:(A1 A al tab).ac.take (k+1)=(A1 A al tab).ac.take k++[A r]:=by
     rw [d9];simp [A1,n]
    rw [gt];(repeat first|refine sN rfl ?_ |refine tX rfl ?_ |refine s2 rfl λ_ a=>?_ |refine aU rfl ?_ |refine Aa ?_);refine Aj.cond rfl (λhb=>?_) (λhb=>?_)<;>cases hb
    ·exfalso;(simp only[oZ] at *;omega)
    refine aE ?_;refine Aj.YE [4] [2,3,4,6,7,8,9] rfl [(10,Ak ((Ac al).map λl=>((Dj A tab (r++[lb l]):Nat):Int)))] ⟨⟨_,rfl,.o (.full (by simp) rfl (by simp [d5]) (by simp))⟩,trivial⟩ ?_;(try dsimp only[cA,cB]);(repeat first|refine tA rfl ?_ |refine aU rfl ?_);(refine pW rfl ?_ rfl (by rfl);refine Au rfl rfl rfl (by first| (simp;done)|(simp;(omega))) rfl (by intro r h;simp at h;subst h;rfl) (by rfl) (am rfl) (by simp;omega) ?_);(repeat first|refine tA rfl ?_ |refine Aa ?_);refine rG (Hg [9,11]) (by kernel_rfl) ?_;(repeat first|refine tA rfl ?_ |(refine s4 rfl ‹_› rfl ?_ ?_;omega) |refine s2 rfl λ_ a=>?_);rename_i b
    have P:b=A r:=by
     cases hA:A r<;>cases b<;>simp [hA,RU] at a<;>rfl
    subst P;(refine pW rfl ?_ rfl (by rfl);refine Au rfl rfl rfl (by first| (simp;done)|(simp;(omega))) rfl (by intro r h;simp at h;subst h;rfl) (by rfl) (am rfl) (by simp;omega) ?_);(repeat first|(refine sA rfl ?_ ?_;first|exact tI|omega) |refine aU rfl ?_ |refine Aa ?_);refine⟨⟨k+1,by omega⟩,by dsimp only;(omega),[0,5,6,3],?_⟩;(simp[cX,zC,c,G,u])
  ·obtain rfl:k=tab.rows.length:=by omega
   have F:(A1 A al tab).nx.take tab.rows.length=(A1 A al tab).nx:=gc (by simp [A1]);have B:(A1 A al tab).ac.take tab.rows.length=(A1 A al tab).ac:=gc (by simp [A1]);rw [F,B];(repeat first|refine sN rfl ?_ |refine tX rfl ?_ |refine s2 rfl λ_ a=>?_ |refine aU rfl ?_ |refine Aa ?_);refine Aj.cond rfl (λhb=>?_) (λhb=>?_)<;>cases hb
   ·exfalso;(simp only[oZ] at *;omega)
   refine aE ?_;(repeat first|refine tX rfl ?_ |refine aU rfl ?_ |refine Aa ?_);refine Aj.settle [(4,.o (.ip [iD al,C4 (A1 A al tab).nx,Ff (A1 A al tab).ac])),(5,eB true)] ⟨⟨_,rfl,.o (.box rfl (.cons .d (.cons (.full rfl (by simp [d5]) (by simp [A1])) (.cons (.full rfl (by simp [d5]) (by simp [A1])) .nil))))⟩,⟨_,rfl,.o .d⟩,trivial⟩ ?_;refine aR ⟨_,rfl,rfl⟩
 ·have i:BB A al tab=false:=by simpa using i
  rw [if_neg (by simp [i])];rw [i] at x;refine eG Tryz.func70 rfl (by kernel_rfl) rfl ?_;intro Z c;(repeat first|refine tA rfl ?_ |refine s2 rfl λ_ a=>?_ |refine sP rfl (x) rfl ?_ |refine aU rfl ?_ |refine Aa ?_)
  ((refine aC rfl ?_ ?_<;>rintro⟨⟩);all_goals try (simp at a;done))
  (repeat first|refine tA rfl ?_|(refine Ag rfl ?_;refine gA rfl ?_;first| refine gS (λ_ _=>AG rfl rfl (by rfl) (by rfl)) ?_) |refine aU rfl ?_ |refine Aa ?_);refine Aj.settle [(4,.o (.ip [iD 0,.l [],.l []])),(5,eB false)] ⟨⟨_,rfl,.o (.box rfl (.cons .d (.cons .d (.cons .d .nil))))⟩,⟨_,rfl,.o .d⟩,trivial⟩ ?_;refine aR ⟨_,rfl,rfl⟩
end Go.Am
namespace Go.Am
open Go
set_option linter.unusedVariables false
theorem FN{c:Oe}:∀ {u w:List Int} {q r:Int},J0 c (u++w) q r↔∃y,J0 c u q y/\J0 c w y r
 | [],w,q,r=>⟨λh=>⟨q,rfl,h⟩,λ⟨y,a,b⟩=>by have a:y=q:=a;subst a;exact b⟩
 | l :: u,w,q,r=>by
  constructor
  ·rintro⟨y,d,h⟩
   obtain⟨z,a,b⟩:=FN.1 h;exact⟨z,⟨y,d,a⟩,b⟩
  ·rintro⟨z,⟨y,d,a⟩,b⟩
   exact⟨y,d,FN.2 ⟨z,a,b⟩⟩
theorem Oz{s:Sys}(b:AV s=true):∀ {w:List Int} {q r:Int},0<=q/\q < s.st->J0 (Nw s) w q r->0<=r/\r < s.st
 | [],q,r,a,h=>by have h:r=q:=h;subst h;exact a
 | l::w,q,r,a,⟨y,c,h⟩=>Oz b (JC b a.1 a.2 c) h
theorem OQ{a:AY}(ha:AI a=true):∀ {w:List Int} {q:Int},(∀l∈w,0<=l/\l < 6)->0<=q/\q < a.nx.length->0<=Cn (fA a) q w/\Cn (fA a) q w < a.nx.length
 | [],q,_,c=>c
 | l::w,q,b,c=>by
  have d:=b l (by simp);exact OQ ha (w:=w) (λm e=>b m (by simp [e])) (Dy ha (q:=q.toNat) (by omega) d.1 d.2)
theorem aT{t:CO}{F:PS}{u:W}{c:UInt8}:GZ t F (u++[c])=DK t ((c.toNat:Int) - 97) (GZ t F u):=by rw [P7];rfl
theorem JU{s:Sys}{q l r:Int}(h:AX s.al l.toNat=true):r∈BH s q l↔∃e∈s.es,e.f=q/\e.l=l/\e.t=r:=by
 unfold BH;rw [if_pos h];simp only [d8,oO,d4,decide_eq_true_eq];constructor
 ·rintro⟨e,⟨d,c,b⟩,a⟩;exact⟨e,d,c,b,a⟩
 ·rintro⟨e,d,c,b,a⟩;exact⟨e,⟨d,c,b⟩,a⟩
section
variable {t:CO}(ht:Bd t=true)
include ht
theorem Za{F0:PS}(A:C7 t F0){p j:Nat}:QB t F0 p j↔∃(a b:Nat) (u:List Int),(F0 a).testBit b=true/\(∀l∈u,l∈Cy t)/\J0 (Nw t.s) u b j/\(p:Int)=Cn (fA t.q) a u:=by
 constructor
 ·intro h
  induction h with
  | @base p j hb=>exact⟨p,j,[],hb,by simp,rfl,rfl⟩
  | @step p j e i o n J r=>
   obtain⟨a,b,u,z,k,c,d⟩:=r;have I:=Ie ht o;have hL:=DC ht n;have g:=i.lt ht A;have H:=Dy (CD ht) g.1 hL.1 hL.2.1;refine⟨a,b,u++[e.l],z,λl x=>?_,?_,?_⟩
   ·rcases em.1 x with h|h
    ·exact k l h
    ·simp at h;subst h;exact n
   ·refine FN.2 ⟨j,c,(e.t.toNat:Int),?_,rfl⟩
    exact(JU hL.2.2).2 ⟨e,o,by omega,rfl,by omega⟩
   ·rw [HY,<-d]
    show ((CB t.q p e.l).toNat:Int)=CB t.q ((p:Int).toNat) e.l
    rw [io];omega
 ·rintro⟨a,b,u,z,k,c,d⟩
  have key:∀(u:List Int) (a b:Nat),QB t F0 a b->(∀l∈u,l∈Cy t)->∀ {p j:Nat},J0 (Nw t.s) u b j->(p:Int)=Cn (fA t.q) a u->QB t F0 p j:=λu=>by
   induction u with
   | nil=>
    intro a b i _ p j c d;have c:(j:Int)=b:=c;have d:(p:Int)=a:=d
    obtain rfl:j=b:=by omega
    obtain rfl:p=a:=by omega
    exact i
   | cons l u r=>
    intro a b i k p j c d;have n:=k l (by simp);have hL:=DC ht n;have g:=i.lt ht A;have H:=Dy (CD ht) g.1 hL.1 hL.2.1;obtain⟨y,F,c⟩:=c;obtain⟨e,o,L,B,K⟩:=(JU hL.2.2).1 F;have I:=Ie ht o;have w:=QB.step i o (by rw [B];exact n) (show e.f.toNat=b by omega)
    have v:((e.t.toNat:Nat):Int)=y:=by omega
    refine r _ _ w (λm G=>k m (by simp [G])) (by rw [v];exact c) ?_;rw [d,B]
    show Cn (fA t.q) (CB t.q ((a:Int).toNat) l) u=_
    rw [io];congr 1;omega
  exact key u a b (.base z) k c d
theorem dh{F:PS}(o:C7 t F){l:Int}(v:0<=l/\l < 6){p' j:Nat}:(Wk t l F p').testBit j=true↔∃p a:Nat,(F p).testBit a=true/\CB t.q p l=(p':Int)/\(j:Int)∈BH t.s a l:=by
 rw [LU]
 have g:∀ {p a:Nat},(F p).testBit a=true->p < t.q.nx.length:=λ{p a} h=>by
  rcases oY p t.q.nx.length with b|b
  ·exact b
  ·rw [o.z p b] at h;simp at h
 unfold Dt;by_cases hb:AX t.s.al l.toNat=true
 ·simp only [hb,if_true]
  constructor
  ·rintro⟨p,b,d,c⟩
   obtain⟨e,i,⟨n,k⟩,u⟩:=DT.1 c;have r:=Ie ht i;exact⟨p,e.f.toNat,k,d,(JU hb).2 ⟨e,i,by omega,n,by omega⟩⟩
  ·rintro⟨p,a,b,d,c⟩
   obtain⟨e,i,n,k,u⟩:=(JU hb).1 c;have r:=Ie ht i;refine⟨p,g b,d,DT.2 ⟨e,i,⟨k,?_⟩,by omega⟩⟩;rw [show e.f.toNat=a by omega];exact b
 ·simp only [hb,if_false,qb]
  have m:∀a:Nat,BH t.s a l=[(a:Int)]:=λa=>by unfold BH;rw [if_neg hb]
  constructor
  ·rintro⟨p,b,d,c⟩
   exact⟨p,j,c,d,by rw [m];simp⟩
  ·rintro⟨p,a,b,d,c⟩
   rw [m] at c
   obtain rfl:j=a:=by simp at c;omega
   exact⟨p,g b,d,b⟩
end
def BS(al:Int)(u:List Int):List Int:=u.filter λl=>AX al l.toNat
def Sq(t:CO)(u:List Int):Prop:=∀l∈u,l∈Cy t\/l∈Ac t.al
theorem fT{t:CO}{l:Int}(h:l∈Cy t):AX t.al l.toNat=false:=by
 unfold Cy at h;have:=(oO.1 h).2
 simpa using this
theorem T7{t:CO}{u:List Int}(d:Sq t u)(h:BS t.al u=[]):∀l∈u,l∈Cy t:=λl b=>by
 rcases d l b with a|a
 ·exact a
 ·exfalso
  have c:l∈BS t.al u:=oO.2 ⟨b,(Al a).2.2⟩;rw [h] at c;cases c
theorem Tc{t:CO}{u:List Int}(h:∀l∈u,l∈Cy t):BS t.al u=[]:=qV.2 λl a=>by rw [fT (h l a)];simp
theorem Yx{t:CO}{F:PS}(g:C7 t F):Hf t F=true↔∃p j:Nat,(F p).testBit j=true/\SD t.q p=false:=by
 unfold Hf;rw [qq];constructor
 ·rintro⟨p,c,h⟩
  simp only [d4,decide_eq_true_eq,qi] at h
  have:∃j,(F p).testBit j=true:=Classical.byContradiction λf=>h.1 (HK λj=>by
   cases hb:(F p).testBit j
   ·rfl
   ·exact absurd ⟨j,hb⟩ f)
  obtain⟨j,d⟩:=this;exact⟨p,j,d,by unfold SD;rw [io];exact h.2⟩
 ·rintro⟨p,j,a,b⟩
  have c:p < t.q.nx.length:=by
   rcases oY p t.q.nx.length with h|h
   ·exact h
   ·rw [g.z p h] at a;simp at a
  refine⟨p,oJ.2 c,?_⟩;unfold SD at b;rw [io] at b;simp only [d4,decide_eq_true_eq,qi];exact⟨λe=>by rw [e] at a;simp at a,b⟩
theorem So{t:CO}:∀(w:List Int) {F:PS},HZ t F (CQ w)=false↔∃k,k<=w.length/\Hf t (GZ t F (CQ (w.take k)))=true
 | [],F=>by
  show (!Hf t F)=false↔_
  constructor
  ·intro h
   exact⟨0,by simp,by show Hf t F=true;simpa using h⟩
  ·rintro⟨k,_,h⟩
   have h:Hf t F=true:=by simpa [CQ,GZ] using h
   rw [h];rfl
 | l :: w,F=>by
  have c:=λF=>So (t:=t) w (F:=F);have e:HZ t F (CQ (l::w))=(!Hf t F && HZ t (DK t (((lb l).toNat:Int) - 97) F) (CQ w)):=rfl;rw [e];constructor
  ·intro h
   cases hb:Hf t F
   ·rw [hb] at h
    obtain⟨k,b,a⟩:=(c _).1 h;exact⟨k+1,by simpa using b,a⟩
   ·exact⟨0,by simp,hb⟩
  ·rintro⟨k,b,a⟩
   cases k with
   | zero=>
    have a:Hf t F=true:=a;rw [a];rfl
   | succ k=>
    have:=(c (DK t (((lb l).toNat:Int) - 97) F)).2 ⟨k,by simpa using b,a⟩;rw [this,Bool.and_false]
theorem hO{α:Type}{P:List α->Prop}(c:P [])(b:∀w l,P w->P (w++[l]))(w:List α):P w:=by
 rw [<-List.reverse_reverse w]
 induction w.reverse with
 | nil=>exact c
 | cons l u a=>rw [List.reverse_cons];exact b _ l a
section
variable {t:CO}(ht:Bd t=true)
include ht
theorem cr{F0:PS}(a:C7 t F0){p j:Nat}:(SQ t F0 p).testBit j=true↔∃(b c:Nat) (u:List Int),(F0 b).testBit c=true/\(∀l∈u,l∈Cy t)/\J0 (Nw t.s) u c j/\(p:Int)=Cn (fA t.q) b u:=by
 rw [Oy,Za ht a];constructor
 ·exact λh=>h.2
 ·intro h
  exact⟨((Za ht a).2 h).lt ht a |>.2,h⟩
theorem OR:∀(w:List Int) {F:PS},C7 t F->(∀l∈w,0<=l/\l < 6)->C7 t (GZ t F (CQ w))
 | [],F,h,_=>h
 | l :: w,F,h,b=>by
  have a:=b l (by simp)
  have e:GZ t F (CQ (l::w))=GZ t (DK t l F) (CQ w):=by
   show GZ t (DK t (((lb l).toNat:Int) - 97) F) (CQ w)=_
   rw [KK a.1 a.2]
  rw [e];exact OR w (LY ht a h) λm c=>b m (by simp [c])
theorem Zg:∀(w:List Int),(∀l∈w,l∈Ac t.al)->∀ {p j:Nat},((GZ t (Cz t) (CQ w) p).testBit j=true↔∃u,Sq t u/\BS t.al u=w/\J0 (Nw t.s) u 0 j/\(p:Int)=Cn (fA t.q) 0 u):=λw=>by
 refine hO (P:=λw=>(∀l∈w,l∈Ac t.al)->∀ {p j:Nat},((GZ t (Cz t) (CQ w) p).testBit j=true↔∃u,Sq t u/\BS t.al u=w/\J0 (Nw t.s) u 0 j/\(p:Int)=Cn (fA t.q) 0 u)) ?_ ?_ w
 ·intro _ p j
  show (SQ t IT p).testBit j=true↔_
  rw [cr ht (MF ht)]
  have S:∀ {y z:Nat},(IT y).testBit z=true↔y=0/\z=0:=λ{y z} => by
   unfold IT;split
   ·rename_i h
    subst h;have e:(1:Nat)=2 ^ 0:=rfl;rw [e,pZ];simp [eq_comm]
   ·rename_i h;simp [h]
  constructor
  ·rintro⟨y,z,u,b,d,x,v⟩
   obtain⟨rfl,rfl⟩:=S.1 b;exact⟨u,λl hl=>.inl (d l hl),Tc d,x,v⟩
  ·rintro⟨u,b,d,x,v⟩
   exact⟨0,0,u,S.2 ⟨rfl,rfl⟩,T7 b d,x,v⟩
 ·intro w l A H p j
  have o:=H l (by simp);have c:=Al o;have A:=λp j=>A (λm a=>H m (by simp [a])) (p:=p) (j:=j)
  have g:=OR ht w (F:=Cz t) (Gz ht) λm a=>by have:=Al (H m (by simp [a]));omega
  have e:GZ t (Cz t) (CQ (w++[l]))=SQ t (Wk t l (GZ t (Cz t) (CQ w))):=by
   have N:CQ (w++[l])=CQ w++[lb l]:=by simp [CQ,lb]
   rw [N,aT,KK c.1 (by omega)];rfl
  rw [e,cr ht (KP ht ⟨c.1,by omega⟩ g)];constructor
  ·rintro⟨p1,j1,h,b,d,x,v⟩
   obtain⟨Q,R,h5,h6,h7⟩:=(dh ht g ⟨c.1,by omega⟩).1 b;obtain⟨u,i,G,M,L⟩:=(A Q R).1 h5;refine⟨u++l::h,λm a=>?_,?_,FN.2 ⟨R,M,j1,h7,x⟩,?_⟩
   ·rcases em.1 a with a|a
    ·exact i m a
    ·rcases oI.1 a with rfl|a
     ·exact .inr o
     ·exact .inl (d m a)
   ·unfold BS at *
    rw [pK,G,pL (by simpa using c.2.2)];have:=Tc d;unfold BS at this;rw [this]
   ·rw [HY,<-L,v]
    show _=Cn (fA t.q) (CB t.q ((Q:Int).toNat) l) h
    rw [io,h6]
  ·rintro⟨u,i,G,M,L⟩
   unfold BS at G;obtain⟨f,u2,rfl,N,e2⟩:=List.filter_eq_append_iff.1 G;obtain⟨b,d,rfl,e3,e4,e5⟩:=List.filter_eq_cons_iff.1 e2;have r:∀m∈b,m∈Cy t:=T7 (λm a=>i m (by simp [a])) (by unfold BS;exact qV.2 e3);have K:∀m∈d,m∈Cy t:=T7 (λm a=>i m (by simp [a])) e5;obtain⟨Y,V,c2⟩:=FN.1 M;obtain⟨n,U,k,T,c5⟩:=FN.1 c2
   have B:AV t.s=true:=by unfold Bd at ht;simp only [d4] at ht;exact ht.1
   have hst:=AN B;have I:=CD ht;have hqn:=AE I
   have J:∀m∈f++(b++l::d),0<=m/\m < 6:=λm a=>by
    rcases i m a with h|h
    ·have:=DC ht h;omega
    ·have:=Al h;omega
   have b1:=Oz B ⟨by omega,by omega⟩ V;have X:=Oz B b1 U;have b3:=JC B X.1 X.2 T;have a2:=OQ I (w:=f++b) (q:=0) (λm a=>J m (by rcases em.1 a with h|h<;>simp [h])) ⟨by omega,by omega⟩;have a3:=Dy I (q:=(Cn (fA t.q) 0 (f++b)).toNat) (by omega) c.1 (show l < 6 by omega);refine⟨(CB t.q (Cn (fA t.q) 0 (f++b)).toNat l).toNat,k.toNat,d,(dh ht g ⟨c.1,by omega⟩).2 ⟨(Cn (fA t.q) 0 (f++b)).toNat,n.toNat,(A _ _).2 ⟨f++b,λm a=>?_,?_,?_,by omega⟩,by omega,?_⟩,K,?_,?_⟩
   ·rcases em.1 a with a|a
    ·exact i m (by simp [a])
    ·exact .inl (r m a)
   ·have:=Tc r
    unfold BS at *;rw [pK,N,this,pf]
   ·rw [show ((n.toNat:Nat):Int)=n by omega]
    exact FN.2 ⟨Y,V,U⟩
   ·rw [show ((n.toNat:Nat):Int)=n by omega,show ((k.toNat:Nat):Int)=k by omega];exact T
   ·rw [show ((k.toNat:Nat):Int)=k by omega];exact c5
   ·rw [show (((CB t.q (Cn (fA t.q) 0 (f++b)).toNat l).toNat:Nat):Int)=CB t.q (Cn (fA t.q) 0 (f++b)).toNat l by omega,L,<-rI,HY];rfl
theorem II{w:List Int}(v:∀l∈w,l∈Ac t.al):LS t (CQ w)=false↔∃u,Sq t u/\BS t.al u <+: w/\Eg t.s u/\C6 t.q u=false:=by
 unfold LS;rw [So];constructor
 ·rintro⟨k,I,H⟩
  have d:∀l∈w.take k,l∈Ac t.al:=λl o=>v l (oP o)
  have c:=OR ht (w.take k) (Gz ht) λm f=>by have:=Al (d m f);omega
  obtain⟨p,j,G,F⟩:=(Yx c).1 H;obtain⟨u,n,g,i,r⟩:=(Zg ht _ d).1 G;exact⟨u,n,by rw [g];exact List.take_prefix _ _,⟨_,i⟩,by unfold C6;rw [<-r];exact F⟩
 ·rintro⟨u,n,g,⟨q,i⟩,r⟩
  refine⟨(BS t.al u).length,g.length_le,?_⟩;have e:w.take (BS t.al u).length=BS t.al u:=(List.prefix_iff_eq_take.1 g).symm;rw [e];have x:∀l∈BS t.al u,l∈Ac t.al:=λl o=>v l (g.subset o)
  have y:AV t.s=true:=by unfold Bd at ht;simp only [d4] at ht;exact ht.1
  have A:=AN y;have z:=CD ht;have B:=AE z
  have c:=OR ht (BS t.al u) (Gz ht) λm f=>by have:=Al (x m f);omega
  have b:=Oz y (⟨by omega,by omega⟩:(0:Int)<=0/\(0:Int) < t.s.st) i
  have a:=OQ z (w:=u) (q:=0) (λm f=>by
   rcases n m f with h|h
   ·have:=DC ht h;omega
   ·have:=Al h;omega) ⟨by omega,by omega⟩
  refine(Yx c).2 ⟨(Cn (fA t.q) 0 u).toNat,q.toNat,(Zg ht _ x).2 ⟨u,n,rfl,?_,by omega⟩,?_⟩
  ·rw [show ((q.toNat:Nat):Int)=q by omega];exact i
  ·rw [show (((Cn (fA t.q) 0 u).toNat:Nat):Int)=Cn (fA t.q) 0 u by omega];exact r
end
end Go.Am
namespace Go.Am
open Go Go.Proofs
set_option maxHeartbeats 1000000
set_option maxRecDepth 4000
attribute [local irreducible] A3 Cp Lex Bl Aj Spec
variable {TB:BC}
def OZ(A:W->Bool)(al:Int)(t:A2)(w:W):Option A2:=if A9 A al t && Fs al w then Fo t w else none
theorem QF{t:EF}{al:Int}{A:W->Bool}(n:Kr Tryz.prog TB 123 170 t al A)(tab:A2)(q:VZ tab)(w:W)(y:w.length<=1048576) :
 Pure Tryz.prog TB 134 [EL t,Eh tab,eT w] (IN (OZ A al tab w)):=by
 have i:=FG n tab q;have g:=Pv n w (by omega);have f:=Jk (TB:=TB) tab.cols w (by have:=q.cl;omega);by_cases e:(A9 A al tab && Fs al w)=true
 ·have ha:OZ A al tab w=Fo tab w:=by unfold OZ;rw [if_pos e]
  rw [ha];rw [d4] at e;rw [e.1] at i;rw [e.2] at g;have b:bN al tab:=(Fb e.1).1;have k:=b.r1;have l:=b.c1;have s:=b.rl;have v:=b.cl;by_cases m:tab.cols.length=20\/w∈tab.cols
  ·have p:Fo tab w=none:=by unfold Fo;rw [if_pos m]
   rw [p];refine eG Tryz.func134 rfl (by kernel_rfl) rfl ?_;intro Z j;(repeat' first|refine sN rfl ?_ |refine tA rfl ?_ |(refine s2 rfl λ_ a=>?_;try (simp only[pB,pH] at a;subst a)) |refine sP rfl (i) rfl ?_|refine sP rfl (g) rfl ?_|(refine sC rfl (f) ?_;intro _ a)|(refine Ag rfl ?_;refine gA rfl ?_;first| refine gS (λ_ _=>AG rfl rfl (by rfl) (by rfl)) ?_) |refine s3 rfl ?_ ?_<;>rintro rfl |refine aU rfl ?_ |refine Aa ?_ |refine rE (by kernel_rfl) ?_|(refine aC rfl ?_ ?_<;>rintro⟨⟩)|refine aK ?_|refine aE ?_|refine aB ?_|refine aR ⟨_,rfl,?_⟩)
   all_goals first
    | rfl
    | (exfalso;clear i g f n;simp at *;grind;done)
    | skip
  ·have p:Fo tab w=some ⟨tab.rows,tab.cols++[w]⟩:=by unfold Fo;rw [if_neg m]
   rw [p];have u:decide (w∈tab.cols)=false:=decide_eq_false λh=>m (.inr h);have x:tab.cols.length≠20:=λh=>m (.inl h);rw [u] at f;refine eG Tryz.func134 rfl (by kernel_rfl) rfl ?_;intro Z j;(repeat first|refine sN rfl ?_ |refine tA rfl ?_ |(refine s2 rfl λ_ a=>?_;try (simp only[pB,pH] at a;subst a)) |refine sP rfl (i) rfl ?_|refine sP rfl (g) rfl ?_|refine sP rfl (f) rfl ?_ |refine aU rfl ?_ |refine Aa ?_);refine Aj.cond rfl (λhb=>?_) (λhb=>?_)<;>cases hb
   ·exfalso;(simp only[oZ] at *;omega)
   refine aK ?_;(repeat first|refine aU rfl ?_);refine rG (nK [0,1,2,4,5,6,8,9,3,7,10,11,12,13] [3,7,10,12] [0,1,2,4,5,6,8,9]) (by kernel_rfl) ?_;(repeat first|refine tX rfl ?_|(refine Ag rfl ?_;refine gA rfl ?_;first| refine gS (λ_ _=>TE (by rfl) (by rfl)) ?_|refine gS (λ_ _=>PR rfl rfl rfl rfl rfl (by rfl) (by rfl) (by rfl) (by rfl) (by rfl)) ?_));(refine pW rfl ?_ rfl (by rfl);refine EG rfl rfl rfl (by intro r c;simp at c;obtain⟨_,_,rfl⟩:=c;rfl) (by rfl) (am rfl) (by simp;omega) (λh=>?_) (λ_=>?_))
   ·exfalso;simp at h;rw [h] at k;simp at k
   (repeat first| (refine Ag rfl ?_;refine gA rfl ?_;first| refine gS (λ_ _=>TE (by rfl) (by rfl)) ?_|refine gS (λ_ _=>PR rfl rfl rfl rfl rfl (by rfl) (by rfl) (by rfl) (by rfl) (by rfl)) ?_));(refine pW rfl ?_ rfl (by rfl);refine EG rfl rfl rfl (by intro r c;simp at c;obtain⟨_,_,rfl⟩:=c;rfl) (by rfl) (am rfl) (by simp;omega) (λh=>?_) (λ_=>?_))
   ·exfalso;simp at h;rw [h] at l;simp at l
   (refine pW rfl ?_ rfl (by rfl);refine Au rfl rfl rfl (by first| (simp;done)|(simp;(omega))) rfl (by intro r c;simp at c;subst c;rfl) (by rfl) (am rfl) (by simp;omega) ?_);(repeat first|refine tA rfl ?_|(refine Ag rfl ?_;refine gA rfl ?_;first| refine gS (λ_ _=>AG rfl rfl (by rfl) (by rfl)) ?_) |refine Aa ?_);refine Aj.settle [(6,.o (.ip [BZ tab.rows,BZ (tab.cols++[w])])),(7,eB true)] ⟨⟨_,rfl,.o (.box rfl (.cons (.full rfl (by simp [d5]) (by simp)) (.cons (.full rfl (by simp [d5]) (by simp)) .nil)))⟩,⟨_,rfl,.o .d⟩,trivial⟩ ?_;refine aR ⟨_,rfl,rfl⟩
 ·have ha:OZ A al tab w=none:=by unfold OZ;rw [if_neg e]
  rw [ha];refine eG Tryz.func134 rfl (by kernel_rfl) rfl ?_;intro Z j;(repeat' first|refine sN rfl ?_ |refine tA rfl ?_ |(refine s2 rfl λ_ a=>?_;try (simp only[pB,pH] at a;subst a)) |(refine sC rfl (i) ?_;intro _ a)|(refine sC rfl (g) ?_;intro _ a)|(refine sC rfl (f) ?_;intro _ a)|(refine Ag rfl ?_;refine gA rfl ?_;first| refine gS (λ_ _=>AG rfl rfl (by rfl) (by rfl)) ?_) |refine s3 rfl ?_ ?_<;>rintro rfl |refine aU rfl ?_ |refine Aa ?_ |refine rE (by kernel_rfl) ?_|(refine aC rfl ?_ ?_<;>rintro⟨⟩)|refine aK ?_|refine aE ?_|refine aB ?_|refine aR ⟨_,rfl,?_⟩)
  all_goals first
   | rfl
   | (exfalso;clear i g f n;simp at *;grind;done)
   | skip
def Fy(A:W->Bool)(al:Int)(t:A2)(w:W):Option W:=if BB A al t && Fs al w then CC A t w else none
theorem Nd{al:Int}{w:W}(h:Fs al w=true):AS (A4 al) w/\w.length<=4000/\within w al=true:=by
 unfold Fs at h;rw [d4,decide_eq_true_eq] at h;exact⟨EC h.1,h.2,h.1⟩
theorem bP{A:W->Bool}{al:Int}{t:A2}{w:W}(ha:Bb al=true)(a:Cb A (A4 al) t)(c:t.rows.length<=12)(b:Fs al w=true):QE (A1 A al t) w=Kt A t w:=by
 obtain⟨e,f,d⟩:=Nd b;unfold QE;rw [Ow ha a c,Ou a e]
 show (true && (within w al && _))=_
 rw [d];rfl
theorem VK{A:W->Bool}{t:A2}{w:W}{k q:Nat}{c:UInt8}{R:Option W}(d:w[k]? = some c)(a:R=splitAt A t (A w) q (w.drop k)) :
 (A (t.rows.getD (Dj A t (t.rows.getD q []++[c])) []++w.drop (k+1))≠A w->R=some (w.drop (k+1)))/\(A (t.rows.getD (Dj A t (t.rows.getD q []++[c])) []++w.drop (k+1))=A w->R=splitAt A t (A w) (Dj A t (t.rows.getD q []++[c])) (w.drop (k+1))):=by
 have:=Mm (L:=A) (t:=t) (b:=A w) (q:=q) d;rw [this] at a;exact⟨λh=>by rw [a,if_pos h],λh=>by rw [a,if_neg (by simpa using h)]⟩
theorem Rq{t:EF}{al:Int}{A:W->Bool}(G:Kr Tryz.prog TB 123 170 t al A)(hal:0<=al->Bb al=true)(tab:A2)(P:VZ tab)(w:W)(hw:w.length<=1048576) :
 Pure Tryz.prog TB 133 [EL t,Eh tab,eT w] (ZN (Fy A al tab w)):=by
 have n:=Ht G tab P;have q:=Pv G w (by omega);have h4:=G.ask w (by omega);by_cases r:BB A al tab=true
 ·rw [if_pos r] at n
  obtain⟨Q,ho,f⟩:=MO r;have d:=(Fb Q).1;have ha:=hal d.pos;have hau:=Ow ha f d.rl;have I:=OY (TB:=TB) (A1 A al tab) w (by omega);by_cases i:Fs al w=true
  ·rw [i] at q
   rw [bP ha f d.rl i] at I
   have u:Fy A al tab w=CC A tab w:=by unfold Fy;rw [r,i];rfl
   rw [u];by_cases J:Kt A tab w=A w
   ·have y:CC A tab w=none:=by unfold CC;rw [if_pos J]
    rw [y];rw [J] at I;refine eG Tryz.func133 rfl (by kernel_rfl) rfl ?_;intro Z b;(repeat' first|refine tA rfl ?_ |(refine s2 rfl λ_ a=>?_;try (simp only[pB,pH] at a;subst a)) |refine sP rfl (n) rfl ?_|refine sP rfl (q) rfl ?_|refine sP rfl (I) rfl ?_|refine sP rfl (h4) rfl ?_ |refine aU rfl ?_ |refine Aa ?_ |refine rE (by kernel_rfl) ?_|(refine aC rfl ?_ ?_<;>rintro⟨⟩)|refine aK ?_|refine aE ?_|refine aB ?_|refine aR ⟨_,rfl,?_⟩)
    all_goals first
     | rfl
     | (exfalso;grind;done)
   ·obtain⟨R,M⟩:∃R,R=CC A tab w:=⟨_,rfl⟩
    rw [<-M]
    have M:R=splitAt A tab (A w) 0 (w.drop 0):=by rw [M];unfold CC;rw [if_neg J];rfl
    obtain⟨m,hw4,_⟩:=Nd i;have hrl:=d.rl;have T:=d.r1;refine eG Tryz.func133 rfl (by kernel_rfl) rfl ?_;intro Z b;(repeat first|refine tA rfl ?_ |refine sP rfl (n) rfl ?_|refine sP rfl (q) rfl ?_|refine sP rfl (I) rfl ?_|refine sP rfl (h4) rfl ?_ |refine aU rfl ?_ |refine Aa ?_);refine rG (Hg []) (by kernel_rfl) ?_;(repeat first|refine tA rfl ?_ |(refine s2 rfl λ_ a=>?_;try (simp only[pB,pH] at a;subst a)) |refine sP rfl (n) rfl ?_|refine sP rfl (q) rfl ?_|refine sP rfl (I) rfl ?_|refine sP rfl (h4) rfl ?_ |refine Aa ?_);refine Aj.cond rfl (λhb=>?_) (λhb=>?_)<;>cases hb
    ·exfalso;exact J (by simpa using a)
    refine aK ?_;(repeat first|refine tA rfl ?_ |refine aU rfl ?_ |refine Aa ?_);have h0:0 < tab.rows.length:=T;refine aB ?_;refine aL (α:={k:Nat // k<=w.length/\R=splitAt A tab (A w) (runM A tab 0 (w.take k)) (w.drop k)/\A (tab.rows.getD (runM A tab 0 (w.take k)) []++w.drop k)=A w}) [2,3,4,8] [0] rfl rfl (λ⟨k,hk,p,H⟩=>[(10,eI .i64 (runM A tab 0 (w.take k):Nat)),(11,eI .i64 k)]) (λ⟨k,hk,p,H⟩=>[]) 1 (λ⟨k,hk,p,H⟩=>w.length - k) (⟨0,by omega,M,by simp [d.r0,runM]⟩) b rfl (by (simp[cX,zC,b]<;>rfl)) ?_;rintro⟨k,hk,p,H⟩;(try dsimp only[cA,cB]);have x:=f.run (w.take k) 0 (JP m k) h0;by_cases X:k < w.length
    ·obtain⟨c,K⟩:=get_some X
     have hc':w[((k:Nat):Int).toNat]? = some c:=by simpa using K
     have F:=m c (co K);have B:=Iw F;have Y:=Iu (TB:=TB) w k c hc'
     have hnl:(A1 A al tab).nx.length=tab.rows.length:=by simp [A1]
     have z:=JK (TB:=TB) (A1 A al tab) hau (runM A tab 0 (w.take k)) (by omega) ((c.toNat:Int) - 97) B.1 B.2;have s:=Ns (L:=A) (t:=tab) K 0;have v:=f.run (w.take (k+1)) 0 (JP m (k+1)) h0;rw [LB (L:=A) (al:=al) (t:=tab) x F,<-s] at z;have e:=VK K p;rw [<-s] at e;obtain⟨N,l⟩:=get_some x;have hx1':=get_map (g:=CT) l;obtain⟨o,j⟩:=get_some v;have hx2':=get_map (g:=CT) j
     have e1:tab.rows.getD (runM A tab 0 (w.take k)) []=N:=by simp [l]
     have e2:tab.rows.getD (runM A tab 0 (w.take (k+1))) []=o:=by simp [j]
     have hr1b:=P.rb N (co l);have hr2b:=P.rb o (co j);rw [e1] at H;rw [e2] at e
     have V:Pure Tryz.prog TB 170 [EL t,eT (N++w.drop ((k:Nat):Int).toNat)] (eB (A w)):=by
      rw [io,<-H];exact G.ask _ (by simp;omega)
     have ek:(((k:Nat):Int)+1).toNat=k+1:=by omega
     have U:Pure Tryz.prog TB 170 [EL t,eT (o++w.drop (((k:Nat):Int)+1).toNat)] (eB (A (o++w.drop (k+1)))):=by
      rw [ek];exact G.ask _ (by simp;omega)
     have hd1:(w.drop ((k:Nat):Int).toNat).length<=1048576:=by simp;omega
     have hd2:(w.drop (((k:Nat):Int)+1).toNat).length<=1048576:=by simp;omega
     (repeat first|refine tA rfl ?_ |refine s2 rfl λ_ a=>?_ |refine aU rfl ?_ |refine Aa ?_);refine Aj.cond rfl (λhb=>?_) (λhb=>?_)<;>cases hb
     rotate_left
     ·exfalso;(simp only[oZ] at *;omega)
     (repeat' first|(refine sA rfl ?_ ?_;first|exact tI|omega) |(refine s4 rfl ‹_› rfl ?_ ?_;omega) |refine s2 rfl λ_ a=>?_ |refine sP rfl (Y) rfl ?_|refine sP rfl (z) rfl ?_|refine sP rfl (V) rfl ?_|refine sP rfl (U) rfl ?_|(refine Ag rfl ?_;refine gA rfl ?_;first| refine gS (λ_ _=>Es rfl rfl (by omega) (by omega)) ?_) |refine aU rfl ?_ |refine Aa ?_ |refine rE (by kernel_rfl) ?_|(refine aC rfl ?_ ?_<;>rintro⟨⟩)|refine aK ?_|refine aE ?_|refine aB ?_|refine aR ⟨_,rfl,?_⟩)
     ·have y:=e.1 (by intro h;rw [h] at a;simp at a)
      rw [y]
      show E.t _=E.t _
      rw [ek]
     ·have S:=e.2 (by simpa using (by simpa using a:A w=A (o++w.drop (k+1))).symm)
      have hA2:A (tab.rows.getD (runM A tab 0 (w.take (k+1))) []++w.drop (k+1))=A w:=by rw [e2];exact(by simpa using a:A w=A (o++w.drop (k+1))).symm
      refine⟨⟨k+1,by omega,S,hA2⟩,by dsimp only;(omega),[0],?_⟩;simp[cX,zC,b]
    ·obtain rfl:k=w.length:=by omega
     rw [qN] at p;have y:R=none:=p;rw [y];(repeat first|refine tA rfl ?_ |refine s2 rfl λ_ a=>?_ |refine aU rfl ?_ |refine Aa ?_);refine Aj.cond rfl (λhb=>?_) (λhb=>?_)<;>cases hb
     ·exfalso;(simp only[oZ] at *;omega)
     (repeat' first|refine tA rfl ?_ |refine aU rfl ?_ |refine Aa ?_|(refine aC rfl ?_ ?_<;>rintro⟨⟩)|refine aK ?_|refine aE ?_|refine aB ?_|refine aR ⟨_,rfl,?_⟩);rfl
  ·have i:Fs al w=false:=by simpa using i
   rw [i] at q
   have u:Fy A al tab w=none:=by unfold Fy;rw [i];simp
   rw [u];refine eG Tryz.func133 rfl (by kernel_rfl) rfl ?_;intro Z b;(repeat' first|refine tA rfl ?_ |(refine s2 rfl λ_ a=>?_;try (simp only[pB,pH] at a;subst a)) |refine sP rfl (n) rfl ?_|refine sP rfl (q) rfl ?_ |refine aU rfl ?_ |refine Aa ?_ |refine rE (by kernel_rfl) ?_|(refine aC rfl ?_ ?_<;>rintro⟨⟩)|refine aK ?_|refine aE ?_|refine aB ?_|refine aR ⟨_,rfl,?_⟩)
   all_goals first
    | rfl
    | (exfalso;grind;done)
 ·have u:Fy A al tab w=none:=by unfold Fy;simp [r]
  rw [if_neg r] at n;rw [u];refine eG Tryz.func133 rfl (by kernel_rfl) rfl ?_;intro Z b;(repeat' first|refine tA rfl ?_ |(refine s2 rfl λ_ a=>?_;try (simp only[pB,pH] at a;subst a)) |refine sP rfl (n) rfl ?_ |refine aU rfl ?_ |refine Aa ?_ |refine rE (by kernel_rfl) ?_|(refine aC rfl ?_ ?_<;>rintro⟨⟩)|refine aK ?_|refine aE ?_|refine aB ?_|refine aR ⟨_,rfl,?_⟩)
  all_goals first
   | rfl
   | (exfalso;grind;done)
end Go.Am
namespace Go.Am
open Go Go.Proofs
set_option maxHeartbeats 1000000
set_option maxRecDepth 4000
attribute [local irreducible] A3 Cp Lex Bl Aj Spec
section
variable {P:Program}{TB:BC}{Z:Ctx}{d:Option Tmp}{ty:TypeId}{pos:String}{af:Array Edge}{g:Option (Nat×Bool)}{f:Env}{σ:Ab}{nx:Nat}
end
variable {TB:BC}
theorem bN.short{al:Int}{t:A2}(h:bN al t):∀(i:Nat) w,t.rows[i]? = some w->w.length<=i:=by
 intro i
 induction i using Nat.strongRecOn with
 | ind i b=>
  intro w hi
  rcases po i with rfl|e
  ·have:=h.r0.symm.trans hi
   injection this with this
   subst this;simp
  ·obtain⟨c,j,d,a⟩:=h.pre i w hi e
   have:=b j d _ a;rw [List.length_dropLast] at this;omega
theorem bN.bd{al:Int}{t:A2}(h:bN al t):He al 20000 t:=by
 refine⟨λw b=>⟨(h.rw w b).2,?_⟩,λx a=>⟨(h.cw x a).2,by have:=(h.cw x a).1;omega⟩,h.rl,h.cl⟩;obtain⟨i,hi,c⟩:=oW b;have:=h.short i w (by rw [d6 hi,c]);have:=h.rl;omega
end Go.Am
namespace Go.Am
open Go Go.Proofs
set_option maxHeartbeats 1000000
set_option maxRecDepth 4000
attribute [local irreducible] A3 Cp Lex Bl Aj Spec
variable {TB:BC}
end Go.Am
namespace Go.Am
open Go
set_option linter.unusedVariables false
theorem Jd{s:Sys}:∀ {u:List Int} {q r:Int},J0 (Nw s) u q r↔J0 (Nw s) (BS s.al u) q r
 | [],q,r=>Iff.rfl
 | l :: u,q,r=>by
  have c:=λq=>Jd (s:=s) (u:=u) (q:=q) (r:=r);by_cases hb:AX s.al l.toNat=true
  ·have e:BS s.al (l::u)=l::BS s.al u:=pL hb
   rw [e];exact⟨λ⟨y,a,b⟩=>⟨y,a,(c y).1 b⟩,λ⟨y,a,b⟩=>⟨y,a,(c y).2 b⟩⟩
  ·have e:BS s.al (l::u)=BS s.al u:=qQ hb
   have d:Nw s q l=[q]:=by show BH s q l=_;unfold BH;rw [if_neg hb]
   rw [e,<-c q];constructor
   ·rintro⟨y,a,b⟩
    rw [d] at a
    obtain rfl:y=q:=by simpa using a
    exact b
   ·intro h
    exact⟨q,by rw [d];simp,h⟩
theorem Mn{s:Sys}{u v:List Int}(h:BS s.al u=BS s.al v):Eg s u↔Eg s v:=by
 unfold Eg;constructor
 ·rintro⟨q,a⟩;exact⟨q,Jd.2 (h ▸ Jd.1 a)⟩
 ·rintro⟨q,a⟩;exact⟨q,Jd.2 (h.symm ▸ Jd.1 a)⟩
theorem P6{a:AY}(ha:AI a=true):∀ {u:List Int} {q:Int},(∀l∈u,0<=l/\l < 6)->0<=q/\q < a.nx.length->Cn (fA a) q u=Cn (fA a) q (BS a.al u)
 | [],q,_,_=>rfl
 | l :: u,q,c,f=>by
  have d:=c l (by simp);have h:=Dy ha (q:=q.toNat) (by omega) d.1 d.2;have b:=λq=>P6 ha (u:=u) (q:=q) λm g=>c m (by simp [g]);by_cases hb:AX a.al l.toNat=true
  ·have e:BS a.al (l::u)=l::BS a.al u:=pL hb
   rw [e];exact b _ h
  ·have e:BS a.al (l::u)=BS a.al u:=qQ hb
   have i:CB a q.toNat l=q:=by unfold CB;rw [if_neg hb];omega
   rw [e]
   show Cn (fA a) (CB a q.toNat l) u=_
   rw [i];exact b _ f
def GV(u:List Int):Prop:=∀l∈u,0<=l/\l < 6
theorem Ll{a:AY}(ha:AI a=true){u v:List Int}(c:GV u)(b:GV v)(h:BS a.al u=BS a.al v):C6 a u=C6 a v:=by
 have d:=AE ha;unfold C6;rw [P6 ha c ⟨by omega,by omega⟩,P6 ha b ⟨by omega,by omega⟩,h]
theorem T8{al:Int}{u:List Int}(a:GV u):GV (BS al u):=λl b=>a l (oO.1 b).1
theorem T9{al:Int}{u:List Int}(a:GV u):∀l∈BS al u,l∈Ac al:=λl b=>by
 obtain⟨d,c⟩:=oO.1 b;have:=a l d
 obtain⟨n,rfl⟩:∃n:Nat,l=n:=⟨l.toNat,by omega⟩
 exact Ej.2 ⟨by omega,c⟩
theorem Zz{al:Int}{u:List Int}(a:∀l∈u,l∈Ac al):BS al u=u:=rY.2 λl b=>(Al (a l b)).2.2
theorem EX{al:Int}{u:List Int}(a:∀l∈u,l∈Ac al):GV u:=λl b=>by have:=Al (a l b);omega
theorem Mz{al bl:Int}{u:List Int}(h:∀l∈u,AX al l.toNat=true->AX bl l.toNat=true):BS al (BS bl u)=BS al u:=by
 unfold BS;rw [r7];refine qA λl a=>?_;cases ha:AX al l.toNat
 ·rfl
 ·rw [h l a ha];rfl
theorem gF{al:Int}:∀ {v w:List Int},w <+: BS al v->∃v',v' <+: v/\BS al v'=w:=λ{v w} ⟨z,h⟩=>by
 obtain⟨a,c,rfl,b,_⟩:=List.filter_eq_append_iff.1 h.symm;exact⟨a,p9 _ _,b⟩
theorem eU{s:Sys}{u v:List Int}(h:u <+: v)(a:Eg s v):Eg s u:=by
 obtain⟨z,rfl⟩:=h;obtain⟨q,b⟩:=a;obtain⟨y,c,_⟩:=FN.1 b;exact⟨y,c⟩
theorem merge{A B:Int->Bool}:∀(u:List Int) {v:List Int},(∀l∈u,A l=true)->(∀l∈v,B l=true)->u.filter B=v.filter A->∃x:List Int,x.filter A=u/\x.filter B=v/\∀l∈x,l∈u\/l∈v
 | [],v,_,b,h=>⟨v,h.symm,rY.2 b,λl n=>.inr n⟩
 | l :: u, v,g,b,h=>by
  have i:=g l (by simp);by_cases c:B l=true
  ·rw [pL c] at h
   obtain⟨k,j,rfl,p,q,o⟩:=List.filter_eq_cons_iff.1 h.symm;obtain⟨x,f,e,d⟩:=merge u (v:=j) (λm a=>g m (by simp [a])) (λm a=>b m (by simp [a])) o.symm;refine⟨k++l::x,?_,?_,λm a=>?_⟩
   ·rw [pK,qV.2 p,pL i,f];rfl
   ·rw [pK,rY.2 λm a=>b m (by simp [a]),pL c,e]
   ·rcases em.1 a with a|a
    ·exact .inr (by simp [a])
    ·rcases oI.1 a with rfl|a
     ·exact .inl (by simp)
     ·rcases d m a with h|h
      ·exact .inl (by simp [h])
      ·exact .inr (by simp [h])
  ·rw [qQ c] at h
   obtain⟨x,f,e,d⟩:=merge u (v:=v) (λm a=>g m (by simp [a])) b h;refine⟨l::x,?_,?_,λm a=>?_⟩
   ·rw [pL i,f]
   ·rw [qQ c,e]
   ·rcases oI.1 a with rfl|a
    ·exact .inl (by simp)
    ·rcases d m a with h|h
     ·exact .inl (by simp [h])
     ·exact .inr h
theorem MM{a b:Int}(ha:Bb a=true)(hb:Bb b=true){n:Nat}(c:n < 64):AX (Gt .i64 a b) n=(AX a n || AX b n):=by
 unfold Bb at ha hb;simp only [decide_eq_true_eq] at ha hb
 obtain⟨x,rfl⟩:∃x:Nat,a=x:=⟨a.toNat,by omega⟩
 obtain⟨y,rfl⟩:∃y:Nat,b=y:=⟨b.toNat,by omega⟩
 have h:=LG (a:=x) (b:=y) (by omega) (by omega);rw [h.1,Dq (by omega) c,Dq (by omega) c,Dq (by omega) c,pT]
theorem fF{a b:Int}(ha:Bb a=true)(hb:Bb b=true){n:Nat}(c:n < 64):AX (Gh .i64 a b) n=(AX a n && AX b n):=by
 unfold Bb at ha hb;simp only [decide_eq_true_eq] at ha hb
 obtain⟨x,rfl⟩:∃x:Nat,a=x:=⟨a.toNat,by omega⟩
 obtain⟨y,rfl⟩:∃y:Nat,b=y:=⟨b.toNat,by omega⟩
 have h:=LC (a:=x) (b:=y) (by omega) (by omega);have d:x &&& y < 64:=Nat.lt_of_le_of_lt rT (by omega);rw [h,Dq (by omega) c,Dq (by omega) c,Dq (by omega) c,qT]
structure Fe (s:Sys) (p:AY) (t:Sys) (al:Int):Prop where
 hs:AV s=true
 hp:AI p=true
 ht:AV t=true
 hal:al=AZ s p t
section
variable {s t:Sys}{p:AY}{al:Int}(hI:Fe s p t al)
include hI
theorem WM{n:Nat}(a:n < 64):AX al n=((AX s.al n || AX p.al n) && AX t.al n):=by
 have c:=(AN hI.hs).1;have b:=(AE hI.hp).1;have d:=(AN hI.ht).1;rw [hI.hal];unfold AZ;rw [hI.hs,hI.hp,hI.ht];simp only [rK,if_true];rw [fF (LF c b) d a,MM c b a]
theorem Pp:Bb al=true:=by
 have g:=(AN hI.hs).1;have f:=(AE hI.hp).1;have i:=(AN hI.ht).1;have h:=LF g f;rw [hI.hal];unfold AZ;rw [hI.hs,hI.hp,hI.ht];simp only [rK,if_true];unfold Bb at *;simp only [decide_eq_true_eq] at *
 obtain⟨x,d⟩:∃x:Nat,Gt .i64 s.al p.al=x:=⟨(Gt .i64 s.al p.al).toNat,by omega⟩
 obtain⟨y,c⟩:∃y:Nat,t.al=y:=⟨t.al.toNat,by omega⟩
 have:=LC (a:=x) (b:=y) (by omega) (by omega);have e:x &&& y < 64:=Nat.lt_of_le_of_lt rT (by omega);rw [d,c,this];omega
theorem ER:Bd ⟨s,p,al⟩=true:=by
 unfold Bd;rw [hI.hs,hI.hp,Pp hI];rfl
theorem bV{a:AY}(ha:AI a=true)(hal:a.al=al)(o:∀u,GV u->(∀l∈u,AX s.al l.toNat=true\/AX al l.toNat=true)->Eg s u->C6 a u=true->C6 p u=true)
 (m:∀v,(∀l∈v,l∈Ac t.al)->Eg t v->C6 a v=true) {x:List Int} (e:GV x) (f:∀l∈x,AX s.al l.toNat=true\/AX t.al l.toNat=true) (k:Eg s x) (ht:Eg t x):C6 p x=true:=by
 have c:=λl (b:l∈x)=>WM hI (n:=l.toNat) (by have:=e l b;omega);have j:=T8 (al:=t.al) e;have w:C6 a (BS t.al x)=true:=m _ (T9 e) ((Mn (by rw [Mz λ_ _ h=>h])).1 ht)
 let u:=x.filter λl=>AX s.al l.toNat || AX al l.toNat
 have g:GV u:=λl f=>e l (oO.1 f).1
 have d:∀ {bl:Int},(∀l∈x,AX bl l.toNat=true->(AX s.al l.toNat || AX al l.toNat)=true)->BS bl u=BS bl x:=λ{bl} h=>by
  show List.filter _ (List.filter _ x)=List.filter _ x
  rw [r7];refine qA λl f=>?_;cases hb:AX bl l.toNat
  ·rfl
  ·rw [h l f hb];rfl
 have r:C6 a u=true:=by
  rw [Ll ha g j,w]
  rw [hal,d λl _ h=>by rw [h,q8],Mz λl b h=>by
   have:=c l b;rw [h] at this
   revert this;cases AX t.al l.toNat<;>simp]
 have q:=o u g (λl b=>by have:=(oO.1 b).2;simpa using this) ((Mn (d λl _ h=>by rw [h];rfl)).2 k) r;rw [<-q];refine Ll hI.hp e g (d λl b h=>?_).symm;have:=c l b;rw [h,q8,o5] at this
 rcases f l b with i|i
 ·rw [i];rfl
 ·rw [this,i,q8]
theorem VS{v:List Int}(y:∀l∈v,l∈Ac t.al)(ht:Eg t v)(G:LS ⟨s,p,al⟩ (CQ (BS al v))=false):∃x,GV x/\(∀l∈x,AX s.al l.toNat=true\/AX t.al l.toNat=true)/\Eg s x/\Eg t x/\C6 p x=false:=by
 have m:=EX y;obtain⟨u,A,J,I,H⟩:=(II (ER hI) (T9 m)).1 G
 have d:GV u:=λl a=>by
  rcases A l a with h|h
  ·have:=DC (ER hI) h;omega
  ·have:=Al h;omega
 obtain⟨v',w,F⟩:=gF J;have g:∀l∈v',l∈Ac t.al:=λl a=>y l (w.subset a);have b:=λ(l:Int) (h:0<=l/\l < 6)=>WM hI (n:=l.toNat) (by omega)
 have q:∀l∈u,(AX s.al l.toNat || AX al l.toNat)=true:=λl a=>by
  rcases A l a with h|h
  ·rw [(DC (ER hI) h).2.2];rfl
  ·rw [(Al h).2.2,q8]
 have o:∀l∈v',AX t.al l.toNat=true:=λl a=>(Al (g l a)).2.2
 have e:u.filter (λl=>AX t.al l.toNat)=v'.filter λl=>AX s.al l.toNat || AX al l.toNat:=by
  have L:u.filter (λl=>AX t.al l.toNat)=BS al u:=qA λl a=>by
   have c:=q l a;rw [b l (d l a)] at c |-;revert c;cases AX s.al l.toNat<;>cases AX p.al l.toNat<;>cases AX t.al l.toNat<;>simp
  have K:v'.filter (λl=>AX s.al l.toNat || AX al l.toNat)=BS al v':=qA λl a=>by
   have c:=o l a;rw [b l (EX g l a),c];cases AX s.al l.toNat<;>cases AX p.al l.toNat<;>simp
  rw [L,K,F]
 obtain⟨x,B,k,r⟩:=merge u q o e
 have f:GV x:=λl a=>by
  rcases r l a with h|h
  ·exact d l h
  ·exact EX g l h
 have i:∀l∈x,AX s.al l.toNat=true\/AX t.al l.toNat=true:=λl a=>by
  rcases r l a with h|h
  ·have c:=q l h
   rw [b l (d l h)] at c;revert c;cases AX s.al l.toNat<;>cases AX p.al l.toNat<;>cases AX t.al l.toNat<;>simp
  ·exact .inr (o l h)
 have j:∀ {bl:Int},(∀l∈x,AX bl l.toNat=true->(AX s.al l.toNat || AX al l.toNat)=true)->BS bl u=BS bl x:=λ{bl} h=>by
  rw [<-B]
  show List.filter _ (List.filter _ x)=List.filter _ x
  rw [r7];refine qA λl a=>?_;cases hb:AX bl l.toNat
  ·rfl
  ·rw [h l a hb];rfl
 refine⟨x,f,i,(Mn (j λl _ h=>by rw [h];rfl)).1 I,?_,?_⟩
 ·have:=eU w ht
  refine(Mn ?_).1 this;have k:BS t.al x=v':=k;rw [<-k,Mz λ_ _ h=>h]
 ·rw [<-H]
  refine Ll hI.hp f d (j λl z h=>?_).symm;have:=b l (f l z);rw [h,q8,o5] at this
  rcases i l z with c|c
  ·rw [c];rfl
  ·rw [this,c,q8]
end
end Go.Am
namespace Go.Am
open Go Go.Proofs
set_option maxHeartbeats 1000000
set_option maxRecDepth 4000
attribute [local irreducible] A3 Cp Lex Bl Aj Spec
variable {TB:BC}
def Io(A:W->Bool)(al:Int)(t:A2):Option A2:=if A9 A al t then Bm A (A4 al) 13 t else none
def Mo(A:W->Bool)(al:Int)(t:A2)(w:W):Option A2:=(Fy A al t w).bind λv=>(OZ A al t v).bind λu=>Io A al u
theorem XH{A:W->Bool}{al:Int}{t:A2}{w v:W}(h:Fy A al t w=some v):v.length<=w.length:=by
 unfold Fy at h;split at h
 ·obtain⟨p,_,rfl⟩:=IG h
  simp
 ·cases h
theorem fy{A:W->Bool}{al:Int}{t u:A2}{w:W}(h:OZ A al t w=some u):VZ u:=by
 unfold OZ at h;split at h
 ·rename_i d
  rw [d4] at d;have b:=(Fb d.1).1;have f:=Nd d.2;unfold Fo at h;split at h
  ·cases h
  ·injection h with h
   subst h;have c:=b.sz;have e:=b.cl;refine⟨c.rl,by simp;omega,c.rb,λx a=>?_⟩
   rcases em.1 a with a|a
   ·exact c.cb x a
   ·simp at a;subst a;omega
 ·cases h
theorem QU{t:EF}{al:Int}{A:W->Bool}(g:Kr Tryz.prog TB 123 170 t al A)(hal:0<=al->Bb al=true)(tab:A2)(h:VZ tab)(w:W)(j:w.length<=1048576) :
 Pure Tryz.prog TB 74 [EL t,Eh tab,eT w] (IN (Mo A al tab w)):=by
 have e:=Rq g hal tab h w j
 rcases b:Fy A al tab w with _|v
 ·have d:Mo A al tab w=none:=by unfold Mo;rw [b];rfl
  rw [d];rw [b] at e;refine eG Tryz.func74 rfl (by kernel_rfl) rfl ?_;intro Z c;(repeat' first|refine tA rfl ?_ |(refine s2 rfl λ_ a=>?_;try (simp only[pB,pH] at a;subst a)) |refine sP rfl (e) rfl ?_|(refine Ag rfl ?_;refine gA rfl ?_;first| refine gS (λ_ _=>AG rfl rfl (by rfl) (by rfl)) ?_) |refine aU rfl ?_ |refine Aa ?_|(refine aC rfl ?_ ?_<;>rintro⟨⟩)|refine aK ?_|refine aE ?_|refine aB ?_|refine aR ⟨_,rfl,?_⟩)
  all_goals rfl
 ·rw [b] at e
  have l:=XH b;have f:=QF g tab h v (by omega)
  rcases ha:OZ A al tab v with _|u
  ·have d:Mo A al tab w=none:=by unfold Mo;rw [b];simp [ha]
   rw [d];rw [ha] at f;refine eG Tryz.func74 rfl (by kernel_rfl) rfl ?_;intro Z c;(repeat' first|refine tA rfl ?_ |(refine s2 rfl λ_ a=>?_;try (simp only[pB,pH] at a;subst a)) |refine sP rfl (e) rfl ?_|refine sP rfl (f) rfl ?_|(refine Ag rfl ?_;refine gA rfl ?_;first| refine gS (λ_ _=>AG rfl rfl (by rfl) (by rfl)) ?_) |refine aU rfl ?_ |refine Aa ?_|(refine aC rfl ?_ ?_<;>rintro⟨⟩)|refine aK ?_|refine aE ?_|refine aB ?_|refine aR ⟨_,rfl,?_⟩)
   all_goals rfl
  ·have d:Mo A al tab w=Io A al u:=by unfold Mo;rw [b];simp [ha]
   rw [d];rw [ha] at f;have i:Pure Tryz.prog TB 121 [EL t,Eh u] (IN (Io A al u)):=Jb g u (fy ha)
   rcases k:Io A al u with _|x<;>rw [k] at i<;>(
    refine eG Tryz.func74 rfl (by kernel_rfl) rfl ?_;intro Z c;(repeat' first|refine tA rfl ?_ |(refine s2 rfl λ_ a=>?_;try (simp only[pB,pH] at a;subst a)) |refine sP rfl (e) rfl ?_|refine sP rfl (f) rfl ?_|refine sP rfl (i) rfl ?_|(refine Ag rfl ?_;refine gA rfl ?_;first| refine gS (λ_ _=>AG rfl rfl (by rfl) (by rfl)) ?_) |refine aU rfl ?_ |refine Aa ?_|(refine aC rfl ?_ ?_<;>rintro⟨⟩)|refine aK ?_|refine aE ?_|refine aB ?_|refine aR ⟨_,rfl,?_⟩)
    all_goals rfl)
theorem Dv(L:W->Bool)(al:Int)(t:A2):BB L al t=(A9 L al t && (Bc L (A4 al) t).isNone):=rfl
end Go.Am
namespace Go.Am
open Go
set_option linter.unusedVariables false
section
variable {a b:AY}(ha:AI a=true)(hb:AI b=true)(hal:a.al=b.al)(hL:∀w,AS (A4 a.al) w->LA a w=LA b w)
include ha hb hal hL
end
end Go.Am
namespace Go.Am
open Go Go.Proofs
set_option maxHeartbeats 1000000
set_option maxRecDepth 4000
attribute [local irreducible] A3 Cp Lex Bl Aj Spec
variable {TB:BC}
theorem ZC(a b:List Int):Pure Tryz.prog TB 40 [Ak a,Ak b] (eB (decide (a=b))):=by
  refine eN Tryz.func40 rfl (by kernel_rfl) rfl ?_;intro Z c;refine Aj.bound 0 rfl λj=>?_;have j:=j (a.map Bs) .refl;rw [ge] at j;(repeat first|refine sN rfl ?_ |refine tA rfl ?_ |refine s2 rfl λ_ d=>?_ |refine aU rfl ?_ |refine Aa ?_);(refine aC rfl ?_ ?_<;>rintro⟨⟩)
  · (repeat first|refine tA rfl ?_ |refine aU rfl ?_ |refine Aa ?_)
    refine aR ⟨_,rfl,?_⟩
    have r:a≠b:=λh=>by subst h;(simp only[oZ] at *;omega)
    show E.o _=E.o _;congr;grind
  refine aK ?_
  have s:a.length=b.length:=by (simp only[oZ] at *;omega)
  (repeat first|refine tA rfl ?_ |refine aU rfl ?_ |refine Aa ?_);refine aB ?_;refine Aj.A5 (α:={k:Nat // k<=a.length/\a.take k=b.take k}) (λ⟨k,hk,e⟩=>[(0,Ak a),(1,Ak b),(5,eI .i64 k)]) (λ⟨k,hk,e⟩=>[]) 0 (λ⟨k,hk,e⟩=>a.length - k) (⟨0,by omega,by simp⟩) [] (Ee c rfl rfl) (by (simp[cX,zC,c])) ?_;rintro⟨k,hk,e⟩;(try dsimp only);(repeat first|refine sN rfl ?_ |refine tA rfl ?_ |refine s2 rfl λ_ d=>?_ |refine aU rfl ?_ |refine Aa ?_)
  ((refine aC rfl ?_ ?_<;>rintro⟨⟩);all_goals try (simp at d;done))
  · have f:k < a.length:=by (simp only[oZ] at *;omega)
    obtain⟨x,n⟩:=get_some (l:=a) (k:=k) f;obtain⟨y,m⟩:=get_some (l:=b) (k:=k) (by omega);have q:=get_map (g:=Bs) n;have p:=get_map (g:=Bs) m;refine aK ?_;refine aS (aB ?_);(repeat first|refine aU rfl ?_);refine rG (Hg []) (by kernel_rfl) ?_;(repeat first|refine tA rfl ?_ |(refine s4 rfl ‹_› rfl ?_ ?_;omega) |refine s2 rfl λ_ d=>?_ |refine Aa ?_);(refine aC rfl ?_ ?_<;>rintro⟨⟩)
    all_goals first
      | ((repeat first|refine tA rfl ?_ |refine aU rfl ?_ |refine Aa ?_)
         refine aR ⟨_,rfl,?_⟩
         show E.o _=E.o _;congr;grind
         done)
      | (refine aK ?_
         (repeat first|(refine sA rfl ?_ ?_;first|exact tI|omega) |refine aU rfl ?_ |refine Aa ?_);refine⟨⟨k+1,by omega,by rw [d9,d9,n,m];grind⟩,by dsimp only;(omega),[],?_⟩
         simp[cX,zC,c])
  · refine aE ?_
    (repeat first|refine tA rfl ?_ |refine aU rfl ?_ |refine Aa ?_);refine aR ⟨_,rfl,?_⟩
    have i:a.length<=k:=by (simp only[oZ] at *;omega)
    rw [gc i,gc (by omega)] at e
    show E.o _=E.o _;congr;grind
theorem Wv(a b:List Bool):Pure Tryz.prog TB 39 [Pf a,Pf b] (eB (decide (a=b))):=by
  refine eN Tryz.func39 rfl (by kernel_rfl) rfl ?_;intro Z c;refine Aj.bound 0 rfl λj=>?_;have j:=j (a.map I9) .refl;rw [ge] at j;(repeat first|refine sN rfl ?_ |refine tA rfl ?_ |refine s2 rfl λ_ d=>?_ |refine aU rfl ?_ |refine Aa ?_);(refine aC rfl ?_ ?_<;>rintro⟨⟩)
  · (repeat first|refine tA rfl ?_ |refine aU rfl ?_ |refine Aa ?_)
    refine aR ⟨_,rfl,?_⟩
    have r:a≠b:=λh=>by subst h;(simp only[oZ] at *;omega)
    show E.o _=E.o _;congr;grind
  refine aK ?_
  have s:a.length=b.length:=by (simp only[oZ] at *;omega)
  (repeat first|refine tA rfl ?_ |refine aU rfl ?_ |refine Aa ?_);refine aB ?_;refine Aj.A5 (α:={k:Nat // k<=a.length/\a.take k=b.take k}) (λ⟨k,hk,e⟩=>[(0,Pf a),(1,Pf b),(5,eI .i64 k)]) (λ⟨k,hk,e⟩=>[]) 0 (λ⟨k,hk,e⟩=>a.length - k) (⟨0,by omega,by simp⟩) [] (Ee c rfl rfl) (by (simp[cX,zC,c])) ?_;rintro⟨k,hk,e⟩;(try dsimp only);(repeat first|refine sN rfl ?_ |refine tA rfl ?_ |refine s2 rfl λ_ d=>?_ |refine aU rfl ?_ |refine Aa ?_)
  ((refine aC rfl ?_ ?_<;>rintro⟨⟩);all_goals try (simp at d;done))
  · have f:k < a.length:=by (simp only[oZ] at *;omega)
    obtain⟨x,n⟩:=get_some (l:=a) (k:=k) f;obtain⟨y,m⟩:=get_some (l:=b) (k:=k) (by omega);have q:=get_map (g:=I9) n;have p:=get_map (g:=I9) m;refine aK ?_;refine aS (aB ?_);(repeat first|refine aU rfl ?_);refine rG (Hg []) (by kernel_rfl) ?_;(repeat first|refine tA rfl ?_ |(refine s4 rfl ‹_› rfl ?_ ?_;omega) |refine s2 rfl λ_ d=>?_ |refine Aa ?_);(refine aC rfl ?_ ?_<;>rintro⟨⟩)
    all_goals first
      | ((repeat first|refine tA rfl ?_ |refine aU rfl ?_ |refine Aa ?_)
         refine aR ⟨_,rfl,?_⟩
         show E.o _=E.o _;congr;grind
         done)
      | (refine aK ?_
         (repeat first|(refine sA rfl ?_ ?_;first|exact tI|omega) |refine aU rfl ?_ |refine Aa ?_);refine⟨⟨k+1,by omega,by rw [d9,d9,n,m];grind⟩,by dsimp only;(omega),[],?_⟩
         simp[cX,zC,c])
  · refine aE ?_
    (repeat first|refine tA rfl ?_ |refine aU rfl ?_ |refine Aa ?_);refine aR ⟨_,rfl,?_⟩
    have i:a.length<=k:=by (simp only[oZ] at *;omega)
    rw [gc i,gc (by omega)] at e
    show E.o _=E.o _;congr;grind
end Go.Am
namespace Go.Am
open Go
set_option linter.unusedVariables false
theorem bO{p:AY}(a:AI p=true):Ua (QE p) (LA p) p.al:=λw b c=>by
 unfold QE;rw [a,GS b c (AE a).1];rfl
theorem bQ{A L:W->Bool}{al:Int}{b:Nat}{t:A2}(h:Ua A L al)(ht:He al b t)(hb:b<=20100)(hk:Cb L (A4 al) t){w:W}(a:AS (A4 al) w):Kt A t w=Kt L t w:=by
 rw [<-Ou (hk.mO h ht hb) a,<-Ou hk a,Un h ht hb]
theorem XG{A L:W->Bool}{al:Int}{b:Nat}{t:A2}(h:Ua A L al)(ht:He al b t)(hb:b<=20100)(hk:Cb L (A4 al) t){w:W}(a:AS (A4 al) w)(c:w.length<=20000):CC A t w=CC L t w:=by
 have d:0 < t.rows.length:=(ce.1 hk.r0).1;unfold CC;rw [bQ h ht hb hk a,h w a (by omega),N8 h ht hb hk (L w) w 0 d a c]
end Go.Am
namespace Go.Am
open Go Go.Proofs
set_option maxHeartbeats 1000000
set_option maxRecDepth 4000
attribute [local irreducible] A3 Cp Lex Bl Aj Spec
variable {TB:BC}
theorem QG(a b:AY):Pure Tryz.prog TB 23 [Bj a,Bj b] (eB (decide (a.al=b.al/\a.nx=b.nx/\a.ac=b.ac))):=by
  have p:=Wv (TB:=TB) a.ac b.ac;refine eN Tryz.func23 rfl (by kernel_rfl) rfl ?_;intro Z d;refine Aj.bound 0 rfl λj=>?_;have j:=j (a.nx.map ES) ⟨1,_,rfl,.refl⟩;rw [ge] at j;(repeat first|refine tA rfl ?_ |refine s2 rfl λ_ c=>?_ |(refine sC rfl (p) ?_;intro _ c) |refine s3 rfl ?_ ?_<;>rintro rfl |refine aU rfl ?_ |refine Aa ?_);(repeat' first|refine sN rfl ?_ |refine tA rfl ?_ |refine s2 rfl λ_ c=>?_ |(refine sC rfl (p) ?_;intro _ c) |refine s3 rfl ?_ ?_<;>rintro rfl |refine aU rfl ?_ |refine Aa ?_|(refine aC rfl ?_ ?_<;>rintro⟨⟩))
  all_goals first
    | (refine aR ⟨_,rfl,?_⟩
       show E.o _=E.o _;congr;grind
       done)
    | skip
  · rename_i t bb e
    have u:a.ac=b.ac:=by simp at c;rw [c] at e;exact of_decide_eq_true e
    have hal:a.al=b.al:=by simpa using ‹decide (a.al≠b.al)=false›
    have s:a.nx.length=b.nx.length:=by (simp only[oZ] at *;omega)
    refine aK ?_;(repeat first|refine tA rfl ?_ |refine aU rfl ?_ |refine Aa ?_);refine aB ?_;refine Aj.A5 (α:={k:Nat // k<=a.nx.length/\a.nx.take k=b.nx.take k}) (λ⟨k,hk,f⟩=>[(2,.o (.ip (AP a))),(3,.o (.ip (AP b))),(5,eI .i64 k)]) (λ⟨k,hk,f⟩=>[]) 0 (λ⟨k,hk,f⟩=>a.nx.length - k) (⟨0,by omega,by simp⟩) [] (Ee d rfl rfl) (by (simp[cX,zC,d])) ?_;rintro⟨k,hk,f⟩;(try dsimp only);(repeat first|refine sN rfl ?_ |refine tA rfl ?_ |refine s2 rfl λ_ c=>?_ |refine aU rfl ?_ |refine Aa ?_)
    ((refine aC rfl ?_ ?_<;>rintro⟨⟩);all_goals try (simp at c;done))
    · have h:k < a.nx.length:=by (simp only[oZ] at *;omega)
      obtain⟨x,n⟩:=get_some (l:=a.nx) (k:=k) h;obtain⟨y,m⟩:=get_some (l:=b.nx) (k:=k) (by omega);have r:=get_map (g:=ES) n;have q:=get_map (g:=ES) m;have v:=ZC (TB:=TB) x y;refine aK ?_;refine aS (aB ?_);(repeat first|refine aU rfl ?_);refine rG (Hg []) (by kernel_rfl) ?_;(repeat first|refine tA rfl ?_ |(refine s4 rfl ‹_› rfl ?_ ?_;omega) |refine s2 rfl λ_ c=>?_ |(refine sC rfl (v) ?_;intro _ c) |refine Aa ?_);(refine aC rfl ?_ ?_<;>rintro⟨⟩)
      all_goals first
        | ((repeat first|refine tA rfl ?_ |refine aU rfl ?_ |refine Aa ?_)
           refine aR ⟨_,rfl,?_⟩
           show E.o _=E.o _;congr;grind
           done)
        | (refine aK ?_
           (repeat first|(refine sA rfl ?_ ?_;first|exact tI|omega) |refine aU rfl ?_ |refine Aa ?_);refine⟨⟨k+1,by omega,by rw [d9,d9,n,m];grind⟩,by dsimp only;(omega),[],?_⟩
           simp[cX,zC,d])
    · refine aE ?_
      (repeat first|refine tA rfl ?_ |refine aU rfl ?_ |refine Aa ?_);refine aR ⟨_,rfl,?_⟩
      have i:a.nx.length<=k:=by (simp only[oZ] at *;omega)
      rw [gc i,gc (by omega)] at f
      show E.o _=E.o _;congr;grind
end Go.Am
namespace Go.Am
open Go
set_option linter.unusedVariables false
end Go.Am
namespace Go.Am
open Go Go.Proofs
set_option maxHeartbeats 1000000
set_option maxRecDepth 4000
attribute [local irreducible] A3 Cp Lex Bl Aj Spec
variable {TB:BC}
structure nE (te:EF):Prop where
 pn:te.p.nx.length<=1048576
 pa:te.p.ac.length<=1048576
 pr:∀r∈te.p.nx,r.length<=1048576
 es:te.s.es.length<=1048576
 qn:te.q.nx.length<=1048576
 qa:te.q.ac.length<=1048576
 qr:∀r∈te.q.nx,r.length<=1048576
end Go.Am
namespace Go.Am
open Go
set_option linter.unusedVariables false
section
variable {α:Type}{f:Nat->α}{l:List α}{i:Nat}
end
end Go.Am
