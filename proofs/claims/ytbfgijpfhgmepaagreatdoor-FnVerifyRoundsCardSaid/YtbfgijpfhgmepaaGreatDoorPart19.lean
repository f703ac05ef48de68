/-
  Lists of words: copies, whether a word is in one.
-/
import Derived.Test.YtbfgijpfhgmepaaGreatDoorPart18
import Derived.Test.YtbfgijpfhgmepaaGreatDoorPart16
import Derived.Test.YtbfgijpfhgmepaaGreatDoorPart9
import Derived.Test.YtbfgijpfhgmepaaGreatDoorPart14
import Derived.Test.YtbfgijpfhgmepaaGreatDoorPart15
import Derived.Test.YtbfgijpfhgmepaaGreatDoorPart17
set_option linter.constructorNameAsVariable false
set_option linter.unusedSectionVars false
set_option linter.unusedSimpArgs false
set_option linter.unusedVariables false
namespace Go.Am
open Go Go.Proofs
set_option maxHeartbeats 1000000
attribute [local irreducible] AX Cb Lex Bh Aj Spec
variable {TB:Bz}
theorem KR(l:List W)(h:l.length<=1048576):Spec Tryz.prog TB 157 [] 0 [BO l] (λx σ nx=>x=.o (.arr 0 1 0 l.length)/\nx=1/\σ=[(0,.cells 9 1 (l.map Ed))]):=by
 refine eN Tryz.func157 rfl (by kernel_rfl) rfl ?_;intro Z b;(repeat first|refine aU rfl ?_);(refine Ag rfl ?_;refine CB (λ_ _=>CG rfl) rfl ?_);(repeat first|refine tM rfl ?_ |refine aU rfl ?_ |refine Aa ?_);(refine pW rfl ?_ rfl (by rfl);refine Lh rfl ?_;intro e c);(repeat first|refine Aa ?_);(refine aC rfl ?_ ?_<;>rintro⟨⟩)
 ·obtain rfl:l=[]:=by simpa using c rfl
  (repeat first|refine aU rfl ?_);(refine pW rfl ?_ rfl (by rfl);refine Hc 1 9 ?_);(repeat first|refine Aa ?_);refine aR ⟨_,rfl,rfl,rfl,rfl⟩
 ·refine aK ?_
  (repeat first|refine aU rfl ?_);(refine pW rfl ?_ rfl (by rfl);refine Bf rfl rfl rfl rfl (by simp) (by rfl) (by rfl) (by rfl) (by rfl) ?_);(repeat first|refine tM rfl ?_);(refine pW rfl ?_ rfl (by rfl);refine Al rfl rfl rfl (by first| (simp;done)|(simp;(omega))) rfl (by intro r d;simp at d;obtain⟨a,_,rfl⟩:=d;rfl) (by rfl) (am rfl) (by simp;omega) ?_);(repeat first|refine tM rfl ?_ |refine Aa ?_);refine Aj.names [1] [(2,.o (.arr 0 1 0 l.length))] [(0,.cells 9 1 (l.map Ed))] (by intro i hi;rw [b] at hi;omega) (by simp) (by simp[cX,zC,b]) (by simp[cX,zC,b]) ?_;refine aR ⟨_,rfl,rfl,rfl,rfl⟩
theorem bH(l:List W)(s:W):Pure Tryz.prog TB 209 [BO l,eT s] (eI .i64 (if s∈l then (l.idxOf s:Int) else -1)):=by
 refine eN Tryz.func209 rfl (by kernel_rfl) rfl ?_;intro Z a;refine Aj.bound 0 rfl λj=>?_;have o:=j (l.map CN) .refl;(repeat first|refine sN rfl ?_ |refine tM rfl ?_ |refine aU rfl ?_ |refine Aa ?_);refine aB ?_;refine Aj.A2 (α:={k:Nat // k<=l.length/\s∉l.take k}) (λ⟨k,hk,b⟩=>[(0,BO l),(1,eT s),(7,eI .i64 l.length),(8,eI .i64 k)]) (λ⟨k,hk,b⟩=>[]) 0 (λ⟨k,hk,b⟩=>l.length - k) (⟨0,by omega,by simp⟩) [] (DV a rfl rfl) (by (simp[cX,zC,a])) ?_;rintro⟨k,hk,b⟩;(try dsimp only);(repeat first|refine s2 rfl λ_ c=>?_ |refine aU rfl ?_ |refine Aa ?_);(refine aC rfl ?_ ?_<;>rintro⟨⟩)
 ·have h:k < l.length:=by (simp only[oZ] at *;omega)
  obtain⟨x,d⟩:=get_some (l:=l) (k:=k) h;have m:=get_map (g:=CN) d;refine aK ?_;refine aS (aB ?_);(repeat first|refine tM rfl ?_ |(refine s4 rfl ‹_› rfl ?_ ?_;omega) |refine s2 rfl λ_ c=>?_ |refine aU rfl ?_ |refine Aa ?_);(refine aC rfl ?_ ?_<;>rintro⟨⟩)
  ·have i:s=x:=by (simp only[oZ] at *;omega)
   subst i;(repeat first|refine tM rfl ?_ |refine aU rfl ?_ |refine Aa ?_);refine aR ⟨_,rfl,?_⟩;have n:s∈l:=co d
   have hi:l.idxOf s=k:=by
    have e:l=l.take k++s::l.drop (k+1):=by rw [<-BA d,nZ]
    rw [e,qM,if_neg b,qw];simp;omega
   rw [if_pos n,hi]
  ·have i:¬s=x:=by simpa using c
   have f:s∉l.take (k+1):=by
    rw [d8,d];simp [b,i]
   refine aK ?_;(repeat first|(refine sM rfl ?_ ?_;first|exact tI|simp only[oZ] at *;omega) |refine aU rfl ?_ |refine Aa ?_);refine⟨⟨k+1,by omega,f⟩,by dsimp only;(omega),[],?_⟩;simp[cX,zC,a]
 ·obtain rfl:k=l.length:=by (simp only[oZ] at *;omega)
  rw [io] at b;refine aE ?_;(repeat first|refine tM rfl ?_ |refine aU rfl ?_ |refine Aa ?_);refine aR ⟨_,rfl,?_⟩;rw [if_neg b]
theorem Nb(l:List W)(s:W):Pure Tryz.prog TB 167 [BO l,eT s] (eB (decide (s∈l))):=by
 refine eN Tryz.func167 rfl (by kernel_rfl) rfl ?_;intro Z b;(repeat' first|refine tA rfl ?_ |refine s2 rfl λ_ a=>?_ |refine sP rfl (bH l s) rfl ?_ |refine aU rfl ?_ |refine Aa ?_|(refine aC rfl ?_ ?_<;>rintro⟨⟩)|refine aK ?_|refine aE ?_|refine aB ?_|refine aR ⟨_,rfl,?_⟩)
 all_goals (show E.o _=E.o _;congr;subst a;by_cases h:s∈l<;>simp [h])
def Fy(t:A0)(col:W):Option A0:=if t.cols.length=20\/col∈t.cols then none else some ⟨t.rows,t.cols++[col]⟩
def Iz(o:Option A0):E:=match o with
 | some t=>.t [(true,[.d (BW t.rows),.d (BW t.cols)]),(false,[.d (bD true)])]
 | none=>.t [(true,[.d (.l []),.d (.l [])]),(false,[.d (bD false)])]
theorem RI(t:A0)(col:W)(g:t.rows.length<=4096)(p:t.cols.length<=4096):Pure Tryz.prog TB 114 [DY t,eT col] (Iz (Fy t col)):=by
 have m:=KR (TB:=TB) t.rows (by omega);have k:=KR (TB:=TB) t.cols (by omega);refine AR.Ho (AR.ofM 2 (jp _) Tryz.func114 rfl rfl (by kernel_rfl) (am rfl) ?_);intro Z a;(repeat first|refine aU rfl ?_);(refine Ag rfl ?_;refine CB (λ_ _=>C4 rfl rfl rfl) rfl ?_);(repeat first|refine sN rfl ?_ |refine tM rfl ?_ |refine s2 rfl λ_ b=>?_ |(refine sC rfl (Nb t.cols col) ?_;intro _ b) |refine s3 rfl ?_ ?_<;>rintro rfl |refine aU rfl ?_ |refine Aa ?_)
 ·(refine aC rfl ?_ ?_<;>rintro⟨⟩)
  have c:Fy t col=none:=by unfold Fy;rw [if_pos (.inl (by (simp only[oZ] at *;omega)))]
  (repeat first|refine tM rfl ?_|(refine Ag rfl ?_;refine gA rfl ?_;first| refine gS (λ_ _=>AF rfl rfl (by rfl) (by rfl)) ?_) |refine aU rfl ?_ |refine Aa ?_);refine Aj.freeze [0] [(4,.o (.ip [.l [],.l []])),(5,eB false)] ⟨⟨_,rfl,.o (.ptr (by simp) rfl rfl rfl)⟩,⟨_,rfl,.AQ⟩,trivial⟩ ?_;refine aR ⟨_,rfl,?_⟩;rw [c];rfl
 (repeat first|refine tM rfl ?_ |(refine sC rfl (Nb t.cols col) ?_;intro _ b) |refine Aa ?_);(refine aC rfl ?_ ?_<;>rintro⟨⟩)
 ·have c:Fy t col=none:=by unfold Fy;rw [if_pos (.inr (by (simp only[oZ] at *;omega)))]
  (repeat first|refine tM rfl ?_|(refine Ag rfl ?_;refine gA rfl ?_;first| refine gS (λ_ _=>AF rfl rfl (by rfl) (by rfl)) ?_) |refine aU rfl ?_ |refine Aa ?_);refine Aj.freeze [0] [(4,.o (.ip [.l [],.l []])),(5,eB false)] ⟨⟨_,rfl,.o (.ptr (by simp) rfl rfl rfl)⟩,⟨_,rfl,.AQ⟩,trivial⟩ ?_;refine aR ⟨_,rfl,?_⟩;rw [c];rfl
 ·refine aK ?_
  refine aS ?_;refine rG (mj [0,1,3,4,6,7,2,5,8,9,10,11] [2,5,8,10] [0,1,3,4,6,7]) (by kernel_rfl) ?_;(repeat first|refine tA rfl ?_);(refine pW rfl ?_ rfl (by rfl);refine Ai [] rfl rfl m ⟨rfl,by simp,by simp⟩ rfl trivial ?_;rintro n e f ⟨rfl,rfl,rfl⟩ _);(refine pW rfl ?_ rfl (by rfl);refine Ai [] rfl rfl k ⟨rfl,by simp,by simp⟩ rfl trivial ?_;rintro n e f ⟨rfl,rfl,rfl⟩ _);(refine pW rfl ?_ rfl (by rfl);refine Al rfl rfl rfl (by first| (simp;done)|(simp;(omega))) rfl (by intro r g;simp at g;subst g;rfl) (by rfl) (am rfl) (by simp;omega) ?_);(repeat first|refine tA rfl ?_|(refine Ag rfl ?_;refine gA rfl ?_;first| refine gS (λ_ _=>AF rfl rfl (by rfl) (by rfl)) ?_) |refine Aa ?_)
  have j:col∉t.cols:=by simpa using b
  have c:Fy t col=some ⟨t.rows,t.cols++[col]⟩:=by
   unfold Fy;rw [if_neg];rintro(h|h)
   ·(simp only[oZ] at *;omega)
   ·exact j h
  refine Aj.names [0,1,3] [(4,.o (.ptr 0 2 0 0)),(5,eB true)] [(0,.cells 99 2 [[.arr 1 1 0 t.rows.length,.arr 2 1 0 (t.cols.length+1)]]),(1,.cells 9 1 (t.rows.map Ed)),(2,.cells 9 1 ((t.cols++[col]).map Ed))] (by intro i hi;rw [a] at hi;omega) (by simp) (by simp[cX,zC,a,IA]) (by simp[cX,zC,a,IA,Ab.Be,BU,BN,eC,Ae]) ?_;refine Aj.NZ [1,2] [(4,.o (.ptr 0 2 0 0)),(5,eB true)] [(0,.cells 99 2 [[.d (BW t.rows),.d (BW (t.cols++[col]))]])] ⟨⟨_,rfl,.AQ⟩,⟨_,rfl,.AQ⟩,trivial⟩ ⟨⟨_,rfl,by simp,.cons (.full (by simp) rfl (by simp [d5]) (by simp)) (.cons (.full (by simp) rfl (by simp [d5]) (by simp)) .nil)⟩,trivial⟩ ?_;refine Aj.freeze [0] [(4,.o (.ip [BW t.rows,BW (t.cols++[col])])),(5,eB true)] ⟨⟨_,rfl,.o (.ptr (by simp) rfl rfl rfl)⟩,⟨_,rfl,.AQ⟩,trivial⟩ ?_;refine aR ⟨_,rfl,?_⟩;rw [c];rfl
structure GU (al:Int) (b:Nat) (t:A0):Prop where
 onR:∀w∈t.rows,AT (A6 al) w/\w.length<=b
 onC:∀x∈t.cols,AT (A6 al) x/\x.length<=20000
 rl:t.rows.length<=12
 cl:t.cols.length<=20
def RG(ok:W->Prop)(al:Int):Prop:=∀w,AT (A6 al) w->w.length<=50000->ok w
def MY(ls:List UInt8)(t:A0)(v:W):Prop:=∃r∈t.rows,∃m:W,(m=[]\/∃l∈ls,m=[l])/\∃x:W,(x=[]\/x∈t.cols)/\v=r++m++x
def IL(ok:W->Prop)(ls:List UInt8)(t:A0):Prop:=∀v,MY ls t v->ok v
def EK(L:W->Bool)(ls:List UInt8):Nat->A0->List A0
 | 0,t=>[t]
 | n+1,t=>t::match Bg L ls t with
  | none=>[]
  | some w=>if t.rows.length=12 then [] else EK L ls n ⟨t.rows++[w],t.cols⟩
theorem VK{L:W->Bool}{ls:List UInt8}{n:Nat}{t:A0}:t∈EK L ls n t:=by cases n<;>simp [EK]
theorem GU.gT{ok:W->Prop}{al:Int}{b:Nat}{t:A0}(h:GU al b t)(d:IL ok (A6 al) t)(hb:b<=20100):aq ok t/\∀w∈t.rows,∀l∈A6 al,∀x∈t.cols,ok (w++[l]++x):=
  ⟨⟨λw c x a=>d _ ⟨w,c,[],.inl rfl,x,.inr a,by simp⟩,λw c=>by have:=(h.onR w c).2;omega,λx a=>by have:=(h.onC x a).2;omega,by have:=h.rl;omega,by have:=h.cl;omega⟩,
   λw c l e x a=>d _ ⟨w,c,[l],.inr ⟨l,e,rfl⟩,x,.inr a,rfl⟩⟩
theorem GU.on{ok:W->Prop}{al:Int}{b:Nat}{t:A0}(h:GU al b t)(i:RG ok al)(hb:b<=20100):IL ok (A6 al) t:=by
 rintro v ⟨r,e,m,f,x,d,rfl⟩;have n:=h.onR r e
 have k:AT (A6 al) m/\m.length<=1:=by
  rcases f with rfl|⟨l,g,rfl⟩
  ·exact⟨λc a=>by simp at a,by simp⟩
  ·exact⟨λc a=>by simp at a;subst a;exact g,by simp⟩
 have j:AT (A6 al) x/\x.length<=20000:=by
  rcases d with rfl|d
  ·exact⟨λc a=>by simp at a,by simp⟩
  ·exact h.onC x d
 refine i _ (λc a=>?_) (by simp;omega);simp only [em] at a
 rcases a with (a|a)|a
 ·exact n.1 c a
 ·exact k.1 c a
 ·exact j.1 c a
theorem GU.push{L:W->Bool}{al:Int}{b:Nat}{t:A0}{w:W}(h:GU al b t)(g:Bg L (A6 al) t=some w)(i:t.rows.length < 12):GU al (b+1) ⟨t.rows++[w],t.cols⟩:=by
 obtain⟨⟨r,f,l,e,rfl⟩,_⟩:=Il g;refine⟨λu a=>?_,h.onC,by simp;omega,h.cl⟩
 rcases em.1 a with a|a
 ·have:=h.onR u a;exact⟨this.1,by omega⟩
 ·simp at a
  subst a;have:=h.onR r f;refine⟨λc d=>?_,by simp;omega⟩
  rcases em.1 d with d|d
  ·exact this.1 c d
  ·simp at d;subst d;exact e
theorem GU.grow{L:W->Bool}{al:Int}:∀ {n b:Nat} {t y:A0},GU al b t->y∈EK L (A6 al) n t->GU al (b+n) y
 | 0,b,t,y,h,a=>by simp [EK] at a;subst a;exact h
 | n + 1, b,t,y,h,a=>by
  have f:∀ {b':Nat} {z:A0},b'<=b+(n+1)->GU al b' z->GU al (b+(n+1)) z:=λhb c=>⟨λw e=>⟨(c.onR w e).1,li (c.onR w e).2 hb⟩,c.onC,c.rl,c.cl⟩
  unfold EK at a
  rcases ng.1 a with rfl|a
  ·exact f (by omega) h
  ·cases d:Bg L (A6 al) t with
   | none=>rw [d] at a;simp at a
   | some w=>
    rw [d] at a;dsimp only at a;split at a
    ·simp at a
    ·have:=h.rl
     exact f (by omega) (GU.grow (h.push d (by omega)) a)
theorem GU.mr{L:W->Bool}{ok:W->Prop}{al:Int}{b:Nat}{t:A0}(h:GU al b t)(c:RG ok al)(hb:b<=20000):∀y∈EK L (A6 al) 13 t,IL ok (A6 al) y:=λy a=>(h.grow a).on c (by omega)
theorem IS{c:C}{L:W->Bool}{ok:W->Prop}(K:JK Tryz.prog TB c L ok)(al:Int)(t:A0)(Y:∀y∈EK L (A6 al) 13 t,IL ok (A6 al) y)(ht:GU al 20000 t) :
 Pure Tryz.prog TB 107 [IV al c,DY t] (Iz (Bo L (A6 al) 13 t)):=by
 have v:=ES c K.Cj;have V:=ht.rl;have hcl:=ht.cl;have J:=KR (TB:=TB) t.rows (by omega);have I:=KR (TB:=TB) t.cols (by omega);refine AR.Ho (AR.ofM 2 (jp _) Tryz.func107 rfl rfl (by kernel_rfl) (am rfl) ?_);intro Z b;(repeat first|refine aU rfl ?_);(refine pW rfl ?_ rfl (by rfl);refine C5 rfl rfl ?_);(refine Ag rfl ?_;refine CB (λ_ _=>C4 rfl rfl rfl) rfl ?_);(repeat first|refine tM rfl ?_ |refine aU rfl ?_ |refine Aa ?_);refine R.Qj [(7,3),(0,2),(1,2),(3,2),(4,2),(2,1),(5,1),(6,0),(8,5)] mixed (by kernel_rfl) rfl (by kernel_rfl) ?_;(repeat ((refine R.Ag rfl ?_;first|(refine R.yQ (md:=false) rfl rfl rfl ?_ ?_;exact tI) |refine R.yP rfl rfl rfl rfl ?_ )));(refine R.Ag rfl ?_;refine R.JQ (λ_=>?_) rfl rfl;refine Ai [] rfl rfl J ⟨rfl,by simp,by simp⟩ rfl trivial ?_;rintro P F G ⟨rfl,rfl,rfl⟩ _);(refine R.Ag rfl ?_;refine R.JQ (λ_=>?_) rfl rfl;refine Ai [] rfl rfl I ⟨rfl,by simp,by simp⟩ rfl trivial ?_;rintro P F G ⟨rfl,rfl,rfl⟩ _);(repeat ((refine R.Ag rfl ?_;first|refine R.yA rfl rfl rfl rfl ?_|refine R.CB (λ_ _ _=>AF rfl rfl (by rfl) (by rfl)) rfl rfl ?_ )));refine R.Qe ?_;refine aB ?_
 have Q:∀x:A0,Bg L (A6 al) x=none\/∃w,Bg L (A6 al) x=some w:=λx=>by cases Bg L (A6 al) x<;>simp
 refine Aj.A2 (α:={p:Nat×A0 // p.1<=13/\13<=p.1+p.2.rows.length/\GU al (20000+p.2.rows.length) p.2/\Bo L (A6 al) 13 t=Bo L (A6 al) p.1 p.2/\∀y∈EK L (A6 al) p.1 p.2,IL ok (A6 al) y}) (λ⟨⟨m,u⟩,B,f,j,q,e⟩=>[(2,.o (.ptr 0 2 0 0)),(4,.o (.ptr 1 2 0 0)),(6,.o (.ptr 4 2 0 0))]) (λ⟨⟨m,u⟩,B,f,j,q,e⟩=>[(0,.cells 92 2 [[.d (iD al),c]]),(1,.cells 99 2 [[.d (.l []),.d (.l [])]]),(2,.cells 9 1 (u.rows.map Ed)),(3,.cells 9 1 (u.cols.map Ed)),(4,.cells 99 2 [[.arr 2 1 0 u.rows.length,.arr 3 1 0 u.cols.length]])]) 5 (λ⟨⟨m,u⟩,B,f,j,q,e⟩=>m) (⟨(13,t),by simp,by simp,⟨λw N=>⟨(ht.onR w N).1,by have:=(ht.onR w N).2;omega⟩,ht.onC,ht.rl,ht.cl⟩,rfl,Y⟩) [0,1,2,3,4] (DV b rfl rfl) (by (simp[cX,zC,b,v,eC,Ab.Be,BU,IA,BN,Ae])) ?_;rintro⟨⟨m,u⟩,B,f,j,q,e⟩;(try dsimp only);dsimp only at B f j q e
 have s:∀l:List W,((l.map Ed).drop 0).take l.length=(l.map CN).map (λr=>r.map C.d):=λl=>by rw [nX,ge (by simp)];simp [d5]
 have T:=j.rl;have U:=j.cl;have n:=j.gT (e u VK) (by omega);have g:=RY (TB:=TB) K al u n.1 n.2
 have A:gE [(0,.cells 92 2 [[.d (iD al),c]]),(1,.cells 99 2 [[.d (.l []),.d (.l [])]]),(2,.cells 9 1 (u.rows.map Ed)),(3,.cells 9 1 (u.cols.map Ed)),(4,.cells 99 2 [[.arr 2 1 0 u.rows.length,.arr 3 1 0 u.cols.length]])] [.a [.d (iD al),c],.a [.arr 2 1 0 u.rows.length,.arr 3 1 0 u.cols.length]] [IV al c,DY u]:=
  .cons (.cons (.pure rfl) (.cons (.pure K.Cj) .nil)) (.cons (.cons (.arr rfl (by simp) (s _)) (.cons (.arr rfl (by simp) (s _)) .nil)) .nil)
 refine aB ?_
 rcases Q u with k|⟨w,k⟩
 ·rw [k] at g
  (repeat first|refine tM rfl ?_ |refine s2 rfl λ_ h=>?_|(refine Ag rfl ?_;refine gA rfl ?_;first| refine gQ (Io rfl rfl (A) (g) rfl) rfl ?_) |refine aU rfl ?_ |refine Aa ?_);(refine aC rfl ?_ ?_<;>rintro⟨⟩)
  ·(repeat first|refine tM rfl ?_ |refine aU rfl ?_ |refine Aa ?_)
   have z:Bo L (A6 al) 13 t=some u:=by
    rw [q]
    obtain⟨m',rfl⟩:∃m',m=m'+1:=⟨m - 1,by omega⟩
    simp [Bo,k]
   refine Aj.names [1,2,3] [(4,.o (.ptr 0 2 0 0)),(5,eB true)] [(0,.cells 99 2 [[.arr 1 1 0 u.rows.length,.arr 2 1 0 u.cols.length]]),(1,.cells 9 1 (u.rows.map Ed)),(2,.cells 9 1 (u.cols.map Ed))] (by intro i hi;rw [b] at hi;omega) (by simp) (by simp[cX,zC,b,IA]) (by simp[cX,zC,b,IA,Ab.Be,BU,BN,eC,Ae]) ?_;refine Aj.NZ [1,2] [(4,.o (.ptr 0 2 0 0)),(5,eB true)] [(0,.cells 99 2 [[.d (BW u.rows),.d (BW u.cols)]])] ⟨⟨_,rfl,.AQ⟩,⟨_,rfl,.AQ⟩,trivial⟩ ⟨⟨_,rfl,by simp,.cons (.full (by simp) rfl (by simp [d5]) (by simp)) (.cons (.full (by simp) rfl (by simp [d5]) (by simp)) .nil)⟩,trivial⟩ ?_;refine Aj.freeze [0] [(4,.o (.ip [BW u.rows,BW u.cols])),(5,eB true)] ⟨⟨_,rfl,.o (.ptr (by simp) rfl rfl rfl)⟩,⟨_,rfl,.AQ⟩,trivial⟩ ?_;refine aR ⟨_,rfl,?_⟩;rw [z];rfl
  ·simp at h
 ·rw [k] at g
  (repeat first|refine tM rfl ?_ |refine s2 rfl λ_ h=>?_|(refine Ag rfl ?_;refine gA rfl ?_;first| refine gQ (Io rfl rfl (A) (g) rfl) rfl ?_) |refine aU rfl ?_ |refine Aa ?_);(refine aC rfl ?_ ?_<;>rintro⟨⟩)
  ·simp at h
  ·refine aK ?_
   (repeat first|refine tM rfl ?_ |refine s2 rfl λ_ h=>?_ |refine aU rfl ?_ |refine Aa ?_);(refine aC rfl ?_ ?_<;>rintro⟨⟩)
   ·(repeat first|refine tM rfl ?_|(refine Ag rfl ?_;refine gA rfl ?_;first| refine gS (λ_ _=>AF rfl rfl (by rfl) (by rfl)) ?_) |refine aU rfl ?_ |refine Aa ?_)
    have z:Bo L (A6 al) 13 t=none:=by
     have M:u.rows.length=12:=by (simp only[oZ] at *;omega)
     rw [q]
     obtain⟨m',rfl⟩:∃m',m=m'+1:=⟨m - 1,by omega⟩
     simp [Bo,k,M]
    refine Aj.freeze [1] [(4,.o (.ip [.l [],.l []])),(5,eB false)] ⟨⟨_,rfl,.o (.ptr (by simp) rfl rfl rfl)⟩,⟨_,rfl,.AQ⟩,trivial⟩ ?_;refine aR ⟨_,rfl,?_⟩;rw [z];rfl
   ·refine aK ?_
    have H:u.rows.length < 12:=by (simp only[oZ] at *;omega)
    obtain⟨m',rfl⟩:∃m',m=m'+1:=⟨m - 1,by omega⟩
    have z:Bo L (A6 al) 13 t=Bo L (A6 al) m' ⟨u.rows++[w],u.cols⟩:=by
     rw [q]
     conv=>lhs;unfold Bo
     rw [k];dsimp only;rw [if_neg (by omega)]
    have X:=j.push k H;(repeat first|refine tA rfl ?_ |refine aU rfl ?_);(refine pW rfl ?_ rfl (by rfl);refine Al rfl rfl rfl (by first| (simp;done)|(simp;(omega))) rfl (by intro r v;simp at v;subst v;rfl) (by rfl) (am rfl) (by simp;omega) ?_);(repeat first|refine tM rfl ?_ |refine Aa ?_);refine⟨⟨⟨m',⟨u.rows++[w],u.cols⟩⟩,by dsimp only;omega,by simp;omega,by simpa [nE] using X,z,λy S=>e y (by unfold EK;rw [k];dsimp only;rw [if_neg (by omega)];exact ny _ S)⟩,by dsimp only;(omega),[0,1,5,3,4],?_⟩;simp[cX,zC,b,v,eC,Ab.Be,BU,IA,BN,Ae]
def Bu:A0:=⟨[[]],[[]]⟩
theorem JG(al:Int):GU al 20000 Bu:=by
 refine⟨λw a=>?_,λw a=>?_,by decide,by decide⟩<;>(simp [Bu] at a;subst a;exact⟨λc b=>by simp at b,by simp⟩)
theorem So{c:C}{L:W->Bool}{ok:W->Prop}(b:JK Tryz.prog TB c L ok)(al:Int)(e:∀y∈EK L (A6 al) 13 Bu,IL ok (A6 al) y) :
 Pure Tryz.prog TB 60 [IV al c] (Iz (Bo L (A6 al) 13 Bu)):=by
 have f:=ES c b.Cj;have h:=IS b al Bu e (JG al);refine AR.Ho (AR.ofM 2 (jp _) Tryz.func60 rfl rfl (by kernel_rfl) (am rfl) ?_);intro Z d;generalize Bo L (A6 al) 13 Bu=o at h |-;(repeat first|refine aU rfl ?_);(refine pW rfl ?_ rfl (by rfl);refine C5 rfl rfl ?_);(repeat first|refine tM rfl ?_ |refine aU rfl ?_ |refine Aa ?_)
 have a:([IV al c,DY Bu].all E.Cj && C.Dg [])=true:=by simp [IV,DY,E.Cj,C.Dg,C.Cj,b.Cj]
 cases o with
 | none=>
  (repeat first|refine tA rfl ?_|(refine Ag rfl ?_;refine gA rfl ?_;first| refine gS (λ_ _=>Bt rfl rfl a h rfl) ?_|refine gS (λ_ _=>AF rfl rfl (by rfl) (by rfl)) ?_) |refine Aa ?_);refine Aj.freeze [1] [(2,.o (.ip [.l [],.l []])),(3,eB false)] ⟨⟨_,rfl,.o (.ptr (by simp) rfl rfl rfl)⟩,⟨_,rfl,.AQ⟩,trivial⟩ ?_;refine aR ⟨_,rfl,?_⟩;rfl
 | some u=>
  (repeat first|refine tA rfl ?_|(refine Ag rfl ?_;refine gA rfl ?_;first| refine gS (λ_ _=>Bt rfl rfl a h rfl) ?_|refine gS (λ_ _=>AF rfl rfl (by rfl) (by rfl)) ?_) |refine Aa ?_);refine Aj.freeze [1] [(2,.o (.ip [BW u.rows,BW u.cols])),(3,eB true)] ⟨⟨_,rfl,.o (.ptr (by simp) rfl rfl rfl)⟩,⟨_,rfl,.AQ⟩,trivial⟩ ?_;refine aR ⟨_,rfl,?_⟩;rfl
def AY(L:W->Bool)(al:Int)(t:A0):AZ:=⟨al,t.rows.map λr=>(Ac al).map λl=>((Da L t (r++[lb l]):Nat):Int),t.rows.map L⟩
theorem Ud{L:W->Bool}{al:Int}{t:A0}(b:Bg L (A6 al) t=none){r:W}(a:r∈t.rows){l:Int}(d:l∈Ac al) :
 (CQ (BT L t t.rows.length) (marks L t.cols (r++[lb l]))).getD 0=((Da L t (r++[lb l]):Nat):Int):=by
 have c:marks L t.cols (r++[lb l])∈AJ L t:=by
  have:=pe.1 b (r++[lb l]) (by
   unfold CM
   exact ow.2 ⟨r,a,d9.2 ⟨lb l,d9.2 ⟨l,d,rfl⟩,rfl⟩⟩)
  simpa using this
 rw [Um,if_pos c];rfl
end Go.Am
namespace Go.Am
set_option linter.unusedVariables false
theorem Zw(L:W->Bool)(cols:List W)(v w:W):marks L (cols++[v]) w=marks L cols w++[QR (L (w++v))]:=by simp [marks]
theorem BX.row{L:W->Bool}{ls:List UInt8}{t:A0}(h:BX L ls t){i j:Nat}{r s:W}(hi:t.rows[i]? = some r)(g:t.rows[j]? = some s)(k:marks L t.cols r=marks L t.cols s):i=j:=by
 have d:(AJ L t)[i]? = some (marks L t.cols r):=by simp [AJ,hi]
 have c:(AJ L t)[j]? = some (marks L t.cols r):=by simp [AJ,g,k]
 have l1:=(ce.1 d).1;have l2:=(ce.1 c).1;have f:=(ce.1 d).2;have e:=(ce.1 c).2;have b:=nn.1 h.nd
 rcases qe i j with a|a|a
 ·exact absurd (f.trans e.symm) (b i j l1 l2 a)
 ·exact a
 ·exact absurd (e.trans f.symm) (b j i l2 l1 a)
structure Split (L:W->Bool) (ls:List UInt8) (t:A0) (u v:W):Prop where
 suf:∃p,p≠[]/\u=p++v
 new:v∉t.cols
 opens:∃r∈t.rows,∃c∈ls,marks L (t.cols++[v]) (r++[c])∉AJ L ⟨t.rows,t.cols++[v]⟩
theorem UQ{L:W->Bool}{ls:List UInt8}{t:A0}(h:BX L ls t)(b:Bool):∀(u:W) (i:Nat) (r:W),AT ls u->t.rows[i]? = some r->L (r++u)=b->L (t.rows.getD (runM L t i u) [])≠b->∃v,splitAt L t b i u=some v/\Split L ls t u v
 | [],i,r,_,hi,hb,z=>by
  have a:t.rows.getD i []=r:=by simp [hi]
  rw [nO] at hb;exact absurd (by show L (t.rows.getD i [])=b;rw [a];exact hb) z
 | c :: v,i,r,A,hi,hb,z=>by
  have F:c∈ls:=A c (by simp)
  have j:t.rows.getD i []=r:=by simp [hi]
  obtain⟨r',a,G⟩:=h.idx hi F
  have g:t.rows.getD (Da L t (r++[c])) []=r':=by simp [a]
  unfold splitAt;rw [j,g];by_cases k:L (r'++v)≠b
  ·rw [if_pos k]
   have n:r++c::v=(r++[c])++v:=by simp
   have f:L ((r++[c])++v)≠L (r'++v):=by rw [<-n,hb];exact λe=>k e.symm
   refine⟨v,rfl,⟨[c],by simp,rfl⟩,λl=>f ((bP.1 G v l).symm),r,co hi,c,F,λl=>?_⟩;unfold AJ at l;obtain⟨s,I,B⟩:=d9.1 l;simp only [Zw] at B;obtain⟨S,R⟩:=List.append_inj' B rfl;obtain⟨q,J,o⟩:=nB I
   have d:t.rows[q]? = some s:=by rw [d6 J,o]
   have:=h.row d a (S.trans G.symm);subst this;rw [d] at a
   injection a with a
   subst a
   have Q:QR (L (s++v))=QR (L (r++[c]++v)):=by simpa using R
   exact f (XN Q).symm
  ·rw [if_neg k]
   have m:L (r'++v)=b:=by simpa using k
   have y:L (t.rows.getD (runM L t (Da L t (r++[c])) v) [])≠b:=by
    have:runM L t i (c::v)=runM L t (Da L t (r++[c])) v:=by show runM L t (Da L t (t.rows.getD i []++[c])) v=_;rw [j]
    rwa [this] at z
   obtain⟨w,P,⟨p,T,N⟩,M,K⟩:=UQ h b v _ r' (λx H=>A x (by simp [H])) a m y;exact⟨w,P,⟨c::p,by simp,by rw [N];rfl⟩,M,K⟩
theorem fk{L:W->Bool}{ls:List UInt8}{t:A0}{r:W}{c:UInt8}(a:r∈t.rows)(d:c∈ls)(b:marks L t.cols (r++[c])∉AJ L t):Bg L ls t≠none:=λh=>b (GL h r a c d)
def NG(L:W->Bool)(t:A0)(w:W):Bool:=L (t.rows.getD (runM L t 0 w) [])
def kg(L:W->Bool)(ls:List UInt8)(t:A0)(w:W):Option A0:=(splitAt L t (L w) 0 w).bind λv=>Bo L ls 13 ⟨t.rows,t.cols++[v]⟩
structure Next (L:W->Bool) (ls:List UInt8) (t:A0) (w v:W) (t':A0):Prop where
 split:splitAt L t (L w) 0 w=some v
 close:Bo L ls 13 ⟨t.rows,t.cols++[v]⟩=some t'
 next:kg L ls t w=some t'
 ok:BX L ls t'
 cols:t'.cols=t.cols++[v]
 new:v∉t.cols
 suf:∃p,p≠[]/\w=p++v
 more:t.rows.length < t'.rows.length
 pre:t.rows <+: t'.rows
structure Wr (L:W->Bool) (ls:List UInt8) (wr:A0->Option W):Prop where
 on:∀t w,wr t=some w->BX L ls t->AT ls w/\NG L t w≠L w
def Fm(a:AZ):Int->W->Int
 | q,[]=>q
 | q,c::w=>Fm a (CA a q.toNat ((c.toNat:Int) - 97)) w
def LA(a:AZ)(w:W):Bool:=a.ac.getD (Fm a 0 w).toNat false
theorem UE(a:AZ):∀(u w:W) (q:Int),Fm a q (u++w)=Fm a (Fm a q u) w
 | [],_,_=>rfl
 | c::u,w,q=>UE a u w _
theorem MA{l:Int}(b:0<=l)(a:l < 6):((lb l).toNat:Int) - 97=l:=by
 unfold lb
 have:(97+l.toNat) % 256=97+l.toNat:=by omega
 simp [this];omega
theorem Ij{al:Int}{c:UInt8}(h:c∈A6 al):0<=(c.toNat:Int) - 97/\(c.toNat:Int) - 97 < 6:=by
 obtain⟨l,a,rfl⟩:=d9.1 h;have b:=Au a;rw [MA b.1 (by omega)];omega
theorem SH{a:AZ}(ha:AP a=true){al:Int}:∀(w:W) (q:Int),AT (A6 al) w->0<=q/\q < a.nx.length->0<=Fm a q w/\Fm a q w < a.nx.length
 | [],q,_,d=>d
 | c::w,q,b,d=>by
  have e:=Ij (b c (by simp));have g:=Dl ha (q:=q.toNat) (by omega) e.1 e.2;exact SH ha w _ (λx f=>b x (by simp [f])) g
theorem N6{al:Int}{l:Int}(h:l∈Ac al):lb l∈A6 al:=d9.2 ⟨l,h,rfl⟩
theorem NU{L:W->Bool}{al:Int}{t:A0}(hal:A7 al=true)(h:BX L (A6 al) t)(b:t.rows.length<=12):AP (AY L al t)=true:=by
 have j:0 < t.rows.length:=(ce.1 h.r0).1;unfold AP;simp only [d4,decide_eq_true_eq,f9];refine⟨⟨⟨hal,by simp [AY];omega⟩,by simp [AY]⟩,λrow a=>?_⟩;simp only [AY,d9] at a;obtain⟨r,b,rfl⟩:=a;unfold Gb;simp only [d4,decide_eq_true_eq,f9];refine⟨by simp [AY],λy c=>?_⟩;obtain⟨l,d,rfl⟩:=d9.1 c;obtain⟨i,hi,e⟩:=nB b;obtain⟨r',g,_⟩:=h.idx (i:=i) (r:=r) (by rw [d6 hi,e]) (N6 d);have f:=(ce.1 g).1;unfold SM;simp [AY];exact f
theorem K3{L:W->Bool}{al:Int}{t:A0}{q:Nat}{c:UInt8}(e:q < t.rows.length)(g:c∈A6 al):CA (AY L al t) q ((c.toNat:Int) - 97)=((Da L t (t.rows.getD q []++[c]):Nat):Int):=by
 obtain⟨l,a,rfl⟩:=d9.1 g;have d:=Au a;rw [MA d.1 (by omega)];obtain⟨k,hk,f⟩:=nB a
 have b:(AM al 6)[k]? = some l:=by rw [d6 hk,f]
 have m:=JZ b;unfold CA;have j:AV (AY L al t).al l.toNat=true:=d.2.2;rw [if_pos j];have i:(AM (AY L al t).al l.toNat).length=k:=m;rw [i]
 have h:(AY L al t).nx.getD q []=(Ac al).map λl=>((Da L t (t.rows.getD q []++[lb l]):Nat):Int):=by
  simp [AY,List.getD,e]
 rw [h];simp [List.getD,b]
theorem Rr{L:W->Bool}{al:Int}{t:A0}(h:BX L (A6 al) t):∀(w:W) (q:Nat),AT (A6 al) w->q < t.rows.length->Fm (AY L al t) q w=((runM L t q w:Nat):Int)
 | [],q,_,_=>rfl
 | c::w,q,a,b=>by
  have f:t.rows[q]? = some t.rows[q]:=d6 b;have d:=a c (by simp);obtain⟨_,j,_⟩:=h.idx f d
  have i:t.rows.getD q []=t.rows[q]:=by simp [f]
  have e:=(ce.1 j).1
  show Fm (AY L al t) (CA (AY L al t) ((q:Int)).toNat ((c.toNat:Int) - 97)) w=_
  rw [i7,K3 b d];rw [<-i] at e;exact Rr h w _ (λx g=>a x (by simp [g])) e
theorem RF{L:W->Bool}{al:Int}{t:A0}(h:BX L (A6 al) t){w:W}(a:AT (A6 al) w):LA (AY L al t) w=NG L t w:=by
 have c:0 < t.rows.length:=(ce.1 h.r0).1;have d:=h.run w 0 a c;unfold LA NG;have b:=Rr h w 0 a c;rw [show ((0:Nat):Int)=0 from rfl] at b;rw [b,i7];simp [AY,List.getD,d]
end Go.Am
namespace Go.Am
open Go
set_option linter.unusedVariables false
theorem JC{g:Gr}:∀ {u v:List Int} {a x:Int},reach g (u++v) a x↔∃y,reach g u a y/\reach g v y x
 | [],v,a,x=>⟨λh=>⟨a,rfl,h⟩,λ⟨y,c,b⟩=>by cases c;exact b⟩
 | l :: u,v,a,x=>by
  simp only [ou,reach];constructor
  ·rintro⟨y,d,h⟩
   obtain⟨z,c,b⟩:=JC.1 h;exact⟨z,⟨y,d,c⟩,b⟩
  ·rintro⟨z,⟨y,d,c⟩,b⟩
   exact⟨y,d,JC.2 ⟨z,c,b⟩⟩
theorem iM(n:Nat)(f:Nat->Int)(h:∀i,i<=n->0<=f i/\f i < n):∃i j,i < j/\j<=n/\f i=f j:=by
 apply Classical.byContradiction;intro hno
 have g:((List.range (n+1)).map λi=>(f i).toNat).Nodup:=by
  unfold List.Nodup;rw [oY];refine List.pairwise_lt_range.imp_of_mem λ{a b} ha hb c k=>hno ⟨a,b,c,?_,?_⟩
  ·have:=nk.1 hb;omega
  ·have d:=h a (by have:=nk.1 ha;omega)
   have l:=h b (by have:=nk.1 hb;omega);omega
 have d:=Ul n _ g λx e=>by
  obtain⟨i,hi,rfl⟩:=d9.1 e;have:=h i (by have:=nk.1 hi;omega);omega
 simp at d;omega
theorem Cy.short{g:Gr}(n:IM g){w:List Int}(h:Cy g (some w)):w.length < g.N:=by
 obtain⟨e,⟨x,o,c⟩,r⟩:=h;apply Classical.byContradiction;intro m;have b:∀k,∃y,reach g (w.take k) g.s0 y/\reach g (w.drop k) y x:=λk=>JC.1 (by rw [nZ];exact o);obtain⟨f,d⟩:=Classical.axiomOfChoice b;obtain⟨i,j,p,s,q⟩:=iM g.N f λi _=>DB n (λl a=>e l (nt a)) n.s0 (d i).1;refine r (w.take i++w.drop j) (λl a=>?_) ⟨x,JC.2 ⟨f i,(d i).1,q ▸ (d j).2⟩,c⟩ (.inl ?_)
 ·rcases em.1 a with a|a
  ·exact e l (nt a)
  ·exact e l (oI a)
 ·simp;omega
theorem dL{al:Int}:∀ {w:List Int},(∀l∈w,l∈Ac al)->AT (A6 al) (Dp w):=λ{w} h c b=>by
 obtain⟨l,a,rfl⟩:=d9.1 b;exact N6 (h l a)
theorem MP(L:W->Bool)(ls:List UInt8):TOk L ls Bu:=by
 refine⟨rfl,rfl,λi w hi d=>?_,λw a=>?_,λw a=>?_,by simp [AJ,Bu],by simp [Bu]⟩
 ·have:=(ce.1 hi).1
  simp [Bu] at this;omega
 ·simp [Bu] at a;subst a;exact λc b=>(by cases b)
 ·simp [Bu] at a;subst a;exact λc b=>(by cases b)
theorem TOk.short{L:W->Bool}{ls:List UInt8}{t:A0}(h:TOk L ls t):∀(i:Nat) w,t.rows[i]? = some w->w.length<=i:=by
 intro i
 induction i using Nat.strongRecOn with
 | _ i c=>
  intro w a
  rcases nV i with b|b
  ·subst b
   rw [h.r0] at a
   injection a with a
   subst a;simp
  ·obtain⟨f,j,d,e⟩:=h.pre i w a b
   have:=c j d _ e;simp at this;omega
end Go.Am
namespace Go.Am
open Go Go.Proofs
set_option maxHeartbeats 1000000
attribute [local irreducible] AX Cb Lex Bh Aj Spec
variable {TB:Bz}
theorem PV{c:C}{L:W->Bool}{ok:W->Prop}(u:JK Tryz.prog TB c L ok)(al:Int)(t:A0)(J:IL ok (A6 al) t)(ht:GU al 20012 t)(S:Bg L (A6 al) t=none) :
 Pure Tryz.prog TB 61 [IV al c,DY t] (Bi (AY L al t)):=by
 have a:=ES c u.Cj;have Q:=ht.rl;have Y:=ht.cl;have V:(Ac al).length<=6:=AK al 6;have h:=ht.gT J (by omega)
 have T:(AY L al t).nx.length=t.rows.length:=by simp [AY]
 have hal:(AY L al t).ac.length=t.rows.length:=by simp [AY]
 refine AR.Ho (AR.ofM 3 (jp _) Tryz.func61 rfl rfl (by kernel_rfl) (am rfl) ?_);intro Z e;(repeat first|refine aU rfl ?_);(refine pW rfl ?_ rfl (by rfl);refine C5 rfl rfl ?_);(refine Ag rfl ?_;refine CB (λ_ _=>C4 rfl rfl rfl) rfl ?_);(repeat first|refine tA rfl ?_ |refine aU rfl ?_ |refine Aa ?_);(refine pW rfl ?_ rfl (by rfl);refine Ai [] rfl rfl (Hn u al t h.1) ⟨rfl,by simp,by simp⟩ (by simp [EP,E.Be,C.Cv,C.Be,a,eC]) trivial ?_;rintro x0 K M ⟨rfl,rfl,rfl⟩ _);(repeat first|refine tA rfl ?_ |refine aU rfl ?_ |refine Aa ?_);(refine pW rfl ?_ rfl (by rfl);refine Jw 1 1 62 2 1 4 rfl rfl (by decide) rfl rfl (by rfl) (by rfl) ?_);(repeat first|refine sN rfl ?_ |refine tA rfl ?_ |refine aU rfl ?_ |refine Aa ?_);refine aB ?_;refine Aj.A2 (α:={k:Nat // k<=t.rows.length}) (λ⟨k,m⟩=>[(2,.o (.ptr 0 2 0 0)),(3,.o (.ip (UT t))),(4,.o (.ptr 1 3 0 0)),(5,.o (.mp 2)),(6,.o (.ptr 3 3 0 0)),(19,.o (.d (BW t.rows))),(20,eI .i64 t.rows.length),(21,eI .i64 k)]) (λ⟨k,m⟩=>[(0,.cells 92 2 [[.d (iD al),c]]),(1,.cells 29 3 [[.d (iD 0),.d (.l []),.d (.l [])]]),(2,.mp (IH (BT L t t.rows.length))),(3,.cells 29 3 [[.d (iD al),.arr 4 1 0 k,.arr 5 1 0 k]]),(4,.cells 62 1 (((AY L al t).nx.take k).map λr=>[.d (E5 r)])),(5,.cells 4 1 (((AY L al t).ac.take k).map λb=>[.d (bD b)]))]) 6 (λ⟨k,m⟩=>t.rows.length - k) (⟨0,by omega⟩) [0,1,2,5,3,4] (DV e rfl rfl) (by (simp[cX,zC,e,a,eC,Ab.Be,BU,IA,BN,Ae])) ?_;rintro⟨k,m⟩;(try dsimp only);(repeat first|refine s2 rfl λ_ I=>?_ |refine aU rfl ?_ |refine Aa ?_);(refine aC rfl ?_ ?_<;>rintro⟨⟩)
 ·have B:k < t.rows.length:=by (simp only[oZ] at *;omega)
  obtain⟨r,p⟩:=get_some (l:=t.rows) (k:=k) B;have P:=get_map (g:=CN) p;have f:=co p;refine aK ?_;refine aS (aB ?_);(repeat first|refine tM rfl ?_ |(refine s4 rfl ‹_› rfl ?_ ?_;omega) |refine aU rfl ?_ |refine Aa ?_);(refine pW rfl ?_ rfl (by rfl);refine Hc 1 3 ?_);(repeat first|refine sN rfl ?_ |refine tM rfl ?_ |refine sP rfl (CR al) rfl ?_ |refine aU rfl ?_ |refine Aa ?_);refine aB ?_;refine Aj.A2 (α:={j:Nat // j<=(Ac al).length}) (λ⟨j,n⟩=>[(2,.o (.ptr 0 2 0 0)),(3,.o (.ip (UT t))),(4,.o (.ptr 1 3 0 0)),(5,.o (.mp 2)),(6,.o (.ptr 3 3 0 0)),(19,.o (.d (BW t.rows))),(20,eI .i64 t.rows.length),(21,eI .i64 k),(8,eT r),(9,.o (.arr 6 1 0 j)),(27,Ak (Ac al)),(28,eI .i64 (Ac al).length),(29,eI .i64 j)]) (λ⟨j,n⟩=>[(0,.cells 92 2 [[.d (iD al),c]]),(1,.cells 29 3 [[.d (iD 0),.d (.l []),.d (.l [])]]),(2,.mp (IH (BT L t t.rows.length))),(3,.cells 29 3 [[.d (iD al),.arr 4 1 0 k,.arr 5 1 0 k]]),(4,.cells 62 1 (((AY L al t).nx.take k).map λr=>[.d (E5 r)])),(5,.cells 4 1 (((AY L al t).ac.take k).map λb=>[.d (bD b)])),(6,.cells 3 1 (((Ac al).take j).map λl=>[.d (iD ((Da L t (r++[lb l]):Nat):Int))]))]) 7 (λ⟨j,n⟩=>(Ac al).length - j) (⟨0,by omega⟩) [0,1,2,3,4,5,6] (DV e rfl rfl) (by (simp[cX,zC,e,a,eC,Ab.Be,BU,IA])) ?_;rintro⟨j,n⟩;(try dsimp only);(repeat first|refine s2 rfl λ_ I=>?_ |refine aU rfl ?_ |refine Aa ?_);(refine aC rfl ?_ ?_<;>rintro⟨⟩)
  ·have s:j < (Ac al).length:=by (simp only[oZ] at *;omega)
   obtain⟨l,G⟩:=get_some (l:=Ac al) (k:=j) s;have X:=get_map (g:=Bq) G;have i:=co G;have q:=Au i;have R:=ht.onR r f;have U:=Lb (TB:=TB) u al t (r++[lb l]) (by omega) (λx p=>h.2 r f _ (d9.2 ⟨l,i,rfl⟩) x p) (λy N=>by have:=(ht.onC y N).2;simp;omega);have F:=Ud S f i;refine aK ?_;refine aS (aB ?_);(repeat first|refine tA rfl ?_ |(refine s4 rfl ‹_› rfl ?_ ?_;omega) |refine aU rfl ?_ |refine Aa ?_);refine rG (Gj [13]) (by kernel_rfl) ?_;(repeat first|(refine sA rfl ?_ ?_;first|exact tI|omega|simp only[oZ] at *;omega) |refine sP rfl (Fv l q.1 (by omega)) rfl ?_|(refine Ag rfl ?_;refine gA rfl ?_;first| refine gS (λ_ _=>WG rfl (by omega) (by omega)) ?_));rw [bN q.1];(repeat first| (refine Ag rfl ?_;refine gA rfl ?_;first| refine gS (λ_ _=>Bt rfl rfl (by simp [E.Cj,C.Dg,C.Cj,u.Cj]) U rfl) ?_|refine gQ (X7 rfl rfl rfl) (by rfl) ?_));(repeat first|refine tA rfl ?_);(refine pW rfl ?_ rfl (by rfl);refine Al rfl rfl rfl (by first| (simp;done)|(simp;(omega))) rfl (by intro r a;simp at a;subst a;rfl) (by rfl) (am rfl) (by simp;omega) ?_);(repeat first|(refine sA rfl ?_ ?_;first|exact tI|omega) |refine aU rfl ?_ |refine Aa ?_);rw [F];refine⟨⟨j+1,by omega⟩,by dsimp only;(omega),[0,1,2,3,4,5,7],?_⟩;simp[cX,zC,e,a,d8,G]
  ·obtain rfl:j=(Ac al).length:=by (simp only[oZ] at *;omega)
   have z:=J r ⟨r,f,[],.inl rfl,[],.inl rfl,by simp⟩
   have A:(AY L al t).nx.take (k+1)=(AY L al t).nx.take k++[(Ac al).map λl=>((Da L t (r++[lb l]):Nat):Int)]:=by
    rw [d8];simp [AY,p]
   have H:(AY L al t).ac.take (k+1)=(AY L al t).ac.take k++[L r]:=by
    rw [d8];simp [AY,p]
   refine aE ?_;rw [io];refine Aj.XE [6] [2,3,4,5,6,8,19,20,21] rfl [(9,Ak ((Ac al).map λl=>((Da L t (r++[lb l]):Nat):Int)))] ⟨⟨_,rfl,.o (.full (by simp) rfl (by simp [d5]) (by simp))⟩,trivial⟩ ?_;(try dsimp only[cA,cB]);(repeat first|refine tA rfl ?_ |refine aU rfl ?_);(refine pW rfl ?_ rfl (by rfl);refine Al rfl rfl rfl (by first| (simp;done)|(simp;(omega))) rfl (by intro r a;simp at a;subst a;rfl) (by rfl) (am rfl) (by simp;omega) ?_);(repeat first|refine tA rfl ?_ |refine Aa ?_);refine rG (Gj [7,9]) (by kernel_rfl) ?_;(repeat first|refine tA rfl ?_|(refine Ag rfl ?_;refine gA rfl ?_;first| refine gS (λ_ _=>u.ask rfl rfl z) ?_));(refine pW rfl ?_ rfl (by rfl);refine Al rfl rfl rfl (by first| (simp;done)|(simp;(omega))) rfl (by intro r a;simp at a;subst a;rfl) (by rfl) (am rfl) (by simp;omega) ?_);(repeat first|(refine sA rfl ?_ ?_;first|exact tI|omega) |refine aU rfl ?_ |refine Aa ?_);refine⟨⟨k+1,by omega⟩,by dsimp only;(omega),[0,1,2,3,7,8],?_⟩;simp[cX,zC,e,a,eC,Ab.Be,BU,IA,BN,Ae,A,H]
 ·obtain rfl:k=t.rows.length:=by (simp only[oZ] at *;omega)
  have w:(AY L al t).nx.take t.rows.length=(AY L al t).nx:=ge (by simp [AY]);have v:(AY L al t).ac.take t.rows.length=(AY L al t).ac:=ge (by simp [AY]);rw [w,v];refine aE ?_;(repeat first|refine tM rfl ?_ |refine aU rfl ?_ |refine Aa ?_);refine Aj.settle [(4,.o (.ip [iD al,CW (AY L al t).nx,E4 (AY L al t).ac]))] ⟨⟨_,rfl,.o (.box rfl (.cons .d (.cons (.full rfl (by simp [d5]) (by simp [AY])) (.cons (.full rfl (by simp [d5]) (by simp [AY])) .nil))))⟩,trivial⟩ ?_;refine aR ⟨_,rfl,rfl⟩
theorem Hb(w:W)(i:Nat)(c:UInt8)(e:w[((i:Nat):Int).toNat]? = some c)(d:0<=(c.toNat:Int) - 97/\(c.toNat:Int) - 97 < 6):Pure Tryz.prog TB 104 [eT w,eI .i64 i] (eI .i64 ((c.toNat:Int) - 97)):=by
 refine eN Tryz.func104 rfl (by kernel_rfl) rfl ?_;intro Z a;(repeat' first|(refine sA rfl ?_ ?_;first|exact tI|omega) |(refine s4 rfl ‹_› rfl ?_ ?_;omega) |refine s2 rfl λ_ b=>?_ |refine s3 rfl ?_ ?_<;>rintro rfl |refine aU rfl ?_ |refine Aa ?_|(refine aC rfl ?_ ?_<;>rintro⟨⟩)|refine aK ?_|refine aE ?_|refine aB ?_|refine aR ⟨_,rfl,?_⟩)
 all_goals first
  | rfl
  | (exfalso;grind)
abbrev dH(kn:Bool)(p:AZ)(s:Sys)(q:AZ)(al:Int):List D:=[bD kn,iD p.al,CW p.nx,E4 p.ac,iD s.al,iD s.st,Eo s.es,iD q.al,CW q.nx,E4 q.ac,iD al]
theorem Jy{ls:List UInt8}{w:W}(h:AT ls w)(k:Nat):AT ls (w.take k):=λc a=>h c (nt a)
theorem fj{ls:List UInt8}{w:W}(h:AT ls w)(k:Nat):AT ls (w.drop k):=λc a=>h c (oI a)
theorem ZM{p:AZ}{w:W}{k:Nat}{c:UInt8}(a:w[k]? = some c)(q:Int):Fm p q (w.take (k+1))=CA p (Fm p q (w.take k)).toNat ((c.toNat:Int) - 97):=by
 rw [d8,a,UE];rfl
theorem MK{L:W->Bool}{t:A0}{w:W}{k:Nat}{c:UInt8}(a:w[k]? = some c)(q:Nat):runM L t q (w.take (k+1))=Da L t (t.rows.getD (runM L t q (w.take k)) []++[c]):=by
 rw [d8,a,UF];rfl
def CJ(L:W->Bool)(t:A0)(w:W):Option W:=if NG L t w=L w then none else splitAt L t (L w) 0 w
theorem Ly{L:W->Bool}{t:A0}{b:Bool}{w:W}{k q:Nat}{c:UInt8}(a:w[k]? = some c):splitAt L t b q (w.drop k)=if L (t.rows.getD (Da L t (t.rows.getD q []++[c])) []++w.drop (k+1))≠b then some (w.drop (k+1)) else splitAt L t b (Da L t (t.rows.getD q []++[c])) (w.drop (k+1)):=by
 rw [BA a,splitAt]
def Xu(t:A0)(w v:W):Prop:=∃r,(r=[]\/r∈t.rows)/\∃k:Nat,v=r++w.drop k
theorem Ql{c:C}{L:W->Bool}{ok:W->Prop}(I:JK Tryz.prog TB c L ok)(al:Int)(t:A0)(hf:IL ok (A6 al) t)(ht:GU al 20012 t)(hal:A7 al=true)(n:BX L (A6 al) t)(ho:Bg L (A6 al) t=none)(w:W)(H:∀v,Xu t w v->ok v)(z:AT (A6 al) w)(hwl:w.length<=20000) :
 Pure Tryz.prog TB 113 [IV al c,DY t,eT w] (Y7 (CJ L t w)):=by
 have M:=ES c I.Cj;have Q:=ht.rl;have U:=PV (TB:=TB) I al t hf ht ho;have J:=NU hal n Q;have N:=Fp (TB:=TB) (AY L al t) J
 have hnl:(AY L al t).nx.length=t.rows.length:=by simp [AY]
 have V:0 < t.rows.length:=(ce.1 n.r0).1;have B:=H w ⟨[],.inl rfl,0,rfl⟩
 have S:([IV al c,DY t].all E.Cj && C.Dg [])=true:=by simp [E.Cj,C.Dg,C.Cj,I.Cj]
 refine eN Tryz.func113 rfl (by kernel_rfl) rfl ?_;intro Z e;(repeat first|refine aU rfl ?_);(refine pW rfl ?_ rfl (by rfl);refine C5 rfl rfl ?_);(refine Ag rfl ?_;refine CB (λ_ _=>C4 rfl rfl rfl) rfl ?_);(repeat first|refine tA rfl ?_ |refine aU rfl ?_ |refine Aa ?_);(repeat first|refine tA rfl ?_|(refine Ag rfl ?_;refine gA rfl ?_;first| refine gS (λ_ _=>Bt rfl rfl S U rfl) ?_) |refine aU rfl ?_ |refine Aa ?_);(repeat first|refine tA rfl ?_ |refine sP rfl (N) rfl ?_ |refine aU rfl ?_ |refine Aa ?_);refine aB ?_;refine aL (α:={k:Nat // k<=w.length}) [2,3,4,8,9,20] [0,1] rfl rfl (λ⟨k,hk⟩=>[(10,eI .i64 (runM L t 0 (w.take k):Nat)),(21,eI .i64 k)]) (λ⟨k,hk⟩=>[]) 2 (λ⟨k,hk⟩=>w.length - k) (⟨0,by omega⟩) e rfl (by (simp[cX,zC,e,M]<;>rfl)) ?_;rintro⟨k,hk⟩;(try dsimp only[cA,cB]);have r:=n.run (w.take k) 0 (Jy z k) V;by_cases u:k < w.length
 ·obtain⟨o,d⟩:=get_some u
  have y:w[((k:Nat):Int).toNat]? = some o:=by simpa using d
  have m:=z o (co d);have j:=Ij m;have x:=Hb (TB:=TB) w k o y j;have ta:=LG (a:=AY L al t) (q:=(((runM L t 0 (w.take k):Nat):Int)).toNat) (by omega)
  have el:((((o.toNat:Int) - 97).toNat:Nat):Int)=(o.toNat:Int) - 97:=by omega
  have ra:=Je (h:=λl=>CA (AY L al t) (((runM L t 0 (w.take k):Nat):Int)).toNat l) j.1 (by omega);simp only [el] at ra;have f:=K3 (L:=L) (al:=al) (t:=t) (q:=runM L t 0 (w.take k)) r m;have p:=MK (L:=L) (t:=t) d 0;rw [<-p] at f;rw [i7,f] at ra;(repeat first|refine s2 rfl λ_ b=>?_ |refine aU rfl ?_ |refine Aa ?_);(refine aC rfl ?_ ?_<;>rintro⟨⟩)
  ·(repeat' first|(refine sA rfl ?_ ?_;first|exact tI|omega) |(refine s4 rfl ‹_› rfl ?_ ?_;omega) |refine sP rfl (x) rfl ?_|(refine Ag rfl ?_;refine gA rfl ?_;first| refine gS (λ_ _=>EB rfl ra) ?_) |refine aU rfl ?_ |refine Aa ?_ |refine rE (by kernel_rfl) ?_|(refine aC rfl ?_ ?_<;>rintro⟨⟩)|refine aK ?_|refine aE ?_|refine aB ?_|refine aR ⟨_,rfl,?_⟩)
   refine⟨⟨k+1,by omega⟩,by dsimp only;(omega),[0,1],?_⟩;simp[cX,zC,e,M]
  ·exfalso;(simp only[oZ] at *;omega)
 ·obtain rfl : k=w.length:=by omega
  rw [io] at *;(repeat first|refine s2 rfl λ_ b=>?_ |refine aU rfl ?_ |refine Aa ?_);(refine aC rfl ?_ ?_<;>rintro⟨⟩)
  ·exfalso;(simp only[oZ] at *;omega)
  ·refine aE ?_
   have hacx:((AY L al t).ac.map IQ)[(((runM L t 0 w:Nat):Int)).toNat]? = some (IQ (NG L t w)):=by
    unfold NG;simp [AY,List.getD,r]
   (repeat first|refine tA rfl ?_ |(refine s4 rfl ‹_› rfl ?_ ?_;omega) |refine s2 rfl λ_ b=>?_|(refine Ag rfl ?_;refine gA rfl ?_;first| refine gS (λ_ _=>I.ask rfl rfl B) ?_) |refine aU rfl ?_ |refine Aa ?_);(refine aC rfl ?_ ?_<;>rintro⟨⟩)
   ·have hn:CJ L t w=none:=by unfold CJ;rw [if_pos (by simpa using b)]
    (repeat first|refine tA rfl ?_ |refine aU rfl ?_ |refine Aa ?_);refine aR ⟨_,rfl,?_⟩;rw [hn];rfl
   ·have P:CJ L t w=splitAt L t (L w) 0 w:=by unfold CJ;rw [if_neg (by simpa using b)]
    rw [P];refine aK ?_;(repeat first|refine tA rfl ?_ |refine aU rfl ?_ |refine Aa ?_);refine aB ?_;refine aL (α:={k:Nat // k<=w.length/\splitAt L t (L w) 0 w=splitAt L t (L w) (runM L t 0 (w.take k)) (w.drop k)}) [2,3,4,9,12,45] [0] rfl rfl (λ⟨k,hk,i⟩=>[(10,eI .i64 (runM L t 0 (w.take k):Nat)),(46,eI .i64 k)]) (λ⟨k,hk,i⟩=>[]) 1 (λ⟨k,hk,i⟩=>w.length - k) (⟨0,by omega,rfl⟩) e rfl (by (simp[cX,zC,e,M]<;>rfl)) ?_;rintro⟨k,hk,i⟩;(try dsimp only[cA,cB]);have r:=n.run (w.take k) 0 (Jy z k) V;by_cases u:k < w.length
    ·obtain⟨o,d⟩:=get_some u
     have y:w[((k:Nat):Int).toNat]? = some o:=by simpa using d
     have m:=z o (co d);have j:=Ij m;have x:=Hb (TB:=TB) w k o y j;have ta:=LG (a:=AY L al t) (q:=(((runM L t 0 (w.take k):Nat):Int)).toNat) (by omega)
     have el:((((o.toNat:Int) - 97).toNat:Nat):Int)=(o.toNat:Int) - 97:=by omega
     have ra:=Je (h:=λl=>CA (AY L al t) (((runM L t 0 (w.take k):Nat):Int)).toNat l) j.1 (by omega);simp only [el] at ra;have f:=K3 (L:=L) (al:=al) (t:=t) (q:=runM L t 0 (w.take k)) r m;have p:=MK (L:=L) (t:=t) d 0;have A:=n.run (w.take (k+1)) 0 (Jy z (k+1)) V;rw [Ly d,<-p] at i;rw [<-p] at f;rw [i7,f] at ra;generalize R:runM L t 0 (w.take (k+1))=X at *;obtain⟨K,s⟩:=get_some (l:=t.rows) (k:=X) A;have Y:=get_map (g:=CN) s
     have T:t.rows.getD X []=K:=by simp [List.getD,s]
     rw [T] at i;have hrb:=ht.onR K (co s);have hdl:(w.drop (k+1)).length=w.length - (k+1):=qR;have F:=H (K++w.drop (k+1)) ⟨K,.inr (co s),k+1,rfl⟩
     have G:(((k:Nat):Int)+1).toNat=k+1:=by omega
     (repeat first|refine s2 rfl λ_ b=>?_ |refine aU rfl ?_ |refine Aa ?_);(refine aC rfl ?_ ?_<;>rintro⟨⟩)
     ·refine aK ?_
      refine aS (aB ?_);(repeat first|(refine sA rfl ?_ ?_;first|exact tI|omega) |(refine s4 rfl ‹_› rfl ?_ ?_;omega) |refine sP rfl (x) rfl ?_|(refine Ag rfl ?_;refine gA rfl ?_;first| refine gS (λ_ _=>EB rfl ra) ?_) |refine aU rfl ?_ |refine Aa ?_ |refine rE (by kernel_rfl) ?_);(repeat first| (refine Ag rfl ?_;refine gA rfl ?_;first| refine gS (λ_ _=>Ej rfl rfl (by omega) (by omega)) ?_));rw [G];(repeat first|(refine sA rfl ?_ ?_;first|exact tI|omega) |refine s2 rfl λ_ b=>?_|(refine Ag rfl ?_;refine gA rfl ?_;first| refine gS (λ_ _=>I.ask rfl rfl F) ?_) |refine Aa ?_);(refine aC rfl ?_ ?_<;>rintro⟨⟩)
      ·rw [if_pos (by simpa using b)] at i
       (repeat first|(refine sA rfl ?_ ?_;first|exact tI|omega)|(refine Ag rfl ?_;refine gA rfl ?_;first| refine gS (λ_ _=>Ej rfl rfl (by omega) (by omega)) ?_) |refine aU rfl ?_ |refine Aa ?_);refine aR ⟨_,rfl,?_⟩;rw [G,i];rfl
      ·rw [if_neg (by simpa using b)] at i
       refine aK ?_;(repeat first|(refine sA rfl ?_ ?_;first|exact tI|omega) |refine aU rfl ?_ |refine Aa ?_);subst R;refine⟨⟨k+1,by omega,i⟩,by dsimp only;(omega),[0],?_⟩;simp[cX,zC,e,M]
     ·exfalso;(simp only[oZ] at *;omega)
    ·obtain rfl:k=w.length:=by omega
     rw [pB] at i;(repeat first|refine s2 rfl λ_ b=>?_ |refine aU rfl ?_ |refine Aa ?_);(refine aC rfl ?_ ?_<;>rintro⟨⟩)
     ·exfalso;(simp only[oZ] at *;omega)
     ·refine aE ?_
      (repeat first|refine tA rfl ?_ |refine aU rfl ?_ |refine Aa ?_);refine aR ⟨_,rfl,?_⟩;rw [i];rfl
theorem GU.mV{ok:W->Prop}{al:Int}{t:A0}(ht:GU al 20012 t)(f:RG ok al){w:W}(e:AT (A6 al) w)(d:w.length<=20000):∀v,Xu t w v->ok v:=by
 rintro v ⟨r,b,k,rfl⟩
 have g:AT (A6 al) r/\r.length<=20012:=by
  rcases b with rfl|b
  ·exact⟨λc a=>by simp at a,by simp⟩
  ·exact ht.onR r b
 refine f _ (λc a=>?_) (by simp;omega)
 rcases em.1 a with a|a
 ·exact g.1 c a
 ·exact fj e _ c a
def GR(L:W->Bool)(ls:List UInt8)(t:A0)(w:W):Option A0:=(CJ L t w).bind λv=>(Fy t v).bind λu=>Bo L ls 13 u
theorem Nw{L:W->Bool}{t:A0}{b:Bool}:∀ {w:W} {q:Nat} {v:W},splitAt L t b q w=some v->∃p,p≠[]/\w=p++v
 | [],q,v,h=>by simp [splitAt] at h
 | c::w,q,v,h=>by
  unfold splitAt at h;split at h
  ·injection h with h;subst h;exact⟨[c],by simp,rfl⟩
  ·obtain⟨p,_,a⟩:=Nw h;exact⟨c::p,by simp,by rw [a];rfl⟩
theorem Iu{L:W->Bool}{t:A0}{w v:W}(h:CJ L t w=some v):∃p,p≠[]/\w=p++v:=by
 unfold CJ at h;split at h
 ·cases h
 ·exact Nw h
theorem GU.mono{al:Int}{b b':Nat}{t:A0}(h:GU al b t)(hb:b<=b'):GU al b' t:=⟨λw a=>⟨(h.onR w a).1,li (h.onR w a).2 hb⟩,h.onC,h.rl,h.cl⟩
theorem RH{al:Int}{b:Nat}{t u:A0}{v:W}(h:GU al b t)(c:AT (A6 al) v)(f:v.length<=20000)(ha:Fy t v=some u):GU al b u:=by
 unfold Fy at ha;split at ha
 ·cases ha
 ·rename_i d
  injection ha with ha
  subst ha;refine⟨h.onR,λx a=>?_,h.rl,?_⟩
  ·rcases em.1 a with a|a
   ·exact h.onC x a
   ·simp at a;subst a;exact⟨c,f⟩
  ·have:=h.cl
   have g:t.cols.length≠20:=λe=>d (.inl e);simp;omega
def Xt(L:W->Bool)(ls:List UInt8)(t:A0)(w v:W):Prop:=MY ls t v\/Xu t w v\/∃x,CJ L t w=some x/\∃u,Fy t x=some u/\∃y∈EK L ls 13 u,MY ls y v
theorem Qb{c:C}{L:W->Bool}{ok:W->Prop}(k:JK Tryz.prog TB c L ok)(al:Int)(t:A0)(ht:GU al 20000 t)(hal:A7 al=true)(B:BX L (A6 al) t)(K:Bg L (A6 al) t=none)(w:W)(A:∀v,Xt L (A6 al) t w v->ok v)(F:AT (A6 al) w)(m:w.length<=20000) :
 Pure Tryz.prog TB 66 [IV al c,DY t,eT w] (Iz (GR L (A6 al) t w)):=by
 have M:=ES c k.Cj
 have b:([IV al c,DY t,eT w].all E.Cj && C.Dg [])=true:=by simp [E.Cj,C.Dg,C.Cj,k.Cj]
 have e:=Ql (TB:=TB) k al t (λv q=>A v (.inl q)) (ht.mono (by omega)) hal B K w (λv q=>A v (.inr (.inl q))) F m;have J:=ht.rl;have G:=ht.cl
 rcases j:CJ L t w with _|v
 ·have s:GR L (A6 al) t w=none:=by unfold GR;rw [j];rfl
  rw [s];rw [j] at e;refine AR.Ho (AR.ofM 2 (jp _) Tryz.func66 rfl rfl (by kernel_rfl) (am rfl) ?_);intro Z i;(repeat first|refine aU rfl ?_);(refine pW rfl ?_ rfl (by rfl);refine C5 rfl rfl ?_);(refine pW rfl ?_ rfl (by rfl);refine C5 rfl rfl ?_);(repeat first|refine tA rfl ?_ |refine aU rfl ?_ |refine Aa ?_);(repeat first|refine tA rfl ?_ |refine s2 rfl λ_ a=>?_|(refine Ag rfl ?_;refine gA rfl ?_;first| refine gS (λ_ _=>Bt rfl rfl b e rfl) ?_) |refine aU rfl ?_ |refine Aa ?_)
  ((refine aC rfl ?_ ?_<;>rintro⟨⟩);all_goals try (simp at a;done))
  (repeat first|refine tA rfl ?_|(refine Ag rfl ?_;refine gA rfl ?_;first| refine gS (λ_ _=>AF rfl rfl (by rfl) (by rfl)) ?_) |refine aU rfl ?_ |refine Aa ?_);refine Aj.settle [(6,.o (.ip [.l [],.l []])),(7,eB false)] ⟨⟨_,rfl,.o (.box rfl (.cons .d (.cons .d .nil)))⟩,⟨_,rfl,.o .d⟩,trivial⟩ ?_;refine aR ⟨_,rfl,rfl⟩
 ·have r:=Iu j
  have n:AT (A6 al) v/\v.length<=20000:=by
   obtain⟨p,_,rfl⟩:=r;exact⟨λc k=>F c (by simp [k]),by simp at m;omega⟩
  have f:=RI (TB:=TB) t v (by omega) (by omega);rw [j] at e
  rcases ha:Fy t v with _|u
  ·have s:GR L (A6 al) t w=none:=by unfold GR;rw [j];simp [ha]
   rw [s];rw [ha] at f;refine AR.Ho (AR.ofM 2 (jp _) Tryz.func66 rfl rfl (by kernel_rfl) (am rfl) ?_);intro Z i;(repeat first|refine aU rfl ?_);(refine pW rfl ?_ rfl (by rfl);refine C5 rfl rfl ?_);(refine pW rfl ?_ rfl (by rfl);refine C5 rfl rfl ?_);(repeat first|refine tA rfl ?_ |refine aU rfl ?_ |refine Aa ?_);(repeat first|refine tA rfl ?_ |refine s2 rfl λ_ a=>?_|(refine Ag rfl ?_;refine gA rfl ?_;first| refine gS (λ_ _=>Bt rfl rfl b e rfl) ?_) |refine aU rfl ?_ |refine Aa ?_)
   ((refine aC rfl ?_ ?_<;>rintro⟨⟩);all_goals try (simp at a;done))
   refine aK ?_;(repeat first|refine tA rfl ?_ |refine s2 rfl λ_ a=>?_ |refine sP rfl (f) rfl ?_ |refine aU rfl ?_ |refine Aa ?_)
   ((refine aC rfl ?_ ?_<;>rintro⟨⟩);all_goals try (simp at a;done))
   (repeat first|refine tA rfl ?_|(refine Ag rfl ?_;refine gA rfl ?_;first| refine gS (λ_ _=>AF rfl rfl (by rfl) (by rfl)) ?_) |refine aU rfl ?_ |refine Aa ?_);refine Aj.settle [(6,.o (.ip [.l [],.l []])),(7,eB false)] ⟨⟨_,rfl,.o (.box rfl (.cons .d (.cons .d .nil)))⟩,⟨_,rfl,.o .d⟩,trivial⟩ ?_;refine aR ⟨_,rfl,rfl⟩
  ·have I:=RH ht n.1 n.2 ha
   have g:=IS (TB:=TB) k al u (λy H v q=>A v (.inr (.inr ⟨_,j,_,ha,y,H,q⟩))) I
   have h:([IV al c,DY u].all E.Cj && C.Dg [])=true:=by simp [E.Cj,C.Dg,C.Cj,k.Cj]
   have s:GR L (A6 al) t w=Bo L (A6 al) 13 u:=by unfold GR;rw [j];simp [ha]
   rw [s];rw [ha] at f
   rcases z:Bo L (A6 al) 13 u with _|x
   ·rw [z] at g
    refine AR.Ho (AR.ofM 2 (jp _) Tryz.func66 rfl rfl (by kernel_rfl) (am rfl) ?_);intro Z i;(repeat first|refine aU rfl ?_);(refine pW rfl ?_ rfl (by rfl);refine C5 rfl rfl ?_);(refine pW rfl ?_ rfl (by rfl);refine C5 rfl rfl ?_);(repeat first|refine tA rfl ?_ |refine aU rfl ?_ |refine Aa ?_);(repeat first|refine tA rfl ?_ |refine s2 rfl λ_ a=>?_|(refine Ag rfl ?_;refine gA rfl ?_;first| refine gS (λ_ _=>Bt rfl rfl b e rfl) ?_) |refine aU rfl ?_ |refine Aa ?_)
    ((refine aC rfl ?_ ?_<;>rintro⟨⟩);all_goals try (simp at a;done))
    refine aK ?_;(repeat first|refine tA rfl ?_ |refine s2 rfl λ_ a=>?_ |refine sP rfl (f) rfl ?_ |refine aU rfl ?_ |refine Aa ?_)
    ((refine aC rfl ?_ ?_<;>rintro⟨⟩);all_goals try (simp at a;done))
    refine aK ?_;(repeat first|refine tA rfl ?_|(refine Ag rfl ?_;refine gA rfl ?_;first| refine gS (λ_ _=>Bt rfl rfl h g rfl) ?_) |refine aU rfl ?_ |refine Aa ?_);refine Aj.settle [(6,.o (.ip [.l [],.l []])),(7,eB false)] ⟨⟨_,rfl,.o (.box rfl (.cons .d (.cons .d .nil)))⟩,⟨_,rfl,.o .d⟩,trivial⟩ ?_;refine aR ⟨_,rfl,rfl⟩
   ·rw [z] at g
    refine AR.Ho (AR.ofM 2 (jp _) Tryz.func66 rfl rfl (by kernel_rfl) (am rfl) ?_);intro Z i;(repeat first|refine aU rfl ?_);(refine pW rfl ?_ rfl (by rfl);refine C5 rfl rfl ?_);(refine pW rfl ?_ rfl (by rfl);refine C5 rfl rfl ?_);(repeat first|refine tA rfl ?_ |refine aU rfl ?_ |refine Aa ?_);(repeat first|refine tA rfl ?_ |refine s2 rfl λ_ a=>?_|(refine Ag rfl ?_;refine gA rfl ?_;first| refine gS (λ_ _=>Bt rfl rfl b e rfl) ?_) |refine aU rfl ?_ |refine Aa ?_)
    ((refine aC rfl ?_ ?_<;>rintro⟨⟩);all_goals try (simp at a;done))
    refine aK ?_;(repeat first|refine tA rfl ?_ |refine s2 rfl λ_ a=>?_ |refine sP rfl (f) rfl ?_ |refine aU rfl ?_ |refine Aa ?_)
    ((refine aC rfl ?_ ?_<;>rintro⟨⟩);all_goals try (simp at a;done))
    refine aK ?_;(repeat first|refine tA rfl ?_|(refine Ag rfl ?_;refine gA rfl ?_;first| refine gS (λ_ _=>Bt rfl rfl h g rfl) ?_) |refine aU rfl ?_ |refine Aa ?_);refine Aj.settle [(6,.o (.ip [BW x.rows,BW x.cols])),(7,eB true)] ⟨⟨_,rfl,.o (.box rfl (.cons .d (.cons .d .nil)))⟩,⟨_,rfl,.o .d⟩,trivial⟩ ?_;refine aR ⟨_,rfl,rfl⟩
abbrev mz(kn:Bool)(p:AZ)(s:Sys)(q:AZ)(al:Int):E:=.a ((dH kn p s q al).map .d)
theorem Ih(w:W)(i:Nat)(c:UInt8)(b:w[((i:Nat):Int).toNat]? = some c):Pure Tryz.prog TB 179 [eT w,eI .i64 i] (eI .i64 ((c.toNat:Int) - 97)):=by
 have hb:=c.toNat_lt;refine eN Tryz.func179 rfl (by kernel_rfl) rfl ?_;intro Z a;(repeat' first|(refine sA rfl ?_ ?_;first|exact tI|omega) |(refine s4 rfl ‹_› rfl ?_ ?_;omega) |refine aU rfl ?_ |refine Aa ?_|(refine aC rfl ?_ ?_<;>rintro⟨⟩)|refine aK ?_|refine aE ?_|refine aB ?_|refine aR ⟨_,rfl,?_⟩);rfl
theorem T7(n:Int)(a:0<=n)(c:n < 16):Pure Tryz.prog TB 117 [eI .i64 n] (eI .i64 ((2 ^ n.toNat:Nat):Int)):=by
 refine eN Tryz.func117 rfl (by kernel_rfl) rfl ?_;intro Z b;(repeat' first|(refine sA rfl ?_ ?_;first|exact tI|omega)|(refine Ag rfl ?_;refine gA rfl ?_;first| refine gS (λ_ _=>cV rfl rfl a (YC a c)) ?_) |refine aU rfl ?_ |refine Aa ?_|(refine aC rfl ?_ ?_<;>rintro⟨⟩)|refine aK ?_|refine aE ?_|refine aB ?_|refine aR ⟨_,rfl,?_⟩);rfl
theorem FA{c:UInt8}:Gc c=decide (0<=(c.toNat:Int) - 97/\(c.toNat:Int) - 97 < 6):=by
 unfold Gc;rw [oT,decide_eq_true_eq,decide_eq_true_eq];omega
theorem LU(w:W)(p:w.length<=1099511627776):Pure Tryz.prog TB 177 [eT w] (eB (Ey w)):=by
 by_cases n:w.length<=50000
 ·have g : Ey w=w.all Gc:=by unfold Ey;simp [n]
  rw [g];refine eN Tryz.func177 rfl (by kernel_rfl) rfl ?_;intro Z d;(repeat first|refine tA rfl ?_ |refine s2 rfl λ_ b=>?_ |refine aU rfl ?_ |refine Aa ?_);(refine aC rfl ?_ ?_<;>rintro⟨⟩)
  ·exfalso;(simp only[oZ] at *;omega)
  refine aK ?_;(repeat first|refine tA rfl ?_ |refine aU rfl ?_ |refine Aa ?_);refine aB ?_;refine aL (α:={k:Nat // k<=w.length/\(w.take k).all Gc=true}) [0] [] rfl rfl (λ⟨k,hk,ha⟩=>[(3,eI .i64 k)]) (λ⟨k,hk,ha⟩=>[]) 0 (λ⟨k,hk,ha⟩=>w.length - k) (⟨0,by omega,rfl⟩) d rfl (by (simp[cX,zC,d])) ?_;rintro⟨k,hk,ha⟩;(try dsimp only[cA,cB]);by_cases j:k < w.length
  ·obtain⟨c,m⟩:=get_some j
   have l:w[((k:Nat):Int).toNat]? = some c:=by simpa using m
   have h:=Ih (TB:=TB) w k c l;have i:=FA (c:=c);by_cases a:Gc c=true
   ·have e:=GA m ha a
    rw [i] at a;simp only [decide_eq_true_eq] at a;(repeat first|refine tA rfl ?_ |refine s2 rfl λ_ b=>?_ |refine aU rfl ?_ |refine Aa ?_);(refine aC rfl ?_ ?_<;>rintro⟨⟩)
    ·(repeat' first|(refine sA rfl ?_ ?_;first|exact tI|omega) |refine s2 rfl λ_ b=>?_ |refine sP rfl (h) rfl ?_ |refine s3 rfl ?_ ?_<;>rintro rfl |refine aU rfl ?_ |refine Aa ?_|(refine aC rfl ?_ ?_<;>rintro⟨⟩)|refine aK ?_|refine aE ?_|refine aB ?_|refine aR ⟨_,rfl,?_⟩)
     ·exfalso;(simp only[oZ] at *;omega)
     ·exfalso;(simp only[oZ] at *;omega)
     ·refine⟨⟨k+1,by omega,e⟩,by dsimp only;(omega),[],?_⟩
      simp[cX,zC,d]
    ·exfalso;(simp only[oZ] at *;omega)
   ·have e:=HY m (f:=Gc) (by simpa using a)
    rw [i] at a;simp only [decide_eq_true_eq] at a;(repeat first|refine tA rfl ?_ |refine s2 rfl λ_ b=>?_ |refine aU rfl ?_ |refine Aa ?_);(refine aC rfl ?_ ?_<;>rintro⟨⟩)
    ·(repeat' first|(refine sA rfl ?_ ?_;first|exact tI|omega) |refine s2 rfl λ_ b=>?_ |refine sP rfl (h) rfl ?_ |refine s3 rfl ?_ ?_<;>rintro rfl |refine aU rfl ?_ |refine Aa ?_|(refine aC rfl ?_ ?_<;>rintro⟨⟩)|refine aK ?_|refine aE ?_|refine aB ?_|refine aR ⟨_,rfl,?_⟩)
     ·rw [e]
     ·rw [e]
     ·exfalso;(simp only[oZ] at *;omega)
    ·exfalso;(simp only[oZ] at *;omega)
  ·have o:=Gz ha (show w.length<=k by omega)
   (repeat first|refine tA rfl ?_ |refine s2 rfl λ_ b=>?_ |refine aU rfl ?_ |refine Aa ?_);(refine aC rfl ?_ ?_<;>rintro⟨⟩)
   ·exfalso;(simp only[oZ] at *;omega)
   ·(repeat' first|refine tA rfl ?_ |refine aU rfl ?_ |refine Aa ?_|(refine aC rfl ?_ ?_<;>rintro⟨⟩)|refine aK ?_|refine aE ?_|refine aB ?_|refine aR ⟨_,rfl,?_⟩)
    rw [o]
 ·have g:Ey w=false:=by unfold Ey;simp [n]
  rw [g];refine eN Tryz.func177 rfl (by kernel_rfl) rfl ?_;intro Z d;(repeat first|refine tA rfl ?_ |refine s2 rfl λ_ b=>?_ |refine aU rfl ?_ |refine Aa ?_);(refine aC rfl ?_ ?_<;>rintro⟨⟩)
  ·(repeat' first|refine tA rfl ?_ |refine aU rfl ?_ |refine Aa ?_|(refine aC rfl ?_ ?_<;>rintro⟨⟩)|refine aK ?_|refine aE ?_|refine aB ?_|refine aR ⟨_,rfl,?_⟩)
   rfl
  ·exfalso;(simp only[oZ] at *;omega)
abbrev mg(n:Int)(b:Bool):E:=.t [(false,[.d (iD n)]),(false,[.d (bD b)])]
theorem ZR{w:W}{k:Nat}{c:UInt8}(a:w[k]? = some c):Kz (w.take (k+1))=Kz (w.take k) ||| 2 ^ (c.toNat - 97):=by
 unfold Kz;rw [d8,a];simp
theorem PU(w:W)(s:w.length<=1099511627776):Pure Tryz.prog TB 212 [eT w] (if Ey w then mg (Kz w:Nat) true else mg 0 false):=by
 have f:=LU (TB:=TB) w s;by_cases e:Ey w=true
 ·have a:=e
  unfold Ey at a;simp only [d4,decide_eq_true_eq] at a;rw [if_pos e];refine eN Tryz.func212 rfl (by kernel_rfl) rfl ?_;intro Z d;(repeat first|refine tA rfl ?_ |refine s2 rfl λ_ b=>?_ |(refine sC rfl (f) ?_;intro _ b) |refine aU rfl ?_ |refine Aa ?_);(refine aC rfl ?_ ?_<;>rintro⟨⟩)
  ·exfalso;simp at *;grind
  refine aK ?_;(repeat first|refine tA rfl ?_ |refine aU rfl ?_ |refine Aa ?_);refine aB ?_;refine aL (α:={k:Nat // k<=w.length}) [0] [] rfl rfl (λ⟨k,hk⟩=>[(4,eI .i64 (Kz (w.take k):Nat)),(5,eI .i64 k)]) (λ⟨k,hk⟩=>[]) 0 (λ⟨k,hk⟩=>w.length - k) (⟨0,by omega⟩) d rfl (by (simp[cX,zC,d]<;>rfl)) ?_;rintro⟨k,hk⟩;(try dsimp only[cA,cB]);by_cases m:k < w.length
  ·obtain⟨c,p⟩:=get_some m
   have o:w[((k:Nat):Int).toNat]? = some c:=by simpa using p
   have n:=Ih (TB:=TB) w k c o;have h:=(f9.1 a.2) c (co p);rw [FA,decide_eq_true_eq] at h;have i:=T7 (TB:=TB) ((c.toNat:Int) - 97) h.1 (by omega);have j:=ZR p;have l:Kz (w.take k) < 64:=SJ (by rw [f9];exact λx r=>(f9.1 a.2) x (nt r)) (by omega)
   have ht:((c.toNat:Int) - 97).toNat=c.toNat - 97:=by omega
   have q:2 ^ (c.toNat - 97) < 2 ^ 6:=pk (by omega) (by omega);have g:=(K6 l q).1;rw [<-j] at g;rw [ht] at i;(repeat first|refine tA rfl ?_ |refine s2 rfl λ_ b=>?_ |refine aU rfl ?_ |refine Aa ?_);(refine aC rfl ?_ ?_<;>rintro⟨⟩)
   ·(repeat' first|(refine sA rfl ?_ ?_;first|exact tI|omega) |refine sP rfl (n) rfl ?_|refine sP rfl (i) rfl ?_ |refine aU rfl ?_ |refine Aa ?_|(refine aC rfl ?_ ?_<;>rintro⟨⟩)|refine aK ?_|refine aE ?_|refine aB ?_|refine aR ⟨_,rfl,?_⟩)
    rw [g];refine⟨⟨k+1,by omega⟩,by dsimp only;(omega),[],?_⟩;simp[cX,zC,d]
   ·exfalso;(simp only[oZ] at *;omega)
  ·obtain rfl:k=w.length:=by omega
   rw [io];(repeat first|refine tA rfl ?_ |refine s2 rfl λ_ b=>?_ |refine aU rfl ?_ |refine Aa ?_);(refine aC rfl ?_ ?_<;>rintro⟨⟩)
   ·exfalso;(simp only[oZ] at *;omega)
   ·(repeat' first|refine tA rfl ?_ |refine aU rfl ?_ |refine Aa ?_|(refine aC rfl ?_ ?_<;>rintro⟨⟩)|refine aK ?_|refine aE ?_|refine aB ?_|refine aR ⟨_,rfl,?_⟩)
    rfl
 ·rw [if_neg e]
  refine eN Tryz.func212 rfl (by kernel_rfl) rfl ?_;intro Z d;(repeat first|refine tA rfl ?_ |refine s2 rfl λ_ b=>?_ |(refine sC rfl (f) ?_;intro _ b) |refine aU rfl ?_ |refine Aa ?_);(refine aC rfl ?_ ?_<;>rintro⟨⟩)
  ·(repeat' first|refine tA rfl ?_ |refine aU rfl ?_ |refine Aa ?_|(refine aC rfl ?_ ?_<;>rintro⟨⟩)|refine aK ?_|refine aE ?_|refine aB ?_|refine aR ⟨_,rfl,?_⟩)
   rfl
  ·exfalso;simp at *;grind
theorem Ef(w:W)(al:Int)(i:w.length<=1099511627776):Pure Tryz.prog TB 180 [eT w,eI .i64 al] (eB (within w al)):=by
 have d:=PU (TB:=TB) w i;have g:=Dj (TB:=TB) al;by_cases a:Ey w=true
 ·rw [if_pos a] at d
  unfold Ey at a;simp only [d4,decide_eq_true_eq] at a
  have f:within w al=(A7 al && w.all (Ig al)):=by unfold within;simp [a.1]
  rw [f];refine eN Tryz.func180 rfl (by kernel_rfl) rfl ?_;intro Z e;(repeat' first|refine tA rfl ?_ |refine s2 rfl λ_ c=>?_ |refine sP rfl (d) rfl ?_|(refine sC rfl (g) ?_;intro _ c) |refine s3 rfl ?_ ?_<;>rintro rfl |refine aU rfl ?_ |refine Aa ?_|(refine aC rfl ?_ ?_<;>rintro⟨⟩)|refine aK ?_|refine aE ?_|refine aB ?_|refine aR ⟨_,rfl,?_⟩)
  all_goals first
   | (show E.o _=E.o _;congr;grind)
   | (rename_i ha b;rw [fI a.2 ha] at c;show E.o _=E.o _;rw [ha,c];rfl)
 ·rw [if_neg a] at d
  have f:within w al=false:=by
   rw [Bool.eq_false_iff];intro h;unfold within at h;simp only [d4,decide_eq_true_eq] at h;exact a (by unfold Ey;simp [h.1,Xe h.2.2])
  rw [f];refine eN Tryz.func180 rfl (by kernel_rfl) rfl ?_;intro Z e;(repeat' first|refine tA rfl ?_ |refine sP rfl (d) rfl ?_|(refine sC rfl (g) ?_;intro _ c) |refine aU rfl ?_ |refine Aa ?_|(refine aC rfl ?_ ?_<;>rintro⟨⟩)|refine aK ?_|refine aE ?_|refine aB ?_|refine aR ⟨_,rfl,?_⟩)
  all_goals rfl
end Go.Am
