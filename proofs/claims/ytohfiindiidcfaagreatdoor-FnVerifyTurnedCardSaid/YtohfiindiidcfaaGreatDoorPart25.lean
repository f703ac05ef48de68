/-
  The table that is closed.
-/
import Derived.Test.YtohfiindiidcfaaGreatDoorPart24
import Derived.Test.YtohfiindiidcfaaGreatDoorPart16
set_option linter.all false
namespace Go.Am
open Go Go.Proofs
set_option maxHeartbeats 1000000
set_option maxRecDepth 4000
attribute [local irreducible] A3 Cp Lex Bl Aj Spec
variable {TB:BC}
structure He (al:Int) (b:Nat) (t:A2):Prop where
 onR:∀w∈t.rows,AS (A4 al) w/\w.length<=b
 onC:∀x∈t.cols,AS (A4 al) x/\x.length<=20000
 rl:t.rows.length<=12
 cl:t.cols.length<=20
def SC(ok:W->Prop)(al:Int):Prop:=∀w,AS (A4 al) w->w.length<=50000->ok w
def NH(ls:List UInt8)(t:A2)(v:W):Prop:=∃r∈t.rows,∃m:W,(m=[]\/∃l∈ls,m=[l])/\∃x:W,(x=[]\/x∈t.cols)/\v=r++m++x
def I0(ok:W->Prop)(ls:List UInt8)(t:A2):Prop:=∀v,NH ls t v->ok v
def EP(L:W->Bool)(ls:List UInt8):Nat->A2->List A2
 | 0,t=>[t]
 | n+1,t=>t::match Bc L ls t with
  | none=>[]
  | some w=>if t.rows.length=12 then [] else EP L ls n ⟨t.rows++[w],t.cols⟩
theorem WK{L:W->Bool}{ls:List UInt8}{n:Nat}{t:A2}:t∈EP L ls n t:=by cases n<;>simp [EP]
theorem He.iZ{ok:W->Prop}{al:Int}{b:Nat}{t:A2}(h:He al b t)(d:I0 ok (A4 al) t)(hb:b<=20100):bG ok t/\∀w∈t.rows,∀l∈A4 al,∀x∈t.cols,ok (w++[l]++x):=
  ⟨⟨λw c x a=>d _ ⟨w,c,[],.inl rfl,x,.inr a,by simp⟩,λw c=>by have:=(h.onR w c).2;omega,λx a=>by have:=(h.onC x a).2;omega,by have:=h.rl;omega,by have:=h.cl;omega⟩,
   λw c l e x a=>d _ ⟨w,c,[l],.inr ⟨l,e,rfl⟩,x,.inr a,rfl⟩⟩
theorem He.on{ok:W->Prop}{al:Int}{b:Nat}{t:A2}(h:He al b t)(i:SC ok al)(hb:b<=20100):I0 ok (A4 al) t:=by
 rintro v ⟨r,e,m,f,x,d,rfl⟩;have n:=h.onR r e
 have k:AS (A4 al) m/\m.length<=1:=by
  rcases f with rfl|⟨l,g,rfl⟩
  ·exact⟨λc a=>by simp at a,by simp⟩
  ·exact⟨λc a=>by simp at a;subst a;exact g,by simp⟩
 have j:AS (A4 al) x/\x.length<=20000:=by
  rcases d with rfl|d
  ·exact⟨λc a=>by simp at a,by simp⟩
  ·exact h.onC x d
 refine i _ (λc a=>?_) (by simp;omega);simp only [em] at a
 rcases a with (a|a)|a
 ·exact n.1 c a
 ·exact k.1 c a
 ·exact j.1 c a
theorem He.push{L:W->Bool}{al:Int}{b:Nat}{t:A2}{w:W}(h:He al b t)(g:Bc L (A4 al) t=some w)(i:t.rows.length < 12):He al (b+1) ⟨t.rows++[w],t.cols⟩:=by
 obtain⟨⟨r,f,l,e,rfl⟩,_⟩:=Iy g;refine⟨λu a=>?_,h.onC,by simp;omega,h.cl⟩
 rcases em.1 a with a|a
 ·have:=h.onR u a;exact⟨this.1,by omega⟩
 ·simp at a
  subst a;have:=h.onR r f;refine⟨λc d=>?_,by simp;omega⟩
  rcases em.1 d with d|d
  ·exact this.1 c d
  ·simp at d;subst d;exact e
theorem He.grow{L:W->Bool}{al:Int}:∀ {n b:Nat} {t y:A2},He al b t->y∈EP L (A4 al) n t->He al (b+n) y
 | 0,b,t,y,h,a=>by simp [EP] at a;subst a;exact h
 | n + 1, b,t,y,h,a=>by
  have f:∀ {b':Nat} {z:A2},b'<=b+(n+1)->He al b' z->He al (b+(n+1)) z:=λhb c=>⟨λw e=>⟨(c.onR w e).1,lc (c.onR w e).2 hb⟩,c.onC,c.rl,c.cl⟩
  unfold EP at a
  rcases oI.1 a with rfl|a
  ·exact f (by omega) h
  ·cases d:Bc L (A4 al) t with
   | none=>rw [d] at a;simp at a
   | some w=>
    rw [d] at a;dsimp only at a;split at a
    ·simp at a
    ·have:=h.rl
     exact f (by omega) (He.grow (h.push d (by omega)) a)
theorem He.nP{L:W->Bool}{ok:W->Prop}{al:Int}{b:Nat}{t:A2}(h:He al b t)(c:SC ok al)(hb:b<=20000):∀y∈EP L (A4 al) 13 t,I0 ok (A4 al) y:=λy a=>(h.grow a).on c (by omega)
theorem Ja{c:C}{L:W->Bool}{ok:W->Prop}(K:JZ Tryz.prog TB c L ok)(al:Int)(t:A2)(Y:∀y∈EP L (A4 al) 13 t,I0 ok (A4 al) y)(ht:He al 20000 t) :
 Pure Tryz.prog TB 113 [Je al c,Eh t] (IN (Bm L (A4 al) 13 t)):=by
 have v:=E5 c K.Cm;have V:=ht.rl;have hcl:=ht.cl;have J:=Lr (TB:=TB) t.rows (by omega);have I:=Lr (TB:=TB) t.cols (by omega);refine AQ.Hy (AQ.ofM 2 (i9 _) Tryz.func113 rfl rfl (by kernel_rfl) (am rfl) ?_);intro Z b;(repeat first|refine aU rfl ?_);(refine pW rfl ?_ rfl (by rfl);refine De rfl rfl ?_);(refine Ag rfl ?_;refine CI (λ_ _=>Db rfl rfl rfl) rfl ?_);(repeat first|refine tM rfl ?_ |refine aU rfl ?_ |refine Aa ?_);refine R.Rn [(7,3),(0,2),(1,2),(3,2),(4,2),(2,1),(5,1),(6,0),(8,5)] mixed (by kernel_rfl) rfl (by kernel_rfl) ?_;(repeat ((refine R.Ag rfl ?_;first|(refine R.yQ (md:=false) rfl rfl rfl ?_ ?_;exact tI) |refine R.yP rfl rfl rfl rfl ?_ )));(refine R.Ag rfl ?_;refine R.J9 (λ_=>?_) rfl rfl;refine Ai [] rfl rfl J ⟨rfl,by simp,by simp⟩ rfl trivial ?_;rintro P F G ⟨rfl,rfl,rfl⟩ _);(refine R.Ag rfl ?_;refine R.J9 (λ_=>?_) rfl rfl;refine Ai [] rfl rfl I ⟨rfl,by simp,by simp⟩ rfl trivial ?_;rintro P F G ⟨rfl,rfl,rfl⟩ _);(repeat ((refine R.Ag rfl ?_;first|refine R.yA rfl rfl rfl rfl ?_|refine R.CI (λ_ _ _=>AG rfl rfl (by rfl) (by rfl)) rfl rfl ?_ )));refine R.QW ?_;refine aB ?_
 have Q:∀x:A2,Bc L (A4 al) x=none\/∃w,Bc L (A4 al) x=some w:=λx=>by cases Bc L (A4 al) x<;>simp
 refine Aj.A5 (α:={p:Nat×A2 // p.1<=13/\13<=p.1+p.2.rows.length/\He al (20000+p.2.rows.length) p.2/\Bm L (A4 al) 13 t=Bm L (A4 al) p.1 p.2/\∀y∈EP L (A4 al) p.1 p.2,I0 ok (A4 al) y}) (λ⟨⟨m,u⟩,B,f,j,q,e⟩=>[(2,.o (.ptr 0 2 0 0)),(4,.o (.ptr 1 2 0 0)),(6,.o (.ptr 4 2 0 0))]) (λ⟨⟨m,u⟩,B,f,j,q,e⟩=>[(0,.cells 91 2 [[.d (iD al),c]]),(1,.cells 98 2 [[.d (.l []),.d (.l [])]]),(2,.cells 9 1 (u.rows.map Em)),(3,.cells 9 1 (u.cols.map Em)),(4,.cells 98 2 [[.arr 2 1 0 u.rows.length,.arr 3 1 0 u.cols.length]])]) 5 (λ⟨⟨m,u⟩,B,f,j,q,e⟩=>m) (⟨(13,t),by simp,by simp,⟨λw N=>⟨(ht.onR w N).1,by have:=(ht.onR w N).2;omega⟩,ht.onC,ht.rl,ht.cl⟩,rfl,Y⟩) [0,1,2,3,4] (Ee b rfl rfl) (by (simp[cX,zC,b,v,eC,Ab.Bi,BY,IP,BU,Ae])) ?_;rintro⟨⟨m,u⟩,B,f,j,q,e⟩;(try dsimp only);dsimp only at B f j q e
 have s:∀l:List W,((l.map Em).drop 0).take l.length=(l.map CT).map (λr=>r.map C.d):=λl=>by rw [pu,gc (by simp)];simp [d5]
 have T:=j.rl;have U:=j.cl;have n:=j.iZ (e u WK) (by omega);have g:=Tb (TB:=TB) K al u n.1 n.2
 have A:iP [(0,.cells 91 2 [[.d (iD al),c]]),(1,.cells 98 2 [[.d (.l []),.d (.l [])]]),(2,.cells 9 1 (u.rows.map Em)),(3,.cells 9 1 (u.cols.map Em)),(4,.cells 98 2 [[.arr 2 1 0 u.rows.length,.arr 3 1 0 u.cols.length]])] [.a [.d (iD al),c],.a [.arr 2 1 0 u.rows.length,.arr 3 1 0 u.cols.length]] [Je al c,Eh u]:=
  .cons (.cons (.pure rfl) (.cons (.pure K.Cm) .nil)) (.cons (.cons (.arr rfl (by simp) (s _)) (.cons (.arr rfl (by simp) (s _)) .nil)) .nil)
 refine aB ?_
 rcases Q u with k|⟨w,k⟩
 ·rw [k] at g
  (repeat first|refine tM rfl ?_ |refine s2 rfl λ_ h=>?_|(refine Ag rfl ?_;refine gA rfl ?_;first| refine gQ (IA rfl rfl (A) (g) rfl) rfl ?_) |refine aU rfl ?_ |refine Aa ?_);(refine aC rfl ?_ ?_<;>rintro⟨⟩)
  ·(repeat first|refine tM rfl ?_ |refine aU rfl ?_ |refine Aa ?_)
   have z:Bm L (A4 al) 13 t=some u:=by
    rw [q]
    obtain⟨m',rfl⟩:∃m',m=m'+1:=⟨m - 1,by omega⟩
    simp [Bm,k]
   refine Aj.names [1,2,3] [(4,.o (.ptr 0 2 0 0)),(5,eB true)] [(0,.cells 98 2 [[.arr 1 1 0 u.rows.length,.arr 2 1 0 u.cols.length]]),(1,.cells 9 1 (u.rows.map Em)),(2,.cells 9 1 (u.cols.map Em))] (by intro i hi;rw [b] at hi;omega) (by simp) (by simp[cX,zC,b,IP]) (by simp[cX,zC,b,IP,Ab.Bi,BY,BU,eC,Ae]) ?_;refine Aj.OB [1,2] [(4,.o (.ptr 0 2 0 0)),(5,eB true)] [(0,.cells 98 2 [[.d (BZ u.rows),.d (BZ u.cols)]])] ⟨⟨_,rfl,.AR⟩,⟨_,rfl,.AR⟩,trivial⟩ ⟨⟨_,rfl,by simp,.cons (.full (by simp) rfl (by simp [d5]) (by simp)) (.cons (.full (by simp) rfl (by simp [d5]) (by simp)) .nil)⟩,trivial⟩ ?_;refine Aj.freeze [0] [(4,.o (.ip [BZ u.rows,BZ u.cols])),(5,eB true)] ⟨⟨_,rfl,.o (.ptr (by simp) rfl rfl rfl)⟩,⟨_,rfl,.AR⟩,trivial⟩ ?_;refine aR ⟨_,rfl,?_⟩;rw [z];rfl
  ·simp at h
 ·rw [k] at g
  (repeat first|refine tM rfl ?_ |refine s2 rfl λ_ h=>?_|(refine Ag rfl ?_;refine gA rfl ?_;first| refine gQ (IA rfl rfl (A) (g) rfl) rfl ?_) |refine aU rfl ?_ |refine Aa ?_);(refine aC rfl ?_ ?_<;>rintro⟨⟩)
  ·simp at h
  ·refine aK ?_
   (repeat first|refine tM rfl ?_ |refine s2 rfl λ_ h=>?_ |refine aU rfl ?_ |refine Aa ?_);(refine aC rfl ?_ ?_<;>rintro⟨⟩)
   ·(repeat first|refine tM rfl ?_|(refine Ag rfl ?_;refine gA rfl ?_;first| refine gS (λ_ _=>AG rfl rfl (by rfl) (by rfl)) ?_) |refine aU rfl ?_ |refine Aa ?_)
    have z:Bm L (A4 al) 13 t=none:=by
     have M:u.rows.length=12:=by (simp only[oZ] at *;omega)
     rw [q]
     obtain⟨m',rfl⟩:∃m',m=m'+1:=⟨m - 1,by omega⟩
     simp [Bm,k,M]
    refine Aj.freeze [1] [(4,.o (.ip [.l [],.l []])),(5,eB false)] ⟨⟨_,rfl,.o (.ptr (by simp) rfl rfl rfl)⟩,⟨_,rfl,.AR⟩,trivial⟩ ?_;refine aR ⟨_,rfl,?_⟩;rw [z];rfl
   ·refine aK ?_
    have H:u.rows.length < 12:=by (simp only[oZ] at *;omega)
    obtain⟨m',rfl⟩:∃m',m=m'+1:=⟨m - 1,by omega⟩
    have z:Bm L (A4 al) 13 t=Bm L (A4 al) m' ⟨u.rows++[w],u.cols⟩:=by
     rw [q]
     conv=>lhs;unfold Bm
     rw [k];dsimp only;rw [if_neg (by omega)]
    have X:=j.push k H;(repeat first|refine tA rfl ?_ |refine aU rfl ?_);(refine pW rfl ?_ rfl (by rfl);refine Au rfl rfl rfl (by first| (simp;done)|(simp;(omega))) rfl (by intro r v;simp at v;subst v;rfl) (by rfl) (am rfl) (by simp;omega) ?_);(repeat first|refine tM rfl ?_ |refine Aa ?_);refine⟨⟨⟨m',⟨u.rows++[w],u.cols⟩⟩,by dsimp only;omega,by simp;omega,by simpa [o4] using X,z,λy S=>e y (by unfold EP;rw [k];dsimp only;rw [if_neg (by omega)];exact oT _ S)⟩,by dsimp only;(omega),[0,1,5,3,4],?_⟩;simp[cX,zC,b,v,eC,Ab.Bi,BY,IP,BU,Ae]
def Bw:A2:=⟨[[]],[[]]⟩
theorem JV(al:Int):He al 20000 Bw:=by
 refine⟨λw a=>?_,λw a=>?_,by decide,by decide⟩<;>(simp [Bw] at a;subst a;exact⟨λc b=>by simp at b,by simp⟩)
theorem Tr{c:C}{L:W->Bool}{ok:W->Prop}(b:JZ Tryz.prog TB c L ok)(al:Int)(e:∀y∈EP L (A4 al) 13 Bw,I0 ok (A4 al) y) :
 Pure Tryz.prog TB 65 [Je al c] (IN (Bm L (A4 al) 13 Bw)):=by
 have f:=E5 c b.Cm;have h:=Ja b al Bw e (JV al);refine AQ.Hy (AQ.ofM 2 (i9 _) Tryz.func65 rfl rfl (by kernel_rfl) (am rfl) ?_);intro Z d;generalize Bm L (A4 al) 13 Bw=o at h |-;(repeat first|refine aU rfl ?_);(refine pW rfl ?_ rfl (by rfl);refine De rfl rfl ?_);(repeat first|refine tM rfl ?_ |refine aU rfl ?_ |refine Aa ?_)
 have a:([Je al c,Eh Bw].all E.Cm && C.Ds [])=true:=by simp [Je,Eh,E.Cm,C.Ds,C.Cm,b.Cm]
 cases o with
 | none=>
  (repeat first|refine tA rfl ?_|(refine Ag rfl ?_;refine gA rfl ?_;first| refine gS (λ_ _=>Bu rfl rfl a h rfl) ?_|refine gS (λ_ _=>AG rfl rfl (by rfl) (by rfl)) ?_) |refine Aa ?_);refine Aj.freeze [1] [(2,.o (.ip [.l [],.l []])),(3,eB false)] ⟨⟨_,rfl,.o (.ptr (by simp) rfl rfl rfl)⟩,⟨_,rfl,.AR⟩,trivial⟩ ?_;refine aR ⟨_,rfl,?_⟩;rfl
 | some u=>
  (repeat first|refine tA rfl ?_|(refine Ag rfl ?_;refine gA rfl ?_;first| refine gS (λ_ _=>Bu rfl rfl a h rfl) ?_|refine gS (λ_ _=>AG rfl rfl (by rfl) (by rfl)) ?_) |refine Aa ?_);refine Aj.freeze [1] [(2,.o (.ip [BZ u.rows,BZ u.cols])),(3,eB true)] ⟨⟨_,rfl,.o (.ptr (by simp) rfl rfl rfl)⟩,⟨_,rfl,.AR⟩,trivial⟩ ?_;refine aR ⟨_,rfl,?_⟩;rfl
def A1(L:W->Bool)(al:Int)(t:A2):AY:=⟨al,t.rows.map λr=>(Ac al).map λl=>((Dj L t (r++[lb l]):Nat):Int),t.rows.map L⟩
theorem UU{L:W->Bool}{al:Int}{t:A2}(b:Bc L (A4 al) t=none){r:W}(a:r∈t.rows){l:Int}(d:l∈Ac al) :
 (CZ (BX L t t.rows.length) (marks L t.cols (r++[lb l]))).getD 0=((Dj L t (r++[lb l]):Nat):Int):=by
 have c:marks L t.cols (r++[lb l])∈AK L t:=by
  have:=qu.1 b (r++[lb l]) (by
   unfold CS
   exact pN.2 ⟨r,a,d8.2 ⟨lb l,d8.2 ⟨l,d,rfl⟩,rfl⟩⟩)
  simpa using this
 rw [Vi,if_pos c];rfl
theorem QI{c:C}{L:W->Bool}{ok:W->Prop}(u:JZ Tryz.prog TB c L ok)(al:Int)(t:A2)(J:I0 ok (A4 al) t)(ht:He al 20012 t)(S:Bc L (A4 al) t=none) :
 Pure Tryz.prog TB 66 [Je al c,Eh t] (Bj (A1 L al t)):=by
 have a:=E5 c u.Cm;have Q:=ht.rl;have Y:=ht.cl;have V:(Ac al).length<=6:=AM al 6;have h:=ht.iZ J (by omega)
 have T:(A1 L al t).nx.length=t.rows.length:=by simp [A1]
 have hal:(A1 L al t).ac.length=t.rows.length:=by simp [A1]
 refine AQ.Hy (AQ.ofM 3 (i9 _) Tryz.func66 rfl rfl (by kernel_rfl) (am rfl) ?_);intro Z e;(repeat first|refine aU rfl ?_);(refine pW rfl ?_ rfl (by rfl);refine De rfl rfl ?_);(refine Ag rfl ?_;refine CI (λ_ _=>Db rfl rfl rfl) rfl ?_);(repeat first|refine tA rfl ?_ |refine aU rfl ?_ |refine Aa ?_);(refine pW rfl ?_ rfl (by rfl);refine Ai [] rfl rfl (Hx u al t h.1) ⟨rfl,by simp,by simp⟩ (by simp [EY,E.Bi,C.CA,C.Bi,a,eC]) trivial ?_;rintro x0 K M ⟨rfl,rfl,rfl⟩ _);(repeat first|refine tA rfl ?_ |refine aU rfl ?_ |refine Aa ?_);(refine pW rfl ?_ rfl (by rfl);refine JN 1 1 64 2 1 4 rfl rfl (by decide) rfl rfl (by rfl) (by rfl) ?_);(repeat first|refine sN rfl ?_ |refine tA rfl ?_ |refine aU rfl ?_ |refine Aa ?_);refine aB ?_;refine Aj.A5 (α:={k:Nat // k<=t.rows.length}) (λ⟨k,m⟩=>[(2,.o (.ptr 0 2 0 0)),(3,.o (.ip (VM t))),(4,.o (.ptr 1 3 0 0)),(5,.o (.mp 2)),(6,.o (.ptr 3 3 0 0)),(19,.o (.d (BZ t.rows))),(20,eI .i64 t.rows.length),(21,eI .i64 k)]) (λ⟨k,m⟩=>[(0,.cells 91 2 [[.d (iD al),c]]),(1,.cells 29 3 [[.d (iD 0),.d (.l []),.d (.l [])]]),(2,.mp (IX (BX L t t.rows.length))),(3,.cells 29 3 [[.d (iD al),.arr 4 1 0 k,.arr 5 1 0 k]]),(4,.cells 64 1 (((A1 L al t).nx.take k).map λr=>[.d (Fg r)])),(5,.cells 4 1 (((A1 L al t).ac.take k).map λb=>[.d (bD b)]))]) 6 (λ⟨k,m⟩=>t.rows.length - k) (⟨0,by omega⟩) [0,1,2,5,3,4] (Ee e rfl rfl) (by (simp[cX,zC,e,a,eC,Ab.Bi,BY,IP,BU,Ae])) ?_;rintro⟨k,m⟩;(try dsimp only);(repeat first|refine s2 rfl λ_ I=>?_ |refine aU rfl ?_ |refine Aa ?_);(refine aC rfl ?_ ?_<;>rintro⟨⟩)
 ·have B:k < t.rows.length:=by (simp only[oZ] at *;omega)
  obtain⟨r,p⟩:=get_some (l:=t.rows) (k:=k) B;have P:=get_map (g:=CT) p;have f:=co p;refine aK ?_;refine aS (aB ?_);(repeat first|refine tM rfl ?_ |(refine s4 rfl ‹_› rfl ?_ ?_;omega) |refine aU rfl ?_ |refine Aa ?_);(refine pW rfl ?_ rfl (by rfl);refine Hp 1 3 ?_);(repeat first|refine sN rfl ?_ |refine tM rfl ?_ |refine sP rfl (C0 al) rfl ?_ |refine aU rfl ?_ |refine Aa ?_);refine aB ?_;refine Aj.A5 (α:={j:Nat // j<=(Ac al).length}) (λ⟨j,n⟩=>[(2,.o (.ptr 0 2 0 0)),(3,.o (.ip (VM t))),(4,.o (.ptr 1 3 0 0)),(5,.o (.mp 2)),(6,.o (.ptr 3 3 0 0)),(19,.o (.d (BZ t.rows))),(20,eI .i64 t.rows.length),(21,eI .i64 k),(8,eT r),(9,.o (.arr 6 1 0 j)),(27,Ak (Ac al)),(28,eI .i64 (Ac al).length),(29,eI .i64 j)]) (λ⟨j,n⟩=>[(0,.cells 91 2 [[.d (iD al),c]]),(1,.cells 29 3 [[.d (iD 0),.d (.l []),.d (.l [])]]),(2,.mp (IX (BX L t t.rows.length))),(3,.cells 29 3 [[.d (iD al),.arr 4 1 0 k,.arr 5 1 0 k]]),(4,.cells 64 1 (((A1 L al t).nx.take k).map λr=>[.d (Fg r)])),(5,.cells 4 1 (((A1 L al t).ac.take k).map λb=>[.d (bD b)])),(6,.cells 3 1 (((Ac al).take j).map λl=>[.d (iD ((Dj L t (r++[lb l]):Nat):Int))]))]) 7 (λ⟨j,n⟩=>(Ac al).length - j) (⟨0,by omega⟩) [0,1,2,3,4,5,6] (Ee e rfl rfl) (by (simp[cX,zC,e,a,eC,Ab.Bi,BY,IP])) ?_;rintro⟨j,n⟩;(try dsimp only);(repeat first|refine s2 rfl λ_ I=>?_ |refine aU rfl ?_ |refine Aa ?_);(refine aC rfl ?_ ?_<;>rintro⟨⟩)
  ·have s:j < (Ac al).length:=by (simp only[oZ] at *;omega)
   obtain⟨l,G⟩:=get_some (l:=Ac al) (k:=j) s;have X:=get_map (g:=Bs) G;have i:=co G;have q:=Al i;have R:=ht.onR r f;have U:=LN (TB:=TB) u al t (r++[lb l]) (by omega) (λx p=>h.2 r f _ (d8.2 ⟨l,i,rfl⟩) x p) (λy N=>by have:=(ht.onC y N).2;simp;omega);have F:=UU S f i;refine aK ?_;refine aS (aB ?_);(repeat first|refine tA rfl ?_ |(refine s4 rfl ‹_› rfl ?_ ?_;omega) |refine aU rfl ?_ |refine Aa ?_);refine rG (Hg [13]) (by kernel_rfl) ?_;(repeat first|(refine sA rfl ?_ ?_;first|exact tI|omega|simp only[oZ] at *;omega) |refine sP rfl (FF l q.1 (by omega)) rfl ?_|(refine Ag rfl ?_;refine gA rfl ?_;first| refine gS (λ_ _=>Xu rfl (by omega) (by omega)) ?_));rw [cY q.1];(repeat first| (refine Ag rfl ?_;refine gA rfl ?_;first| refine gS (λ_ _=>Bu rfl rfl (by simp [E.Cm,C.Ds,C.Cm,u.Cm]) U rfl) ?_|refine gQ (Y3 rfl rfl rfl) (by rfl) ?_));(repeat first|refine tA rfl ?_);(refine pW rfl ?_ rfl (by rfl);refine Au rfl rfl rfl (by first| (simp;done)|(simp;(omega))) rfl (by intro r a;simp at a;subst a;rfl) (by rfl) (am rfl) (by simp;omega) ?_);(repeat first|(refine sA rfl ?_ ?_;first|exact tI|omega) |refine aU rfl ?_ |refine Aa ?_);rw [F];refine⟨⟨j+1,by omega⟩,by dsimp only;(omega),[0,1,2,3,4,5,7],?_⟩;simp[cX,zC,e,a,d9,G]
  ·obtain rfl:j=(Ac al).length:=by (simp only[oZ] at *;omega)
   have z:=J r ⟨r,f,[],.inl rfl,[],.inl rfl,by simp⟩
   have A:(A1 L al t).nx.take (k+1)=(A1 L al t).nx.take k++[(Ac al).map λl=>((Dj L t (r++[lb l]):Nat):Int)]:=by
    rw [d9];simp [A1,p]
   have H:(A1 L al t).ac.take (k+1)=(A1 L al t).ac.take k++[L r]:=by
    rw [d9];simp [A1,p]
   refine aE ?_;rw [gt];refine Aj.YE [6] [2,3,4,5,6,8,19,20,21] rfl [(9,Ak ((Ac al).map λl=>((Dj L t (r++[lb l]):Nat):Int)))] ⟨⟨_,rfl,.o (.full (by simp) rfl (by simp [d5]) (by simp))⟩,trivial⟩ ?_;(try dsimp only[cA,cB]);(repeat first|refine tA rfl ?_ |refine aU rfl ?_);(refine pW rfl ?_ rfl (by rfl);refine Au rfl rfl rfl (by first| (simp;done)|(simp;(omega))) rfl (by intro r a;simp at a;subst a;rfl) (by rfl) (am rfl) (by simp;omega) ?_);(repeat first|refine tA rfl ?_ |refine Aa ?_);refine rG (Hg [7,9]) (by kernel_rfl) ?_;(repeat first|refine tA rfl ?_|(refine Ag rfl ?_;refine gA rfl ?_;first| refine gS (λ_ _=>u.ask rfl rfl z) ?_));(refine pW rfl ?_ rfl (by rfl);refine Au rfl rfl rfl (by first| (simp;done)|(simp;(omega))) rfl (by intro r a;simp at a;subst a;rfl) (by rfl) (am rfl) (by simp;omega) ?_);(repeat first|(refine sA rfl ?_ ?_;first|exact tI|omega) |refine aU rfl ?_ |refine Aa ?_);refine⟨⟨k+1,by omega⟩,by dsimp only;(omega),[0,1,2,3,7,8],?_⟩;simp[cX,zC,e,a,eC,Ab.Bi,BY,IP,BU,Ae,A,H]
 ·obtain rfl:k=t.rows.length:=by (simp only[oZ] at *;omega)
  have w:(A1 L al t).nx.take t.rows.length=(A1 L al t).nx:=gc (by simp [A1]);have v:(A1 L al t).ac.take t.rows.length=(A1 L al t).ac:=gc (by simp [A1]);rw [w,v];refine aE ?_;(repeat first|refine tM rfl ?_ |refine aU rfl ?_ |refine Aa ?_);refine Aj.settle [(4,.o (.ip [iD al,C4 (A1 L al t).nx,Ff (A1 L al t).ac]))] ⟨⟨_,rfl,.o (.box rfl (.cons .d (.cons (.full rfl (by simp [d5]) (by simp [A1])) (.cons (.full rfl (by simp [d5]) (by simp [A1])) .nil))))⟩,trivial⟩ ?_;refine aR ⟨_,rfl,rfl⟩
end Go.Am
namespace Go.Am
set_option linter.unusedVariables false
theorem OF{al:Int}{l:Int}(h:l∈Ac al):lb l∈A4 al:=d8.2 ⟨l,h,rfl⟩
theorem Ow{L:W->Bool}{al:Int}{t:A2}(hal:Bb al=true)(h:Cb L (A4 al) t)(b:t.rows.length<=12):AI (A1 L al t)=true:=by
 have j:0 < t.rows.length:=(ce.1 h.r0).1;unfold AI;simp only [d4,decide_eq_true_eq,f7];refine⟨⟨⟨hal,by simp [A1];omega⟩,by simp [A1]⟩,λrow a=>?_⟩;simp only [A1,d8] at a;obtain⟨r,b,rfl⟩:=a;unfold Gm;simp only [d4,decide_eq_true_eq,f7];refine⟨by simp [A1],λy c=>?_⟩;obtain⟨l,d,rfl⟩:=d8.1 c;obtain⟨i,hi,e⟩:=oW b;obtain⟨r',g,_⟩:=h.idx (i:=i) (r:=r) (by rw [d6 hi,e]) (OF d);have f:=(ce.1 g).1;unfold TQ;simp [A1];exact f
theorem LB{L:W->Bool}{al:Int}{t:A2}{q:Nat}{c:UInt8}(e:q < t.rows.length)(g:c∈A4 al):CB (A1 L al t) q ((c.toNat:Int) - 97)=((Dj L t (t.rows.getD q []++[c]):Nat):Int):=by
 obtain⟨l,a,rfl⟩:=d8.1 g;have d:=Al a;rw [KK d.1 (by omega)];obtain⟨k,hk,f⟩:=oW a
 have b:(AJ al 6)[k]? = some l:=by rw [d6 hk,f]
 have m:=Kn b;unfold CB;have j:AX (A1 L al t).al l.toNat=true:=d.2.2;rw [if_pos j];have i:(AJ (A1 L al t).al l.toNat).length=k:=m;rw [i]
 have h:(A1 L al t).nx.getD q []=(Ac al).map λl=>((Dj L t (t.rows.getD q []++[lb l]):Nat):Int):=by
  simp [A1,List.getD,e]
 rw [h];simp [List.getD,b]
theorem Sl{L:W->Bool}{al:Int}{t:A2}(h:Cb L (A4 al) t):∀(w:W) (q:Nat),AS (A4 al) w->q < t.rows.length->EA (A1 L al t) q w=((runM L t q w:Nat):Int)
 | [],q,_,_=>rfl
 | c::w,q,a,b=>by
  have f:t.rows[q]? = some t.rows[q]:=d6 b;have d:=a c (by simp);obtain⟨_,j,_⟩:=h.idx f d
  have i:t.rows.getD q []=t.rows[q]:=by simp [f]
  have e:=(ce.1 j).1
  show EA (A1 L al t) (CB (A1 L al t) ((q:Int)).toNat ((c.toNat:Int) - 97)) w=_
  rw [io,LB b d];rw [<-i] at e;exact Sl h w _ (λx g=>a x (by simp [g])) e
theorem Ou{L:W->Bool}{al:Int}{t:A2}(h:Cb L (A4 al) t){w:W}(a:AS (A4 al) w):LA (A1 L al t) w=Kt L t w:=by
 have c:0 < t.rows.length:=(ce.1 h.r0).1;have d:=h.run w 0 a c;unfold LA Kt;have b:=Sl h w 0 a c;rw [show ((0:Nat):Int)=0 from rfl] at b;rw [b,io];simp [A1,List.getD,d]
end Go.Am
namespace Go.Am
open Go Go.Proofs
set_option maxHeartbeats 1000000
set_option maxRecDepth 4000
attribute [local irreducible] A3 Cp Lex Bl Aj Spec
variable {TB:BC}
theorem Ho(w:W)(i:Nat)(c:UInt8)(e:w[((i:Nat):Int).toNat]? = some c)(d:0<=(c.toNat:Int) - 97/\(c.toNat:Int) - 97 < 6):Pure Tryz.prog TB 99 [eT w,eI .i64 i] (eI .i64 ((c.toNat:Int) - 97)):=by
 refine eN Tryz.func99 rfl (by kernel_rfl) rfl ?_;intro Z a;(repeat' first|(refine sA rfl ?_ ?_;first|exact tI|omega) |(refine s4 rfl ‹_› rfl ?_ ?_;omega) |refine s2 rfl λ_ b=>?_ |refine s3 rfl ?_ ?_<;>rintro rfl |refine aU rfl ?_ |refine Aa ?_|(refine aC rfl ?_ ?_<;>rintro⟨⟩)|refine aK ?_|refine aE ?_|refine aB ?_|refine aR ⟨_,rfl,?_⟩)
 all_goals first
  | rfl
  | (exfalso;grind)
abbrev fc(kn:Bool)(p:AY)(s:Sys)(q:AY)(al:Int):List D:=[bD kn,iD p.al,C4 p.nx,Ff p.ac,iD s.al,iD s.st,Ev s.es,iD q.al,C4 q.nx,Ff q.ac,iD al]
theorem JP{ls:List UInt8}{w:W}(h:AS ls w)(k:Nat):AS ls (w.take k):=λc a=>h c (oP a)
theorem gx{ls:List UInt8}{w:W}(h:AS ls w)(k:Nat):AS ls (w.drop k):=λc a=>h c (pS a)
theorem aQ{p:AY}{w:W}{k:Nat}{c:UInt8}(a:w[k]? = some c)(q:Int):EA p q (w.take (k+1))=CB p (EA p q (w.take k)).toNat ((c.toNat:Int) - 97):=by
 rw [d9,a,VA];rfl
theorem Ns{L:W->Bool}{t:A2}{w:W}{k:Nat}{c:UInt8}(a:w[k]? = some c)(q:Nat):runM L t q (w.take (k+1))=Dj L t (t.rows.getD (runM L t q (w.take k)) []++[c]):=by
 rw [d9,a,VB];rfl
def CC(L:W->Bool)(t:A2)(w:W):Option W:=if Kt L t w=L w then none else splitAt L t (L w) 0 w
theorem Mm{L:W->Bool}{t:A2}{b:Bool}{w:W}{k q:Nat}{c:UInt8}(a:w[k]? = some c):splitAt L t b q (w.drop k)=if L (t.rows.getD (Dj L t (t.rows.getD q []++[c])) []++w.drop (k+1))≠b then some (w.drop (k+1)) else splitAt L t b (Dj L t (t.rows.getD q []++[c])) (w.drop (k+1)):=by
 rw [BD a,splitAt]
def Yw(t:A2)(w v:W):Prop:=∃r,(r=[]\/r∈t.rows)/\∃k:Nat,v=r++w.drop k
theorem Rp{c:C}{L:W->Bool}{ok:W->Prop}(I:JZ Tryz.prog TB c L ok)(al:Int)(t:A2)(hf:I0 ok (A4 al) t)(ht:He al 20012 t)(hal:Bb al=true)(n:Cb L (A4 al) t)(ho:Bc L (A4 al) t=none)(w:W)(H:∀v,Yw t w v->ok v)(z:AS (A4 al) w)(hwl:w.length<=20000) :
 Pure Tryz.prog TB 117 [Je al c,Eh t,eT w] (ZN (CC L t w)):=by
 have M:=E5 c I.Cm;have Q:=ht.rl;have U:=QI (TB:=TB) I al t hf ht ho;have J:=Ow hal n Q;have N:=Fz (TB:=TB) (A1 L al t) J
 have hnl:(A1 L al t).nx.length=t.rows.length:=by simp [A1]
 have V:0 < t.rows.length:=(ce.1 n.r0).1;have B:=H w ⟨[],.inl rfl,0,rfl⟩
 have S:([Je al c,Eh t].all E.Cm && C.Ds [])=true:=by simp [E.Cm,C.Ds,C.Cm,I.Cm]
 refine eN Tryz.func117 rfl (by kernel_rfl) rfl ?_;intro Z e;(repeat first|refine aU rfl ?_);(refine pW rfl ?_ rfl (by rfl);refine De rfl rfl ?_);(refine Ag rfl ?_;refine CI (λ_ _=>Db rfl rfl rfl) rfl ?_);(repeat first|refine tA rfl ?_ |refine aU rfl ?_ |refine Aa ?_);(repeat first|refine tA rfl ?_|(refine Ag rfl ?_;refine gA rfl ?_;first| refine gS (λ_ _=>Bu rfl rfl S U rfl) ?_) |refine aU rfl ?_ |refine Aa ?_);(repeat first|refine tA rfl ?_ |refine sP rfl (N) rfl ?_ |refine aU rfl ?_ |refine Aa ?_);refine aB ?_;refine aL (α:={k:Nat // k<=w.length}) [2,3,4,8,9,20] [0,1] rfl rfl (λ⟨k,hk⟩=>[(10,eI .i64 (runM L t 0 (w.take k):Nat)),(21,eI .i64 k)]) (λ⟨k,hk⟩=>[]) 2 (λ⟨k,hk⟩=>w.length - k) (⟨0,by omega⟩) e rfl (by (simp[cX,zC,e,M]<;>rfl)) ?_;rintro⟨k,hk⟩;(try dsimp only[cA,cB]);have r:=n.run (w.take k) 0 (JP z k) V;by_cases u:k < w.length
 ·obtain⟨o,d⟩:=get_some u
  have y:w[((k:Nat):Int).toNat]? = some o:=by simpa using d
  have m:=z o (co d);have j:=Iw m;have x:=Ho (TB:=TB) w k o y j;have ta:=Mq (a:=A1 L al t) (q:=(((runM L t 0 (w.take k):Nat):Int)).toNat) (by omega)
  have el:((((o.toNat:Int) - 97).toNat:Nat):Int)=(o.toNat:Int) - 97:=by omega
  have ra:=Jv (h:=λl=>CB (A1 L al t) (((runM L t 0 (w.take k):Nat):Int)).toNat l) j.1 (by omega);simp only [el] at ra;have f:=LB (L:=L) (al:=al) (t:=t) (q:=runM L t 0 (w.take k)) r m;have p:=Ns (L:=L) (t:=t) d 0;rw [<-p] at f;rw [io,f] at ra;(repeat first|refine s2 rfl λ_ b=>?_ |refine aU rfl ?_ |refine Aa ?_);(refine aC rfl ?_ ?_<;>rintro⟨⟩)
  ·(repeat' first|(refine sA rfl ?_ ?_;first|exact tI|omega) |(refine s4 rfl ‹_› rfl ?_ ?_;omega) |refine sP rfl (x) rfl ?_|(refine Ag rfl ?_;refine gA rfl ?_;first| refine gS (λ_ _=>EI rfl ra) ?_) |refine aU rfl ?_ |refine Aa ?_ |refine rE (by kernel_rfl) ?_|(refine aC rfl ?_ ?_<;>rintro⟨⟩)|refine aK ?_|refine aE ?_|refine aB ?_|refine aR ⟨_,rfl,?_⟩)
   refine⟨⟨k+1,by omega⟩,by dsimp only;(omega),[0,1],?_⟩;simp[cX,zC,e,M]
  ·exfalso;(simp only[oZ] at *;omega)
 ·obtain rfl : k=w.length:=by omega
  rw [gt] at *;(repeat first|refine s2 rfl λ_ b=>?_ |refine aU rfl ?_ |refine Aa ?_);(refine aC rfl ?_ ?_<;>rintro⟨⟩)
  ·exfalso;(simp only[oZ] at *;omega)
  ·refine aE ?_
   have hacx:((A1 L al t).ac.map I9)[(((runM L t 0 w:Nat):Int)).toNat]? = some (I9 (Kt L t w)):=by
    unfold Kt;simp [A1,List.getD,r]
   (repeat first|refine tA rfl ?_ |(refine s4 rfl ‹_› rfl ?_ ?_;omega) |refine s2 rfl λ_ b=>?_|(refine Ag rfl ?_;refine gA rfl ?_;first| refine gS (λ_ _=>I.ask rfl rfl B) ?_) |refine aU rfl ?_ |refine Aa ?_);(refine aC rfl ?_ ?_<;>rintro⟨⟩)
   ·have hn:CC L t w=none:=by unfold CC;rw [if_pos (by simpa using b)]
    (repeat first|refine tA rfl ?_ |refine aU rfl ?_ |refine Aa ?_);refine aR ⟨_,rfl,?_⟩;rw [hn];rfl
   ·have P:CC L t w=splitAt L t (L w) 0 w:=by unfold CC;rw [if_neg (by simpa using b)]
    rw [P];refine aK ?_;(repeat first|refine tA rfl ?_ |refine aU rfl ?_ |refine Aa ?_);refine aB ?_;refine aL (α:={k:Nat // k<=w.length/\splitAt L t (L w) 0 w=splitAt L t (L w) (runM L t 0 (w.take k)) (w.drop k)}) [2,3,4,9,12,45] [0] rfl rfl (λ⟨k,hk,i⟩=>[(10,eI .i64 (runM L t 0 (w.take k):Nat)),(46,eI .i64 k)]) (λ⟨k,hk,i⟩=>[]) 1 (λ⟨k,hk,i⟩=>w.length - k) (⟨0,by omega,rfl⟩) e rfl (by (simp[cX,zC,e,M]<;>rfl)) ?_;rintro⟨k,hk,i⟩;(try dsimp only[cA,cB]);have r:=n.run (w.take k) 0 (JP z k) V;by_cases u:k < w.length
    ·obtain⟨o,d⟩:=get_some u
     have y:w[((k:Nat):Int).toNat]? = some o:=by simpa using d
     have m:=z o (co d);have j:=Iw m;have x:=Ho (TB:=TB) w k o y j;have ta:=Mq (a:=A1 L al t) (q:=(((runM L t 0 (w.take k):Nat):Int)).toNat) (by omega)
     have el:((((o.toNat:Int) - 97).toNat:Nat):Int)=(o.toNat:Int) - 97:=by omega
     have ra:=Jv (h:=λl=>CB (A1 L al t) (((runM L t 0 (w.take k):Nat):Int)).toNat l) j.1 (by omega);simp only [el] at ra;have f:=LB (L:=L) (al:=al) (t:=t) (q:=runM L t 0 (w.take k)) r m;have p:=Ns (L:=L) (t:=t) d 0;have A:=n.run (w.take (k+1)) 0 (JP z (k+1)) V;rw [Mm d,<-p] at i;rw [<-p] at f;rw [io,f] at ra;generalize R:runM L t 0 (w.take (k+1))=X at *;obtain⟨K,s⟩:=get_some (l:=t.rows) (k:=X) A;have Y:=get_map (g:=CT) s
     have T:t.rows.getD X []=K:=by simp [List.getD,s]
     rw [T] at i;have hrb:=ht.onR K (co s);have hdl:(w.drop (k+1)).length=w.length - (k+1):=sw;have F:=H (K++w.drop (k+1)) ⟨K,.inr (co s),k+1,rfl⟩
     have G:(((k:Nat):Int)+1).toNat=k+1:=by omega
     (repeat first|refine s2 rfl λ_ b=>?_ |refine aU rfl ?_ |refine Aa ?_);(refine aC rfl ?_ ?_<;>rintro⟨⟩)
     ·refine aK ?_
      refine aS (aB ?_);(repeat first|(refine sA rfl ?_ ?_;first|exact tI|omega) |(refine s4 rfl ‹_› rfl ?_ ?_;omega) |refine sP rfl (x) rfl ?_|(refine Ag rfl ?_;refine gA rfl ?_;first| refine gS (λ_ _=>EI rfl ra) ?_) |refine aU rfl ?_ |refine Aa ?_ |refine rE (by kernel_rfl) ?_);(repeat first| (refine Ag rfl ?_;refine gA rfl ?_;first| refine gS (λ_ _=>Es rfl rfl (by omega) (by omega)) ?_));rw [G];(repeat first|(refine sA rfl ?_ ?_;first|exact tI|omega) |refine s2 rfl λ_ b=>?_|(refine Ag rfl ?_;refine gA rfl ?_;first| refine gS (λ_ _=>I.ask rfl rfl F) ?_) |refine Aa ?_);(refine aC rfl ?_ ?_<;>rintro⟨⟩)
      ·rw [if_pos (by simpa using b)] at i
       (repeat first|(refine sA rfl ?_ ?_;first|exact tI|omega)|(refine Ag rfl ?_;refine gA rfl ?_;first| refine gS (λ_ _=>Es rfl rfl (by omega) (by omega)) ?_) |refine aU rfl ?_ |refine Aa ?_);refine aR ⟨_,rfl,?_⟩;rw [G,i];rfl
      ·rw [if_neg (by simpa using b)] at i
       refine aK ?_;(repeat first|(refine sA rfl ?_ ?_;first|exact tI|omega) |refine aU rfl ?_ |refine Aa ?_);subst R;refine⟨⟨k+1,by omega,i⟩,by dsimp only;(omega),[0],?_⟩;simp[cX,zC,e,M]
     ·exfalso;(simp only[oZ] at *;omega)
    ·obtain rfl:k=w.length:=by omega
     rw [qN] at i;(repeat first|refine s2 rfl λ_ b=>?_ |refine aU rfl ?_ |refine Aa ?_);(refine aC rfl ?_ ?_<;>rintro⟨⟩)
     ·exfalso;(simp only[oZ] at *;omega)
     ·refine aE ?_
      (repeat first|refine tA rfl ?_ |refine aU rfl ?_ |refine Aa ?_);refine aR ⟨_,rfl,?_⟩;rw [i];rfl
theorem He.ot{ok:W->Prop}{al:Int}{t:A2}(ht:He al 20012 t)(f:SC ok al){w:W}(e:AS (A4 al) w)(d:w.length<=20000):∀v,Yw t w v->ok v:=by
 rintro v ⟨r,b,k,rfl⟩
 have g:AS (A4 al) r/\r.length<=20012:=by
  rcases b with rfl|b
  ·exact⟨λc a=>by simp at a,by simp⟩
  ·exact ht.onR r b
 refine f _ (λc a=>?_) (by simp;omega)
 rcases em.1 a with a|a
 ·exact g.1 c a
 ·exact gx e _ c a
def Ha(L:W->Bool)(ls:List UInt8)(t:A2)(w:W):Option A2:=(CC L t w).bind λv=>(Fo t v).bind λu=>Bm L ls 13 u
theorem N9{L:W->Bool}{t:A2}{b:Bool}:∀ {w:W} {q:Nat} {v:W},splitAt L t b q w=some v->∃p,p≠[]/\w=p++v
 | [],q,v,h=>by simp [splitAt] at h
 | c::w,q,v,h=>by
  unfold splitAt at h;split at h
  ·injection h with h;subst h;exact⟨[c],by simp,rfl⟩
  ·obtain⟨p,_,a⟩:=N9 h;exact⟨c::p,by simp,by rw [a];rfl⟩
theorem IG{L:W->Bool}{t:A2}{w v:W}(h:CC L t w=some v):∃p,p≠[]/\w=p++v:=by
 unfold CC at h;split at h
 ·cases h
 ·exact N9 h
theorem He.mono{al:Int}{b b':Nat}{t:A2}(h:He al b t)(hb:b<=b'):He al b' t:=⟨λw a=>⟨(h.onR w a).1,lc (h.onR w a).2 hb⟩,h.onC,h.rl,h.cl⟩
theorem SE{al:Int}{b:Nat}{t u:A2}{v:W}(h:He al b t)(c:AS (A4 al) v)(f:v.length<=20000)(ha:Fo t v=some u):He al b u:=by
 unfold Fo at ha;split at ha
 ·cases ha
 ·rename_i d
  injection ha with ha
  subst ha;refine⟨h.onR,λx a=>?_,h.rl,?_⟩
  ·rcases em.1 a with a|a
   ·exact h.onC x a
   ·simp at a;subst a;exact⟨c,f⟩
  ·have:=h.cl
   have g:t.cols.length≠20:=λe=>d (.inl e);simp;omega
def Yv(L:W->Bool)(ls:List UInt8)(t:A2)(w v:W):Prop:=NH ls t v\/Yw t w v\/∃x,CC L t w=some x/\∃u,Fo t x=some u/\∃y∈EP L ls 13 u,NH ls y v
theorem QT{c:C}{L:W->Bool}{ok:W->Prop}(k:JZ Tryz.prog TB c L ok)(al:Int)(t:A2)(ht:He al 20000 t)(hal:Bb al=true)(B:Cb L (A4 al) t)(K:Bc L (A4 al) t=none)(w:W)(A:∀v,Yv L (A4 al) t w v->ok v)(F:AS (A4 al) w)(m:w.length<=20000) :
 Pure Tryz.prog TB 67 [Je al c,Eh t,eT w] (IN (Ha L (A4 al) t w)):=by
 have M:=E5 c k.Cm
 have b:([Je al c,Eh t,eT w].all E.Cm && C.Ds [])=true:=by simp [E.Cm,C.Ds,C.Cm,k.Cm]
 have e:=Rp (TB:=TB) k al t (λv q=>A v (.inl q)) (ht.mono (by omega)) hal B K w (λv q=>A v (.inr (.inl q))) F m;have J:=ht.rl;have G:=ht.cl
 rcases j:CC L t w with _|v
 ·have s:Ha L (A4 al) t w=none:=by unfold Ha;rw [j];rfl
  rw [s];rw [j] at e;refine AQ.Hy (AQ.ofM 2 (i9 _) Tryz.func67 rfl rfl (by kernel_rfl) (am rfl) ?_);intro Z i;(repeat first|refine aU rfl ?_);(refine pW rfl ?_ rfl (by rfl);refine De rfl rfl ?_);(refine pW rfl ?_ rfl (by rfl);refine De rfl rfl ?_);(repeat first|refine tA rfl ?_ |refine aU rfl ?_ |refine Aa ?_);(repeat first|refine tA rfl ?_ |refine s2 rfl λ_ a=>?_|(refine Ag rfl ?_;refine gA rfl ?_;first| refine gS (λ_ _=>Bu rfl rfl b e rfl) ?_) |refine aU rfl ?_ |refine Aa ?_)
  ((refine aC rfl ?_ ?_<;>rintro⟨⟩);all_goals try (simp at a;done))
  (repeat first|refine tA rfl ?_|(refine Ag rfl ?_;refine gA rfl ?_;first| refine gS (λ_ _=>AG rfl rfl (by rfl) (by rfl)) ?_) |refine aU rfl ?_ |refine Aa ?_);refine Aj.settle [(6,.o (.ip [.l [],.l []])),(7,eB false)] ⟨⟨_,rfl,.o (.box rfl (.cons .d (.cons .d .nil)))⟩,⟨_,rfl,.o .d⟩,trivial⟩ ?_;refine aR ⟨_,rfl,rfl⟩
 ·have r:=IG j
  have n:AS (A4 al) v/\v.length<=20000:=by
   obtain⟨p,_,rfl⟩:=r;exact⟨λc k=>F c (by simp [k]),by simp at m;omega⟩
  have f:=SF (TB:=TB) t v (by omega) (by omega);rw [j] at e
  rcases ha:Fo t v with _|u
  ·have s:Ha L (A4 al) t w=none:=by unfold Ha;rw [j];simp [ha]
   rw [s];rw [ha] at f;refine AQ.Hy (AQ.ofM 2 (i9 _) Tryz.func67 rfl rfl (by kernel_rfl) (am rfl) ?_);intro Z i;(repeat first|refine aU rfl ?_);(refine pW rfl ?_ rfl (by rfl);refine De rfl rfl ?_);(refine pW rfl ?_ rfl (by rfl);refine De rfl rfl ?_);(repeat first|refine tA rfl ?_ |refine aU rfl ?_ |refine Aa ?_);(repeat first|refine tA rfl ?_ |refine s2 rfl λ_ a=>?_|(refine Ag rfl ?_;refine gA rfl ?_;first| refine gS (λ_ _=>Bu rfl rfl b e rfl) ?_) |refine aU rfl ?_ |refine Aa ?_)
   ((refine aC rfl ?_ ?_<;>rintro⟨⟩);all_goals try (simp at a;done))
   refine aK ?_;(repeat first|refine tA rfl ?_ |refine s2 rfl λ_ a=>?_ |refine sP rfl (f) rfl ?_ |refine aU rfl ?_ |refine Aa ?_)
   ((refine aC rfl ?_ ?_<;>rintro⟨⟩);all_goals try (simp at a;done))
   (repeat first|refine tA rfl ?_|(refine Ag rfl ?_;refine gA rfl ?_;first| refine gS (λ_ _=>AG rfl rfl (by rfl) (by rfl)) ?_) |refine aU rfl ?_ |refine Aa ?_);refine Aj.settle [(6,.o (.ip [.l [],.l []])),(7,eB false)] ⟨⟨_,rfl,.o (.box rfl (.cons .d (.cons .d .nil)))⟩,⟨_,rfl,.o .d⟩,trivial⟩ ?_;refine aR ⟨_,rfl,rfl⟩
  ·have I:=SE ht n.1 n.2 ha
   have g:=Ja (TB:=TB) k al u (λy H v q=>A v (.inr (.inr ⟨_,j,_,ha,y,H,q⟩))) I
   have h:([Je al c,Eh u].all E.Cm && C.Ds [])=true:=by simp [E.Cm,C.Ds,C.Cm,k.Cm]
   have s:Ha L (A4 al) t w=Bm L (A4 al) 13 u:=by unfold Ha;rw [j];simp [ha]
   rw [s];rw [ha] at f
   rcases z:Bm L (A4 al) 13 u with _|x
   ·rw [z] at g
    refine AQ.Hy (AQ.ofM 2 (i9 _) Tryz.func67 rfl rfl (by kernel_rfl) (am rfl) ?_);intro Z i;(repeat first|refine aU rfl ?_);(refine pW rfl ?_ rfl (by rfl);refine De rfl rfl ?_);(refine pW rfl ?_ rfl (by rfl);refine De rfl rfl ?_);(repeat first|refine tA rfl ?_ |refine aU rfl ?_ |refine Aa ?_);(repeat first|refine tA rfl ?_ |refine s2 rfl λ_ a=>?_|(refine Ag rfl ?_;refine gA rfl ?_;first| refine gS (λ_ _=>Bu rfl rfl b e rfl) ?_) |refine aU rfl ?_ |refine Aa ?_)
    ((refine aC rfl ?_ ?_<;>rintro⟨⟩);all_goals try (simp at a;done))
    refine aK ?_;(repeat first|refine tA rfl ?_ |refine s2 rfl λ_ a=>?_ |refine sP rfl (f) rfl ?_ |refine aU rfl ?_ |refine Aa ?_)
    ((refine aC rfl ?_ ?_<;>rintro⟨⟩);all_goals try (simp at a;done))
    refine aK ?_;(repeat first|refine tA rfl ?_|(refine Ag rfl ?_;refine gA rfl ?_;first| refine gS (λ_ _=>Bu rfl rfl h g rfl) ?_) |refine aU rfl ?_ |refine Aa ?_);refine Aj.settle [(6,.o (.ip [.l [],.l []])),(7,eB false)] ⟨⟨_,rfl,.o (.box rfl (.cons .d (.cons .d .nil)))⟩,⟨_,rfl,.o .d⟩,trivial⟩ ?_;refine aR ⟨_,rfl,rfl⟩
   ·rw [z] at g
    refine AQ.Hy (AQ.ofM 2 (i9 _) Tryz.func67 rfl rfl (by kernel_rfl) (am rfl) ?_);intro Z i;(repeat first|refine aU rfl ?_);(refine pW rfl ?_ rfl (by rfl);refine De rfl rfl ?_);(refine pW rfl ?_ rfl (by rfl);refine De rfl rfl ?_);(repeat first|refine tA rfl ?_ |refine aU rfl ?_ |refine Aa ?_);(repeat first|refine tA rfl ?_ |refine s2 rfl λ_ a=>?_|(refine Ag rfl ?_;refine gA rfl ?_;first| refine gS (λ_ _=>Bu rfl rfl b e rfl) ?_) |refine aU rfl ?_ |refine Aa ?_)
    ((refine aC rfl ?_ ?_<;>rintro⟨⟩);all_goals try (simp at a;done))
    refine aK ?_;(repeat first|refine tA rfl ?_ |refine s2 rfl λ_ a=>?_ |refine sP rfl (f) rfl ?_ |refine aU rfl ?_ |refine Aa ?_)
    ((refine aC rfl ?_ ?_<;>rintro⟨⟩);all_goals try (simp at a;done))
    refine aK ?_;(repeat first|refine tA rfl ?_|(refine Ag rfl ?_;refine gA rfl ?_;first| refine gS (λ_ _=>Bu rfl rfl h g rfl) ?_) |refine aU rfl ?_ |refine Aa ?_);refine Aj.settle [(6,.o (.ip [BZ x.rows,BZ x.cols])),(7,eB true)] ⟨⟨_,rfl,.o (.box rfl (.cons .d (.cons .d .nil)))⟩,⟨_,rfl,.o .d⟩,trivial⟩ ?_;refine aR ⟨_,rfl,rfl⟩
end Go.Am
namespace Go.Am
open Go
set_option linter.unusedVariables false
theorem JS{g:Gr}:∀ {u v:List Int} {a x:Int},reach g (u++v) a x↔∃y,reach g u a y/\reach g v y x
 | [],v,a,x=>⟨λh=>⟨a,rfl,h⟩,λ⟨y,c,b⟩=>by cases c;exact b⟩
 | l :: u,v,a,x=>by
  simp only [pM,reach];constructor
  ·rintro⟨y,d,h⟩
   obtain⟨z,c,b⟩:=JS.1 h;exact⟨z,⟨y,d,c⟩,b⟩
  ·rintro⟨z,⟨y,d,c⟩,b⟩
   exact⟨y,d,JS.2 ⟨z,c,b⟩⟩
theorem jM(n:Nat)(f:Nat->Int)(h:∀i,i<=n->0<=f i/\f i < n):∃i j,i < j/\j<=n/\f i=f j:=by
 apply Classical.byContradiction;intro hno
 have g:((List.range (n+1)).map λi=>(f i).toNat).Nodup:=by
  unfold List.Nodup;rw [pX];refine List.pairwise_lt_range.imp_of_mem λ{a b} ha hb c k=>hno ⟨a,b,c,?_,?_⟩
  ·have:=oJ.1 hb;omega
  ·have d:=h a (by have:=oJ.1 ha;omega)
   have l:=h b (by have:=oJ.1 hb;omega);omega
 have d:=PH n _ g λx e=>by
  obtain⟨i,hi,rfl⟩:=d8.1 e;have:=h i (by have:=oJ.1 hi;omega);omega
 simp at d;omega
theorem CE.short{g:Gr}(n:I6 g){w:List Int}(h:CE g (some w)):w.length < g.N:=by
 obtain⟨e,⟨x,o,c⟩,r⟩:=h;apply Classical.byContradiction;intro m;have b:∀k,∃y,reach g (w.take k) g.s0 y/\reach g (w.drop k) y x:=λk=>JS.1 (by rw [px];exact o);obtain⟨f,d⟩:=Classical.axiomOfChoice b;obtain⟨i,j,p,s,q⟩:=jM g.N f λi _=>DL n (λl a=>e l (oP a)) n.s0 (d i).1;refine r (w.take i++w.drop j) (λl a=>?_) ⟨x,JS.2 ⟨f i,(d i).1,q ▸ (d j).2⟩,c⟩ (.inl ?_)
 ·rcases em.1 a with a|a
  ·exact e l (oP a)
  ·exact e l (pS a)
 ·simp;omega
theorem TW{al:Int}:∀ {w:List Int},(∀l∈w,l∈Ac al)->AS (A4 al) (CQ w):=λ{w} h c b=>by
 obtain⟨l,a,rfl⟩:=d8.1 b;exact OF (h l a)
theorem Xo{al:Int}{w:W}(h:AS (A4 al) w):∃v:List Int,(∀l∈v,l∈Ac al)/\CQ v=w:=by
 induction w with
 | nil=>exact⟨[],by simp,rfl⟩
 | cons c w b=>
  obtain⟨v,e,g⟩:=b λx d=>h x (by simp [d]);obtain⟨l,f,rfl⟩:=d8.1 (h c (by simp))
  exact⟨l::v,λm a=>by
   rcases oI.1 a with rfl|a
   ·exact f
   ·exact e m a,by rw [<-g];rfl⟩
theorem Ny(L:W->Bool)(ls:List UInt8):TOk L ls Bw:=by
 refine⟨rfl,rfl,λi w hi d=>?_,λw a=>?_,λw a=>?_,by simp [AK,Bw],by simp [Bw]⟩
 ·have:=(ce.1 hi).1
  simp [Bw] at this;omega
 ·simp [Bw] at a;subst a;exact λc b=>(by cases b)
 ·simp [Bw] at a;subst a;exact λc b=>(by cases b)
theorem TOk.short{L:W->Bool}{ls:List UInt8}{t:A2}(h:TOk L ls t):∀(i:Nat) w,t.rows[i]? = some w->w.length<=i:=by
 intro i
 induction i using Nat.strongRecOn with
 | _ i c=>
  intro w a
  rcases po i with b|b
  ·subst b
   rw [h.r0] at a
   injection a with a
   subst a;simp
  ·obtain⟨f,j,d,e⟩:=h.pre i w a b
   have:=c j d _ e;simp at this;omega
end Go.Am
namespace Go.Am
open Go Go.Proofs
set_option maxHeartbeats 1000000
set_option maxRecDepth 4000
attribute [local irreducible] A3 Cp Lex Bl Aj Spec
variable {TB:BC}
abbrev nT(kn:Bool)(p:AY)(s:Sys)(q:AY)(al:Int):E:=.a ((fc kn p s q al).map .d)
theorem Iu(w:W)(i:Nat)(c:UInt8)(b:w[((i:Nat):Int).toNat]? = some c):Pure Tryz.prog TB 172 [eT w,eI .i64 i] (eI .i64 ((c.toNat:Int) - 97)):=by
 have hb:=c.toNat_lt;refine eN Tryz.func172 rfl (by kernel_rfl) rfl ?_;intro Z a;(repeat' first|(refine sA rfl ?_ ?_;first|exact tI|omega) |(refine s4 rfl ‹_› rfl ?_ ?_;omega) |refine aU rfl ?_ |refine Aa ?_|(refine aC rfl ?_ ?_<;>rintro⟨⟩)|refine aK ?_|refine aE ?_|refine aB ?_|refine aR ⟨_,rfl,?_⟩);rfl
theorem UO(n:Int)(a:0<=n)(c:n < 16):Pure Tryz.prog TB 120 [eI .i64 n] (eI .i64 ((2 ^ n.toNat:Nat):Int)):=by
 refine eN Tryz.func120 rfl (by kernel_rfl) rfl ?_;intro Z b;(repeat' first|(refine sA rfl ?_ ?_;first|exact tI|omega)|(refine Ag rfl ?_;refine gA rfl ?_;first| refine gS (λ_ _=>dW rfl rfl a (Zj a c)) ?_) |refine aU rfl ?_ |refine Aa ?_|(refine aC rfl ?_ ?_<;>rintro⟨⟩)|refine aK ?_|refine aE ?_|refine aB ?_|refine aR ⟨_,rfl,?_⟩);rfl
theorem FK{c:UInt8}:Gn c=decide (0<=(c.toNat:Int) - 97/\(c.toNat:Int) - 97 < 6):=by
 unfold Gn;rw [pY,decide_eq_true_eq,decide_eq_true_eq];omega
theorem MC(w:W)(p:w.length<=1099511627776):Pure Tryz.prog TB 171 [eT w] (eB (ED w)):=by
 by_cases n:w.length<=50000
 ·have g : ED w=w.all Gn:=by unfold ED;simp [n]
  rw [g];refine eN Tryz.func171 rfl (by kernel_rfl) rfl ?_;intro Z d;(repeat first|refine tA rfl ?_ |refine s2 rfl λ_ b=>?_ |refine aU rfl ?_ |refine Aa ?_);(refine aC rfl ?_ ?_<;>rintro⟨⟩)
  ·exfalso;(simp only[oZ] at *;omega)
  refine aK ?_;(repeat first|refine tA rfl ?_ |refine aU rfl ?_ |refine Aa ?_);refine aB ?_;refine aL (α:={k:Nat // k<=w.length/\(w.take k).all Gn=true}) [0] [] rfl rfl (λ⟨k,hk,ha⟩=>[(3,eI .i64 k)]) (λ⟨k,hk,ha⟩=>[]) 0 (λ⟨k,hk,ha⟩=>w.length - k) (⟨0,by omega,rfl⟩) d rfl (by (simp[cX,zC,d])) ?_;rintro⟨k,hk,ha⟩;(try dsimp only[cA,cB]);by_cases j:k < w.length
  ·obtain⟨c,m⟩:=get_some j
   have l:w[((k:Nat):Int).toNat]? = some c:=by simpa using m
   have h:=Iu (TB:=TB) w k c l;have i:=FK (c:=c);by_cases a:Gn c=true
   ·have e:=GK m ha a
    rw [i] at a;simp only [decide_eq_true_eq] at a;(repeat first|refine tA rfl ?_ |refine s2 rfl λ_ b=>?_ |refine aU rfl ?_ |refine Aa ?_);(refine aC rfl ?_ ?_<;>rintro⟨⟩)
    ·(repeat' first|(refine sA rfl ?_ ?_;first|exact tI|omega) |refine s2 rfl λ_ b=>?_ |refine sP rfl (h) rfl ?_ |refine s3 rfl ?_ ?_<;>rintro rfl |refine aU rfl ?_ |refine Aa ?_|(refine aC rfl ?_ ?_<;>rintro⟨⟩)|refine aK ?_|refine aE ?_|refine aB ?_|refine aR ⟨_,rfl,?_⟩)
     ·exfalso;(simp only[oZ] at *;omega)
     ·exfalso;(simp only[oZ] at *;omega)
     ·refine⟨⟨k+1,by omega,e⟩,by dsimp only;(omega),[],?_⟩
      simp[cX,zC,d]
    ·exfalso;(simp only[oZ] at *;omega)
   ·have e:=Il m (f:=Gn) (by simpa using a)
    rw [i] at a;simp only [decide_eq_true_eq] at a;(repeat first|refine tA rfl ?_ |refine s2 rfl λ_ b=>?_ |refine aU rfl ?_ |refine Aa ?_);(refine aC rfl ?_ ?_<;>rintro⟨⟩)
    ·(repeat' first|(refine sA rfl ?_ ?_;first|exact tI|omega) |refine s2 rfl λ_ b=>?_ |refine sP rfl (h) rfl ?_ |refine s3 rfl ?_ ?_<;>rintro rfl |refine aU rfl ?_ |refine Aa ?_|(refine aC rfl ?_ ?_<;>rintro⟨⟩)|refine aK ?_|refine aE ?_|refine aB ?_|refine aR ⟨_,rfl,?_⟩)
     ·rw [e]
     ·rw [e]
     ·exfalso;(simp only[oZ] at *;omega)
    ·exfalso;(simp only[oZ] at *;omega)
  ·have o:=GJ ha (show w.length<=k by omega)
   (repeat first|refine tA rfl ?_ |refine s2 rfl λ_ b=>?_ |refine aU rfl ?_ |refine Aa ?_);(refine aC rfl ?_ ?_<;>rintro⟨⟩)
   ·exfalso;(simp only[oZ] at *;omega)
   ·(repeat' first|refine tA rfl ?_ |refine aU rfl ?_ |refine Aa ?_|(refine aC rfl ?_ ?_<;>rintro⟨⟩)|refine aK ?_|refine aE ?_|refine aB ?_|refine aR ⟨_,rfl,?_⟩)
    rw [o]
 ·have g:ED w=false:=by unfold ED;simp [n]
  rw [g];refine eN Tryz.func171 rfl (by kernel_rfl) rfl ?_;intro Z d;(repeat first|refine tA rfl ?_ |refine s2 rfl λ_ b=>?_ |refine aU rfl ?_ |refine Aa ?_);(refine aC rfl ?_ ?_<;>rintro⟨⟩)
  ·(repeat' first|refine tA rfl ?_ |refine aU rfl ?_ |refine Aa ?_|(refine aC rfl ?_ ?_<;>rintro⟨⟩)|refine aK ?_|refine aE ?_|refine aB ?_|refine aR ⟨_,rfl,?_⟩)
   rfl
  ·exfalso;(simp only[oZ] at *;omega)
abbrev nI(n:Int)(b:Bool):E:=.t [(false,[.d (iD n)]),(false,[.d (bD b)])]
theorem aY{w:W}{k:Nat}{c:UInt8}(a:w[k]? = some c):KY (w.take (k+1))=KY (w.take k) ||| 2 ^ (c.toNat - 97):=by
 unfold KY;rw [d9,a];simp
theorem QH(w:W)(s:w.length<=1099511627776):Pure Tryz.prog TB 199 [eT w] (if ED w then nI (KY w:Nat) true else nI 0 false):=by
 have f:=MC (TB:=TB) w s;by_cases e:ED w=true
 ·have a:=e
  unfold ED at a;simp only [d4,decide_eq_true_eq] at a;rw [if_pos e];refine eN Tryz.func199 rfl (by kernel_rfl) rfl ?_;intro Z d;(repeat first|refine tA rfl ?_ |refine s2 rfl λ_ b=>?_ |(refine sC rfl (f) ?_;intro _ b) |refine aU rfl ?_ |refine Aa ?_);(refine aC rfl ?_ ?_<;>rintro⟨⟩)
  ·exfalso;simp at *;grind
  refine aK ?_;(repeat first|refine tA rfl ?_ |refine aU rfl ?_ |refine Aa ?_);refine aB ?_;refine aL (α:={k:Nat // k<=w.length}) [0] [] rfl rfl (λ⟨k,hk⟩=>[(4,eI .i64 (KY (w.take k):Nat)),(5,eI .i64 k)]) (λ⟨k,hk⟩=>[]) 0 (λ⟨k,hk⟩=>w.length - k) (⟨0,by omega⟩) d rfl (by (simp[cX,zC,d]<;>rfl)) ?_;rintro⟨k,hk⟩;(try dsimp only[cA,cB]);by_cases m:k < w.length
  ·obtain⟨c,p⟩:=get_some m
   have o:w[((k:Nat):Int).toNat]? = some c:=by simpa using p
   have n:=Iu (TB:=TB) w k c o;have h:=(f7.1 a.2) c (co p);rw [FK,decide_eq_true_eq] at h;have i:=UO (TB:=TB) ((c.toNat:Int) - 97) h.1 (by omega);have j:=aY p;have l:KY (w.take k) < 64:=TN (by rw [f7];exact λx r=>(f7.1 a.2) x (oP r)) (by omega)
   have ht:((c.toNat:Int) - 97).toNat=c.toNat - 97:=by omega
   have q:2 ^ (c.toNat - 97) < 2 ^ 6:=qD (by omega) (by omega);have g:=(LG l q).1;rw [<-j] at g;rw [ht] at i;(repeat first|refine tA rfl ?_ |refine s2 rfl λ_ b=>?_ |refine aU rfl ?_ |refine Aa ?_);(refine aC rfl ?_ ?_<;>rintro⟨⟩)
   ·(repeat' first|(refine sA rfl ?_ ?_;first|exact tI|omega) |refine sP rfl (n) rfl ?_|refine sP rfl (i) rfl ?_ |refine aU rfl ?_ |refine Aa ?_|(refine aC rfl ?_ ?_<;>rintro⟨⟩)|refine aK ?_|refine aE ?_|refine aB ?_|refine aR ⟨_,rfl,?_⟩)
    rw [g];refine⟨⟨k+1,by omega⟩,by dsimp only;(omega),[],?_⟩;simp[cX,zC,d]
   ·exfalso;(simp only[oZ] at *;omega)
  ·obtain rfl:k=w.length:=by omega
   rw [gt];(repeat first|refine tA rfl ?_ |refine s2 rfl λ_ b=>?_ |refine aU rfl ?_ |refine Aa ?_);(refine aC rfl ?_ ?_<;>rintro⟨⟩)
   ·exfalso;(simp only[oZ] at *;omega)
   ·(repeat' first|refine tA rfl ?_ |refine aU rfl ?_ |refine Aa ?_|(refine aC rfl ?_ ?_<;>rintro⟨⟩)|refine aK ?_|refine aE ?_|refine aB ?_|refine aR ⟨_,rfl,?_⟩)
    rfl
 ·rw [if_neg e]
  refine eN Tryz.func199 rfl (by kernel_rfl) rfl ?_;intro Z d;(repeat first|refine tA rfl ?_ |refine s2 rfl λ_ b=>?_ |(refine sC rfl (f) ?_;intro _ b) |refine aU rfl ?_ |refine Aa ?_);(refine aC rfl ?_ ?_<;>rintro⟨⟩)
  ·(repeat' first|refine tA rfl ?_ |refine aU rfl ?_ |refine Aa ?_|(refine aC rfl ?_ ?_<;>rintro⟨⟩)|refine aK ?_|refine aE ?_|refine aB ?_|refine aR ⟨_,rfl,?_⟩)
   rfl
  ·exfalso;simp at *;grind
theorem Eo(w:W)(al:Int)(i:w.length<=1099511627776):Pure Tryz.prog TB 173 [eT w,eI .i64 al] (eB (within w al)):=by
 have d:=QH (TB:=TB) w i;have g:=Dw (TB:=TB) al;by_cases a:ED w=true
 ·rw [if_pos a] at d
  unfold ED at a;simp only [d4,decide_eq_true_eq] at a
  have f:within w al=(Bb al && w.all (It al)):=by unfold within;simp [a.1]
  rw [f];refine eN Tryz.func173 rfl (by kernel_rfl) rfl ?_;intro Z e;(repeat' first|refine tA rfl ?_ |refine s2 rfl λ_ c=>?_ |refine sP rfl (d) rfl ?_|(refine sC rfl (g) ?_;intro _ c) |refine s3 rfl ?_ ?_<;>rintro rfl |refine aU rfl ?_ |refine Aa ?_|(refine aC rfl ?_ ?_<;>rintro⟨⟩)|refine aK ?_|refine aE ?_|refine aB ?_|refine aR ⟨_,rfl,?_⟩)
  all_goals first
   | (show E.o _=E.o _;congr;grind)
   | (rename_i ha b;rw [gY a.2 ha] at c;show E.o _=E.o _;rw [ha,c];rfl)
 ·rw [if_neg a] at d
  have f:within w al=false:=by
   rw [Bool.eq_false_iff];intro h;unfold within at h;simp only [d4,decide_eq_true_eq] at h;exact a (by unfold ED;simp [h.1,XS h.2.2])
  rw [f];refine eN Tryz.func173 rfl (by kernel_rfl) rfl ?_;intro Z e;(repeat' first|refine tA rfl ?_ |refine sP rfl (d) rfl ?_|(refine sC rfl (g) ?_;intro _ c) |refine aU rfl ?_ |refine Aa ?_|(refine aC rfl ?_ ?_<;>rintro⟨⟩)|refine aK ?_|refine aE ?_|refine aB ?_|refine aR ⟨_,rfl,?_⟩)
  all_goals rfl
theorem EC{w:W}{al:Int}(h:within w al=true):AS (A4 al) w:=by
 unfold within at h;simp only [d4,decide_eq_true_eq] at h;intro c b;have a:=(f7.1 h.2.2) c b;unfold It Gn at a;simp only [d4,decide_eq_true_eq] at a;refine d8.2 ⟨((c.toNat - 97:Nat):Int),Ej.2 ⟨by omega,a.2⟩,?_⟩;unfold lb
 have e:97+((c.toNat - 97:Nat):Int).toNat=c.toNat:=by omega
 rw [e];simp
theorem GS{w:W}{al:Int}(h:AS (A4 al) w)(d:w.length<=50000)(ha:Bb al=true):within w al=true:=by
 unfold within;simp only [d4,decide_eq_true_eq];refine⟨d,ha,f7.2 λc f=>?_⟩;obtain⟨l,b,rfl⟩:=d8.1 (h c f);have a:=Al b;have g:=KK a.1 (by omega);unfold It Gn;simp only [d4,decide_eq_true_eq]
 have e:(lb l).toNat - 97=l.toNat:=by omega
 rw [e];exact⟨by omega,a.2.2⟩
theorem cV{p:AY}(g:AI p=true)(w:W)(n:AS (A4 p.al) w)(r:w.length<=1099511627776):Pure Tryz.prog TB 211 [Bj p,eI .i64 0,eT w] (eI .i64 (EA p 0 w)):=by
 have o:=AE g;refine eN Tryz.func211 rfl (by kernel_rfl) rfl ?_;intro Z a;(repeat first|refine tA rfl ?_ |refine aU rfl ?_ |refine Aa ?_);refine aB ?_;refine aL (α:={k:Nat // k<=w.length}) [2,3] [] rfl rfl (λ⟨k,hk⟩=>[(1,eI .i64 (EA p 0 (w.take k))),(7,eI .i64 k)]) (λ⟨k,hk⟩=>[]) 0 (λ⟨k,hk⟩=>w.length - k) (⟨0,by omega⟩) a rfl (by (simp[cX,zC,a]<;>rfl)) ?_;rintro⟨k,hk⟩;(try dsimp only[cA,cB]);have q:=OP g (w.take k) 0 (JP n k) (by omega);by_cases h:k < w.length
 ·obtain⟨c,l⟩:=get_some h
  have j:w[((k:Nat):Int).toNat]? = some c:=by simpa using l
  have d:=Iw (n c (co l));have i:=Iu (TB:=TB) w k c j;have b:=JK (TB:=TB) p g (EA p 0 (w.take k)).toNat (by omega) ((c.toNat:Int) - 97) d.1 d.2
  have e:(((EA p 0 (w.take k)).toNat:Nat):Int)=EA p 0 (w.take k):=by omega
  rw [e] at b;have f:=aQ (p:=p) l 0;rw [<-f] at b;(repeat first|refine tA rfl ?_ |refine s2 rfl λ_ m=>?_ |refine aU rfl ?_ |refine Aa ?_);(refine aC rfl ?_ ?_<;>rintro⟨⟩)
  ·(repeat' first|(refine sA rfl ?_ ?_;first|exact tI|omega) |refine sP rfl (i) rfl ?_|refine sP rfl (b) rfl ?_ |refine aU rfl ?_ |refine Aa ?_ |refine rE (by kernel_rfl) ?_|(refine aC rfl ?_ ?_<;>rintro⟨⟩)|refine aK ?_|refine aE ?_|refine aB ?_|refine aR ⟨_,rfl,?_⟩)
   refine⟨⟨k+1,by omega⟩,by dsimp only;(omega),[],?_⟩;simp[cX,zC,a]
  ·exfalso;(simp only[oZ] at *;omega)
 ·obtain rfl:k=w.length:=by omega
  rw [gt];(repeat first|refine tA rfl ?_ |refine s2 rfl λ_ m=>?_ |refine aU rfl ?_ |refine Aa ?_);(refine aC rfl ?_ ?_<;>rintro⟨⟩)
  ·exfalso;(simp only[oZ] at *;omega)
  ·(repeat' first|refine tA rfl ?_ |refine aU rfl ?_ |refine Aa ?_|(refine aC rfl ?_ ?_<;>rintro⟨⟩)|refine aK ?_|refine aE ?_|refine aB ?_|refine aR ⟨_,rfl,?_⟩)
   rfl
def Gq(p:AY)(w:W):Int:=if AI p && within w p.al then EA p 0 w else -1
def QE(p:AY)(w:W):Bool:=AI p && (within w p.al && LA p w)
theorem Rr(p:AY)(w:W)(e:w.length<=1099511627776):Pure Tryz.prog TB 206 [Bj p,eT w] (eI .i64 (Gq p w)):=by
 have g:=Bn (TB:=TB) p;have f:=Eo (TB:=TB) w p.al e;by_cases b:(AI p && within w p.al)=true
 ·have d:Gq p w=EA p 0 w:=by unfold Gq;rw [if_pos b]
  rw [d];rw [d4] at b;have h:=cV (TB:=TB) b.1 w (EC b.2) e;refine eN Tryz.func206 rfl (by kernel_rfl) rfl ?_;intro Z c;(repeat' first|refine tA rfl ?_ |refine s2 rfl λ_ a=>?_ |(refine sC rfl (g) ?_;intro _ a)|(refine sC rfl (f) ?_;intro _ a)|refine sP rfl (h) rfl ?_ |refine s3 rfl ?_ ?_<;>rintro rfl |refine aU rfl ?_ |refine Aa ?_|(refine aC rfl ?_ ?_<;>rintro⟨⟩)|refine aK ?_|refine aE ?_|refine aB ?_|refine aR ⟨_,rfl,?_⟩)
  all_goals first
   | rfl
   | (exfalso;grind;done)
 ·have d:Gq p w = -1:=by unfold Gq;rw [if_neg b]
  rw [d];refine eN Tryz.func206 rfl (by kernel_rfl) rfl ?_;intro Z c;(repeat' first|refine tA rfl ?_ |refine s2 rfl λ_ a=>?_ |(refine sC rfl (g) ?_;intro _ a)|(refine sC rfl (f) ?_;intro _ a) |refine s3 rfl ?_ ?_<;>rintro rfl |refine aU rfl ?_ |refine Aa ?_|(refine aC rfl ?_ ?_<;>rintro⟨⟩)|refine aK ?_|refine aE ?_|refine aB ?_|refine aR ⟨_,rfl,?_⟩)
  all_goals first
   | rfl
   | (exfalso;grind;done)
theorem OY(p:AY)(w:W)(h:w.length<=1099511627776):Pure Tryz.prog TB 185 [Bj p,eT w] (eB (QE p w)):=by
 have c:=Rr (TB:=TB) p w h;by_cases a:(AI p && within w p.al)=true
 ·have e:Gq p w=EA p 0 w:=by unfold Gq;rw [if_pos a]
  rw [e] at c;rw [d4] at a;have g:=AE a.1;have j:=OP a.1 w 0 (EC a.2) (by omega);obtain⟨b,hb⟩:=get_some (l:=p.ac) (k:=(EA p 0 w).toNat) (by omega)
  have i:(p.ac.map I9)[(EA p 0 w).toNat]? = some (I9 b):=by simp [hb]
  have ha:QE p w=b:=by unfold QE LA;simp [a.1,a.2,List.getD,hb]
  rw [ha];refine eN Tryz.func185 rfl (by kernel_rfl) rfl ?_;intro Z d;(repeat' first|refine tA rfl ?_ |(refine s4 rfl ‹_› rfl ?_ ?_;omega) |refine s2 rfl λ_ f=>?_ |refine sP rfl (c) rfl ?_ |refine s3 rfl ?_ ?_<;>rintro rfl |refine aU rfl ?_ |refine Aa ?_|(refine aC rfl ?_ ?_<;>rintro⟨⟩)|refine aK ?_|refine aE ?_|refine aB ?_|refine aR ⟨_,rfl,?_⟩)
  all_goals first
   | rfl
   | (exfalso;(simp only[oZ] at *;omega))
 ·have e:Gq p w = -1:=by unfold Gq;rw [if_neg a]
  rw [e] at c
  have ha:QE p w=false:=by unfold QE;grind
  rw [ha];refine eN Tryz.func185 rfl (by kernel_rfl) rfl ?_;intro Z d;(repeat' first|refine tA rfl ?_ |refine s2 rfl λ_ f=>?_ |refine sP rfl (c) rfl ?_ |refine s3 rfl ?_ ?_<;>rintro rfl |refine aU rfl ?_ |refine Aa ?_|(refine aC rfl ?_ ?_<;>rintro⟨⟩)|refine aK ?_|refine aE ?_|refine aB ?_|refine aR ⟨_,rfl,?_⟩)
  all_goals first
   | rfl
   | (exfalso;(simp only[oZ] at *;omega))
structure EF where
 kn:Bool
 p:AY
 s:Sys
 q:AY
 al:Int
abbrev EL(t:EF):E:=nT t.kn t.p t.s t.q t.al
end Go.Am
namespace Go.Am
set_option linter.unusedVariables false
theorem fQ{α:Type}{l:List α}{k:Nat}{x d:α}(h:l[k]? = some x):l.getD k d=x:=by rw [rh,h];rfl
def fA(a:AY)(q l:Int):Int:=CB a q.toNat l
def SD(a:AY)(q:Int):Bool:=a.ac.getD q.toNat false
theorem Sm{a:AY}:∀(w:List Int) (q:Int),(∀l∈w,l∈Ac a.al)->Cn (fA a) q w=EA a q (CQ w)
 | [],q,_=>rfl
 | l::w,q,h=>by
  have c:=Al (h l (by simp));have e:EA a q (CQ (l::w))=EA a (CB a q.toNat (((lb l).toNat:Int) - 97)) (CQ w):=rfl;rw [e,KK c.1 (by omega)];exact Sm w _ λm b=>h m (by simp [b])
end Go.Am
namespace Go.Am
open Go Go.Proofs
set_option maxHeartbeats 1000000
set_option maxRecDepth 4000
attribute [local irreducible] A3 Cp Lex Bl Aj Spec
variable {TB:BC}
theorem Tg(w:W)(i:Nat)(c:UInt8)(b:w[((i:Nat):Int).toNat]? = some c):Pure Tryz.prog TB 99 [eT w,eI .i64 i] (eI .i64 (if Gn c then (c.toNat:Int) - 97 else -1)):=by
 by_cases h:Gn c=true
 ·rw [if_pos h]
  rw [FK,decide_eq_true_eq] at h;exact Ho w i c b h
 ·rw [if_neg h]
  rw [FK,decide_eq_true_eq] at h;have hb:=c.toNat_lt;refine eN Tryz.func99 rfl (by kernel_rfl) rfl ?_;intro Z a;(repeat' first|(refine sA rfl ?_ ?_;first|exact tI|omega) |(refine s4 rfl ‹_› rfl ?_ ?_;omega) |refine s2 rfl λ_ d=>?_ |refine s3 rfl ?_ ?_<;>rintro rfl |refine aU rfl ?_ |refine Aa ?_|(refine aC rfl ?_ ?_<;>rintro⟨⟩)|refine aK ?_|refine aE ?_|refine aB ?_|refine aR ⟨_,rfl,?_⟩)
  all_goals first
   | rfl
   | (exfalso;grind)
theorem UI(al:Int)(c:UInt8):hasB al (if Gn c then (c.toNat:Int) - 97 else -1)=It al c:=by
 unfold It hasB;by_cases h:Gn c=true
 ·rw [if_pos h,h]
  rw [FK,decide_eq_true_eq] at h
  have e:((c.toNat:Int) - 97).toNat=c.toNat - 97:=by omega
  rw [e];simp;omega
 ·rw [if_neg h]
  simp [h]
end Go.Am
