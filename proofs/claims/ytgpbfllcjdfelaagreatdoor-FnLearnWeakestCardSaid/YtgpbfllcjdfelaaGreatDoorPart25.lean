/-
  The table that is closed.
-/
import Derived.Test.YtgpbfllcjdfelaaGreatDoorPart24
import Derived.Test.YtgpbfllcjdfelaaGreatDoorPart20
import Derived.Test.YtgpbfllcjdfelaaGreatDoorPart17
set_option linter.all false
namespace Go.Am
open Go Go.Proofs
set_option maxHeartbeats 1000000
set_option maxRecDepth 4000
attribute [local irreducible] AO BS Lex A4 Au Spec
variable {TB:Bi}
structure GA (al:Int) (b:Nat) (t:Bh):Prop where
 onR:∀w∈t.rows,Av (AU al) w/\w.length<=b
 onC:∀x∈t.cols,Av (AU al) x/\x.length<=20000
 rl:t.rows.length<=12
 cl:t.cols.length<=20
def HE(ok:W->Prop)(al:Int):Prop:=∀w,Av (AU al) w->w.length<=50000->ok w
def MA(ls:List UInt8)(t:Bh)(v:W):Prop:=∃r∈t.rows,∃m:W,(m=[]\/∃l∈ls,m=[l])/\∃x:W,(x=[]\/x∈t.cols)/\v=r++m++x
def IK(ok:W->Prop)(ls:List UInt8)(t:Bh):Prop:=∀v,MA ls t v->ok v
def Ea(L:W->Bool)(ls:List UInt8):Nat->Bh->List Bh
 | 0,t=>[t]
 | n+1,t=>t::match Bw L ls t with
  | none=>[]
  | some w=>if t.rows.length=12 then [] else Ea L ls n ⟨t.rows++[w],t.cols⟩
theorem Hc{L:W->Bool}{ls:List UInt8}{n:Nat}{t:Bh}:t∈Ea L ls n t:=by cases n<;>simp [Ea]
theorem GA.dn{ok:W->Prop}{al:Int}{b:Nat}{t:Bh}(h:GA al b t)(c:IK ok (AU al) t)(hb:b<=20100):Vs ok t/\∀w∈t.rows,∀l∈AU al,∀x∈t.cols,ok (w++[l]++x):=
  ⟨⟨λw hw x a=>c _ ⟨w,hw,[],.inl rfl,x,.inr a,by simp⟩,λw hw=>by have:=(h.onR w hw).2;omega,λx a=>by have:=(h.onC x a).2;omega,by have:=h.rl;omega,by have:=h.cl;omega⟩,
   λw hw l d x a=>c _ ⟨w,hw,[l],.inr ⟨l,d,rfl⟩,x,.inr a,rfl⟩⟩
theorem GA.on{ok:W->Prop}{al:Int}{b:Nat}{t:Bh}(h:GA al b t)(i:HE ok al)(hb:b<=20100):IK ok (AU al) t:=by
 rintro v ⟨r,e,m,f,x,d,rfl⟩;have n:=h.onR r e
 have k:Av (AU al) m/\m.length<=1:=by
  rcases f with rfl|⟨l,g,rfl⟩
  ·exact⟨λc a=>by simp at a,by simp⟩
  ·exact⟨λc a=>by simp at a;subst a;exact g,by simp⟩
 have j:Av (AU al) x/\x.length<=20000:=by
  rcases d with rfl|d
  ·exact⟨λc a=>by simp at a,by simp⟩
  ·exact h.onC x d
 refine i _ (λc a=>?_) (by simp;omega);simp only [f9] at a
 rcases a with (a|a)|a
 ·exact n.1 c a
 ·exact k.1 c a
 ·exact j.1 c a
theorem GA.push{L:W->Bool}{al:Int}{b:Nat}{t:Bh}{w:W}(h:GA al b t)(g:Bw L (AU al) t=some w)(i:t.rows.length < 12):GA al (b+1) ⟨t.rows++[w],t.cols⟩:=by
 obtain⟨⟨r,f,l,e,rfl⟩,_⟩:=Nx g;refine⟨λu a=>?_,h.onC,by simp;omega,h.cl⟩
 rcases f9.1 a with a|a
 ·have:=h.onR u a;exact⟨this.1,by omega⟩
 ·simp at a
  subst a;have:=h.onR r f;refine⟨λc d=>?_,by simp;omega⟩
  rcases f9.1 d with d|d
  ·exact this.1 c d
  ·simp at d;subst d;exact e
theorem GA.grow{L:W->Bool}{al:Int}:∀ {n b:Nat} {t y:Bh},GA al b t->y∈Ea L (AU al) n t->GA al (b+n) y
 | 0,b,t,y,h,a=>by simp [Ea] at a;subst a;exact h
 | n + 1, b,t,y,h,a=>by
  have e:∀ {b':Nat} {z:Bh},b'<=b+(n+1)->GA al b' z->GA al (b+(n+1)) z:=λhb c=>⟨λw hw=>⟨(c.onR w hw).1,kw (c.onR w hw).2 hb⟩,c.onC,c.rl,c.cl⟩
  unfold Ea at a
  rcases lc.1 a with rfl|a
  ·exact e (by omega) h
  ·cases d:Bw L (AU al) t with
   | none=>rw [d] at a;simp at a
   | some w=>
    rw [d] at a;dsimp only at a;split at a
    ·simp at a
    ·have:=h.rl
     exact e (by omega) (GA.grow (h.push d (by omega)) a)
theorem GA.lP{L:W->Bool}{ok:W->Prop}{al:Int}{b:Nat}{t:Bh}(h:GA al b t)(c:HE ok al)(hb:b<=20000):∀y∈Ea L (AU al) 13 t,IK ok (AU al) y:=λy a=>(h.grow a).on c (by omega)
theorem HL{c:C}{L:W->Bool}{ok:W->Prop}(K:EW Tryz.prog TB c L ok)(al:Int)(t:Bh)(X:∀y∈Ea L (AU al) 13 t,IK ok (AU al) y)(ht:GA al 20000 t) :
 Pure Tryz.prog TB 103 [GH al c,GY t] (Pc (Cj L (AU al) 13 t)):=by
 have v:=Dq c K.Bt;have V:=ht.rl;have Y:=ht.cl;have J:=Js (TB:=TB) t.rows (by omega);have I:=Js (TB:=TB) t.cols (by omega);refine AJ.Gw (AJ.ofM 2 (io _) Tryz.func103 rfl rfl (by kernel_rfl) (co rfl) ?_);intro Γ b;(repeat first|refine aU rfl ?_);(refine pW rfl ?_ rfl (by rfl);refine Db rfl rfl ?_);(refine Af rfl ?_;refine Ew (λ_ _=>DJ rfl rfl rfl) rfl ?_);(repeat first|refine tM rfl ?_ |refine aU rfl ?_ |refine Aa ?_);refine R.fb [(7,3),(0,2),(1,2),(3,2),(4,2),(2,1),(5,1),(6,0),(8,5)] mixed (by kernel_rfl) rfl (by kernel_rfl) ?_;(repeat ((refine R.Af rfl ?_;first|(refine R.yQ (md:=false) rfl rfl rfl ?_ ?_;exact tI) |refine R.yP rfl rfl rfl rfl ?_ )));(refine R.Af rfl ?_;refine R.OH (λ_=>?_) rfl rfl;refine Ag [] rfl rfl J ⟨rfl,by simp,by simp⟩ rfl trivial ?_;rintro N F G ⟨rfl,rfl,rfl⟩ _);(refine R.Af rfl ?_;refine R.OH (λ_=>?_) rfl rfl;refine Ag [] rfl rfl I ⟨rfl,by simp,by simp⟩ rfl trivial ?_;rintro N F G ⟨rfl,rfl,rfl⟩ _);(repeat ((refine R.Af rfl ?_;first|refine R.yA rfl rfl rfl rfl ?_|refine R.Ew (λ_ _ _=>AF rfl rfl (by rfl) (by rfl)) rfl rfl ?_ )));refine R.dQ ?_;refine aB ?_
 have P:∀x:Bh,Bw L (AU al) x=none\/∃w,Bw L (AU al) x=some w:=λx=>by cases Bw L (AU al) x<;>simp
 refine Au.BV (U:={p:Nat×Bh // p.1<=13/\13<=p.1+p.2.rows.length/\GA al (20000+p.2.rows.length) p.2/\Cj L (AU al) 13 t=Cj L (AU al) p.1 p.2/\∀y∈Ea L (AU al) p.1 p.2,IK ok (AU al) y}) (λ⟨⟨m,u⟩,B,f,j,q,e⟩=>[(2,.o (.ptr 0 2 0 0)),(4,.o (.ptr 1 2 0 0)),(6,.o (.ptr 4 2 0 0))]) (λ⟨⟨m,u⟩,B,f,j,q,e⟩=>[(0,.cells 90 2 [[.d (iD al),c]]),(1,.cells 47 2 [[.d (.l []),.d (.l [])]]),(2,.cells 9 1 (u.rows.map Hx)),(3,.cells 9 1 (u.cols.map Hx)),(4,.cells 47 2 [[.arr 2 1 0 u.rows.length,.arr 3 1 0 u.cols.length]])]) 5 (λ⟨⟨m,u⟩,B,f,j,q,e⟩=>m) (⟨(13,t),by simp,by simp,⟨λw hw=>⟨(ht.onR w hw).1,by have:=(ht.onR w hw).2;omega⟩,ht.onC,ht.rl,ht.cl⟩,rfl,X⟩) [0,1,2,3,4] (IS b rfl rfl) (by (simp[cX,zC,b,v,eC,Ab.AX,CC,HC,Bb,Ae])) ?_;rintro⟨⟨m,u⟩,B,f,j,q,e⟩;(try dsimp only);dsimp only at B f j q e
 have s:∀l:List W,((l.map Hx).drop 0).take l.length=(l.map DQ).map (λr=>r.map C.d):=λl=>by rw [pS,lm (by simp)];simp [d4]
 have S:=j.rl;have T:=j.cl;have n:=j.dn (e u Hc) (by omega);have g:=Jy (TB:=TB) K al u n.1 n.2
 have A:iR [(0,.cells 90 2 [[.d (iD al),c]]),(1,.cells 47 2 [[.d (.l []),.d (.l [])]]),(2,.cells 9 1 (u.rows.map Hx)),(3,.cells 9 1 (u.cols.map Hx)),(4,.cells 47 2 [[.arr 2 1 0 u.rows.length,.arr 3 1 0 u.cols.length]])] [.a [.d (iD al),c],.a [.arr 2 1 0 u.rows.length,.arr 3 1 0 u.cols.length]] [GH al c,GY u]:=
  .cons (.cons (.pure rfl) (.cons (.pure K.Bt) .nil)) (.cons (.cons (.arr rfl (by simp) (s _)) (.cons (.arr rfl (by simp) (s _)) .nil)) .nil)
 refine aB ?_
 rcases P u with k|⟨w,k⟩
 ·rw [k] at g
  (repeat first|refine tM rfl ?_ |refine s2 rfl λ_ h=>?_|(refine Af rfl ?_;refine gA rfl ?_;first| refine gQ (QY rfl rfl (A) (g) rfl) rfl ?_) |refine aU rfl ?_ |refine Aa ?_);(refine aC rfl ?_ ?_<;>rintro⟨⟩)
  ·(repeat first|refine tM rfl ?_ |refine aU rfl ?_ |refine Aa ?_)
   have z:Cj L (AU al) 13 t=some u:=by
    rw [q]
    obtain⟨m',rfl⟩:∃m',m=m'+1:=⟨m - 1,by omega⟩
    simp [Cj,k]
   refine Au.names [1,2,3] [(4,.o (.ptr 0 2 0 0)),(5,eB true)] [(0,.cells 47 2 [[.arr 1 1 0 u.rows.length,.arr 2 1 0 u.cols.length]]),(1,.cells 9 1 (u.rows.map Hx)),(2,.cells 9 1 (u.cols.map Hx))] (by intro i hi;rw [b] at hi;omega) (by simp) (by simp[cX,zC,b,HC]) (by simp[cX,zC,b,HC,Ab.AX,CC,Bb,eC,Ae]) ?_;refine Au.LV [1,2] [(4,.o (.ptr 0 2 0 0)),(5,eB true)] [(0,.cells 47 2 [[.d (BX u.rows),.d (BX u.cols)]])] ⟨⟨_,rfl,.Bn⟩,⟨_,rfl,.Bn⟩,trivial⟩ ⟨⟨_,rfl,by simp,.cons (.full (by simp) rfl (by simp [d4]) (by simp)) (.cons (.full (by simp) rfl (by simp [d4]) (by simp)) .nil)⟩,trivial⟩ ?_;refine Au.freeze [0] [(4,.o (.ip [BX u.rows,BX u.cols])),(5,eB true)] ⟨⟨_,rfl,.o (.ptr (by simp) rfl rfl rfl)⟩,⟨_,rfl,.Bn⟩,trivial⟩ ?_;refine aR ⟨_,rfl,?_⟩;rw [z];rfl
  ·simp at h
 ·rw [k] at g
  (repeat first|refine tM rfl ?_ |refine s2 rfl λ_ h=>?_|(refine Af rfl ?_;refine gA rfl ?_;first| refine gQ (QY rfl rfl (A) (g) rfl) rfl ?_) |refine aU rfl ?_ |refine Aa ?_);(refine aC rfl ?_ ?_<;>rintro⟨⟩)
  ·simp at h
  ·refine aK ?_
   (repeat first|refine tM rfl ?_ |refine s2 rfl λ_ h=>?_ |refine aU rfl ?_ |refine Aa ?_);(refine aC rfl ?_ ?_<;>rintro⟨⟩)
   ·(repeat first|refine tM rfl ?_|(refine Af rfl ?_;refine gA rfl ?_;first| refine gS (λ_ _=>AF rfl rfl (by rfl) (by rfl)) ?_) |refine aU rfl ?_ |refine Aa ?_)
    have z:Cj L (AU al) 13 t=none:=by
     have M:u.rows.length=12:=by (simp only[oZ] at *;omega)
     rw [q]
     obtain⟨m',rfl⟩:∃m',m=m'+1:=⟨m - 1,by omega⟩
     simp [Cj,k,M]
    refine Au.freeze [1] [(4,.o (.ip [.l [],.l []])),(5,eB false)] ⟨⟨_,rfl,.o (.ptr (by simp) rfl rfl rfl)⟩,⟨_,rfl,.Bn⟩,trivial⟩ ?_;refine aR ⟨_,rfl,?_⟩;rw [z];rfl
   ·refine aK ?_
    have H:u.rows.length < 12:=by (simp only[oZ] at *;omega)
    obtain⟨m',rfl⟩:∃m',m=m'+1:=⟨m - 1,by omega⟩
    have z:Cj L (AU al) 13 t=Cj L (AU al) m' ⟨u.rows++[w],u.cols⟩:=by
     rw [q]
     conv=>lhs;unfold Cj
     rw [k];dsimp only;rw [if_neg (by omega)]
    have hp:=j.push k H;(repeat first|refine tA rfl ?_ |refine aU rfl ?_);(refine pW rfl ?_ rfl (by rfl);refine Aj rfl rfl rfl (by first| (simp;done)|(simp;(omega))) rfl (by intro r v;simp at v;subst v;rfl) (by rfl) (co rfl) (by simp;omega) ?_);(repeat first|refine tM rfl ?_ |refine Aa ?_);refine⟨⟨⟨m',⟨u.rows++[w],u.cols⟩⟩,by dsimp only;omega,by simp;omega,by simpa [nQ] using hp,z,λy Q=>e y (by unfold Ea;rw [k];dsimp only;rw [if_neg (by omega)];exact nq _ Q)⟩,by dsimp only;(omega),[0,1,5,3,4],?_⟩;simp[cX,zC,b,v,eC,Ab.AX,CC,HC,Bb,Ae]
def CY:Bh:=⟨[[]],[[]]⟩
theorem PT(al:Int):GA al 20000 CY:=by
 refine⟨λw hw=>?_,λw hw=>?_,by decide,by decide⟩<;>(simp [CY] at hw;subst hw;exact⟨λc a=>by simp at a,by simp⟩)
theorem QH{c:C}{L:W->Bool}{ok:W->Prop}(b:EW Tryz.prog TB c L ok)(al:Int)(e:∀y∈Ea L (AU al) 13 CY,IK ok (AU al) y) :
 Pure Tryz.prog TB 121 [GH al c] (Pc (Cj L (AU al) 13 CY)):=by
 have f:=Dq c b.Bt;have h:=HL b al CY e (PT al);refine AJ.Gw (AJ.ofM 2 (io _) Tryz.func121 rfl rfl (by kernel_rfl) (co rfl) ?_);intro Γ d;generalize Cj L (AU al) 13 CY=o at h |-;(repeat first|refine aU rfl ?_);(refine pW rfl ?_ rfl (by rfl);refine Db rfl rfl ?_);(repeat first|refine tM rfl ?_ |refine aU rfl ?_ |refine Aa ?_)
 have a:([GH al c,GY CY].all E.Bt && C.Cv [])=true:=by simp [GH,GY,E.Bt,C.Cv,C.Bt,b.Bt]
 cases o with
 | none=>
  (repeat first|refine tA rfl ?_|(refine Af rfl ?_;refine gA rfl ?_;first| refine gS (λ_ _=>A6 rfl rfl a h rfl) ?_|refine gS (λ_ _=>AF rfl rfl (by rfl) (by rfl)) ?_) |refine Aa ?_);refine Au.freeze [1] [(2,.o (.ip [.l [],.l []])),(3,eB false)] ⟨⟨_,rfl,.o (.ptr (by simp) rfl rfl rfl)⟩,⟨_,rfl,.Bn⟩,trivial⟩ ?_;refine aR ⟨_,rfl,?_⟩;rfl
 | some u=>
  (repeat first|refine tA rfl ?_|(refine Af rfl ?_;refine gA rfl ?_;first| refine gS (λ_ _=>A6 rfl rfl a h rfl) ?_|refine gS (λ_ _=>AF rfl rfl (by rfl) (by rfl)) ?_) |refine Aa ?_);refine Au.freeze [1] [(2,.o (.ip [BX u.rows,BX u.cols])),(3,eB true)] ⟨⟨_,rfl,.o (.ptr (by simp) rfl rfl rfl)⟩,⟨_,rfl,.Bn⟩,trivial⟩ ?_;refine aR ⟨_,rfl,?_⟩;rfl
theorem SG{c:C}{L:W->Bool}{ok:W->Prop}(b:EW Tryz.prog TB c L ok)(al:Int)(a:HE ok al) :
 Pure Tryz.prog TB 121 [GH al c] (Pc (Cj L (AU al) 13 CY)):=QH b al ((PT al).lP a (by omega))
def Bp(L:W->Bool)(al:Int)(t:Bh):AK:=⟨al,t.rows.map λr=>(Ac al).map λl=>((EI L t (r++[lb l]):Nat):Int),t.rows.map L⟩
theorem aA{L:W->Bool}{al:Int}{t:Bh}(b:Bw L (AU al) t=none){r:W}(a:r∈t.rows){l:Int}(d:l∈Ac al) :
 (BQ (Bg L t t.rows.length) (marks L t.cols (r++[lb l]))).getD 0=((EI L t (r++[lb l]):Nat):Int):=by
 have c:marks L t.cols (r++[lb l])∈AQ L t:=by
  have:=oS.1 b (r++[lb l]) (by
   unfold CK
   exact ot.2 ⟨r,a,em.2 ⟨lb l,em.2 ⟨l,d,rfl⟩,rfl⟩⟩)
  simpa using this
 rw [SJ,if_pos c];rfl
theorem Gj{c:C}{L:W->Bool}{ok:W->Prop}(u:EW Tryz.prog TB c L ok)(al:Int)(t:Bh)(J:IK ok (AU al) t)(ht:GA al 20012 t)(S:Bw L (AU al) t=none) :
 Pure Tryz.prog TB 65 [GH al c,GY t] (Bm (Bp L al t)):=by
 have a:=Dq c u.Bt;have Q:=ht.rl;have Z:=ht.cl;have X:(Ac al).length<=6:=AD al 6;have h:=ht.dn J (by omega)
 have T:(Bp L al t).nx.length=t.rows.length:=by simp [Bp]
 have hal:(Bp L al t).ac.length=t.rows.length:=by simp [Bp]
 refine AJ.Gw (AJ.ofM 3 (io _) Tryz.func65 rfl rfl (by kernel_rfl) (co rfl) ?_);intro Γ e;(repeat first|refine aU rfl ?_);(refine pW rfl ?_ rfl (by rfl);refine Db rfl rfl ?_);(refine Af rfl ?_;refine Ew (λ_ _=>DJ rfl rfl rfl) rfl ?_);(repeat first|refine tA rfl ?_ |refine aU rfl ?_ |refine Aa ?_);(refine pW rfl ?_ rfl (by rfl);refine Ag [] rfl rfl (Gt u al t h.1) ⟨rfl,by simp,by simp⟩ (by simp [Em,E.AX,C.BK,C.AX,a,eC]) trivial ?_;rintro x0 K M ⟨rfl,rfl,rfl⟩ _);(repeat first|refine tA rfl ?_ |refine aU rfl ?_ |refine Aa ?_);(refine pW rfl ?_ rfl (by rfl);refine Fj 1 1 53 2 1 4 rfl rfl (by decide) rfl rfl (by rfl) (by rfl) ?_);(repeat first|refine sN rfl ?_ |refine tA rfl ?_ |refine aU rfl ?_ |refine Aa ?_);refine aB ?_;refine Au.BV (U:={k:Nat // k<=t.rows.length}) (λ⟨k,m⟩=>[(2,.o (.ptr 0 2 0 0)),(3,.o (.ip (Tt t))),(4,.o (.ptr 1 3 0 0)),(5,.o (.mp 2)),(6,.o (.ptr 3 3 0 0)),(19,.o (.d (BX t.rows))),(20,eI .i64 t.rows.length),(21,eI .i64 k)]) (λ⟨k,m⟩=>[(0,.cells 90 2 [[.d (iD al),c]]),(1,.cells 29 3 [[.d (iD 0),.d (.l []),.d (.l [])]]),(2,.mp (Ev (Bg L t t.rows.length))),(3,.cells 29 3 [[.d (iD al),.arr 4 1 0 k,.arr 5 1 0 k]]),(4,.cells 53 1 (((Bp L al t).nx.take k).map λr=>[.d (Da r)])),(5,.cells 4 1 (((Bp L al t).ac.take k).map λb=>[.d (bD b)]))]) 6 (λ⟨k,m⟩=>t.rows.length - k) (⟨0,by omega⟩) [0,1,2,5,3,4] (IS e rfl rfl) (by (simp[cX,zC,e,a,eC,Ab.AX,CC,HC,Bb,Ae])) ?_;rintro⟨k,m⟩;(try dsimp only);(repeat first|refine s2 rfl λ_ I=>?_ |refine aU rfl ?_ |refine Aa ?_);(refine aC rfl ?_ ?_<;>rintro⟨⟩)
 ·have B:k < t.rows.length:=by (simp only[oZ] at *;omega)
  obtain⟨r,p⟩:=get_some (l:=t.rows) (k:=k) B;have P:=get_map (g:=DQ) p;have f:=ce p;refine aK ?_;refine aS (aB ?_);(repeat first|refine tM rfl ?_ |(refine s4 rfl ‹_› rfl ?_ ?_;omega) |refine aU rfl ?_ |refine Aa ?_);(refine pW rfl ?_ rfl (by rfl);refine HU 1 3 ?_);(repeat first|refine sN rfl ?_ |refine tM rfl ?_ |refine sP rfl (Cu al) rfl ?_ |refine aU rfl ?_ |refine Aa ?_);refine aB ?_;refine Au.BV (U:={j:Nat // j<=(Ac al).length}) (λ⟨j,n⟩=>[(2,.o (.ptr 0 2 0 0)),(3,.o (.ip (Tt t))),(4,.o (.ptr 1 3 0 0)),(5,.o (.mp 2)),(6,.o (.ptr 3 3 0 0)),(19,.o (.d (BX t.rows))),(20,eI .i64 t.rows.length),(21,eI .i64 k),(8,eT r),(9,.o (.arr 6 1 0 j)),(27,AH (Ac al)),(28,eI .i64 (Ac al).length),(29,eI .i64 j)]) (λ⟨j,n⟩=>[(0,.cells 90 2 [[.d (iD al),c]]),(1,.cells 29 3 [[.d (iD 0),.d (.l []),.d (.l [])]]),(2,.mp (Ev (Bg L t t.rows.length))),(3,.cells 29 3 [[.d (iD al),.arr 4 1 0 k,.arr 5 1 0 k]]),(4,.cells 53 1 (((Bp L al t).nx.take k).map λr=>[.d (Da r)])),(5,.cells 4 1 (((Bp L al t).ac.take k).map λb=>[.d (bD b)])),(6,.cells 3 1 (((Ac al).take j).map λl=>[.d (iD ((EI L t (r++[lb l]):Nat):Int))]))]) 7 (λ⟨j,n⟩=>(Ac al).length - j) (⟨0,by omega⟩) [0,1,2,3,4,5,6] (IS e rfl rfl) (by (simp[cX,zC,e,a,eC,Ab.AX,CC,HC])) ?_;rintro⟨j,n⟩;(try dsimp only);(repeat first|refine s2 rfl λ_ I=>?_ |refine aU rfl ?_ |refine Aa ?_);(refine aC rfl ?_ ?_<;>rintro⟨⟩)
  ·have s:j < (Ac al).length:=by (simp only[oZ] at *;omega)
   obtain⟨l,G⟩:=get_some (l:=Ac al) (k:=j) s;have Y:=get_map (g:=Br) G;have i:=ce G;have q:=Ai i;have R:=ht.onR r f;have V:=Nj (TB:=TB) u al t (r++[lb l]) (by omega) (λx p=>h.2 r f _ (em.2 ⟨l,i,rfl⟩) x p) (λy N=>by have:=(ht.onC y N).2;simp;omega);have F:=aA S f i;refine aK ?_;refine aS (aB ?_);(repeat first|refine tA rfl ?_ |(refine s4 rfl ‹_› rfl ?_ ?_;omega) |refine aU rfl ?_ |refine Aa ?_);refine rG (Ha [13]) (by kernel_rfl) ?_;(repeat first|(refine sA rfl ?_ ?_;first|exact tI|omega|simp only[oZ] at *;omega) |refine sP rfl (Gp l q.1 (by omega)) rfl ?_|(refine Af rfl ?_;refine gA rfl ?_;first| refine gS (λ_ _=>bV rfl (by omega) (by omega)) ?_));rw [fM q.1];(repeat first| (refine Af rfl ?_;refine gA rfl ?_;first| refine gS (λ_ _=>A6 rfl rfl (by simp [E.Bt,C.Cv,C.Bt,u.Bt]) V rfl) ?_|refine gQ (eL rfl rfl rfl) (by rfl) ?_));(repeat first|refine tA rfl ?_);(refine pW rfl ?_ rfl (by rfl);refine Aj rfl rfl rfl (by first| (simp;done)|(simp;(omega))) rfl (by intro r a;simp at a;subst a;rfl) (by rfl) (co rfl) (by simp;omega) ?_);(repeat first|(refine sA rfl ?_ ?_;first|exact tI|omega) |refine aU rfl ?_ |refine Aa ?_);rw [F];refine⟨⟨j+1,by omega⟩,by dsimp only;(omega),[0,1,2,3,4,5,7],?_⟩;simp[cX,zC,e,a,gc,G]
  ·obtain rfl:j=(Ac al).length:=by (simp only[oZ] at *;omega)
   have z:=J r ⟨r,f,[],.inl rfl,[],.inl rfl,by simp⟩
   have A:(Bp L al t).nx.take (k+1)=(Bp L al t).nx.take k++[(Ac al).map λl=>((EI L t (r++[lb l]):Nat):Int)]:=by
    rw [gc];simp [Bp,p]
   have H:(Bp L al t).ac.take (k+1)=(Bp L al t).ac.take k++[L r]:=by
    rw [gc];simp [Bp,p]
   refine aE ?_;rw [i9];refine Au.C9 [6] [2,3,4,5,6,8,19,20,21] rfl [(9,AH ((Ac al).map λl=>((EI L t (r++[lb l]):Nat):Int)))] ⟨⟨_,rfl,.o (.full (by simp) rfl (by simp [d4]) (by simp))⟩,trivial⟩ ?_;(try dsimp only[cA,cB]);(repeat first|refine tA rfl ?_ |refine aU rfl ?_);(refine pW rfl ?_ rfl (by rfl);refine Aj rfl rfl rfl (by first| (simp;done)|(simp;(omega))) rfl (by intro r a;simp at a;subst a;rfl) (by rfl) (co rfl) (by simp;omega) ?_);(repeat first|refine tA rfl ?_ |refine Aa ?_);refine rG (Ha [7,9]) (by kernel_rfl) ?_;(repeat first|refine tA rfl ?_|(refine Af rfl ?_;refine gA rfl ?_;first| refine gS (λ_ _=>u.ask rfl rfl z) ?_));(refine pW rfl ?_ rfl (by rfl);refine Aj rfl rfl rfl (by first| (simp;done)|(simp;(omega))) rfl (by intro r a;simp at a;subst a;rfl) (by rfl) (co rfl) (by simp;omega) ?_);(repeat first|(refine sA rfl ?_ ?_;first|exact tI|omega) |refine aU rfl ?_ |refine Aa ?_);refine⟨⟨k+1,by omega⟩,by dsimp only;(omega),[0,1,2,3,7,8],?_⟩;simp[cX,zC,e,a,eC,Ab.AX,CC,HC,Bb,Ae,A,H]
 ·obtain rfl:k=t.rows.length:=by (simp only[oZ] at *;omega)
  have w:(Bp L al t).nx.take t.rows.length=(Bp L al t).nx:=lm (by simp [Bp]);have v:(Bp L al t).ac.take t.rows.length=(Bp L al t).ac:=lm (by simp [Bp]);rw [w,v];refine aE ?_;(repeat first|refine tM rfl ?_ |refine aU rfl ?_ |refine Aa ?_);refine Au.settle [(4,.o (.ip [iD al,CI (Bp L al t).nx,Fv (Bp L al t).ac]))] ⟨⟨_,rfl,.o (.box rfl (.cons .d (.cons (.full rfl (by simp [d4]) (by simp [Bp])) (.cons (.full rfl (by simp [d4]) (by simp [Bp])) .nil))))⟩,trivial⟩ ?_;refine aR ⟨_,rfl,rfl⟩
theorem Qd{c:C}{L:W->Bool}{ok:W->Prop}(d:EW Tryz.prog TB c L ok)(al:Int)(t:Bh)(b:HE ok al)(ht:GA al 20012 t)(a:Bw L (AU al) t=none) :
 Pure Tryz.prog TB 65 [GH al c,GY t] (Bm (Bp L al t)):=Gj d al t (ht.on b (by omega)) ht a
end Go.Am
namespace Go.Am
set_option linter.unusedVariables false
theorem QA{al:Int}{l:Int}(h:l∈Ac al):lb l∈AU al:=em.2 ⟨l,h,rfl⟩
theorem LQ{L:W->Bool}{al:Int}{t:Bh}(hal:Bv al=true)(h:Bu L (AU al) t)(b:t.rows.length<=12):AI (Bp L al t)=true:=by
 have j:0 < t.rows.length:=(am.1 h.r0).1;unfold AI;simp only [d6,decide_eq_true_eq,gt];refine⟨⟨⟨hal,by simp [Bp];omega⟩,by simp [Bp]⟩,λrow a=>?_⟩;simp only [Bp,em] at a;obtain⟨r,b,rfl⟩:=a;unfold En;simp only [d6,decide_eq_true_eq,gt];refine⟨by simp [Bp],λy c=>?_⟩;obtain⟨l,d,rfl⟩:=em.1 c;obtain⟨i,hi,e⟩:=nC b;obtain⟨r',g,_⟩:=h.idx (i:=i) (r:=r) (by rw [d5 hi,e]) (QA d);have f:=(am.1 g).1;unfold OM;simp [Bp];exact f
theorem MU{L:W->Bool}{al:Int}{t:Bh}{q:Nat}{c:UInt8}(e:q < t.rows.length)(g:c∈AU al):AW (Bp L al t) q ((c.toNat:Int) - 97)=((EI L t (t.rows.getD q []++[c]):Nat):Int):=by
 obtain⟨l,a,rfl⟩:=em.1 g;have d:=Ai a;rw [Es d.1 (by omega)];obtain⟨k,hk,f⟩:=nC a
 have b:(Ay al 6)[k]? = some l:=by rw [d5 hk,f]
 have m:=EA b;unfold AW;have j:Ep (Bp L al t).al l.toNat=true:=d.2.2;rw [if_pos j];have i:(Ay (Bp L al t).al l.toNat).length=k:=m;rw [i]
 have h:(Bp L al t).nx.getD q []=(Ac al).map λl=>((EI L t (t.rows.getD q []++[lb l]):Nat):Int):=by
  simp [Bp,List.getD,e]
 rw [h];simp [List.getD,b]
theorem PL{L:W->Bool}{al:Int}{t:Bh}(h:Bu L (AU al) t):∀(w:W) (q:Nat),Av (AU al) w->q < t.rows.length->AN (Bp L al t) q w=((runM L t q w:Nat):Int)
 | [],q,_,_=>rfl
 | c::w,q,hw,a=>by
  have e:t.rows[q]? = some t.rows[q]:=d5 a;have b:=hw c (by simp);obtain⟨_,i,_⟩:=h.idx e b
  have g:t.rows.getD q []=t.rows[q]:=by simp [e]
  have d:=(am.1 i).1
  show AN (Bp L al t) (AW (Bp L al t) ((q:Int)).toNat ((c.toNat:Int) - 97)) w=_
  rw [f6,MU a b];rw [<-g] at d;exact PL h w _ (λx f=>hw x (by simp [f])) d
theorem Vu{L:W->Bool}{al:Int}{t:Bh}(h:Bu L (AU al) t){w:W}(hw:Av (AU al) w):LA (Bp L al t) w=Mx L t w:=by
 have b:0 < t.rows.length:=(am.1 h.r0).1;have c:=h.run w 0 hw b;unfold LA Mx;have a:=PL h w 0 hw b;rw [show ((0:Nat):Int)=0 from rfl] at a;rw [a,f6];simp [Bp,List.getD,c]
end Go.Am
namespace Go.Am
open Go
set_option linter.unusedVariables false
def Lh(a b:AK)(s0:Int)(op:Bool->Bool->Bool):Gr:=
 ⟨a.nx.length*b.nx.length,λx l=>[AW a (x / b.nx.length).toNat l*b.nx.length+AW b (x % b.nx.length).toNat l],λx=>op (a.ac.getD (x / b.nx.length).toNat false) (b.ac.getD (x % b.nx.length).toNat false),Ac a.al,s0⟩
def El(a b:AK)(kd:Int):Net:=⟨[],[a,b],[0,0],a.al,kd,0⟩
theorem HP{a b:AK}(hb:AI b=true){x:Int}(c:0<=x/\x < (Lh a b 0 bne).N):0<=x / b.nx.length/\x / b.nx.length < a.nx.length/\0<=x % b.nx.length/\x % b.nx.length < b.nx.length:=by
 have e:=Al hb;have d:x < ((a.nx.length*b.nx.length:Nat):Int):=c.2;rw [oM] at d;exact⟨qL c.1 (by omega),Int.ediv_lt_of_lt_mul (by omega) d,pc _ (by omega),oT _ (by omega)⟩
theorem ZP{a b:AK}(ha:AI a=true)(hb:AI b=true){s0:Int}{op:Bool->Bool->Bool}(e:0<=s0/\s0 < a.nx.length*b.nx.length):LB (Lh a b s0 op):=by
 refine⟨⟨e.1,by show s0 < ((a.nx.length*b.nx.length:Nat):Int);rw [oM];exact e.2⟩,λx f l c y d=>?_,FB _ _⟩;have c:=Ai (show l∈Ay a.al 6 from c);have k:=HP hb f;have h:=DG ha (q:=(x / b.nx.length).toNat) (by omega) c.1 (by omega);have j:=DG hb (q:=(x % b.nx.length).toNat) (by omega) c.1 (by omega)
 have d:y=AW a (x / b.nx.length).toNat l*b.nx.length+AW b (x % b.nx.length).toNat l:=by simpa [Lh] using d
 subst d;generalize AW a (x / b.nx.length).toNat l=u at *;generalize AW b (x % b.nx.length).toNat l=v at *
 show 0<=u*(b.nx.length:Int)+v/\u*(b.nx.length:Int)+v < ((a.nx.length*b.nx.length:Nat):Int)
 rw [oM];have i:0<=u*(b.nx.length:Int):=pu h.1 (by omega);have g:(u+1)*(b.nx.length:Int)<=a.nx.length*b.nx.length:=oq (by omega) (by omega);rw [pD] at g;omega
theorem dZ{a b:AK}{kd:Int}(ha:AI a=true)(hb:AI b=true):Jj (El a b kd)/\lp (El a b kd)/\Fits (AY (El a b kd)) (El a b kd).st:=by
 have g:=Al ha;have f:=Al hb;refine⟨⟨λs e=>(by cases e),λx d=>?_,by simp [El],by simp [El]⟩,⟨λ_=>by simp [El],λ_=>by simp [El]⟩,?_⟩
 ·simp [El] at d;rcases d with rfl|rfl<;>assumption
 ·refine Pj (zs:=AY (El a b kd)) λz c=>?_
  simp [AY,El] at c
  rcases c with rfl|rfl<;>omega
theorem Nm{a b:AK}{kd:Int}{op:Bool->Bool->Bool}(ha:AI a=true)(hb:AI b=true)(j:∀x y,op x y=if kd=1 then x != y else (x && !y))(hk:kd=1\/kd=2):Jp (Lh a b 0 op)=Jp (jF (El a b kd)):=by
 obtain⟨i,_,f⟩:=dZ (kd:=kd) ha hb;have n:=Al ha;have m:=Al hb;have k:=gD i f;refine Zp (CP.congr k ?_ ?_ (λx d l g=>?_) (λx d=>?_) (HK _))
 ·rfl
 ·exact Pe (AY (El a b kd)) 2
 ·have g:=Ai (show l∈Ay a.al 6 from g)
  show KI (El a b kd) (AY (El a b kd)) (EX (AY (El a b kd)) x) l=_
  have e:=QJ (l:=[]) (aus:=[a,b]) (st:=[0,0]) (ls:=a.al) (kd:=kd) (gl:=0) i (node:=x) g.1 (by omega);refine Eq.trans e ?_
  have c:x / b.nx.length % a.nx.length=x / b.nx.length:=by
   have h:(jF (El a b kd)).N=a.nx.length*b.nx.length:=by
    show (A3 (AY (El a b kd))).toNat=_
    simp only [AY,El,pM,oV,nX,A3,Int.mul_one];rw [<-oM,f6]
   rw [h] at d;have:=HP (a:=a) hb (x:=x) d;exact pk this.1 this.2.1
  simp only [nX,pM,A3,Int.mul_one,EX,iU,List.zipWith_nil_left,List.zipWith_cons_cons,KD,pV,List.flatMap_nil,nG,Int.ediv_one,Int.add_zero,Int.zero_mul,qk,c,Lh]
 ·show Uf (El a b kd) (EX (AY (El a b kd)) x) (ky (El a b kd) x.toNat)=_
  have c:x / b.nx.length % a.nx.length=x / b.nx.length:=by
   have h:(jF (El a b kd)).N=a.nx.length*b.nx.length:=by
    show (A3 (AY (El a b kd))).toNat=_
    simp only [AY,El,pM,oV,nX,A3,Int.mul_one];rw [<-oM,f6]
   rw [h] at d;have:=HP (a:=a) hb (x:=x) d;exact pk this.1 this.2.1
  show _=op (a.ac.getD (x / b.nx.length).toNat false) (b.ac.getD (x % b.nx.length).toNat false)
  rw [j];unfold Uf hY
  rcases hk with rfl|rfl
  ·simp [El,AY,EX,A3,List.getD,c]
  ·simp [El,AY,EX,A3,List.getD,c]
def Dk(a b:AK):Bool:=AI a && AI b && decide (a.al=b.al)
noncomputable def Jv(a b:AK):Option (List Int):=if Dk a b then Jp (jF (El a b 1)) else none
end Go.Am
namespace Go.Am
open Go Go.Proofs
set_option maxHeartbeats 1000000
set_option maxRecDepth 4000
attribute [local irreducible] AO BS Lex A4 Au Spec
variable {TB:Bi}
theorem EK(w:W)(i:Nat)(c:UInt8)(e:w[((i:Nat):Int).toNat]? = some c)(d:0<=(c.toNat:Int) - 97/\(c.toNat:Int) - 97 < 6):Pure Tryz.prog TB 82 [eT w,eI .i64 i] (eI .i64 ((c.toNat:Int) - 97)):=by
 refine eN Tryz.func82 rfl (by kernel_rfl) rfl ?_;intro Γ a;(repeat' first|(refine sA rfl ?_ ?_;first|exact tI|omega) |(refine s4 rfl ‹_› rfl ?_ ?_;omega) |refine s2 rfl λ_ b=>?_ |refine s3 rfl ?_ ?_<;>rintro rfl |refine aU rfl ?_ |refine Aa ?_|(refine aC rfl ?_ ?_<;>rintro⟨⟩)|refine aK ?_|refine aE ?_|refine aB ?_|refine aR ⟨_,rfl,?_⟩)
 all_goals first
  | rfl
  | (exfalso;grind)
abbrev cW(kn:Bool)(p:AK)(s:Sys)(q:AK)(al:Int):List D:=[bD kn,iD p.al,CI p.nx,Fv p.ac,iD s.al,iD s.st,Gm s.es,iD q.al,CI q.nx,Fv q.ac,iD al]
theorem Mc{ls:List UInt8}{w:W}(h:Av ls w)(k:Nat):Av ls (w.take k):=λc a=>h c (nE a)
theorem en{ls:List UInt8}{w:W}(h:Av ls w)(k:Nat):Av ls (w.drop k):=λc a=>h c (pz a)
theorem YH{p:AK}{w:W}{k:Nat}{c:UInt8}(a:w[k]? = some c)(q:Int):AN p q (w.take (k+1))=AW p (AN p q (w.take k)).toNat ((c.toNat:Int) - 97):=by
 rw [gc,a,DD];rfl
theorem PN{L:W->Bool}{t:Bh}{w:W}{k:Nat}{c:UInt8}(a:w[k]? = some c)(q:Nat):runM L t q (w.take (k+1))=EI L t (t.rows.getD (runM L t q (w.take k)) []++[c]):=by
 rw [gc,a,JS];rfl
theorem dm{p:AK}(hp:AI p=true)(s:Sys)(q:AK)(al:Int)(kn:Bool)(w:W)(hw:Av (AU p.al) w)(x:w.length<=1048576) :
 Pure Tryz.prog TB 144 [eT w,.o (.ip [.l (Fi p)]),.o (.ip (cW kn p s q al))] (eB (LA p w)):=by
 have t:=Al hp;refine eN Tryz.func144 rfl (by kernel_rfl) rfl ?_;intro Γ d;(repeat first|refine tA rfl ?_ |refine aU rfl ?_ |refine Aa ?_);refine aB ?_;refine aL (U:={k:Nat // k<=w.length}) [0,1,2,8] [] rfl rfl (λ⟨k,hk⟩=>[(5,eI .i64 (AN p 0 (w.take k))),(9,eI .i64 k)]) (λ⟨k,hk⟩=>[]) 0 (λ⟨k,hk⟩=>w.length - k) (⟨0,by omega⟩) d rfl (by (simp[cX,zC,d]<;>rfl)) ?_;rintro⟨k,hk⟩;(try dsimp only[cA,cB]);have v:=Fh hp (w.take k) 0 (Mc hw k) (by omega);by_cases g:k < w.length
 ·obtain⟨c,m⟩:=get_some g
  have j:w[((k:Nat):Int).toNat]? = some c:=by simpa using m
  have e:=Iq (hw c (ce m));have i:=EK (TB:=TB) w k c j e;have ta:=Hr (a:=p) (q:=(AN p 0 (w.take k)).toNat) (by omega)
  have el:((((c.toNat:Int) - 97).toNat:Nat):Int)=(c.toNat:Int) - 97:=by omega
  have ra:=FM (h:=λl=>AW p (AN p 0 (w.take k)).toNat l) e.1 (by omega);simp only [el] at ra;have f:=YH (p:=p) m 0;(repeat first|refine s2 rfl λ_ r=>?_ |refine aU rfl ?_ |refine Aa ?_);(refine aC rfl ?_ ?_<;>rintro⟨⟩)
  ·(repeat' first|(refine sA rfl ?_ ?_;first|exact tI|omega) |(refine s4 rfl ‹_› rfl ?_ ?_;omega) |refine sP rfl (i) rfl ?_|(refine Af rfl ?_;refine gA rfl ?_;first| refine gS (λ_ _=>Dp rfl ra) ?_) |refine aU rfl ?_ |refine Aa ?_ |refine rE (by kernel_rfl) ?_|(refine aC rfl ?_ ?_<;>rintro⟨⟩)|refine aK ?_|refine aE ?_|refine aB ?_|refine aR ⟨_,rfl,?_⟩)
   refine⟨⟨k+1,by omega⟩,by dsimp only;(omega),[],?_⟩;simp[cX,zC,d,f]
  ·exfalso;(simp only[oZ] at *;omega)
 ·obtain rfl:k=w.length:=by omega
  rw [i9] at *;obtain⟨b,hb⟩:=get_some (l:=p.ac) (k:=(AN p 0 w).toNat) (by omega)
  have u:(p.ac.map Gk)[(AN p 0 w).toNat]? = some (Gk b):=by simp [hb]
  have n:LA p w=b:=by unfold LA;simp [List.getD,hb]
  rw [n];(repeat first|refine s2 rfl λ_ r=>?_ |refine aU rfl ?_ |refine Aa ?_);(refine aC rfl ?_ ?_<;>rintro⟨⟩)
  ·exfalso;(simp only[oZ] at *;omega)
  ·(repeat' first|refine tA rfl ?_ |(refine s4 rfl ‹_› rfl ?_ ?_;omega) |refine aU rfl ?_ |refine Aa ?_|(refine aC rfl ?_ ?_<;>rintro⟨⟩)|refine aK ?_|refine aE ?_|refine aB ?_|refine aR ⟨_,rfl,?_⟩)
   rfl
def FO(L:W->Bool)(t:Bh)(w:W):Option W:=if Mx L t w=L w then none else splitAt L t (L w) 0 w
theorem Ry{L:W->Bool}{t:Bh}{b:Bool}{w:W}{k q:Nat}{c:UInt8}(a:w[k]? = some c):splitAt L t b q (w.drop k)=if L (t.rows.getD (EI L t (t.rows.getD q []++[c])) []++w.drop (k+1))≠b then some (w.drop (k+1)) else splitAt L t b (EI L t (t.rows.getD q []++[c])) (w.drop (k+1)):=by
 rw [BF a,splitAt]
def Zr(t:Bh)(w v:W):Prop:=∃r,(r=[]\/r∈t.rows)/\∃k:Nat,v=r++w.drop k
theorem OL{c:C}{L:W->Bool}{ok:W->Prop}(H:EW Tryz.prog TB c L ok)(al:Int)(t:Bh)(hf:IK ok (AU al) t)(ht:GA al 20012 t)(hal:Bv al=true)(n:Bu L (AU al) t)(ho:Bw L (AU al) t=none)(w:W)(G:∀v,Zr t w v->ok v)(hw:Av (AU al) w)(hwl:w.length<=20000) :
 Pure Tryz.prog TB 202 [GH al c,GY t,eT w] (jy (FO L t w)):=by
 have K:=Dq c H.Bt;have P:=ht.rl;have T:=Gj (TB:=TB) H al t hf ht ho;have I:=LQ hal n P;have M:=FP (TB:=TB) (Bp L al t) I
 have hnl:(Bp L al t).nx.length=t.rows.length:=by simp [Bp]
 have V:0 < t.rows.length:=(am.1 n.r0).1;have A:=G w ⟨[],.inl rfl,0,rfl⟩
 have R:([GH al c,GY t].all E.Bt && C.Cv [])=true:=by simp [E.Bt,C.Cv,C.Bt,H.Bt]
 refine eN Tryz.func202 rfl (by kernel_rfl) rfl ?_;intro Γ e;(repeat first|refine aU rfl ?_);(refine pW rfl ?_ rfl (by rfl);refine Db rfl rfl ?_);(refine Af rfl ?_;refine Ew (λ_ _=>DJ rfl rfl rfl) rfl ?_);(repeat first|refine tA rfl ?_ |refine aU rfl ?_ |refine Aa ?_);(repeat first|refine tA rfl ?_|(refine Af rfl ?_;refine gA rfl ?_;first| refine gS (λ_ _=>A6 rfl rfl R T rfl) ?_) |refine aU rfl ?_ |refine Aa ?_);(repeat first|refine tA rfl ?_ |refine sP rfl (M) rfl ?_ |refine aU rfl ?_ |refine Aa ?_);refine aB ?_;refine aL (U:={k:Nat // k<=w.length}) [2,3,4,8,9,20] [0,1] rfl rfl (λ⟨k,hk⟩=>[(10,eI .i64 (runM L t 0 (w.take k):Nat)),(21,eI .i64 k)]) (λ⟨k,hk⟩=>[]) 2 (λ⟨k,hk⟩=>w.length - k) (⟨0,by omega⟩) e rfl (by (simp[cX,zC,e,K]<;>rfl)) ?_;rintro⟨k,hk⟩;(try dsimp only[cA,cB]);have r:=n.run (w.take k) 0 (Mc hw k) V;by_cases u:k < w.length
 ·obtain⟨o,d⟩:=get_some u
  have y:w[((k:Nat):Int).toNat]? = some o:=by simpa using d
  have m:=hw o (ce d);have j:=Iq m;have x:=EK (TB:=TB) w k o y j;have ta:=Hr (a:=Bp L al t) (q:=(((runM L t 0 (w.take k):Nat):Int)).toNat) (by omega)
  have el:((((o.toNat:Int) - 97).toNat:Nat):Int)=(o.toNat:Int) - 97:=by omega
  have ra:=FM (h:=λl=>AW (Bp L al t) (((runM L t 0 (w.take k):Nat):Int)).toNat l) j.1 (by omega);simp only [el] at ra;have f:=MU (L:=L) (al:=al) (t:=t) (q:=runM L t 0 (w.take k)) r m;have p:=PN (L:=L) (t:=t) d 0;rw [<-p] at f;rw [f6,f] at ra;(repeat first|refine s2 rfl λ_ b=>?_ |refine aU rfl ?_ |refine Aa ?_);(refine aC rfl ?_ ?_<;>rintro⟨⟩)
  ·(repeat' first|(refine sA rfl ?_ ?_;first|exact tI|omega) |(refine s4 rfl ‹_› rfl ?_ ?_;omega) |refine sP rfl (x) rfl ?_|(refine Af rfl ?_;refine gA rfl ?_;first| refine gS (λ_ _=>Dp rfl ra) ?_) |refine aU rfl ?_ |refine Aa ?_ |refine rE (by kernel_rfl) ?_|(refine aC rfl ?_ ?_<;>rintro⟨⟩)|refine aK ?_|refine aE ?_|refine aB ?_|refine aR ⟨_,rfl,?_⟩)
   refine⟨⟨k+1,by omega⟩,by dsimp only;(omega),[0,1],?_⟩;simp[cX,zC,e,K]
  ·exfalso;(simp only[oZ] at *;omega)
 ·obtain rfl : k=w.length:=by omega
  rw [i9] at *;(repeat first|refine s2 rfl λ_ b=>?_ |refine aU rfl ?_ |refine Aa ?_);(refine aC rfl ?_ ?_<;>rintro⟨⟩)
  ·exfalso;(simp only[oZ] at *;omega)
  ·refine aE ?_
   have Z:((Bp L al t).ac.map Gk)[(((runM L t 0 w:Nat):Int)).toNat]? = some (Gk (Mx L t w)):=by
    unfold Mx;simp [Bp,List.getD,r]
   (repeat first|refine tA rfl ?_ |(refine s4 rfl ‹_› rfl ?_ ?_;omega) |refine s2 rfl λ_ b=>?_|(refine Af rfl ?_;refine gA rfl ?_;first| refine gS (λ_ _=>H.ask rfl rfl A) ?_) |refine aU rfl ?_ |refine Aa ?_);(refine aC rfl ?_ ?_<;>rintro⟨⟩)
   ·have hn:FO L t w=none:=by unfold FO;rw [if_pos (by simpa using b)]
    (repeat first|refine tA rfl ?_ |refine aU rfl ?_ |refine Aa ?_);refine aR ⟨_,rfl,?_⟩;rw [hn];rfl
   ·have N:FO L t w=splitAt L t (L w) 0 w:=by unfold FO;rw [if_neg (by simpa using b)]
    rw [N];refine aK ?_;(repeat first|refine tA rfl ?_ |refine aU rfl ?_ |refine Aa ?_);refine aB ?_;refine aL (U:={k:Nat // k<=w.length/\splitAt L t (L w) 0 w=splitAt L t (L w) (runM L t 0 (w.take k)) (w.drop k)}) [2,3,4,9,12,45] [0] rfl rfl (λ⟨k,hk,i⟩=>[(10,eI .i64 (runM L t 0 (w.take k):Nat)),(46,eI .i64 k)]) (λ⟨k,hk,i⟩=>[]) 1 (λ⟨k,hk,i⟩=>w.length - k) (⟨0,by omega,rfl⟩) e rfl (by (simp[cX,zC,e,K]<;>rfl)) ?_;rintro⟨k,hk,i⟩;(try dsimp only[cA,cB]);have r:=n.run (w.take k) 0 (Mc hw k) V;by_cases u:k < w.length
    ·obtain⟨o,d⟩:=get_some u
     have y:w[((k:Nat):Int).toNat]? = some o:=by simpa using d
     have m:=hw o (ce d);have j:=Iq m;have x:=EK (TB:=TB) w k o y j;have ta:=Hr (a:=Bp L al t) (q:=(((runM L t 0 (w.take k):Nat):Int)).toNat) (by omega)
     have el:((((o.toNat:Int) - 97).toNat:Nat):Int)=(o.toNat:Int) - 97:=by omega
     have ra:=FM (h:=λl=>AW (Bp L al t) (((runM L t 0 (w.take k):Nat):Int)).toNat l) j.1 (by omega);simp only [el] at ra;have f:=MU (L:=L) (al:=al) (t:=t) (q:=runM L t 0 (w.take k)) r m;have p:=PN (L:=L) (t:=t) d 0;have z:=n.run (w.take (k+1)) 0 (Mc hw (k+1)) V;rw [Ry d,<-p] at i;rw [<-p] at f;rw [f6,f] at ra;generalize Q:runM L t 0 (w.take (k+1))=X at *;obtain⟨J,s⟩:=get_some (l:=t.rows) (k:=X) z;have Y:=get_map (g:=DQ) s
     have S:t.rows.getD X []=J:=by simp [List.getD,s]
     rw [S] at i;have hrb:=ht.onR J (ce s);have hdl:(w.drop (k+1)).length=w.length - (k+1):=qH;have B:=G (J++w.drop (k+1)) ⟨J,.inr (ce s),k+1,rfl⟩
     have F:(((k:Nat):Int)+1).toNat=k+1:=by omega
     (repeat first|refine s2 rfl λ_ b=>?_ |refine aU rfl ?_ |refine Aa ?_);(refine aC rfl ?_ ?_<;>rintro⟨⟩)
     ·refine aK ?_
      refine aS (aB ?_);(repeat first|(refine sA rfl ?_ ?_;first|exact tI|omega) |(refine s4 rfl ‹_› rfl ?_ ?_;omega) |refine sP rfl (x) rfl ?_|(refine Af rfl ?_;refine gA rfl ?_;first| refine gS (λ_ _=>Dp rfl ra) ?_) |refine aU rfl ?_ |refine Aa ?_ |refine rE (by kernel_rfl) ?_);(repeat first| (refine Af rfl ?_;refine gA rfl ?_;first| refine gS (λ_ _=>Ee rfl rfl (by omega) (by omega)) ?_));rw [F];(repeat first|(refine sA rfl ?_ ?_;first|exact tI|omega) |refine s2 rfl λ_ b=>?_|(refine Af rfl ?_;refine gA rfl ?_;first| refine gS (λ_ _=>H.ask rfl rfl B) ?_) |refine Aa ?_);(refine aC rfl ?_ ?_<;>rintro⟨⟩)
      ·rw [if_pos (by simpa using b)] at i
       (repeat first|(refine sA rfl ?_ ?_;first|exact tI|omega)|(refine Af rfl ?_;refine gA rfl ?_;first| refine gS (λ_ _=>Ee rfl rfl (by omega) (by omega)) ?_) |refine aU rfl ?_ |refine Aa ?_);refine aR ⟨_,rfl,?_⟩;rw [F,i];rfl
      ·rw [if_neg (by simpa using b)] at i
       refine aK ?_;(repeat first|(refine sA rfl ?_ ?_;first|exact tI|omega) |refine aU rfl ?_ |refine Aa ?_);subst Q;refine⟨⟨k+1,by omega,i⟩,by dsimp only;(omega),[0],?_⟩;simp[cX,zC,e,K]
     ·exfalso;(simp only[oZ] at *;omega)
    ·obtain rfl:k=w.length:=by omega
     rw [oR] at i;(repeat first|refine s2 rfl λ_ b=>?_ |refine aU rfl ?_ |refine Aa ?_);(refine aC rfl ?_ ?_<;>rintro⟨⟩)
     ·exfalso;(simp only[oZ] at *;omega)
     ·refine aE ?_
      (repeat first|refine tA rfl ?_ |refine aU rfl ?_ |refine Aa ?_);refine aR ⟨_,rfl,?_⟩;rw [i];rfl
theorem GA.mQ{ok:W->Prop}{al:Int}{t:Bh}(ht:GA al 20012 t)(e:HE ok al){w:W}(hw:Av (AU al) w)(d:w.length<=20000):∀v,Zr t w v->ok v:=by
 rintro v ⟨r,b,k,rfl⟩
 have f:Av (AU al) r/\r.length<=20012:=by
  rcases b with rfl|b
  ·exact⟨λc a=>by simp at a,by simp⟩
  ·exact ht.onR r b
 refine e _ (λc a=>?_) (by simp;omega)
 rcases f9.1 a with a|a
 ·exact f.1 c a
 ·exact en hw _ c a
end Go.Am
namespace Go.Am
open Go
set_option linter.unusedVariables false
theorem IA{g:Gr}:∀ {u v:List Int} {a x:Int},reach g (u++v) a x↔∃y,reach g u a y/\reach g v y x
 | [],v,a,x=>⟨λh=>⟨a,rfl,h⟩,λ⟨y,c,b⟩=>by cases c;exact b⟩
 | l :: u,v,a,x=>by
  simp only [n9,reach];constructor
  ·rintro⟨y,d,h⟩
   obtain⟨z,c,b⟩:=IA.1 h;exact⟨z,⟨y,d,c⟩,b⟩
  ·rintro⟨z,⟨y,d,c⟩,b⟩
   exact⟨y,d,IA.2 ⟨z,c,b⟩⟩
theorem ib(n:Nat)(f:Nat->Int)(h:∀i,i<=n->0<=f i/\f i < n):∃i j,i < j/\j<=n/\f i=f j:=by
 apply Classical.byContradiction;intro hno
 have g:((List.range (n+1)).map λi=>(f i).toNat).Nodup:=by
  unfold List.Nodup;rw [nS];refine List.pairwise_lt_range.imp_of_mem λ{a b} ha hb c k=>hno ⟨a,b,c,?_,?_⟩
  ·have:=jp.1 hb;omega
  ·have d:=h a (by have:=jp.1 ha;omega)
   have l:=h b (by have:=jp.1 hb;omega);omega
 have d:=HV n _ g λx e=>by
  obtain⟨i,hi,rfl⟩:=em.1 e;have:=h i (by have:=jp.1 hi;omega);omega
 simp at d;omega
theorem CP.short{g:Gr}(n:LB g){w:List Int}(h:CP g (some w)):w.length < g.N:=by
 obtain⟨e,⟨x,o,c⟩,r⟩:=h;apply Classical.byContradiction;intro m;have b:∀k,∃y,reach g (w.take k) g.s0 y/\reach g (w.drop k) y x:=λk=>IA.1 (by rw [nJ];exact o);obtain⟨f,d⟩:=Classical.axiomOfChoice b;obtain⟨i,j,p,s,q⟩:=ib g.N f λi _=>ES n (λl a=>e l (nE a)) n.s0 (d i).1;refine r (w.take i++w.drop j) (λl a=>?_) ⟨x,IA.2 ⟨f i,(d i).1,q ▸ (d j).2⟩,c⟩ (.inl ?_)
 ·rcases f9.1 a with a|a
  ·exact e l (nE a)
  ·exact e l (pz a)
 ·simp;omega
theorem Vk{al:Int}:∀ {w:List Int},(∀l∈w,l∈Ac al)->Av (AU al) (Ei w):=λ{w} h c b=>by
 obtain⟨l,a,rfl⟩:=em.1 b;exact QA (h l a)
theorem ia{al:Int}{w:W}(h:Av (AU al) w):∃v:List Int,(∀l∈v,l∈Ac al)/\Ei v=w:=by
 induction w with
 | nil=>exact⟨[],by simp,rfl⟩
 | cons c w b=>
  obtain⟨v,e,g⟩:=b λx d=>h x (by simp [d]);obtain⟨l,f,rfl⟩:=em.1 (h c (by simp))
  exact⟨l::v,λm a=>by
   rcases lc.1 a with rfl|a
   ·exact f
   ·exact e m a,by rw [<-g];rfl⟩
theorem NG{a b:AK}(ha:AI a=true)(hb:AI b=true){op:Bool->Bool->Bool}{s0:Int}:∀ {w:List Int} {i j x:Int},(∀l∈w,l∈Ac a.al)->(0<=i/\i < a.nx.length)->(0<=j/\j < b.nx.length)->
 (reach (Lh a b s0 op) w (i*b.nx.length+j) x↔x=AN a i (Ei w)*b.nx.length+AN b j (Ei w))
 | [],i,j,x,_,_,_=>⟨λh=>h.symm,λh=>h.symm⟩
 | l :: w,i,j,x,hw,hi,d=>by
  have f:=Ai (hw l (by simp))
  have r:(i*b.nx.length+j) / b.nx.length=i:=by
   rw [pR,pZ _ _ (by omega),p6 d.1 d.2,qk]
  have p:(i*b.nx.length+j) % b.nx.length=j:=by
   rw [pR,px,pk d.1 d.2]
  have o:=DG ha (q:=i.toNat) (by omega) f.1 (by omega);have n:=DG hb (q:=j.toNat) (by omega) f.1 (by omega);have g:=NG ha hb (op:=op) (s0:=s0) (w:=w) (x:=x) (λm k=>hw m (by simp [k])) o n
  have e:∀(c:AK) (q:Int),AN c q (Ei (l::w))=AN c (AW c q.toNat l) (Ei w):=λc q=>by
   show AN c (AW c q.toNat (((lb l).toNat:Int) - 97)) (Ei w)=_
   rw [Es f.1 (by omega)]
  rw [e,e,<-g];simp only [reach,Lh,r,p,pP,exists_eq_left]
theorem Pb{a b:AK}{w:List Int}(h:Jv a b=some w):Dk a b=true/\Av (AU a.al) (Ei w)/\LA a (Ei w)≠LA b (Ei w)/\(Ei w).length<=144:=by
 unfold Jv at h;by_cases e:Dk a b=true
 ·rw [if_pos e] at h
  refine⟨e,?_⟩;unfold Dk at e;simp only [d6,decide_eq_true_eq] at e;obtain⟨⟨ha,hb⟩,hal⟩:=e;have q:=Al ha;have p:=Al hb;rw [<-Nm (op:=bne) ha hb (λx y=>by simp) (.inl rfl)] at h;have n:=ZP (op:=bne) (s0:=0) ha hb ⟨by omega,by rw [<-oM];have:=Nat.mul_pos (show 0 < a.nx.length by omega) (show 0 < b.nx.length by omega);omega⟩;have hi:=HK (Lh a b 0 bne);rw [h] at hi;have v:=hi.short n;obtain⟨k,⟨x,l,f⟩,B⟩:=hi;have d:=Vk (al:=a.al) k;refine⟨d,λo=>?_,?_⟩
  ·have g:=(NG ha hb (op:=bne) (s0:=0) (i:=0) (j:=0) (x:=x) k ⟨by omega,by omega⟩ ⟨by omega,by omega⟩).1 (by simpa [Lh] using l)
   have m:=Fh ha (Ei w) 0 d (by omega);have c:=Fh hb (Ei w) 0 (al:=a.al) d (by omega)
   have t:x / b.nx.length=AN a 0 (Ei w):=by
    rw [g,pR,pZ _ _ (by omega),p6 c.1 c.2,qk]
   have s:x % b.nx.length=AN b 0 (Ei w):=by
    rw [g,pR,px,pk c.1 c.2]
   have r:(Lh a b 0 bne).goal x=(LA a (Ei w) != LA b (Ei w)):=by simp only [Lh,t,s,LA]
   rw [r,o] at f;simp at f
  ·have A:a.nx.length*b.nx.length<=12*12:=qq (by omega) (by omega)
   have z:(Lh a b 0 bne).N=a.nx.length*b.nx.length:=rfl
   have u:(Ei w).length=w.length:=by simp [Ei]
   omega
 ·rw [if_neg e] at h;cases h
theorem Pa{a b:AK}(d:Dk a b=true)(h:Jv a b=none):∀w,Av (AU a.al) w->LA a w=LA b w:=by
 intro w hw;unfold Jv at h;rw [if_pos d] at h;unfold Dk at d;simp only [d6,decide_eq_true_eq] at d;obtain⟨⟨ha,hb⟩,hal⟩:=d;have k:=Al ha;have g:=Al hb;rw [<-Nm (op:=bne) ha hb (λx y=>by simp) (.inl rfl)] at h;have hi:=HK (Lh a b 0 bne);rw [h] at hi;obtain⟨v,d,rfl⟩:=ia hw;apply Classical.byContradiction;intro e;have f:=Fh ha (Ei v) 0 hw (by omega);have c:=Fh hb (Ei v) 0 (al:=a.al) hw (by omega);refine hi v d ⟨AN a 0 (Ei v)*b.nx.length+AN b 0 (Ei v),?_,?_⟩
 ·have:=(NG ha hb (op:=bne) (s0:=0) (i:=0) (j:=0) (x:=AN a 0 (Ei v)*b.nx.length+AN b 0 (Ei v)) d ⟨by omega,by omega⟩ ⟨by omega,by omega⟩).2 rfl
  simpa [Lh] using this
 ·have m:(AN a 0 (Ei v)*b.nx.length+AN b 0 (Ei v)) / b.nx.length=AN a 0 (Ei v):=by
   rw [pR,pZ _ _ (by omega),p6 c.1 c.2,qk]
  have l:(AN a 0 (Ei v)*b.nx.length+AN b 0 (Ei v)) % b.nx.length=AN b 0 (Ei v):=by
   rw [pR,px,pk c.1 c.2]
  show bne (a.ac.getD ((AN a 0 (Ei v)*b.nx.length+AN b 0 (Ei v)) / b.nx.length).toNat false) (b.ac.getD ((AN a 0 (Ei v)*b.nx.length+AN b 0 (Ei v)) % b.nx.length).toNat false)=true
  rw [m,l];unfold LA at e
  simpa using e
end Go.Am
namespace Go.Am
open Go Go.Proofs
set_option maxHeartbeats 1000000
set_option maxRecDepth 4000
attribute [local irreducible] AO BS Lex A4 Au Spec
variable {TB:Bi}
abbrev lH(g:FuncId):D:=.v (.func (.func g) #[] #[])
theorem Fy(a b:AK):Pure Tryz.prog TB 75 [Bm a,Bm b] (eB (Dk a b)):=by
 refine eN Tryz.func75 rfl (by kernel_rfl) rfl ?_;intro Γ d;(repeat' first |refine sN rfl ?_ |((first|refine sA rfl ?_ ?_|refine s4 rfl ‹_› rfl ?_ ?_);first|exact tI|omega|simp only[oZ] at *;omega) |refine s2 rfl λ_ c=>?_ |(refine sC rfl (Cm a) ?_;intro _ c)|(refine sC rfl (Cm b) ?_;intro _ c) |refine s3 rfl ?_ ?_<;>rintro rfl |refine aU rfl ?_ |refine Aa ?_ |refine rE (by kernel_rfl) ?_|(refine aC rfl ?_ ?_<;>rintro⟨⟩)|refine aK ?_|refine aE ?_|refine aB ?_|refine aR ⟨_,rfl,?_⟩)
 all_goals (show E.o _=E.o _;congr;unfold Dk;grind)
theorem Ua(x y:Bool):Pure Tryz.prog TB 156 [eB x,eB y] (eB (bne x y)):=by
 refine eN Tryz.func156 rfl (by kernel_rfl) rfl ?_;intro Γ a;(repeat' first |refine sN rfl ?_ |((first|refine sA rfl ?_ ?_|refine s4 rfl ‹_› rfl ?_ ?_);first|exact tI|omega|simp only[oZ] at *;omega) |refine s2 rfl λ_ b=>?_ |refine s3 rfl ?_ ?_<;>rintro rfl |refine aU rfl ?_ |refine Aa ?_ |refine rE (by kernel_rfl) ?_|(refine aC rfl ?_ ?_<;>rintro⟨⟩)|refine aK ?_|refine aE ?_|refine aB ?_|refine aR ⟨_,rfl,?_⟩)
 all_goals (show E.o _=E.o _;congr;grind)
theorem Zv{a b:AK}(ha:AI a=true)(hb:AI b=true){h:FuncId}{op:Bool->Bool->Bool}{s0:Int}(d:∀x y,Pure Tryz.prog TB h [eB x,eB y] (eB (op x y)))(node:Int)(n:0<=node/\node < (Lh a b s0 op).N) :
 Pure Tryz.prog TB 223 [eI .i64 node,.o (.ip [lH h]),.o (.ip (BO a)),.o (.ip [iD b.nx.length]),.o (.ip (BO b))] (eB ((Lh a b s0 op).goal node)):=by
 have r:=Al ha;have q:=Al hb;have w:=HP (a:=a) hb (x:=node) n
 have s:node < 1048576:=by
  have v:a.nx.length*b.nx.length<=12*12:=qq (by omega) (by omega);have u:(Lh a b s0 op).N=a.nx.length*b.nx.length:=rfl;omega
 obtain⟨x,g⟩:=get_some (l:=a.ac) (k:=(node / b.nx.length).toNat) (by omega);obtain⟨y,f⟩:=get_some (l:=b.ac) (k:=(node % b.nx.length).toNat) (by omega)
 have m:(a.ac.map Gk)[(node / b.nx.length).toNat]? = some (Gk x):=by simp [g]
 have j:(b.ac.map Gk)[(node % b.nx.length).toNat]? = some (Gk y):=by simp [f]
 have p:(Lh a b s0 op).goal node=op x y:=by simp [Lh,List.getD,g,f]
 rw [p];have c:=d x y;refine eN Tryz.func223 rfl (by kernel_rfl) rfl ?_;intro Γ i;(repeat first |refine sN rfl ?_ |((first|refine sA rfl ?_ ?_|refine s4 rfl ‹_› rfl ?_ ?_);first|exact tI|omega|simp only[oZ] at *;omega) |refine s2 rfl λ_ e=>?_ |refine s3 rfl ?_ ?_<;>rintro rfl |refine aU rfl ?_ |refine Aa ?_);refine rG (Ha []) (by kernel_rfl) ?_;(repeat first |refine sN rfl ?_ |((first|refine sA rfl ?_ ?_|refine s4 rfl ‹_› rfl ?_ ?_);first|exact tI|omega|simp only[oZ] at *;omega) |refine s2 rfl λ_ e=>?_|(refine Af rfl ?_;refine gA rfl ?_;first|refine gS (λ_ _=>il (t:=7) rfl (A6 rfl rfl rfl c rfl)) ?_) |refine s3 rfl ?_ ?_<;>rintro rfl |refine aU rfl ?_ |refine Aa ?_);refine aR ⟨_,rfl,rfl⟩
theorem Zu{a b:AK}(ha:AI a=true)(hb:AI b=true){op:Bool->Bool->Bool}{s0:Int}:Ze Tryz.prog TB 3 (Lh a b s0 op) 222 [.ip [.l (Fi a)],.ip [iD b.nx.length],.ip [.l (Fi b)]]:=by
 intro node l outs k c j;have c:=Ai (show l∈Ay a.al 6 from c);have o:=Al ha;have n:=Al hb;have v:=HP (a:=a) hb (x:=node) k
 have s:node < 1048576:=by
  have u:a.nx.length*b.nx.length<=12*12:=qq (by omega) (by omega);have t:(Lh a b s0 op).N=a.nx.length*b.nx.length:=rfl;omega
 have e:=DG ha (q:=(node / b.nx.length).toNat) (by omega) c.1 (by omega);have m:=DG hb (q:=(node % b.nx.length).toNat) (by omega) c.1 (by omega);have ta:=Hr (a:=a) (q:=(node / b.nx.length).toNat) (by omega);have tb:=Hr (a:=b) (q:=(node % b.nx.length).toNat) (by omega)
 have el:((l.toNat:Nat):Int)=l:=by omega
 have ra:=FM (h:=λl=>AW a (node / b.nx.length).toNat l) c.1 (by omega);have rb:=FM (h:=λl=>AW b (node % b.nx.length).toNat l) c.1 (by omega);simp only [el] at ra rb
 have p:0<=AW a (node / b.nx.length).toNat l*b.nx.length/\AW a (node / b.nx.length).toNat l*b.nx.length<=144:=⟨pu e.1 (by omega),by
  have:AW a (node / b.nx.length).toNat l*b.nx.length<=12*12:=qo (by omega) (by omega) (by omega) (by omega)
  omega⟩
 have i:(Lh a b s0 op).succ node l=[AW a (node / b.nx.length).toNat l*b.nx.length+AW b (node % b.nx.length).toNat l]:=rfl;rw [i];refine eN Tryz.func222 rfl (by kernel_rfl) rfl ?_;intro Γ g;(repeat first |refine sN rfl ?_ |((first|refine sA rfl ?_ ?_|refine s4 rfl ‹_› rfl ?_ ?_);first|exact tI|omega|simp only[oZ] at *;omega) |refine s2 rfl λ_ d=>?_ |refine s3 rfl ?_ ?_<;>rintro rfl |refine aU rfl ?_ |refine Aa ?_);refine rG (Ha [21]) (by kernel_rfl) ?_;(repeat first |refine sN rfl ?_ |((first|refine sA rfl ?_ ?_|refine s4 rfl ‹_› rfl ?_ ?_);first|exact tI|omega|simp only[oZ] at *;omega) |refine s2 rfl λ_ d=>?_|(refine Af rfl ?_;refine gA rfl ?_;first|refine gS (λ_ _=>Dp rfl ra) ?_|refine gS (λ_ _=>Dp rfl rb) ?_) |refine s3 rfl ?_ ?_<;>rintro rfl |refine aU rfl ?_ |refine Aa ?_);(refine pW rfl ?_ rfl (by rfl);refine Aj rfl rfl rfl (by first|(simp;done)|(simp;(first|omega|simp only[oZ] at *;omega))) rfl (by intro r f;simp at f;subst f;rfl) (by rfl) (co rfl) (by simp;omega) ?_);(repeat first |refine sN rfl ?_ |((first|refine sA rfl ?_ ?_|refine s4 rfl ‹_› rfl ?_ ?_);first|exact tI|omega|simp only[oZ] at *;omega) |refine s2 rfl λ_ d=>?_ |refine s3 rfl ?_ ?_<;>rintro rfl |refine aU rfl ?_ |refine Aa ?_);refine aR ⟨_,rfl,by simp,rfl,by simp [kill]⟩
theorem MR{a b:AK}(ha:AI a=true)(hb:AI b=true){p:FuncId}{op:Bool->Bool->Bool}(h:∀x y,Pure Tryz.prog TB p [eB x,eB y] (eB (op x y)))(i j:Int)(hi:0<=i/\i < a.nx.length)(J:0<=j/\j < b.nx.length) :
 Pure Tryz.prog TB 155 [Bm a,Bm b,eI .i64 i,eI .i64 j,.o (.d (lH p))] (ZF (Jp (Lh a b (i*b.nx.length+j) op))):=by
 have B:=Al ha;have A:=Al hb;have f:=FP (TB:=TB) a ha;have e:=FP (TB:=TB) b hb
 have H:0<=i*(b.nx.length:Int)/\(i+1)*(b.nx.length:Int)<=a.nx.length*b.nx.length:=⟨pu hi.1 (by omega),oq (by omega) (by omega)⟩
 have u:(i+1)*(b.nx.length:Int)=i*b.nx.length+b.nx.length:=by rw [pD];omega
 have K:a.nx.length*b.nx.length<=144:=qq (show a.nx.length<=12 by omega) (show b.nx.length<=12 by omega)
 have F:((a.nx.length:Int)*b.nx.length)<=144:=by rw [<-oM];omega
 have g:0<=i*(b.nx.length:Int)+j/\i*(b.nx.length:Int)+j < a.nx.length*b.nx.length:=by omega
 have z:=ZP (op:=op) (s0:=i*b.nx.length+j) ha hb g
 have w:(Fi a).length=a.nx.length:=by simp [Fi,Bq]
 have v:(Fi b).length=b.nx.length:=by simp [Fi,Bq]
 have m:Pure Tryz.prog TB 135 [eI .i64 ((a.nx.length:Int)*b.nx.length),AH [i*b.nx.length+j],AH (Ac a.al),.o (.fn 222 [.ip [.l (Fi a)],.ip [iD b.nx.length],.ip [.l (Fi b)]]),.o (.fn 223 [.ip [lH p],.ip (BO a),.ip [iD b.nx.length],.ip (BO b)])]
  (ZF (Jp (Lh a b (i*b.nx.length+j) op))):=by
  rw [<-oM]
  exact Qo z (show a.nx.length*b.nx.length<=1048576 by omega) (λx t=>by have:=Ai t;omega) (AD _ 6) (λnode l q I=>by
   have G:1<=a.nx.length*b.nx.length:=Nat.mul_pos (show 0 < a.nx.length by omega) (show 0 < b.nx.length by omega)
   exact G) (Zu ha hb) (λn q=>Zv ha hb h n q) rfl (λr=>rfl) (λr=>rfl) (HK _)
 refine eN Tryz.func155 rfl (by kernel_rfl) rfl ?_;intro Γ s;(repeat first |refine sN rfl ?_ |((first|refine sA rfl ?_ ?_|refine s4 rfl ‹_› rfl ?_ ?_);first|exact tI|omega|simp only[oZ] at *;omega) |refine s2 rfl λ_ c=>?_ |refine s3 rfl ?_ ?_<;>rintro rfl |refine aU rfl ?_ |refine Aa ?_);refine R.fb [(0,2),(1,2),(2,2),(3,2),(4,3),(5,3),(6,5),(7,5)] mixed (by kernel_rfl) rfl (by kernel_rfl) ?_;(repeat ((refine R.Af rfl ?_;first |(refine R.yQ (md:=false) rfl rfl rfl ?_ ?_;first|exact tI|omega|simp only[oZ] at *;omega) |(refine R.yB rfl rfl rfl ?_;intro _ c) |refine R.yS rfl rfl rfl ?_ |refine R.yP rfl rfl rfl rfl ?_ |refine R.yA rfl rfl rfl rfl ?_ |refine R.yW rfl rfl rfl ?_|refine R.Ew (λ_ _ _=>A6 rfl rfl rfl (f) rfl) rfl rfl ?_|refine R.Ew (λ_ _ _=>A6 rfl rfl rfl (e) rfl) rfl rfl ?_ |refine R.jT rfl rfl ?_ |(refine R.yG rfl rfl ?_ ?_<;>intro hb<;>subst hb) )));refine R.dQ ?_;refine aS ?_;refine Au.C9 [0,1] [2,3,5,6,9] rfl [(12,.o (.ip [.l (Fi a)])),(13,.o (.ip [.l (Fi b)]))] ⟨⟨_,rfl,.o (.ptr (by simp) rfl rfl rfl)⟩,⟨_,rfl,.o (.ptr (by simp) rfl rfl rfl)⟩,trivial⟩ ?_;(try dsimp only[cA,cB]);refine lY (by kernel_rfl) ?_;(repeat first |refine sN rfl ?_ |((first|refine sA rfl ?_ ?_|refine s4 rfl ‹_› rfl ?_ ?_);first|exact tI|omega|simp only[oZ] at *;omega) |refine s2 rfl λ_ c=>?_ |refine s3 rfl ?_ ?_<;>rintro rfl);refine Aa ?_;simp only [pg];refine aS ?_;refine Au.C9 [2] [2,3,5,6,9,12,13] rfl [(14,.o (.ip [iD b.nx.length]))] ⟨⟨_,rfl,.o (.ptr (by simp) rfl rfl rfl)⟩,trivial⟩ ?_;(try dsimp only[cA,cB]);(repeat first |refine sN rfl ?_ |((first|refine sA rfl ?_ ?_|refine s4 rfl ‹_› rfl ?_ ?_);first|exact tI|omega|simp only[oZ] at *;omega) |refine s2 rfl λ_ c=>?_ |refine s3 rfl ?_ ?_<;>rintro rfl |refine aU rfl ?_ |refine Aa ?_);refine rG (Ha []) (by kernel_rfl) ?_;have k:=Cu (TB:=TB) a.al;(repeat first |refine sN rfl ?_ |((first|refine sA rfl ?_ ?_|refine s4 rfl ‹_› rfl ?_ ?_);first|exact tI|omega|simp only[oZ] at *;omega) |refine s2 rfl λ_ c=>?_ |refine s3 rfl ?_ ?_<;>rintro rfl |refine aU rfl ?_ |refine Aa ?_);simp only [pg];(repeat first |refine sN rfl ?_ |((first|refine sA rfl ?_ ?_|refine s4 rfl ‹_› rfl ?_ ?_);first|exact tI|omega|simp only[oZ] at *;omega) |refine s2 rfl λ_ c=>?_ |refine sP rfl (k) rfl ?_|refine sP rfl (m) rfl ?_ |refine s3 rfl ?_ ?_<;>rintro rfl |refine aU rfl ?_ |refine Aa ?_);refine aR ⟨_,rfl,rfl⟩
theorem Hw(a b:AK):Pure Tryz.prog TB 74 [Bm a,Bm b] (ZF (Jv a b)):=by
 by_cases f:Dk a b=true
 ·have c:=f
  unfold Dk at c;simp only [d6,decide_eq_true_eq] at c;obtain⟨⟨ha,hb⟩,_⟩:=c;have k:=Al ha;have j:=Al hb
  have h:Jv a b=Jp (Lh a b 0 bne):=by unfold Jv;rw [if_pos f,Nm ha hb (λx y=>by simp) (.inl rfl)]
  have i:=MR (TB:=TB) ha hb Ua 0 0 ⟨by omega,by omega⟩ ⟨by omega,by omega⟩
  have g:Pure Tryz.prog TB 155 [Bm a,Bm b,eI .i64 0,eI .i64 0,.o (.fn 156 [])] (ZF (Jp (Lh a b 0 bne))):=by
   have:=Spec.lC (l:=[Bm a,Bm b,eI .i64 0,eI .i64 0]) (m:=[]) i;rw [Int.zero_mul,qk] at this;exact this
  rw [h];refine eN Tryz.func74 rfl (by kernel_rfl) rfl ?_;intro Γ e;(repeat' first |refine sN rfl ?_ |((first|refine sA rfl ?_ ?_|refine s4 rfl ‹_› rfl ?_ ?_);first|exact tI|omega|simp only[oZ] at *;omega) |refine s2 rfl λ_ d=>?_ |(refine sC rfl (Fy a b) ?_;intro _ d)|refine sP rfl (g) rfl ?_ |refine s3 rfl ?_ ?_<;>rintro rfl |refine aU rfl ?_ |refine Aa ?_ |refine rE (by kernel_rfl) ?_|(refine aC rfl ?_ ?_<;>rintro⟨⟩)|refine aK ?_|refine aE ?_|refine aB ?_|refine aR ⟨_,rfl,?_⟩)
  all_goals first
   | rfl
   | (exfalso;grind;done)
 ·have h:Jv a b=none:=by unfold Jv;rw [if_neg f]
  rw [h];refine eN Tryz.func74 rfl (by kernel_rfl) rfl ?_;intro Γ e;(repeat' first |refine sN rfl ?_ |((first|refine sA rfl ?_ ?_|refine s4 rfl ‹_› rfl ?_ ?_);first|exact tI|omega|simp only[oZ] at *;omega) |refine s2 rfl λ_ d=>?_ |(refine sC rfl (Fy a b) ?_;intro _ d) |refine s3 rfl ?_ ?_<;>rintro rfl |refine aU rfl ?_ |refine Aa ?_ |refine rE (by kernel_rfl) ?_|(refine aC rfl ?_ ?_<;>rintro⟨⟩)|refine aK ?_|refine aE ?_|refine aB ?_|refine aR ⟨_,rfl,?_⟩)
  all_goals first
   | rfl
   | (exfalso;grind;done)
theorem IG(a b:AK):Pure Tryz.prog TB 22 [Bm a,Bm b] (eB (Dk a b && (Jv a b).isNone)):=by
 refine eN Tryz.func22 rfl (by kernel_rfl) rfl ?_;intro Γ d;(repeat' first |refine sN rfl ?_ |((first|refine sA rfl ?_ ?_|refine s4 rfl ‹_› rfl ?_ ?_);first|exact tI|omega|simp only[oZ] at *;omega) |refine s2 rfl λ_ c=>?_ |refine sP rfl (Hw a b) rfl ?_|(refine sC rfl (Fy a b) ?_;intro _ c) |refine s3 rfl ?_ ?_<;>rintro rfl |refine aU rfl ?_ |refine Aa ?_ |refine rE (by kernel_rfl) ?_|(refine aC rfl ?_ ?_<;>rintro⟨⟩)|refine aK ?_|refine aE ?_|refine aB ?_|refine aR ⟨_,rfl,?_⟩)
 all_goals (show E.o _=E.o _;congr;grind)
end Go.Am
namespace Go.Proofs.YtgpbfllcjdfelaaGreatDoor
open Go Go.Am Go.ChangeShapes Go.WideShapes Go.ChangeAt Go.RowKit
def YW(l:List Value):List Int:=l.map λv=>match v with|.int _ n=>n|_=>0
theorem WV{P:Program}{W:World}{name:String}{g:Nat}{t e:TypeId}{n:Nat}{zs:List Int}{fuel:Nat}{cs:Array Value}{p:List MemPlace}(i:P.globalNamed name=some g)(ht:P.underlying t=some (.array n e))(j:P.underlying e=some (.int .u8))(d:P.cellsOf e=1)(b:P.cellsOf t=n)
 (a:W.var? P name=some cs) (k:DataW.trod (λ_=>()) P W 0 (λ_=>true) false fuel t cs.toList=some (Lib.tabData .u8 zs,p)):∃T fr,W.heap[g]? = some (.cells (zs.map λz=>Value.int .u8 z).toArray T fr):=by
 have h:=Lib.cells_of_tab ht j d b k;unfold World.var? at a;rw [i] at a;simp only [oh] at a;split at a
 ·rename_i c T fr f
  injection a with a
  subst a;refine⟨T,fr,?_⟩;rw [f,<-h]
 ·cases a
theorem tables {W:World} {rest:List (String×DataW Unit)} (h:laidMet Tryz.prog (("math/bits.deBruijn32tab",Rows.laid_math_bits_deBruijn32tab)::("math/bits.deBruijn64tab",Rows.laid_math_bits_deBruijn64tab)::rest) W):∃tabs:List (Nat×Obj),Fa ⟨tabs,none⟩/\∀x∈(⟨tabs,none⟩:Bi),below W x.1/\W.heap[x.1]? = some x.2:=by
 obtain⟨ps,⟨I,y,u,K,G,B,j,f,c,l,⟨H,w,t,J,F,A,g,e,b,k,_,_⟩,_⟩,_,_⟩:=h
 have p:Tryz.prog.globalNamed "math/bits.deBruijn32tab" = some 1:=by kernel_rfl
 have o:Tryz.prog.globalNamed "math/bits.deBruijn64tab" = some 2:=by kernel_rfl
 obtain rfl:=Option.some.inj (p.symm.trans j);obtain rfl:=Option.some.inj (o.symm.trans g)
 have s:(Tryz.prog.globals[1]?).map (·.type)=some 283:=by kernel_rfl
 have l1:(Tryz.prog.globals[2]?).map (·.type)=some 284:=by kernel_rfl
 obtain rfl:=Option.some.inj (s.symm.trans f);obtain rfl:=Option.some.inj (l1.symm.trans e);obtain⟨T0,n,r⟩:=WV (zs:=YW Cf) p Tryz.underlying283 Tryz.underlying5 (by kernel_rfl) (by kernel_rfl) c l;obtain⟨T1,m,q⟩:=WV (zs:=YW Bk) o Tryz.underlying284 Tryz.underlying5 (by kernel_rfl) (by kernel_rfl) b k;refine⟨[(1,.cells ((YW Cf).map λz=>Value.int .u8 z).toArray T0 n),(2,.cells ((YW Bk).map λz=>Value.int .u8 z).toArray T1 m)],⟨⟨⟨_,_,_,og,λi v d=>?_⟩,by decide⟩,⟨⟨_,_,_,nq _ og,λi v d=>?_⟩,by decide⟩⟩,?_⟩
 ·have:Cf=(YW Cf).map λz=>Value.int .u8 z:=rfl
  rw [oa,<-this];exact d
 ·have:Bk=(YW Bk).map λz=>Value.int .u8 z:=rfl
  rw [oa,<-this];exact d
 ·intro x a
  have a:x∈[_,_]:=a;simp only [lc,qc,or_false] at a
  rcases a with rfl|rfl
  ·exact⟨(ng.1 r).1,r⟩
  ·exact⟨(ng.1 q).1,q⟩
end Go.Proofs.YtgpbfllcjdfelaaGreatDoor
