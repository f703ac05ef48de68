/-
  The table that is closed.
-/
import Derived.Test.YtdipaikojjjebaaGreatDoorPart22
import Derived.Test.YtdipaikojjjebaaGreatDoorPart17
set_option linter.all false
namespace Go.Am
open Go Go.Proofs
set_option maxHeartbeats 1000000
set_option maxRecDepth 4000
attribute [local irreducible] A1 Cr Lex Bs Aj Spec
variable {TB:BA}
structure Gb (al:Int) (b:Nat) (t:A9):Prop where
 onR:∀w∈t.rows,AO (Bg al) w/\w.length<=b
 onC:∀x∈t.cols,AO (Bg al) x/\x.length<=20000
 rl:t.rows.length<=12
 cl:t.cols.length<=20
def Ql(ok:W->Prop)(al:Int):Prop:=∀w,AO (Bg al) w->w.length<=50000->ok w
def Mb(ls:List UInt8)(t:A9)(v:W):Prop:=∃r∈t.rows,∃m:W,(m=[]\/∃l∈ls,m=[l])/\∃x:W,(x=[]\/x∈t.cols)/\v=r++m++x
def HQ(ok:W->Prop)(ls:List UInt8)(t:A9):Prop:=∀v,Mb ls t v->ok v
def Ep(L:W->Bool)(ls:List UInt8):Nat->A9->List A9
 | 0,t=>[t]
 | n+1,t=>t::match Bx L ls t with
  | none=>[]
  | some w=>if t.rows.length=12 then [] else Ep L ls n ⟨t.rows++[w],t.cols⟩
theorem TZ{L:W->Bool}{ls:List UInt8}{n:Nat}{t:A9}:t∈Ep L ls n t:=by cases n<;>simp[Ep]
theorem Gb.eo{ok:W->Prop}{al:Int}{b:Nat}{t:A9}(h:Gb al b t)(d:HQ ok (Bg al) t)(hb:b<=20100):X9 ok t/\∀w∈t.rows,∀l∈Bg al,∀x∈t.cols,ok (w++[l]++x):=
  ⟨⟨λw c x a=>d _ ⟨w,c,[],.inl rfl,x,.inr a,by simp⟩,λw c=>by have:=(h.onR w c).2;omega,λx a=>by have:=(h.onC x a).2;omega,by have:=h.rl;omega,by have:=h.cl;omega⟩,
   λw c l e x a=>d _ ⟨w,c,[l],.inr ⟨l,e,rfl⟩,x,.inr a,rfl⟩⟩
theorem Gb.on{ok:W->Prop}{al:Int}{b:Nat}{t:A9}(h:Gb al b t)(i:Ql ok al)(hb:b<=20100):HQ ok (Bg al) t:=by
 rintro v ⟨r,e,m,f,x,d,rfl⟩;have n:=h.onR r e
 have k:AO (Bg al) m/\m.length<=1:=by
  rcases f with rfl|⟨l,g,rfl⟩
  ·exact⟨λc a=>by simp at a,by simp⟩
  ·exact⟨λc a=>by simp at a;subst a;exact g,by simp⟩
 have j:AO (Bg al) x/\x.length<=20000:=by
  rcases d with rfl|d
  ·exact⟨λc a=>by simp at a,by simp⟩
  ·exact h.onC x d
 refine i _ (λc a=>?_) (by simp;omega);simp only[f6]at a
 rcases a with (a|a)|a
 ·exact n.1 c a
 ·exact k.1 c a
 ·exact j.1 c a
theorem Gb.push{L:W->Bool}{al:Int}{b:Nat}{t:A9}{w:W}(h:Gb al b t)(g:Bx L (Bg al) t=some w)(i:t.rows.length<12):Gb al (b+1) ⟨t.rows++[w],t.cols⟩:=by
 obtain⟨⟨r,f,l,e,rfl⟩,_⟩:=Jy g;refine⟨λu a=>?_,h.onC,by simp;omega,h.cl⟩
 rcases f6.1 a with a|a
 ·have:=h.onR u a;exact⟨this.1,by omega⟩
 ·simp at a
  subst a;have:=h.onR r f;refine⟨λc d=>?_,by simp;omega⟩
  rcases f6.1 d with d|d
  ·exact this.1 c d
  ·simp at d;subst d;exact e
theorem Gb.grow{L:W->Bool}{al:Int}:∀ {n b:Nat} {t y:A9},Gb al b t->y∈Ep L (Bg al) n t->Gb al (b+n) y
 | 0,b,t,y,h,a=>by simp[Ep]at a;subst a;exact h
 | n + 1, b,t,y,h,a=>by
  have f:∀ {b':Nat} {z:A9},b'<=b+(n+1)->Gb al b' z->Gb al (b+(n+1)) z:=λhb c=>⟨λw e=>⟨(c.onR w e).1,lm (c.onR w e).2 hb⟩,c.onC,c.rl,c.cl⟩
  unfold Ep at a
  rcases lJ.1 a with rfl|a
  ·exact f (by omega) h
  ·cases d:Bx L (Bg al) t with
   | none=>rw[d]at a;simp at a
   | some w=>
    rw[d]at a;dsimp only at a;split at a
    ·simp at a
    ·have:=h.rl
     exact f (by omega) (Gb.grow (h.push d (by omega)) a)
theorem Gb.kM{L:W->Bool}{ok:W->Prop}{al:Int}{b:Nat}{t:A9}(h:Gb al b t)(c:Ql ok al)(hb:b<=20000):∀y∈Ep L (Bg al) 13 t,HQ ok (Bg al) y:=λy a=>(h.grow a).on c (by omega)
theorem HU{c:C}{L:W->Bool}{ok:W->Prop}(K:IY Tryz.prog TB c L ok)(al:Int)(t:A9)(Y:∀y∈Ep L (Bg al) 13 t,HQ ok (Bg al) y)(ht:Gb al 20000 t) :
 Pure Tryz.prog TB 130 [HW al c,HX t] (Vt (BJ L (Bg al) 13 t)):=by
 have v:=EA c K.BY;have V:=ht.rl;have Z:=ht.cl;have J:=JW (TB:=TB) t.rows (by omega);have I:=JW (TB:=TB) t.cols (by omega);refine AH.GB (AH.ofM 2 (i9 _) Tryz.func130 rfl rfl (by kernel_rfl) (ce rfl) ?_);intro Γ b;(repeat first|refine aU rfl ?_);(refine pW rfl ?_ rfl (by rfl);refine CY rfl rfl ?_);(refine Ag rfl ?_;refine CO (λ_ _=>Ec rfl rfl rfl) rfl ?_);(repeat first|refine tM rfl ?_|refine aU rfl ?_|apply Aa);refine R.Om [(7,3),(0,2),(1,2),(3,2),(4,2),(2,1),(5,1),(6,0),(8,5)] mixed (by kernel_rfl) rfl (by kernel_rfl) ?_;(repeat ((refine R.Ag rfl ?_;first|(refine R.yQ (md:=false) rfl rfl rfl ?_ ?_;exact tI)|refine R.yP rfl rfl rfl rfl ?_ )));(refine R.Ag rfl ?_;refine R.Kw (λ_=>?_) rfl rfl;refine Af [] rfl rfl J ⟨rfl,by simp,by simp⟩ rfl trivial ?_;rintro P F G ⟨rfl,rfl,rfl⟩ _);(refine R.Ag rfl ?_;refine R.Kw (λ_=>?_) rfl rfl;refine Af [] rfl rfl I ⟨rfl,by simp,by simp⟩ rfl trivial ?_;rintro P F G ⟨rfl,rfl,rfl⟩ _);(repeat ((refine R.Ag rfl ?_;first|refine R.yA rfl rfl rfl rfl ?_|refine R.CO (λ_ _ _=>AP rfl rfl (by rfl) (by rfl)) rfl rfl ?_ )));refine R.NZ ?_;apply aB
 have Q:∀x:A9,Bx L (Bg al) x=none\/∃w,Bx L (Bg al) x=some w:=λx=>by cases Bx L (Bg al) x<;>simp
 refine Aj.BC (α:={p:Nat×A9 // p.1<=13/\13<=p.1+p.2.rows.length/\Gb al (20000+p.2.rows.length) p.2/\BJ L (Bg al) 13 t=BJ L (Bg al) p.1 p.2/\∀y∈Ep L (Bg al) p.1 p.2,HQ ok (Bg al) y}) (λ⟨⟨m,u⟩,B,f,j,q,e⟩=>[(2,.o (.ptr 0 2 0 0)),(4,.o (.ptr 1 2 0 0)),(6,.o (.ptr 4 2 0 0))]) (λ⟨⟨m,u⟩,B,f,j,q,e⟩=>[(0,.cells 102 2 [[.d (iD al),c]]),(1,.cells 109 2 [[.d (.l []),.d (.l [])]]),(2,.cells 9 1 (u.rows.map ED)),(3,.cells 9 1 (u.cols.map ED)),(4,.cells 109 2 [[.arr 2 1 0 u.rows.length,.arr 3 1 0 u.cols.length]])]) 5 (λ⟨⟨m,u⟩,B,f,j,q,e⟩=>m) (⟨(13,t),by simp,by simp,⟨λw N=>⟨(ht.onR w N).1,by have:=(ht.onR w N).2;omega⟩,ht.onC,ht.rl,ht.cl⟩,rfl,Y⟩) [0,1,2,3,4] (GX b rfl rfl) (by (simp[cX,zC,b,v,eC,Ab.A3,BW,HO,Bt,Ae])) ?_;rintro⟨⟨m,u⟩,B,f,j,q,e⟩;(try dsimp only);dsimp only at B f j q e
 have s:∀l:List W,((l.map ED).drop 0).take l.length=(l.map FX).map (λr=>r.map C.d):=λl=>by rw[mD,lF (by simp)];simp[d7]
 have T:=j.rl;have U:=j.cl;have n:=j.eo (e u TZ) (by omega);have g:=Qz (TB:=TB) K al u n.1 n.2
 have A:ga [(0,.cells 102 2 [[.d (iD al),c]]),(1,.cells 109 2 [[.d (.l []),.d (.l [])]]),(2,.cells 9 1 (u.rows.map ED)),(3,.cells 9 1 (u.cols.map ED)),(4,.cells 109 2 [[.arr 2 1 0 u.rows.length,.arr 3 1 0 u.cols.length]])] [.a [.d (iD al),c],.a [.arr 2 1 0 u.rows.length,.arr 3 1 0 u.cols.length]] [HW al c,HX u]:=
  .cons (.cons (.pure rfl) (.cons (.pure K.BY) .nil)) (.cons (.cons (.arr rfl (by simp) (s _)) (.cons (.arr rfl (by simp) (s _)) .nil)) .nil)
 apply aB
 rcases Q u with k|⟨w,k⟩
 ·rw [k]at g
  (repeat first|refine tM rfl ?_|refine s2 rfl λ_ h=>?_|(refine Ag rfl ?_;refine gA rfl ?_;first|refine gQ (Kx rfl rfl (A) (g) rfl) rfl ?_)|refine aU rfl ?_|apply Aa);(refine aC rfl ?_ ?_<;>rintro⟨⟩)
  ·(repeat first|refine tM rfl ?_|refine aU rfl ?_|apply Aa)
   have z:BJ L (Bg al) 13 t=some u:=by
    rw[q]
    obtain⟨m',rfl⟩:∃m',m=m'+1:=⟨m-1,by omega⟩
    simp[BJ,k]
   refine Aj.names [1,2,3] [(4,.o (.ptr 0 2 0 0)),(5,eB true)] [(0,.cells 109 2 [[.arr 1 1 0 u.rows.length,.arr 2 1 0 u.cols.length]]),(1,.cells 9 1 (u.rows.map ED)),(2,.cells 9 1 (u.cols.map ED))] (by intro i hi;rw[b]at hi;omega) (by simp) (by simp[cX,zC,b,HO]) (by simp[cX,zC,b,HO,Ab.A3,BW,Bt,eC,Ae]) ?_;refine Aj.MV [1,2] [(4,.o (.ptr 0 2 0 0)),(5,eB true)] [(0,.cells 109 2 [[.d (CE u.rows),.d (CE u.cols)]])] ⟨⟨_,rfl,.AR⟩,⟨_,rfl,.AR⟩,trivial⟩ ⟨⟨_,rfl,by simp,.cons (.full (by simp) rfl (by simp[d7]) (by simp)) (.cons (.full (by simp) rfl (by simp[d7]) (by simp)) .nil)⟩,trivial⟩ ?_;refine Aj.freeze [0] [(4,.o (.ip [CE u.rows,CE u.cols])),(5,eB true)] ⟨⟨_,rfl,.o (.ptr (by simp) rfl rfl rfl)⟩,⟨_,rfl,.AR⟩,trivial⟩ ?_;refine aR ⟨_,rfl,?_⟩;rw[z];rfl
  ·simp at h
 ·rw [k]at g
  (repeat first|refine tM rfl ?_|refine s2 rfl λ_ h=>?_|(refine Ag rfl ?_;refine gA rfl ?_;first|refine gQ (Kx rfl rfl (A) (g) rfl) rfl ?_)|refine aU rfl ?_|apply Aa);(refine aC rfl ?_ ?_<;>rintro⟨⟩)
  ·simp at h
  ·apply aK
   (repeat first|refine tM rfl ?_|refine s2 rfl λ_ h=>?_|refine aU rfl ?_|apply Aa);(refine aC rfl ?_ ?_<;>rintro⟨⟩)
   ·(repeat first|refine tM rfl ?_|(refine Ag rfl ?_;refine gA rfl ?_;first|refine gS (λ_ _=>AP rfl rfl (by rfl) (by rfl)) ?_)|refine aU rfl ?_|apply Aa)
    have z:BJ L (Bg al) 13 t=none:=by
     have M:u.rows.length=12:=by (simp only[oZ] at *;omega)
     rw[q]
     obtain⟨m',rfl⟩:∃m',m=m'+1:=⟨m-1,by omega⟩
     simp[BJ,k,M]
    refine Aj.freeze [1] [(4,.o (.ip [.l [],.l []])),(5,eB false)] ⟨⟨_,rfl,.o (.ptr (by simp) rfl rfl rfl)⟩,⟨_,rfl,.AR⟩,trivial⟩ ?_;refine aR ⟨_,rfl,?_⟩;rw[z];rfl
   ·apply aK
    have H:u.rows.length<12:=by (simp only[oZ] at *;omega)
    obtain⟨m',rfl⟩:∃m',m=m'+1:=⟨m-1,by omega⟩
    have z:BJ L (Bg al) 13 t=BJ L (Bg al) m' ⟨u.rows++[w],u.cols⟩:=by
     rw[q]
     conv=>lhs;unfold BJ
     rw[k];dsimp only;rw[if_neg (by omega)]
    have X:=j.push k H;(repeat first|refine tA rfl ?_|refine aU rfl ?_);(refine pW rfl ?_ rfl (by rfl);refine Al rfl rfl rfl (by first|(simp;done)|(simp;(omega))) rfl (by intro r v;simp at v;subst v;rfl) (by rfl) (ce rfl) (by simp;omega) ?_);(repeat first|refine tM rfl ?_|apply Aa);refine⟨⟨⟨m',⟨u.rows++[w],u.cols⟩⟩,by dsimp only;omega,by simp;omega,by simpa[l8]using X,z,λy S=>e y (by unfold Ep;rw[k];dsimp only;rw[if_neg (by omega)];exact lU _ S)⟩,by dsimp only;(omega),[0,1,5,3,4],?_⟩;simp[cX,zC,b,v,eC,Ab.A3,BW,HO,Bt,Ae]
def BU:A9:=⟨[[]],[[]]⟩
theorem IT(al:Int):Gb al 20000 BU:=by
 refine⟨λw a=>?_,λw a=>?_,by decide,by decide⟩<;>(simp[BU]at a;subst a;exact⟨λc b=>by simp at b,by simp⟩)
theorem QU{c:C}{L:W->Bool}{ok:W->Prop}(b:IY Tryz.prog TB c L ok)(al:Int)(e:∀y∈Ep L (Bg al) 13 BU,HQ ok (Bg al) y) :
 Pure Tryz.prog TB 67 [HW al c] (Vt (BJ L (Bg al) 13 BU)):=by
 have f:=EA c b.BY;have h:=HU b al BU e (IT al);refine AH.GB (AH.ofM 2 (i9 _) Tryz.func67 rfl rfl (by kernel_rfl) (ce rfl) ?_);intro Γ d;generalize BJ L (Bg al) 13 BU=o at h |-;(repeat first|refine aU rfl ?_);(refine pW rfl ?_ rfl (by rfl);refine CY rfl rfl ?_);(repeat first|refine tM rfl ?_|refine aU rfl ?_|apply Aa)
 have a:([HW al c,HX BU].all E.BY && C.C7 [])=true:=by simp[HW,HX,E.BY,C.C7,C.BY,b.BY]
 cases o with
 | none=>
  (repeat first|refine tA rfl ?_|(refine Ag rfl ?_;refine gA rfl ?_;first|refine gS (λ_ _=>Be rfl rfl a h rfl) ?_|refine gS (λ_ _=>AP rfl rfl (by rfl) (by rfl)) ?_)|apply Aa);refine Aj.freeze [1] [(2,.o (.ip [.l [],.l []])),(3,eB false)] ⟨⟨_,rfl,.o (.ptr (by simp) rfl rfl rfl)⟩,⟨_,rfl,.AR⟩,trivial⟩ ?_;refine aR ⟨_,rfl,?_⟩;rfl
 | some u=>
  (repeat first|refine tA rfl ?_|(refine Ag rfl ?_;refine gA rfl ?_;first|refine gS (λ_ _=>Be rfl rfl a h rfl) ?_|refine gS (λ_ _=>AP rfl rfl (by rfl) (by rfl)) ?_)|apply Aa);refine Aj.freeze [1] [(2,.o (.ip [CE u.rows,CE u.cols])),(3,eB true)] ⟨⟨_,rfl,.o (.ptr (by simp) rfl rfl rfl)⟩,⟨_,rfl,.AR⟩,trivial⟩ ?_;refine aR ⟨_,rfl,?_⟩;rfl
def Bm(L:W->Bool)(al:Int)(t:A9):A5:=⟨al,t.rows.map λr=>(Ac al).map λl=>((DN L t (r++[lb l]):Nat):Int),t.rows.map L⟩
theorem Sw{L:W->Bool}{al:Int}{t:A9}(b:Bx L (Bg al) t=none){r:W}(a:r∈t.rows){l:Int}(d:l∈Ac al) :
 (CB (BP L t t.rows.length) (marks L t.cols (r++[lb l]))).getD 0=((DN L t (r++[lb l]):Nat):Int):=by
 have c:marks L t.cols (r++[lb l])∈AW L t:=by
  have:=nG.1 b (r++[lb l]) (by
   unfold C4
   exact mL.2 ⟨r,a,d8.2 ⟨lb l,d8.2 ⟨l,d,rfl⟩,rfl⟩⟩)
  simpa using this
 rw[SB,if_pos c];rfl
theorem O4{c:C}{L:W->Bool}{ok:W->Prop}(u:IY Tryz.prog TB c L ok)(al:Int)(t:A9)(J:HQ ok (Bg al) t)(ht:Gb al 20012 t)(S:Bx L (Bg al) t=none) :
 Pure Tryz.prog TB 68 [HW al c,HX t] (Bp (Bm L al t)):=by
 have a:=EA c u.BY;have Q:=ht.rl;have Y:=ht.cl;have V:(Ac al).length<=6:=AQ al 6;have h:=ht.eo J (by omega)
 have T:(Bm L al t).nx.length=t.rows.length:=by simp[Bm]
 have hal:(Bm L al t).ac.length=t.rows.length:=by simp[Bm]
 refine AH.GB (AH.ofM 3 (i9 _) Tryz.func68 rfl rfl (by kernel_rfl) (ce rfl) ?_);intro Γ e;(repeat first|refine aU rfl ?_);(refine pW rfl ?_ rfl (by rfl);refine CY rfl rfl ?_);(refine Ag rfl ?_;refine CO (λ_ _=>Ec rfl rfl rfl) rfl ?_);(repeat first|refine tA rfl ?_|refine aU rfl ?_|apply Aa);(refine pW rfl ?_ rfl (by rfl);refine Af [] rfl rfl (Gz u al t h.1) ⟨rfl,by simp,by simp⟩ (by simp[Ey,E.A3,C.Ch,C.A3,a,eC]) trivial ?_;rintro Z K M ⟨rfl,rfl,rfl⟩ _);(repeat first|refine tA rfl ?_|refine aU rfl ?_|apply Aa);(refine pW rfl ?_ rfl (by rfl);refine Ly 1 1 63 2 1 4 rfl rfl (by decide) rfl rfl (by rfl) (by rfl) ?_);(repeat first|refine sN rfl ?_|refine tA rfl ?_|refine aU rfl ?_|apply Aa);apply aB;refine Aj.BC (α:={k:Nat // k<=t.rows.length}) (λ⟨k,m⟩=>[(2,.o (.ptr 0 2 0 0)),(3,.o (.ip (Tl t))),(4,.o (.ptr 1 3 0 0)),(5,.o (.mp 2)),(6,.o (.ptr 3 3 0 0)),(19,.o (.d (CE t.rows))),(20,eI .i64 t.rows.length),(21,eI .i64 k)]) (λ⟨k,m⟩=>[(0,.cells 102 2 [[.d (iD al),c]]),(1,.cells 29 3 [[.d (iD 0),.d (.l []),.d (.l [])]]),(2,.mp (HN (BP L t t.rows.length))),(3,.cells 29 3 [[.d (iD al),.arr 4 1 0 k,.arr 5 1 0 k]]),(4,.cells 63 1 (((Bm L al t).nx.take k).map λr=>[.d (HH r)])),(5,.cells 4 1 (((Bm L al t).ac.take k).map λb=>[.d (bD b)]))]) 6 (λ⟨k,m⟩=>t.rows.length-k) (⟨0,by omega⟩) [0,1,2,5,3,4] (GX e rfl rfl) (by (simp[cX,zC,e,a,eC,Ab.A3,BW,HO,Bt,Ae])) ?_;rintro⟨k,m⟩;(try dsimp only);(repeat first|refine s2 rfl λ_ I=>?_|refine aU rfl ?_|apply Aa);(refine aC rfl ?_ ?_<;>rintro⟨⟩)
 ·have B:k<t.rows.length:=by (simp only[oZ] at *;omega)
  obtain⟨r,p⟩:=get_some (l:=t.rows) (k:=k) B;have P:=get_map (g:=FX) p;have f:=co p;apply aK;refine aS (aB ?_);(repeat first|refine tM rfl ?_|(refine s4 rfl ‹_› rfl ?_ ?_;omega)|refine aU rfl ?_|apply Aa);(refine pW rfl ?_ rfl (by rfl);refine Gl 1 3 ?_);(repeat first|refine sN rfl ?_|refine tM rfl ?_|refine sP rfl (Cj al) rfl ?_|refine aU rfl ?_|apply Aa);apply aB;refine Aj.BC (α:={j:Nat // j<=(Ac al).length}) (λ⟨j,n⟩=>[(2,.o (.ptr 0 2 0 0)),(3,.o (.ip (Tl t))),(4,.o (.ptr 1 3 0 0)),(5,.o (.mp 2)),(6,.o (.ptr 3 3 0 0)),(19,.o (.d (CE t.rows))),(20,eI .i64 t.rows.length),(21,eI .i64 k),(8,eT r),(9,.o (.arr 6 1 0 j)),(27,AX (Ac al)),(28,eI .i64 (Ac al).length),(29,eI .i64 j)]) (λ⟨j,n⟩=>[(0,.cells 102 2 [[.d (iD al),c]]),(1,.cells 29 3 [[.d (iD 0),.d (.l []),.d (.l [])]]),(2,.mp (HN (BP L t t.rows.length))),(3,.cells 29 3 [[.d (iD al),.arr 4 1 0 k,.arr 5 1 0 k]]),(4,.cells 63 1 (((Bm L al t).nx.take k).map λr=>[.d (HH r)])),(5,.cells 4 1 (((Bm L al t).ac.take k).map λb=>[.d (bD b)])),(6,.cells 3 1 (((Ac al).take j).map λl=>[.d (iD ((DN L t (r++[lb l]):Nat):Int))]))]) 7 (λ⟨j,n⟩=>(Ac al).length-j) (⟨0,by omega⟩) [0,1,2,3,4,5,6] (GX e rfl rfl) (by (simp[cX,zC,e,a,eC,Ab.A3,BW,HO])) ?_;rintro⟨j,n⟩;(try dsimp only);(repeat first|refine s2 rfl λ_ I=>?_|refine aU rfl ?_|apply Aa);(refine aC rfl ?_ ?_<;>rintro⟨⟩)
  ·have s:j<(Ac al).length:=by (simp only[oZ] at *;omega)
   obtain⟨l,G⟩:=get_some (l:=Ac al) (k:=j) s;have X:=get_map (g:=DJ) G;have i:=co G;have q:=Ai i;have R:=ht.onR r f;have U:=Kl (TB:=TB) u al t (r++[lb l]) (by omega) (λx p=>h.2 r f _ (d8.2 ⟨l,i,rfl⟩) x p) (λy N=>by have:=(ht.onC y N).2;simp;omega);have F:=Sw S f i;apply aK;refine aS (aB ?_);(repeat first|refine tA rfl ?_|(refine s4 rfl ‹_› rfl ?_ ?_;omega)|refine aU rfl ?_|apply Aa);refine rG (Hf [13]) (by kernel_rfl) ?_;(repeat first|(refine sA rfl ?_ ?_;first|exact tI|omega|simp only[oZ] at *;omega)|refine sP rfl (ET l q.1 (by omega)) rfl ?_|(refine Ag rfl ?_;refine gA rfl ?_;first|refine gS (λ_ _=>Uw rfl (by omega) (by omega)) ?_));rw[Zk q.1];(repeat first|(refine Ag rfl ?_;refine gA rfl ?_;first|refine gS (λ_ _=>Be rfl rfl (by simp[E.BY,C.C7,C.BY,u.BY]) U rfl) ?_|refine gQ (VT rfl rfl rfl) (by rfl) ?_));(repeat first|refine tA rfl ?_);(refine pW rfl ?_ rfl (by rfl);refine Al rfl rfl rfl (by first|(simp;done)|(simp;(omega))) rfl (by intro r a;simp at a;subst a;rfl) (by rfl) (ce rfl) (by simp;omega) ?_);(repeat first|(refine sA rfl ?_ ?_;first|exact tI|omega)|refine aU rfl ?_|apply Aa);rw[F];refine⟨⟨j+1,by omega⟩,by dsimp only;(omega),[0,1,2,3,4,5,7],?_⟩;simp[cX,zC,e,a,gt,G]
  ·obtain rfl:j=(Ac al).length:=by (simp only[oZ] at *;omega)
   have z:=J r ⟨r,f,[],.inl rfl,[],.inl rfl,by simp⟩
   have A:(Bm L al t).nx.take (k+1)=(Bm L al t).nx.take k++[(Ac al).map λl=>((DN L t (r++[lb l]):Nat):Int)]:=by
    rw[gt];simp[Bm,p]
   have H:(Bm L al t).ac.take (k+1)=(Bm L al t).ac.take k++[L r]:=by
    rw[gt];simp[Bm,p]
   apply aE;rw[jp];refine Aj.bZ [6] [2,3,4,5,6,8,19,20,21] rfl [(9,AX ((Ac al).map λl=>((DN L t (r++[lb l]):Nat):Int)))] ⟨⟨_,rfl,.o (.full (by simp) rfl (by simp[d7]) (by simp))⟩,trivial⟩ ?_;(try dsimp only[cA,cB]);(repeat first|refine tA rfl ?_|refine aU rfl ?_);(refine pW rfl ?_ rfl (by rfl);refine Al rfl rfl rfl (by first|(simp;done)|(simp;(omega))) rfl (by intro r a;simp at a;subst a;rfl) (by rfl) (ce rfl) (by simp;omega) ?_);(repeat first|refine tA rfl ?_|apply Aa);refine rG (Hf [7,9]) (by kernel_rfl) ?_;(repeat first|refine tA rfl ?_|(refine Ag rfl ?_;refine gA rfl ?_;first|refine gS (λ_ _=>u.ask rfl rfl z) ?_));(refine pW rfl ?_ rfl (by rfl);refine Al rfl rfl rfl (by first|(simp;done)|(simp;(omega))) rfl (by intro r a;simp at a;subst a;rfl) (by rfl) (ce rfl) (by simp;omega) ?_);(repeat first|(refine sA rfl ?_ ?_;first|exact tI|omega)|refine aU rfl ?_|apply Aa);refine⟨⟨k+1,by omega⟩,by dsimp only;(omega),[0,1,2,3,7,8],?_⟩;simp[cX,zC,e,a,eC,Ab.A3,BW,HO,Bt,Ae,A,H]
 ·obtain rfl:k=t.rows.length:=by (simp only[oZ] at *;omega)
  have w:(Bm L al t).nx.take t.rows.length=(Bm L al t).nx:=lF (by simp[Bm]);have v:(Bm L al t).ac.take t.rows.length=(Bm L al t).ac:=lF (by simp[Bm]);rw[w,v];apply aE;(repeat first|refine tM rfl ?_|refine aU rfl ?_|apply Aa);refine Aj.settle [(4,.o (.ip [iD al,Er (Bm L al t).nx,GK (Bm L al t).ac]))] ⟨⟨_,rfl,.o (.box rfl (.cons .d (.cons (.full rfl (by simp[d7]) (by simp[Bm])) (.cons (.full rfl (by simp[d7]) (by simp[Bm])) .nil))))⟩,trivial⟩ ?_;refine aR ⟨_,rfl,rfl⟩
end Go.Am
namespace Go.Am
theorem QK{al:Int}{l:Int}(h:l∈Ac al):lb l∈Bg al:=d8.2 ⟨l,h,rfl⟩
theorem Vm{L:W->Bool}{al:Int}{t:A9}(hal:Bn al=true)(h:BZ L (Bg al) t)(b:t.rows.length<=12):AJ (Bm L al t)=true:=by
 have j:0<t.rows.length:=(am.1 h.r0).1;unfold AJ;simp only[d4,decide_eq_true_eq,ge];refine⟨⟨⟨hal,by simp[Bm];omega⟩,by simp[Bm]⟩,λrow a=>?_⟩;simp only[Bm,d8]at a;obtain⟨r,b,rfl⟩:=a;unfold Ft;simp only[d4,decide_eq_true_eq,ge];refine⟨by simp[Bm],λy c=>?_⟩;obtain⟨l,d,rfl⟩:=d8.1 c;obtain⟨i,hi,e⟩:=lO b;obtain⟨r',g,_⟩:=h.idx (i:=i) (r:=r) (by rw[d5 hi,e]) (QK d);have f:=(am.1 g).1;unfold Rz;simp[Bm];exact f
theorem NK{L:W->Bool}{al:Int}{t:A9}{q:Nat}{c:UInt8}(e:q<t.rows.length)(g:c∈Bg al):CN (Bm L al t) q ((c.toNat:Int)-97)=((DN L t (t.rows.getD q []++[c]):Nat):Int):=by
 obtain⟨l,a,rfl⟩:=d8.1 g;have d:=Ai a;rw[Lu d.1 (by omega)];obtain⟨k,hk,f⟩:=lO a
 have b:(AK al 6)[k]?=some l:=by rw[d5 hk,f]
 have m:=Jg b;unfold CN;have j:AT (Bm L al t).al l.toNat=true:=d.2.2;rw[if_pos j];have i:(AK (Bm L al t).al l.toNat).length=k:=m;rw[i]
 have h:(Bm L al t).nx.getD q []=(Ac al).map λl=>((DN L t (t.rows.getD q []++[lb l]):Nat):Int):=by
  simp[Bm,List.getD,e]
 rw[h];simp[List.getD,b]
theorem P0{L:W->Bool}{al:Int}{t:A9}(h:BZ L (Bg al) t):∀(w:W) (q:Nat),AO (Bg al) w->q<t.rows.length->Pj (Bm L al t) q w=((runM L t q w:Nat):Int)
 | [],q,_,_=>rfl
 | c::w,q,a,b=>by
  have f:t.rows[q]?=some t.rows[q]:=d5 b;have d:=a c (by simp);obtain⟨_,j,_⟩:=h.idx f d
  have i:t.rows.getD q []=t.rows[q]:=by simp[f]
  have e:=(am.1 j).1
  show Pj (Bm L al t) (CN (Bm L al t) ((q:Int)).toNat ((c.toNat:Int)-97)) w=_
  rw[i7,NK b d];rw[<-i]at e;exact P0 h w _ (λx g=>a x (by simp[g])) e
theorem UX{L:W->Bool}{al:Int}{t:A9}(h:BZ L (Bg al) t){w:W}(a:AO (Bg al) w):LA (Bm L al t) w=O3 L t w:=by
 have c:0<t.rows.length:=(am.1 h.r0).1;have d:=h.run w 0 a c;unfold LA O3;have b:=P0 h w 0 a c;rw[show ((0:Nat):Int)=0 from rfl]at b;rw[b,i7];simp[Bm,List.getD,d]
section
variable {α:Type}[DecidableEq α]
def Dc{α:Type}(f:α->Int->α):α->List Int->α
 | q,[]=>q
 | q,l::w=>Dc f (f q l) w
theorem KA{α:Type}(f:α->Int->α):∀(u w:List Int) (q:α),Dc f q (u++w)=Dc f (Dc f q u) w
 | [],_,_=>rfl
 | l::u,w,q=>KA f u w _
structure Part (f:α->Int->α) (ls:List Int) (s:α) (nd:List α) (rows:List (List Int)) (lim:Nat):Prop where
 st:nd[0]?=some s
 nodup:nd.Nodup
 len:rows.length<=nd.length
 lim:nd.length<=lim
 row:∀(i:Nat) (r:List Int),rows[i]?=some r->∃q,nd[i]?=some q/\r=ls.map (λl=>((nd.idxOf (f q l):Nat):Int))/\∀l∈ls,f q l∈nd
 rc:∀q∈nd,∃w:List Int,(∀l∈w,l∈ls)/\Dc f s w=q
structure k8 (f:α->Int->α) (ls:List Int) (s:α) (nd:List α) (rows:List (List Int)):Prop where
 st:nd[0]?=some s
 nodup:nd.Nodup
 len:rows.length=nd.length
 row:∀(i:Nat) (q:α),nd[i]?=some q->rows[i]?=some (ls.map λl=>((nd.idxOf (f q l):Nat):Int))
 cl:∀q∈nd,∀l∈ls,f q l∈nd
 rc:∀q∈nd,∃w:List Int,(∀l∈w,l∈ls)/\Dc f s w=q
end
section
variable {α β:Type}[DecidableEq α][DecidableEq β]
end
end Go.Am
namespace Go.Am
open Go
theorem IN{g:Gr}:∀ {u v:List Int} {a x:Int},reach g (u++v) a x↔∃y,reach g u a y/\reach g v y x
 | [],v,a,x=>⟨λh=>⟨a,rfl,h⟩,λ⟨y,c,b⟩=>by cases c;exact b⟩
 | l :: u,v,a,x=>by
  simp only[mK,reach];constructor
  ·rintro⟨y,d,h⟩
   obtain⟨z,c,b⟩:=IN.1 h;exact⟨z,⟨y,d,c⟩,b⟩
  ·rintro⟨z,⟨y,d,c⟩,b⟩
   exact⟨y,d,IN.2 ⟨z,c,b⟩⟩
theorem ft(n:Nat)(f:Nat->Int)(h:∀i,i<=n->0<=f i/\f i<n):∃i j,i<j/\j<=n/\f i=f j:=by
 apply Classical.byContradiction;intro hno
 have g:((List.range (n+1)).map λi=>(f i).toNat).Nodup:=by
  unfold List.Nodup;rw[mR];refine List.pairwise_lt_range.imp_of_mem λ{a b} ha hb c k=>hno ⟨a,b,c,?_,?_⟩
  ·have:=lS.1 hb;omega
  ·have d:=h a (by have:=lS.1 ha;omega)
   have l:=h b (by have:=lS.1 hb;omega);omega
 have d:=SA n _ g λx e=>by
  obtain⟨i,hi,rfl⟩:=d8.1 e;have:=h i (by have:=lS.1 hi;omega);omega
 simp at d;omega
theorem CQ.short{g:Gr}(hg:KZ g){w:List Int}(h:CQ g (some w)):w.length<g.N:=by
 obtain⟨e,⟨x,n,c⟩,q⟩:=h;apply Classical.byContradiction;intro m;have b:∀k,∃y,reach g (w.take k) g.s0 y/\reach g (w.drop k) y x:=λk=>IN.1 (by rw[mx];exact n);obtain⟨f,d⟩:=Classical.axiomOfChoice b;obtain⟨i,j,o,r,p⟩:=ft g.N f λi _=>Fb hg (λl a=>e l (ma a)) hg.s0 (d i).1;refine q (w.take i++w.drop j) (λl a=>?_) ⟨x,IN.2 ⟨f i,(d i).1,p▸(d j).2⟩,c⟩ (.inl ?_)
 ·rcases f6.1 a with a|a
  ·exact e l (ma a)
  ·exact e l (mY a)
 ·simp;omega
theorem bt{al:Int}:∀ {w:List Int},(∀l∈w,l∈Ac al)->AO (Bg al) (DD w):=λ{w} h c b=>by
 obtain⟨l,a,rfl⟩:=d8.1 b;exact QK (h l a)
theorem fq{al:Int}{w:W}(h:AO (Bg al) w):∃v:List Int,(∀l∈v,l∈Ac al)/\DD v=w:=by
 induction w with
 | nil=>exact⟨[],by simp,rfl⟩
 | cons c w b=>
  obtain⟨v,e,g⟩:=b λx d=>h x (by simp[d]);obtain⟨l,f,rfl⟩:=d8.1 (h c (by simp))
  exact⟨l::v,λm a=>by
   rcases lJ.1 a with rfl|a
   ·exact f
   ·exact e m a,by rw[<-g];rfl⟩
theorem P9(L:W->Bool)(ls:List UInt8):TOk L ls BU:=by
 refine⟨rfl,rfl,λi w hi d=>?_,λw a=>?_,λw a=>?_,by simp[AW,BU],by simp[BU]⟩
 ·have:=(am.1 hi).1
  simp[BU]at this;omega
 ·simp[BU]at a;subst a;exact λc b=>(by cases b)
 ·simp[BU]at a;subst a;exact λc b=>(by cases b)
theorem TOk.short{L:W->Bool}{ls:List UInt8}{t:A9}(h:TOk L ls t):∀(i:Nat) w,t.rows[i]?=some w->w.length<=i:=by
 intro i
 induction i using Nat.strongRecOn with
 | _ i c=>
  intro w a
  rcases mn i with b|b
  ·subst b
   rw[h.r0]at a
   injection a with a
   subst a;simp
  ·obtain⟨f,j,d,e⟩:=h.pre i w a b
   have:=c j d _ e;simp at this;omega
theorem NM{a b:Nat}(ha:a<2 ^ 62)(hb:b<2 ^ 62):I7 .i64 a b=((a &&& b:Nat):Int):=by
 have d:a &&& b<=a:=oR;unfold I7
 have c:(BitVec.ofInt IntKind.i64.bits (a:Int) &&& BitVec.ofInt IntKind.i64.bits (b:Int)).toNat=a &&& b:=by
  have e:IntKind.i64.bits=64:=rfl;rw[e];simp only[BitVec.toNat_and,BitVec.ofInt_natCast,BitVec.toNat_ofNat];rw[lZ (by omega),lZ (by omega)]
 rw[c];exact IntWalk.i64_in _ (by omega)
theorem YT(s n:Nat):((s:Nat):Int).fdiv (2 ^ n)=((s / 2 ^ n:Nat):Int):=by
 have h:(0:Int)<=2 ^ n:=Int.le_of_lt (Int.pow_pos (by omega));rw[Int.fdiv_eq_ediv_of_nonneg _ h]
 push_cast
 rfl
theorem EW{s n:Nat}(hs:s<2 ^ 62)(d:n<64):AT (s:Nat) n=s.testBit n:=by
 unfold AT
 have e:min n 64=n:=by omega
 rw[e,YT];have f:s / 2 ^ n<=s:=Nat.div_le_self _ _;have c:=NM (a:=s / 2 ^ n) (b:=1) (by omega) (by omega);rw[show ((1:Nat):Int)=1 from rfl]at c;rw[c,oJ,Nat.and_one_is_mod];congr 1;rw[eq_iff_iff];omega
abbrev Wd:=List UInt8
def MG(c:UInt8):Bool:=decide (97<=c.toNat/\c.toNat<103)
def Pa(al:Int)(c:UInt8):Bool:=MG c && AT al (c.toNat-97)
def within(w:Wd)(al:Int):Bool:=decide (w.length<=50000) && (Bn al && w.all (Pa al))
end Go.Am
namespace Go.Am
open Go Go.Proofs
set_option maxHeartbeats 1000000
set_option maxRecDepth 4000
attribute [local irreducible] A1 Cr Lex Bs Aj Spec
variable {TB:BA}
theorem Gk(w:W)(i:Nat)(c:UInt8)(e:w[((i:Nat):Int).toNat]?=some c)(d:0<=(c.toNat:Int)-97/\(c.toNat:Int)-97<6):Pure Tryz.prog TB 128 [eT w,eI .i64 i] (eI .i64 ((c.toNat:Int)-97)):=by
 refine eN Tryz.func128 rfl (by kernel_rfl) rfl ?_;intro Γ a;(repeat' first|(refine sA rfl ?_ ?_;first|exact tI|omega)|(refine s4 rfl ‹_› rfl ?_ ?_;omega)|refine s2 rfl λ_ b=>?_|refine s3 rfl ?_ ?_<;>rintro rfl|refine aU rfl ?_|apply Aa|(refine aC rfl ?_ ?_<;>rintro⟨⟩)|apply aK|apply aE|apply aB|refine aR ⟨_,rfl,?_⟩)
 all_goals first
  | rfl
  | (exfalso;grind)
abbrev jh(kn:Bool)(p:A5)(s:Sys)(q:A5)(al:Int):List D:=[bD kn,iD p.al,Er p.nx,GK p.ac,iD s.al,iD s.st,DY s.es,iD q.al,Er q.nx,GK q.ac,iD al]
theorem QY{ls:List UInt8}{w:W}(h:AO ls w)(k:Nat):AO ls (w.take k):=λc a=>h c (ma a)
theorem cR{ls:List UInt8}{w:W}(h:AO ls w)(k:Nat):AO ls (w.drop k):=λc a=>h c (mY a)
theorem P5{L:W->Bool}{t:A9}{w:W}{k:Nat}{c:UInt8}(a:w[k]?=some c)(q:Nat):runM L t q (w.take (k+1))=DN L t (t.rows.getD (runM L t q (w.take k)) []++[c]):=by
 rw[gt,a,SV];rfl
def Dd(L:W->Bool)(t:A9)(w:W):Option W:=if O3 L t w=L w then none else splitAt L t (L w) 0 w
theorem Ry{L:W->Bool}{t:A9}{b:Bool}{w:W}{k q:Nat}{c:UInt8}(a:w[k]?=some c):splitAt L t b q (w.drop k)=if L (t.rows.getD (DN L t (t.rows.getD q []++[c])) []++w.drop (k+1))≠b then some (w.drop (k+1)) else splitAt L t b (DN L t (t.rows.getD q []++[c])) (w.drop (k+1)):=by
 rw[BE a,splitAt]
def Vl(t:A9)(w v:W):Prop:=∃r,(r=[]\/r∈t.rows)/\∃k:Nat,v=r++w.drop k
theorem Pk{c:C}{L:W->Bool}{ok:W->Prop}(I:IY Tryz.prog TB c L ok)(al:Int)(t:A9)(hf:HQ ok (Bg al) t)(ht:Gb al 20012 t)(hal:Bn al=true)(n:BZ L (Bg al) t)(ho:Bx L (Bg al) t=none)(w:W)(H:∀v,Vl t w v->ok v)(z:AO (Bg al) w)(hwl:w.length<=20000) :
 Pure Tryz.prog TB 134 [HW al c,HX t,eT w] (g8 (Dd L t w)):=by
 have M:=EA c I.BY;have Q:=ht.rl;have U:=O4 (TB:=TB) I al t hf ht ho;have J:=Vm hal n Q;have N:=ER (TB:=TB) (Bm L al t) J
 have hnl:(Bm L al t).nx.length=t.rows.length:=by simp[Bm]
 have V:0<t.rows.length:=(am.1 n.r0).1;have B:=H w ⟨[],.inl rfl,0,rfl⟩
 have S:([HW al c,HX t].all E.BY && C.C7 [])=true:=by simp[E.BY,C.C7,C.BY,I.BY]
 refine eN Tryz.func134 rfl (by kernel_rfl) rfl ?_;intro Γ e;(repeat first|refine aU rfl ?_);(refine pW rfl ?_ rfl (by rfl);refine CY rfl rfl ?_);(refine Ag rfl ?_;refine CO (λ_ _=>Ec rfl rfl rfl) rfl ?_);(repeat first|refine tA rfl ?_|refine aU rfl ?_|apply Aa);(repeat first|refine tA rfl ?_|(refine Ag rfl ?_;refine gA rfl ?_;first|refine gS (λ_ _=>Be rfl rfl S U rfl) ?_)|refine aU rfl ?_|apply Aa);(repeat first|refine tA rfl ?_|refine sP rfl (N) rfl ?_|refine aU rfl ?_|apply Aa);apply aB;refine aL (α:={k:Nat // k<=w.length}) [2,3,4,8,9,20] [0,1] rfl rfl (λ⟨k,hk⟩=>[(10,eI .i64 (runM L t 0 (w.take k):Nat)),(21,eI .i64 k)]) (λ⟨k,hk⟩=>[]) 2 (λ⟨k,hk⟩=>w.length-k) (⟨0,by omega⟩) e rfl (by (simp[cX,zC,e,M]<;>rfl)) ?_;rintro⟨k,hk⟩;(try dsimp only[cA,cB]);have r:=n.run (w.take k) 0 (QY z k) V;by_cases u:k<w.length
 ·obtain⟨o,d⟩:=get_some u
  have y:w[((k:Nat):Int).toNat]?=some o:=by simpa using d
  have m:=z o (co d);have j:=QL m;have x:=Gk (TB:=TB) w k o y j;have ta:=KH (a:=Bm L al t) (q:=(((runM L t 0 (w.take k):Nat):Int)).toNat) (by omega)
  have el:((((o.toNat:Int)-97).toNat:Nat):Int)=(o.toNat:Int)-97:=by omega
  have ra:=Im (h:=λl=>CN (Bm L al t) (((runM L t 0 (w.take k):Nat):Int)).toNat l) j.1 (by omega);simp only[el]at ra;have f:=NK (L:=L) (al:=al) (t:=t) (q:=runM L t 0 (w.take k)) r m;have p:=P5 (L:=L) (t:=t) d 0;rw[<-p]at f;rw[i7,f]at ra;(repeat first|refine s2 rfl λ_ b=>?_|refine aU rfl ?_|apply Aa);(refine aC rfl ?_ ?_<;>rintro⟨⟩)
  ·(repeat' first|(refine sA rfl ?_ ?_;first|exact tI|omega)|(refine s4 rfl ‹_› rfl ?_ ?_;omega)|refine sP rfl (x) rfl ?_|(refine Ag rfl ?_;refine gA rfl ?_;first|refine gS (λ_ _=>Dy rfl ra) ?_)|refine aU rfl ?_|apply Aa|refine rE (by kernel_rfl) ?_|(refine aC rfl ?_ ?_<;>rintro⟨⟩)|apply aK|apply aE|apply aB|refine aR ⟨_,rfl,?_⟩)
   refine⟨⟨k+1,by omega⟩,by dsimp only;(omega),[0,1],?_⟩;simp[cX,zC,e,M]
  ·exfalso;(simp only[oZ] at *;omega)
 ·obtain rfl : k=w.length:=by omega
  rw[jp] at *;(repeat first|refine s2 rfl λ_ b=>?_|refine aU rfl ?_|apply Aa);(refine aC rfl ?_ ?_<;>rintro⟨⟩)
  ·exfalso;(simp only[oZ] at *;omega)
  ·apply aE
   have Z:((Bm L al t).ac.map MF)[(((runM L t 0 w:Nat):Int)).toNat]?=some (MF (O3 L t w)):=by
    unfold O3;simp[Bm,List.getD,r]
   (repeat first|refine tA rfl ?_|(refine s4 rfl ‹_› rfl ?_ ?_;omega)|refine s2 rfl λ_ b=>?_|(refine Ag rfl ?_;refine gA rfl ?_;first|refine gS (λ_ _=>I.ask rfl rfl B) ?_)|refine aU rfl ?_|apply Aa);(refine aC rfl ?_ ?_<;>rintro⟨⟩)
   ·have hn:Dd L t w=none:=by unfold Dd;rw[if_pos (by simpa using b)]
    (repeat first|refine tA rfl ?_|refine aU rfl ?_|apply Aa);refine aR ⟨_,rfl,?_⟩;rw[hn];rfl
   ·have P:Dd L t w=splitAt L t (L w) 0 w:=by unfold Dd;rw[if_neg (by simpa using b)]
    rw[P];apply aK;(repeat first|refine tA rfl ?_|refine aU rfl ?_|apply Aa);apply aB;refine aL (α:={k:Nat // k<=w.length/\splitAt L t (L w) 0 w=splitAt L t (L w) (runM L t 0 (w.take k)) (w.drop k)}) [2,3,4,9,12,45] [0] rfl rfl (λ⟨k,hk,i⟩=>[(10,eI .i64 (runM L t 0 (w.take k):Nat)),(46,eI .i64 k)]) (λ⟨k,hk,i⟩=>[]) 1 (λ⟨k,hk,i⟩=>w.length-k) (⟨0,by omega,rfl⟩) e rfl (by (simp[cX,zC,e,M]<;>rfl)) ?_;rintro⟨k,hk,i⟩;(try dsimp only[cA,cB]);have r:=n.run (w.take k) 0 (QY z k) V;by_cases u:k<w.length
    ·obtain⟨o,d⟩:=get_some u
     have y:w[((k:Nat):Int).toNat]?=some o:=by simpa using d
     have m:=z o (co d);have j:=QL m;have x:=Gk (TB:=TB) w k o y j;have ta:=KH (a:=Bm L al t) (q:=(((runM L t 0 (w.take k):Nat):Int)).toNat) (by omega)
     have el:((((o.toNat:Int)-97).toNat:Nat):Int)=(o.toNat:Int)-97:=by omega
     have ra:=Im (h:=λl=>CN (Bm L al t) (((runM L t 0 (w.take k):Nat):Int)).toNat l) j.1 (by omega);simp only[el]at ra;have f:=NK (L:=L) (al:=al) (t:=t) (q:=runM L t 0 (w.take k)) r m;have p:=P5 (L:=L) (t:=t) d 0;have A:=n.run (w.take (k+1)) 0 (QY z (k+1)) V;rw[Ry d,<-p]at i;rw[<-p]at f;rw[i7,f]at ra;generalize R:runM L t 0 (w.take (k+1))=X at *;obtain⟨K,s⟩:=get_some (l:=t.rows) (k:=X) A;have Y:=get_map (g:=FX) s
     have T:t.rows.getD X []=K:=by simp[List.getD,s]
     rw[T]at i;have hrb:=ht.onR K (co s);have hdl:(w.drop (k+1)).length=w.length-(k+1):=pm;have F:=H (K++w.drop (k+1)) ⟨K,.inr (co s),k+1,rfl⟩
     have G:(((k:Nat):Int)+1).toNat=k+1:=by omega
     (repeat first|refine s2 rfl λ_ b=>?_|refine aU rfl ?_|apply Aa);(refine aC rfl ?_ ?_<;>rintro⟨⟩)
     ·apply aK
      refine aS (aB ?_);(repeat first|(refine sA rfl ?_ ?_;first|exact tI|omega)|(refine s4 rfl ‹_› rfl ?_ ?_;omega)|refine sP rfl (x) rfl ?_|(refine Ag rfl ?_;refine gA rfl ?_;first|refine gS (λ_ _=>Dy rfl ra) ?_)|refine aU rfl ?_|apply Aa|refine rE (by kernel_rfl) ?_);(repeat first|(refine Ag rfl ?_;refine gA rfl ?_;first|refine gS (λ_ _=>Ex rfl rfl (by omega) (by omega)) ?_));rw[G];(repeat first|(refine sA rfl ?_ ?_;first|exact tI|omega)|refine s2 rfl λ_ b=>?_|(refine Ag rfl ?_;refine gA rfl ?_;first|refine gS (λ_ _=>I.ask rfl rfl F) ?_)|apply Aa);(refine aC rfl ?_ ?_<;>rintro⟨⟩)
      ·rw[if_pos (by simpa using b)]at i
       (repeat first|(refine sA rfl ?_ ?_;first|exact tI|omega)|(refine Ag rfl ?_;refine gA rfl ?_;first|refine gS (λ_ _=>Ex rfl rfl (by omega) (by omega)) ?_)|refine aU rfl ?_|apply Aa);refine aR ⟨_,rfl,?_⟩;rw[G,i];rfl
      ·rw[if_neg (by simpa using b)]at i
       apply aK;(repeat first|(refine sA rfl ?_ ?_;first|exact tI|omega)|refine aU rfl ?_|apply Aa);subst R;refine⟨⟨k+1,by omega,i⟩,by dsimp only;(omega),[0],?_⟩;simp[cX,zC,e,M]
     ·exfalso;(simp only[oZ] at *;omega)
    ·obtain rfl:k=w.length:=by omega
     rw[oH]at i;(repeat first|refine s2 rfl λ_ b=>?_|refine aU rfl ?_|apply Aa);(refine aC rfl ?_ ?_<;>rintro⟨⟩)
     ·exfalso;(simp only[oZ] at *;omega)
     ·apply aE
      (repeat first|refine tA rfl ?_|refine aU rfl ?_|apply Aa);refine aR ⟨_,rfl,?_⟩;rw[i];rfl
theorem Gb.lr{ok:W->Prop}{al:Int}{t:A9}(ht:Gb al 20012 t)(f:Ql ok al){w:W}(e:AO (Bg al) w)(d:w.length<=20000):∀v,Vl t w v->ok v:=by
 rintro v ⟨r,b,k,rfl⟩
 have g:AO (Bg al) r/\r.length<=20012:=by
  rcases b with rfl|b
  ·exact⟨λc a=>by simp at a,by simp⟩
  ·exact ht.onR r b
 refine f _ (λc a=>?_) (by simp;omega)
 rcases f6.1 a with a|a
 ·exact g.1 c a
 ·exact cR e _ c a
def Fv(L:W->Bool)(ls:List UInt8)(t:A9)(w:W):Option A9:=(Dd L t w).bind λv=>(GH t v).bind λu=>BJ L ls 13 u
theorem My{L:W->Bool}{t:A9}{b:Bool}:∀ {w:W} {q:Nat} {v:W},splitAt L t b q w=some v->∃p,p≠[]/\w=p++v
 | [],q,v,h=>by simp[splitAt]at h
 | c::w,q,v,h=>by
  unfold splitAt at h;split at h
  ·injection h with h;subst h;exact⟨[c],by simp,rfl⟩
  ·obtain⟨p,_,a⟩:=My h;exact⟨c::p,by simp,by rw[a];rfl⟩
theorem Hx{L:W->Bool}{t:A9}{w v:W}(h:Dd L t w=some v):∃p,p≠[]/\w=p++v:=by
 unfold Dd at h;split at h
 ·cases h
 ·exact My h
theorem Gb.mono{al:Int}{b b':Nat}{t:A9}(h:Gb al b t)(hb:b<=b'):Gb al b' t:=⟨λw a=>⟨(h.onR w a).1,lm (h.onR w a).2 hb⟩,h.onC,h.rl,h.cl⟩
theorem MO{al:Int}{b:Nat}{t u:A9}{v:W}(h:Gb al b t)(c:AO (Bg al) v)(f:v.length<=20000)(ha:GH t v=some u):Gb al b u:=by
 unfold GH at ha;split at ha
 ·cases ha
 ·rename_i d
  injection ha with ha
  subst ha;refine⟨h.onR,λx a=>?_,h.rl,?_⟩
  ·rcases f6.1 a with a|a
   ·exact h.onC x a
   ·simp at a;subst a;exact⟨c,f⟩
  ·have:=h.cl
   have g:t.cols.length≠20:=λe=>d (.inl e);simp;omega
def Vk(L:W->Bool)(ls:List UInt8)(t:A9)(w v:W):Prop:=Mb ls t v\/Vl t w v\/∃x,Dd L t w=some x/\∃u,GH t x=some u/\∃y∈Ep L ls 13 u,Mb ls y v
theorem Pc{c:C}{L:W->Bool}{ok:W->Prop}(j:IY Tryz.prog TB c L ok)(al:Int)(t:A9)(ht:Gb al 20000 t)(hal:Bn al=true)(A:BZ L (Bg al) t)(J:Bx L (Bg al) t=none)(w:W)(z:∀v,Vk L (Bg al) t w v->ok v)(B:AO (Bg al) w)(k:w.length<=20000) :
 Pure Tryz.prog TB 72 [HW al c,HX t,eT w] (Vt (Fv L (Bg al) t w)):=by
 have K:=EA c j.BY
 have b:([HW al c,HX t,eT w].all E.BY && C.C7 [])=true:=by simp[E.BY,C.C7,C.BY,j.BY]
 have e:=Pk (TB:=TB) j al t (λv n=>z v (.inl n)) (ht.mono (by omega)) hal A J w (λv n=>z v (.inr (.inl n))) B k;have I:=ht.rl;have F:=ht.cl
 rcases hs:Dd L t w with _|v
 ·have r:Fv L (Bg al) t w=none:=by unfold Fv;rw[hs];rfl
  rw[r];rw[hs]at e;refine AH.GB (AH.ofM 2 (i9 _) Tryz.func72 rfl rfl (by kernel_rfl) (ce rfl) ?_);intro Γ i;(repeat first|refine aU rfl ?_);(refine pW rfl ?_ rfl (by rfl);refine CY rfl rfl ?_);(refine pW rfl ?_ rfl (by rfl);refine CY rfl rfl ?_);(repeat first|refine tA rfl ?_|refine aU rfl ?_|apply Aa);(repeat first|refine tA rfl ?_|refine s2 rfl λ_ a=>?_|(refine Ag rfl ?_;refine gA rfl ?_;first|refine gS (λ_ _=>Be rfl rfl b e rfl) ?_)|refine aU rfl ?_|apply Aa)
  ((refine aC rfl ?_ ?_<;>rintro⟨⟩);all_goals try (simp at a;done))
  (repeat first|refine tA rfl ?_|(refine Ag rfl ?_;refine gA rfl ?_;first|refine gS (λ_ _=>AP rfl rfl (by rfl) (by rfl)) ?_)|refine aU rfl ?_|apply Aa);refine Aj.settle [(6,.o (.ip [.l [],.l []])),(7,eB false)] ⟨⟨_,rfl,.o (.box rfl (.cons .d (.cons .d .nil)))⟩,⟨_,rfl,.o .d⟩,trivial⟩ ?_;refine aR ⟨_,rfl,rfl⟩
 ·have q:=Hx hs
  have m:AO (Bg al) v/\v.length<=20000:=by
   obtain⟨p,_,rfl⟩:=q;exact⟨λc j=>B c (by simp[j]),by simp at k;omega⟩
  have f:=Qn (TB:=TB) t v (by omega) (by omega);rw[hs]at e
  rcases ha:GH t v with _|u
  ·have r:Fv L (Bg al) t w=none:=by unfold Fv;rw[hs];simp[ha]
   rw[r];rw[ha]at f;refine AH.GB (AH.ofM 2 (i9 _) Tryz.func72 rfl rfl (by kernel_rfl) (ce rfl) ?_);intro Γ i;(repeat first|refine aU rfl ?_);(refine pW rfl ?_ rfl (by rfl);refine CY rfl rfl ?_);(refine pW rfl ?_ rfl (by rfl);refine CY rfl rfl ?_);(repeat first|refine tA rfl ?_|refine aU rfl ?_|apply Aa);(repeat first|refine tA rfl ?_|refine s2 rfl λ_ a=>?_|(refine Ag rfl ?_;refine gA rfl ?_;first|refine gS (λ_ _=>Be rfl rfl b e rfl) ?_)|refine aU rfl ?_|apply Aa)
   ((refine aC rfl ?_ ?_<;>rintro⟨⟩);all_goals try (simp at a;done))
   apply aK;(repeat first|refine tA rfl ?_|refine s2 rfl λ_ a=>?_|refine sP rfl (f) rfl ?_|refine aU rfl ?_|apply Aa)
   ((refine aC rfl ?_ ?_<;>rintro⟨⟩);all_goals try (simp at a;done))
   (repeat first|refine tA rfl ?_|(refine Ag rfl ?_;refine gA rfl ?_;first|refine gS (λ_ _=>AP rfl rfl (by rfl) (by rfl)) ?_)|refine aU rfl ?_|apply Aa);refine Aj.settle [(6,.o (.ip [.l [],.l []])),(7,eB false)] ⟨⟨_,rfl,.o (.box rfl (.cons .d (.cons .d .nil)))⟩,⟨_,rfl,.o .d⟩,trivial⟩ ?_;refine aR ⟨_,rfl,rfl⟩
  ·have H:=MO ht m.1 m.2 ha
   have g:=HU (TB:=TB) j al u (λy G v n=>z v (.inr (.inr ⟨_,hs,_,ha,y,G,n⟩))) H
   have h:([HW al c,HX u].all E.BY && C.C7 [])=true:=by simp[E.BY,C.C7,C.BY,j.BY]
   have r:Fv L (Bg al) t w=BJ L (Bg al) 13 u:=by unfold Fv;rw[hs];simp[ha]
   rw[r];rw[ha]at f
   rcases s:BJ L (Bg al) 13 u with _|x
   ·rw[s]at g
    refine AH.GB (AH.ofM 2 (i9 _) Tryz.func72 rfl rfl (by kernel_rfl) (ce rfl) ?_);intro Γ i;(repeat first|refine aU rfl ?_);(refine pW rfl ?_ rfl (by rfl);refine CY rfl rfl ?_);(refine pW rfl ?_ rfl (by rfl);refine CY rfl rfl ?_);(repeat first|refine tA rfl ?_|refine aU rfl ?_|apply Aa);(repeat first|refine tA rfl ?_|refine s2 rfl λ_ a=>?_|(refine Ag rfl ?_;refine gA rfl ?_;first|refine gS (λ_ _=>Be rfl rfl b e rfl) ?_)|refine aU rfl ?_|apply Aa)
    ((refine aC rfl ?_ ?_<;>rintro⟨⟩);all_goals try (simp at a;done))
    apply aK;(repeat first|refine tA rfl ?_|refine s2 rfl λ_ a=>?_|refine sP rfl (f) rfl ?_|refine aU rfl ?_|apply Aa)
    ((refine aC rfl ?_ ?_<;>rintro⟨⟩);all_goals try (simp at a;done))
    apply aK;(repeat first|refine tA rfl ?_|(refine Ag rfl ?_;refine gA rfl ?_;first|refine gS (λ_ _=>Be rfl rfl h g rfl) ?_)|refine aU rfl ?_|apply Aa);refine Aj.settle [(6,.o (.ip [.l [],.l []])),(7,eB false)] ⟨⟨_,rfl,.o (.box rfl (.cons .d (.cons .d .nil)))⟩,⟨_,rfl,.o .d⟩,trivial⟩ ?_;refine aR ⟨_,rfl,rfl⟩
   ·rw[s]at g
    refine AH.GB (AH.ofM 2 (i9 _) Tryz.func72 rfl rfl (by kernel_rfl) (ce rfl) ?_);intro Γ i;(repeat first|refine aU rfl ?_);(refine pW rfl ?_ rfl (by rfl);refine CY rfl rfl ?_);(refine pW rfl ?_ rfl (by rfl);refine CY rfl rfl ?_);(repeat first|refine tA rfl ?_|refine aU rfl ?_|apply Aa);(repeat first|refine tA rfl ?_|refine s2 rfl λ_ a=>?_|(refine Ag rfl ?_;refine gA rfl ?_;first|refine gS (λ_ _=>Be rfl rfl b e rfl) ?_)|refine aU rfl ?_|apply Aa)
    ((refine aC rfl ?_ ?_<;>rintro⟨⟩);all_goals try (simp at a;done))
    apply aK;(repeat first|refine tA rfl ?_|refine s2 rfl λ_ a=>?_|refine sP rfl (f) rfl ?_|refine aU rfl ?_|apply Aa)
    ((refine aC rfl ?_ ?_<;>rintro⟨⟩);all_goals try (simp at a;done))
    apply aK;(repeat first|refine tA rfl ?_|(refine Ag rfl ?_;refine gA rfl ?_;first|refine gS (λ_ _=>Be rfl rfl h g rfl) ?_)|refine aU rfl ?_|apply Aa);refine Aj.settle [(6,.o (.ip [CE x.rows,CE x.cols])),(7,eB true)] ⟨⟨_,rfl,.o (.box rfl (.cons .d (.cons .d .nil)))⟩,⟨_,rfl,.o .d⟩,trivial⟩ ?_;refine aR ⟨_,rfl,rfl⟩
abbrev kP(kn:Bool)(p:A5)(s:Sys)(q:A5)(al:Int):E:=.a ((jh kn p s q al).map .d)
theorem cD(w:W)(i:Nat)(c:UInt8)(b:w[((i:Nat):Int).toNat]?=some c):Pure Tryz.prog TB 188 [eT w,eI .i64 i] (eI .i64 ((c.toNat:Int)-97)):=by
 have hb:=c.toNat_lt;refine eN Tryz.func188 rfl (by kernel_rfl) rfl ?_;intro Γ a;(repeat' first|(refine sA rfl ?_ ?_;first|exact tI|omega)|(refine s4 rfl ‹_› rfl ?_ ?_;omega)|refine aU rfl ?_|apply Aa|(refine aC rfl ?_ ?_<;>rintro⟨⟩)|apply aK|apply aE|apply aB|refine aR ⟨_,rfl,?_⟩);rfl
theorem Zh(n:Int)(a:0<=n)(c:n<16):Pure Tryz.prog TB 137 [eI .i64 n] (eI .i64 ((2 ^ n.toNat:Nat):Int)):=by
 refine eN Tryz.func137 rfl (by kernel_rfl) rfl ?_;intro Γ b;(repeat' first|(refine sA rfl ?_ ?_;first|exact tI|omega)|(refine Ag rfl ?_;refine gA rfl ?_;first|refine gS (λ_ _=>ab rfl rfl a (Wy a c)) ?_)|refine aU rfl ?_|apply Aa|(refine aC rfl ?_ ?_<;>rintro⟨⟩)|apply aK|apply aE|apply aB|refine aR ⟨_,rfl,?_⟩);rfl
theorem JU{c:UInt8}:MG c=decide (0<=(c.toNat:Int)-97/\(c.toNat:Int)-97<6):=by
 unfold MG;rw[mZ,decide_eq_true_eq,decide_eq_true_eq];omega
theorem HC{w:W}{al:Int}(h:within w al=true):AO (Bg al) w:=by
 unfold within at h;simp only[d4,decide_eq_true_eq]at h;intro c b;have a:=(ge.1 h.2.2) c b;unfold Pa MG at a;simp only[d4,decide_eq_true_eq]at a;refine d8.2 ⟨((c.toNat-97:Nat):Int),CK.2 ⟨by omega,a.2⟩,?_⟩;unfold lb
 have e:97+((c.toNat-97:Nat):Int).toNat=c.toNat:=by omega
 rw[e];simp
theorem FP{w:W}{al:Int}(h:AO (Bg al) w)(d:w.length<=50000)(ha:Bn al=true):within w al=true:=by
 unfold within;simp only[d4,decide_eq_true_eq];refine⟨d,ha,ge.2 λc f=>?_⟩;obtain⟨l,b,rfl⟩:=d8.1 (h c f);have a:=Ai b;have g:=Lu a.1 (by omega);unfold Pa MG;simp only[d4,decide_eq_true_eq]
 have e:(lb l).toNat-97=l.toNat:=by omega
 rw[e];exact⟨by omega,a.2.2⟩
def eb(p:A5)(w:W):Bool:=AJ p && (within w p.al && LA p w)
structure HS where
 kn:Bool
 p:A5
 s:Sys
 q:A5
 al:Int
abbrev eE(t:HS):E:=kP t.kn t.p t.s t.q t.al
structure kY (P:Program) (TB:BA) (gA gQ:FuncId) (t:HS) (al:Int) (A:W->Bool):Prop where
 alph:Pure P TB gA [eE t] (eI .i64 al)
 ask:∀w:W,w.length<=1099511627776->Pure P TB gQ [eE t,eT w] (eB (A w))
structure lE (t:A9):Prop where
 rl:t.rows.length<=4194304
 cl:t.cols.length<=4194304
 rb:∀w∈t.rows,w.length<=4194304
 cb:∀w∈t.cols,w.length<=4194304
def rowAt(al:Int)(l:List W)(i:Nat):Bool:=match l[i]? with
 | none=>true
 | some w=>!decide (w.length=0) && (within w al && decide (w.dropLast∈l.take i))
def YS(al:Int)(l:List W)(i:Nat):Bool:=match l[i]? with
 | none=>true
 | some w=>decide (w.length<=4000) && (within w al && !decide (w∈l.take i))
def PA(f:Nat->Bool)(n:Nat):Bool:=(List.range n).all λi=>decide (i=0) || f i
def UC(al:Int)(t:A9):Bool:=decide (0<=al) && (decide (1<=t.rows.length/\t.rows.length<=12) && (decide (1<=t.cols.length/\t.cols.length<=20) && (decide (t.rows[0]?=some []) && decide (t.cols[0]?=some []))))
def LP(al:Int)(t:A9):Bool:=UC al t && (PA (rowAt al t.rows) t.rows.length && PA (YS al t.cols) t.cols.length)
def Ju(al:Int)(w:W):Bool:=within w al && decide (w.length<=4000)
def BK(A:W->Bool)(al:Int)(t:A9):Bool:=LP al t && decide (AW A t).Nodup
def Dv(A:W->Bool)(al:Int)(t:A9):Bool:=BK A al t && (Bx A (Bg al) t).isNone
theorem QF(w:W)(i:Nat)(c:UInt8)(b:w[((i:Nat):Int).toNat]?=some c):Pure Tryz.prog TB 128 [eT w,eI .i64 i] (eI .i64 (if MG c then (c.toNat:Int)-97 else -1)):=by
 by_cases h:MG c=true
 ·rw[if_pos h]
  rw[JU,decide_eq_true_eq]at h;exact Gk w i c b h
 ·rw [if_neg h]
  rw[JU,decide_eq_true_eq]at h;have hb:=c.toNat_lt;refine eN Tryz.func128 rfl (by kernel_rfl) rfl ?_;intro Γ a;(repeat' first|(refine sA rfl ?_ ?_;first|exact tI|omega)|(refine s4 rfl ‹_› rfl ?_ ?_;omega)|refine s2 rfl λ_ d=>?_|refine s3 rfl ?_ ?_<;>rintro rfl|refine aU rfl ?_|apply Aa|(refine aC rfl ?_ ?_<;>rintro⟨⟩)|apply aK|apply aE|apply aB|refine aR ⟨_,rfl,?_⟩)
  all_goals first
   | rfl
   | (exfalso;grind)
theorem Sq(al:Int)(c:UInt8):hasB al (if MG c then (c.toNat:Int)-97 else -1)=Pa al c:=by
 unfold Pa hasB;by_cases h:MG c=true
 ·rw[if_pos h,h]
  rw[JU,decide_eq_true_eq]at h
  have e:((c.toNat:Int)-97).toNat=c.toNat-97:=by omega
  rw[e];simp;omega
 ·rw[if_neg h]
  simp[h]
end Go.Am
namespace Go.Am
open Go
def Bo(es:List DM)(l:Int)(m:Nat):Nat:=es.foldl (λa e=>if e.l=l/\m.testBit e.f.toNat=true then a ||| 2 ^ e.t.toNat else a) 0
theorem IB{α:Type}{p:α->Prop}[DecidablePred p]{g:α->Nat}{j:Nat}:∀(l:List α) (a:Nat),(l.foldl (λa e=>if p e then a ||| g e else a) a).testBit j=true↔a.testBit j=true\/∃e∈l,p e/\(g e).testBit j=true
 | [],a=>by simp
 | x :: l,a=>by
  rw[nW,IB l];by_cases h:p x
  ·rw [if_pos h,nQ,lT]
   constructor
   ·rintro((b|b)|⟨e,b,c⟩)
    ·exact .inl b
    ·exact .inr ⟨x,by simp,h,b⟩
    ·exact .inr ⟨e,by simp[b],c⟩
   ·rintro(b|⟨e,b,c,d⟩)
    ·exact .inl (.inl b)
    ·rcases lJ.1 b with rfl|b
     ·exact .inl (.inr d)
     ·exact .inr ⟨e,b,c,d⟩
  ·rw [if_neg h]
   constructor
   ·rintro(b|⟨e,b,c⟩)
    ·exact .inl b
    ·exact .inr ⟨e,by simp[b],c⟩
   ·rintro(b|⟨e,b,c,d⟩)
    ·exact .inl b
    ·rcases lJ.1 b with rfl|b
     ·exact absurd c h
     ·exact .inr ⟨e,b,c,d⟩
theorem Cz{es:List DM}{l:Int}{m j:Nat}:(Bo es l m).testBit j=true↔∃e∈es,(e.l=l/\m.testBit e.f.toNat=true)/\e.t.toNat=j:=by
 unfold Bo;rw[IB];simp[nj]
structure CW where
 s:Sys
 q:A5
 al:Int
def Bu(t:CW):Bool:=Ay t.s && (AJ t.q && Bn t.al)
def CR(t:CW):List Int:=(Ac t.s.al).filter λl=>!AT t.al l.toNat
def Fe(s:Sys)(l:Int)(m:Nat):Nat:=if AT s.al l.toNat then Bo s.es l m else m
abbrev PS:=Nat->Nat
def VJ(t:CW)(l:Int)(F:PS):PS:=λp'=>(List.range t.q.nx.length).foldl (λa p=>if CN t.q p l=(p':Int) then a ||| Fe t.s l (F p) else a) 0
theorem Kp{t:CW}{l:Int}{F:PS}{p' j:Nat}:(VJ t l F p').testBit j=true↔∃p,p<t.q.nx.length/\CN t.q p l=(p':Int)/\(Fe t.s l (F p)).testBit j=true:=by
 unfold VJ;rw[IB];simp
inductive Qm (t:CW) (F0:PS):Nat->Nat->Prop
 | base {p j:Nat}:(F0 p).testBit j=true->Qm t F0 p j
 | step {p j:Nat} {e:DM}:Qm t F0 p j->e∈t.s.es->e.l∈CR t->e.f.toNat=j->Qm t F0 (CN t.q p e.l).toNat e.t.toNat
open Classical in
noncomputable def WX(t:CW)(F0:PS):PS:=λp=>(List.range 16).foldl (λa j=>if Qm t F0 p j then a ||| 2 ^ j else a) 0
open Classical in
theorem MS{t:CW}{F0:PS}{p j:Nat}:(WX t F0 p).testBit j=true↔j<16/\Qm t F0 p j:=by
 unfold WX;rw[IB];simp only[pp,nF,false_or,lS,nj,decide_eq_true_eq];constructor
 ·rintro⟨e,b,a,rfl⟩;exact⟨b,a⟩
 ·rintro⟨b,a⟩;exact⟨j,b,a,rfl⟩
structure DF (t:CW) (F:PS):Prop where
 lt:∀p,F p<65536
 z:∀p,t.q.nx.length<=p->F p=0
theorem IA{m:Nat}(h:∀j,m.testBit j=true->j<16):m<65536:=by
 have:m<2 ^ 16:=Nat.lt_pow_two_of_testBit m λi hi=>by
  cases hb:m.testBit i
  ·rfl
  ·have:=h i hb;omega
 omega
theorem J8{m j:Nat}(h:m<65536)(hb:m.testBit j=true):j<16:=by
 rcases l5 j 16 with a|a
 ·exact a
 ·have:m.testBit j=false:=Nat.testBit_lt_two_pow (lG h (mc (n:=2) (by omega) a))
  rw[this]at hb;cases hb
theorem EM{m:Nat}(h:∀j,m.testBit j=false):m=0:=m7 λj=>by rw[h j];simp
section
variable {t:CW}(ht:Bu t=true)
include ht set_option linter.unusedSectionVars false
theorem Hc{e:DM}(a:e∈t.s.es):0<=e.f/\e.f<16/\0<=e.t/\e.t<16/\0<=e.l/\e.l<6:=by
 unfold Bu at ht;simp only[d4]at ht;have b:=BT ht.1 a;have c:=AE ht.1;unfold CI at b;grind
theorem DA:AJ t.q=true:=by
 unfold Bu at ht;simp only[d4]at ht;exact ht.2.1
theorem DT{l:Int}(h:l∈CR t):0<=l/\l<6/\AT t.s.al l.toNat=true:=by
 unfold CR at h;have a:=Ai (lw.1 h).1;exact⟨a.1,by omega,a.2.2⟩
theorem Oz{l:Int}{m:Nat}(a:m<65536):Fe t.s l m<65536:=by
 unfold Fe;split
 ·refine IA λj b=>?_
  obtain⟨e,c,_,rfl⟩:=Cz.1 b;have:=Hc ht c;omega
 ·exact a
theorem Lw{l:Int}(a:0<=l/\l<6){F:PS}(h:DF t F):DF t (VJ t l F):=by
 refine⟨λp=>IA λj d=>?_,λp f=>EM λj=>?_⟩
 ·obtain⟨q,c,e,b⟩:=Kp.1 d
  exact J8 (Oz ht (h.lt q)) b
 ·cases hb:(VJ t l F p).testBit j
  ·rfl
  ·obtain⟨q,c,e,b⟩:=Kp.1 hb
   have:=Eo (DA ht) c a.1 a.2;omega
theorem Qm.lt{F0:PS}(h:DF t F0){p j:Nat}(c:Qm t F0 p j):p<t.q.nx.length/\j<16:=by
 induction c with
 | @base p j hb=>
  refine⟨?_,J8 (h.lt p) hb⟩
  rcases l5 p t.q.nx.length with a|a
  ·exact a
  ·rw[h.z p a]at hb;simp at hb
 | @step p j e _ d f _ b=>
  have a:=Hc ht d;have g:=Eo (DA ht) b.1 a.2.2.2.2.1 a.2.2.2.2.2;omega
theorem YO{F0:PS}(h:DF t F0):DF t (WX t F0):=by
 refine⟨λp=>IA λj a=>(MS.1 a).1,λp b=>EM λj=>?_⟩;cases hb:(WX t F0 p).testBit j
 ·rfl
 ·have:=((MS.1 hb).2.lt ht h).1
  omega
theorem er{F0 G:PS}(c:DF t F0)(n:∀p,t.q.nx.length<=p->G p=0)(m:∀p j,(F0 p).testBit j=true->(G p).testBit j=true)(b:∀p j,(G p).testBit j=true->Qm t F0 p j)
 (k:∀p l j,p<t.q.nx.length->l∈CR t->(Bo t.s.es l (G p)).testBit j=true->(G (CN t.q p l).toNat).testBit j=true):G=WX t F0:=by
 have key:∀ {p j:Nat},Qm t F0 p j->(G p).testBit j=true:=λ{p j} a=>by
  induction a with
  | base hb=>exact m _ _ hb
  | @step p j e a i f g d=>exact k p e.l _ (a.lt ht c).1 f (Cz.2 ⟨e,i,⟨rfl,by rw[g];exact d⟩,rfl⟩)
 funext p;refine m7 λj=>?_;rw[mZ,MS];exact⟨λh=>⟨((b p j h).lt ht c).2,b p j h⟩,λh=>key h.2⟩
end
def KV:PS:=λp=>if p=0 then 1 else 0
noncomputable def CT(t:CW):PS:=WX t KV
noncomputable def EK(t:CW)(l:Int)(F:PS):PS:=WX t (VJ t l F)
def HL(t:CW)(F:PS):Bool:=(List.range t.q.nx.length).any λp=>decide (F p≠0) && !(t.q.ac.getD p false)
noncomputable def KB(t:CW):PS->W->Bool
 | F,[]=>!HL t F
 | F,c::w=>!HL t F && KB t (EK t ((c.toNat:Int)-97) F) w
noncomputable def LS(t:CW)(w:W):Bool:=KB t (CT t) w
section
variable {t:CW}(ht:Bu t=true)
include ht
theorem OY:DF t KV:=by
 have h:=AS (DA ht);refine⟨λp=>by unfold KV;split<;>omega,λp a=>by unfold KV;rw[if_neg (by omega)]⟩
theorem G0:DF t (CT t):=YO ht (OY ht)
theorem N6{l:Int}(a:0<=l/\l<6){F:PS}(h:DF t F):DF t (EK t l F):=YO ht (Lw ht a h)
end
end Go.Am
namespace Go.Am
theorem cg{α:Type}{l:List α}{k:Nat}{x d:α}(h:l[k]?=some x):l.getD k d=x:=by rw[nT,h];rfl
def fA(a:A5)(q l:Int):Int:=CN a q.toNat l
def TH(a:A5)(q:Int):Bool:=a.ac.getD q.toNat false
theorem P4{a:A5}:∀(w:List Int) (q:Int),(∀l∈w,l∈Ac a.al)->Dc (fA a) q w=Pj a q (DD w)
 | [],q,_=>rfl
 | l::w,q,h=>by
  have c:=Ai (h l (by simp));have e:Pj a q (DD (l::w))=Pj a (CN a q.toNat (((lb l).toNat:Int)-97)) (DD w):=rfl;rw[e,Lu c.1 (by omega)];exact P4 w _ λm b=>h m (by simp[b])
end Go.Am
