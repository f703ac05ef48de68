/-
  The reference's automaton of a closed table.
-/
import Derived.Test.YtgpbfllcjdfelaaGreatDoorPart33
set_option linter.all false
namespace Go.Am
open Go Go.Proofs
set_option maxHeartbeats 1000000
set_option maxRecDepth 4000
attribute [local irreducible] AU BZ Lex Br Aj Spec
variable {TB:Bp}
def XC(o:Option AY):E:=match o with
 | some p=>.t [(true,[.d (iD p.al),.d (Da p.nx),.d (FK p.ac)]),(false,[.d (bD true)])]
 | none=>.t [(true,[.d (iD 0),.d (.l []),.d (.l [])]),(false,[.d (bD false)])]
theorem UY{t:FB}{al:Int}{A:W->Bool}(v:I0 Tryz.prog TB 67 154 t al A)(tab:A9)(f:TS tab) :
 Pure Tryz.prog TB 20 [C7 t,CW tab] (XC (if Dx A al tab then some (Bn A al tab) else none)):=by
 have x:=Nw v tab f;by_cases i:Dx A al tab=true
 ·rw [if_pos i]
  rw [i] at x;obtain⟨y,V,N⟩:=Vu i;have e:=(CE y).1;have T:=e.r1;have R:=e.rl;have N:=e.cl;have h2:=v.alph;have h3:=Cp (TB:=TB) al;have h4:Pure Tryz.prog TB 69 [C7 t,Bx tab.cols,Bx tab.rows] (Bx (AJ A tab)):=IM v tab.cols tab.rows f.cl (λw hw=>by have:=f.rb w hw;omega) f.cb f.rl;have hla:(Ac al).length<=6:=AK al 6
  have Y:(AJ A tab).length=tab.rows.length:=by simp [AJ]
  refine eG Tryz.func20 rfl (by kernel_rfl) rfl ?_;intro Γ c;(repeat first|refine tA rfl ?_ |refine s2 rfl λ_ a=>?_ |refine sP rfl (x) rfl ?_ |refine aU rfl ?_ |refine Aa ?_)
  ((refine aC rfl ?_ ?_<;>rintro⟨⟩);all_goals try (simp at a;done))
  refine aK ?_;(repeat first|refine tX rfl ?_ |refine sP rfl (h2) rfl ?_ |refine aU rfl ?_);(refine pW rfl ?_ rfl (by rfl);refine GA 1 1 53 2 1 4 rfl rfl (by decide) rfl rfl (by rfl) (by rfl) ?_);(repeat first|refine tX rfl ?_ |refine sP rfl (h3) rfl ?_|refine sP rfl (h4) rfl ?_ |refine aU rfl ?_ |refine Aa ?_);refine aB ?_;refine aL (U:={k:Nat // k<=tab.rows.length}) [2,3,4,6,7,8] [0] rfl rfl (λ⟨k,hk⟩=>[(9,eI .i64 k)]) (λ⟨k,hk⟩=>[(1,.cells 53 1 (((Bn A al tab).nx.take k).map λr=>[.d (EK r)])),(2,.cells 4 1 (((Bn A al tab).ac.take k).map λb=>[.d (bD b)])),(3,.cells 29 3 [[.d (iD al),.arr 1 1 0 k,.arr 2 1 0 k]])]) 4 (λ⟨k,hk⟩=>tab.rows.length - k) (⟨0,by omega⟩) c rfl (by (simp[cX,zC,c])) ?_;rintro⟨k,hk⟩;(try dsimp only[cA,cB])
  have X:(Bn A al tab).nx.length=tab.rows.length:=by simp [Bn]
  have hac:(Bn A al tab).ac.length=tab.rows.length:=by simp [Bn]
  by_cases I:k < tab.rows.length
  ·obtain⟨r,n⟩:=get_some I
   have Q:=get_map (g:=BU) n;have m:=co n;have S:=f.rb r m
   have hm:(AJ A tab)[k]? = some (marks A tab.cols r):=by simp [AJ,n]
   have hm':=get_map (g:=BU) hm
   have Z:(marks A tab.cols r)[(0:Int).toNat]? = some (SS (A r)):=by
    have:=e.c0;simp [marks,this]
   (repeat first|refine sN rfl ?_ |refine tX rfl ?_ |refine s2 rfl λ_ a=>?_ |refine aU rfl ?_ |refine Aa ?_);refine Aj.cond rfl (λhb=>?_) (λhb=>?_)<;>cases hb
   rotate_left
   ·exfalso;(simp only[oZ] at *;omega)
   refine aK ?_;refine aS (aB ?_);(repeat first|refine aU rfl ?_);(refine pW rfl ?_ rfl (by rfl);refine Bg rfl rfl rfl rfl (by simp) (by rfl) (by rfl) (by rfl) (by rfl) ?_);(repeat first|refine tX rfl ?_ |refine aU rfl ?_ |refine Aa ?_);refine aB ?_;refine aL (U:={j:Nat // j<=(Ac al).length}) [2,3,4,6,7,8,9] [0,1,2,3] rfl rfl (λ⟨j,L⟩=>[(10,.o (.arr 4 1 0 j)),(11,eI .i64 j)]) (λ⟨j,L⟩=>[(4,.cells 3 1 (((Ac al).take j).map λl=>[.d (iD ((EF A tab (r++[lb l]):Nat):Int))]))]) 5 (λ⟨j,L⟩=>(Ac al).length - j) (⟨0,by omega⟩) c rfl (by (simp[cX,zC,c])) ?_;rintro⟨j,L⟩;(try dsimp only[cA,cB]);by_cases s:j < (Ac al).length
   ·obtain⟨l,K⟩:=get_some s
    have hl':=get_map (g:=CN) K;have q:=co K;have J:=Au q;have z:Pure Tryz.prog TB 72 [eI .i64 l] (eT [lb l]):=Gy l J.1 (by omega);have p:=Ki v tab.cols (r++[lb l]) f.cl (by simp;omega) f.cb;have H:marks A tab.cols (r++[lb l])∈AJ A tab:=MV V r m (lb l) (LI q);have M:Pure Tryz.prog TB 70 [Bx (AJ A tab),eT (marks A tab.cols (r++[lb l]))] (eI .i64 (EF A tab (r++[lb l]):Nat)):=QJ (AJ A tab) _ H (by omega);(repeat first|refine sN rfl ?_ |refine tX rfl ?_ |refine s2 rfl λ_ a=>?_ |refine aU rfl ?_ |refine Aa ?_);refine Aj.cond rfl (λhb=>?_) (λhb=>?_)<;>cases hb
    rotate_left
    ·exfalso;(simp only[oZ] at *;omega)
    refine aK ?_;refine aS (aB ?_);refine rG (It [19]) (by kernel_rfl) ?_;(repeat first|(refine sA rfl ?_ ?_;first|exact tI|simp only[oZ] at *;omega) |(refine s4 rfl ‹_› rfl ?_ ?_;omega) |refine sP rfl (z) rfl ?_|refine sP rfl (p) rfl ?_|refine sP rfl (M) rfl ?_);(refine pW rfl ?_ rfl (by rfl);refine Aw rfl rfl rfl (by first| (simp;done)|(simp;(omega))) rfl (by intro r h;simp at h;subst h;rfl) (by rfl) (ce rfl) (by simp;omega) ?_);(repeat first|(refine sA rfl ?_ ?_;first|exact tI|omega) |refine aU rfl ?_ |refine Aa ?_);refine⟨⟨j+1,by omega⟩,by dsimp only;(omega),[0,1,2,3,5],?_⟩;(simp[cX,zC,c,io,K])
   ·obtain rfl:j=(Ac al).length:=by omega
    have G:(Bn A al tab).nx.take (k+1)=(Bn A al tab).nx.take k++[(Ac al).map λl=>((EF A tab (r++[lb l]):Nat):Int)]:=by
     rw [io];simp [Bn,n]
    have u:(Bn A al tab).ac.take (k+1)=(Bn A al tab).ac.take k++[A r]:=by
     rw [io];simp [Bn,n]
    rw [kz];(repeat first|refine sN rfl ?_ |refine tX rfl ?_ |refine s2 rfl λ_ a=>?_ |refine aU rfl ?_ |refine Aa ?_);refine Aj.cond rfl (λhb=>?_) (λhb=>?_)<;>cases hb
    ·exfalso;(simp only[oZ] at *;omega)
    refine aE ?_;refine Aj.EO [4] [2,3,4,6,7,8,9] rfl [(10,AW ((Ac al).map λl=>((EF A tab (r++[lb l]):Nat):Int)))] ⟨⟨_,rfl,.o (.full (by simp) rfl (by simp [d4]) (by simp))⟩,trivial⟩ ?_;(try dsimp only[cA,cB]);(repeat first|refine tA rfl ?_ |refine aU rfl ?_);(refine pW rfl ?_ rfl (by rfl);refine Aw rfl rfl rfl (by first| (simp;done)|(simp;(omega))) rfl (by intro r h;simp at h;subst h;rfl) (by rfl) (ce rfl) (by simp;omega) ?_);(repeat first|refine tA rfl ?_ |refine Aa ?_);refine rG (It [9,11]) (by kernel_rfl) ?_;(repeat first|refine tA rfl ?_ |(refine s4 rfl ‹_› rfl ?_ ?_;omega) |refine s2 rfl λ_ a=>?_);rename_i b
    have P:b=A r:=by
     cases hA:A r<;>cases b<;>simp [hA,SS] at a<;>rfl
    subst P;(refine pW rfl ?_ rfl (by rfl);refine Aw rfl rfl rfl (by first| (simp;done)|(simp;(omega))) rfl (by intro r h;simp at h;subst h;rfl) (by rfl) (ce rfl) (by simp;omega) ?_);(repeat first|(refine sA rfl ?_ ?_;first|exact tI|omega) |refine aU rfl ?_ |refine Aa ?_);refine⟨⟨k+1,by omega⟩,by dsimp only;(omega),[0,5,6,3],?_⟩;(simp[cX,zC,c,G,u])
  ·obtain rfl:k=tab.rows.length:=by omega
   have F:(Bn A al tab).nx.take tab.rows.length=(Bn A al tab).nx:=kD (by simp [Bn]);have B:(Bn A al tab).ac.take tab.rows.length=(Bn A al tab).ac:=kD (by simp [Bn]);rw [F,B];(repeat first|refine sN rfl ?_ |refine tX rfl ?_ |refine s2 rfl λ_ a=>?_ |refine aU rfl ?_ |refine Aa ?_);refine Aj.cond rfl (λhb=>?_) (λhb=>?_)<;>cases hb
   ·exfalso;(simp only[oZ] at *;omega)
   refine aE ?_;(repeat first|refine tX rfl ?_ |refine aU rfl ?_ |refine Aa ?_);refine Aj.settle [(4,.o (.ip [iD al,Da (Bn A al tab).nx,FK (Bn A al tab).ac])),(5,eB true)] ⟨⟨_,rfl,.o (.box rfl (.cons .d (.cons (.full rfl (by simp [d4]) (by simp [Bn])) (.cons (.full rfl (by simp [d4]) (by simp [Bn])) .nil))))⟩,⟨_,rfl,.o .d⟩,trivial⟩ ?_;refine aR ⟨_,rfl,rfl⟩
 ·have i:Dx A al tab=false:=by simpa using i
  rw [if_neg (by simp [i])];rw [i] at x;refine eG Tryz.func20 rfl (by kernel_rfl) rfl ?_;intro Γ c;(repeat first|refine tA rfl ?_ |refine s2 rfl λ_ a=>?_ |refine sP rfl (x) rfl ?_ |refine aU rfl ?_ |refine Aa ?_)
  ((refine aC rfl ?_ ?_<;>rintro⟨⟩);all_goals try (simp at a;done))
  (repeat first|refine tA rfl ?_|(refine Ag rfl ?_;refine gA rfl ?_;first| refine gS (λ_ _=>AG rfl rfl (by rfl) (by rfl)) ?_) |refine aU rfl ?_ |refine Aa ?_);refine Aj.settle [(4,.o (.ip [iD 0,.l [],.l []])),(5,eB false)] ⟨⟨_,rfl,.o (.box rfl (.cons .d (.cons .d (.cons .d .nil))))⟩,⟨_,rfl,.o .d⟩,trivial⟩ ?_;refine aR ⟨_,rfl,rfl⟩
end Go.Am
namespace Go.Am
open Go Go.Proofs
set_option linter.unusedVariables false
def EX(n:Nat)(p:W->Prop):Prop:=∃l:List W,l.length<=n/\∀w,p w->w∈l
theorem EX.sub{a b:Nat}{p q:W->Prop}(h:EX a p)(c:∀w,q w->p w)(hb:a<=b):EX b q:=by
 obtain⟨l,e,d⟩:=h;exact⟨l,by omega,λw hw=>d w (c w hw)⟩
theorem EX.none{n:Nat}{p:W->Prop}(h:∀w,¬p w):EX n p:=⟨[],by simp,λw hw=>absurd hw (h w)⟩
theorem EX.if{n:Nat}{p:W->Prop}{c:Prop}(h:c->EX n p):EX n (λw=>c/\p w):=by
 by_cases a:c
 ·exact(h a).sub (λw hw=>hw.2) (i7 _)
 ·exact .none λw hw=>a hw.1
theorem MD{U β:Type}(f:U->List β)(b:Nat):∀(l:List U),(∀x∈l,(f x).length<=b)->(l.flatMap f).length<=l.length*b
 | [],_=>by simp
 | x::l,h=>by
  have d:=MD f b l λy a=>h y (by simp [a]);have c:=h x (by simp);rw [nD,lf,k8,Nat.succ_mul];omega
theorem EX.ex{U:Type}{n b:Nat}{p:W->Prop}{q:U->W->Prop}(l:List U)(g:l.length<=n)(f:∀x∈l,EX b (q x))(h:∀w,p w->∃x∈l,q x w):EX (n*b) p:=by
 classical
 have e:∀x:U,∃k:List W,x∈l->k.length<=b/\∀w,q x w->w∈k:=λx=>by
  by_cases a:x∈l
  ·obtain⟨k,j,i⟩:=f x a;exact⟨k,λ_=>⟨j,i⟩⟩
  ·exact⟨[],λh=>absurd h a⟩
 have d:=λx=>mV (e x);refine⟨l.flatMap λx=>Classical.choose (e x),i9 (MD _ b l λx a=>(d x a).1) (kY b g),λw hw=>?_⟩;obtain⟨x,a,c⟩:=h w hw;exact lY.2 ⟨x,a,(d x a).2 w c⟩
theorem EX.map{U:Type}{n:Nat}{p:W->Prop}(f:U->W)(l:List U)(b:l.length<=n)(h:∀w,p w->∃x∈l,w=f x):EX n p:=
 ⟨l.map f,by simpa using b,λw hw=>by obtain⟨x,a,rfl⟩:=h w hw;exact d8.2 ⟨x,a,rfl⟩⟩
theorem aX(al:Int):(A2 al).length<=6:=by
 unfold A2;rw [gc];exact AK al 6
theorem Vy{al:Int}{b:Nat}{t:A9}(h:Iq al b t):EX 1764 (Qh (A2 al) t):=by
 have a:=h.rl;have f:=h.cl;refine EX.ex (n:=12) (b:=147) (q:=λr v=>∃m:W,(m=[]\/∃l∈A2 al,m=[l])/\∃x:W,(x=[]\/x∈t.cols)/\v=r++m++x) t.rows a (λr _=>?_) λw hw=>hw;refine EX.ex (n:=7) (b:=21) (q:=λm v=>∃x:W,(x=[]\/x∈t.cols)/\v=r++m++x) ([]::(A2 al).map λl=>[l]) (by have:=aX al;simp;omega) (λm _=>?_) λw hw=>?_
 ·exact EX.map (λx=>r++m++x) ([]::t.cols) (by simp;omega) λw ⟨x,c,hw⟩=>⟨x,by simpa using c,hw⟩
 ·obtain⟨m,d,g⟩:=hw
  refine⟨m,?_,g⟩
  rcases d with rfl|⟨l,e,rfl⟩
  ·simp
  ·exact kP _ (d8.2 ⟨l,e,rfl⟩)
theorem Ox{L:W->Bool}{ls:List UInt8}:∀(n:Nat) (t:A9),(DO L ls n t).length<=n+1
 | 0,t=>by simp [DO]
 | n + 1,t=>by
  unfold DO
  cases Bb L ls t with
  | none=>simp
  | some w=>
   dsimp only;split
   ·simp
   ·have:=Ox (L:=L) (ls:=ls) n ⟨t.rows++[w],t.cols⟩
    simp;omega
theorem Vx{L:W->Bool}{al:Int}{b:Nat}{t:A9}(h:Iq al b t):EX 24696 (λv=>∃y∈DO L (A2 al) 13 t,Qh (A2 al) y v):=
 EX.ex (n:=14) (b:=1764) (q:=λy v=>Qh (A2 al) y v) (DO L (A2 al) 13 t) (Ox 13 t) (λy a=>Vy (h.grow a)) λw hw=>hw
def okB(al:Int)(w:W):Prop:=AD (A2 al) w/\w.length<=50000
theorem YP(al:Int):Se (okB al) al:=λw b a=>⟨b,a⟩
theorem UW{U:Type}:∀(l m:List U),l.Nodup->(∀x∈l,x∈m)->l.length<=m.length
 | [],_,_,_=>by simp
 | x :: l,m,d,f=>by
  obtain⟨a,b,rfl⟩:=List.append_of_mem (f x (by simp));rw [l6] at d
  have h:=UW l (a++b) d.2 λy e=>by
   have c:=f y (kP _ e);simp only [em,kw] at c |-
   rcases c with c|rfl|c
   ·exact .inl c
   ·exact absurd e d.1
   ·exact .inr c
  simp at h |-;omega
theorem aG{t:Cw}{n:Nat}{p:W->Prop}{al:Int}(h:EX n p)(j:n<=20000000)(hb:∀w,p w->okB al w):cR t p:=by
 obtain⟨k,hk,e⟩:=h;intro l c f
 have a:l ⊆ CD t::(k.filter λw=>w.length<=50000).flatMap λw=>(List.range 50001).map λi=>Nl t (CD t) (w.take i):=λF g=>by
  rcases f F g with rfl|⟨u,v,d,rfl⟩
  ·simp
  ·have b:=(hb _ d).2
   refine kP _ (lY.2 ⟨u++v,lk.2 ⟨e _ d,by simpa using b⟩,d8.2 ⟨u.length,kB.2 (by simp at b;omega),by simp⟩⟩)
 have b:=UW _ _ c a;have q:=MD (λw:W=>(List.range 50001).map λi=>Nl t (CD t) (w.take i)) 50001 (k.filter λw=>w.length<=50000) (λx _=>by simp);have o:(k.filter λw=>w.length<=50000).length<=n:=i9 (mS _ _) hk;rw [k8] at b;have m:(k.filter λw=>decide (w.length<=50000)).length*50001<=20000000*50001:=kY _ (by omega);omega
theorem gu{al:Int}{w:W}(h:okB al w):gr al w:=⟨h.1,i9 h.2 (by omega)⟩
theorem cd{te:FB}{n:Nat}{p:W->Prop}(h:EX n p)(b:n<=20000000)(hb:∀w,p w->okB (Bq te) w):(∀w,p w->gr (Bq te) w)/\Tt te p:=by
 refine⟨λw hw=>gu (hb w hw),?_⟩;obtain⟨kn,a,s,q,al⟩:=te
 cases kn with
 | true=>intro h;cases h
 | false=>exact λ_=>aG h b hb
def cu(te:FB)(x:A9)(v:W):Prop:=Vm (Bq te) x/\∃y∈DO (GI te) (A2 (Bq te)) 13 x,Qh (A2 (Bq te)) y v
theorem ax{te:FB}{x:A9}:∀v,cu te x v->okB (Bq te) v:=λv ⟨h,y,a,b⟩=>h.bd.kr (YP _) (by omega) y a v b
theorem Vo(te:FB)(x:A9):EX 24696 (cu te x):=EX.if λh=>Vx h.bd
theorem O6(te:FB)(x:A9):∃ok:W->Prop,(∀w,ok w->gr (Bq te) w)/\Tt te ok/\(Vm (Bq te) x->∀y∈DO (GI te) (A2 (Bq te)) 13 x,KK ok (A2 (Bq te)) y):=by
 obtain⟨d,c⟩:=cd (te:=te) (Vo te x) (by omega) ax;exact⟨_,d,c,λh y a v b=>⟨h,y,a,b⟩⟩
end Go.Am
namespace Go.Am
open Go Go.Proofs
set_option maxHeartbeats 1000000
set_option maxRecDepth 4000
attribute [local irreducible] AU BZ Lex Br Aj Spec
variable {TB:Bp}
def Tu:List W:=[[97,98,32,50,32,48,97,49,32,49,98,48],[97,98,99,32,51,32,48,97,49,32,49,98,50,32,50,99,48],[97,98,32,51,32,48,97,48,32,48,97,49,32,48,98,48,32,49,98,50,32,50,97,50],[98,99,32,50,32,48,98,49,32,49,99,48],[98,99,32,51,32,48,98,49,32,48,99,48,32,49,99,50,32,50,98,50,32,50,99,50],[45,32,49],[97,32,49,32,48,97,48],[97,99,32,52,32,48,97,49,32,48,97,50,32,49,99,51,32,50,97,50,32,51,97,48,32,51,99,51],[97,98,99,32,52,32,48,97,48,32,48,98,49,32,49,98,50,32,49,99,48,32,50,99,51,32,51,97,49],[97,98,32,53,32,48,97,48,32,48,97,49,32,48,98,48,32,49,97,50,32,49,98,50,32,50,97,51,32,50,98,51,32,51,97,52,32,51,98,52],[97,98,100,32,51,32,48,97,49,32,48,100,48,32,49,98,48,32,49,100,50]]
theorem WK:∀w∈Tu,w.length<=60:=by decide
theorem SG:Pure Tryz.prog TB 285 [] (Bx Tu):=by
 refine eN Tryz.func285 rfl (by kernel_rfl) rfl ?_;intro Γ a;(repeat first|refine tA rfl ?_ |refine aU rfl ?_ |refine Aa ?_);refine aR ⟨_,rfl,rfl⟩
theorem OA(b:List UInt8)(hb:b.length<=2000)(p:Int)(L:0<=p/\p < 700000000):Spec Tryz.prog TB 254 [(0,AN b p)] 1 [.o (.ptr 0 2 0 0)] (Lw b p 410 (λs=>s.es.length<=400)):=by
 obtain⟨c,N,M,hp⟩:=AR (TB:=TB) b hb p 3 (by omega);obtain⟨w,hw,H⟩:=Rm (TB:=TB) b hb (p+1) (by omega) Tu (by decide) (by decide);have G:=WK w hw;have z:=Hn (TB:=TB) w (by omega);have g:∀q:Int,p<=q/\q<=p+2->∃(l j k:Int),(0<=j/\j<=8)/\Spec Tryz.prog TB 51 [(0,AN b q)] 1 [.o (.ptr 0 2 0 0),AW [3,6,7,5,1,0,12]] (λx σ nx=>x=eI .i64 l/\σ=[(0,AN b (q+1))]/\nx=1)/\
  Spec Tryz.prog TB 51 [(0,AN b (q+1))] 1 [.o (.ptr 0 2 0 0),AW [3,2,4,1,5]] (λx σ nx=>x=eI .i64 j/\σ=[(0,AN b (q+1+1))]/\nx=1)/\
  Spec Tryz.prog TB 51 [(0,AN b (q+1+1))] 1 [.o (.ptr 0 2 0 0),AW [3,2,4,6]] (λx σ nx=>x=eI .i64 k/\σ=[(0,AN b (q+1+1+1))]/\nx=1):=λq A=>by
  obtain⟨l,K,u⟩:=BR (TB:=TB) b hb q (by omega) [3,6,7,5,1,0,12] (by decide) (by decide);obtain⟨j,v,t⟩:=BR (TB:=TB) b hb (q+1) (by omega) [3,2,4,1,5] (by decide) (by decide);obtain⟨k,J,r⟩:=BR (TB:=TB) b hb (q+1+1) (by omega) [3,2,4,6] (by decide) (by decide);exact⟨l,j,k,by simp at v;omega,u,t,r⟩
 refine eR Tryz.func254 rfl (by kernel_rfl) rfl ?_;intro Γ a;(repeat first|refine tA rfl ?_ |refine aU rfl ?_ |refine Aa ?_);(refine pW rfl ?_ rfl (by rfl);refine Ae [0] rfl rfl (hp) ⟨rfl,by decide,by decide⟩ rfl (by simp[cX,zC,a,cN]) ?_;rintro h d e ⟨rfl,rfl,rfl⟩ _);(repeat first|refine s2 rfl λ_ I=>?_ |refine Aa ?_);(refine aC rfl ?_ ?_<;>rintro⟨⟩)
 ·(repeat first|refine tA rfl ?_ |refine sP rfl (SG) rfl ?_ |refine aU rfl ?_)
  (refine pW rfl ?_ rfl (by rfl);refine Ae [0] rfl rfl (H) ⟨rfl,by decide,by decide⟩ rfl (by simp[cX,zC,a,cN]) ?_;rintro h d e ⟨rfl,rfl,rfl⟩ _);(refine pW rfl ?_ rfl (by rfl);refine Ae [] rfl rfl (z) ⟨rfl,by decide,by decide⟩ rfl trivial ?_;rintro h d e ⟨⟨y,ok⟩,F,rfl,rfl,rfl⟩ _);have B:y.es.length<=w.length+1:=F;(repeat first|refine tA rfl ?_ |refine aU rfl ?_ |refine Aa ?_);(refine aC rfl ?_ ?_<;>rintro⟨⟩)
  ·(repeat first|refine tA rfl ?_ |refine aU rfl ?_ |refine Aa ?_)
   exact aR ⟨_,rfl,[0],Dm y,[(0,AN b (p+1+1))],⟨by intro i hi;match i with|0=>rfl,by decide⟩,rfl,by (simp[cX,zC,a,cN]),p+1+1,y,by omega,by show y.es.length<=400;omega,rfl,rfl,rfl⟩
  refine aK ?_;obtain⟨l,j,k,v,u,t,r⟩:=g (p+1+1) (by omega);have f:=HA (TB:=TB) b hb (p+1+1+1+1+1) (by omega) l j k (by omega);(repeat first|refine tA rfl ?_ |refine aU rfl ?_);(refine pW rfl ?_ rfl (by rfl);refine Ae [0] rfl rfl (u) ⟨rfl,by decide,by decide⟩ rfl (by simp[cX,zC,a,cN]) ?_;rintro h d e ⟨rfl,rfl,rfl⟩ _);(repeat first|refine tA rfl ?_);(refine pW rfl ?_ rfl (by rfl);refine Ae [0] rfl rfl (t) ⟨rfl,by decide,by decide⟩ rfl (by simp[cX,zC,a,cN]) ?_;rintro h d e ⟨rfl,rfl,rfl⟩ _);(repeat first|refine tA rfl ?_);(refine pW rfl ?_ rfl (by rfl);refine Ae [0] rfl rfl (r) ⟨rfl,by decide,by decide⟩ rfl (by simp[cX,zC,a,cN]) ?_;rintro h d e ⟨rfl,rfl,rfl⟩ _);(refine pW rfl ?_ rfl (by rfl);refine BG [0] rfl rfl 1 (f) (by decide) ⟨rfl,by decide,by decide⟩ rfl (by simp[cX,zC,a,cN]) ?_;rintro h d e ⟨q,n,A,m,rfl,rfl,rfl⟩ _);(repeat first|refine tA rfl ?_ |refine Aa ?_);exact aR ⟨_,rfl,[0],Dm n,[(0,AN b q)],⟨by intro i hi;match i with|0=>rfl,by decide⟩,rfl,by (simp[cX,zC,a,cN]),q,n,by omega,m.2.2,rfl,rfl,rfl⟩
 refine aK ?_;obtain⟨l,j,k,v,u,t,r⟩:=g (p+1) (by omega);have f:=HA (TB:=TB) b hb (p+1+1+1+1) (by omega) l j k (by omega);(repeat first|refine tA rfl ?_ |refine aU rfl ?_);(refine pW rfl ?_ rfl (by rfl);refine Ae [0] rfl rfl (u) ⟨rfl,by decide,by decide⟩ rfl (by simp[cX,zC,a,cN]) ?_;rintro h d e ⟨rfl,rfl,rfl⟩ _);(repeat first|refine tA rfl ?_);(refine pW rfl ?_ rfl (by rfl);refine Ae [0] rfl rfl (t) ⟨rfl,by decide,by decide⟩ rfl (by simp[cX,zC,a,cN]) ?_;rintro h d e ⟨rfl,rfl,rfl⟩ _);(repeat first|refine tA rfl ?_);(refine pW rfl ?_ rfl (by rfl);refine Ae [0] rfl rfl (r) ⟨rfl,by decide,by decide⟩ rfl (by simp[cX,zC,a,cN]) ?_;rintro h d e ⟨rfl,rfl,rfl⟩ _);(refine pW rfl ?_ rfl (by rfl);refine BG [0] rfl rfl 1 (f) (by decide) ⟨rfl,by decide,by decide⟩ rfl (by simp[cX,zC,a,cN]) ?_;rintro h d e ⟨q,n,A,m,rfl,rfl,rfl⟩ _);(repeat first|refine tA rfl ?_ |refine Aa ?_);exact aR ⟨_,rfl,[0],Dm n,[(0,AN b q)],⟨by intro i hi;match i with|0=>rfl,by decide⟩,rfl,by (simp[cX,zC,a,cN]),q,n,by omega,m.2.2,rfl,rfl,rfl⟩
abbrev XG(r:Sys×AY×Sys):E:=.t [(true,(Cz r.1).map .d),(true,(BP r.2.1).map .d),(true,(Cz r.2.2).map .d)]
structure fC (r:Sys×AY×Sys):Prop where
 a:r.1.es.length<=400
 b:Hf 41 r.2.1
 c:r.2.2.es.length<=400
def aj(b:List UInt8)(p m:Int)(x:E)(σ:Ab)(nx:Nat):Prop:=∃(p':Int) (r:Sys×AY×Sys),(p<=p'/\p'<=p+m)/\fC r/\x=XG r/\σ=[(0,AN b p')]/\nx=1
theorem Hf.upto{m n:Nat}{a:AY}(h:Hf m a)(c:m<=n):Hf n a:=⟨by have:=h.nx;omega,by have:=h.ac;omega,λr b=>by have:=h.row r b;omega⟩
theorem cD{C X:Int->Sys->Prop}{Y:Prop}(h:∀q s,C q s->X q s)(hk:(∀q s,C q s->X q s)->Y):Y:=hk h
theorem MB(b:List UInt8)(hb:b.length<=2000)(p:Int)(T:0<=p/\p < 600000000):Spec Tryz.prog TB 194 [(0,AN b p)] 1 [.o (.ptr 0 2 0 0)] (aj b p 2000):=by
 have S:=Mz (TB:=TB) b hb p (by omega);refine eR Tryz.func194 rfl (by kernel_rfl) rfl ?_;intro Γ a;(repeat first|refine tA rfl ?_ |refine aU rfl ?_ |refine Aa ?_);(refine pW rfl ?_ rfl (by rfl);refine Ae [0] rfl rfl (S) ⟨rfl,by decide,by decide⟩ rfl (by simp[cX,zC,a,cN]) ?_;rintro t e f ⟨K,H,N,z,rfl,rfl,rfl⟩ _);(repeat first|refine tA rfl ?_ |refine aU rfl ?_ |refine Aa ?_);have R:=Mz (TB:=TB) b hb K (by omega);(refine pW rfl ?_ rfl (by rfl);refine Ae [0] rfl rfl (R) ⟨rfl,by decide,by decide⟩ rfl (by simp[cX,zC,a,cN]) ?_;rintro t e f ⟨x,w,M,y,rfl,rfl,rfl⟩ _);(repeat first|refine tA rfl ?_ |refine aU rfl ?_ |refine Aa ?_);obtain⟨c,c1,Z,P⟩:=AR (TB:=TB) b hb x 4 (by omega);(refine pW rfl ?_ rfl (by rfl);refine Ae [0] rfl rfl (P) ⟨rfl,by decide,by decide⟩ rfl (by simp[cX,zC,a,cN]) ?_;rintro t e f ⟨rfl,rfl,rfl⟩ _);apply cD (C:=λq s=>(p<=q/\q<=p+1300)/\s.es.length<=400)
 case hk=>
  intro hk;(repeat first|refine s2 rfl λ_ G=>?_ |refine Aa ?_);(refine aC rfl ?_ ?_<;>rintro⟨⟩)
  ·(repeat first|refine tA rfl ?_ |refine aU rfl ?_)
   have F:=OA (TB:=TB) b hb (x+1) (by omega);(refine pW rfl ?_ rfl (by rfl);refine Ae [0] rfl rfl (F) ⟨rfl,by decide,by decide⟩ rfl (by simp[cX,zC,a,cN]) ?_;rintro t e f ⟨g,j,v,n,rfl,rfl,rfl⟩ _);(repeat first|refine tA rfl ?_);refine Aa ?_;refine Aj.Ak [0] [] rfl rfl [(2,.o (.ptr 1 3 0 0)),(3,.o (.ptr 2 3 0 0)),(4,.o (.ptr 3 3 0 0)),(5,.o (.ptr 4 3 0 0)),(6,.o (.ptr 5 3 0 0))] [(0,AN b g),(1,.cells 25 3 [[.d (iD 0),.d (iD 0),.d (.l [])]]),(2,.cells 29 3 [[.d (iD 0),.d (.l []),.d (.l [])]]),(3,.cells 25 3 [[.d (iD 0),.d (iD 0),.d (.l [])]]),(4,.cells 25 3 [(Cz j).map .d]),(5,.cells 25 3 [(Cz w).map .d])] [0,1,2,3,4,5] (rl a rfl) (by (simp[cX,zC,a,cN,Af,eC])) ?_;(try dsimp only[cA,cB]);exact hk g j ⟨by omega,n⟩
  ·refine aK ?_
   generalize v:x+1=g at *;refine Aj.Ak [0] [] rfl rfl [(2,.o (.ptr 1 3 0 0)),(3,.o (.ptr 2 3 0 0)),(4,.o (.ptr 3 3 0 0)),(5,.o (.ptr 4 3 0 0)),(6,.o (.ptr 5 3 0 0))] [(0,AN b g),(1,.cells 25 3 [[.d (iD 0),.d (iD 0),.d (.l [])]]),(2,.cells 29 3 [[.d (iD 0),.d (.l []),.d (.l [])]]),(3,.cells 25 3 [[.d (iD 0),.d (iD 0),.d (.l [])]]),(4,.cells 25 3 [(Cz H).map .d]),(5,.cells 25 3 [(Cz w).map .d])] [0,1,2,3,4,5] (rl a rfl) (by (simp[cX,zC,a,cN,Af,eC])) ?_;(try dsimp only[cA,cB]);exact hk g H ⟨by omega,z.2⟩
 case h =>
  intro g j ⟨v,n⟩;(repeat first|refine tA rfl ?_ |refine aU rfl ?_);obtain⟨Y,X,V,A⟩:=AR (TB:=TB) b hb g 4 (by omega);(refine pW rfl ?_ rfl (by rfl);refine Ae [0] rfl rfl (A) ⟨rfl,by decide,by decide⟩ rfl (by simp[cX,zC,a,cN]) ?_;rintro t e f ⟨rfl,rfl,rfl⟩ _);apply cD (C:=λq s=>(p<=q/\q<=p+1800)/\s.es.length<=400)
  case hk=>
   intro hk;(repeat first|refine s2 rfl λ_ G=>?_ |refine Aa ?_);(refine aC rfl ?_ ?_<;>rintro⟨⟩)
   ·(repeat first|refine tA rfl ?_ |refine aU rfl ?_)
    have F:=OA (TB:=TB) b hb (g+1) (by omega);(refine pW rfl ?_ rfl (by rfl);refine Ae [0] rfl rfl (F) ⟨rfl,by decide,by decide⟩ rfl (by simp[cX,zC,a,cN]) ?_;rintro t e f ⟨k,r,u,m,rfl,rfl,rfl⟩ _);(repeat first|refine tA rfl ?_);refine Aa ?_;refine Aj.Ak [0] [] rfl rfl [(2,.o (.ptr 1 3 0 0)),(3,.o (.ptr 2 3 0 0)),(4,.o (.ptr 3 3 0 0)),(5,.o (.ptr 4 3 0 0)),(6,.o (.ptr 5 3 0 0))] [(0,AN b k),(1,.cells 25 3 [[.d (iD 0),.d (iD 0),.d (.l [])]]),(2,.cells 29 3 [[.d (iD 0),.d (.l []),.d (.l [])]]),(3,.cells 25 3 [[.d (iD 0),.d (iD 0),.d (.l [])]]),(4,.cells 25 3 [(Cz j).map .d]),(5,.cells 25 3 [(Cz r).map .d])] [0,1,2,3,4,5] (rl a rfl) (by (simp[cX,zC,a,cN,Af,eC])) ?_;(try dsimp only[cA,cB]);exact hk k r ⟨by omega,m⟩
   ·refine aK ?_
    generalize u:g+1=k at *;refine Aj.Ak [0] [] rfl rfl [(2,.o (.ptr 1 3 0 0)),(3,.o (.ptr 2 3 0 0)),(4,.o (.ptr 3 3 0 0)),(5,.o (.ptr 4 3 0 0)),(6,.o (.ptr 5 3 0 0))] [(0,AN b k),(1,.cells 25 3 [[.d (iD 0),.d (iD 0),.d (.l [])]]),(2,.cells 29 3 [[.d (iD 0),.d (.l []),.d (.l [])]]),(3,.cells 25 3 [[.d (iD 0),.d (iD 0),.d (.l [])]]),(4,.cells 25 3 [(Cz j).map .d]),(5,.cells 25 3 [(Cz w).map .d])] [0,1,2,3,4,5] (rl a rfl) (by (simp[cX,zC,a,cN,Af,eC])) ?_;(try dsimp only[cA,cB]);exact hk k w ⟨by omega,y.2⟩
  case h=>
   intro k r ⟨u,m⟩;have Q:=NZ (TB:=TB) b hb k (by omega) (VI .i64 j.al r.al);(repeat first|refine aU rfl ?_);refine rG ⟨Fe [(0,14),(3,14),(5,15),(7,1048),(8,15),(9,1032),(10,1032),(11,1)],Xm [0,1,2,3,4,5,6,8,7,9,10,11]⟩ (by kernel_rfl) ?_;(repeat first|refine tA rfl ?_);(refine Ag rfl ?_;refine BE ?_ rfl ⟨rfl,rfl⟩;refine Ae [0] rfl rfl (Q) ⟨rfl,by decide,by decide⟩ rfl (by simp[cX,zC,a,cN]) ?_;rintro t e f ⟨I,J,L,B,rfl,rfl,rfl⟩ _;refine⟨Hx 4 5 rfl rfl rfl,?_⟩);(refine Ag rfl ?_;refine YT ?_ rfl ⟨rfl,rfl⟩;refine DQ rfl rfl rfl rfl (by rfl) rfl (ce rfl) ?_;refine⟨Cy 5 rfl rfl,?_⟩);(refine Ag rfl ?_;refine YT ?_ rfl ⟨rfl,rfl⟩;refine DQ rfl rfl rfl rfl (by rfl) rfl (ce rfl) ?_;refine⟨Cy 5 rfl rfl,?_⟩);(repeat first|refine tA rfl ?_ |refine Aa ?_);exact aR ⟨_,rfl,[0],XG (j,J,r),[(0,AN b I)],⟨by intro i hi;match i with|0=>rfl,by decide⟩,rfl,by (simp[cX,zC,a,cN]),I,(j,J,r),by omega,⟨n,B.upto (by omega),m⟩,rfl,rfl,rfl⟩
theorem Sp{c:C}{L:W->Bool}{ok:W->Prop}(b:GK Tryz.prog TB c L ok)(al:Int)(t:A9)(ht:TL ok t)(f:∀w∈t.rows,∀l∈A2 al,∀x∈t.cols,ok (w++[l]++x)) :
 Pure Tryz.prog TB 64 [Pe al c,CW t] (eB (Bb L (A2 al) t).isNone):=by
 have i:=Dy c b.Bz;have a:=Jh b al t ht f
 have e:Bb L (A2 al) t=none\/∃w,Bb L (A2 al) t=some w:=by cases Bb L (A2 al) t<;>simp
 rcases e with h|⟨w,h⟩<;>rw [h] at a |- <;> (
  refine eG Tryz.func64 rfl (by kernel_rfl) rfl ?_;intro Γ d;(repeat first|refine aU rfl ?_);(refine pW rfl ?_ rfl (by rfl);refine FU rfl rfl ?_);(refine Ag rfl ?_;refine Dg (λ_ _=>EI rfl rfl rfl) rfl ?_);(repeat first|refine tA rfl ?_ |refine s2 rfl λ_ g=>?_|(refine Ag rfl ?_;refine gA rfl ?_;first| refine gS (λ_ _=>Bu rfl rfl (by simp [E.Bz,C.CA,C.Bz,b.Bz,eC]) a rfl) ?_) |refine aU rfl ?_ |refine Aa ?_)
  (repeat' first| (refine aC rfl ?_ ?_<;>rintro⟨⟩));all_goals try contradiction
  (subst_vars;exact aR ⟨_,rfl,rfl⟩))
theorem NR(L:W->Bool)(al:Int)(t:A9):Dx L al t=(A1 L al t && (Bb L (A2 al) t).isNone):=rfl
theorem GY{tabs:List (Nat×Obj)}[h:FA ⟨tabs,none⟩]{te:FB}{ok:W->Prop}(b:Ga te=true)(a:∀w,ok w->gr (Bq te) w)(g:Tt te ok) :
 (∃c,Pure Tryz.prog ⟨tabs,none⟩ 62 [C7 te] (.t [(true,[.d (iD (Bq te)),c]),(false,[.d (bD true)])])/\GK Tryz.prog ⟨tabs,none⟩ c (GI te) ok/\c.Bz=true)\/
 (∃ (t:Cw) (m:E8),KM t ok m/\AS Tryz.prog ⟨tabs,none⟩ 62 0 [] 0 [C7 te] (λx σ nx=>x=.t [(true,[.d (iD (Bq te)),HH (.ptr 0 14 0 0)]),(false,[.d (bD true)])]/\σ=KF t m/\nx=5)/\
  ∀r,GK Tryz.prog ⟨tabs,some (Lf t ok,r)⟩ (HH (JC r)) (GI te) ok/\FA ⟨tabs,some (Lf t ok,r)⟩):=by
 obtain⟨kn,p,s,q,al⟩:=te
 cases kn with
 | true=>
  have hp:AL p=true:=b;exact .inl ⟨_,N7 hp s q al,(c7 hp s q al true).sub a,rfl⟩
 | false=>
  have ht:A3 ⟨s,q,al⟩=true:=b;have e:cR ⟨s,q,al⟩ ok:=g rfl;obtain⟨m,f,hno⟩:=N9 (TB:=⟨tabs,none⟩) p ht ok;exact .inr ⟨⟨s,q,al⟩,m,f,hno,λr=>⟨jj ht a e,eL h⟩⟩
theorem Kx{te:FB}(a:Ga te=false):Pure Tryz.prog TB 62 [C7 te] (.t [(true,[.d (iD 0),.d (.v .nilFunc)]),(false,[.d (bD false)])]):=by
 obtain⟨kn,p,s,q,al⟩:=te
 cases kn with
 | true=>exact N6 a s q al
 | false=>exact N8 p a
theorem Ny{te:FB}(a:Ga te=true):BO (Bq te)=true:=by
 obtain⟨kn,p,s,q,al⟩:=te
 cases kn with
 | true=>exact(Ax a).1
 | false=>
  have ht:A3 ⟨s,q,al⟩=true:=a;unfold A3 at ht;simp only [d5] at ht;exact ht.2.2
theorem Xr{L:W->Bool}{ok:W->Prop}{X:Bp->Ctx->C->Prop}{Y:Prop}(h:∀(TB1:Bp) (Γ1:Ctx) (a:C),Γ1.V.nx=0->FA TB1->GK Tryz.prog TB1 a L ok->X TB1 Γ1 a)
 (hk:(∀(TB1:Bp) (Γ1:Ctx) (a:C),Γ1.V.nx=0->FA TB1->GK Tryz.prog TB1 a L ok->X TB1 Γ1 a)->Y):Y:=hk h
theorem Uh{tabs:List (Nat×Obj)}[hTb:FA ⟨tabs,none⟩]{te:FB}(x:A9)(v:TS x):Pure Tryz.prog ⟨tabs,none⟩ 24 [C7 te,CW x] (eB (Ga te && A1 (GI te) (Bq te) x)):=by
 by_cases b:Ga te=true
 ·obtain⟨ok,j,y,n⟩:=O6 te x
  rw [b,lX];refine eG Tryz.func24 rfl (by kernel_rfl) rfl ?_;intro Γ a
  apply Xr (L:=GI te) (ok:=ok);case hk=>(intro hk;rcases GY (tabs:=tabs) b j y with ⟨c,hno,e,f⟩|⟨t,m,w,hno,e⟩;(focus (have p:=Dy c f;(repeat first|refine tA rfl ?_ |refine aU rfl ?_ |refine Aa ?_);(repeat first|refine tA rfl ?_|(refine Ag rfl ?_;refine gA rfl ?_;first| refine gS (λ_ _=>Bu rfl rfl rfl hno (by simp [E.Bz,C.CA,C.Bz,f])) ?_));refine Aa ?_;refine Aj.Ak [3,6] [] rfl rfl [(5,.o (.ptr 0 2 0 0))] [(0,.cells 90 2 [[.d (iD (Bq te)),c]])] [0] (rl a rfl) (by (simp[cX,zC,a,p,f])) ?_;(try dsimp only[cA,cB]);obtain⟨TB0,k⟩:∃T,T=(⟨tabs,none⟩:Bp):=⟨_,rfl⟩;obtain⟨Γ0,g⟩:∃T,T=Γ:=⟨_,rfl⟩;rw [<-k] at e hTb |-;rw [<-g] at a |-;exact hk TB0 Γ0 c a hTb e));((repeat first|refine tA rfl ?_ |refine aU rfl ?_ |refine Aa ?_);(refine pW rfl ?_ rfl (by rfl);refine BG [] rfl rfl 0 (hno) (by decide) ⟨rfl,by decide,by decide⟩ rfl (by simp[cX,zC,a,AO]) ?_;rintro z s u ⟨rfl,rfl,rfl⟩ _);(repeat first|refine tA rfl ?_);refine Aa ?_;refine Aj.dy (Lf t ok) ⟨m,w⟩ 0 [1,2,3,4] (λr=>[(3,.o (.ip [Bd x.rows,Bd x.cols])),(6,eB true),(5,.o (.ptr 5 2 0 0))]) (λr=>[(5,.cells 90 2 [[.d (iD (Bq te)),HH (JC r)]])]) (by decide) rfl (by ((repeat' first|exact tI|rfl|refine And.intro ?_ ?_)<;>(simp[cX,zC,a,AO]<;>rfl))) ⟨_,_,_,_,rfl⟩ (λr=>by repeat' first|exact tI|refine And.intro ⟨_,rfl,.Bo⟩ ?_) (λr=>by repeat' first|exact tI|refine And.intro ⟨by decide,.inl rfl⟩ ?_|refine And.intro ⟨by decide,.inr ⟨_,_,_,_,rfl,rfl,.cons .Bo (.cons .mv .nil)⟩⟩ ?_) λr Γ' i=>?_;have a:Γ'.V.nx=0:=(by rw [i];exact a);refine Aj.Ak [3,6] [] rfl rfl [(5,.o (.ptr 0 2 0 0))] [(0,.cells 90 2 [[.d (iD (Bq te)),HH (JC r)]])] [5] (rl a rfl) (by (simp[cX,zC,a])) ?_;(try dsimp only[cA,cB]);exact hk _ Γ' _ a (e r).2 (e r).1))
  case h=>
   intro TB1 Γ1 A a q e;have l:=Ft e (Bq te) (Ny b) x (λh=>n h x Eh) v;(repeat first|refine tA rfl ?_|(refine Ag rfl ?_;refine gA rfl ?_;first| refine gS (λ_ _=>Bu rfl rfl (by simp [E.Bz,C.Bz,C.CA,e.Bz]) (l) rfl) ?_) |refine aU rfl ?_ |refine Aa ?_);(subst_vars;exact aR ⟨_,rfl,rfl⟩)
 ·rw [lB] at b
  have hno:=Kx (TB:=({ tabs:=tabs,hid:=none }:Bp)) b;rw [b,Bool.false_and];refine eG Tryz.func24 rfl (by kernel_rfl) rfl ?_;intro Γ a;(repeat first|refine tA rfl ?_ |refine sP rfl (hno) rfl ?_ |refine aU rfl ?_ |refine Aa ?_);(subst_vars;exact aR ⟨_,rfl,rfl⟩)
def O5(A:W->Bool)(al:Int)(t:A9)(w:W):Option A9:=if A1 A al t && NY al w then Sh t w else none
noncomputable def Xx(te:FB)(x:A9):Option A9:=if (Ga te && A1 (GI te) (Bq te) x)=true then Bw (GI te) (A2 (Bq te)) 13 x else none
noncomputable def fJ(te:FB)(x:A9):Option AY:=if (Ga te && Dx (GI te) (Bq te) x)=true then some (Bn (GI te) (Bq te) x) else none
section
variable {tabs:List (Nat×Obj)}[hTb:FA ⟨tabs,none⟩]{te:FB}
include hTb
theorem Ug(x:A9)(A:TS x):Pure Tryz.prog ⟨tabs,none⟩ 42 [C7 te,CW x] (KR (Xx te x)):=by
 unfold Xx;by_cases e:Ga te=true
 ·obtain⟨ok,p,F,q⟩:=O6 te x
  rw [e,lX];refine eG Tryz.func42 rfl (by kernel_rfl) rfl ?_;intro Γ a
  apply Xr (L:=GI te) (ok:=ok);case hk=>(intro hk;rcases GY (tabs:=tabs) e p F with ⟨c,hno,f,i⟩|⟨t,m,B,hno,f⟩;(focus (have v:=Dy c i;(repeat first |refine sN rfl ?_ |((first|refine sA rfl ?_ ?_|refine s4 rfl ‹_› rfl ?_ ?_);first|exact tI|omega|simp only[oZ] at *;omega) |refine s2 rfl λ_ b=>?_ |refine s3 rfl ?_ ?_<;>rintro rfl |refine aU rfl ?_ |refine Aa ?_);(repeat first |refine sN rfl ?_ |((first|refine sA rfl ?_ ?_|refine s4 rfl ‹_› rfl ?_ ?_);first|exact tI|omega|simp only[oZ] at *;omega) |refine s2 rfl λ_ b=>?_|(refine Ag rfl ?_;refine gA rfl ?_;first|refine gS (λ_ _=>Bu rfl rfl rfl hno (by simp [E.Bz,C.CA,C.Bz,i])) ?_) |refine s3 rfl ?_ ?_<;>rintro rfl);refine Aa ?_;refine Aj.Ak [3,7] [] rfl rfl [(4,.o (.ptr 0 2 0 0)),(6,.o (.ptr 1 2 0 0))] [(0,.cells 47 2 [[.d (.l []),.d (.l [])]]),(1,.cells 90 2 [[.d (iD (Bq te)),c]])] [0,1] (rl a rfl) (by ((repeat' first|exact tI|rfl|refine And.intro ?_ ?_)<;>(simp[cX,zC,a,v,i]<;>rfl))) ?_;(try dsimp only[cA,cB]);obtain⟨TB0,s⟩:∃T,T=(⟨tabs,none⟩:Bp):=⟨_,rfl⟩;obtain⟨Γ0,j⟩:∃T,T=Γ:=⟨_,rfl⟩;rw [<-s] at f hTb |-;rw [<-j] at a |-;exact hk TB0 Γ0 c a hTb f));((repeat first |refine sN rfl ?_ |((first|refine sA rfl ?_ ?_|refine s4 rfl ‹_› rfl ?_ ?_);first|exact tI|omega|simp only[oZ] at *;omega) |refine s2 rfl λ_ b=>?_ |refine s3 rfl ?_ ?_<;>rintro rfl |refine aU rfl ?_ |refine Aa ?_);(refine pW rfl ?_ rfl (by rfl);refine BG [] rfl rfl 0 (hno) (by decide) ⟨rfl,by decide,by decide⟩ rfl (by simp[cX,zC,a,AO]) ?_;rintro G y z ⟨rfl,rfl,rfl⟩ _);(repeat first |refine sN rfl ?_ |((first|refine sA rfl ?_ ?_|refine s4 rfl ‹_› rfl ?_ ?_);first|exact tI|omega|simp only[oZ] at *;omega) |refine s2 rfl λ_ b=>?_ |refine s3 rfl ?_ ?_<;>rintro rfl);refine Aa ?_;refine Aj.dy (Lf t ok) ⟨m,B⟩ 1 [2,3,4,5] (λr=>[(3,.o (.ip [Bd x.rows,Bd x.cols])),(7,eB true),(4,.o (.ptr 0 2 0 0)),(6,.o (.ptr 6 2 0 0))]) (λr=>[(0,.cells 47 2 [[.d (.l []),.d (.l [])]]),(6,.cells 90 2 [[.d (iD (Bq te)),HH (JC r)]])]) (by decide) rfl (by ((repeat' first|exact tI|rfl|refine And.intro ?_ ?_)<;>(simp[cX,zC,a,AO]<;>rfl))) ⟨_,_,_,_,rfl⟩ (λr=>by repeat' first|exact tI|refine And.intro ⟨_,rfl,.Bo⟩ ?_) (λr=>by repeat' first|exact tI|refine And.intro ⟨by decide,.inl rfl⟩ ?_|refine And.intro ⟨by decide,.inr ⟨_,_,_,_,rfl,rfl,.cons .Bo (.cons .mv .nil)⟩⟩ ?_) λr Γ' k=>?_;have a:Γ'.V.nx=0:=(by rw [k];exact a);refine Aj.Ak [3,7] [] rfl rfl [(4,.o (.ptr 0 2 0 0)),(6,.o (.ptr 1 2 0 0))] [(0,.cells 47 2 [[.d (.l []),.d (.l [])]]),(1,.cells 90 2 [[.d (iD (Bq te)),HH (JC r)]])] [0,6] (rl a rfl) (by ((repeat' first|exact tI|rfl|refine And.intro ?_ ?_)<;>(simp[cX,zC,a]<;>rfl))) ?_;(try dsimp only[cA,cB]);exact hk _ Γ' _ a (f r).2 (f r).1))
  case h =>
   intro TB1 Γ1 H a w f;have g:=Ft f (Bq te) (Ny e) x (λh=>q h x Eh) A;by_cases n:A1 (GI te) (Bq te) x=true
   ·have hb:=(CE n).1.bd
    have u:=Mi f (Bq te) x (q (CE n).1) (hb.mono (by omega));rw [n] at g |-;rw [if_pos rfl];generalize Bw (GI te) (A2 (Bq te)) 13 x=o at *;cases o
    all_goals
     (repeat' first |refine sN rfl ?_ |((first|refine sA rfl ?_ ?_|refine s4 rfl ‹_› rfl ?_ ?_);first|exact tI|omega|simp only[oZ] at *;omega) |refine s2 rfl λ_ b=>?_|(refine Ag rfl ?_;refine gA rfl ?_;first|refine gS (λ_ _=>Bu rfl rfl (by simp [E.Bz,C.Bz,C.CA,f.Bz]) (g) rfl) ?_) |refine s3 rfl ?_ ?_<;>rintro rfl |refine aU rfl ?_ |refine Aa ?_|(refine aC rfl ?_ ?_<;>rintro⟨⟩));all_goals try contradiction
     refine aK ?_;(repeat first |refine sN rfl ?_ |((first|refine sA rfl ?_ ?_|refine s4 rfl ‹_› rfl ?_ ?_);first|exact tI|omega|simp only[oZ] at *;omega) |refine s2 rfl λ_ b=>?_|(refine Ag rfl ?_;refine gA rfl ?_;first|refine gS (λ_ _=>Bu rfl rfl (by simp [E.Bz,C.Bz,C.CA,f.Bz]) (u) rfl) ?_) |refine s3 rfl ?_ ?_<;>rintro rfl |refine aU rfl ?_ |refine Aa ?_);(subst_vars;exact aR ⟨_,rfl,rfl⟩)
   ·rw [lB] at n
    rw [n] at g |-
    (repeat' first |refine sN rfl ?_ |((first|refine sA rfl ?_ ?_|refine s4 rfl ‹_› rfl ?_ ?_);first|exact tI|omega|simp only[oZ] at *;omega) |refine s2 rfl λ_ b=>?_|(refine Ag rfl ?_;refine gA rfl ?_;first|refine gS (λ_ _=>Bu rfl rfl (by simp [E.Bz,C.Bz,C.CA,f.Bz]) (g) rfl) ?_|refine gS (λ_ _=>AG rfl rfl (by rfl) (by rfl)) ?_) |refine s3 rfl ?_ ?_<;>rintro rfl |refine aU rfl ?_ |refine Aa ?_|(refine aC rfl ?_ ?_<;>rintro⟨⟩));all_goals try contradiction
    (subst_vars;exact aR ⟨_,rfl,rfl⟩)
 ·rw [lB] at e
  have hno:=Kx (TB:=({ tabs:=tabs,hid:=none }:Bp)) e;rw [e,Bool.false_and];refine eG Tryz.func42 rfl (by kernel_rfl) rfl ?_;intro Γ a;(repeat first |refine sN rfl ?_ |((first|refine sA rfl ?_ ?_|refine s4 rfl ‹_› rfl ?_ ?_);first|exact tI|omega|simp only[oZ] at *;omega) |refine s2 rfl λ_ b=>?_ |refine sP rfl (hno) rfl ?_|(refine Ag rfl ?_;refine gA rfl ?_;first|refine gS (λ_ _=>AG rfl rfl (by rfl) (by rfl)) ?_) |refine s3 rfl ?_ ?_<;>rintro rfl |refine aU rfl ?_ |refine Aa ?_)
  (repeat' first |refine sN rfl ?_ |((first|refine sA rfl ?_ ?_|refine s4 rfl ‹_› rfl ?_ ?_);first|exact tI|omega|simp only[oZ] at *;omega) |refine s2 rfl λ_ b=>?_|(refine Ag rfl ?_;refine gA rfl ?_;first|refine gS (λ_ _=>AG rfl rfl (by rfl) (by rfl)) ?_) |refine s3 rfl ?_ ?_<;>rintro rfl |refine aU rfl ?_ |refine Aa ?_|(refine aC rfl ?_ ?_<;>rintro⟨⟩));all_goals try contradiction
  (subst_vars;exact aR ⟨_,rfl,rfl⟩)
theorem PY(x:A9)(G:TS x):Pure Tryz.prog ⟨tabs,none⟩ 19 [C7 te,CW x] (XC (fJ te x)):=by
 unfold fJ;by_cases f:Ga te=true
 ·obtain⟨ok,u,I,k⟩:=O6 te x
  rw [f,lX,NR];refine eG Tryz.func19 rfl (by kernel_rfl) rfl ?_;intro Γ a
  apply Xr (L:=GI te) (ok:=ok);case hk=>(intro hk;rcases GY (tabs:=tabs) f u I with ⟨c,hno,e,n⟩|⟨t,m,H,hno,e⟩;(focus (have y:=Dy c n;(repeat first |refine sN rfl ?_ |((first|refine sA rfl ?_ ?_|refine s4 rfl ‹_› rfl ?_ ?_);first|exact tI|omega|simp only[oZ] at *;omega) |refine s2 rfl λ_ b=>?_ |refine s3 rfl ?_ ?_<;>rintro rfl |refine aU rfl ?_ |refine Aa ?_);(repeat first |refine sN rfl ?_ |((first|refine sA rfl ?_ ?_|refine s4 rfl ‹_› rfl ?_ ?_);first|exact tI|omega|simp only[oZ] at *;omega) |refine s2 rfl λ_ b=>?_|(refine Ag rfl ?_;refine gA rfl ?_;first|refine gS (λ_ _=>Bu rfl rfl rfl hno (by simp [E.Bz,C.CA,C.Bz,n])) ?_) |refine s3 rfl ?_ ?_<;>rintro rfl);refine Aa ?_;refine Aj.Ak [3,7] [] rfl rfl [(4,.o (.ptr 0 3 0 0)),(6,.o (.ptr 1 2 0 0))] [(0,.cells 29 3 [[.d (iD 0),.d (.l []),.d (.l [])]]),(1,.cells 90 2 [[.d (iD (Bq te)),c]])] [0,1] (rl a rfl) (by ((repeat' first|exact tI|rfl|refine And.intro ?_ ?_)<;>(simp[cX,zC,a,y,n]<;>rfl))) ?_;(try dsimp only[cA,cB]);obtain⟨TB0,v⟩:∃T,T=(⟨tabs,none⟩:Bp):=⟨_,rfl⟩;obtain⟨Γ0,q⟩:∃T,T=Γ:=⟨_,rfl⟩;rw [<-v] at e hTb |-;rw [<-q] at a |-;exact hk TB0 Γ0 c a hTb e));((repeat first |refine sN rfl ?_ |((first|refine sA rfl ?_ ?_|refine s4 rfl ‹_› rfl ?_ ?_);first|exact tI|omega|simp only[oZ] at *;omega) |refine s2 rfl λ_ b=>?_ |refine s3 rfl ?_ ?_<;>rintro rfl |refine aU rfl ?_ |refine Aa ?_);(refine pW rfl ?_ rfl (by rfl);refine BG [] rfl rfl 0 (hno) (by decide) ⟨rfl,by decide,by decide⟩ rfl (by simp[cX,zC,a,AO]) ?_;rintro J B F ⟨rfl,rfl,rfl⟩ _);(repeat first |refine sN rfl ?_ |((first|refine sA rfl ?_ ?_|refine s4 rfl ‹_› rfl ?_ ?_);first|exact tI|omega|simp only[oZ] at *;omega) |refine s2 rfl λ_ b=>?_ |refine s3 rfl ?_ ?_<;>rintro rfl);refine Aa ?_;refine Aj.dy (Lf t ok) ⟨m,H⟩ 1 [2,3,4,5] (λr=>[(3,.o (.ip [Bd x.rows,Bd x.cols])),(7,eB true),(4,.o (.ptr 0 3 0 0)),(6,.o (.ptr 6 2 0 0))]) (λr=>[(0,.cells 29 3 [[.d (iD 0),.d (.l []),.d (.l [])]]),(6,.cells 90 2 [[.d (iD (Bq te)),HH (JC r)]])]) (by decide) rfl (by ((repeat' first|exact tI|rfl|refine And.intro ?_ ?_)<;>(simp[cX,zC,a,AO]<;>rfl))) ⟨_,_,_,_,rfl⟩ (λr=>by repeat' first|exact tI|refine And.intro ⟨_,rfl,.Bo⟩ ?_) (λr=>by repeat' first|exact tI|refine And.intro ⟨by decide,.inl rfl⟩ ?_|refine And.intro ⟨by decide,.inr ⟨_,_,_,_,rfl,rfl,.cons .Bo (.cons .mv .nil)⟩⟩ ?_) λr Γ' s=>?_;have a:Γ'.V.nx=0:=(by rw [s];exact a);refine Aj.Ak [3,7] [] rfl rfl [(4,.o (.ptr 0 3 0 0)),(6,.o (.ptr 1 2 0 0))] [(0,.cells 29 3 [[.d (iD 0),.d (.l []),.d (.l [])]]),(1,.cells 90 2 [[.d (iD (Bq te)),HH (JC r)]])] [0,6] (rl a rfl) (by ((repeat' first|exact tI|rfl|refine And.intro ?_ ?_)<;>(simp[cX,zC,a]<;>rfl))) ?_;(try dsimp only[cA,cB]);exact hk _ Γ' _ a (e r).2 (e r).1))
  case h =>
   intro TB1 Γ1 K a A e;have g:=Ft e (Bq te) (Ny f) x (λh=>k h x Eh) G;by_cases p:A1 (GI te) (Bq te) x=true
   ·have hb:=(CE p).1.bd
    have j:=hb.aw (k (CE p).1 x Eh) (by omega);have i:=Sp e (Bq te) x j.1 j.2;rw [p] at g |-;by_cases w:(Bb (GI te) (A2 (Bq te)) x).isNone=true
    ·have z:=NP e (Bq te) x (k (CE p).1 x Eh) (hb.mono (by omega)) (by simpa using w)
     rw [w] at i |-
     (repeat' first |refine sN rfl ?_ |((first|refine sA rfl ?_ ?_|refine s4 rfl ‹_› rfl ?_ ?_);first|exact tI|omega|simp only[oZ] at *;omega) |refine s2 rfl λ_ b=>?_|(refine Ag rfl ?_;refine gA rfl ?_;first|refine gS (λ_ _=>Bu rfl rfl (by simp [E.Bz,C.Bz,C.CA,e.Bz]) (g) rfl) ?_|refine gS (λ_ _=>Bu rfl rfl (by simp [E.Bz,C.Bz,C.CA,e.Bz]) (i) rfl) ?_) |refine s3 rfl ?_ ?_<;>rintro rfl |refine aU rfl ?_ |refine Aa ?_|(refine aC rfl ?_ ?_<;>rintro⟨⟩));all_goals try contradiction
     refine aK ?_;(repeat first |refine sN rfl ?_ |((first|refine sA rfl ?_ ?_|refine s4 rfl ‹_› rfl ?_ ?_);first|exact tI|omega|simp only[oZ] at *;omega) |refine s2 rfl λ_ b=>?_|(refine Ag rfl ?_;refine gA rfl ?_;first|refine gS (λ_ _=>Bu rfl rfl (by simp [E.Bz,C.Bz,C.CA,e.Bz]) (z) rfl) ?_) |refine s3 rfl ?_ ?_<;>rintro rfl |refine aU rfl ?_ |refine Aa ?_);(subst_vars;exact aR ⟨_,rfl,rfl⟩)
    ·rw [lB] at w
     rw [w] at i |-
     (repeat' first |refine sN rfl ?_ |((first|refine sA rfl ?_ ?_|refine s4 rfl ‹_› rfl ?_ ?_);first|exact tI|omega|simp only[oZ] at *;omega) |refine s2 rfl λ_ b=>?_|(refine Ag rfl ?_;refine gA rfl ?_;first|refine gS (λ_ _=>Bu rfl rfl (by simp [E.Bz,C.Bz,C.CA,e.Bz]) (g) rfl) ?_|refine gS (λ_ _=>Bu rfl rfl (by simp [E.Bz,C.Bz,C.CA,e.Bz]) (i) rfl) ?_|refine gS (λ_ _=>AG rfl rfl (by rfl) (by rfl)) ?_) |refine s3 rfl ?_ ?_<;>rintro rfl |refine aU rfl ?_ |refine Aa ?_|(refine aC rfl ?_ ?_<;>rintro⟨⟩));all_goals try contradiction
     (subst_vars;exact aR ⟨_,rfl,rfl⟩)
   ·rw [lB] at p
    rw [p] at g |-
    (repeat' first |refine sN rfl ?_ |((first|refine sA rfl ?_ ?_|refine s4 rfl ‹_› rfl ?_ ?_);first|exact tI|omega|simp only[oZ] at *;omega) |refine s2 rfl λ_ b=>?_|(refine Ag rfl ?_;refine gA rfl ?_;first|refine gS (λ_ _=>Bu rfl rfl (by simp [E.Bz,C.Bz,C.CA,e.Bz]) (g) rfl) ?_|refine gS (λ_ _=>AG rfl rfl (by rfl) (by rfl)) ?_) |refine s3 rfl ?_ ?_<;>rintro rfl |refine aU rfl ?_ |refine Aa ?_|(refine aC rfl ?_ ?_<;>rintro⟨⟩));all_goals try contradiction
    (subst_vars;exact aR ⟨_,rfl,rfl⟩)
 ·rw [lB] at f
  have hno:=Kx (TB:=({ tabs:=tabs,hid:=none }:Bp)) f;rw [f,Bool.false_and];refine eG Tryz.func19 rfl (by kernel_rfl) rfl ?_;intro Γ a;(repeat first |refine sN rfl ?_ |((first|refine sA rfl ?_ ?_|refine s4 rfl ‹_› rfl ?_ ?_);first|exact tI|omega|simp only[oZ] at *;omega) |refine s2 rfl λ_ b=>?_ |refine sP rfl (hno) rfl ?_|(refine Ag rfl ?_;refine gA rfl ?_;first|refine gS (λ_ _=>AG rfl rfl (by rfl) (by rfl)) ?_) |refine s3 rfl ?_ ?_<;>rintro rfl |refine aU rfl ?_ |refine Aa ?_)
  (repeat' first |refine sN rfl ?_ |((first|refine sA rfl ?_ ?_|refine s4 rfl ‹_› rfl ?_ ?_);first|exact tI|omega|simp only[oZ] at *;omega) |refine s2 rfl λ_ b=>?_|(refine Ag rfl ?_;refine gA rfl ?_;first|refine gS (λ_ _=>AG rfl rfl (by rfl) (by rfl)) ?_) |refine s3 rfl ?_ ?_<;>rintro rfl |refine aU rfl ?_ |refine Aa ?_|(refine aC rfl ?_ ?_<;>rintro⟨⟩));all_goals try contradiction
  (subst_vars;exact aR ⟨_,rfl,rfl⟩)
end
structure fD (t:Cw):Prop where
 s:t.s.es.length<=401
 q:Hf 60 t.q
def TT(b:List UInt8)(p m:Int)(x:E)(σ:Ab)(nx:Nat):Prop:=∃(p':Int) (t:Cw),(p<=p'/\p'<=p+m)/\fD t/\x=Im t/\σ=[(0,AN b p')]/\nx=1
theorem VO(b:List UInt8)(hb:b.length<=2000)(p:Int)(R:0<=p/\p < 500000000):Spec Tryz.prog TB 182 [(0,AN b p)] 1 [.o (.ptr 0 2 0 0)] (TT b p 2500):=by
 have Q:=MB (TB:=TB) b hb p (by omega);refine eR Tryz.func182 rfl (by kernel_rfl) rfl ?_;intro Γ d;(repeat first|refine tA rfl ?_ |refine aU rfl ?_ |refine Aa ?_);(refine pW rfl ?_ rfl (by rfl);refine Ae [0] rfl rfl (Q) ⟨rfl,by decide,by decide⟩ rfl (by simp[cX,zC,d,cN]) ?_;rintro v g h ⟨m,⟨G,J,K⟩,N,I,rfl,rfl,rfl⟩ _);have F:G.es.length<=400:=I.a;have A:Hf 41 J:=I.b;(repeat first|refine tA rfl ?_ |refine aU rfl ?_ |refine Aa ?_);(refine pW rfl ?_ rfl (by rfl);refine Ae [] rfl rfl (Oi (TB:=TB) G J K (by omega) (A.upto (by omega))) ⟨rfl,by decide,by decide⟩ rfl trivial ?_;rintro v g h ⟨⟨⟨⟨q,n,e⟩,⟨l,k,j⟩,s⟩,ok⟩,⟨y,f⟩,rfl,rfl,rfl⟩ _);have y:e.length<=400:=i9 y F;have f:Hf 41 ⟨l,k,j⟩:=f 41 A;(repeat first|refine tA rfl ?_ |refine aU rfl ?_ |refine Aa ?_);obtain⟨c,T,S,P⟩:=AR (TB:=TB) b hb m 16 (by omega);(refine pW rfl ?_ rfl (by rfl);refine Ae [0] rfl rfl (P) ⟨rfl,by decide,by decide⟩ rfl (by simp[cX,zC,d,cN]) ?_;rintro v g h ⟨rfl,rfl,rfl⟩ _);refine Aa ?_;refine aB ?_;(repeat first|refine tA rfl ?_ |refine s2 rfl λ_ u=>?_ |refine aU rfl ?_ |refine Aa ?_);(refine aC rfl ?_ ?_<;>rintro⟨⟩)
 ·obtain⟨L,M⟩:=Oz (TB:=TB) b hb (m+1) (by omega)
  obtain⟨H,r,z,hw⟩:=SE (TB:=TB) b hb (m+1+1) (by omega) L;(repeat first|refine tA rfl ?_ |refine aU rfl ?_);(refine pW rfl ?_ rfl (by rfl);refine Ae [0] rfl rfl (M) ⟨rfl,by decide,by decide⟩ rfl (by simp[cX,zC,d,cN]) ?_;rintro v g h ⟨rfl,rfl,rfl⟩ _);(refine pW rfl ?_ rfl (by rfl);refine Ae [0] rfl rfl (hw) ⟨rfl,by decide,by decide⟩ rfl (by simp[cX,zC,d,cN]) ?_;rintro v g h ⟨rfl,rfl,rfl⟩ _);(repeat first|refine tA rfl ?_ |refine aU rfl ?_ |refine Aa ?_);exact aR ⟨_,rfl,[0],Im ⟨⟨q,n,e⟩,⟨l,k,j⟩,H⟩,[(0,AN b r)],⟨by intro i hi;match i with|0=>rfl,by decide⟩,rfl,by (simp[cX,zC,d,cN]),r,⟨⟨q,n,e⟩,⟨l,k,j⟩,H⟩,by omega,⟨by show e.length<=401;omega,f.upto (by omega)⟩,rfl,rfl,rfl⟩
 (repeat first|refine tA rfl ?_ |refine s2 rfl λ_ u=>?_ |refine aU rfl ?_ |refine Aa ?_);(refine aC rfl ?_ ?_<;>rintro⟨⟩)
 ·have hw:=SH (TB:=TB) b hb (m+1) (by omega) ⟨q,n,e⟩ (by show e.length<=100000;omega)
  (repeat first|refine tA rfl ?_ |refine aU rfl ?_);(refine pW rfl ?_ rfl (by rfl);refine Ae [0] rfl rfl (hw) ⟨rfl,by decide,by decide⟩ rfl (by simp[cX,zC,d,cN]) ?_;rintro v g h ⟨r,⟨x,w,t⟩,z,B,rfl,rfl,rfl⟩ _);have B:t.length<=e.length+1:=B;(repeat first|refine tA rfl ?_ |refine aU rfl ?_ |refine Aa ?_);exact aR ⟨_,rfl,[0],Im ⟨⟨x,w,t⟩,⟨l,k,j⟩,s⟩,[(0,AN b r)],⟨by intro i hi;match i with|0=>rfl,by decide⟩,rfl,by (simp[cX,zC,d,cN]),r,⟨⟨x,w,t⟩,⟨l,k,j⟩,s⟩,by omega,⟨by show t.length<=401;omega,f.upto (by omega)⟩,rfl,rfl,rfl⟩
 (repeat first|refine tA rfl ?_ |refine s2 rfl λ_ u=>?_ |refine aU rfl ?_ |refine Aa ?_);(refine aC rfl ?_ ?_<;>rintro⟨⟩)
 ·have hw:=IP (TB:=TB) b hb (m+1) (by omega) ⟨l,k,j⟩ 41 f (by omega)
  (repeat first|refine tA rfl ?_ |refine aU rfl ?_);(refine pW rfl ?_ rfl (by rfl);refine Ae [0] rfl rfl (hw) ⟨rfl,by decide,by decide⟩ rfl (by simp[cX,zC,d,cN]) ?_;rintro v g h ⟨r,⟨x,w,t⟩,z,B,rfl,rfl,rfl⟩ _);(repeat first|refine tA rfl ?_ |refine aU rfl ?_ |refine Aa ?_);exact aR ⟨_,rfl,[0],Im ⟨⟨q,n,e⟩,⟨x,w,t⟩,s⟩,[(0,AN b r)],⟨by intro i hi;match i with|0=>rfl,by decide⟩,rfl,by (simp[cX,zC,d,cN]),r,⟨⟨q,n,e⟩,⟨x,w,t⟩,s⟩,by omega,⟨by show e.length<=401;omega,B.upto (by omega)⟩,rfl,rfl,rfl⟩
 (repeat first|refine tA rfl ?_ |refine s2 rfl λ_ u=>?_ |refine aU rfl ?_ |refine Aa ?_);(refine aC rfl ?_ ?_<;>rintro⟨⟩)
 ·(repeat first|refine tA rfl ?_ |refine aU rfl ?_ |refine Aa ?_)
  exact aR ⟨_,rfl,[0],Im ⟨⟨q,n,e⟩,⟨l,k,j⟩,Ew .i64 s 5⟩,[(0,AN b (m+1))],⟨by intro i hi;match i with|0=>rfl,by decide⟩,rfl,by (simp[cX,zC,d,cN]),m+1,⟨⟨q,n,e⟩,⟨l,k,j⟩,Ew .i64 s 5⟩,by omega,⟨by show e.length<=401;omega,f.upto (by omega)⟩,rfl,rfl,rfl⟩
 refine aK ?_;(repeat first|refine tA rfl ?_ |refine aU rfl ?_ |refine Aa ?_);exact aR ⟨_,rfl,[0],Im ⟨⟨q,n,e⟩,⟨l,k,j⟩,s⟩,[(0,AN b (m+1))],⟨by intro i hi;match i with|0=>rfl,by decide⟩,rfl,by (simp[cX,zC,d,cN]),m+1,⟨⟨q,n,e⟩,⟨l,k,j⟩,s⟩,by omega,⟨by show e.length<=401;omega,f.upto (by omega)⟩,rfl,rfl,rfl⟩
def ZQ:List W:=[[97,98,99,32,55,32,48,97,48,32,48,97,49,32,48,98,48,32,49,97,50,32,49,98,50,32,50,97,51,32,50,98,51,32,51,97,52,32,51,98,52,32,52,97,53,32,52,98,53,32,53,99,54],[97,98,99,32,56,32,48,97,48,32,48,97,49,32,48,98,48,32,49,97,50,32,49,98,50,32,50,97,51,32,50,98,51,32,51,97,52,32,51,98,52,32,52,97,53,32,52,98,53,32,53,97,54,32,53,98,54,32,54,99,55],[97,98,99,32,53,32,48,97,48,32,48,97,49,32,48,98,48,32,49,97,50,32,49,98,50,32,50,97,51,32,50,98,51,32,51,99,52]]
theorem WM:∀w∈ZQ,w.length<=70:=by decide
theorem SL(b:List UInt8)(hb:b.length<=2000)(p:Int)(P:0<=p/\p < 400000000):Spec Tryz.prog TB 113 [(0,AN b p)] 1 [.o (.ptr 0 2 0 0)] (TT b p 2600):=by
 have L:=VO (TB:=TB) b hb p (by omega);have k:=FG (TB:=TB) [99,32,43,49,32,45,49] (by decide);refine eR Tryz.func113 rfl (by kernel_rfl) rfl ?_;intro Γ a;(repeat first|refine tA rfl ?_ |refine aU rfl ?_ |refine Aa ?_);(refine pW rfl ?_ rfl (by rfl);refine Ae [0] rfl rfl (L) ⟨rfl,by decide,by decide⟩ rfl (by simp[cX,zC,a,cN]) ?_;rintro g d e ⟨f,⟨⟨B,A,z⟩,⟨y,x,v⟩,u⟩,H,ht,rfl,rfl,rfl⟩ _);(repeat first|refine tA rfl ?_ |refine aU rfl ?_ |refine Aa ?_);obtain⟨c,R,Q,K⟩:=AR (TB:=TB) b hb f 10 (by omega);(refine pW rfl ?_ rfl (by rfl);refine Ae [0] rfl rfl (K) ⟨rfl,by decide,by decide⟩ rfl (by simp[cX,zC,a,cN]) ?_;rintro g d e ⟨rfl,rfl,rfl⟩ _);(repeat first|refine s2 rfl λ_ M=>?_ |refine Aa ?_);(refine aC rfl ?_ ?_<;>rintro⟨⟩)
 ·obtain⟨w,hw,I⟩:=Rm (TB:=TB) b hb (f+1) (by omega) ZQ (by decide) (by decide)
  have G:=WM w hw;have j:=Hn (TB:=TB) w (by omega);obtain⟨q,N,J⟩:=BR (TB:=TB) b hb (f+1+1) (by omega) [7,3] (by decide) (by decide);(repeat first|refine tA rfl ?_ |refine aU rfl ?_);(refine pW rfl ?_ rfl (by rfl);refine Ae [0] rfl rfl (I) ⟨rfl,by decide,by decide⟩ rfl (by simp[cX,zC,a,cN]) ?_;rintro g d e ⟨rfl,rfl,rfl⟩ _);(refine pW rfl ?_ rfl (by rfl);refine Ae [] rfl rfl (j) ⟨rfl,by decide,by decide⟩ rfl trivial ?_;rintro g d e ⟨⟨⟨s,r,h⟩,ok⟩,t,rfl,rfl,rfl⟩ _);have t:h.length<=w.length+1:=t;(repeat first|refine tA rfl ?_ |refine aU rfl ?_ |refine Aa ?_);(refine pW rfl ?_ rfl (by rfl);refine Ae [] rfl rfl (k) ⟨rfl,by decide,by decide⟩ rfl trivial ?_;rintro g d e ⟨⟨⟨n,m,l⟩,F⟩,ha,rfl,rfl,rfl⟩ _);have ha:Hf 8 ⟨n,m,l⟩:=ha;(repeat first|refine tA rfl ?_ |refine Aa ?_);refine rG (NI [(0,13),(1,14),(4,1024),(6,1)]) (by kernel_rfl) ?_;(repeat first|refine tA rfl ?_);(refine Ag rfl ?_;refine BE ?_ rfl ⟨rfl,rfl⟩;refine Ae [0] rfl rfl (J) ⟨rfl,by decide,by decide⟩ rfl (by simp[cX,zC,a,cN]) ?_;rintro g d e ⟨rfl,rfl,rfl⟩ _;refine⟨Hx 3 4 rfl rfl rfl,?_⟩);(repeat first|refine tA rfl ?_|(refine Ag rfl ?_;refine gA rfl ?_;first| refine gS (λ_ _=>AG rfl rfl (by rfl) (by rfl)) ?_) |refine aU rfl ?_ |refine Aa ?_);exact aR ⟨_,rfl,[0],Im ⟨⟨s,r,h⟩,⟨n,m,l⟩,q⟩,[(0,AN b (f+1+1+1))],⟨by intro i hi;match i with|0=>rfl,by decide⟩,rfl,by (simp[cX,zC,a,cN]),f+1+1+1,⟨⟨s,r,h⟩,⟨n,m,l⟩,q⟩,by omega,⟨by show h.length<=401;omega,ha.upto (by omega)⟩,rfl,rfl,rfl⟩
 refine aK ?_;(repeat first|refine tA rfl ?_ |refine aU rfl ?_ |refine Aa ?_);exact aR ⟨_,rfl,[0],Im ⟨⟨B,A,z⟩,⟨y,x,v⟩,u⟩,[(0,AN b (f+1))],⟨by intro i hi;match i with|0=>rfl,by decide⟩,rfl,by (simp[cX,zC,a,cN]),f+1,⟨⟨B,A,z⟩,⟨y,x,v⟩,u⟩,by omega,ht,rfl,rfl,rfl⟩
def ah(b:List UInt8)(p m:Int)(x:E)(σ:Ab)(nx:Nat):Prop:=∃(p':Int) (te:FB),(p<=p'/\p'<=p+m)/\x=C7 te/\σ=[(0,AN b p')]/\nx=1
theorem Lq(b:List UInt8)(hb:b.length<=2000)(p:Int)(Y:0<=p/\p < 300000000):Spec Tryz.prog TB 141 [(0,AN b p)] 1 [.o (.ptr 0 2 0 0)] (ah b p 5000):=by
 obtain⟨c,c0,c1,V⟩:=AR (TB:=TB) b hb p 2 (by omega);refine eR Tryz.func141 rfl (by kernel_rfl) rfl ?_;intro Γ d;(repeat first|refine tA rfl ?_ |refine aU rfl ?_ |refine Aa ?_);(refine pW rfl ?_ rfl (by rfl);refine Ae [0] rfl rfl (V) ⟨rfl,by decide,by decide⟩ rfl (by simp[cX,zC,d,cN]) ?_;rintro g e f ⟨rfl,rfl,rfl⟩ _);(repeat first|refine s2 rfl λ_ r=>?_ |refine Aa ?_);(refine aC rfl ?_ ?_<;>rintro⟨⟩)
 ·have n:=X9 (TB:=TB) b hb (p+1) (by omega)
  (repeat first|refine tA rfl ?_ |refine aU rfl ?_);(refine pW rfl ?_ rfl (by rfl);refine Ae [0] rfl rfl (n) ⟨rfl,by decide,by decide⟩ rfl (by simp[cX,zC,d,cN]) ?_;rintro g e f ⟨q,⟨h,M,L⟩,S,l,rfl,rfl,rfl⟩ _);(repeat first|refine tA rfl ?_|(refine Ag rfl ?_;refine gA rfl ?_;first| refine gS (λ_ _=>AG rfl rfl (by rfl) (by rfl)) ?_) |refine Aa ?_);exact aR ⟨_,rfl,[0],C7 ⟨true,⟨h,M,L⟩,⟨0,0,[]⟩,⟨0,[],[]⟩,0⟩,[(0,AN b q)],⟨by intro i hi;match i with|0=>rfl,by decide⟩,rfl,by (simp[cX,zC,d,cN]),q,⟨true,⟨h,M,L⟩,⟨0,0,[]⟩,⟨0,[],[]⟩,0⟩,by omega,rfl,rfl,rfl⟩
 refine aK ?_;have n:=MB (TB:=TB) b hb (p+1) (by omega);(repeat first|refine tA rfl ?_ |refine aU rfl ?_);(refine pW rfl ?_ rfl (by rfl);refine Ae [0] rfl rfl (n) ⟨rfl,by decide,by decide⟩ rfl (by simp[cX,zC,d,cN]) ?_;rintro g e f ⟨j,⟨s,h,N⟩,T,A,rfl,rfl,rfl⟩ _);have P:s.es.length<=400:=A.a;have m:Hf 41 h:=A.b;(repeat first|refine tA rfl ?_ |refine aU rfl ?_ |refine Aa ?_);(refine pW rfl ?_ rfl (by rfl);refine Ae [] rfl rfl (Oi (TB:=TB) s h N (by omega) (m.upto (by omega))) ⟨rfl,by decide,by decide⟩ rfl trivial ?_;rintro g e f ⟨⟨⟨⟨K,J,I⟩,⟨H,G,F⟩,B⟩,ok⟩,⟨R,Q⟩,rfl,rfl,rfl⟩ _);(repeat first|refine tA rfl ?_ |refine aU rfl ?_ |refine Aa ?_);obtain⟨c3,c4,Z,k⟩:=AR (TB:=TB) b hb j 10 (by omega);(refine pW rfl ?_ rfl (by rfl);refine Ae [0] rfl rfl (k) ⟨rfl,by decide,by decide⟩ rfl (by simp[cX,zC,d,cN]) ?_;rintro g e f ⟨rfl,rfl,rfl⟩ _);(repeat first|refine s2 rfl λ_ r=>?_ |refine Aa ?_);(refine aC rfl ?_ ?_<;>rintro⟨⟩)
 ·have X:=SL (TB:=TB) b hb (j+1) (by omega)
  (repeat first|refine tA rfl ?_ |refine aU rfl ?_);(refine pW rfl ?_ rfl (by rfl);refine Ae [0] rfl rfl (X) ⟨rfl,by decide,by decide⟩ rfl (by simp[cX,zC,d,cN]) ?_;rintro g e f ⟨q,⟨⟨z,y,x⟩,⟨w,v,u⟩,t⟩,S,l,rfl,rfl,rfl⟩ _);(repeat first|refine tA rfl ?_|(refine Ag rfl ?_;refine gA rfl ?_;first| refine gS (λ_ _=>AG rfl rfl (by rfl) (by rfl)) ?_) |refine aU rfl ?_ |refine Aa ?_);exact aR ⟨_,rfl,[0],C7 ⟨false,⟨0,[],[]⟩,⟨z,y,x⟩,⟨w,v,u⟩,t⟩,[(0,AN b q)],⟨by intro i hi;match i with|0=>rfl,by decide⟩,rfl,by (simp[cX,zC,d,cN]),q,⟨false,⟨0,[],[]⟩,⟨z,y,x⟩,⟨w,v,u⟩,t⟩,by omega,rfl,rfl,rfl⟩
 refine aK ?_;(repeat first|refine tA rfl ?_|(refine Ag rfl ?_;refine gA rfl ?_;first| refine gS (λ_ _=>AG rfl rfl (by rfl) (by rfl)) ?_) |refine aU rfl ?_ |refine Aa ?_);exact aR ⟨_,rfl,[0],C7 ⟨false,⟨0,[],[]⟩,⟨K,J,I⟩,⟨H,G,F⟩,B⟩,[(0,AN b (j+1))],⟨by intro i hi;match i with|0=>rfl,by decide⟩,rfl,by (simp[cX,zC,d,cN]),j+1,⟨false,⟨0,[],[]⟩,⟨K,J,I⟩,⟨H,G,F⟩,B⟩,by omega,rfl,rfl,rfl⟩
end Go.Am
namespace Go.Am
open Go
set_option linter.unusedVariables false
theorem Xe{p:AY}(hp:AL p=true):WU (NL p) (LA p) p.al:=λw hw a=>by
 unfold NL;rw [hp,MG hw a (Ax hp).1];rfl
end Go.Am
namespace Go.Am
open Go Go.Proofs
set_option maxHeartbeats 1000000
set_option maxRecDepth 4000
attribute [local irreducible] AU BZ Lex Br Aj Spec
variable {TB:Bp}
noncomputable def ca(te:FB)(w:W):Bool:=if te.kn then NL te.p w else Ix ⟨te.s,te.q,te.al⟩ w
def WJ(te:FB):Int:=if Ga te then Bq te else -1
theorem c8(te:FB):I0 Tryz.prog TB 67 154 te (WJ te) (ca te):=by
 obtain⟨kn,p,s,q,al⟩:=te
 cases kn with
 | true=>exact jh (t:=⟨true,p,s,q,al⟩) rfl
 | false=>exact da (t:=⟨false,p,s,q,al⟩) rfl
theorem WB{t:Cw}(ht:A3 t=true):WU (Ix t) (LS t) t.al:=λw hw b=>by
 have a:BO t.al=true:=by unfold A3 at ht;simp only [d5] at ht;exact ht.2.2
 unfold Ix;rw [ht,MG hw b a];rfl
theorem ZP{te:FB}(a:Ga te=true):WU (ca te) (GI te) (Bq te):=by
 obtain⟨kn,p,s,q,al⟩:=te
 cases kn with
 | true=>exact Xe a
 | false=>exact WB (t:=⟨s,q,al⟩) a
theorem WO{A:W->Bool}{t:A9}:A1 A (-1) t=false:=by
 cases h:A1 A (-1) t
 ·rfl
 ·have:=(CE h).1.pos;omega
theorem TD{A L:W->Bool}{al:Int}(h:WU A L al)(t:A9):A1 A al t=A1 L al t:=by
 unfold A1;cases a:Eo al t
 ·rfl
 ·rw [KD h (Ns a).bd (by omega)]
theorem ZW(te:FB)(x:A9):(Ga te && A1 (GI te) (Bq te) x)=A1 (ca te) (WJ te) x:=by
 unfold WJ;cases a:Ga te
 ·simp [WO]
 ·rw [if_pos rfl,lX,TD (ZP a)]
theorem iX{te:FB}{x:A9}(h:A1 (ca te) (WJ te) x=true):Ga te=true/\WJ te=Bq te/\A1 (GI te) (Bq te) x=true/\Vm (Bq te) x/\(AJ (GI te) x).Nodup:=by
 rw [<-ZW,d5] at h;exact⟨h.1,by unfold WJ;rw [if_pos h.1],h.2,(CE h.2).1,(CE h.2).2⟩
end Go.Am
