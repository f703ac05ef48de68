/-
  A letter after a set: walked.
-/
import Derived.Test.YtgpbfllcjdfelaaGreatDoorPart26
import Derived.Test.YtgpbfllcjdfelaaGreatDoorPart24
set_option linter.all false
namespace Go.Am
open Go Go.Proofs
set_option maxHeartbeats 1000000
set_option maxRecDepth 4000
attribute [local irreducible] AU BZ Lex Br Aj Spec
variable {TB:Bp}
def iF(m m':E8):Prop:=∀(i:Nat) F,m.F[i]? = some F->m'.F[i]? = some F
theorem ao{t:Cw}{m:E8}{G:PS}:iF m (Ho t m G):=λ_ _ h=>Ja h
def WC(m:E8)(n:Nat)(r:List Int):E8:={ m with nx:=m.nx.set n r }
theorem bP{t:Cw}{ok:W->Prop}{m:E8}(a:Hh t ok m){n k l:Nat}{F:PS}{r:List Int}(p:m.F[n]? = some F)(o:m.nx[n]? = some r)(v:l < 6)(hk:m.F[k]? = some (Ed t l F)):Hh t ok (WC m n (r.set l k)):=by
 refine⟨by simp [WC,a.l1],a.l2,a.nd,a.rc,a.rk,a.un,λi G b=>?_⟩;replace b:m.F[i]? = some G:=b;by_cases e:i=n
 ·subst e
  rw [p] at b;injection b with b;subst b
  obtain⟨r',c,f,j⟩:=a.nx i F p
  rw [o] at c;injection c with c;subst c
  have g:=(am.1 o).1;refine⟨r.set l k,by simp [WC,g],by simp [f],λl' d=>?_⟩;by_cases q:l'=l
  ·subst q
   exact⟨k,by simp [f,d],.inr ⟨k,rfl,hk⟩⟩
  ·obtain⟨x,u,s⟩:=j l' d
   exact⟨x,by rw [lr (λh=>q h.symm)];exact u,s⟩
 ·obtain⟨r',c,f,j⟩:=a.nx i G b
  exact⟨r',by simp only [WC];rw [lr (λh=>e h.symm)];exact c,f,j⟩
theorem Ux{r:List Int}{l:Nat}{x:Int}(h:r[l]? = some x):(OK r)[l]? = some (.d (iD x)):=by simp [h]
theorem bt{r:List Int}{l:Nat}{x:Int}(h:l < r.length):Af (OK r) l [.d (iD x)]=OK (r.set l x):=by
 rw [Hc (by simpa using h)];unfold OK;rw [lP]
theorem Vn[FA TB]{t:Cw}{ok:W->Prop}(ht:A3 t=true){m:E8}(e:Hh t ok m){n:Nat}{F:PS}(v:m.F[n]? = some F){l:Int}(J:0<=l/\l < 6)(H:m.F.length<=1099511627776)(R:fw t ok (Ed t l F)):∃(m':E8) (j:Nat),Hh t ok m'/\iF m m'/\m'.F[j]? = some (Ed t l F)/\m'.F.length<=m.F.length+1/\
 AS Tryz.prog TB 110 1 (KF t m) 5 [.o (.ptr 0 14 0 0),eI .i64 (n:Int),eI .i64 l] (λx σ nx=>x=eI .i64 (j:Int)/\σ=KF t m'/\nx=5):=by
 obtain⟨r,hr,hrl,Q⟩:=e.nx n F v;have hn:=(am.1 v).1;have h1:=e.l1;obtain⟨x,hx,z⟩:=Q l.toNat (by omega)
 have el:((l.toNat:Nat):Int)=l:=by omega
 rw [el] at z;have s:=(e.rc F (co v)).ok ht
 have hr':(m.nx.map OK)[0+((n:Nat):Int).toNat]? = some (OK r):=by rw [kG,f6];simp [hr]
 have g:(OK r)[0+l.toNat*1]? = some (.d (iD x)):=by rw [kG,nY];exact Ux hx
 by_cases N:x < 0
 ·have hG:=ML ht J s
  have Z:Reach t (Ed t l F):=.next J.1 J.2 (e.rc F (co v));obtain⟨a,k,q,K⟩:=Xh (TB:=TB) ht e H hG
  have c:Hh t ok a/\iF m a/\a.F[k]? = some (Ed t l F)/\a.F.length<=m.F.length+1:=by
   rcases q with ⟨rfl,h2⟩|⟨rfl,rfl,h2⟩
   ·exact⟨e,λ_ _ h=>h,h2,Nat.le_succ _⟩
   ·exact⟨TU e Z R h2,ao,by simp [Ho],by simp [Ho]⟩
  obtain⟨c,I,hk,X⟩:=c;have L:=I n F v;obtain⟨f,p,hrl1,_⟩:=c.nx n F L;have T:=(am.1 p).1;have S:=bP (l:=l.toNat) c L p (by omega) (k:=k) (by rw [el];exact hk);refine⟨_,k,S,I,hk,X,?_⟩;have V:=Up (TB:=TB) ht m J s;have Y:=Qm (TB:=TB) ht m (Kq ht J s)
  have hs':(m.F.map ON)[0+((n:Nat):Int).toNat]? = some (ON F):=by rw [kG,f6];simp [v]
  refine AS.AV (AS.PZ (m:=1) (ce rfl) Tryz.func110 rfl (by kernel_rfl) (ce rfl) ?_);intro Γ b;(repeat first|(refine sA rfl ?_ ?_;first|exact tI|omega) |refine s2 rfl λ_ _hb=>?_|(refine Ag rfl ?_;refine gA rfl ?_;first| refine gQ (MZ rfl rfl (by assumption) g) rfl ?_) |refine aU rfl ?_ |refine Aa ?_)
  ((refine aC rfl ?_ ?_<;>rintro⟨⟩);all_goals try(exfalso;(simp only[oZ] at *;omega)))
  (repeat first|(refine sA rfl ?_ ?_;first|exact tI|omega) |refine t4 rfl ‹_› rfl ?_ |refine aU rfl ?_);(refine pW rfl ?_ rfl (by rfl);refine Ae [0,1,2,3,4] rfl rfl (V) ⟨rfl,by decide,by decide⟩ rfl (by simp[cX,zC,b,AO]) ?_;rintro x0 w y ⟨rfl,rfl,rfl⟩ _);(refine pW rfl ?_ rfl (by rfl);refine Ae [0,1,2,3,4] rfl rfl (Y) ⟨rfl,by decide,by decide⟩ rfl (by simp[cX,zC,b,AO]) ?_;rintro x0 w y ⟨rfl,rfl,rfl⟩ _);(refine pW rfl ?_ rfl (by rfl);refine BG [0,1,2,3,4] rfl rfl 1 (K) (by decide) ⟨rfl,by decide,by decide⟩ rfl (by simp[cX,zC,b,AO]) ?_;rintro x0 w y ⟨rfl,rfl,rfl⟩ _);(repeat first|refine tA rfl ?_);refine Aa ?_;refine Aj.Ak [0,1,2,7] [] rfl rfl [] [(0,.cells 131 14 [ZE t (.arr 1 12 0 a.F.length) (.mp 2) (.arr 3 6 0 a.nx.length) (.arr 4 1 0 a.un.length)]),(1,.cells 189 12 (a.F.map ON)),(2,.mp (mapA .u16 (N5 a.F))),(3,.cells 109 6 (a.nx.map OK)),(4,.cells 4 1 (a.un.map AP))] [0,5,6,7,8] (rl b rfl) (by (simp[cX,zC,b,AO])) ?_;(try dsimp only[cA,cB])
  have G:(a.nx.map OK)[0+((n:Nat):Int).toNat]? = some (OK f):=by rw [kG,f6];simp [p]
  have P:=bt (r:=f) (l:=l.toNat) (x:=(k:Int)) (by omega)
  have B:(f.set l.toNat (k:Int))[l.toNat]? = some (k:Int):=by rw [lq (by omega)]
  generalize f.set l.toNat (k:Int)=u at *
  have A:(OK f).take l.toNat++C.d (iD k)::(OK f).drop (l.toNat+1)=OK u:=by rw [<-P];simp [Af]
  (repeat first|(refine sA rfl ?_ ?_;first|exact tI|omega) |refine aU rfl ?_);(refine Ag rfl ?_;refine Fo ?_ rfl (by rfl);refine DQ (r:=OK f) rfl rfl rfl rfl G rfl (by show 0+l.toNat*1+1<=6;omega) ?_);refine Aa ?_;refine Aj.Ak [0,1,2] [] rfl rfl [] [(0,.cells 131 14 [ZE t (.arr 1 12 0 a.F.length) (.mp 2) (.arr 3 6 0 a.nx.length) (.arr 4 1 0 a.un.length)]),(1,.cells 189 12 (a.F.map ON)),(2,.mp (mapA .u16 (N5 a.F))),(3,.cells 109 6 ((a.nx.set n u).map OK)),(4,.cells 4 1 (a.un.map AP))] [0,1,2,3,4] (rl b rfl) (by (simp[cX,zC,b,AO,A])) ?_;(try dsimp only[cA,cB])
  have hr2:((a.nx.set n u).map OK)[0+((n:Nat):Int).toNat]? = some (OK u):=by rw [kG,f6];simp [T]
  have M:(OK u)[0+l.toNat*1]? = some (.d (iD k)):=by rw [kG,nY];exact Ux B
  (repeat first|(refine sA rfl ?_ ?_;first|exact tI|omega)|(refine Ag rfl ?_;refine gA rfl ?_;first| refine gQ (MZ rfl rfl (by assumption) M) rfl ?_) |refine aU rfl ?_ |refine Aa ?_);refine aR ⟨_,rfl,[0,1,2,3,4],eI .i64 (k:Int),KF t (WC a n u),⟨by intro i hi;match i with|0=>rfl,by decide⟩,rfl,by (simp[cX,zC,b,AO,WC]),rfl,rfl,rfl⟩
 ·obtain⟨j,rfl,hj⟩:=z.resolve_left N
  refine⟨m,j,e,λ_ _ h=>h,hj,Nat.le_succ _,?_⟩;refine AS.AV (AS.PZ (m:=1) (ce rfl) Tryz.func110 rfl (by kernel_rfl) (ce rfl) ?_);intro Γ b;(repeat first|(refine sA rfl ?_ ?_;first|exact tI|omega) |refine s2 rfl λ_ _hb=>?_|(refine Ag rfl ?_;refine gA rfl ?_;first| refine gQ (MZ rfl rfl (by assumption) g) rfl ?_) |refine aU rfl ?_ |refine Aa ?_)
  ((refine aC rfl ?_ ?_<;>rintro⟨⟩);all_goals try(exfalso;(simp only[oZ] at *;omega)))
  refine aK ?_;(repeat first|(refine sA rfl ?_ ?_;first|exact tI|omega)|(refine Ag rfl ?_;refine gA rfl ?_;first| refine gQ (MZ rfl rfl (by assumption) g) rfl ?_) |refine aU rfl ?_ |refine Aa ?_);refine aR ⟨_,rfl,[0,1,2,3,4],eI .i64 (j:Int),KF t m,⟨by intro i hi;match i with|0=>rfl,by decide⟩,rfl,by (simp[cX,zC,b,AO]),rfl,rfl,rfl⟩
theorem Xi[FA TB]{t:Cw}{ok:W->Prop}(ht:A3 t=true)(a:cR t ok){m:E8}(c:Hh t ok m){n:Nat}{F:PS}(e:m.F[n]? = some F){l:Int}(d:0<=l/\l < 6)(b:fw t ok (Ed t l F)):∃(m':E8) (j:Nat),Hh t ok m'/\iF m m'/\m'.F[j]? = some (Ed t l F)/\
 AS Tryz.prog TB 110 1 (KF t m) 5 [.o (.ptr 0 14 0 0),eI .i64 (n:Int),eI .i64 l] (λx σ nx=>x=eI .i64 (j:Int)/\σ=KF t m'/\nx=5):=by
 obtain⟨m',j,i,h,g,_,f⟩:=Vn (TB:=TB) ht c e d (a m.F c.nd c.rk) b;exact⟨m',j,i,h,g,f⟩
def KM(t:Cw)(ok:W->Prop)(m:E8):Prop:=Hh t ok m/\m.F[0]? = some (CD t)
theorem UQ[FA TB]{t:Cw}{ok:W->Prop}(ht:A3 t=true)(l:cR t ok){m0:E8}(k:KM t ok m0){w:W}(u:ok w)(hw:∀c∈w,0<=(c.toNat:Int) - 97/\(c.toNat:Int) - 97 < 6)(L:w.length<=1048576) :
 AS Tryz.prog TB 145 1 (KF t m0) 5 [.o (.ptr 0 14 0 0),eT w] (λx σ nx=>x=eB (LS t w)/\nx=5/\∃m,KM t ok m/\σ=KF t m):=by
 have Q:w.drop 0=w:=rfl;refine AS.AV (AS.PZ (m:=1) (ce rfl) Tryz.func145 rfl (by kernel_rfl) (ce rfl) ?_);intro Γ a;(repeat first|refine tA rfl ?_ |refine aU rfl ?_ |refine Aa ?_);refine aB ?_;refine aL (U:={x:Nat×Nat×E8 // x.1<=w.length/\KM t ok x.2.2/\∃F,x.2.2.F[x.2.1]? = some F/\Iy t F (w.drop x.1)=LS t w/\F=Nl t (CD t) (w.take x.1)}) [0,1] [] rfl rfl (λs=>[(5,eI .i64 s.1.2.1),(6,eI .i64 s.1.1)]) (λs=>KF t s.1.2.2) 5 (λs=>w.length - s.1.1) (⟨⟨0,0,m0⟩,by simp,k,CD t,k.2,rfl,rfl⟩) a rfl (by (simp[cX,zC,a,AO])) ?_;rintro⟨⟨i,n,m⟩,hi,h,F,r,e,g⟩;(try dsimp only[cA,cB]);have hi:i<=w.length:=hi;have h:KM t ok m:=h;have g:F=Nl t (CD t) (w.take i):=g;have r:m.F[n]? = some F:=r;have e:Iy t F (w.drop i)=LS t w:=e;have H:=h.1.un n F r;have M:=(am.1 H).1
 have N:(m.un.map AP)[0+((n:Nat):Int).toNat]? = some (AP (JV t F)):=by rw [kG,f6];simp [H]
 by_cases y:i < w.length
 ·obtain⟨c,q⟩:=get_some y
  have B:w[((i:Nat):Int).toNat]? = some c:=by simpa using q
  have p:=hw c (co q);have A:=FR (TB:=TB) w i c B p;have R:=CX q
  have f:Ed t ((c.toNat:Int) - 97) F=Nl t (CD t) (w.take (i+1)):=by
   rw [io,q,RD,<-g];rfl
  obtain⟨K,j,v,z,P,G⟩:=Xi (TB:=TB) ht l h.1 r p (.inr ⟨w.take (i+1),w.drop (i+1),by rw [lv];exact u,f⟩);rw [R,Iy] at e;generalize JV t F=b at *
  (repeat' first|(refine sA rfl ?_ ?_;first|exact tI|omega) |refine t4 rfl ‹_› rfl ?_ |refine s2 rfl λ_ d=>?_ |refine s3 rfl ?_ ?_<;>rintro rfl |refine aU rfl ?_ |refine Aa ?_|(refine aC rfl ?_ ?_<;>rintro⟨⟩));all_goals try contradiction
  all_goals first| (exfalso;(simp only[oZ] at *;omega);done)|skip
  ·have hb:b=false:=by simpa using d
   subst hb;refine aK ?_;refine aS (aB ?_);(repeat first|refine tA rfl ?_ |refine sP rfl (A) rfl ?_ |refine aU rfl ?_);(refine pW rfl ?_ rfl (by rfl);refine BG [0,1,2,3,4] rfl rfl 1 (G) (by decide) ⟨rfl,by decide,by decide⟩ rfl (by simp[cX,zC,a,AO]) ?_;rintro S I J ⟨rfl,rfl,rfl⟩ _);(repeat first|refine tA rfl ?_);refine Aa ?_;(repeat first|(refine sA rfl ?_ ?_;first|exact tI|omega) |refine aU rfl ?_ |refine Aa ?_);refine⟨⟨⟨i+1,j,K⟩,by omega,⟨v,z 0 _ h.2⟩,_,P,by simpa using e,f⟩,by dsimp only;(omega),[0,5,6,7,8],?_⟩;simp[cX,zC,a,AO]
  ·have hb:b=true:=by simpa using d
   subst hb
   have e:LS t w=false:=by simpa using e.symm
   rw [e];refine aE ?_;(repeat first|(refine sA rfl ?_ ?_;first|exact tI|omega) |refine t4 rfl ‹_› rfl ?_ |refine s2 rfl λ_ d=>?_ |refine aU rfl ?_ |refine Aa ?_);refine aR ⟨_,rfl,[0,1,2,3,4],eB false,KF t m,⟨by intro i hi;match i with|0=>rfl,by decide⟩,by subst_vars;rfl,by (simp[cX,zC,a,AO]),rfl,rfl,m,h,rfl⟩
 ·obtain rfl:i=w.length:=by omega
  rw [nL,Iy] at e;rw [<-e]
  (repeat' first|(refine sA rfl ?_ ?_;first|exact tI|omega) |refine t4 rfl ‹_› rfl ?_ |refine s2 rfl λ_ d=>?_ |refine s3 rfl ?_ ?_<;>rintro rfl |refine aU rfl ?_ |refine Aa ?_|(refine aC rfl ?_ ?_<;>rintro⟨⟩));all_goals try contradiction
  all_goals first| (exfalso;(simp only[oZ] at *;omega);done)|skip
  refine aE ?_;(repeat first|(refine sA rfl ?_ ?_;first|exact tI|omega) |refine t4 rfl ‹_› rfl ?_ |refine s2 rfl λ_ d=>?_ |refine aU rfl ?_ |refine Aa ?_);refine aR ⟨_,rfl,[0,1,2,3,4],eB (!JV t F),KF t m,⟨by intro i hi;match i with|0=>rfl,by decide⟩,by subst_vars;rfl,by (simp[cX,zC,a,AO]),rfl,rfl,m,h,rfl⟩
def Lf(t:Cw)(ok:W->Prop):Hid:=⟨{m:E8 // KM t ok m},λs=>KF t s.1,5⟩
theorem ZF{tabs:List (Nat×Obj)}[FA ⟨tabs,none⟩]{t:Cw}{ok:W->Prop}(ht:A3 t=true)(a:cR t ok){r:Nat}{w:W}(d:ok w)(hw:∀c∈w,0<=(c.toNat:Int) - 97/\(c.toNat:Int) - 97 < 6)(b:w.length<=1048576) :
 Pure Tryz.prog ⟨tabs,some (Lf t ok,r)⟩ 145 [.o (JC r),eT w] (eB (LS t w)):=
 YU (H:=Lf t ok) (k:=14) (es:=[eT w]) ⟨_,Tryz.func145,by kernel_rfl,rfl⟩ (by intro e f;simp at f;subst f;rfl) rfl λs=>
  ⟨(UQ (TB:=⟨tabs,none⟩) ht a s.2 d hw b).1,λV vs S g ha=>((UQ (TB:=⟨tabs,none⟩) ht a s.2 d hw b).2 V vs S g ha).mono λe w' ⟨V',v,x,σ',u,q,p,n,l,j,m,i,h⟩=>⟨V',v,x,σ',u,q,p,n,l,j,⟨m,i⟩,h⟩⟩
section
variable {P:Program}{Γ:Ctx}{d:Option Tmp}{ty:TypeId}{pos:String}{af:Array Edge}{g:Option (Nat×Bool)}{f:Env}{σ:Ab}{nx:Nat}
variable {K:E->Ab->Nat->Prop}
theorem VX{t:TypeId}{z:List Value}{fl:List (Nat×Nat)}{parts:Array (Nat×Operand)}{es:List E}{qs:List (Nat×List C)}[T:BM P t z][hf:Eu P t fl](p k e q k' e' s k'' e'':Nat)(hp:z[p]? = some (.slice none 0 0))(n:z[q]? = some (.slice none 0 0))(l:z[s]? = some (.slice none 0 0))(Z:p≠q/\p≠s/\q≠s)(N:HS f (parts.toList.map (·.2))=some es)(Y:Ey fl parts.toList es=some qs)
 (G:z.all NK=true) (H:(qs.all λx=>Nat.ble (x.1+x.2.length) z.length)=true) (hK:K (.a (BC qs ((((z.map zC).set p (.arr nx k 0 0)).set q (.arr (nx+1) k' 0 0)).set s (.arr (nx+2) k'' 0 0)))) ((nx+2,.cells e'' k'' [])::(nx+1,.cells e' k' [])::(nx,.cells e k [])::σ) (nx+3)):BZ P TB Γ ⟨d,.build t parts,ty,pos,af,g⟩ f σ nx K:=
 Db λV ρ h1 h2 h3=>by
  subst h3;obtain⟨i,zv,hi,A,m⟩:=Hd T.out;obtain⟨L,S⟩:=h2.alloc (c:=0) (nl:=True) (w:=V.w) (ob:=.cells e k []) rfl rfl rfl rfl (i7 _) (λ_ _=>rfl) (.inl ⟨by simp [Al],rfl⟩);obtain⟨J,R⟩:=L.alloc (c:=0) (nl:=True) (w:=V.w) (ob:=.cells e' k' []) rfl rfl rfl rfl (i7 _) (λ_ _=>rfl) (.inl ⟨by simp [Al],rfl⟩);obtain⟨I,Q⟩:=J.alloc (c:=0) (nl:=True) (w:=V.w) (ob:=.cells e'' k'' []) rfl rfl rfl rfl (i7 _) (λ_ _=>rfl) (.inl ⟨by simp [Al],rfl⟩);have y:=(S.trans R).trans Q;have M:=CY (V:=Al (Al (Al V V.w.heap.size 0 True V.w) V.w.heap.size 0 True V.w) V.w.heap.size 0 True V.w) (ρ:=ρ) parts.toList es qs (λx F e he=>(h1.get (by simp only [Op.operands];simpa using F) he).ext y) N Y
  have B : CU (Al (Al (Al V V.w.heap.size 0 True V.w) V.w.heap.size 0 True V.w) V.w.heap.size 0 True V.w) ((((z.map zC).set p (.arr V.nx k 0 0)).set q (.arr (V.nx+1) k' 0 0)).set s (.arr (V.nx+2) k'' 0 0)) zv.cells:=by
   refine⟨by rw [kX,kX,kX,gc,<-m];simp,λj c v h X=>?_⟩
   have b:z[j]? = some v:=by rw [<-m,lE];exact X
   by_cases o:s=j
   ·subst o
    rw [l] at b
    injection b with b
    subst b;rw [lq (by rw [kX,kX,gc];exact(am.1 l).1)] at h
    injection h with h
    subst h;exact Az.nil (by simp [Al]) (by simp [Al])
   ·rw [lr o] at h
    by_cases r:q=j
    ·subst r
     rw [n] at b
     injection b with b
     subst b;rw [lq (by rw [kX,gc];exact(am.1 n).1)] at h
     injection h with h
     subst h;exact Az.nil (by simp [Al]) (by simp [Al])
    ·rw [lr r] at h
     by_cases u:p=j
     ·subst u
      rw [hp] at b
      injection b with b
      subst b;rw [lq (by rw [gc];exact(am.1 hp).1)] at h
      injection h with h
      subst h;exact Az.nil (by simp [Al];omega) (by simp [Al])
     ·rw [lr u,d9,b] at h
      injection h with h
      subst h;exact IZ (f7.1 G v (co b))
  obtain⟨cells,h4,h5⟩:=Fc _ _ _ _ M B (λx F=>by rw [kX,kX,kX,gc];exact Ht _ _ H x F);have hb:=run_build (P:=P) (ρ:=ρ) (parts:=parts) (V:=V) hi A hf.out h4;refine⟨.agg cells,_,_,_,?_,y,I,(show A4 _ (.a _) _ from ⟨cells,rfl,h5⟩),hK⟩
  show ((do let v <-Instr.build t (parts.map λ(i,x)=>(i,ρ x));pure (Go.Next.value v):Sem Go.Next)).run P V.w=_
  simp only [kL,hb,kF];rfl
end
theorem HB{a b:Int}(ha:BO a=true)(hb:BO b=true):Ac (FQ .i64 a b)=(Ac a).filter λl=>!Eg b l.toNat:=by
 have key:((List.range 64).all λx=>(List.range 64).all λy=>decide (Ac (FQ .i64 (x:Nat) (y:Nat))=(Ac (x:Nat)).filter λl=>!Eg (y:Nat) l.toNat))=true:=by kernel_rfl
 unfold BO at ha hb;simp only [decide_eq_true_eq] at ha hb;have d:=f7.1 key a.toNat (kB.2 (by omega));have c:=f7.1 d b.toNat (kB.2 (by omega));rw [ng ha.1,ng hb.1] at c;exact of_decide_eq_true c
abbrev ZR(t:Cw):List D:=[iD t.s.al,iD t.s.st,Gb t.s.es,iD t.q.al,Da t.q.nx,FK t.q.ac,iD t.al]
abbrev Im(t:Cw):E:=.a ((ZR t).map .d)
theorem Qt(t:Cw)(ok:W->Prop):Hh t ok ⟨[],[],[]⟩:=⟨rfl,rfl,jp,by simp,by simp,by simp,by simp⟩
theorem Pr[FA TB]{t:Cw}(ht:A3 t=true)(ok:W->Prop):∃m,KM t ok m/\AS Tryz.prog TB 107 0 [] 0 [Im t] (λx σ nx=>x=.o (.ptr 0 14 0 0)/\σ=KF t m/\nx=5):=by
 have y:BD t.s=true:=by unfold A3 at ht;simp only [d5] at ht;exact ht.1
 have n:BO t.al=true:=by unfold A3 at ht;simp only [d5] at ht;exact ht.2.2
 have p:=Ch y;have A:=NH ht;obtain⟨j,k,c,f⟩:=Xh (TB:=TB) ht (Qt t ok) (by simp) (KH ht)
 have d:j=Ho t ⟨[],[],[]⟩ (CD t):=by
  rcases c with ⟨_,w⟩|⟨w,_,_⟩
  ·simp at w
  ·exact w
 have e:=Qm (TB:=TB) ht ⟨[],[],[]⟩ A;refine⟨j,⟨by rw [d];exact TU (Qt t ok) .start (.inl rfl) (by simp),by rw [d];rfl⟩,?_⟩;have u:=SU (TB:=TB) t.s y;have l:=Fs (TB:=TB) t.q (CT ht);have b:=CO (TB:=TB) (FQ .i64 t.s.al t.al);rw [HB p.1 n] at b;have b:Pure Tryz.prog TB 108 [eI .i64 (FQ .i64 t.s.al t.al)] (AW (CG t)):=b;rw [show RY t JP=CD t from rfl] at e;have v:mapA .u16 (N5 [])=[]:=rfl;have r:FW JP=[1,0,0,0,0,0,0,0,0,0,0,0]:=rfl;refine AS.AV (AS.PZ (m:=0) (ce rfl) Tryz.func107 rfl (by kernel_rfl) (ce rfl) ?_);intro Γ a;(repeat first|refine tA rfl ?_ |refine aU rfl ?_ |refine Aa ?_);refine rG (NI [(14,1),(15,1),(16,1)]) (by kernel_rfl) ?_;(repeat first|refine tX rfl ?_ |refine sP rfl (u) rfl ?_|refine sP rfl (l) rfl ?_|refine sP rfl (b) rfl ?_|(refine Ag rfl ?_;refine gA rfl ?_;first| refine gS (λ_ _=>YV rfl rfl rfl) ?_));(refine pW rfl ?_ rfl (by rfl);refine HZ ?_);(refine pW rfl ?_ rfl (by rfl);refine VX 10 12 189 12 6 109 13 1 4 rfl rfl rfl (by decide) rfl rfl (by rfl) (by rfl) ?_);(refine pW rfl ?_ rfl (by rfl);refine FU rfl rfl ?_);(repeat first|refine tA rfl ?_);refine Aa ?_;refine Aj.Ak [] [] rfl rfl [(3,.o (.ptr 0 14 0 0))] [(0,.cells 131 14 [ZE t (.arr 1 12 0 0) (.mp 2) (.arr 3 6 0 0) (.arr 4 1 0 0)]),(1,.cells 189 12 []),(2,.mp []),(3,.cells 109 6 []),(4,.cells 4 1 [])] [4,1,0,2,3] (rl a rfl) (by (simp[cX,zC,a,AO])) ?_;(try dsimp only[cA,cB]);(repeat first|refine tA rfl ?_|(refine Ag rfl ?_;refine gA rfl ?_;first| refine gS (λ_ _=>AG rfl rfl (by rfl) (by rfl)) ?_) |refine aU rfl ?_);(refine pW rfl ?_ rfl (by rfl);refine Ae [0,1,2,3,4] rfl rfl (e) ⟨rfl,by decide,by decide⟩ rfl (by simp[cX,zC,a,AO,r,v]) ?_;rintro z g h ⟨rfl,rfl,rfl⟩ _);(refine pW rfl ?_ rfl (by rfl);refine BG [0,1,2,3,4] rfl rfl 1 (f) (by decide) ⟨rfl,by decide,by decide⟩ rfl (by simp[cX,zC,a,AO]) ?_;rintro z g h ⟨rfl,rfl,rfl⟩ _);refine Aa ?_;(repeat first|refine tA rfl ?_ |refine aU rfl ?_ |refine Aa ?_);refine aR ⟨_,rfl,[0,5,6,7,8],.o (.ptr 0 14 0 0),KF t j,⟨by intro i hi;omega,by decide⟩,rfl,by (simp[cX,zC,a,AO]),rfl,rfl,rfl⟩
def Lw(b:List UInt8)(p m:Int)(P:Sys->Prop)(x:E)(σ:Ab)(nx:Nat):Prop:=∃(p':Int) (s:Sys),(p<=p'/\p'<=p+m)/\P s/\x=Dm s/\σ=[(0,AN b p')]/\nx=1
def jb(n:Int)(s:Sys):Prop:=s.st=n/\(∀e∈s.es,0<=e.t/\e.t < n)/\s.es.length<=400
theorem HA(b:List UInt8)(hb:b.length<=2000)(p:Int)(h0:0<=p/\p < 900000000)(al n iO:Int)(Z:0<=n/\n<=8):AS Tryz.prog TB 284 1 [(0,AN b p)] 1 [.o (.ptr 0 2 0 0),eI .i64 al,eI .i64 n,eI .i64 iO] (Lw b p 400 (jb n)):=by
 have V:(Ac al).length<=6:=AK al 6;refine AS.AV (AS.PZ (m:=1) (ce rfl) Tryz.func284 rfl (by kernel_rfl) (ce rfl) ?_);intro Γ a;(repeat first|refine tA rfl ?_ |refine aU rfl ?_ |refine Aa ?_);(refine pW rfl ?_ rfl (by rfl);refine MJ 2 3 158 rfl rfl rfl (by rfl) (by rfl) ?_);(repeat first|refine tA rfl ?_ |refine sP rfl (Cp al) rfl ?_ |refine aU rfl ?_ |refine Aa ?_);refine aB ?_;refine aL (U:={s:Nat×Int×List D0 // (s.1:Int)<=n/\(p<=s.2.1/\s.2.1<=p+48*s.1)/\(s.2.2.length:Int)<=s.2.1 - p/\∀e∈s.2.2,0<=e.t/\e.t < n}) [0,2,3,8,9,10] [1] rfl rfl (λs=>[(11,eI .i64 s.1.1)]) (λs=>[(0,AN b s.1.2.1),(2,.cells 158 3 (s.1.2.2.map A7)),(3,.cells 25 3 [[.d (iD al),.d (iD n),.arr 2 3 0 s.1.2.2.length]])]) 4 (λs=>n.toNat - s.1.1) (⟨⟨0,p,[]⟩,by simp;omega⟩) a rfl (by (simp[cX,zC,a])) ?_;rintro⟨⟨k,q,es⟩,hk,P,F,K⟩;(try dsimp only[cA,cB]);have hk:(k:Int)<=n:=hk;have P:p<=q/\q<=p+48*k:=P;have F:(es.length:Int)<=q - p:=F;(repeat first|refine tM rfl ?_ |refine s2 rfl λ_ f=>?_ |refine aU rfl ?_ |refine Aa ?_)
 ((refine aC rfl ?_ ?_<;>rintro⟨⟩);all_goals try (simp at f;done))
 ·have T : (k:Int) < n:=by (simp only[oZ] at *;omega)
  refine aK ?_;refine aS (aB ?_);(repeat first|refine tX rfl ?_ |refine aU rfl ?_ |refine Aa ?_);refine aB ?_;refine aL (U:={s:Nat×Int×List D0 // s.1<=(Ac al).length/\(q<=s.2.1/\s.2.1<=q+8*s.1)/\(s.2.2.length:Int)<=s.2.1 - p/\∀e∈s.2.2,0<=e.t/\e.t < n}) [0,2,3,8,9,10,11] [1] rfl rfl (λs=>[(12,eI .i64 s.1.1)]) (λs=>[(0,AN b s.1.2.1),(2,.cells 158 3 (s.1.2.2.map A7)),(3,.cells 25 3 [[.d (iD al),.d (iD n),.arr 2 3 0 s.1.2.2.length]])]) 4 (λs=>(Ac al).length - s.1.1) (⟨⟨0,q,es⟩,by simp,by simp,F,K⟩) a rfl (by (simp[cX,zC,a])) ?_;rintro⟨⟨i,u,z⟩,hi,M,g,y⟩;(try dsimp only[cA,cB]);have hi:i<=(Ac al).length:=hi;have M:q<=u/\u<=q+8*i:=M;have g:(z.length:Int)<=u - p:=g;clear K F;(repeat first|refine sN rfl ?_ |refine tM rfl ?_ |refine s2 rfl λ_ f=>?_ |refine aU rfl ?_ |refine Aa ?_)
  ((refine aC rfl ?_ ?_<;>rintro⟨⟩);all_goals try (simp at f;done))
  ·have B:i < (Ac al).length:=by (simp only[oZ] at *;omega)
   obtain⟨l,G⟩:=get_some B
   have X:((Ac al).map CN)[((i:Nat):Int).toNat]? = some (CN l):=by rw [f6];simp [G]
   refine aK ?_;refine aS (aB ?_);(repeat first|refine tX rfl ?_ |refine aU rfl ?_ |refine Aa ?_);refine aB ?_;refine aL (U:={s:Nat×Int×List D0 // (s.1:Int)<=n/\(u<=s.2.1/\s.2.1<=u+s.1)/\(s.2.2.length:Int)<=s.2.1 - p/\∀e∈s.2.2,0<=e.t/\e.t < n}) [0,2,3,8,9,10,11,12] [1] rfl rfl (λs=>[(13,eI .i64 s.1.1)]) (λs=>[(0,AN b s.1.2.1),(2,.cells 158 3 (s.1.2.2.map A7)),(3,.cells 25 3 [[.d (iD al),.d (iD n),.arr 2 3 0 s.1.2.2.length]])]) 4 (λs=>n.toNat - s.1.1) (⟨⟨0,u,z⟩,by simp;omega,by simp,g,y⟩) a rfl (by (simp[cX,zC,a])) ?_;rintro⟨⟨j,v,h⟩,Q,L,w,x⟩;(try dsimp only[cA,cB]);have Q:(j:Int)<=n:=Q;have L:u<=v/\v<=u+j:=L;have w:(h.length:Int)<=v - p:=w;clear y g;(repeat first|refine tM rfl ?_ |refine s2 rfl λ_ f=>?_ |refine aU rfl ?_ |refine Aa ?_)
   ((refine aC rfl ?_ ?_<;>rintro⟨⟩);all_goals try (simp at f;done))
   ·obtain⟨c,c1,c2,hp⟩:=AR (TB:=TB) b hb v iO (by omega)
    have I:(j:Int) < n:=by (simp only[oZ] at *;omega)
    refine aK ?_;refine aS (aB ?_);(repeat first|refine tA rfl ?_ |refine aU rfl ?_);(refine pW rfl ?_ rfl (by rfl);refine Ae [0] rfl rfl (hp) ⟨rfl,by decide,by decide⟩ rfl (by simp[cX,zC,a]) ?_;rintro Y R S ⟨rfl,rfl,rfl⟩ _);(repeat first|refine s2 rfl λ_ f=>?_ |refine Aa ?_);(refine aC rfl ?_ ?_<;>rintro⟨⟩)
    ·refine rG (NI [(1,13),(10,1),(12,1)]) (by kernel_rfl) ?_
     (repeat first|refine tA rfl ?_ |(refine s4 rfl ‹_› rfl ?_ ?_;omega)|(refine Ag rfl ?_;refine gA rfl ?_;first| refine gS (λ_ _=>AG rfl rfl (by rfl) (by rfl)) ?_));(refine pW rfl ?_ rfl (by rfl);refine Aw rfl rfl rfl (by first| (simp;done)|(simp;(omega))) rfl (by intro r N;simp at N;subst N;rfl) (by rfl) (ce rfl) (by simp;omega) ?_);(repeat first|(refine sA rfl ?_ ?_;first|exact tI|omega) |refine aU rfl ?_ |refine Aa ?_)
     have J:∀e∈h++[(⟨k,l,j⟩:D0)],0<=e.t/\e.t < n:=λe A=>by
      rcases em.1 A with A|A
      ·exact x e A
      ·simp at A;subst A;exact⟨by dsimp only;omega,I⟩
     refine⟨⟨⟨j+1,v+1,h++[⟨k,l,j⟩]⟩,by dsimp only;omega,by dsimp only;omega,by simp;omega,J⟩,by dsimp only;(omega),[0,1,4,3],?_⟩;(simp[cX,zC,a,cN]<;>rfl)
    ·refine aK ?_
     (repeat first|(refine sA rfl ?_ ?_;first|exact tI|omega) |refine aU rfl ?_ |refine Aa ?_);refine⟨⟨⟨j+1,v+1,h⟩,by dsimp only;omega,by dsimp only;omega,by dsimp only;omega,x⟩,by dsimp only;(omega),[0,1,2,3],?_⟩;(simp[cX,zC,a,cN]<;>rfl)
   ·have H:(j:Int)=n:=by (simp only[oZ] at *;omega)
    refine aE ?_;(repeat first|(refine sA rfl ?_ ?_;first|exact tI|omega) |refine aU rfl ?_ |refine Aa ?_);refine⟨⟨⟨i+1,v,h⟩,by dsimp only;omega,by dsimp only;omega,w,x⟩,by dsimp only;(omega),[0,1,2,3],?_⟩;(simp[cX,zC,a,cN]<;>rfl)
  ·refine aE ?_
   have B:i=(Ac al).length:=by (simp only[oZ] at *;omega)
   (repeat first|(refine sA rfl ?_ ?_;first|exact tI|omega) |refine aU rfl ?_ |refine Aa ?_);refine⟨⟨⟨k+1,u,z⟩,by dsimp only;omega,by dsimp only;omega,g,y⟩,by dsimp only;(omega),[0,1,2,3],?_⟩;(simp[cX,zC,a,cN]<;>rfl)
 ·have H:(k:Int)=n:=by (simp only[oZ] at *;omega)
  refine aE ?_;(repeat first|refine tA rfl ?_ |refine aU rfl ?_ |refine Aa ?_);refine Aj.AH [1,2] [(8,.o (.ip [iD al,iD n,Gb es]))] ⟨⟨_,rfl,.inr (.o (.box rfl (.cons .d (.cons .d (.cons (.full rfl (by simp [d4]) (by simp)) .nil)))))⟩,trivial⟩ ?_;refine aR ⟨_,rfl,[0],Dm ⟨al,n,es⟩,[(0,AN b q)],⟨by intro i hi;match i with|0=>rfl,by decide⟩,rfl,by (simp[cX,zC,a,cN]),q,⟨al,n,es⟩,by omega,⟨rfl,K,by dsimp only;omega⟩,rfl,rfl,rfl⟩
def jS(m:Int)(s:Sys):Prop:=(∀e∈s.es,0<=e.t/\e.t < m)/\s.es.length<=400
theorem jb.le{n m:Int}{s:Sys}(h:jb n s)(b:n<=m):jS m s:=⟨λe a=>by have:=h.2.1 e a;omega,h.2.2⟩
theorem Mz(b:List UInt8)(hb:b.length<=2000)(p:Int)(x:0<=p/\p < 800000000):Spec Tryz.prog TB 253 [(0,AN b p)] 1 [.o (.ptr 0 2 0 0)] (Lw b p 403 (jS 5)):=by
 obtain⟨j,v,r⟩:=BR (TB:=TB) b hb p (by omega) [3,6,7,5,2] (by decide) (by decide);obtain⟨g,l,n⟩:=BR (TB:=TB) b hb (p+1) (by omega) [2,3,1,3] (by decide) (by decide);obtain⟨h,u,m⟩:=BR (TB:=TB) b hb (p+1+1) (by omega) [2,3,4] (by decide) (by decide)
 have k:1<=g/\g<=3:=by simp at l;omega
 have f:=HA (TB:=TB) b hb (p+1+1+1) (by omega) j g h (by omega);refine eR Tryz.func253 rfl (by kernel_rfl) rfl ?_;intro Γ a;(repeat first|refine tA rfl ?_ |refine aU rfl ?_ |refine Aa ?_);(refine pW rfl ?_ rfl (by rfl);refine Ae [0] rfl rfl (r) ⟨rfl,by decide,by decide⟩ rfl (by simp[cX,zC,a]) ?_;rintro e c d ⟨rfl,rfl,rfl⟩ _);(repeat first|refine tA rfl ?_);(refine pW rfl ?_ rfl (by rfl);refine Ae [0] rfl rfl (n) ⟨rfl,by decide,by decide⟩ rfl (by simp[cX,zC,a]) ?_;rintro e c d ⟨rfl,rfl,rfl⟩ _);(repeat first|refine tA rfl ?_);(refine pW rfl ?_ rfl (by rfl);refine Ae [0] rfl rfl (m) ⟨rfl,by decide,by decide⟩ rfl (by simp[cX,zC,a]) ?_;rintro e c d ⟨rfl,rfl,rfl⟩ _);(refine pW rfl ?_ rfl (by rfl);refine BG [0] rfl rfl 1 (f) (by decide) ⟨rfl,by decide,by decide⟩ rfl (by simp[cX,zC,a,cN]) ?_;rintro e c d ⟨q,s,w,t,rfl,rfl,rfl⟩ _);(repeat first|refine tA rfl ?_ |refine Aa ?_);refine aR ⟨_,rfl,[0],Dm s,[(0,AN b q)],⟨by intro i hi;match i with|0=>rfl,by decide⟩,rfl,by (simp[cX,zC,a,cN]),q,s,by omega,t.le (by omega),rfl,rfl,rfl⟩
theorem Oz(b:List UInt8)(hb:b.length<=2000)(p:Int)(j:0<=p/\p < 800000000):∃n:Int,Spec Tryz.prog TB 238 [(0,AN b p)] 1 [.o (.ptr 0 2 0 0)] (λx σ nx=>x=eI .i64 n/\σ=[(0,AN b (p+1))]/\nx=1):=by
 obtain⟨e,h,f⟩:=BR (TB:=TB) b hb p (by omega) [3,7,1,5,0,6,63,2,21] (by decide) (by decide);refine⟨e,?_⟩;refine eR Tryz.func238 rfl (by kernel_rfl) rfl ?_;intro Γ a;(repeat first|refine tA rfl ?_ |refine aU rfl ?_ |refine Aa ?_);(refine pW rfl ?_ rfl (by rfl);refine Ae [0] rfl rfl (f) ⟨rfl,by decide,by decide⟩ rfl (by simp[cX,zC,a]) ?_;rintro g c d ⟨rfl,rfl,rfl⟩ _);(repeat first|refine tA rfl ?_ |refine Aa ?_);refine aR ⟨_,rfl,?_⟩;refine⟨[0],_,[(0,AN b (p+1))],⟨by first|(simp;done)|decide|(intro i hi;match i with|0=>rfl),by decide⟩,rfl,by (simp[cX,zC,a]),rfl,rfl,rfl⟩
theorem NZ(b:List UInt8)(hb:b.length<=2000)(p:Int)(P:0<=p/\p < 700000000)(al:Int):Spec Tryz.prog TB 255 [(0,AN b p)] 1 [.o (.ptr 0 2 0 0),eI .i64 al] (EW b p 100 (λa=>Hf 6 a)):=by
 obtain⟨v,N,I⟩:=BR (TB:=TB) b hb p (by omega) [63,63,5,3,6] (by decide) (by decide);obtain⟨c,R,Q,hp⟩:=AR (TB:=TB) b hb (p+1) 8 (by omega);obtain⟨H,J⟩:=Oz (TB:=TB) b hb (p+1+1) (by omega);refine eR Tryz.func255 rfl (by kernel_rfl) rfl ?_;intro Γ e;(repeat first|refine tA rfl ?_ |refine aU rfl ?_ |refine Aa ?_);(refine pW rfl ?_ rfl (by rfl);refine Ae [0] rfl rfl (I) ⟨rfl,by decide,by decide⟩ rfl (by simp[cX,zC,e]) ?_;rintro h f g ⟨rfl,rfl,rfl⟩ _);(repeat first|refine tA rfl ?_ |refine aU rfl ?_ |refine Aa ?_);(refine pW rfl ?_ rfl (by rfl);refine Ae [0] rfl rfl (hp) ⟨rfl,by decide,by decide⟩ rfl (by simp[cX,zC,e]) ?_;rintro h f g ⟨rfl,rfl,rfl⟩ _);(repeat first|refine s2 rfl λ_ u=>?_ |refine Aa ?_);(refine aC rfl ?_ ?_<;>rintro⟨⟩)
 ·(repeat first|refine tA rfl ?_ |refine aU rfl ?_)
  (refine pW rfl ?_ rfl (by rfl);refine Ae [0] rfl rfl (J) ⟨rfl,by decide,by decide⟩ rfl (by simp[cX,zC,e]) ?_;rintro h f g ⟨rfl,rfl,rfl⟩ _);(repeat first|refine tA rfl ?_ |refine aU rfl ?_ |refine Aa ?_);obtain⟨M,L,K,m⟩:=AR (TB:=TB) b hb (p+1+1+1) 4 (by omega);obtain⟨k,x,y⟩:=BR (TB:=TB) b hb (p+1+1+1+1) (by omega) [3,2,4,1] (by decide) (by decide)
  have w:1<=k/\k<=4:=by simp at x;omega
  have G:=Km (TB:=TB) b hb (p+1+1+1+1+1) (by omega) (H) k (by omega);have F:=HW (TB:=TB) b hb (p+1+1+1+1) (by omega) (H)
  obtain⟨j,rfl⟩:∃j,j=H:=⟨_,rfl⟩
  (refine pW rfl ?_ rfl (by rfl);refine Ae [0] rfl rfl (m) ⟨rfl,by decide,by decide⟩ rfl (by simp[cX,zC,e]) ?_;rintro h f g ⟨rfl,rfl,rfl⟩ _);(repeat first|refine s2 rfl λ_ u=>?_ |refine Aa ?_);(refine aC rfl ?_ ?_<;>rintro⟨⟩)
  ·(repeat first|refine tA rfl ?_ |refine aU rfl ?_)
   (refine pW rfl ?_ rfl (by rfl);refine Ae [0] rfl rfl (y) ⟨rfl,by decide,by decide⟩ rfl (by simp[cX,zC,e]) ?_;rintro h f g ⟨rfl,rfl,rfl⟩ _);(refine pW rfl ?_ rfl (by rfl);refine BG [0] rfl rfl 1 (G) (by decide) ⟨rfl,by decide,by decide⟩ rfl (by simp[cX,zC,e,cN]) ?_;rintro h f g ⟨q,l,ac,A,B,n,z,rfl,rfl,rfl⟩ _);(repeat first|refine tA rfl ?_ |refine Aa ?_);refine Aj.Ak [4] [] rfl rfl [] [(0,AN b q),(1,.cells 29 3 [[.d (iD j),.arr 2 1 0 l.length,.arr 3 1 0 ac.length]]),(2,.cells 53 1 (AA l)),(3,.cells 4 1 (ac.map AP)),(4,.sld 3 (sI l))] [0,1,2,3,4] (rl e rfl) (by (simp[cX,zC,e,cN])) ?_;(try dsimp only[cA,cB]);refine Aj.AH [1,2,3,4] [(4,.o (.ip (BP ⟨j,l.map (·.2),ac⟩)))] ⟨⟨_,rfl,.inr (.o (.box rfl (.cons .d (.cons (.LN (s:=4) rfl rfl) (.cons (.full rfl (by simp [d4]) (by simp)) .nil)))))⟩,trivial⟩ ?_;refine aR ⟨_,rfl,[0],Bi ⟨j,l.map (·.2),ac⟩,[(0,AN b q)],⟨by intro i hi;match i with|0=>rfl,by decide⟩,rfl,by (simp[cX,zC,e,cN]),q,_,by omega,Px B n z (by omega) (by omega),rfl,rfl,rfl⟩
  ·refine aK ?_
   (repeat first|refine tA rfl ?_ |refine aU rfl ?_);(refine pW rfl ?_ rfl (by rfl);refine Ae [0] rfl rfl (F) ⟨rfl,by decide,by decide⟩ rfl (by simp[cX,zC,e,cN]) ?_;rintro h f g ⟨q,t,A,r,rfl,rfl,rfl⟩ _);(repeat first|refine tA rfl ?_ |refine Aa ?_);refine aR ⟨_,rfl,[0],Bi t,[(0,AN b q)],⟨by intro i hi;match i with|0=>rfl,by decide⟩,rfl,by (simp[cX,zC,e,cN]),q,t,by omega,r.2,rfl,rfl,rfl⟩
 ·refine aK ?_
  (repeat first|refine tA rfl ?_ |refine aU rfl ?_);obtain⟨M,L,K,m⟩:=AR (TB:=TB) b hb (p+1+1) 4 (by omega);obtain⟨k,x,y⟩:=BR (TB:=TB) b hb (p+1+1+1) (by omega) [3,2,4,1] (by decide) (by decide)
  have w:1<=k/\k<=4:=by simp at x;omega
  have G:=Km (TB:=TB) b hb (p+1+1+1+1) (by omega) (Ew .i64 al v) k (by omega);have F:=HW (TB:=TB) b hb (p+1+1+1) (by omega) (Ew .i64 al v);generalize Ew .i64 al v=j at *;(refine pW rfl ?_ rfl (by rfl);refine Ae [0] rfl rfl (m) ⟨rfl,by decide,by decide⟩ rfl (by simp[cX,zC,e]) ?_;rintro h f g ⟨rfl,rfl,rfl⟩ _);(repeat first|refine s2 rfl λ_ u=>?_ |refine Aa ?_);(refine aC rfl ?_ ?_<;>rintro⟨⟩)
  ·(repeat first|refine tA rfl ?_ |refine aU rfl ?_)
   (refine pW rfl ?_ rfl (by rfl);refine Ae [0] rfl rfl (y) ⟨rfl,by decide,by decide⟩ rfl (by simp[cX,zC,e]) ?_;rintro h f g ⟨rfl,rfl,rfl⟩ _);(refine pW rfl ?_ rfl (by rfl);refine BG [0] rfl rfl 1 (G) (by decide) ⟨rfl,by decide,by decide⟩ rfl (by simp[cX,zC,e,cN]) ?_;rintro h f g ⟨q,l,ac,A,B,n,z,rfl,rfl,rfl⟩ _);(repeat first|refine tA rfl ?_ |refine Aa ?_);refine Aj.Ak [4] [] rfl rfl [] [(0,AN b q),(1,.cells 29 3 [[.d (iD j),.arr 2 1 0 l.length,.arr 3 1 0 ac.length]]),(2,.cells 53 1 (AA l)),(3,.cells 4 1 (ac.map AP)),(4,.sld 3 (sI l))] [0,1,2,3,4] (rl e rfl) (by (simp[cX,zC,e,cN])) ?_;(try dsimp only[cA,cB]);refine Aj.AH [1,2,3,4] [(4,.o (.ip (BP ⟨j,l.map (·.2),ac⟩)))] ⟨⟨_,rfl,.inr (.o (.box rfl (.cons .d (.cons (.LN (s:=4) rfl rfl) (.cons (.full rfl (by simp [d4]) (by simp)) .nil)))))⟩,trivial⟩ ?_;refine aR ⟨_,rfl,[0],Bi ⟨j,l.map (·.2),ac⟩,[(0,AN b q)],⟨by intro i hi;match i with|0=>rfl,by decide⟩,rfl,by (simp[cX,zC,e,cN]),q,_,by omega,Px B n z (by omega) (by omega),rfl,rfl,rfl⟩
  ·refine aK ?_
   (repeat first|refine tA rfl ?_ |refine aU rfl ?_);(refine pW rfl ?_ rfl (by rfl);refine Ae [0] rfl rfl (F) ⟨rfl,by decide,by decide⟩ rfl (by simp[cX,zC,e,cN]) ?_;rintro h f g ⟨q,t,A,r,rfl,rfl,rfl⟩ _);(repeat first|refine tA rfl ?_ |refine Aa ?_);refine aR ⟨_,rfl,[0],Bi t,[(0,AN b q)],⟨by intro i hi;match i with|0=>rfl,by decide⟩,rfl,by (simp[cX,zC,e,cN]),q,t,by omega,r.2,rfl,rfl,rfl⟩
theorem SO{es:List D0}{l:Int}{m k:Nat}{e:D0}(a:es[k]? = some e):BQ (es.take (k+1)) l m=if e.l=l/\m.testBit e.f.toNat=true then BQ (es.take k) l m ||| 2 ^ e.t.toNat else BQ (es.take k) l m:=by
 unfold BQ;rw [io,a,mL];rfl
theorem QP{s:Sys}(a:BD s=true){l:Int}{m k:Nat}:BQ (s.es.take k) l m < 65536:=HQ λj b=>by
 obtain⟨e,c,_,rfl⟩:=Ek.1 b;have hb:=CS a (kZ c);have d:=Ch a;unfold C8 at hb;simp only [d5,decide_eq_true_eq] at hb;omega
theorem OC{s:Sys}(o:BD s=true)(l:Int){m:Nat}(F:m < 65536):Pure Tryz.prog TB 249 [Dm s,eI .i64 (m:Nat),eI .i64 l] (eI .i64 (BQ s.es l m:Nat)):=by
 have G:=Ch o;refine eG Tryz.func249 rfl (by kernel_rfl) rfl ?_;intro Γ d;refine Aj.bound 0 rfl λw=>?_;have B:=w (s.es.map Dr) ⟨2,_,rfl,.refl⟩;rw [gc] at B;(repeat first|refine tA rfl ?_ |refine aU rfl ?_ |refine Aa ?_);refine aB ?_;refine aL (U:={k:Nat // k<=s.es.length}) [1,2,3] [] rfl rfl (λ⟨k,hk⟩=>[(7,eI .i64 (BQ (s.es.take k) l m:Nat)),(8,eI .i64 k)]) (λ⟨k,hk⟩=>[]) 0 (λ⟨k,hk⟩=>s.es.length - k) (⟨0,by omega⟩) d rfl (by (simp[cX,zC,d]<;>rfl)) ?_;rintro⟨k,hk⟩;(try dsimp only[cA,cB]);by_cases q:k < s.es.length
 ·obtain⟨e,u⟩:=get_some q
  have r:=get_map (g:=Dr) u
  have A:(s.es.map Dr)[((k:Nat):Int).toNat]? = some (Dr e):=by rw [f6];exact r
  have hb:=CS o (co u);unfold C8 at hb;simp only [d5,decide_eq_true_eq] at hb;have i:=SO (l:=l) (m:=m) u;have x:=QP o (l:=l) (m:=m) (k:=k);have j:=Dt (TB:=TB) (m:Nat) e.f (by omega) (by omega);rw [Jb (by omega) (by omega)] at j;have v:=QM (TB:=TB) e.t (by omega) (by omega)
  have z:2 ^ e.t.toNat < 65536:=by
   have:2 ^ e.t.toNat<=2 ^ 15:=lC (by omega) (by omega);omega
  have p:=LF (a:=BQ (s.es.take k) l m) (b:=2 ^ e.t.toNat) (by omega) (by omega);generalize 2 ^ e.t.toNat=y at *;(repeat first|refine sN rfl ?_ |refine tA rfl ?_ |refine s2 rfl λ_ c=>?_ |refine aU rfl ?_ |refine Aa ?_)
  ((refine aC rfl ?_ ?_<;>rintro⟨⟩);all_goals try(exfalso;(simp only[oZ] at *;omega)))
  refine aK ?_;refine aS (aB ?_)
  (repeat' first|(refine sA rfl ?_ ?_;first|exact tI|omega) |(refine s4 rfl ‹_› rfl ?_ ?_;omega) |refine s2 rfl λ_ c=>?_ |(refine sC rfl (j) ?_;intro _ c)|refine sP rfl (v) rfl ?_ |refine s3 rfl ?_ ?_<;>rintro rfl |refine aU rfl ?_ |refine Aa ?_|(refine aC rfl ?_ ?_<;>rintro⟨⟩));all_goals try contradiction
  ·refine⟨⟨k+1,by omega⟩,by dsimp only;(omega),[],?_⟩
   have n:BQ (s.es.take (k+1)) l m=BQ (s.es.take k) l m ||| y:=by rw [i,if_pos ⟨by simpa using ‹decide (e.l=l)=true›,c⟩]
   simp[cX,zC,d,p,n]
  ·have n:BQ (s.es.take (k+1)) l m=BQ (s.es.take k) l m:=by rw [i,if_neg (by simp [c])]
   refine aK ?_;(repeat first|(refine sA rfl ?_ ?_;first|exact tI|omega) |refine aU rfl ?_ |refine Aa ?_);refine⟨⟨k+1,by omega⟩,by dsimp only;(omega),[],?_⟩;simp[cX,zC,d,n]
  ·have n:BQ (s.es.take (k+1)) l m=BQ (s.es.take k) l m:=by rw [i,if_neg (λh=>by simp [h.1] at c)]
   refine aK ?_;(repeat first|(refine sA rfl ?_ ?_;first|exact tI|omega) |refine aU rfl ?_ |refine Aa ?_);refine⟨⟨k+1,by omega⟩,by dsimp only;(omega),[],?_⟩;simp[cX,zC,d,n]
 ·obtain rfl:k=s.es.length:=by omega
  rw [kz];(repeat first|refine sN rfl ?_ |refine tA rfl ?_ |refine s2 rfl λ_ c=>?_ |refine aU rfl ?_ |refine Aa ?_)
  ((refine aC rfl ?_ ?_<;>rintro⟨⟩);all_goals try(exfalso;(simp only[oZ] at *;omega)))
  refine aE ?_;(repeat first|refine tA rfl ?_ |refine aU rfl ?_ |refine Aa ?_);(subst_vars;exact aR ⟨_,rfl,rfl⟩)
abbrev Kz(n:Nat)(F:PS):List Int:=(List.range n).map λp=>(F p:Int)
def Cl(t:Cw)(G:PS)(i k:Nat):Prop:=∀p,p < t.q.nx.length->∀l∈CG t,(p < i\/(p=i/\l∈(CG t).take k))->∀j,(BQ t.s.es l (G p)).testBit j=true->(G (Bj t.q p l).toNat).testBit j=true
structure P7 (t:Cw) (F0 F:PS) (i k:Nat) (G:PS) (b:Bool):Prop where
 ok:C6 t G
 lo:∀p j,(F0 p).testBit j=true->(G p).testBit j=true
 hi:∀p j,(G p).testBit j=true->PX t F0 p j
 le:∀p,F p<=G p
 yes:b=true->Lr G < Lr F
 no:b=false->G=F/\Cl t F i k
theorem aY{F G:PS}(h:∀p,F p<=G p):Lr G<=Lr F:=by
 unfold Lr
 repeat' apply Nat.add_le_add
 all_goals exact Nat.sub_le_sub_left (h _) _
def Tz(G:PS)(x v:Nat):PS:=λp=>if p=x then v else G p
theorem P7.Nu{t:Cw}(ht:A3 t=true){F0 F G:PS}{i k:Nat}{b:Bool}(h:P7 t F0 F i k G b)(hi:i < t.q.nx.length){l:Int}(hk:(CG t)[k]? = some l){x:Nat}(u:Bj t.q i l=(x:Int))(m:G x ||| BQ t.s.es l (G i)≠G x):P7 t F0 F i (k+1) (Tz G x (G x ||| BQ t.s.es l (G i))) true:=by
 have r:=co hk;have d:=GR ht r;have v:=DA (CT ht) hi d.1 d.2.1;have c:=HG ht (l:=l) (h.ok.lt i);unfold C4 at c;rw [if_pos d.2.2] at c
 have f:G x ||| BQ t.s.es l (G i) < 65536:=by have:=mc (n:=16) (h.ok.lt x) c;omega
 have g:∀p,G p<=Tz G x (G x ||| BQ t.s.es l (G i)) p:=λp=>by
  unfold Tz;split
  ·rename_i e;subst e;exact Nat.left_le_or
  ·exact i7 _
 refine⟨⟨λp=>?_,λp hp=>?_⟩,λp j a=>?_,λp j a=>?_,λp=>i9 (h.le p) (g p),λ_=>?_,λh=>by cases h⟩
 ·unfold Tz
  split
  ·exact f
  ·exact h.ok.lt p
 ·unfold Tz
  rw [if_neg (by omega)];exact h.ok.z p hp
 ·have:=h.lo p j a
  unfold Tz;split
  ·rename_i e;subst e;rw [lZ,this];rfl
  ·exact this
 ·unfold Tz at a
  split at a
  ·rename_i e
   subst e;rw [lZ,kR] at a
   rcases a with a|a
   ·exact h.hi p j a
   ·obtain⟨e,o,⟨A,y⟩,w⟩:=Ek.1 a
    subst A;have:=PX.step (h.hi i _ y) o r rfl;rw [u,w] at this
    simpa using this
  ·exact h.hi p j a
 ·have B:=aY h.le
  refine kH (Uo h.ok.lt (λp=>?_) g λo=>m ?_) B
  ·unfold Tz
   split
   ·exact f
   ·exact h.ok.lt p
  ·have H:=Ax (CT ht)
   have:=PA o x (by omega)
   simpa [Tz] using this
theorem P7.ie{t:Cw}(ht:A3 t=true){F0 F G:PS}{i k:Nat}{b:Bool}(h:P7 t F0 F i k G b){l:Int}(hk:(CG t)[k]? = some l){x:Nat}(g:Bj t.q i l=(x:Int))(m:G x ||| BQ t.s.es l (G i)=G x):P7 t F0 F i (k+1) G b:=
 ⟨h.ok, h.lo,h.hi,h.le,h.yes,λhb=>by
  obtain⟨rfl,f⟩:=h.no hb;refine⟨rfl,λp hp l' c d j e=>?_⟩
  rcases d with a|⟨rfl,a⟩
  ·exact f p hp l' c (.inl a) j e
  ·rw [io,hk] at a
   rcases em.1 a with a|a
   ·exact f p hp l' c (.inr ⟨rfl,a⟩) j e
   ·simp at a
    subst a
    rw [g,f6,<-m,lZ,e,Bool.or_true]⟩
theorem P7.row{t:Cw}{F0 F G:PS}{i:Nat}{b:Bool}(h:P7 t F0 F i (CG t).length G b):P7 t F0 F (i+1) 0 G b:=
 ⟨h.ok,h.lo,h.hi,h.le,h.yes,λhb=>by
  obtain⟨rfl,e⟩:=h.no hb;refine⟨rfl,λp hp l' a c j d=>?_⟩
  rcases c with g|⟨rfl,g⟩
  ·rcases lc p i with f|f
   ·exact e p hp l' a (.inl f) j d
   ·exact e p hp l' a (.inr ⟨by omega,by rw [kz];exact a⟩) j d
  ·simp at g⟩
theorem P7.done{t:Cw}(ht:A3 t=true){F0 F G:PS}(d:C6 t F0)(h:P7 t F0 F t.q.nx.length 0 G false):G=RY t F0:=by
 obtain⟨rfl,c⟩:=h.no rfl;exact Xv ht d h.ok.z h.lo h.hi λp l j hp a b=>c p hp l a (.inl hp) j b
theorem bW{a b:Int}(ha:BO a=true)(hb:BO b=true):a - Ew .i64 a b=FQ .i64 a b/\0<=Ew .i64 a b/\Ew .i64 a b<=63:=by
 have key:((List.range 64).all λx=>(List.range 64).all λy=>decide (((x:Nat):Int) - Ew .i64 (x:Nat) (y:Nat)=FQ .i64 (x:Nat) (y:Nat)/\0<=Ew .i64 (x:Nat) (y:Nat)/\Ew .i64 (x:Nat) (y:Nat)<=63))=true:=by kernel_rfl
 unfold BO at ha hb;simp only [decide_eq_true_eq] at ha hb;have d:=f7.1 key a.toNat (kB.2 (by omega));have c:=f7.1 d b.toNat (kB.2 (by omega));rw [ng ha.1,ng hb.1] at c;exact of_decide_eq_true c
def Xc(b:List UInt8)(p m:Int)(P:W->Prop)(x:E)(σ:Ab)(nx:Nat):Prop:=∃(p':Int) (w:W),(p<=p'/\p'<=p+m)/\P w/\x=eT w/\σ=[(0,AN b p')]/\nx=1
theorem VL(b:List UInt8)(hb:b.length<=2000)(p:Int)(B:0<=p/\p < 900000000)(al most:Int)(A:0<=most/\most<=100):Spec Tryz.prog TB 219 [(0,AN b p)] 1 [.o (.ptr 0 2 0 0),eI .i64 al,eI .i64 most] (Xc b p (most+1) (λw=>(w.length:Int)<=most)):=by
 have x:(Ac al).length<=6:=AK al 6;obtain⟨c,I,H,hp⟩:=AR (TB:=TB) b hb p (most+1) (by omega)
 obtain⟨n,rfl⟩:∃n:Nat,c=n:=⟨c.toNat,by omega⟩
 refine eR Tryz.func219 rfl (by kernel_rfl) rfl ?_;intro Γ a;(repeat first|(refine sA rfl ?_ ?_;first|exact tI|omega) |refine sP rfl (Cp al) rfl ?_ |refine aU rfl ?_ |refine Aa ?_);(refine pW rfl ?_ rfl (by rfl);refine Ae [0] rfl rfl (hp) ⟨rfl,by decide,by decide⟩ rfl (by simp[cX,zC,a]) ?_;rintro v e f ⟨rfl,rfl,rfl⟩ _);(repeat first|refine tA rfl ?_ |refine Aa ?_);refine aB ?_;refine aL (U:={s:Nat×Int×W // (s.1:Int)<=most/\(p+1<=s.2.1/\s.2.1<=p+1+(most - s.1))/\(s.2.2.length:Int)<=most - s.1}) [0,7] [] rfl rfl (λs=>[(8,eT s.1.2.2),(9,eI .i64 s.1.1)]) (λs=>[(0,AN b s.1.2.1)]) 1 (λs=>s.1.1) (⟨⟨n,p+1,[]⟩,by simp;omega⟩) a rfl (by (simp[cX,zC,a])) ?_;rintro⟨⟨k,q,w⟩,hk,t,hw⟩;(try dsimp only[cA,cB]);have hk:(k:Int)<=most:=hk;have t:p+1<=q/\q<=p+1+(most - k):=t;have hw:(w.length:Int)<=most - k:=hw;by_cases z:0 < k/\0 < (Ac al).length
 ·obtain⟨d,G,F,j⟩:=AR (TB:=TB) b hb q (Ac al).length (by omega)
  obtain⟨l,u⟩:=get_some (l:=Ac al) (k:=d.toNat) (by omega);have y:=get_map (g:=CN) u;have m:=Au (show l∈Ay al 6 from co u);have h:=Gy (TB:=TB) l m.1 (by omega)
  (repeat' first|refine sN rfl ?_ |refine tA rfl ?_ |refine s2 rfl λ_ r=>?_ |refine s3 rfl ?_ ?_<;>rintro rfl |refine aU rfl ?_ |refine Aa ?_|(refine aC rfl ?_ ?_<;>rintro⟨⟩));all_goals try contradiction
  all_goals first| (exfalso;(simp only[oZ] at *;omega);done)|skip
  refine aK ?_;refine aS (aB ?_);(repeat first|refine sN rfl ?_ |refine tA rfl ?_ |refine aU rfl ?_);(refine pW rfl ?_ rfl (by rfl);refine Ae [0] rfl rfl (j) ⟨rfl,by decide,by decide⟩ rfl (by simp[cX,zC,a]) ?_;rintro v e f ⟨rfl,rfl,rfl⟩ _);(repeat first|(refine sA rfl ?_ ?_;first|exact tI|omega|simp only[oZ] at *;omega) |(refine s4 rfl ‹_› rfl ?_ ?_;omega) |refine sP rfl (h) rfl ?_ |refine aU rfl ?_ |refine Aa ?_);refine⟨⟨⟨k - 1,q+1,w++[UInt8.ofNat (97+l.toNat)]⟩,by dsimp only;omega,by dsimp only;omega,by simp;omega⟩,by dsimp only;(omega),[0],?_⟩
  have ek:((k - 1:Nat):Int)=k - 1:=by omega
  simp[cX,zC,a,cN,ek]
 ·(repeat' first|refine sN rfl ?_ |refine tA rfl ?_ |refine s2 rfl λ_ r=>?_ |refine s3 rfl ?_ ?_<;>rintro rfl |refine aU rfl ?_ |refine Aa ?_|(refine aC rfl ?_ ?_<;>rintro⟨⟩));all_goals try contradiction
  all_goals first| (exfalso;(simp only[oZ] at *;omega);done)|skip
  all_goals (refine aE ?_;(repeat first|refine tA rfl ?_ |refine aU rfl ?_ |refine Aa ?_);exact aR ⟨_,rfl,[0],eT w,[(0,AN b q)],⟨by intro i hi;match i with|0=>rfl,by decide⟩,rfl,by (simp[cX,zC,a,cN]),q,w,by omega,by omega,rfl,rfl,rfl⟩)
theorem My(s:W)(g:s.length<=100)(n:Nat)(h:n<=100000):Spec Tryz.prog TB 158 [] 0 [eT s,eI .i64 (n:Int)] (CZ (λr:W=>r.length<=s.length*n) eT):=by
 have f:s.length*n<=100*100000:=nz g h;refine eR Tryz.func158 rfl (by kernel_rfl) rfl ?_;intro Γ a;(repeat first|refine tA rfl ?_ |refine aU rfl ?_ |refine Aa ?_);refine aB ?_;refine aL (U:={x:Nat×W×W // x.2.1.length*x.1+x.2.2.length<=s.length*n/\x.2.1.length<=20000000/\x.1<=100000}) [] [] rfl rfl (λs=>[(0,eT s.1.2.1),(1,eI .i64 s.1.1),(5,eT s.1.2.2)]) (λs=>[]) 0 (λs=>s.1.1) (⟨⟨n,s,[]⟩,by simp;omega⟩) a rfl (by (simp[cX,zC,a])) ?_;rintro⟨⟨k,t,o⟩,hk,ht,c⟩;(try dsimp only[cA,cB]);have hk:t.length*k+o.length<=s.length*n:=hk;have ht:t.length<=20000000:=ht;have c:k<=100000:=c;by_cases m:k=0
 ·subst m
  (repeat first|refine tA rfl ?_ |refine s2 rfl λ_ b=>?_ |refine aU rfl ?_ |refine Aa ?_)
  ((refine aC rfl ?_ ?_<;>rintro⟨⟩);all_goals try(exfalso;(simp only[oZ] at *;omega)))
  refine aE ?_;(repeat first|refine tA rfl ?_ |refine aU rfl ?_ |refine Aa ?_);refine aR ⟨_,rfl,[],eT o,[],⟨by intro i hi;omega,by decide⟩,rfl,trivial,o,by omega,rfl,rfl,rfl⟩
 ·have p:t.length*1<=t.length*k:=Nat.mul_le_mul_left _ (by omega)
  have q:((k:Int) / 2)=((k / 2:Nat):Int):=by omega
  obtain⟨j,d|d⟩:∃j,k=2*j\/k=2*j+1:=⟨k / 2,by omega⟩
  ·have e:k / 2=j:=by omega
   have l:t.length*k=t.length*j+t.length*j:=by rw [d,mx 2 j,Nat.mul_two,nZ]
   (repeat first|refine tA rfl ?_ |refine s2 rfl λ_ b=>?_ |refine aU rfl ?_ |refine Aa ?_)
   ((refine aC rfl ?_ ?_<;>rintro⟨⟩);all_goals try(exfalso;(simp only[oZ] at *;omega)))
   refine aK ?_;refine aB ?_;(repeat first|(refine sA rfl ?_ ?_;first|exact tI|omega) |refine s2 rfl λ_ b=>?_ |refine aU rfl ?_ |refine Aa ?_)
   ((refine aC rfl ?_ ?_<;>rintro⟨⟩);all_goals try(exfalso;(simp only[oZ] at *;omega)))
   refine aK ?_;(repeat first|(refine sA rfl ?_ ?_;first|exact tI|omega) |refine aU rfl ?_ |refine Aa ?_);refine⟨⟨⟨k / 2,t++t,o⟩,by dsimp only;rw [e,lf,kU];omega,by simp;omega,by dsimp only;omega⟩,by dsimp only;(omega),[],?_⟩;(simp[cX,zC,a,cN]<;>rfl)
  ·have e:k / 2=j:=by omega
   have l:t.length*k=t.length*j+t.length*j+t.length:=by rw [d,nZ,mx 2 j,Nat.mul_two,nZ,nY]
   (repeat first|refine tA rfl ?_ |refine s2 rfl λ_ b=>?_ |refine aU rfl ?_ |refine Aa ?_)
   ((refine aC rfl ?_ ?_<;>rintro⟨⟩);all_goals try(exfalso;(simp only[oZ] at *;omega)))
   refine aK ?_;refine aB ?_;(repeat first|(refine sA rfl ?_ ?_;first|exact tI|omega) |refine s2 rfl λ_ b=>?_ |refine aU rfl ?_ |refine Aa ?_)
   ((refine aC rfl ?_ ?_<;>rintro⟨⟩);all_goals try(exfalso;(simp only[oZ] at *;omega)))
   (repeat first|(refine sA rfl ?_ ?_;first|exact tI|omega) |refine aU rfl ?_ |refine Aa ?_);refine⟨⟨⟨k / 2,t++t,o++t⟩,by dsimp only;rw [e,lf,lf,kU];omega,by simp;omega,by dsimp only;omega⟩,by dsimp only;(omega),[],?_⟩;(simp[cX,zC,a,cN]<;>rfl)
theorem IM{t:FB}{al:Int}{A:W->Bool}(m:I0 Tryz.prog TB 67 154 t al A)(cols words:List W)(l:cols.length<=4194304)(hw:∀w∈words,w.length<=4194305)(hb:∀x∈cols,x.length<=4194304)(j:words.length<=4194304) :
 Pure Tryz.prog TB 69 [C7 t,Bx cols,Bx words] (Bx (words.map (marks A cols))):=by
 refine eN Tryz.func69 rfl (by kernel_rfl) rfl ?_;intro Γ a;(repeat first|refine aU rfl ?_);(refine Ag rfl ?_;refine Dg (λ_ _=>EI rfl rfl rfl) rfl ?_);(repeat first|refine tX rfl ?_ |refine aU rfl ?_ |refine Aa ?_);(refine pW rfl ?_ rfl (by rfl);refine Bg rfl rfl rfl rfl (by simp) (by rfl) (by rfl) (by rfl) (by rfl) ?_);(repeat first|refine tX rfl ?_ |refine aU rfl ?_ |refine Aa ?_);refine aB ?_;refine aL (U:={k:Nat // k<=words.length}) [1,2,3] [] rfl rfl (λ⟨k,hk⟩=>[(7,.o (.arr 0 1 0 k)),(8,eI .i64 k)]) (λ⟨k,hk⟩=>[(0,.cells 9 1 ((words.take k).map λw=>[.d (tD (marks A cols w))]))]) 1 (λ⟨k,hk⟩=>words.length - k) (⟨0,by omega⟩) a rfl (by (simp[cX,zC,a])) ?_;rintro⟨k,hk⟩;(try dsimp only[cA,cB]);by_cases f:k < words.length
 ·obtain⟨x,c⟩:=get_some f
  have i:=get_map (g:=BU) c;have b:=Ki m cols x l (hw x (co c)) hb
  have e:(words.take (k+1)).map (λw=>[C.d (tD (marks A cols w))])=(words.take k).map (λw=>[C.d (tD (marks A cols w))])++[[C.d (tD (marks A cols x))]]:=by rw [io,c];simp
  (repeat first|refine sN rfl ?_ |refine tX rfl ?_ |refine s2 rfl λ_ h=>?_ |refine aU rfl ?_ |refine Aa ?_);(refine aC rfl ?_ ?_<;>rintro⟨⟩)
  ·refine aK ?_
   refine aS (aB ?_);refine rG (It [9]) (by kernel_rfl) ?_;(repeat first|refine tA rfl ?_ |(refine s4 rfl ‹_› rfl ?_ ?_;omega) |refine sP rfl (b) rfl ?_);(refine pW rfl ?_ rfl (by rfl);refine Aw rfl rfl rfl (by first| (simp;done)|(simp;(omega))) rfl (by intro r b;simp at b;subst b;rfl) (by rfl) (ce rfl) (by simp;omega) ?_);(repeat first|(refine sA rfl ?_ ?_;first|exact tI|omega) |refine aU rfl ?_ |refine Aa ?_);refine⟨⟨k+1,by omega⟩,by dsimp only;(omega),[1],?_⟩;simp[cX,zC,a,e]
  ·exfalso;(simp only[oZ] at *;omega)
 ·obtain rfl:k=words.length:=by omega
  rw [kz];(repeat first|refine sN rfl ?_ |refine tX rfl ?_ |refine s2 rfl λ_ h=>?_ |refine aU rfl ?_ |refine Aa ?_);(refine aC rfl ?_ ?_<;>rintro⟨⟩)
  ·exfalso;(simp only[oZ] at *;omega)
  ·refine aE ?_
   (repeat first|refine tX rfl ?_ |refine aU rfl ?_ |refine Aa ?_);refine Aj.settle [(6,Bx (words.map (marks A cols)))] ⟨⟨_,rfl,.o (.full rfl (by simp [d4]) (by simp))⟩,trivial⟩ ?_;refine aR ⟨_,rfl,rfl⟩
def rowAt(al:Int)(l:List W)(i:Nat):Bool:=match l[i]? with
 | none=>true
 | some w=>!decide (w.length=0) && (within w al && decide (w.dropLast∈l.take i))
def Hs(al:Int)(l:List W)(i:Nat):Bool:=match l[i]? with
 | none=>true
 | some w=>decide (w.length<=4000) && (within w al && !decide (w∈l.take i))
def DN(f:Nat->Bool)(n:Nat):Bool:=(List.range n).all λi=>decide (i=0) || f i
theorem GQ{f:Nat->Bool}{k:Nat}(h:DN f k=true)(a:f k=true):DN f (k+1)=true:=by
 unfold DN at *;rw [mE,List.all_append,h];simp [a]
theorem Gu{f:Nat->Bool}{k n:Nat}(b:0 < k)(h:k < n)(a:f k=false):DN f n=false:=by
 unfold DN;rw [og];exact⟨k,kB.2 h,by simp [a];omega⟩
def HI(al:Int)(t:A9):Bool:=decide (0<=al) && (decide (1<=t.rows.length/\t.rows.length<=12) && (decide (1<=t.cols.length/\t.cols.length<=20) && (decide (t.rows[0]? = some []) && decide (t.cols[0]? = some []))))
def Eo(al:Int)(t:A9):Bool:=HI al t && (DN (rowAt al t.rows) t.rows.length && DN (Hs al t.cols) t.cols.length)
theorem QK(al:Int)(t:A9)(s:TS t):Pure Tryz.prog TB 77 [eI .i64 al,CW t] (eB (Eo al t)):=by
 have B:=s.rl;have F:=s.cl;by_cases q:HI al t=true
 ·have n : Eo al t=(DN (rowAt al t.rows) t.rows.length && DN (Hs al t.cols) t.cols.length):=by unfold Eo;rw [q];rfl
  rw [n];unfold HI at q;simp only [d5,decide_eq_true_eq] at q;obtain⟨R,Q,P,L,K⟩:=q;have A:=get_map (g:=BU) (k:=0) L;have z:=get_map (g:=BU) (k:=0) K;have N:((0:Nat):Int).toNat=(0:Int).toNat:=rfl;rw [N] at A z;refine eN Tryz.func77 rfl (by kernel_rfl) rfl ?_;intro Γ b;(repeat' first|refine sN rfl ?_ |refine tA rfl ?_ |(refine s4 rfl ‹_› rfl ?_ ?_;omega) |refine s2 rfl λ_ a=>?_ |refine s3 rfl ?_ ?_<;>rintro rfl |refine aU rfl ?_ |refine Aa ?_|(refine aC rfl ?_ ?_<;>rintro⟨⟩)|refine aK ?_|refine aE ?_|refine aB ?_|refine aR ⟨_,rfl,?_⟩)
  all_goals first
   | (exfalso;(simp only[oZ] at *;omega);done)
   | (exfalso;simp at *;done)
   | skip
  refine aL (U:={k:Nat // 1<=k/\k<=t.rows.length/\DN (rowAt al t.rows) k=true}) [0,3,5,6] [] rfl rfl (λ⟨k,c,hk,ha⟩=>[(7,eI .i64 k)]) (λ⟨k,c,hk,ha⟩=>[]) 0 (λ⟨k,c,hk,ha⟩=>t.rows.length - k) (⟨1,by omega,by omega,rfl⟩) b rfl (by (simp[cX,zC,b])) ?_;rintro⟨k,c,hk,ha⟩;(try dsimp only[cA,cB]);by_cases f:k < t.rows.length
  ·obtain⟨x,i⟩:=get_some f
   have v:=get_map (g:=BU) i;have u:=s.rb x (co i)
   have e:rowAt al t.rows k=(!decide (x.length=0) && (within x al && decide (x.dropLast∈t.rows.take k))):=by unfold rowAt;rw [i]
   have j:=Dw (TB:=TB) x al (by omega)
   have p:Pure Tryz.prog TB 78 [.o (.d (.l ((t.rows.map BU).take ((k:Nat):Int).toNat))),eT (x.take ((x.length:Int) - 1).toNat)] (eB (decide (x.dropLast∈t.rows.take k))):=by
    have M:(x.take ((x.length:Int) - 1).toNat)=x.dropLast:=by rw [List.dropLast_eq_take];congr 1;omega
    rw [M,f6,<-m9];exact Hz _ _ (by simp;omega)
   (repeat first|refine tA rfl ?_ |refine s2 rfl λ_ a=>?_ |refine aU rfl ?_ |refine Aa ?_);(refine aC rfl ?_ ?_<;>rintro⟨⟩)
   ·(repeat' first|(refine sA rfl ?_ ?_;first|exact tI|omega) |(refine s4 rfl ‹_› rfl ?_ ?_;omega) |refine s2 rfl λ_ a=>?_ |(refine sC rfl (j) ?_;intro _ a)|(refine sC rfl (p) ?_;intro _ a)|(refine Ag rfl ?_;refine gA rfl ?_;first| refine gS (λ_ _=>Ie rfl rfl (by simp) (by omega) (by (simp only[oZ] at *;omega))) ?_|refine gS (λ_ _=>PF rfl rfl (by (simp only[oZ] at *;omega)) (by omega)) ?_) |refine s3 rfl ?_ ?_<;>rintro rfl |refine aU rfl ?_ |refine Aa ?_ |refine rE (by kernel_rfl) ?_|(refine aC rfl ?_ ?_<;>rintro⟨⟩)|refine aK ?_|refine aE ?_|refine aB ?_|refine aR ⟨_,rfl,?_⟩)
    all_goals first
     | (show eB false=eB _;rw [Gu (by omega) f (by rw [e];grind)];rfl)
     | (have m:=GQ ha (by rw [e];grind);refine⟨⟨k+1,by omega,by omega,m⟩,by dsimp only;(omega),[],?_⟩;simp[cX,zC,b])
   ·exfalso;(simp only[oZ] at *;omega)
  ·obtain rfl:k=t.rows.length:=by omega
   rw [ha];(repeat first|refine tA rfl ?_ |refine s2 rfl λ_ a=>?_ |refine aU rfl ?_ |refine Aa ?_);(refine aC rfl ?_ ?_<;>rintro⟨⟩)
   ·exfalso;(simp only[oZ] at *;omega)
   ·(repeat' first|refine tA rfl ?_ |refine aU rfl ?_ |refine Aa ?_|(refine aC rfl ?_ ?_<;>rintro⟨⟩)|refine aK ?_|refine aE ?_|refine aB ?_|refine aR ⟨_,rfl,?_⟩)
    refine aL (U:={k:Nat // 1<=k/\k<=t.cols.length/\DN (Hs al t.cols) k=true}) [0,3,6] [] rfl rfl (λ⟨k,c,hk,ha⟩=>[(9,eI .i64 k)]) (λ⟨k,c,hk,ha⟩=>[]) 0 (λ⟨k,c,hk,ha⟩=>t.cols.length - k) (⟨1,by omega,by omega,rfl⟩) b rfl (by (simp[cX,zC,b])) ?_;rintro⟨k,c,hk,ha⟩;(try dsimp only[cA,cB]);by_cases f:k < t.cols.length
    ·obtain⟨x,i⟩:=get_some f
     have v:=get_map (g:=BU) i;have u:=s.cb x (co i)
     have e:Hs al t.cols k=(decide (x.length<=4000) && (within x al && !decide (x∈t.cols.take k))):=by unfold Hs;rw [i]
     have j:=Dw (TB:=TB) x al (by omega)
     have p:Pure Tryz.prog TB 78 [.o (.d (.l ((t.cols.map BU).take ((k:Nat):Int).toNat))),eT x] (eB (decide (x∈t.cols.take k))):=by
      rw [f6,<-m9];exact Hz _ _ (by simp;omega)
     (repeat first|refine tA rfl ?_ |refine s2 rfl λ_ a=>?_ |refine aU rfl ?_ |refine Aa ?_);(refine aC rfl ?_ ?_<;>rintro⟨⟩)
     ·(repeat' first|(refine sA rfl ?_ ?_;first|exact tI|omega) |(refine s4 rfl ‹_› rfl ?_ ?_;omega) |refine s2 rfl λ_ a=>?_ |(refine sC rfl (j) ?_;intro _ a)|(refine sC rfl (p) ?_;intro _ a)|(refine Ag rfl ?_;refine gA rfl ?_;first| refine gS (λ_ _=>Ie rfl rfl (by simp) (by omega) (by (simp only[oZ] at *;omega))) ?_) |refine s3 rfl ?_ ?_<;>rintro rfl |refine aU rfl ?_ |refine Aa ?_|(refine aC rfl ?_ ?_<;>rintro⟨⟩)|refine aK ?_|refine aE ?_|refine aB ?_|refine aR ⟨_,rfl,?_⟩)
      all_goals first
       | (show eB false=eB _;rw [Gu (by omega) f (by rw [e];grind)];rfl)
       | (have m:=GQ ha (by rw [e];grind);refine⟨⟨k+1,by omega,by omega,m⟩,by dsimp only;(omega),[],?_⟩;simp[cX,zC,b])
     ·exfalso;(simp only[oZ] at *;omega)
    ·obtain rfl:k=t.cols.length:=by omega
     rw [ha];(repeat first|refine tA rfl ?_ |refine s2 rfl λ_ a=>?_ |refine aU rfl ?_ |refine Aa ?_);(refine aC rfl ?_ ?_<;>rintro⟨⟩)
     ·exfalso;(simp only[oZ] at *;omega)
     ·(repeat' first|refine tA rfl ?_ |refine aU rfl ?_ |refine Aa ?_|(refine aC rfl ?_ ?_<;>rintro⟨⟩)|refine aK ?_|refine aE ?_|refine aB ?_|refine aR ⟨_,rfl,?_⟩)
      rfl
 ·have n:Eo al t=false:=by unfold Eo;simp [q]
  rw [n]
  have r:¬(0<=al/\(1<=t.rows.length/\t.rows.length<=12)/\(1<=t.cols.length/\t.cols.length<=20)/\t.rows[0]? = some []/\t.cols[0]? = some []):=by
   intro h;apply q;unfold HI;simp [h]
  have w:(t.rows.map BU)[(0:Int).toNat]? = (t.rows[0]?).map BU:=by simp
  have y:(t.cols.map BU)[(0:Int).toNat]? = (t.cols[0]?).map BU:=by simp
  have G:t.rows[0]? = none->t.rows.length=0:=λh=>by have:=l3.1 h;omega
  have I:t.cols[0]? = none->t.cols.length=0:=λh=>by have:=l3.1 h;omega
  refine eN Tryz.func77 rfl (by kernel_rfl) rfl ?_;intro Γ b
  cases H:t.rows[0]?<;>cases J:t.cols[0]?<;>rw [H] at w r<;>rw [J] at y r<;>(
   (repeat' first|refine sN rfl ?_ |refine tA rfl ?_ |(refine s4 rfl ‹_› rfl ?_ ?_;omega) |refine s2 rfl λ_ a=>?_ |refine s3 rfl ?_ ?_<;>rintro rfl |refine aU rfl ?_ |refine Aa ?_|(refine aC rfl ?_ ?_<;>rintro⟨⟩)|refine aK ?_|refine aE ?_|refine aB ?_|refine aR ⟨_,rfl,?_⟩)
   all_goals first
    | rfl
    | (exfalso;grind;done))
end Go.Am
