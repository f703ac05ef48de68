/-
  The keys of classes, as texts, plainly.
-/
import Derived.Test.YtgpbfllcjdfelaaGreatDoorPart29
import Derived.Test.YtgpbfllcjdfelaaGreatDoorPart30
set_option linter.all false
namespace Go.Am
set_option linter.unusedVariables false
def D0(n:Nat):W:=if n < 10 then [UInt8.ofNat (48+n)] else [UInt8.ofNat (48+n / 10),UInt8.ofNat (48+n % 10)]
def DO(l:List Int):W:=l.flatMap λx=>44::D0 x.toNat
def Uj:List Int->W
 | []=>[]
 | c::l=>D0 c.toNat++DO l
theorem Sd:((List.range 100).all λn=>(List.range 100).all λm=>decide (D0 n=D0 m->n=m) && !(D0 n).contains 44)=true:=by decide +kernel
theorem Sc{n m:Nat}(b:n < 100)(c:m < 100)(h:D0 n=D0 m):n=m:=by
 have a:=gt.1 (gt.1 Sd n (jp.2 b)) m (jp.2 c);rw [d6] at a;exact of_decide_eq_true a.1 h
theorem LU{n:Nat}(a:n < 100):(44:UInt8)∉D0 n:=λh=>by
 have c:=gt.1 (gt.1 Sd n (jp.2 a)) n (jp.2 a);rw [d6] at c;have b:=c.2;simp at b;exact b h
theorem T9{c:UInt8}:∀ {u v x y:W},c∉u->c∉v->(x=[]\/∃z,x=c::z)->(y=[]\/∃z,y=c::z)->u++x=v++y->u=v/\x=y
 | [],[],x,y,_,_,_,_,h=>⟨rfl,h⟩
 | [],d::v,x,y,_,f,b,_,h=>by
  exfalso;have h:x=d::(v++y):=h
  rcases b with rfl|⟨z,rfl⟩
  ·cases h
  ·injection h with h _
   exact f (by rw [h];simp)
 | d :: u,[],x,y,g,_,_,a,h=>by
  exfalso;have h:d::(u++x)=y:=h
  rcases a with rfl|⟨z,rfl⟩
  ·cases h
  ·injection h with h _
   exact g (by rw [h];simp)
 | d::u,e::v,x,y,g,f,b,a,h=>by
  have h:d::(u++x)=e::(v++y):=h
  injection h with m l
  obtain⟨k,j⟩:=T9 (λi=>g (by simp [i])) (λi=>f (by simp [i])) b a l;exact⟨by rw [m,k],j⟩
theorem IC(l:List Int):DO l=[]\/∃z,DO l=44::z:=by
 cases l with
 | nil=>exact .inl rfl
 | cons x l=>exact .inr ⟨_,rfl⟩
theorem PU:∀ {l m:List Int},(∀x∈l,0<=x/\x < 100)->(∀x∈m,0<=x/\x < 100)->DO l=DO m->l=m
 | [],[],_,_,_=>rfl
 | [],_::_,_,_,h=>by cases h
 | _::_,[],_,_,h=>by cases h
 | x::l,y::m,c,b,h=>by
  have h:44::(D0 x.toNat++DO l)=44::(D0 y.toNat++DO m):=h
  injection h with _ h
  have g:=c x (by simp);have f:=b y (by simp);obtain⟨e,d⟩:=T9 (LU (by omega)) (LU (by omega)) (IC l) (IC m) h;have:=Sc (by omega) (by omega) e;rw [show x=y by omega,PU (λz a=>c z (by simp [a])) (λz a=>b z (by simp [a])) d]
theorem ak{k k':List Int}(hk:∀x∈k,0<=x/\x < 100)(a:∀x∈k',0<=x/\x < 100)(f:k≠[])(e:k'≠[])(h:Uj k=Uj k'):k=k':=by
 cases k with
 | nil=>exact absurd rfl f
 | cons x l=>
  cases k' with
  | nil=>exact absurd rfl e
  | cons y m=>
   have i:=hk x (by simp);have g:=a y (by simp);obtain⟨d,c⟩:=T9 (LU (by omega)) (LU (by omega)) (IC l) (IC m) h;have:=Sc (by omega) (by omega) d;rw [show x=y by omega,PU (λz b=>hk z (by simp [b])) (λz b=>a z (by simp [b])) c]
section
variable {U β:Type}[DecidableEq U][DecidableEq β]
theorem Og{f:U->β}:∀(l u:List U),(∀x y,x∈u++l->y∈u++l->f x=f y->x=y)->uniq (u.map f) (l.map f)=(uniq u l).map f
 | [],u,_=>rfl
 | x :: l,u,h=>by
  have d:f x∈u.map f↔x∈u:=by
   constructor
   ·intro a
    obtain⟨y,b,e⟩:=em.1 a;rwa [<-h y x (by simp [b]) (by simp) e]
   ·intro a;exact em.2 ⟨x,a,rfl⟩
  show uniq (if f x∈u.map f then u.map f else u.map f++[f x]) (l.map f)=(uniq (if x∈u then u else u++[x]) l).map f
  by_cases a:x∈u
  ·rw [if_pos (d.2 a),if_pos a]
   exact Og l u λy z b c=>h y z (by
    rcases f9.1 b with h|h<;>simp [h]) (by
    rcases f9.1 c with h|h<;>simp [h])
  ·rw [if_neg (λe=>a (d.1 e)),if_neg a]
   have e:u.map f++[f x]=(u++[x]).map f:=by simp
   rw [e];exact Og l (u++[x]) λy z b c=>h y z (by simpa [or_assoc] using b) (by simpa [or_assoc] using c)
theorem da{f:U->β}{l:List U}(h:∀x y,x∈l->y∈l->f x=f y->x=y):uq (l.map f)=(uq l).map f:=by
 have:=Og l [] (f:=f) (by simpa using h);exact this
theorem aZ{f:U->β}{l:List U}(h:∀x y,x∈l->y∈l->f x=f y->x=y){x:U}(a:x∈l):CN (l.map f) (f x)=CN l x:=by
 have c:=Nq a
 have b:(uq (l.map f))[(CN l x).toNat]? = some (f x):=by rw [da h,d9,c];rfl
 have:=Ma b;have d:=Iw a;omega
theorem bh{f:U->β}{l:List U}(h:∀x y,x∈l->y∈l->f x=f y->x=y):Cn (l.map f)=Cn l:=by
 unfold Cn;rw [nV];exact nu λx a=>aZ h a
end
end Go.Am
namespace Go.Am
open Go
set_option linter.unusedVariables false
structure RJ (a:AK) (cs:List Int) (n k:Nat):Prop where
 len:cs.length=a.nx.length
 PK:∀x∈cs,0<=x/\x < 100
 cnt:n=0\/n=(uq cs).length
 fuel:a.nx.length<=k+n
 eq:MI a (k+1) cs n=BN a
def Lj(a:AK)(cs:List Int):List W:=(A8 a cs).map Uj
theorem XI{a:AK}{cs:List Int}{q:Nat}(h:q < a.nx.length):(Lj a cs)[q]? = some (Uj (Fe a cs q)):=by
 unfold Lj;rw [d9,Bc h];rfl
theorem XJ(a:AK)(cs:List Int):(Lj a cs).length=a.nx.length:=by simp [Lj,Cq]
theorem Sp{cs:List Int}(h:∀x∈cs,0<=x/\x < 100)(i:Nat):0<=cs.getD i 0/\cs.getD i 0 < 100:=by
 rw [lw]
 cases a:cs[i]? with
 | none=>exact⟨pY _,by show (0:Int) < 100;omega⟩
 | some x=>exact h x (ce a)
theorem Sv{a:AK}{cs:List Int}(h:∀x∈cs,0<=x/\x < 100)(q:Nat):∀x∈Fe a cs q,0<=x/\x < 100:=λx b=>by
 unfold Fe at b
 rcases lc.1 b with rfl|b
 ·exact Sp h q
 ·obtain⟨y,_,rfl⟩:=em.1 b
  exact Sp h _
theorem Sw{a:AK}{cs:List Int}(h:∀x∈cs,0<=x/\x < 100):∀x y,x∈A8 a cs->y∈A8 a cs->Uj x=Uj y->x=y:=λx y c b e=>by
 obtain⟨q,_,rfl⟩:=em.1 c;obtain⟨r,_,rfl⟩:=em.1 b;exact ak (Sv h q) (Sv h r) (by simp [Fe]) (by simp [Fe]) e
theorem Uk{a:AK}{cs:List Int}(h:∀x∈cs,0<=x/\x < 100):Cn (Lj a cs)=Cn (A8 a cs):=bh (Sw h)
theorem aq{a:AK}{cs:List Int}(h:∀x∈cs,0<=x/\x < 100):(uq (Lj a cs)).length=(uq (A8 a cs)).length:=by
 unfold Lj;rw [da (Sw h),f7]
theorem bk{a:AK}(h:a.nx.length<=64)(cs:List Int):∀x∈Cn (A8 a cs),0<=x/\x < 100:=λx c=>by
 obtain⟨y,b,rfl⟩:=em.1 c;have e:=Iw b;have d:=E9 (A8 a cs);rw [Cq] at d;omega
theorem RJ.zero{a:AK}(h:Cg a):RJ a (Dx a) 0 a.nx.length:=
 ⟨by simp [Dx,h.ac],λx c=>by
  obtain⟨b,_,rfl⟩:=em.1 c;cases b
  ·exact⟨pY _,by show (0:Int) < 100;omega⟩
  ·exact⟨by show (0:Int)<=1;omega,by show (1:Int) < 100;omega⟩,.inl rfl,by omega,rfl⟩
theorem RJ.step{a:AK}(h:Cg a){cs:List Int}{n k:Nat}(hi:RJ a cs n k) :
 ((uq (A8 a cs)).length=n/\Dm a=Cn (A8 a cs))\/((uq (A8 a cs)).length≠n/\1<=k/\RJ a (Cn (A8 a cs)) (uq (A8 a cs)).length (k - 1)):=by
 have hb:=h.b.1;have g:=h.n1;have d:=hi.eq;have c:=RC (λk:List Int=>k.headD 0) (A8 a cs);rw [ZU hi.len] at c;have i:=E9 (A8 a cs);rw [Cq] at i;unfold MI at d;by_cases e:(uq (A8 a cs)).length=n
 ·rw [if_pos e] at d
  exact .inl ⟨e,by unfold Dm;rw [d]⟩
 ·rw [if_neg e] at d
  have j:=hi.fuel;have f:=hi.cnt
  have hk:1<=k:=by omega
  refine .inr ⟨e,hk,by simp [Cn,Cq],bk hb cs,.inr (Mq _).symm,?_,?_⟩
  ·rcases f with f|f<;>omega
  ·rw [show k - 1+1=k by omega];exact d
theorem XA(u:List W)(x:W):(x∈u->BQ (RI u) x=some ((lK u x:Nat):Int))/\(x∉u->BQ (RI u) x=none):=by
 rw [Xz];unfold jC;exact⟨λh=>if_pos h,λh=>if_neg h⟩
theorem ea{l:List W}{k:Nat}{x:W}(h:l[k]? = some x):(x∈uq (l.take k)->CN l x=((lK (uq (l.take k)) x:Nat):Int))/\(x∉uq (l.take k)->CN l x=(uq (l.take k)).length):=
 ⟨λa=>((Iv h).1 a).1,(Iv h).2⟩
theorem PJ{U:Type}[DecidableEq U]{l:List U}{k:Nat}{x:U}(h:l[k]? = some x):(x∈uq (l.take k)->AT l (k+1)=AT l k)/\(x∉uq (l.take k)->AT l (k+1)=AT l k++[k]):=by
 constructor
 ·intro a
  simp only [AT,h,if_pos a]
 ·intro a
  simp only [AT,h,if_neg a]
theorem YP(l:List Int)(x:Int):DO (l++[x])=DO l++(44::D0 x.toNat):=by simp [DO]
theorem MM(n:Nat):(D0 n).length<=2:=by unfold D0;split<;>simp
theorem YQ(l:List Int):(DO l).length<=3*l.length:=by
 induction l with
 | nil=>simp [DO]
 | cons x l a=>
  have:=MM x.toNat
  have e:DO (x::l)=44::D0 x.toNat++DO l:=by simp [DO]
  rw [e];simp;omega
theorem ao(a:AK)(cs:List Int)(q:Nat):Uj (Fe a cs q)=D0 (cs.getD q 0).toNat++DO ((a.nx.getD q []).map λx=>cs.getD x.toNat 0):=rfl
theorem UO{a:AK}(h:Cg a){k:Nat}(hk:k < a.nx.length) :
 (DZ a k < ((BM a k).nx.length:Nat)/\BM a (k+1)=BM a k)\/(¬DZ a k < ((BM a k).nx.length:Nat)/\BM a (k+1)=⟨a.al,(BM a k).nx++[(a.nx.getD k []).map (DZ a)],(BM a k).ac++[a.ac.getD k false]⟩):=by
 obtain⟨x,d,e,_⟩:=Fx h hk
 have b:(BM a k).nx.length=(uq ((BN a).take k)).length:=by simp [BM,CB]
 obtain⟨g,f⟩:=Iv d;by_cases c:x∈uq ((BN a).take k)
 ·refine .inl ⟨by rw [e,b];exact(g c).2,?_⟩
  unfold BM;rw [(PJ d).1 c]
 ·refine .inr ⟨by rw [e,b,f c];omega,?_⟩
  unfold BM;rw [(PJ d).2 c];simp
theorem YC(a:AK):∀k,(BM a k).nx.length<=k:=λk=>by
 have:(BM a k).nx.length=(uq ((BN a).take k)).length:=by simp [BM,CB]
 have b:=E9 ((BN a).take k);simp at b;omega
theorem Tc(a:AK)(k:Nat):(BM a k).ac.length=(BM a k).nx.length:=by simp [BM]
theorem ZB{a:AK}(h:Cg a):(Dm a).length=a.nx.length:=by
 have:=(Gl h.b h.n1 h.ac).len;simp [Dm,Cn,this]
end Go.Am
namespace Go.Am
open Go Go.Proofs
set_option maxHeartbeats 1000000
set_option maxRecDepth 4000
attribute [local irreducible] AO BS Lex A4 Au Spec
variable {TB:Bi}
theorem WE{P:Program}{Γ:Ctx}{d:Option Tmp}{ty:TypeId}{pos:String}{af:Array Edge}{g:Option (Nat×Bool)}{f:Env}{σ:Ab}{nx:Nat}{t:TypeId}{x lo hi:Operand}{s z out:W}{a b:Int}{k k':IntKind}[ht:CR P t](i:ev f x=some (eT s))(j:ev f lo=some (eI k a))(m:ev f hi=some (eI k' b))(c:s=z)(h:(0<=a/\a<=b/\b<=z.length)/\(z.take b.toNat).drop a.toNat=out) :
 AO P TB Γ ⟨d,.slice t x (some lo) (some hi) none,ty,pos,af,g⟩ f σ nx (eT out):=by
 subst c;have n:=Mh (P:=P) (TB:=TB) (Γ:=Γ) (d:=d) (ty:=ty) (pos:=pos) (af:=af) (g:=g) (σ:=σ) (nx:=nx) (t:=t) (x:=x) (lo:=some lo) (hi:=some hi) (l:=some (k,a)) (h:=some (k',b)) i (by simp [YY,j]) (by simp [YY,m]) h.1.1 h.1.2.1 h.1.2.2;have e:(s.take (Kh s.length (some (k',b))).toNat).drop (Kj (some (k,a))).toNat=out:=h.2;rwa [e] at n
def kT:W:=[48,49,50,51,52,53,54,55,56,57,97,98,99,100,101,102,103,104,105,106,107,108,109,110,111,112,113,114,115,116,117,118,119,120,121,122]
def jw:W:=(List.range 100).flatMap λn=>[UInt8.ofNat (48+n / 10),UInt8.ofNat (48+n % 10)]
theorem dA:((List.range 10).all λn=>decide ((kT.take (n+1)).drop n=D0 n))=true:=by decide +kernel
theorem dC:((List.range 100).all λn=>decide (n < 10) || decide ((jw.take (n*2+2)).drop (n*2)=D0 n))=true:=by decide +kernel
theorem dB:jw.length=200:=by decide +kernel
theorem gu{n:Int}(h:0<=n/\n < 10):(0<=n/\n<=n+1/\n+1<=kT.length)/\(kT.take (n+1).toNat).drop n.toNat=D0 n.toNat:=by
 refine⟨⟨h.1,by omega,by show n+1<=36;omega⟩,?_⟩;have:=gt.1 dA n.toNat (jp.2 (by omega));rw [show (n+1).toNat=n.toNat+1 by omega];exact of_decide_eq_true this
theorem gv{n:Int}(h:10<=n/\n < 100):(0<=n*2/\n*2<=n*2+2/\n*2+2<=jw.length)/\(jw.take (n*2+2).toNat).drop (n*2).toNat=D0 n.toNat:=by
 refine⟨⟨by omega,by omega,by rw [dB];omega⟩,?_⟩;have:=gt.1 dC n.toNat (jp.2 (by omega));rw [nr,decide_eq_true_eq,decide_eq_true_eq] at this;rw [show (n*2+2).toNat=n.toNat*2+2 by omega,show (n*2).toNat=n.toNat*2 by omega]
 rcases this with a|a
 ·omega
 ·exact a
theorem cS(n:Int)(h:0<=n/\n < 100):Pure Tryz.prog TB 289 [eI .i64 n] (eT (D0 n.toNat)):=by
 refine eG Tryz.func289 rfl (by kernel_rfl) rfl ?_;intro Γ b;(repeat first |refine sN rfl ?_ |((first|refine sA rfl ?_ ?_|refine s4 rfl ‹_› rfl ?_ ?_);first|exact tI|omega|simp only[oZ] at *;omega) |refine s2 rfl λ_ a=>?_ |refine s3 rfl ?_ ?_<;>rintro rfl |refine aU rfl ?_ |refine Aa ?_);(refine aC rfl ?_ ?_<;>rintro⟨⟩)
 ·have d:=gu (n:=n) (by first|omega|simp only[oZ] at *;omega)
  (repeat first |refine sN rfl ?_ |((first|refine sA rfl ?_ ?_|refine s4 rfl ‹_› rfl ?_ ?_);first|exact tI|omega|simp only[oZ] at *;omega) |refine s2 rfl λ_ a=>?_|(refine Af rfl ?_;refine gA rfl ?_;first|refine gS (λ_ _=>WE (z:=kT) rfl rfl rfl (by decide +kernel) d) ?_) |refine s3 rfl ?_ ?_<;>rintro rfl |refine aU rfl ?_ |refine Aa ?_);(subst_vars;exact aR ⟨_,rfl,rfl⟩)
 refine aK ?_;have c:=gv (n:=n) (by first|omega|simp only[oZ] at *;omega);(repeat first |refine sN rfl ?_ |((first|refine sA rfl ?_ ?_|refine s4 rfl ‹_› rfl ?_ ?_);first|exact tI|omega|simp only[oZ] at *;omega) |refine s2 rfl λ_ a=>?_|(refine Af rfl ?_;refine gA rfl ?_;first|refine gS (λ_ _=>WE (z:=jw) rfl rfl rfl (by decide +kernel) c) ?_) |refine s3 rfl ?_ ?_<;>rintro rfl |refine aU rfl ?_ |refine Aa ?_);(subst_vars;exact aR ⟨_,rfl,rfl⟩)
theorem Qp(n:Int)(h:0<=n/\n < 100):Pure Tryz.prog TB 274 [eI .i64 n,eI .i64 10] (eT (D0 n.toNat)):=by
 refine eG Tryz.func274 rfl (by kernel_rfl) rfl ?_;intro Γ b;have e:=cS (TB:=TB) n h;(repeat first |refine sN rfl ?_ |((first|refine sA rfl ?_ ?_|refine s4 rfl ‹_› rfl ?_ ?_);first|exact tI|omega|simp only[oZ] at *;omega) |refine s2 rfl λ_ a=>?_ |refine s3 rfl ?_ ?_<;>rintro rfl |refine aU rfl ?_ |refine Aa ?_)
 ((refine aC rfl ?_ ?_<;>rintro⟨⟩);all_goals try (simp at a;done))
 (repeat' first |refine sN rfl ?_ |((first|refine sA rfl ?_ ?_|refine s4 rfl ‹_› rfl ?_ ?_);first|exact tI|omega|simp only[oZ] at *;omega) |refine s2 rfl λ_ a=>?_ |refine sP rfl (e) rfl ?_ |refine s3 rfl ?_ ?_<;>rintro rfl |refine aU rfl ?_ |refine Aa ?_|(refine aC rfl ?_ ?_<;>rintro⟨⟩))
 all_goals first|(exfalso;first|omega|simp only[oZ] at *;omega;done)|skip
 all_goals (repeat first |refine sN rfl ?_ |((first|refine sA rfl ?_ ?_|refine s4 rfl ‹_› rfl ?_ ?_);first|exact tI|omega|simp only[oZ] at *;omega) |refine s2 rfl λ_ a=>?_ |refine sP rfl (e) rfl ?_ |refine s3 rfl ?_ ?_<;>rintro rfl |refine aU rfl ?_ |refine Aa ?_)
 all_goals (subst_vars;exact aR ⟨_,rfl,rfl⟩)
theorem ah(n:Int)(h:0<=n/\n < 100):Pure Tryz.prog TB 225 [eI .i64 n] (eT (D0 n.toNat)):=by
 refine eG Tryz.func225 rfl (by kernel_rfl) rfl ?_;intro Γ a;(repeat first |refine sN rfl ?_ |((first|refine sA rfl ?_ ?_|refine s4 rfl ‹_› rfl ?_ ?_);first|exact tI|omega|simp only[oZ] at *;omega) |refine s2 rfl λ_ b=>?_ |refine sP rfl (Qp n h) rfl ?_ |refine s3 rfl ?_ ?_<;>rintro rfl |refine aU rfl ?_ |refine Aa ?_);(subst_vars;exact aR ⟨_,rfl,rfl⟩)
theorem VO(n:Int)(h:0<=n/\n < 100):Pure Tryz.prog TB 160 [eI .i64 n] (eT (D0 n.toNat)):=by
 refine eG Tryz.func160 rfl (by kernel_rfl) rfl ?_;intro Γ a;(repeat first |refine sN rfl ?_ |((first|refine sA rfl ?_ ?_|refine s4 rfl ‹_› rfl ?_ ?_);first|exact tI|omega|simp only[oZ] at *;omega) |refine s2 rfl λ_ b=>?_ |refine sP rfl (ah n h) rfl ?_ |refine s3 rfl ?_ ?_<;>rintro rfl |refine aU rfl ?_ |refine Aa ?_);(subst_vars;exact aR ⟨_,rfl,rfl⟩)
theorem XZ{U:Type}{l:List U}{z:U}{k:Nat}(h:l[k]? = some z):Gs l z (k+1)=Gs l z k:=by
 have hk:=(am.1 h).1
 have e:k - (l.take k).length=0:=by simp;omega
 unfold Gs;rw [gc,h,show l.length - k=(l.length - (k+1))+1 by omega,o4];simp
theorem Qi{a:AK}(h:Cg a):Pure Tryz.prog TB 79 [Bm a] (AH (Dm a)):=by
 have hb:=h.b.1;have hn1:=h.n1;have hac:=h.ac
 have B:(Dx a).length=a.nx.length:=by simp [Dx,hac]
 have m:∀(l:List Int) (r:Nat->Nat) k,(Gs (l.map Az) (Az 0) k).map (C.BK r)=Gs (l.map Az) (Az 0) k:=λl r k=>aI (λx P=>by obtain⟨y,_,rfl⟩:=em.1 P;rfl) rfl;refine eG Tryz.func79 rfl (by kernel_rfl) rfl ?_;intro Γ f;(repeat first |refine sN rfl ?_ |((first|refine sA rfl ?_ ?_|refine s4 rfl ‹_› rfl ?_ ?_);first|exact tI|omega|simp only[oZ] at *;omega) |refine s2 rfl λ_ d=>?_ |refine s3 rfl ?_ ?_<;>rintro rfl |refine aU rfl ?_ |refine Aa ?_);(refine pW rfl ?_ rfl (by rfl);refine I9 rfl rfl (by rfl) (by rfl) (co rfl) (by omega) (by omega) (by omega) ?_);(repeat first |refine sN rfl ?_ |((first|refine sA rfl ?_ ?_|refine s4 rfl ‹_› rfl ?_ ?_);first|exact tI|omega|simp only[oZ] at *;omega) |refine s2 rfl λ_ d=>?_ |refine s3 rfl ?_ ?_<;>rintro rfl |refine aU rfl ?_ |refine Aa ?_);refine aB ?_;refine aL (U:={i:Nat // i<=a.nx.length}) [1,20] [] rfl rfl (λs=>[(3,.o (.arr 0 1 0 a.nx.length)),(21,eI .i64 s.1)]) (λs=>[(0,.cells 3 1 (Gs ((Dx a).map Az) (Az 0) s.1))]) 1 (λs=>a.nx.length - s.1) (⟨0,by omega⟩) f rfl (by ((repeat' first|exact tI|rfl|refine And.intro ?_ ?_)<;>(simp[cX,zC,f,aH,m,B]<;>rfl))) ?_;rintro⟨i,hi⟩;(try dsimp only[cA,cB]);by_cases hlt:i < a.nx.length
 ·obtain⟨bb,V⟩:=get_some (l:=a.ac) (k:=i) (by omega)
  have hbb':=get_map (g:=Gk) V
  have M:(Dx a)[i]? = some (if bb then 1 else 0):=by unfold Dx;rw [d9,V];rfl
  have hg:=SC (l:=(Dx a).map Az) (z:=Az 0) (k:=i) (by simp [B,hlt]);(repeat first |refine sN rfl ?_ |((first|refine sA rfl ?_ ?_|refine s4 rfl ‹_› rfl ?_ ?_);first|exact tI|omega|simp only[oZ] at *;omega) |refine s2 rfl λ_ d=>?_ |refine s3 rfl ?_ ?_<;>rintro rfl |refine aU rfl ?_ |refine Aa ?_)
  ((refine aC rfl ?_ ?_<;>rintro⟨⟩);all_goals try(exfalso;first|omega|simp only[oZ] at *;omega))
  refine aK ?_;refine aS (aB ?_);cases bb
  ·have hs:=XZ (l:=(Dx a).map Az) (z:=Az 0) (k:=i) (by simp [M])
   (repeat first |refine sN rfl ?_ |((first|refine sA rfl ?_ ?_|refine s4 rfl ‹_› rfl ?_ ?_);first|exact tI|omega|simp only[oZ] at *;omega) |refine s2 rfl λ_ d=>?_ |refine s3 rfl ?_ ?_<;>rintro rfl |refine aU rfl ?_ |refine Aa ?_)
   ((refine aC rfl ?_ ?_<;>rintro⟨⟩);all_goals try (simp at d;done))
   refine aK ?_;(repeat first |refine sN rfl ?_ |((first|refine sA rfl ?_ ?_|refine s4 rfl ‹_› rfl ?_ ?_);first|exact tI|omega|simp only[oZ] at *;omega) |refine s2 rfl λ_ d=>?_ |refine s3 rfl ?_ ?_<;>rintro rfl |refine aU rfl ?_ |refine Aa ?_);refine⟨⟨i+1,by first|omega|simp only[oZ] at *;omega⟩,by dsimp only;(first|omega|simp only[oZ] at *;omega),[0],?_⟩;simp[cX,zC,f,m,hs]
  ·have hs:=SD (l:=(Dx a).map Az) (z:=Az 0) (k:=i) (x:=Az 1) (by simp [M])
   (repeat first |refine sN rfl ?_ |((first|refine sA rfl ?_ ?_|refine s4 rfl ‹_› rfl ?_ ?_);first|exact tI|omega|simp only[oZ] at *;omega) |refine s2 rfl λ_ d=>?_ |refine s3 rfl ?_ ?_<;>rintro rfl |refine aU rfl ?_ |refine Aa ?_)
   ((refine aC rfl ?_ ?_<;>rintro⟨⟩);all_goals try (simp at d;done))
   (repeat first |refine sN rfl ?_ |((first|refine sA rfl ?_ ?_|refine s4 rfl ‹_› rfl ?_ ?_);first|exact tI|omega|simp only[oZ] at *;omega) |refine s2 rfl λ_ d=>?_ |refine s3 rfl ?_ ?_<;>rintro rfl |refine aU rfl ?_ |refine Aa ?_);refine⟨⟨i+1,by first|omega|simp only[oZ] at *;omega⟩,by dsimp only;(first|omega|simp only[oZ] at *;omega),[0],?_⟩;have w:Ae (Az 0) 0 (eC (eI .i64 1))=Az 1:=rfl;rw [w,hs];simp[cX,zC,f,m]
 obtain rfl:i=a.nx.length:=by omega
 have S:Gs ((Dx a).map Az) (Az 0) a.nx.length=(Dx a).map Az:=by
  have:=SB ((Dx a).map Az) (Az 0);rwa [f7,B] at this
 rw [S];(repeat first |refine sN rfl ?_ |((first|refine sA rfl ?_ ?_|refine s4 rfl ‹_› rfl ?_ ?_);first|exact tI|omega|simp only[oZ] at *;omega) |refine s2 rfl λ_ d=>?_ |refine s3 rfl ?_ ?_<;>rintro rfl |refine aU rfl ?_ |refine Aa ?_)
 ((refine aC rfl ?_ ?_<;>rintro⟨⟩);all_goals try(exfalso;first|omega|simp only[oZ] at *;omega))
 refine aE ?_;refine Au.C9 [0] [1,20] rfl [(3,AH (Dx a))] ⟨⟨_,rfl,.o (.full (by simp) rfl (by simp [d4]) (by simp [B]))⟩,trivial⟩ ?_;(try dsimp only[cA,cB]);(repeat first |refine sN rfl ?_ |((first|refine sA rfl ?_ ?_|refine s4 rfl ‹_› rfl ?_ ?_);first|exact tI|omega|simp only[oZ] at *;omega) |refine s2 rfl λ_ d=>?_ |refine s3 rfl ?_ ?_<;>rintro rfl |refine aU rfl ?_ |refine Aa ?_);refine aB ?_;refine aL (U:={s:(List Int×Nat)×Nat // RJ a s.1.1 s.1.2 s.2}) [1] [] rfl rfl (λs=>[(3,AH s.1.1.1),(5,eI .i64 s.1.1.2)]) (λs=>[]) 0 (λs=>s.1.2) (⟨⟨⟨Dx a,0⟩,a.nx.length⟩,RJ.zero h⟩) f rfl (by ((repeat' first|exact tI|rfl|refine And.intro ?_ ?_)<;>(simp[cX,zC,f]<;>rfl))) ?_;rintro⟨⟨⟨cs,n⟩,fu⟩,N⟩;(try dsimp only[cA,cB]);have N:RJ a cs n fu:=N;have T:=N.len;have F:=N.PK;have hst:=N.step h;have K:=λq hq=>XI (a:=a) (cs:=cs) (q:=q) hq;have t:=XJ a cs;have X:=Uk (a:=a) F;have hKu:=aq (a:=a) F;generalize Lj a cs=KT at *
 have A:(Cn KT).length=a.nx.length:=by simp [Cn,t]
 have hnr:n<=64:=by have:=N.cnt;have h9:=E9 cs;omega
 refine aB ?_;(repeat first |refine sN rfl ?_ |((first|refine sM rfl ?_ ?_|refine s4 rfl ‹_› rfl ?_ ?_);first|exact tI|omega|simp only[oZ] at *;omega) |refine s2 rfl λ_ d=>?_ |refine s3 rfl ?_ ?_<;>rintro rfl |refine aU rfl ?_ |refine Aa ?_ |refine rE (by kernel_rfl) ?_);(refine pW rfl ?_ rfl (by rfl);refine GM ?_);(repeat first |refine sN rfl ?_ |((first|refine sA rfl ?_ ?_|refine s4 rfl ‹_› rfl ?_ ?_);first|exact tI|omega|simp only[oZ] at *;omega) |refine s2 rfl λ_ d=>?_ |refine s3 rfl ?_ ?_<;>rintro rfl |refine aU rfl ?_ |refine Aa ?_);(refine pW rfl ?_ rfl (by rfl);refine I9 rfl rfl (by rfl) (by rfl) (co rfl) (by omega) (by omega) (by omega) ?_);(repeat first |refine sN rfl ?_ |((first|refine sA rfl ?_ ?_|refine s4 rfl ‹_› rfl ?_ ?_);first|exact tI|omega|simp only[oZ] at *;omega) |refine s2 rfl λ_ d=>?_ |refine s3 rfl ?_ ?_<;>rintro rfl |refine aU rfl ?_ |refine Aa ?_);refine aB ?_;refine aL (U:={q:Nat // q<=a.nx.length}) [1,3,5,6,7,38,39] [] rfl rfl (λs=>[(40,eI .i64 s.1)]) (λs=>[(0,.mp (Ev (RI (uq (KT.take s.1))))),(1,.cells 3 1 (Gs ((Cn KT).map Az) (Az 0) s.1))]) 2 (λs=>a.nx.length - s.1) (⟨0,by omega⟩) f rfl (by ((repeat' first|exact tI|rfl|refine And.intro ?_ ?_)<;>(simp[cX,zC,f,cN,aH,m,A,T,uq,uniq,RI,Ev]<;>rfl))) ?_;rintro⟨q,hq⟩;(try dsimp only[cA,cB]);by_cases J:q < a.nx.length
 ·obtain⟨row,H,hrl,hri⟩:=h.b.2 q J
  have hrow':=get_map (g:=DM) H;have hrD:a.nx.getD q []=row:=Bd H;obtain⟨c,M⟩:=get_some (l:=cs) (k:=q) (by omega);have hc':=get_map (g:=Br) M;have hcD:cs.getD q 0=c:=Bd M;have Y:=K q J;rw [ao,hrD,hcD] at Y;have hcb:=F c (ce M);have VM:=VO (TB:=TB) c hcb;have hdl:=MM c.toNat;have hll:(Ac a.al).length<=6:=AD _ 6;(repeat first |refine sN rfl ?_ |((first|refine sA rfl ?_ ?_|refine s4 rfl ‹_› rfl ?_ ?_);first|exact tI|omega|simp only[oZ] at *;omega) |refine s2 rfl λ_ d=>?_ |refine s3 rfl ?_ ?_<;>rintro rfl |refine aU rfl ?_ |refine Aa ?_)
  ((refine aC rfl ?_ ?_<;>rintro⟨⟩);all_goals try(exfalso;first|omega|simp only[oZ] at *;omega))
  refine aK ?_;refine aS (aB ?_);(repeat first |refine sN rfl ?_ |((first|refine sA rfl ?_ ?_|refine s4 rfl ‹_› rfl ?_ ?_);first|exact tI|omega|simp only[oZ] at *;omega) |refine s2 rfl λ_ d=>?_ |refine sP rfl (VM) rfl ?_ |refine s3 rfl ?_ ?_<;>rintro rfl |refine aU rfl ?_ |refine Aa ?_);refine aB ?_;refine aL (U:={s:Nat×W // s.1<=row.length/\s.2=D0 c.toNat++DO ((row.take s.1).map λx=>cs.getD x.toNat 0)}) [1,3,5,6,7,8,38,39,40,50,51] [0,1] rfl rfl (λs=>[(10,eT s.1.2),(52,eI .i64 s.1.1)]) (λs=>[]) 2 (λs=>row.length - s.1.1) (⟨⟨0,D0 c.toNat⟩,by simp,by simp [DO]⟩) f rfl (by ((repeat' first|exact tI|rfl|refine And.intro ?_ ?_)<;>(simp[cX,zC,f,cN,m]<;>rfl))) ?_;rintro⟨⟨j,u⟩,hj,L⟩;(try dsimp only[cA,cB]);have hj:j<=row.length:=hj;have L:u=D0 c.toNat++DO ((row.take j).map λx=>cs.getD x.toNat 0):=L
  have hul:u.length<=2+3*j:=by
   have:=YQ ((row.take j).map λx=>cs.getD x.toNat 0);rw [f7,ol] at this;rw [L,nw];omega
  by_cases hjl:j < row.length
  ·obtain⟨x,P⟩:=get_some hjl
   have hx':=get_map (g:=Br) P;have hxi:=hri j x P;obtain⟨e,S⟩:=get_some (l:=cs) (k:=x.toNat) (by omega);have he':=get_map (g:=Br) S;have heD:cs.getD x.toNat 0=e:=Bd S;have heb:=F e (ce S);have hie:=VO (TB:=TB) e heb;have hdl2:=MM e.toNat
   have Z:u++([44]++D0 e.toNat)=D0 c.toNat++DO ((row.take (j+1)).map λx=>cs.getD x.toNat 0):=by
    have e1:(row.take (j+1)).map (λx=>cs.getD x.toNat 0)=(row.take j).map (λx=>cs.getD x.toNat 0)++[e]:=by
     rw [gc,P,nO,<-heD];rfl
    rw [e1,YP,L,qC];rfl
   (repeat first |refine sN rfl ?_ |((first|refine sA rfl ?_ ?_|refine s4 rfl ‹_› rfl ?_ ?_);first|exact tI|omega|simp only[oZ] at *;omega) |refine s2 rfl λ_ d=>?_ |refine s3 rfl ?_ ?_<;>rintro rfl |refine aU rfl ?_ |refine Aa ?_)
   ((refine aC rfl ?_ ?_<;>rintro⟨⟩);all_goals try(exfalso;first|omega|simp only[oZ] at *;omega))
   refine aK ?_;refine aS (aB ?_);(repeat first |refine sN rfl ?_ |((first|refine sA rfl ?_ ?_|refine s4 rfl ‹_› rfl ?_ ?_);first|exact tI|omega|simp only[oZ] at *;omega) |refine s2 rfl λ_ d=>?_ |refine sP rfl (hie) rfl ?_|(refine Af rfl ?_;refine gA rfl ?_;first|refine gS (λ_ _=>fR rfl rfl (by simp;omega)) ?_) |refine s3 rfl ?_ ?_<;>rintro rfl |refine aU rfl ?_ |refine Aa ?_);refine⟨⟨⟨j+1,u++([44]++D0 e.toNat)⟩,by dsimp only;omega,Z⟩,by dsimp only;(first|omega|simp only[oZ] at *;omega),[0,1],?_⟩;simp[cX,zC,f,cN,m]
  ·obtain rfl:j=row.length:=by omega
   rw [i9] at L;rw [<-L] at Y;have hno:=ea Y;have Q:=XA (uq (KT.take q)) u;have v:=J6 Y
   have hnq:(Cn KT)[q]? = some (CN KT u):=by unfold Cn;rw [d9,Y];rfl
   have hg:=SC (l:=(Cn KT).map Az) (z:=Az 0) (k:=q) (by simp [A,J]);have G:=SD (l:=(Cn KT).map Az) (z:=Az 0) (k:=q) (x:=Az (CN KT u)) (by simp [hnq]);have w:Ae (Az 0) 0 (eC (eI .i64 (CN KT u)))=Az (CN KT u):=rfl;(repeat first |refine sN rfl ?_ |((first|refine sA rfl ?_ ?_|refine s4 rfl ‹_› rfl ?_ ?_);first|exact tI|omega|simp only[oZ] at *;omega) |refine s2 rfl λ_ d=>?_ |refine s3 rfl ?_ ?_<;>rintro rfl |refine aU rfl ?_ |refine Aa ?_)
   ((refine aC rfl ?_ ?_<;>rintro⟨⟩);all_goals try(exfalso;first|omega|simp only[oZ] at *;omega))
   refine aE ?_;by_cases p:u∈uq (KT.take q)
   ·rw [if_pos p] at v
    have R:=Q.1 p;rw [<-hno.1 p] at R;(repeat first |refine sN rfl ?_ |((first|refine sA rfl ?_ ?_|refine s4 rfl ‹_› rfl ?_ ?_);first|exact tI|omega|simp only[oZ] at *;omega) |refine s2 rfl λ_ d=>?_|(refine Af rfl ?_;refine gA rfl ?_;first|refine gQ (bU R rfl rfl rfl) rfl ?_) |refine s3 rfl ?_ ?_<;>rintro rfl |refine aU rfl ?_ |refine Aa ?_)
    ((refine aC rfl ?_ ?_<;>rintro⟨⟩);all_goals try (simp at d;done))
    refine aK ?_;(repeat first |refine sN rfl ?_ |((first|refine sA rfl ?_ ?_|refine s4 rfl ‹_› rfl ?_ ?_);first|exact tI|omega|simp only[oZ] at *;omega) |refine s2 rfl λ_ d=>?_ |refine s3 rfl ?_ ?_<;>rintro rfl |refine aU rfl ?_ |refine Aa ?_);refine⟨⟨q+1,by first|omega|simp only[oZ] at *;omega⟩,by dsimp only;(first|omega|simp only[oZ] at *;omega),[0,1],?_⟩;rw [w,G];simp[cX,zC,f,cN,m,v]
   ·rw [if_neg p] at v
    have R:=Q.2 p;have I:=hno.2 p;(repeat first |refine sN rfl ?_ |((first|refine sA rfl ?_ ?_|refine s4 rfl ‹_› rfl ?_ ?_);first|exact tI|omega|simp only[oZ] at *;omega) |refine s2 rfl λ_ d=>?_|(refine Af rfl ?_;refine gA rfl ?_;first|refine gQ (bT R rfl rfl rfl) rfl ?_) |refine s3 rfl ?_ ?_<;>rintro rfl |refine aU rfl ?_ |refine Aa ?_)
    ((refine aC rfl ?_ ?_<;>rintro⟨⟩);all_goals try (simp at d;done))
    (repeat first |refine sN rfl ?_ |((first|refine sA rfl ?_ ?_|refine s4 rfl ‹_› rfl ?_ ?_);first|exact tI|omega|simp only[oZ] at *;omega) |refine s2 rfl λ_ d=>?_|(refine Af rfl ?_;refine gA rfl ?_;first|refine gQ (Rm rfl rfl) rfl ?_) |refine s3 rfl ?_ ?_<;>rintro rfl |refine aU rfl ?_ |refine Aa ?_);rw [<-I];(refine Af rfl ?_;refine EO ?_ rfl (by rfl);refine fN rfl rfl rfl rfl R ?_);rw [I,<-QE,<-v,<-I];(repeat first |refine sN rfl ?_ |((first|refine sA rfl ?_ ?_|refine s4 rfl ‹_› rfl ?_ ?_);first|exact tI|omega|simp only[oZ] at *;omega) |refine s2 rfl λ_ d=>?_ |refine s3 rfl ?_ ?_<;>rintro rfl |refine aU rfl ?_ |refine Aa ?_);refine⟨⟨q+1,by first|omega|simp only[oZ] at *;omega⟩,by dsimp only;(first|omega|simp only[oZ] at *;omega),[0,1],?_⟩;rw [w,G];simp[cX,zC,f,cN,m]
 ·obtain rfl:q=a.nx.length:=by omega
  have hT:KT.take a.nx.length=KT:=by rw [<-t,i9]
  have he2:Gs ((Cn KT).map Az) (Az 0) a.nx.length=(Cn KT).map Az:=by
   have:=SB ((Cn KT).map Az) (Az 0);rwa [f7,A] at this
  have hun:=E9 KT;rw [hT,he2];(repeat first |refine sN rfl ?_ |((first|refine sA rfl ?_ ?_|refine s4 rfl ‹_› rfl ?_ ?_);first|exact tI|omega|simp only[oZ] at *;omega) |refine s2 rfl λ_ d=>?_ |refine s3 rfl ?_ ?_<;>rintro rfl |refine aU rfl ?_ |refine Aa ?_)
  ((refine aC rfl ?_ ?_<;>rintro⟨⟩);all_goals try(exfalso;first|omega|simp only[oZ] at *;omega))
  refine aE ?_;refine Au.C9 [1] [1,5,6] rfl [(7,AH (Cn KT))] ⟨⟨_,rfl,.o (.full (by simp) rfl (by simp [d4]) (by simp [A,T]))⟩,trivial⟩ ?_;(try dsimp only[cA,cB])
  rcases hst with ⟨g1,g2⟩|⟨g1,g2,g3⟩
  ·rw [g2,<-X]
   (repeat first |refine sN rfl ?_ |((first|refine sA rfl ?_ ?_|refine s4 rfl ‹_› rfl ?_ ?_);first|exact tI|omega|simp only[oZ] at *;omega) |refine s2 rfl λ_ d=>?_|(refine Af rfl ?_;refine gA rfl ?_;first|refine gQ (Rm rfl rfl) rfl ?_) |refine s3 rfl ?_ ?_<;>rintro rfl |refine aU rfl ?_ |refine Aa ?_)
   ((refine aC rfl ?_ ?_<;>rintro⟨⟩);all_goals try(exfalso;first|omega|simp only[oZ] at *;omega))
   (repeat first |refine sN rfl ?_ |((first|refine sA rfl ?_ ?_|refine s4 rfl ‹_› rfl ?_ ?_);first|exact tI|omega|simp only[oZ] at *;omega) |refine s2 rfl λ_ d=>?_ |refine s3 rfl ?_ ?_<;>rintro rfl |refine aU rfl ?_ |refine Aa ?_);(subst_vars;exact aR ⟨_,rfl,rfl⟩)
  ·rw [<-X,<-hKu] at g3
   (repeat first |refine sN rfl ?_ |((first|refine sA rfl ?_ ?_|refine s4 rfl ‹_› rfl ?_ ?_);first|exact tI|omega|simp only[oZ] at *;omega) |refine s2 rfl λ_ d=>?_|(refine Af rfl ?_;refine gA rfl ?_;first|refine gQ (Rm rfl rfl) rfl ?_) |refine s3 rfl ?_ ?_<;>rintro rfl |refine aU rfl ?_ |refine Aa ?_)
   ((refine aC rfl ?_ ?_<;>rintro⟨⟩);all_goals try(exfalso;first|omega|simp only[oZ] at *;omega))
   refine aK ?_;(repeat first |refine sN rfl ?_ |((first|refine sA rfl ?_ ?_|refine s4 rfl ‹_› rfl ?_ ?_);first|exact tI|omega|simp only[oZ] at *;omega) |refine s2 rfl λ_ d=>?_|(refine Af rfl ?_;refine gA rfl ?_;first|refine gQ (Rm rfl rfl) rfl ?_) |refine s3 rfl ?_ ?_<;>rintro rfl |refine aU rfl ?_ |refine Aa ?_);refine⟨⟨⟨⟨Cn KT,(uq KT).length⟩,fu - 1⟩,g3⟩,by dsimp only;(first|omega|simp only[oZ] at *;omega),[],?_⟩;simp[cX,zC,f]
theorem c7{a:AK}{q l:Int}(d:0<=q/\q < a.nx.length)(b:l∈Ac a.al):Pure Tryz.prog TB 134 [eI .i64 q,eI .i64 l,.o (.ip [.l (Fi a)])] (eI .i64 (fA a q l)):=by
 have b:=Ai b;have ta:=Hr (a:=a) (q:=q.toNat) (by omega)
 have el:((l.toNat:Nat):Int)=l:=by omega
 have ra:=FM (h:=λl=>AW a q.toNat l) b.1 (by omega);simp only [el] at ra;refine eN Tryz.func134 rfl (by kernel_rfl) rfl ?_;intro Γ c;(repeat first|(refine sA rfl ?_ ?_;first|exact tI|omega) |(refine s4 rfl ‹_› rfl ?_ ?_;omega)|(refine Af rfl ?_;refine gA rfl ?_;first| refine gS (λ_ _=>Dp rfl ra) ?_) |refine aU rfl ?_ |refine Aa ?_);refine aR ⟨_,rfl,rfl⟩
theorem fy{a:AK}(h:Cg a):Pure Tryz.prog TB 58 [Bm a] (Bm (GS a)):=by
 have A:=h.b.1;have m:=h.n1;have B:=h.ac;have j:=Lv (TB:=TB) a h.b;have s:=Cu (TB:=TB) a.al;obtain⟨nd,rows,I,H,J,G,F⟩:=OP h.b h.n1
 have e:Pure Tryz.prog TB 111 [eI .i64 0,AH (Ac a.al),eI .i64 a.nx.length,.o (.fn 134 [.ip [.l (Fi a)]])] (ZH (FV a.nx.length (fA a) (Ac a.al) 0)):=by
  refine SI (lim:=a.nx.length) (R:=λq=>0<=q/\q < ((a.nx.length:Nat):Int)) ⟨m,A⟩ (AD _ 6) (by omega) (λq l f i=>?_) (λq l f i=>c7 f i) rfl (λr=>rfl);have i:=Ai i;exact BI h.b (q:=q.toNat) (by omega) i.1 (by omega)
 rw [I] at e;rw [F];have z:=H.len;refine eG Tryz.func58 rfl (by kernel_rfl) rfl ?_;intro Γ c;(repeat first|refine tA rfl ?_ |refine sP rfl (j) rfl ?_ |refine aU rfl ?_ |refine Aa ?_);refine Au.AM [1] [(1,.o (.ip (BO a))),(2,.o (.ptr 0 3 0 0)),(3,.o (.ip [.l (Fi a)]))] ⟨⟨_,rfl,.inl rfl⟩,⟨_,rfl,.inl rfl⟩,⟨_,rfl,.inr (.o (.box rfl (TP.refl [.l (Fi a)])))⟩,trivial⟩ ?_;have p:(List.range a.nx.length).length=a.nx.length:=pg;rw [<-p] at e;refine rG (Ha []) (by kernel_rfl) ?_;(repeat first|refine sN rfl ?_ |refine tA rfl ?_ |refine sP rfl (s) rfl ?_|refine sP rfl (e) rfl ?_ |refine aU rfl ?_ |refine Aa ?_);(refine pW rfl ?_ rfl (by rfl);refine JH 2 1 4 rfl rfl rfl (by rfl) (by rfl) ?_);(repeat first|refine sN rfl ?_ |refine tA rfl ?_ |refine aU rfl ?_ |refine Aa ?_);refine aB ?_;refine aL (U:={k:Nat // k<=nd.length}) [1,2,7,27,28] [0] rfl rfl (λ⟨k,hk⟩=>[(29,eI .i64 k)]) (λ⟨k,hk⟩=>[(3,.cells 29 3 [[.d (iD a.al),.d (CI rows),.arr 2 1 0 k]]),(2,.cells 4 1 (((nd.take k).map (ED a)).map AP))]) 4 (λ⟨k,hk⟩=>nd.length - k) (⟨0,by omega⟩) c rfl (by (simp[cX,zC,c,eC,Bb,Ae])) ?_;rintro⟨k,hk⟩;(try dsimp only[cA,cB]);by_cases n:k < nd.length
 ·obtain⟨q,f⟩:=get_some n
  have y:=get_map (g:=Br) f;have x:=G q (ce f);obtain⟨bb,hb⟩:=get_some (l:=a.ac) (k:=q.toNat) (by omega);have u:=get_map (g:=Gk) hb;have t:ED a q=bb:=Bd hb
  have ht:nd.take (k+1)=nd.take k++[q]:=by rw [gc,f];rfl
  rw [f6] at u;(repeat first|refine s2 rfl λ_ v=>?_ |refine aU rfl ?_ |refine Aa ?_)
  ((refine aC rfl ?_ ?_<;>rintro⟨⟩);all_goals try(exfalso;(simp only[oZ] at *;omega)))
  refine aK ?_;refine aS (aB ?_);(repeat first|refine tA rfl ?_ |(refine s4 rfl ‹_› rfl ?_ ?_;omega) |refine aU rfl ?_ |refine Aa ?_);refine rG (Ha [8,10]) (by kernel_rfl) ?_;(repeat first|refine tA rfl ?_ |(refine s4 rfl ‹_› rfl ?_ ?_;omega));(refine pW rfl ?_ rfl (by rfl);refine Aj rfl rfl rfl (by first| (simp;done)|(simp;(omega))) rfl (by intro r w;simp at w;subst w;rfl) (by rfl) (co rfl) (by simp;omega) ?_);(repeat first|(refine sA rfl ?_ ?_;first|exact tI|omega) |refine aU rfl ?_ |refine Aa ?_);refine⟨⟨k+1,by omega⟩,by dsimp only;(omega),[0,1,4,3],?_⟩;simp[cX,zC,c,eC,Bb,Ae,ht,t]
 ·obtain rfl:k=nd.length:=by omega
  rw [i9];(repeat first|refine s2 rfl λ_ v=>?_ |refine aU rfl ?_ |refine Aa ?_)
  ((refine aC rfl ?_ ?_<;>rintro⟨⟩);all_goals try(exfalso;(simp only[oZ] at *;omega)))
  refine aE ?_;refine Au.AM [2,3] [(2,.o (.ptr 0 3 0 0)),(7,.o (.ip [iD a.al,CI rows,Fv (nd.map (ED a))]))] ⟨⟨_,rfl,.inl rfl⟩,⟨_,rfl,.inr (.o (.box rfl (.cons .d (.cons .d (.cons (.full rfl (by simp [d4]) (by simp)) .nil)))))⟩,trivial⟩ ?_;(repeat first|refine tA rfl ?_ |refine aU rfl ?_ |refine Aa ?_);(subst_vars;exact aR ⟨_,rfl,rfl⟩)
theorem SE{a:AK}(h:Cg a):Pure Tryz.prog TB 73 [Bm a] (Bm (Df a)):=by
 have hb:=h.b.1;have N:=h.n1;have T:=h.ac;have Z:=Qi (TB:=TB) h;have P:=ZB h
 have t:∀q:Nat,q < a.nx.length->(Dm a)[q]? = some (DZ a q):=λq hq=>by
  obtain⟨x,p⟩:=get_some (l:=Dm a) (k:=q) (by omega);rw [p];unfold DZ;rw [f6,lw,p];rfl
 have Y:Pure Tryz.prog TB 58 [Bm (BM a a.nx.length)] (Bm (Df a)):=fy (bY h).1;refine eG Tryz.func73 rfl (by kernel_rfl) rfl ?_;intro Γ f;(repeat first |refine sN rfl ?_ |((first|refine sA rfl ?_ ?_|refine s4 rfl ‹_› rfl ?_ ?_);first|exact tI|omega|simp only[oZ] at *;omega) |refine s2 rfl λ_ c=>?_ |refine sP rfl (Z) rfl ?_ |refine s3 rfl ?_ ?_<;>rintro rfl |refine aU rfl ?_ |refine Aa ?_);(refine pW rfl ?_ rfl (by rfl);refine Fj 1 1 53 2 1 4 rfl rfl (by decide) rfl rfl (by rfl) (by rfl) ?_);(repeat first |refine sN rfl ?_ |((first|refine sA rfl ?_ ?_|refine s4 rfl ‹_› rfl ?_ ?_);first|exact tI|omega|simp only[oZ] at *;omega) |refine s2 rfl λ_ c=>?_ |refine s3 rfl ?_ ?_<;>rintro rfl |refine aU rfl ?_ |refine Aa ?_);refine aB ?_;refine aL (U:={k:Nat // k<=a.nx.length}) [1,2,3,4,15,16] [0] rfl rfl (λs=>[(17,eI .i64 s.1)]) (λs=>[(1,.cells 53 1 ((BM a s.1).nx.map λr=>[.d (Da r)])),(2,.cells 4 1 ((BM a s.1).ac.map AP)),(3,.cells 29 3 [[.d (iD a.al),.arr 1 1 0 (BM a s.1).nx.length,.arr 2 1 0 (BM a s.1).nx.length]])]) 4 (λs=>a.nx.length - s.1) (⟨0,by omega⟩) f rfl (by ((repeat' first|exact tI|rfl|refine And.intro ?_ ?_)<;>(simp[cX,zC,f,eC,Bb,Ae,BM,AT]<;>rfl))) ?_;rintro⟨k,hk⟩;(try dsimp only[cA,cB]);by_cases m:k < a.nx.length
 ·have S:=t k m
  have R:=get_map (g:=Br) S;have L:=YC a k;obtain⟨r,i⟩:=get_some m;have K:=get_map (g:=DM) i;have y:a.nx.getD k []=r:=Bd i;obtain⟨bb,v⟩:=get_some (l:=a.ac) (k:=k) (by omega);have G:=get_map (g:=Gk) v;have A:a.ac.getD k false=bb:=Bd v
  have J:r.length<=6:=by
   obtain⟨row,n,X,_⟩:=h.b.2 k m
   rw [i] at n;injection n with n;subst n
   have:(Ac a.al).length<=6:=AD _ 6;omega
  have w:∀x∈r,0<=x/\x < (a.nx.length:Int):=λx p=>by
   obtain⟨row,n,X,V⟩:=h.b.2 k m
   rw [i] at n;injection n with n;subst n
   obtain⟨j,F⟩:=n7.1 p;exact V j x F
  have M:=Tc a k;(repeat first |refine sN rfl ?_ |((first|refine sA rfl ?_ ?_|refine s4 rfl ‹_› rfl ?_ ?_);first|exact tI|omega|simp only[oZ] at *;omega) |refine s2 rfl λ_ c=>?_ |refine s3 rfl ?_ ?_<;>rintro rfl |refine aU rfl ?_ |refine Aa ?_)
  ((refine aC rfl ?_ ?_<;>rintro⟨⟩);all_goals try(exfalso;first|omega|simp only[oZ] at *;omega))
  refine aK ?_;refine aS (aB ?_)
  rcases UO h m with ⟨Q,e⟩|⟨Q,e⟩
  ·(repeat first |refine sN rfl ?_ |((first|refine sA rfl ?_ ?_|refine s4 rfl ‹_› rfl ?_ ?_);first|exact tI|omega|simp only[oZ] at *;omega) |refine s2 rfl λ_ c=>?_ |refine s3 rfl ?_ ?_<;>rintro rfl |refine aU rfl ?_ |refine Aa ?_)
   ((refine aC rfl ?_ ?_<;>rintro⟨⟩);all_goals try(exfalso;first|omega|simp only[oZ] at *;omega))
   refine aE ?_;(repeat first |refine sN rfl ?_ |((first|refine sA rfl ?_ ?_|refine s4 rfl ‹_› rfl ?_ ?_);first|exact tI|omega|simp only[oZ] at *;omega) |refine s2 rfl λ_ c=>?_ |refine s3 rfl ?_ ?_<;>rintro rfl |refine aU rfl ?_ |refine Aa ?_);refine⟨⟨k+1,by first|omega|simp only[oZ] at *;omega⟩,by dsimp only;(first|omega|simp only[oZ] at *;omega),[0,1,2,3],?_⟩;simp[cX,zC,f,e]
  ·rw [y,A] at e
   (repeat first |refine sN rfl ?_ |((first|refine sA rfl ?_ ?_|refine s4 rfl ‹_› rfl ?_ ?_);first|exact tI|omega|simp only[oZ] at *;omega) |refine s2 rfl λ_ c=>?_ |refine s3 rfl ?_ ?_<;>rintro rfl |refine aU rfl ?_ |refine Aa ?_)
   ((refine aC rfl ?_ ?_<;>rintro⟨⟩);all_goals try(exfalso;first|omega|simp only[oZ] at *;omega))
   refine aK ?_;(repeat first |refine sN rfl ?_ |((first|refine sM rfl ?_ ?_|refine s4 rfl ‹_› rfl ?_ ?_);first|exact tI|omega|simp only[oZ] at *;omega) |refine s2 rfl λ_ c=>?_ |refine s3 rfl ?_ ?_<;>rintro rfl |refine aU rfl ?_ |refine Aa ?_ |refine rE (by kernel_rfl) ?_);(refine pW rfl ?_ rfl (by rfl);refine HU 1 3 ?_);(repeat first |refine sN rfl ?_ |((first|refine sM rfl ?_ ?_|refine s4 rfl ‹_› rfl ?_ ?_);first|exact tI|omega|simp only[oZ] at *;omega) |refine s2 rfl λ_ c=>?_ |refine s3 rfl ?_ ?_<;>rintro rfl |refine aU rfl ?_ |refine Aa ?_ |refine rE (by kernel_rfl) ?_);refine aB ?_;refine aL (U:={j:Nat // j<=r.length}) [1,2,3,4,5,15,16,17,31,32] [0,1,2,3] rfl rfl (λs=>[(7,.o (.arr 4 1 0 s.1)),(33,eI .i64 s.1)]) (λs=>[(4,.cells 3 1 (((r.take s.1).map (DZ a)).map Az))]) 5 (λs=>r.length - s.1) (⟨0,by omega⟩) f rfl (by ((repeat' first|exact tI|rfl|refine And.intro ?_ ?_)<;>(simp[cX,zC,f,eC,Bb,Ae]<;>rfl))) ?_;rintro⟨j,F⟩;(try dsimp only[cA,cB]);by_cases z:j < r.length
   ·obtain⟨x,p⟩:=get_some z
    have I:=get_map (g:=Br) p;have H:=w x (ce p);have u:=t x.toNat (by omega);rw [show ((x.toNat:Nat):Int)=x by omega] at u;have B:=get_map (g:=Br) u
    have ht:r.take (j+1)=r.take j++[x]:=by rw [gc,p];rfl
    (repeat first |refine sN rfl ?_ |((first|refine sA rfl ?_ ?_|refine s4 rfl ‹_› rfl ?_ ?_);first|exact tI|omega|simp only[oZ] at *;omega) |refine s2 rfl λ_ c=>?_ |refine s3 rfl ?_ ?_<;>rintro rfl |refine aU rfl ?_ |refine Aa ?_)
    ((refine aC rfl ?_ ?_<;>rintro⟨⟩);all_goals try(exfalso;first|omega|simp only[oZ] at *;omega))
    refine aK ?_;refine aS (aB ?_);(repeat first |refine sN rfl ?_ |((first|refine sA rfl ?_ ?_|refine s4 rfl ‹_› rfl ?_ ?_);first|exact tI|omega|simp only[oZ] at *;omega) |refine s2 rfl λ_ c=>?_ |refine s3 rfl ?_ ?_<;>rintro rfl |refine aU rfl ?_ |refine Aa ?_);(refine pW rfl ?_ rfl (by rfl);refine Aj rfl rfl rfl (by first|(simp;done)|(simp;(first|omega|simp only[oZ] at *;omega))) rfl (by intro r i;simp at i;subst i;rfl) (by rfl) (co rfl) (by simp;omega) ?_);(repeat first |refine sN rfl ?_ |((first|refine sA rfl ?_ ?_|refine s4 rfl ‹_› rfl ?_ ?_);first|exact tI|omega|simp only[oZ] at *;omega) |refine s2 rfl λ_ c=>?_ |refine s3 rfl ?_ ?_<;>rintro rfl |refine aU rfl ?_ |refine Aa ?_);refine⟨⟨j+1,by first|omega|simp only[oZ] at *;omega⟩,by dsimp only;(first|omega|simp only[oZ] at *;omega),[0,1,2,3,5],?_⟩;simp[cX,zC,f,eC,Bb,Ae,ht]
   ·obtain rfl:j=r.length:=by omega
    rw [i9];(repeat first |refine sN rfl ?_ |((first|refine sA rfl ?_ ?_|refine s4 rfl ‹_› rfl ?_ ?_);first|exact tI|omega|simp only[oZ] at *;omega) |refine s2 rfl λ_ c=>?_ |refine s3 rfl ?_ ?_<;>rintro rfl |refine aU rfl ?_ |refine Aa ?_)
    ((refine aC rfl ?_ ?_<;>rintro⟨⟩);all_goals try(exfalso;first|omega|simp only[oZ] at *;omega))
    refine aE ?_;refine Au.C9 [4] [1,2,3,4,5,15,16,17] rfl [(7,AH (r.map (DZ a)))] ⟨⟨_,rfl,.o (.full (by simp) rfl (by simp [d4]) (by simp))⟩,trivial⟩ ?_;(try dsimp only[cA,cB]);(repeat first |refine sN rfl ?_ |((first|refine sA rfl ?_ ?_|refine s4 rfl ‹_› rfl ?_ ?_);first|exact tI|omega|simp only[oZ] at *;omega) |refine s2 rfl λ_ c=>?_ |refine s3 rfl ?_ ?_<;>rintro rfl |refine aU rfl ?_ |refine Aa ?_);(refine pW rfl ?_ rfl (by rfl);refine Aj rfl rfl rfl (by first|(simp;done)|(simp;(first|omega|simp only[oZ] at *;omega))) rfl (by intro r i;simp at i;subst i;rfl) (by rfl) (co rfl) (by simp;omega) ?_);(repeat first |refine sN rfl ?_ |((first|refine sA rfl ?_ ?_|refine s4 rfl ‹_› rfl ?_ ?_);first|exact tI|omega|simp only[oZ] at *;omega) |refine s2 rfl λ_ c=>?_ |refine s3 rfl ?_ ?_<;>rintro rfl |refine aU rfl ?_ |refine Aa ?_);refine rG (Ha [8,10]) (by kernel_rfl) ?_;(repeat first |refine sN rfl ?_ |((first|refine sA rfl ?_ ?_|refine s4 rfl ‹_› rfl ?_ ?_);first|exact tI|omega|simp only[oZ] at *;omega) |refine s2 rfl λ_ c=>?_ |refine s3 rfl ?_ ?_<;>rintro rfl |refine aU rfl ?_ |refine Aa ?_);(refine pW rfl ?_ rfl (by rfl);refine Aj rfl rfl rfl (by first|(simp;done)|(simp;(first|omega|simp only[oZ] at *;omega))) rfl (by intro r i;simp at i;subst i;rfl) (by rfl) (co rfl) (by simp;omega) ?_);(repeat first |refine sN rfl ?_ |((first|refine sA rfl ?_ ?_|refine s4 rfl ‹_› rfl ?_ ?_);first|exact tI|omega|simp only[oZ] at *;omega) |refine s2 rfl λ_ c=>?_ |refine s3 rfl ?_ ?_<;>rintro rfl |refine aU rfl ?_ |refine Aa ?_);refine⟨⟨k+1,by first|omega|simp only[oZ] at *;omega⟩,by dsimp only;(first|omega|simp only[oZ] at *;omega),[0,5,6,3],?_⟩;simp[cX,zC,f,eC,Bb,Ae,e]
 ·obtain rfl:k=a.nx.length:=by omega
  (repeat first |refine sN rfl ?_ |((first|refine sA rfl ?_ ?_|refine s4 rfl ‹_› rfl ?_ ?_);first|exact tI|omega|simp only[oZ] at *;omega) |refine s2 rfl λ_ c=>?_ |refine s3 rfl ?_ ?_<;>rintro rfl |refine aU rfl ?_ |refine Aa ?_)
  ((refine aC rfl ?_ ?_<;>rintro⟨⟩);all_goals try(exfalso;first|omega|simp only[oZ] at *;omega))
  refine aE ?_;refine Au.AM [1,2,3] [(2,.o (.ptr 0 3 0 0)),(4,.o (.ip [iD a.al,CI (BM a a.nx.length).nx,Fv (BM a a.nx.length).ac]))] ⟨⟨_,rfl,.inl rfl⟩,⟨_,rfl,.inr (.o (.box rfl (.cons .d (.cons (.full rfl (by simp [d4]) (by simp)) (.cons (.full rfl (by simp [d4]) (by simp [Tc])) .nil)))))⟩,trivial⟩ ?_;(repeat first |refine sN rfl ?_ |((first|refine sA rfl ?_ ?_|refine s4 rfl ‹_› rfl ?_ ?_);first|exact tI|omega|simp only[oZ] at *;omega) |refine s2 rfl λ_ c=>?_ |refine sP rfl (Y) rfl ?_ |refine s3 rfl ?_ ?_<;>rintro rfl |refine aU rfl ?_ |refine Aa ?_);(subst_vars;exact aR ⟨_,rfl,rfl⟩)
end Go.Am
