/-
  A set of pairs gets its number: walked.
-/
import Derived.Test.YtbfgijpfhgmepaaGreatDoorPart20
import Derived.Test.YtbfgijpfhgmepaaGreatDoorPart16
import Derived.Test.YtbfgijpfhgmepaaGreatDoorPart19
import Derived.Test.YtbfgijpfhgmepaaGreatDoorPart15
import Derived.Test.YtbfgijpfhgmepaaGreatDoorPart18
set_option linter.constructorNameAsVariable false
set_option linter.unusedSectionVars false
set_option linter.unusedSimpArgs false
set_option linter.unusedVariables false
namespace Go.Am
open Go Go.Proofs
set_option maxHeartbeats 1000000
attribute [local irreducible] AX Cb Lex Bh Aj Spec
variable {TB:Bz}
inductive Reach (t:CK):PS->Prop
 | start:Reach t (Cu t)
 | next {F:PS} {l:Int}:0<=l->l < 6->Reach t F->Reach t (Eb t l F)
theorem Reach.ok{t:CK}(ht:Bc t=true){F:PS}(h:Reach t F):CZ t F:=by
 induction h with
 | start=>exact Gq ht
 | next c b _ a=>exact Ll ht ⟨c,b⟩ a
noncomputable def GO(t:CK):PS->W->PS
 | F,[]=>F
 | F,c::w=>GO t (Eb t ((c.toNat:Int) - 97) F) w
theorem Pp{t:CK}:∀(u v:W) (F:PS),GO t F (u++v)=GO t (GO t F u) v
 | [],v,F=>rfl
 | c::u,v,F=>by simp only [ou,GO];exact Pp u v _
def kZ(t:CK)(ok:W->Prop)(F:PS):Prop:=F=Cu t\/∃u v,ok (u++v)/\F=GO t (Cu t) u
def jn(t:CK)(ok:W->Prop):Prop:=∀l:List PS,l.Nodup->(∀F∈l,kZ t ok F)->l.length<=1099511627776
structure JS (t:CK) (ok:W->Prop) (m:Hh):Prop where
 l1:m.nx.length=m.F.length
 l2:m.un.length=m.F.length
 nd:m.F.Nodup
 rc:∀F∈m.F,Reach t F
 rk:∀F∈m.F,kZ t ok F
 un:∀(i:Nat) F,m.F[i]? = some F->m.un[i]? = some (GV t F)
 nx:∀(i:Nat) F,m.F[i]? = some F->∃r:List Int,m.nx[i]? = some r/\r.length=6/\∀l:Nat,l < 6->∃x,r[l]? = some x/\(x < 0\/∃j:Nat,x=j/\m.F[j]? = some (Eb t l F))
def JN(t:CK)(m:Hh)(G:PS):Hh:=⟨m.F++[G],m.nx++[[-1,-1,-1,-1,-1,-1]],m.un++[GV t G]⟩
theorem gr{t:CK}(ht:Bc t=true){F G:PS}(c:CZ t F)(b:CZ t G)(h:He F=He G):F=G:=by
 have d:=Sw h;have e:=AH (Cw ht);funext p
 rcases nG p 12 with a|a
 ·exact d p a
 ·rw [c.z p (by omega),b.z p (by omega)]
theorem Sj{l:List PS}{p:List Int×Int}:p∈Qf l↔∃(i:Nat) (F:PS),l[i]? = some F/\p=(He F,(i:Int)):=by
 unfold Qf;rw [d9];constructor
 ·rintro⟨⟨F,i⟩,h,rfl⟩
  exact⟨i,F,qq.1 h,rfl⟩
 ·rintro⟨i,F,h,rfl⟩
  exact⟨(F,i),qq.2 h,rfl⟩
theorem eY(l:List PS)(G:PS):Qf (l++[G])=Qf l++[(He G,(l.length:Int))]:=by
 unfold Qf;rw [List.zipIdx_append];simp
theorem bV{t:CK}(ht:Bc t=true){l:List PS}(g:l.Nodup)(f:∀F∈l,Reach t F):(Qf l).Pairwise (λa b=>a.1≠b.1):=by
 unfold Qf;rw [oY,nn];intro i j e d c;simp only [List.length_zipIdx] at e d;simp only [List.getElem_zipIdx];intro h;have:=gr ht ((f _ (nJ e)).ok ht) ((f _ (nJ d)).ok ht) h;exact nn.1 g i j e d c this
theorem bU{t:CK}(ht:Bc t=true){l:List PS}(a:∀F∈l,Reach t F):Qr 12 .u16 (Qf l):=λp b=>by
 obtain⟨i,F,c,rfl⟩:=Sj.1 b;exact⟨rfl,fZ ((a F (co c)).ok ht).lt⟩
theorem Zh{t:CK}(ht:Bc t=true){l:List PS}(f:l.Nodup)(c:∀F∈l,Reach t F){G:PS}(j:CZ t G){v:Int}(h:DN (Qf l) (He G)=some v):∃k:Nat,v=k/\l[k]? = some G:=by
 have:∃p∈Qf l,p.1=He G:=by
  refine Classical.byContradiction λg=>?_;have m:DN (Qf l) (He G)=none:=Ic.2 λp a b=>g ⟨p,a,b⟩;rw [m] at h;cases h
 obtain⟨p,a,b⟩:=this;have e:=Mo (bV ht f c) a;rw [b,h] at e;obtain⟨i,F,d,rfl⟩:=Sj.1 a;have:=gr ht ((c F (co d)).ok ht) j b;subst this;exact⟨i,by injection e,d⟩
theorem Zg{l:List PS}{G:PS}(h:DN (Qf l) (He G)=none):G∉l:=λb=>by
 obtain⟨i,hi,a⟩:=nB b;exact Ic.1 h (He G,(i:Int)) (Sj.2 ⟨i,G,by rw [d6 hi,a],rfl⟩) rfl
theorem KP{α:Type}{l:List α}{a x:α}{i:Nat}(h:l[i]? = some x):(l++[a])[i]? = some x:=by
 rw [f7 (ce.1 h).1];exact h
theorem Tq{α:Type}{l:List α}{a x:α}{i:Nat}(h:(l++[a])[i]? = some x):l[i]? = some x\/i=l.length/\x=a:=by
 rcases nG i l.length with b|b
 ·rw [f7 b] at h;exact .inl h
 ·rw [gc b] at h
  have d:i - l.length < 1:=(ce.1 h).1
  have c:i=l.length:=by simp at d;omega
  subst c;simp at h;exact .inr ⟨rfl,h.symm⟩
theorem Xm{t:CK}{ok:W->Prop}{m:Hh}(d:JS t ok m){G:PS}(k:Reach t G)(hk:kZ t ok G)(h:G∉m.F):JS t ok (JN t m G):=by
 refine⟨by simp [JN,d.l1],by simp [JN,d.l2],?_,?_,?_,?_,?_⟩
 ·show (m.F++[G]).Nodup
  rw [o3];exact⟨d.nd,by simp,λa ha b hb=>by simp at hb;subst hb;intro e;subst e;exact h ha⟩
 ·intro F c
  rcases em.1 c with c|c
  ·exact d.rc F c
  ·simp at c;subst c;exact k
 ·intro F c
  rcases em.1 c with c|c
  ·exact d.rk F c
  ·simp at c;subst c;exact hk
 ·intro i F c
  rcases Tq c with f|⟨f,rfl⟩
  ·exact KP (d.un i F f)
  ·subst f;show (m.un++[GV t F])[m.F.length]? = _;rw [<-d.l2];simp
 ·intro i F c
  rcases Tq c with f|⟨f,rfl⟩
  ·obtain⟨r,v,u,s⟩:=d.nx i F f
   refine⟨r,KP v,u,λl g=>?_⟩;obtain⟨x,q,p⟩:=s l g;refine⟨x,q,p.imp id ?_⟩;rintro⟨j,o,n⟩;exact⟨j,o,KP n⟩
  ·refine⟨[-1,-1,-1,-1,-1,-1],by subst f;show (m.nx++_)[m.F.length]? = _;rw [<-d.l1];simp,rfl,λl g=>⟨-1,?_,.inl (by omega)⟩⟩
   obtain rfl|rfl|rfl|rfl|rfl|rfl:l=0\/l=1\/l=2\/l=3\/l=4\/l=5:=by omega
   all_goals rfl
def Hx(t:CK)(F:PS)(k:Nat):Bool:=(List.range k).any λp=>decide (F p≠0) && !(t.q.ac.getD p false)
theorem Ka{t:CK}{F:PS}{k:Nat}:Hx t F (k+1)=(Hx t F k || (decide (F k≠0) && !(t.q.ac.getD k false))):=by
 unfold Hx;rw [oU,qT];simp
theorem YW{t:CK}{F:PS}(h:CZ t F)(b:t.q.nx.length<=12):Hx t F 12=GV t F:=by
 have key:∀k,Hx t F (t.q.nx.length+k)=Hx t F t.q.nx.length:=λk=>by
  induction k with
  | zero=>rfl
  | succ k a=>rw [<-nE,Ka,a,h.z _ (by omega)];simp
 have:=key (12 - t.q.nx.length);rw [show t.q.nx.length+(12 - t.q.nx.length)=12 by omega] at this;rw [this];rfl
section
variable {P:Program}{Z:Ctx}{d:Option Tmp}{ty:TypeId}{pos:String}{af:Array Edge}{g:Option (Nat×Bool)}{f:Env}{σ:Ab}{nx:Nat}{t:TypeId}{n:Nat}{q:IntKind}{m e:TypeId}{x y:Operand}{id:Nat}{l:List (List Int×Int)}{s:List Int}
theorem cU{v:Int}[A:KH P m t e][h:Gt P t n q][z:Qq P e (.int .i64 0)](k:DN l s=some v)(i:ev f x=some (.o (.mp id)))(c:ev f y=some (eL q s))(r:look σ id=some (.mp (mapA q l)))
 (u:Qr n q l) (w:l.Pairwise (λa b=>a.1≠b.1)) (p:s.length=n) (j:∀x∈s,(Lit.int q x).wf=true) :
 AX P TB Z ⟨d,.lookup m x y true,ty,pos,af,g⟩ f σ nx (.t [(false,[.d (.v (.int .i64 v))]),(false,[.d (.v (.bool true))])]):=by
 have:=X8 (P:=P) (TB:=TB) (Z:=Z) (d:=d) (ty:=ty) (pos:=pos) (af:=af) (g:=g) (nx:=nx) (t:=t) (m:=m) (e:=e) i c r u w p j;rw [k] at this;exact this
theorem cT[A:KH P m t e][h:Gt P t n q][z:Qq P e (.int .i64 0)](k:DN l s=none)(i:ev f x=some (.o (.mp id)))(c:ev f y=some (eL q s))(r:look σ id=some (.mp (mapA q l)))
 (u:Qr n q l) (w:l.Pairwise (λa b=>a.1≠b.1)) (p:s.length=n) (j:∀x∈s,(Lit.int q x).wf=true) :
 AX P TB Z ⟨d,.lookup m x y true,ty,pos,af,g⟩ f σ nx (.t [(false,[.d (.v (.int .i64 0))]),(false,[.d (.v (.bool false))])]):=by
 have:=X8 (P:=P) (TB:=TB) (Z:=Z) (d:=d) (ty:=ty) (pos:=pos) (af:=af) (g:=g) (nx:=nx) (t:=t) (m:=m) (e:=e) i c r u w p j;rw [k] at this;exact this
end
theorem aM{t:CK}{ok:W->Prop}(ht:Bc t=true){m:Hh}(h:JS t ok m)(H:m.F.length<=1099511627776){G:PS}(u:CZ t G):∃(m':Hh) (k:Nat),((m'=m/\m.F[k]? = some G)\/(m'=JN t m G/\k=m.F.length/\G∉m.F))/\
 AR Tryz.prog TB 154 1 (NQ t m) 5 [.o (.ptr 0 14 0 0),iP G] (λx σ nx=>x=eI .i64 (k:Int)/\σ=NQ t m'/\nx=5):=by
 have L:=AH (Cw ht);have f:=bV ht h.nd h.rc;have j:=bU ht h.rc;have e:=fZ u.lt
 cases n:DN (Qf m.F) (He G) with
 | some v=>
  obtain⟨k,rfl,hk⟩:=Zh ht h.nd h.rc u n;refine⟨m,k,.inl ⟨rfl,hk⟩,?_⟩;refine AR.Be (AR.QY (m:=1) (am rfl) Tryz.func154 rfl (by kernel_rfl) (am rfl) ?_);intro Z a;(repeat first|refine tA rfl ?_ |refine aU rfl ?_ |refine Aa ?_);refine rG (Gj []) (by kernel_rfl) ?_;(repeat first|refine tA rfl ?_|(refine Ag rfl ?_;refine gA rfl ?_;first| refine gQ (cU (s:=He G) (l:=Qf m.F) n rfl rfl rfl j f rfl e) rfl ?_) |refine aU rfl ?_ |refine Aa ?_);(refine aC rfl ?_ ?_<;>rintro⟨⟩);(repeat first|refine tA rfl ?_ |refine aU rfl ?_ |refine Aa ?_);refine aR ⟨_,rfl,[0,1,2,3,4],eI .i64 (k:Int),NQ t m,⟨by intro i hi;match i with|0=>rfl,by decide⟩,rfl,by (simp[cX,zC,a,A3]),rfl,rfl,rfl⟩
 | none =>
  refine⟨JN t m G,m.F.length,.inr ⟨rfl,rfl,Zg n⟩,?_⟩;have N:=h.l1;have M:=h.l2;have A:=eY m.F G;refine AR.Be (AR.QY (m:=1) (am rfl) Tryz.func154 rfl (by kernel_rfl) (am rfl) ?_);intro Z a;(repeat first|refine tA rfl ?_ |refine aU rfl ?_ |refine Aa ?_);refine rG (Gj []) (by kernel_rfl) ?_;(repeat first|refine tA rfl ?_|(refine Ag rfl ?_;refine gA rfl ?_;first| refine gQ (cT (s:=He G) (l:=Qf m.F) n rfl rfl rfl j f rfl e) rfl ?_) |refine aU rfl ?_ |refine Aa ?_);(refine aC rfl ?_ ?_<;>rintro⟨⟩);refine aK ?_;(repeat first|refine tA rfl ?_ |refine aU rfl ?_ |refine Aa ?_);refine rG (Gj [6]) (by kernel_rfl) ?_;(repeat first|refine tA rfl ?_);(refine Ag rfl ?_;refine HK ?_ rfl (by rfl);refine iC (s:=He G) (l:=Qf m.F) rfl rfl rfl rfl j f rfl e n ?_);rw [<-A];refine Aa ?_;(repeat first|refine aU rfl ?_);refine rG (JU [(4,0),(7,1),(10,1)]) (by kernel_rfl) ?_;(repeat first|refine tA rfl ?_);(refine pW rfl ?_ rfl (by rfl);refine Al rfl rfl rfl (by first| (simp;done)|(simp;(omega))) rfl (by intro r d;simp at d;subst d;rfl) (by rfl) (am rfl) (by simp;omega) ?_);(repeat first|refine tA rfl ?_ |refine aU rfl ?_ |refine Aa ?_);(repeat first|refine tA rfl ?_|(refine Ag rfl ?_;refine gA rfl ?_;first| refine gS (λ_ _=>AF rfl rfl (by rfl) (by rfl)) ?_));(refine pW rfl ?_ rfl (by rfl);refine Al rfl rfl rfl (by first| (simp;done)|(simp;(omega))) rfl (by intro r d;simp at d;subst d;rfl) (by rfl) (am rfl) (by simp;omega) ?_);(repeat first|refine tA rfl ?_ |refine aU rfl ?_ |refine Aa ?_);refine Aj.Ay [0,7,8,53,54] [] rfl rfl [] [(0,.cells 195 14 [dn t (.arr 1 12 0 (JN t m G).F.length) (.mp 2) (.arr 3 6 0 (JN t m G).nx.length) (.arr 4 1 0 m.un.length)]),(1,.cells 199 12 ((JN t m G).F.map Rm)),(2,.mp (mapA .u16 (Qf (JN t m G).F))),(3,.cells 121 6 ((JN t m G).nx.map QX)),(4,.cells 4 1 (m.un.map AS))] [0,5,2,6,4] (rl a rfl) (by (simp[cX,zC,a,A3,JN]<;>rfl)) ?_;(try dsimp only[cA,cB]);refine aB ?_;refine aL (α:={k:Nat // k<=12}) [0,7,53] [0,1,2,3,4] rfl rfl (λs=>[(8,eB (Hx t G s.1)),(54,eI .i64 s.1)]) (λs=>[]) 5 (λs=>12 - s.1) (⟨0,by omega⟩) a rfl (by (simp[cX,zC,a,A3]<;>rfl)) ?_;rintro⟨k,hk⟩;(try dsimp only[cA,cB]);by_cases w:k < 12
  ·have B:(He G)[((k:Nat):Int).toNat]? = some (G k:Int):=by rw [i7];exact JA w
   have p:=Ka (t:=t) (F:=G) (k:=k);generalize Hx t G k=P at *;by_cases J:k < t.q.nx.length
   ·obtain⟨b,hb⟩:=get_some (l:=t.q.ac) (k:=((k:Nat):Int).toNat) (by omega)
    have K:=get_map (g:=IQ) hb
    have y:t.q.ac.getD k false=b:=by rw [i7] at hb;simp [List.getD,hb]
    rw [y] at p;(repeat first|refine s2 rfl λ_ c=>?_ |refine aU rfl ?_ |refine Aa ?_)
    ((refine aC rfl ?_ ?_<;>rintro⟨⟩);all_goals try(exfalso;(simp only[oZ] at *;omega)))
    refine aK ?_;refine aS (aB ?_)
    (repeat' first|(refine sA rfl ?_ ?_;first|exact tI|omega) |(refine s4 rfl ‹_› rfl ?_ ?_;omega) |refine s2 rfl λ_ c=>?_|(refine Ag rfl ?_;refine gA rfl ?_;first| refine gS (λ_ _=>Lr (l:=He G) rfl rfl rfl (by omega) B) ?_) |refine s3 rfl ?_ ?_<;>rintro rfl |refine aU rfl ?_ |refine Aa ?_|(refine aC rfl ?_ ?_<;>rintro⟨⟩));all_goals try contradiction
    all_goals ((try refine aK ?_);refine⟨⟨k+1,by omega⟩,by dsimp only;(omega),[0,1,2,3,4],?_⟩;simp only [decide_eq_true_eq,decide_eq_false_iff_not] at *;simp[cX,zC,a,A3,p];try (simp_all;done))
   ·have I:=u.z k (by omega)
    rw [I] at p;(repeat first|refine s2 rfl λ_ c=>?_ |refine aU rfl ?_ |refine Aa ?_)
    ((refine aC rfl ?_ ?_<;>rintro⟨⟩);all_goals try(exfalso;(simp only[oZ] at *;omega)))
    refine aK ?_;refine aS (aB ?_)
    (repeat' first|(refine sA rfl ?_ ?_;first|exact tI|omega) |refine s2 rfl λ_ c=>?_|(refine Ag rfl ?_;refine gA rfl ?_;first| refine gS (λ_ _=>Lr (l:=He G) rfl rfl rfl (by omega) B) ?_) |refine s3 rfl ?_ ?_<;>rintro rfl |refine aU rfl ?_ |refine Aa ?_|(refine aC rfl ?_ ?_<;>rintro⟨⟩));all_goals try contradiction
    all_goals first| (exfalso;(simp only[oZ] at *;omega);done)|skip
    all_goals ((try refine aK ?_);refine⟨⟨k+1,by omega⟩,by dsimp only;(omega),[0,1,2,3,4],?_⟩;simp[cX,zC,a,A3,p];try (simp_all;done))
  ·obtain rfl:k=12:=by omega
   rw [YW u (by omega)];(repeat first|refine s2 rfl λ_ c=>?_ |refine aU rfl ?_ |refine Aa ?_)
   ((refine aC rfl ?_ ?_<;>rintro⟨⟩);all_goals try(exfalso;(simp only[oZ] at *;omega)))
   refine aE ?_;(repeat first|refine tA rfl ?_ |refine aU rfl ?_);(refine pW rfl ?_ rfl (by rfl);refine Al rfl rfl rfl (by first| (simp;done)|(simp;(omega))) rfl (by intro r d;simp at d;subst d;rfl) (by rfl) (am rfl) (by simp;omega) ?_);(repeat first|refine tA rfl ?_ |refine aU rfl ?_ |refine Aa ?_);refine aR ⟨_,rfl,[0,1,2,3,5],eI .i64 (m.F.length:Int),NQ t (JN t m G),⟨by intro i hi;match i with|0=>rfl,by decide⟩,rfl,by (simp[cX,zC,a,A3,JN]),rfl,rfl,rfl⟩
def lu(m m':Hh):Prop:=∀(i:Nat) F,m.F[i]? = some F->m'.F[i]? = some F
theorem dV{t:CK}{m:Hh}{G:PS}:lu m (JN t m G):=λ_ _ h=>KP h
def ZP(m:Hh)(n:Nat)(r:List Int):Hh:={ m with nx:=m.nx.set n r }
theorem fG{t:CK}{ok:W->Prop}{m:Hh}(a:JS t ok m){n k l:Nat}{F:PS}{r:List Int}(p:m.F[n]? = some F)(o:m.nx[n]? = some r)(v:l < 6)(hk:m.F[k]? = some (Eb t l F)):JS t ok (ZP m n (r.set l k)):=by
 refine⟨by simp [ZP,a.l1],a.l2,a.nd,a.rc,a.rk,a.un,λi G b=>?_⟩;replace b:m.F[i]? = some G:=b;by_cases e:i=n
 ·subst e
  rw [p] at b;injection b with b;subst b
  obtain⟨r',c,f,j⟩:=a.nx i F p
  rw [o] at c;injection c with c;subst c
  have g:=(ce.1 o).1;refine⟨r.set l k,by simp [ZP,g],by simp [f],λl' d=>?_⟩;by_cases q:l'=l
  ·subst q
   exact⟨k,by simp [f,d],.inr ⟨k,rfl,hk⟩⟩
  ·obtain⟨x,u,s⟩:=j l' d
   exact⟨x,by rw [nT (λh=>q h.symm)];exact u,s⟩
 ·obtain⟨r',c,f,j⟩:=a.nx i G b
  exact⟨r',by simp only [ZP];rw [nT (λh=>e h.symm)];exact c,f,j⟩
theorem XT{r:List Int}{l:Nat}{x:Int}(h:r[l]? = some x):(QX r)[l]? = some (.d (iD x)):=by simp [h]
theorem fg{r:List Int}{l:Nat}{x:Int}(h:l < r.length):Ae (QX r) l [.d (iD x)]=QX (r.set l x):=by
 rw [It (by simpa using h)];unfold QX;rw [oe]
theorem aN[Dt TB]{t:CK}{ok:W->Prop}(ht:Bc t=true)(K:jn t ok){m:Hh}(c:JS t ok m){n:Nat}{F:PS}(v:m.F[n]? = some F){l:Int}(J:0<=l/\l < 6)(S:kZ t ok (Eb t l F)):∃(m':Hh) (j:Nat),JS t ok m'/\lu m m'/\m'.F[j]? = some (Eb t l F)/\
 AR Tryz.prog TB 156 1 (NQ t m) 5 [.o (.ptr 0 14 0 0),eI .i64 (n:Int),eI .i64 l] (λx σ nx=>x=eI .i64 (j:Int)/\σ=NQ t m'/\nx=5):=by
 have H:=K m.F c.nd c.rk;obtain⟨r,hr,hrl,R⟩:=c.nx n F v;have hn:=(ce.1 v).1;have h1:=c.l1;obtain⟨x,hx,z⟩:=R l.toNat (by omega)
 have el:((l.toNat:Nat):Int)=l:=by omega
 rw [el] at z;have s:=(c.rc F (co v)).ok ht
 have hr':(m.nx.map QX)[0+((n:Nat):Int).toNat]? = some (QX r):=by rw [nf,i7];simp [hr]
 have g:(QX r)[0+l.toNat*1]? = some (.d (iD x)):=by rw [nf,qW];exact XT hx
 by_cases P:x < 0
 ·have hG:=Ll ht J s
  have Y:Reach t (Eb t l F):=.next J.1 J.2 (c.rc F (co v));obtain⟨b,k,q,L⟩:=aM (TB:=TB) ht c H hG
  have e:JS t ok b/\lu m b/\b.F[k]? = some (Eb t l F):=by
   rcases q with ⟨rfl,h2⟩|⟨rfl,rfl,h2⟩
   ·exact⟨c,λ_ _ h=>h,h2⟩
   ·exact⟨Xm c Y S h2,dV,by simp [JN]⟩
  obtain⟨e,I,hk⟩:=e;have M:=I n F v;obtain⟨f,p,hrl1,_⟩:=e.nx n F M;have U:=(ce.1 p).1;have T:=fG (l:=l.toNat) e M p (by omega) (k:=k) (by rw [el];exact hk);refine⟨_,k,T,I,hk,?_⟩;have V:=XO (TB:=TB) ht m J s;have X:=Tz (TB:=TB) ht m (Ks ht J s)
  have hs':(m.F.map Rm)[0+((n:Nat):Int).toNat]? = some (Rm F):=by rw [nf,i7];simp [v]
  refine AR.Be (AR.QY (m:=1) (am rfl) Tryz.func156 rfl (by kernel_rfl) (am rfl) ?_);intro Z a;(repeat first|(refine sA rfl ?_ ?_;first|exact tI|omega) |refine s2 rfl λ_ _hb=>?_|(refine Ag rfl ?_;refine gA rfl ?_;first| refine gQ (Pb rfl rfl (by assumption) g) rfl ?_) |refine aU rfl ?_ |refine Aa ?_)
  ((refine aC rfl ?_ ?_<;>rintro⟨⟩);all_goals try(exfalso;(simp only[oZ] at *;omega)))
  (repeat first|(refine sA rfl ?_ ?_;first|exact tI|omega) |refine t4 rfl ‹_› rfl ?_ |refine aU rfl ?_);(refine pW rfl ?_ rfl (by rfl);refine Ai [0,1,2,3,4] rfl rfl (V) ⟨rfl,by decide,by decide⟩ rfl (by simp[cX,zC,a,A3]) ?_;rintro x0 w y ⟨rfl,rfl,rfl⟩ _);(refine pW rfl ?_ rfl (by rfl);refine Ai [0,1,2,3,4] rfl rfl (X) ⟨rfl,by decide,by decide⟩ rfl (by simp[cX,zC,a,A3]) ?_;rintro x0 w y ⟨rfl,rfl,rfl⟩ _);(refine pW rfl ?_ rfl (by rfl);refine Ci [0,1,2,3,4] rfl rfl 1 (L) (by decide) ⟨rfl,by decide,by decide⟩ rfl (by simp[cX,zC,a,A3]) ?_;rintro x0 w y ⟨rfl,rfl,rfl⟩ _);(repeat first|refine tA rfl ?_);refine Aa ?_;refine Aj.Ay [0,1,2,7] [] rfl rfl [] [(0,.cells 195 14 [dn t (.arr 1 12 0 b.F.length) (.mp 2) (.arr 3 6 0 b.nx.length) (.arr 4 1 0 b.un.length)]),(1,.cells 199 12 (b.F.map Rm)),(2,.mp (mapA .u16 (Qf b.F))),(3,.cells 121 6 (b.nx.map QX)),(4,.cells 4 1 (b.un.map AS))] [0,5,6,7,8] (rl a rfl) (by (simp[cX,zC,a,A3])) ?_;(try dsimp only[cA,cB])
  have G:(b.nx.map QX)[0+((n:Nat):Int).toNat]? = some (QX f):=by rw [nf,i7];simp [p]
  have Q:=fg (r:=f) (l:=l.toNat) (x:=(k:Int)) (by omega)
  have B:(f.set l.toNat (k:Int))[l.toNat]? = some (k:Int):=by rw [nS (by omega)]
  generalize f.set l.toNat (k:Int)=u at *
  have A:(QX f).take l.toNat++C.d (iD k)::(QX f).drop (l.toNat+1)=QX u:=by rw [<-Q];simp [Ae]
  (repeat first|(refine sA rfl ?_ ?_;first|exact tI|omega) |refine aU rfl ?_);(refine Ag rfl ?_;refine HK ?_ rfl (by rfl);refine Ei (r:=QX f) rfl rfl rfl rfl G rfl (by show 0+l.toNat*1+1<=6;omega) ?_);refine Aa ?_;refine Aj.Ay [0,1,2] [] rfl rfl [] [(0,.cells 195 14 [dn t (.arr 1 12 0 b.F.length) (.mp 2) (.arr 3 6 0 b.nx.length) (.arr 4 1 0 b.un.length)]),(1,.cells 199 12 (b.F.map Rm)),(2,.mp (mapA .u16 (Qf b.F))),(3,.cells 121 6 ((b.nx.set n u).map QX)),(4,.cells 4 1 (b.un.map AS))] [0,1,2,3,4] (rl a rfl) (by (simp[cX,zC,a,A3,A])) ?_;(try dsimp only[cA,cB])
  have hr2:((b.nx.set n u).map QX)[0+((n:Nat):Int).toNat]? = some (QX u):=by rw [nf,i7];simp [U]
  have N:(QX u)[0+l.toNat*1]? = some (.d (iD k)):=by rw [nf,qW];exact XT B
  (repeat first|(refine sA rfl ?_ ?_;first|exact tI|omega)|(refine Ag rfl ?_;refine gA rfl ?_;first| refine gQ (Pb rfl rfl (by assumption) N) rfl ?_) |refine aU rfl ?_ |refine Aa ?_);refine aR ⟨_,rfl,[0,1,2,3,4],eI .i64 (k:Int),NQ t (ZP b n u),⟨by intro i hi;match i with|0=>rfl,by decide⟩,rfl,by (simp[cX,zC,a,A3,ZP]),rfl,rfl,rfl⟩
 ·obtain⟨j,rfl,hj⟩:=z.resolve_left P
  refine⟨m,j,c,λ_ _ h=>h,hj,?_⟩;refine AR.Be (AR.QY (m:=1) (am rfl) Tryz.func156 rfl (by kernel_rfl) (am rfl) ?_);intro Z a;(repeat first|(refine sA rfl ?_ ?_;first|exact tI|omega) |refine s2 rfl λ_ _hb=>?_|(refine Ag rfl ?_;refine gA rfl ?_;first| refine gQ (Pb rfl rfl (by assumption) g) rfl ?_) |refine aU rfl ?_ |refine Aa ?_)
  ((refine aC rfl ?_ ?_<;>rintro⟨⟩);all_goals try(exfalso;(simp only[oZ] at *;omega)))
  refine aK ?_;(repeat first|(refine sA rfl ?_ ?_;first|exact tI|omega)|(refine Ag rfl ?_;refine gA rfl ?_;first| refine gQ (Pb rfl rfl (by assumption) g) rfl ?_) |refine aU rfl ?_ |refine Aa ?_);refine aR ⟨_,rfl,[0,1,2,3,4],eI .i64 (j:Int),NQ t m,⟨by intro i hi;match i with|0=>rfl,by decide⟩,rfl,by (simp[cX,zC,a,A3]),rfl,rfl,rfl⟩
end Go.Am
namespace Go.Am
open Go
set_option linter.unusedVariables false
section
variable {P:Program}{TB:Bz}{Z:Ctx}{d:Option Tmp}{ty:TypeId}{pos:String}{af:Array Edge}{g:Option (Nat×Bool)}{f:Env}{σ:Ab}{nx:Nat}
theorem lV{gg:FuncId}{x:Operand}{c:C}(e:ev f x=some (.o c)):AX P TB Z ⟨d,.makeFunc (.func gg) #[x] #[],ty,pos,af,g⟩ f σ nx (.o (.mv gg [c])):=
 AO λV ρ i _=>by
  refine⟨.func (.func gg) #[ρ x] #[],by simp [execOp,Instr.makeFunc,go_sem],AG.mv rfl λj c' v a b=>?_⟩;have h:AG V c (ρ x):=i.get (by simp [Op.operands]) e
  match j with
  | 0=>simp at a b;subst a;subst b;exact h
  | j+1=>simp at a
theorem iB{V:View}{gg:FuncId}{recv:List C}{v:Value}(h:Bl V (.o (.mv gg recv)) v):∃vs,v=.func (.func gg) vs #[]/\C8 V recv vs:=by
 have h:AG V (.mv gg recv) v:=h;generalize a:C.mv gg recv=c at h;cases h<;>cases a;rename_i vs d b;exact⟨vs,rfl,d,b⟩
theorem VD{x:Operand}{args:Array Operand}{tys:Array TypeId}{gg:FuncId}{vs:Array Value}(f:ay P gg){ρ:Operand->Value}(e:ρ x=.func (.func gg) vs #[])(w:World) :
 (execOp ρ ⟨d,.call ⟨.value x,args,tys⟩,ty,pos,af,g⟩).run P w=.ok (.enter gg (vs++args.map ρ)) w:=by
 obtain⟨fn,i,h,b⟩:=f
 have hb:∃c,fn.body=some c:=by cases hb:fn.body with|none=>rw [hb] at b;cases b|some c=>exact⟨c,rfl⟩
 obtain⟨c,hb⟩:=hb;simp only [execOp,resolve,e,Deferred.ofValue,pure_bind,invoke,callFunc]
 have a:¬fn.name = "runtime.NumGoroutine" := by simpa using h
 simp [Sem.run,program,i,a,hb,go_sem]
theorem cG{x:Operand}{args:Array Operand}{tys:Array TypeId}{gg:FuncId}{recv:List C}{es:List E}{r:E}(T:ev f x=some (.o (.mv gg recv)))(t:JP f args.toList=some es)(F:(es.all E.Cj && C.Dg recv)=true)
 (M:Pure P TB gg (recv.map .o++es) r) (U:r.Cj=true):AX P TB Z ⟨d,.call ⟨.value x,args,tys⟩,ty,pos,af,g⟩ f σ nx r:=by
 intro V a u A Y;have u:=u.Hz;unfold Oper.wp;generalize a.eval=ρ at u |-;obtain⟨vs,q,k⟩:=iB (u.get (x:=x) (by simp [Op.operands,Call.operands]) T);rw [VD M.1 q];rw [d4] at F;have H:=CU t
 have p:NA { V with nx:=0 } (recv.map .o++es) (vs++args.map ρ):=by
  refine⟨by simp [k.1,H],λj e v n q=>?_⟩;have m:vs.size=recv.length:=k.1;by_cases s:j < recv.length
  ·rw [f7 (by simpa using s)] at n
   rw [nv (by rw [m];exact s)] at q;simp only [i9,d7] at n;obtain⟨c,N,rfl⟩:=n;exact AG.Cj (V:=V) (V':={ V with nx:=0 }) rfl rfl (k.2 _ c v N q) (FM _ F.2 _ c N)
  ·rw [gc (by simp;omega)] at n
   rw [oo (by rw [m];omega),m] at q;simp only [gt] at n;refine Bl.Cj (V:=V) (V':={ V with nx:=0 }) rfl rfl (Hu (λy R e X=>u.get (by simp [Op.operands,Call.operands];right;simpa using R) X) t _ e v n (by rw [<-pz];simpa using q)) (f9.1 F.1 e (co n))
 obtain⟨S,z,K,L⟩:=A.hid;refine(M.2 { V with nx:=0 } _ S ⟨A.iLt,Ev,A.tabs,rfl,⟨z.r,z.ji,z.bi,λb ⟨_,_,h,_⟩=>by cases h⟩⟩ p).mono ?_;rintro e w' ⟨V1,v,x1,Q,rfl,rfl,l,B,rfl⟩
 obtain⟨G,J⟩:=J8 A z K L (Vc:={ V with nx:=0 }) rfl l V1.I (λb hb=>l.ext.i b hb) (λb hb=>by
  rcases l.iNew b hb with h|h|h|h
  ·exact .inl h
  ·exact .inr (.inl ⟨h,l.iLt b hb⟩)
  ·obtain⟨_,_,h,_⟩:=h;cases h
  ·exact .inr (.inr h)) (λb hb _=>hb) (λb hb=>hb)
 exact⟨{ V with I:=V1.I,w:=V1.w },v,rfl,rfl,J,G,Y,Bl.Cj (V:=V1) (V':={ V with I:=V1.I,w:=V1.w }) rfl rfl B U⟩
end
abbrev Pe(r:Nat):C:=.d (.v (.pointer (some ⟨r,0,none⟩)))
theorem cC{P:Program}{tabs:List (Nat×Obj)}{H:Hid}{r:Nat}{gg:FuncId}{k:Nat}{es:List E}{K:E}(N:ay P gg)(M:∀e∈es,e.sc=true)(F:K.sc=true)
 (h:∀s,AR P ⟨tabs,none⟩ gg 1 (H.st s) H.nx (.o (.ptr 0 k 0 0)::es) (λx σ nx=>x=K/\nx=H.nx/\∃s',σ=H.st s')):Pure P ⟨tabs,some (H,r)⟩ gg (.o (Pe r)::es) K:=by
 refine⟨N,λV vs S c ha=>?_⟩;have hr:∃(s:H.S) (V0:View),V0.I=S.J/\V0.w=V.w/\V0.nx=H.nx/\Hs V0 (H.st s)/\(0 < V0.nx/\V0.ρ 0=r/\¬V0.nl 0/\∀x∈(⟨tabs,some (H,r)⟩:Bz),V0.I x.1)/\∀b,S.B b↔DE V0 (H.st s) b:=c.hid.r;obtain⟨s,V0,e1,f,e3,st,⟨Y,q,t,tb⟩,R⟩:=hr
 have m:Good ⟨tabs,none⟩ V0 (H.st s) H.nx ⟨λ_=>False,λ_=>False⟩:=
  ⟨λb hb=>by rw [f];exact c.iLt b (c.hid.ji b (by rw [<-e1];exact hb)),st,λx F=>⟨tb x F,by rw [f];exact(c.tabs x F).2⟩,e3,⟨λ_ h=>h,λ_ h=>h.elim,λ_ h=>h.elim,λ_ _ h=>h⟩⟩
 have n:NA V0 (.o (.ptr 0 k 0 0)::es) vs:=by
  refine⟨ha.1,λj e v A hv=>?_⟩
  match j with
  | 0=>
   injection A with A
   subst A;have h1:=ha.2 0 (.o (Pe r)) v rfl hv;have h2:v=.pointer (some ⟨r,0,none⟩):=AG.val h1;subst h2;have:=AG.ptr (V:=V0) (id:=0) (k:=k) (i:=0) (j:=0) Y t;rw [q,oN] at this;exact this
  | j+1=>exact WM (ha.2 (j+1) e v A hv) (M e (co A))
 have g:=(h s).2 V0 vs _ m n;rw [f] at g;refine g.mono ?_;rintro e w' ⟨V1,v,x,σ',rfl,rfl,hi,L,rfl,G,s',rfl⟩
 have u:V.w.heap.size<=V1.w.heap.size:=by have a:V0.w.heap.size<=_:=hi.ext.size;rw [f] at a;exact a
 have d:∀b,b < V.w.heap.size->¬S.B b->V1.w.heap[b]? = V.w.heap[b]?:=λb hb G=>by
  have a:V1.w.heap[b]? = V0.w.heap[b]?:=hi.old b (by show b < V0.w.heap.size;rw [f];exact hb) λh=>h.elim (λh=>G ((R b).2 h)) λh=>h;rw [a,f]
 have l:∀b,V1.I b->S.J b\/V.w.heap.size<=b\/S.B b:=λb hb=>by
  rcases hi.iNew b hb with a|a|a|a
  ·exact .inl (by rw [<-e1];exact a)
  ·have a:V0.w.heap.size<=b:=a
   rw [f] at a;exact .inr (.inl a)
  ·exact .inr (.inr ((R b).2 a))
  ·exact a.elim
 have z:∀b,DE V1 (H.st s') b->V.w.heap.size<=b\/S.B b:=λb ⟨id,o,X,U,T⟩=>by
  rcases hi.live id o X U b T with a|a|a
  ·have a:V0.w.heap.size<=b:=a
   rw [f] at a;exact .inl a
  ·exact .inr ((R b).2 a)
  ·exact a.elim
 have e:Ext V { V with I:=λb=>V.I b\/V1.I b,w:=V1.w } := ⟨λ_ h=>.inl h,λb hb=>d b (c.iLt b hb) λh=>c.hid.bi b h hb,u,λ_ _=>rfl,λ_ _=>rfl,λ_ _=>Iff.rfl,jp _⟩
 refine⟨{ V with I:=λb=>V.I b\/V1.I b,w:=V1.w },v,x,[],rfl,rfl,⟨?_,?_,?_,λb hb N=>d b hb λh=>N (.inr h),λb hb=>?_,λb hb=>?_,e,Ev,λid o ho=>(by cases ho),λy p=>⟨.inl (c.tabs y p).1,?_⟩,⟨⟨DE V1 (H.st s'),V1.I⟩,⟨?_,λb hb=>.inr hb,λb hb hI=>?_,λb ⟨_,_,h,_⟩=>by cases h⟩,λb hb=>?_,λb hb=>?_⟩⟩,WM L F,rfl⟩
 ·have a:V1.w.os=V0.w.os:=hi.os
  rw [f] at a;exact a
 ·have a:V1.w.tape=V0.w.tape:=hi.tape
  rw [f] at a;exact a
 ·have a:V1.w.output=V0.w.output:=hi.output
  rw [f] at a;exact a
 ·rcases hb with hb|hb
  ·exact lw (c.iLt b hb) u
  ·exact hi.iLt b hb
 ·rcases hb with hb|hb
  ·exact .inl hb
  ·rcases l b hb with a|a|a
   ·exact .inl (c.hid.ji b a)
   ·exact .inr (.inl a)
   ·exact .inr (.inr (.inr a))
 ·exact(d _ (c.iLt _ (c.tabs y p).1) λh=>c.hid.bi _ h (c.tabs y p).1).trans (c.tabs y p).2
 ·exact⟨s',V1,rfl,rfl,G,hi.st,⟨by rw [G,<-e3];exact Y,by rw [<-q];exact hi.ext.ρ 0 qU,λh=>t ((hi.ext.nl 0 qU).1 h),λy p=>hi.ext.i _ (tb y p)⟩,λ_=>Iff.rfl⟩
 ·have Q:=hb
  obtain⟨id,o,X,U,T⟩:=hb
  rcases hI with hI|hI
  ·rcases z b Q with a|a
   ·have:=c.iLt b hI;omega
   ·exact c.hid.bi b a hI
  ·exact hi.st.free id o X U b T hI
 ·rcases l b hb with a|a|a
  ·exact .inl a
  ·exact .inr (.inl a)
  ·exact .inr (.inr (.inr a))
 ·rcases z b hb with a|a
  ·exact .inl a
  ·exact .inr (.inr a)
inductive CH (i r:Nat):C->C->Prop
 | AQ {c:C}:CH i r c c
 | ptr {k:Nat}:CH i r (.ptr i k 0 0) (Pe r)
 | mv {gg:FuncId} {k:Nat}:CH i r (.mv gg [.ptr i k 0 0]) (.mv gg [Pe r])
theorem CH.rel{V:View}{i r:Nat}(m:V.ρ i=r){c c':C}{v:Value}(h:CH i r c c')(a:AG V c v):AG V c' v:=by
 have e:∀ {k:Nat} {v:Value},AG V (.ptr i k 0 0) v->AG V (Pe r) v:=λ{k v} a=>by
  cases a with
  | ptr g f=>rw [oN,m];exact .d (.v rfl)
 cases h with
 | AQ=>exact a
 | ptr=>exact e a
 | mv =>
  cases a with
  | mv g f=>
   refine .mv (by rw [g];rfl) λj c v b l=>?_
   match j with
   | 0=>injection b with b;subst b;exact e (f 0 _ v rfl l)
   | j+1=>simp at b
inductive LH (i r:Nat):List C->List C->Prop
 | nil:LH i r [] []
 | cons {c c':C} {l l':List C}:CH i r c c'->LH i r l l'->LH i r (c::l) (c'::l')
theorem LH.len{i r:Nat}{l l':List C}(h:LH i r l l'):l'.length=l.length:=by
 induction h with
 | nil=>rfl
 | cons _ _ a=>simp [a]
theorem LH.get{i r:Nat}{l l':List C}(h:LH i r l l'):∀(j:Nat) c',l'[j]? = some c'->∃c,l[j]? = some c/\CH i r c c':=by
 induction h with
 | nil=>intro j c' h;simp at h
 | @cons f e cs cs' d _ b=>
  intro j c' a
  cases j with
  | zero=>simp at a;subst a;exact⟨f,rfl,d⟩
  | succ j=>exact b j c' (by simpa using a)
inductive EH (i r:Nat):E->E->Prop
 | AQ {e:E}:EH i r e e
 | o {c c':C}:CH i r c c'->EH i r (.o c) (.o c')
 | a {l l':List C}:LH i r l l'->EH i r (.a l) (.a l')
theorem EH.rel{V:View}{i r:Nat}(d:V.ρ i=r){e e':E}{v:Value}(h:EH i r e e')(b:Bl V e v):Bl V e' v:=by
 cases h with
 | AQ=>exact b
 | o h=>exact h.rel d b
 | a h=>
  obtain⟨vs,p,n,m⟩:=b;refine⟨vs,p,by rw [n,h.len],λj c v g f=>?_⟩;obtain⟨q,l,k⟩:=h.get j c g;exact k.rel d (m j q v l f)
def aw(i r:Nat)(f:Env):List (Nat×E)->Prop
 | []=>True
 | (t,e')::L=>(∃e,f t=some e/\EH i r e e')/\aw i r f L
theorem aw.get{i r:Nat}{f:Env}:∀ {L:List (Nat×E)},aw i r f L->∀t e',look L t=some e'->∃e,f t=some e/\EH i r e e'
 | [],_,t,e,h=>by cases h
 | (k,x)::L,a,t,e,h=>by
  rw [Az] at h;by_cases hk:k=t
  ·rw [if_pos hk] at h;injection h with h;subst h;subst hk;exact a.1
  ·rw [if_neg hk] at h;exact aw.get a.2 t e h
def jB(i r:Nat)(l:List Nat)(σ:Ab):Ab->Prop
 | []=>True
 | (id,o')::S=>(id∉l/\(look σ id=some o'\/∃T k rw rw',o'=.cells T k [rw']/\look σ id=some (.cells T k [rw])/\LH i r rw rw'))/\jB i r l σ S
theorem jB.get{i r:Nat}{l:List Nat}{σ:Ab}:∀ {S:Ab},jB i r l σ S->∀id o',look S id=some o'->id∉l/\(look σ id=some o'\/∃T k rw rw',o'=.cells T k [rw']/\look σ id=some (.cells T k [rw])/\LH i r rw rw')
 | [],_,id,o,h=>by cases h
 | (k,x)::L,a,id,o,h=>by
  rw [Az] at h;by_cases hk:k=id
  ·rw [if_pos hk] at h;injection h with h;subst h;subst hk;exact a.1
  ·rw [if_neg hk] at h;exact jB.get a.2 id o h
section
variable {P:Program}{tabs:List (Nat×Obj)}{Z:Ctx}{N:Nat}{σ:Ab}
theorem Inv.forget{TB:Bz}{J:Nat->Prop}{V:View}(h:Inv TB ⟨Z.V,Z.F,J⟩ V σ):Inv ⟨TB.tabs,none⟩ Z V σ:=
 ⟨h.os,h.tape,h.output,h.old,h.iLt,h.iNew,h.ext,h.st,h.live,h.tabs,⟨⟨λ_=>False,λ_=>False⟩,⟨λ_ h=>h,λ_ h=>h.elim,λ_ h=>h.elim,λ_ _ h=>h⟩,λ_ h=>h.elim,λ_ h=>h.elim⟩⟩
theorem Aj.lJ{c:Code}{Q:Exit->Env->Ab->Nat->Prop}{f:Env}{nx:Nat}(H:Hid)(s:H.S)(i:Nat)(l:List Nat)(L:Nat->List (Nat×E))(S:Nat->Ab)(G:(i::l).Nodup)(hln:(i::l).length=H.nx)(U:A8 (nm (i::l) nx) σ (H.st s))(h0:∃T k r rs,look (H.st s) 0=some (.cells T k (r::rs)))
 (hE:∀r,aw i r f (L r)) (M:∀r,jB i r (i::l) σ (S r)) (h:∀r Z',Z'.V=Z.V->Aj P ⟨tabs,some (H,r)⟩ Z' N c Q (look (L r)) (S r) nx):Aj P ⟨tabs,none⟩ Z N c Q f σ nx:=by
 intro V a Y;have hi:=Y.inv;have hnx:=Y.nx;subst hnx;have hrn:∀id,nm (i::l) V.nx id < V.nx->id < (i::l).length:=λid=>QV;have n:∀id o,look (H.st s) id=some o->id < (i::l).length:=λid o g=>hrn id (hi.st.lt _ _ (U.get id o g))
 have hmem:∀id o,look (H.st s) id=some o->nm (i::l) V.nx id∈i::l:=λid o g=>by
  rw [FX (n id o g)];exact nJ _
 have R:Hs (V.Be (nm (i::l) V.nx) (i::l).length) (H.st s):=by
  refine⟨λid o g=>CE.Be hrn (hi.st.obj _ _ (U.get id o g)),n,λid o g A b hb=>hi.st.free _ _ (U.get id o g) A b (Cr.1 hb),?_⟩;intro id id' o o' g w B A hnl' b hb K;refine hi.st.inj _ _ _ _ (U.get id o g) (U.get id' o' w) ?_ A hnl' b (Cr.1 hb) (Cr.1 K);have u:=n id o g;have h4:=n id' o' w;rw [FX u,FX h4];intro he;have hp:=nn.1 G
  rcases pF B with d|d
  ·exact hp _ _ u h4 d he
  ·exact hp _ _ h4 u d he.symm
 have hnl0:¬V.nl i:=by
  obtain⟨T,k,r,rs,d⟩:=h0
  rcases R.obj 0 _ d with ⟨_,p⟩|⟨p,_⟩
  ·cases p
  ·exact p
 have m:∀id o,look (S (V.ρ i)) id=some o->∃q,look σ id=some q/\∀b,EJ V id o b->EJ V id q b:=λid o g=>by
  obtain⟨_,d|⟨T,k,rw,rw',rfl,d,_⟩⟩:=(M (V.ρ i)).get id o g
  ·exact⟨o,d,λ_ h=>h⟩
  ·exact⟨_,d,λ_ h=>h⟩
 have hinv : Inv ⟨tabs,some (H,V.ρ i)⟩ ⟨Z.V,Z.F,λ_=>True⟩ V (S (V.ρ i)):=by
  refine⟨hi.os,hi.tape,hi.output,hi.old,hi.iLt,hi.iNew,hi.ext,⟨λid o g=>?_,λid o g=>?_,λid o g G b hb=>?_,λid id' o o' g w B G hn' b hb K=>?_⟩,λid o g G b hb=>?_,hi.tabs,⟨⟨DE (V.Be (nm (i::l) V.nx) (i::l).length) (H.st s),V.I⟩,⟨?_,λ_ h=>h,λb hb hI=>?_,λb hb hB=>?_⟩,λ_ _=>.inl True.intro,λb hb=>?_⟩⟩
  ·obtain⟨_,d|⟨T,k,rw,rw',rfl,d,p⟩⟩:=(M (V.ρ i)).get id o g
   ·exact hi.st.obj id o d
   ·rcases hi.st.obj id _ d with ⟨_,h7⟩|⟨X,cur,h2,u,h4,h7,h8,h9⟩
    ·cases h7
    ·refine .inr ⟨X,cur,h2,u,h4,h7,λx z=>?_,λi' x j c' J hj=>?_⟩
     ·simp at z;subst z;rw [p.len];exact h8 rw (by simp)
     ·have hi0:i'=0:=by have:=(ce.1 J).1;simp at this;omega
      subst hi0;simp at J;subst J;obtain⟨c,hc,hf⟩:=p.get j c' hj;obtain⟨v,h10,h11⟩:=h9 0 rw j c rfl hc;exact⟨v,h10,hf.rel rfl h11⟩
  ·obtain⟨q,d,_⟩:=m id o g;exact hi.st.lt id q d
  ·obtain⟨q,d,p⟩:=m id o g;exact hi.st.free id q d G b (p b hb)
  ·obtain⟨q,d,p⟩:=m id o g
   obtain⟨o0',h5',h6'⟩:=m id' o' w;exact hi.st.inj id id' q o0' d h5' B G hn' b (p b hb) (h6' b K)
  ·obtain⟨q,d,p⟩:=m id o g;exact hi.live id q d G b (p b hb)
  ·exact⟨s,V.Be (nm (i::l) V.nx) (i::l).length,rfl,rfl,hln,R,⟨Nat.succ_pos _,rfl,hnl0,λx z=>(hi.tabs x z).1⟩,λ_=>Iff.rfl⟩
  ·obtain⟨id,o,g1,g2,g3⟩:=hb;exact R.free id o g1 g2 b g3 hI
  ·obtain⟨id,o,g1,g2,g3⟩:=hB
   obtain⟨id',o',k1,k2,k3⟩:=hb;obtain⟨q,d,p⟩:=m id' o' k1;have hnm:=((M (V.ρ i)).get id' o' k1).1;exact hi.st.inj id' _ q _ d (U.get id o g1) (λe=>hnm (by rw [e];exact hmem id o g1)) k2 g2 b (p b k3) (Cr.1 g3)
  ·obtain⟨id,o,g1,g2,g3⟩:=hb;exact hi.live _ _ (U.get id o g1) g2 b (Cr.1 g3)
 have hst:Cq ⟨tabs,some (H,V.ρ i)⟩ ⟨Z.V,Z.F,λ_=>True⟩ N V (look (L (V.ρ i))) (S (V.ρ i)) V.nx a:=by
  refine⟨λt x z=>?_,λt x z=>?_,Y.size,hinv,rfl,Y.defers⟩
  ·obtain⟨y,X,h2⟩:=(hE (V.ρ i)).get t x z
   exact h2.rel rfl (Y.env t y X)
  ·obtain⟨y,X,_⟩:=(hE (V.ρ i)).get t x z
   exact Y.lt t y X
 refine wp_mono (h (V.ρ i) ⟨Z.V,Z.F,λ_=>True⟩ rfl V a hst) ?_;rintro e a' w' ⟨V',f',σ',X,h2,u⟩;exact⟨V',f',σ',X,h2,⟨u.env,u.lt,u.size,Inv.forget u.inv,u.nx,u.defers⟩⟩
end
end Go.Am
namespace Go.Am
open Go Go.Proofs
set_option maxHeartbeats 1000000
attribute [local irreducible] AX Cb Lex Bh Aj Spec
variable {TB:Bz}
def MX(t:CK)(ok:W->Prop)(m:Hh):Prop:=JS t ok m/\m.F[0]? = some (Cu t)
theorem YB[Dt TB]{t:CK}{ok:W->Prop}(ht:Bc t=true)(l:jn t ok){u:Hh}(k:MX t ok u){w:W}(v:ok w)(N:∀c∈w,0<=(c.toNat:Int) - 97/\(c.toNat:Int) - 97 < 6)(M:w.length<=1048576) :
 AR Tryz.prog TB 106 1 (NQ t u) 5 [.o (.ptr 0 14 0 0),eT w] (λx σ nx=>x=eB (LS t w)/\nx=5/\∃m,MX t ok m/\σ=NQ t m):=by
 have S:w.drop 0=w:=rfl;refine AR.Be (AR.QY (m:=1) (am rfl) Tryz.func106 rfl (by kernel_rfl) (am rfl) ?_);intro Z a;(repeat first|refine tA rfl ?_ |refine aU rfl ?_ |refine Aa ?_);refine aB ?_;refine aL (α:={x:Nat×Nat×Hh // x.1<=w.length/\MX t ok x.2.2/\∃F,x.2.2.F[x.2.1]? = some F/\HO t F (w.drop x.1)=LS t w/\F=GO t (Cu t) (w.take x.1)}) [0,1] [] rfl rfl (λs=>[(5,eI .i64 s.1.2.1),(6,eI .i64 s.1.1)]) (λs=>NQ t s.1.2.2) 5 (λs=>w.length - s.1.1) (⟨⟨0,0,u⟩,by simp,k,Cu t,k.2,rfl,rfl⟩) a rfl (by (simp[cX,zC,a,A3])) ?_;rintro⟨⟨i,n,m⟩,hi,h,F,r,e,g⟩;(try dsimp only[cA,cB]);have hi:i<=w.length:=hi;have h:MX t ok m:=h;have g:F=GO t (Cu t) (w.take i):=g;have r:m.F[n]? = some F:=r;have e:HO t F (w.drop i)=LS t w:=e;have I:=h.1.un n F r;have P:=(ce.1 I).1
 have Q:(m.un.map AS)[0+((n:Nat):Int).toNat]? = some (AS (GV t F)):=by rw [nf,i7];simp [I]
 by_cases z:i < w.length
 ·obtain⟨c,q⟩:=get_some z
  have G:w[((i:Nat):Int).toNat]? = some c:=by simpa using q
  have p:=N c (co q);have B:=Hb (TB:=TB) w i c G p;have T:=BA q
  have f:Eb t ((c.toNat:Int) - 97) F=GO t (Cu t) (w.take (i+1)):=by
   rw [d8,q,Pp,<-g];rfl
  obtain⟨L,j,y,A,R,H⟩:=aN (TB:=TB) ht l h.1 r p (.inr ⟨w.take (i+1),w.drop (i+1),by rw [nZ];exact v,f⟩);rw [T,HO] at e;generalize GV t F=b at *
  (repeat' first|(refine sA rfl ?_ ?_;first|exact tI|omega) |refine t4 rfl ‹_› rfl ?_ |refine s2 rfl λ_ d=>?_ |refine s3 rfl ?_ ?_<;>rintro rfl |refine aU rfl ?_ |refine Aa ?_|(refine aC rfl ?_ ?_<;>rintro⟨⟩));all_goals try contradiction
  all_goals first| (exfalso;(simp only[oZ] at *;omega);done)|skip
  ·have hb:b=false:=by simpa using d
   subst hb;refine aK ?_;refine aS (aB ?_);(repeat first|refine tA rfl ?_ |refine sP rfl (B) rfl ?_ |refine aU rfl ?_);(refine pW rfl ?_ rfl (by rfl);refine Ci [0,1,2,3,4] rfl rfl 1 (H) (by decide) ⟨rfl,by decide,by decide⟩ rfl (by simp[cX,zC,a,A3]) ?_;rintro U J K ⟨rfl,rfl,rfl⟩ _);(repeat first|refine tA rfl ?_);refine Aa ?_;(repeat first|(refine sA rfl ?_ ?_;first|exact tI|omega) |refine aU rfl ?_ |refine Aa ?_);refine⟨⟨⟨i+1,j,L⟩,by omega,⟨y,A 0 _ h.2⟩,_,R,by simpa using e,f⟩,by dsimp only;(omega),[0,5,6,7,8],?_⟩;simp[cX,zC,a,A3]
  ·have hb:b=true:=by simpa using d
   subst hb
   have e:LS t w=false:=by simpa using e.symm
   rw [e];refine aE ?_;(repeat first|(refine sA rfl ?_ ?_;first|exact tI|omega) |refine t4 rfl ‹_› rfl ?_ |refine s2 rfl λ_ d=>?_ |refine aU rfl ?_ |refine Aa ?_);refine aR ⟨_,rfl,[0,1,2,3,4],eB false,NQ t m,⟨by intro i hi;match i with|0=>rfl,by decide⟩,by subst_vars;rfl,by (simp[cX,zC,a,A3]),rfl,rfl,m,h,rfl⟩
 ·obtain rfl:i=w.length:=by omega
  rw [pB,HO] at e;rw [<-e]
  (repeat' first|(refine sA rfl ?_ ?_;first|exact tI|omega) |refine t4 rfl ‹_› rfl ?_ |refine s2 rfl λ_ d=>?_ |refine s3 rfl ?_ ?_<;>rintro rfl |refine aU rfl ?_ |refine Aa ?_|(refine aC rfl ?_ ?_<;>rintro⟨⟩));all_goals try contradiction
  all_goals first| (exfalso;(simp only[oZ] at *;omega);done)|skip
  refine aE ?_;(repeat first|(refine sA rfl ?_ ?_;first|exact tI|omega) |refine t4 rfl ‹_› rfl ?_ |refine s2 rfl λ_ d=>?_ |refine aU rfl ?_ |refine Aa ?_);refine aR ⟨_,rfl,[0,1,2,3,4],eB (!GV t F),NQ t m,⟨by intro i hi;match i with|0=>rfl,by decide⟩,by subst_vars;rfl,by (simp[cX,zC,a,A3]),rfl,rfl,m,h,rfl⟩
def PC(t:CK)(ok:W->Prop):Hid:=⟨{m:Hh // MX t ok m},λs=>NQ t s.1,5⟩
theorem dp{tabs:List (Nat×Obj)}[Dt ⟨tabs,none⟩]{t:CK}{ok:W->Prop}(ht:Bc t=true)(a:jn t ok){r:Nat}{w:W}(d:ok w)(f:∀c∈w,0<=(c.toNat:Int) - 97/\(c.toNat:Int) - 97 < 6)(b:w.length<=1048576) :
 Pure Tryz.prog ⟨tabs,some (PC t ok,r)⟩ 106 [.o (Pe r),eT w] (eB (LS t w)):=
 cC (H:=PC t ok) (k:=14) (es:=[eT w]) ⟨_,Tryz.func106,by kernel_rfl,rfl⟩ (by intro e g;simp at g;subst g;rfl) rfl λs=>
  ⟨(YB (TB:=⟨tabs,none⟩) ht a s.2 d f b).1,λV vs S h ha=>((YB (TB:=⟨tabs,none⟩) ht a s.2 d f b).2 V vs S h ha).mono λe w' ⟨V',v,x,σ',y,u,q,p,n,l,m,j,i⟩=>⟨V',v,x,σ',y,u,q,p,n,l,⟨m,j⟩,i⟩⟩
section
variable {P:Program}{Z:Ctx}{d:Option Tmp}{ty:TypeId}{pos:String}{af:Array Edge}{g:Option (Nat×Bool)}{f:Env}{σ:Ab}{nx:Nat}
variable {K:E->Ab->Nat->Prop}
theorem ZA{t:TypeId}{z:List Value}{fl:List (Nat×Nat)}{parts:Array (Nat×Operand)}{es:List E}{qs:List (Nat×List C)}[U:BM P t z][hf:Ez P t fl](p k e q k' e' s k'' e'':Nat)(T:z[p]? = some (.slice none 0 0))(n:z[q]? = some (.slice none 0 0))(l:z[s]? = some (.slice none 0 0))(hpq:p≠q/\p≠s/\q≠s)(N:JP f (parts.toList.map (·.2))=some es)(Y:FJ fl parts.toList es=some qs)
 (G:z.all PM=true) (H:(qs.all λx=>Nat.ble (x.1+x.2.length) z.length)=true) (hK:K (.a (BN qs ((((z.map zC).set p (.arr nx k 0 0)).set q (.arr (nx+1) k' 0 0)).set s (.arr (nx+2) k'' 0 0)))) ((nx+2,.cells e'' k'' [])::(nx+1,.cells e' k' [])::(nx,.cells e k [])::σ) (nx+3)):Cb P TB Z ⟨d,.build t parts,ty,pos,af,g⟩ f σ nx K:=
 DA λV ρ h1 h2 h3=>by
  subst h3;obtain⟨i,zv,hi,A,m⟩:=Hp U.out;obtain⟨L,S⟩:=h2.alloc (c:=0) (nl:=True) (w:=V.w) (ob:=.cells e k []) rfl rfl rfl rfl (jp _) (λ_ _=>rfl) (.inl ⟨by simp [Ax],rfl⟩);obtain⟨J,R⟩:=L.alloc (c:=0) (nl:=True) (w:=V.w) (ob:=.cells e' k' []) rfl rfl rfl rfl (jp _) (λ_ _=>rfl) (.inl ⟨by simp [Ax],rfl⟩);obtain⟨I,Q⟩:=J.alloc (c:=0) (nl:=True) (w:=V.w) (ob:=.cells e'' k'' []) rfl rfl rfl rfl (jp _) (λ_ _=>rfl) (.inl ⟨by simp [Ax],rfl⟩);have y:=(S.trans R).trans Q;have M:=Dk (V:=Ax (Ax (Ax V V.w.heap.size 0 True V.w) V.w.heap.size 0 True V.w) V.w.heap.size 0 True V.w) (ρ:=ρ) parts.toList es qs (λx F e he=>(h1.get (by simp only [Op.operands];simpa using F) he).ext y) N Y
  have B : C8 (Ax (Ax (Ax V V.w.heap.size 0 True V.w) V.w.heap.size 0 True V.w) V.w.heap.size 0 True V.w) ((((z.map zC).set p (.arr V.nx k 0 0)).set q (.arr (V.nx+1) k' 0 0)).set s (.arr (V.nx+2) k'' 0 0)) zv.cells:=by
   refine⟨by rw [nF,nF,nF,gt,<-m];simp,λj c v h X=>?_⟩
   have b:z[j]? = some v:=by rw [<-m,n8];exact X
   by_cases o:s=j
   ·subst o
    rw [l] at b
    injection b with b
    subst b;rw [nS (by rw [nF,nF,gt];exact(ce.1 l).1)] at h
    injection h with h
    subst h;exact AG.nil (by simp [Ax]) (by simp [Ax])
   ·rw [nT o] at h
    by_cases r:q=j
    ·subst r
     rw [n] at b
     injection b with b
     subst b;rw [nS (by rw [nF,gt];exact(ce.1 n).1)] at h
     injection h with h
     subst h;exact AG.nil (by simp [Ax]) (by simp [Ax])
    ·rw [nT r] at h
     by_cases u:p=j
     ·subst u
      rw [T] at b
      injection b with b
      subst b;rw [nS (by rw [gt];exact(ce.1 T).1)] at h
      injection h with h
      subst h;exact AG.nil (by simp [Ax];omega) (by simp [Ax])
     ·rw [nT u,i9,b] at h
      injection h with h
      subst h;exact KC (f9.1 G v (co b))
  obtain⟨cells,h4,h5⟩:=GD _ _ _ _ M B (λx F=>by rw [nF,nF,nF,gt];exact IW _ _ H x F);have hb:=run_build (P:=P) (ρ:=ρ) (parts:=parts) (V:=V) hi A hf.out h4;refine⟨.agg cells,_,_,_,?_,y,I,(show Bl _ (.a _) _ from ⟨cells,rfl,h5⟩),hK⟩
  show ((do let v <-Instr.build t (parts.map λ(i,x)=>(i,ρ x));pure (Go.Next.value v):Sem Go.Next)).run P V.w=_
  simp only [nc,hb,kw];rfl
end
theorem I6{a b:Int}(ha:A7 a=true)(hb:A7 b=true):Ac (Ha .i64 a b)=(Ac a).filter λl=>!AV b l.toNat:=by
 have key:((List.range 64).all λx=>(List.range 64).all λy=>decide (Ac (Ha .i64 (x:Nat) (y:Nat))=(Ac (x:Nat)).filter λl=>!AV (y:Nat) l.toNat))=true:=by kernel_rfl
 unfold A7 at ha hb;simp only [decide_eq_true_eq] at ha hb;have d:=f9.1 key a.toNat (nk.2 (by omega));have c:=f9.1 d b.toNat (nk.2 (by omega));rw [pX ha.1,pX hb.1] at c;exact of_decide_eq_true c
abbrev LK(t:CK):List D:=[iD t.s.al,iD t.s.st,Eo t.s.es,iD t.q.al,CW t.q.nx,E4 t.q.ac,iD t.al]
abbrev PZ(t:CK):E:=.a ((LK t).map .d)
theorem TD(t:CK)(ok:W->Prop):JS t ok ⟨[],[],[]⟩:=⟨rfl,rfl,lm,by simp,by simp,by simp,by simp⟩
theorem Sn[Dt TB]{t:CK}(ht:Bc t=true)(ok:W->Prop):∃m,MX t ok m/\AR Tryz.prog TB 105 0 [] 0 [PZ t] (λx σ nx=>x=.o (.ptr 0 14 0 0)/\σ=NQ t m/\nx=5):=by
 have y:AU t.s=true:=by unfold Bc at ht;simp only [d4] at ht;exact ht.1
 have n:A7 t.al=true:=by unfold Bc at ht;simp only [d4] at ht;exact ht.2.2
 have p:=AN y;have A:=LX ht;obtain⟨j,k,c,f⟩:=aM (TB:=TB) ht (TD t ok) (by simp) (Gq ht)
 have d:j=JN t ⟨[],[],[]⟩ (Cu t):=by
  rcases c with ⟨_,w⟩|⟨w,_,_⟩
  ·simp at w
  ·exact w
 have e:=Tz (TB:=TB) ht ⟨[],[],[]⟩ A;refine⟨j,⟨by rw [d];exact Xm (TD t ok) .start (.inl rfl) (by simp),by rw [d];rfl⟩,?_⟩;have u:=O1 (TB:=TB) t.s y;have l:=Fp (TB:=TB) t.q (Cw ht);have b:=CR (TB:=TB) (Ha .i64 t.s.al t.al);rw [I6 p.1 n] at b;have b:Pure Tryz.prog TB 75 [eI .i64 (Ha .i64 t.s.al t.al)] (Ak (Cs t)):=b;rw [show RP t IC=Cu t from rfl] at e;have v:mapA .u16 (Qf [])=[]:=rfl;have r:He IC=[1,0,0,0,0,0,0,0,0,0,0,0]:=rfl;refine AR.Be (AR.QY (m:=0) (am rfl) Tryz.func105 rfl (by kernel_rfl) (am rfl) ?_);intro Z a;(repeat first|refine tA rfl ?_ |refine aU rfl ?_ |refine Aa ?_);refine rG (JU [(14,1),(15,1),(16,1)]) (by kernel_rfl) ?_;(repeat first|refine tX rfl ?_ |refine sP rfl (u) rfl ?_|refine sP rfl (l) rfl ?_|refine sP rfl (b) rfl ?_|(refine Ag rfl ?_;refine gA rfl ?_;first| refine gS (λ_ _=>cF rfl rfl rfl) ?_));(refine pW rfl ?_ rfl (by rfl);refine QT ?_);(refine pW rfl ?_ rfl (by rfl);refine ZA 10 12 199 12 6 121 13 1 4 rfl rfl rfl (by decide) rfl rfl (by rfl) (by rfl) ?_);(refine pW rfl ?_ rfl (by rfl);refine C5 rfl rfl ?_);(repeat first|refine tA rfl ?_);refine Aa ?_;refine Aj.Ay [] [] rfl rfl [(3,.o (.ptr 0 14 0 0))] [(0,.cells 195 14 [dn t (.arr 1 12 0 0) (.mp 2) (.arr 3 6 0 0) (.arr 4 1 0 0)]),(1,.cells 199 12 []),(2,.mp []),(3,.cells 121 6 []),(4,.cells 4 1 [])] [4,1,0,2,3] (rl a rfl) (by (simp[cX,zC,a,A3])) ?_;(try dsimp only[cA,cB]);(repeat first|refine tA rfl ?_|(refine Ag rfl ?_;refine gA rfl ?_;first| refine gS (λ_ _=>AF rfl rfl (by rfl) (by rfl)) ?_) |refine aU rfl ?_);(refine pW rfl ?_ rfl (by rfl);refine Ai [0,1,2,3,4] rfl rfl (e) ⟨rfl,by decide,by decide⟩ rfl (by simp[cX,zC,a,A3,r,v]) ?_;rintro z g h ⟨rfl,rfl,rfl⟩ _);(refine pW rfl ?_ rfl (by rfl);refine Ci [0,1,2,3,4] rfl rfl 1 (f) (by decide) ⟨rfl,by decide,by decide⟩ rfl (by simp[cX,zC,a,A3]) ?_;rintro z g h ⟨rfl,rfl,rfl⟩ _);refine Aa ?_;(repeat first|refine tA rfl ?_ |refine aU rfl ?_ |refine Aa ?_);refine aR ⟨_,rfl,[0,5,6,7,8],.o (.ptr 0 14 0 0),NQ t j,⟨by intro i hi;omega,by decide⟩,rfl,by (simp[cX,zC,a,A3]),rfl,rfl,rfl⟩
def KK(b:List UInt8)(p m:Int)(P:Sys->Prop)(x:E)(σ:Ab)(nx:Nat):Prop:=∃(p':Int) (s:Sys),(p<=p'/\p'<=p+m)/\P s/\x=Bv s/\σ=[(0,Bn b p')]/\nx=1
def lv(n:Int)(s:Sys):Prop:=s.st=n/\(∀e∈s.es,0<=e.t/\e.t < n)/\s.es.length<=400
theorem I0(b:List UInt8)(hb:b.length<=2000)(p:Int)(h0:0<=p/\p < 900000000)(al n few:Int)(hn:0<=n/\n<=8):AR Tryz.prog TB 198 1 [(0,Bn b p)] 1 [.o (.ptr 0 2 0 0),eI .i64 al,eI .i64 n,eI .i64 few] (KK b p 400 (lv n)):=by
 have V:(Ac al).length<=6:=AK al 6;refine AR.Be (AR.QY (m:=1) (am rfl) Tryz.func198 rfl (by kernel_rfl) (am rfl) ?_);intro Z a;(repeat first|refine tA rfl ?_ |refine aU rfl ?_ |refine Aa ?_);(refine pW rfl ?_ rfl (by rfl);refine I8 2 3 126 rfl rfl rfl (by rfl) (by rfl) ?_);(repeat first|refine tA rfl ?_ |refine sP rfl (Ch al) rfl ?_ |refine aU rfl ?_ |refine Aa ?_);refine aB ?_;refine aL (α:={s:Nat×Int×List DW // (s.1:Int)<=n/\(p<=s.2.1/\s.2.1<=p+48*s.1)/\(s.2.2.length:Int)<=s.2.1 - p/\∀e∈s.2.2,0<=e.t/\e.t < n}) [0,2,3,8,9,10] [1] rfl rfl (λs=>[(11,eI .i64 s.1.1)]) (λs=>[(0,Bn b s.1.2.1),(2,.cells 126 3 (s.1.2.2.map A9)),(3,.cells 25 3 [[.d (iD al),.d (iD n),.arr 2 3 0 s.1.2.2.length]])]) 4 (λs=>n.toNat - s.1.1) (⟨⟨0,p,[]⟩,by simp;omega⟩) a rfl (by (simp[cX,zC,a])) ?_;rintro⟨⟨k,q,es⟩,hk,P,F,K⟩;(try dsimp only[cA,cB]);have hk:(k:Int)<=n:=hk;have P:p<=q/\q<=p+48*k:=P;have F:(es.length:Int)<=q - p:=F;(repeat first|refine tM rfl ?_ |refine s2 rfl λ_ f=>?_ |refine aU rfl ?_ |refine Aa ?_)
 ((refine aC rfl ?_ ?_<;>rintro⟨⟩);all_goals try (simp at f;done))
 ·have U : (k:Int) < n:=by (simp only[oZ] at *;omega)
  refine aK ?_;refine aS (aB ?_);(repeat first|refine tX rfl ?_ |refine aU rfl ?_ |refine Aa ?_);refine aB ?_;refine aL (α:={s:Nat×Int×List DW // s.1<=(Ac al).length/\(q<=s.2.1/\s.2.1<=q+8*s.1)/\(s.2.2.length:Int)<=s.2.1 - p/\∀e∈s.2.2,0<=e.t/\e.t < n}) [0,2,3,8,9,10,11] [1] rfl rfl (λs=>[(12,eI .i64 s.1.1)]) (λs=>[(0,Bn b s.1.2.1),(2,.cells 126 3 (s.1.2.2.map A9)),(3,.cells 25 3 [[.d (iD al),.d (iD n),.arr 2 3 0 s.1.2.2.length]])]) 4 (λs=>(Ac al).length - s.1.1) (⟨⟨0,q,es⟩,by simp,by simp,F,K⟩) a rfl (by (simp[cX,zC,a])) ?_;rintro⟨⟨i,u,z⟩,hi,M,g,y⟩;(try dsimp only[cA,cB]);have hi:i<=(Ac al).length:=hi;have M:q<=u/\u<=q+8*i:=M;have g:(z.length:Int)<=u - p:=g;clear K F;(repeat first|refine sN rfl ?_ |refine tM rfl ?_ |refine s2 rfl λ_ f=>?_ |refine aU rfl ?_ |refine Aa ?_)
  ((refine aC rfl ?_ ?_<;>rintro⟨⟩);all_goals try (simp at f;done))
  ·have B:i < (Ac al).length:=by (simp only[oZ] at *;omega)
   obtain⟨l,G⟩:=get_some B
   have X:((Ac al).map Bq)[((i:Nat):Int).toNat]? = some (Bq l):=by rw [i7];simp [G]
   refine aK ?_;refine aS (aB ?_);(repeat first|refine tX rfl ?_ |refine aU rfl ?_ |refine Aa ?_);refine aB ?_;refine aL (α:={s:Nat×Int×List DW // (s.1:Int)<=n/\(u<=s.2.1/\s.2.1<=u+s.1)/\(s.2.2.length:Int)<=s.2.1 - p/\∀e∈s.2.2,0<=e.t/\e.t < n}) [0,2,3,8,9,10,11,12] [1] rfl rfl (λs=>[(13,eI .i64 s.1.1)]) (λs=>[(0,Bn b s.1.2.1),(2,.cells 126 3 (s.1.2.2.map A9)),(3,.cells 25 3 [[.d (iD al),.d (iD n),.arr 2 3 0 s.1.2.2.length]])]) 4 (λs=>n.toNat - s.1.1) (⟨⟨0,u,z⟩,by simp;omega,by simp,g,y⟩) a rfl (by (simp[cX,zC,a])) ?_;rintro⟨⟨j,v,h⟩,Q,L,w,x⟩;(try dsimp only[cA,cB]);have Q:(j:Int)<=n:=Q;have L:u<=v/\v<=u+j:=L;have w:(h.length:Int)<=v - p:=w;clear y g;(repeat first|refine tM rfl ?_ |refine s2 rfl λ_ f=>?_ |refine aU rfl ?_ |refine Aa ?_)
   ((refine aC rfl ?_ ?_<;>rintro⟨⟩);all_goals try (simp at f;done))
   ·obtain⟨c,c1,c2,T⟩:=Bm (TB:=TB) b hb v few (by omega)
    have I:(j:Int) < n:=by (simp only[oZ] at *;omega)
    refine aK ?_;refine aS (aB ?_);(repeat first|refine tA rfl ?_ |refine aU rfl ?_);(refine pW rfl ?_ rfl (by rfl);refine Ai [0] rfl rfl (T) ⟨rfl,by decide,by decide⟩ rfl (by simp[cX,zC,a]) ?_;rintro Y R S ⟨rfl,rfl,rfl⟩ _);(repeat first|refine s2 rfl λ_ f=>?_ |refine Aa ?_);(refine aC rfl ?_ ?_<;>rintro⟨⟩)
    ·refine rG (JU [(1,13),(10,1),(12,1)]) (by kernel_rfl) ?_
     (repeat first|refine tA rfl ?_ |(refine s4 rfl ‹_› rfl ?_ ?_;omega)|(refine Ag rfl ?_;refine gA rfl ?_;first| refine gS (λ_ _=>AF rfl rfl (by rfl) (by rfl)) ?_));(refine pW rfl ?_ rfl (by rfl);refine Al rfl rfl rfl (by first| (simp;done)|(simp;(omega))) rfl (by intro r N;simp at N;subst N;rfl) (by rfl) (am rfl) (by simp;omega) ?_);(repeat first|(refine sA rfl ?_ ?_;first|exact tI|omega) |refine aU rfl ?_ |refine Aa ?_)
     have J:∀e∈h++[(⟨k,l,j⟩:DW)],0<=e.t/\e.t < n:=λe A=>by
      rcases em.1 A with A|A
      ·exact x e A
      ·simp at A;subst A;exact⟨by dsimp only;omega,I⟩
     refine⟨⟨⟨j+1,v+1,h++[⟨k,l,j⟩]⟩,by dsimp only;omega,by dsimp only;omega,by simp;omega,J⟩,by dsimp only;(omega),[0,1,4,3],?_⟩;(simp[cX,zC,a,cN]<;>rfl)
    ·refine aK ?_
     (repeat first|(refine sA rfl ?_ ?_;first|exact tI|omega) |refine aU rfl ?_ |refine Aa ?_);refine⟨⟨⟨j+1,v+1,h⟩,by dsimp only;omega,by dsimp only;omega,by dsimp only;omega,x⟩,by dsimp only;(omega),[0,1,2,3],?_⟩;(simp[cX,zC,a,cN]<;>rfl)
   ·have H:(j:Int)=n:=by (simp only[oZ] at *;omega)
    refine aE ?_;(repeat first|(refine sA rfl ?_ ?_;first|exact tI|omega) |refine aU rfl ?_ |refine Aa ?_);refine⟨⟨⟨i+1,v,h⟩,by dsimp only;omega,by dsimp only;omega,w,x⟩,by dsimp only;(omega),[0,1,2,3],?_⟩;(simp[cX,zC,a,cN]<;>rfl)
  ·refine aE ?_
   have B:i=(Ac al).length:=by (simp only[oZ] at *;omega)
   (repeat first|(refine sA rfl ?_ ?_;first|exact tI|omega) |refine aU rfl ?_ |refine Aa ?_);refine⟨⟨⟨k+1,u,z⟩,by dsimp only;omega,by dsimp only;omega,g,y⟩,by dsimp only;(omega),[0,1,2,3],?_⟩;(simp[cX,zC,a,cN]<;>rfl)
 ·have H:(k:Int)=n:=by (simp only[oZ] at *;omega)
  refine aE ?_;(repeat first|refine tA rfl ?_ |refine aU rfl ?_ |refine Aa ?_);refine Aj.AE [1,2] [(8,.o (.ip [iD al,iD n,Eo es]))] ⟨⟨_,rfl,.inr (.o (.box rfl (.cons .d (.cons .d (.cons (.full rfl (by simp [d5]) (by simp)) .nil)))))⟩,trivial⟩ ?_;refine aR ⟨_,rfl,[0],Bv ⟨al,n,es⟩,[(0,Bn b q)],⟨by intro i hi;match i with|0=>rfl,by decide⟩,rfl,by (simp[cX,zC,a,cN]),q,⟨al,n,es⟩,by omega,⟨rfl,K,by dsimp only;omega⟩,rfl,rfl,rfl⟩
def l9(m:Int)(s:Sys):Prop:=(∀e∈s.es,0<=e.t/\e.t < m)/\s.es.length<=400
theorem lv.le{n m:Int}{s:Sys}(h:lv n s)(b:n<=m):l9 m s:=⟨λe a=>by have:=h.2.1 e a;omega,h.2.2⟩
theorem OT(b:List UInt8)(hb:b.length<=2000)(p:Int)(x:0<=p/\p < 800000000):Spec Tryz.prog TB 139 [(0,Bn b p)] 1 [.o (.ptr 0 2 0 0)] (KK b p 403 (l9 5)):=by
 obtain⟨j,v,r⟩:=Db (TB:=TB) b hb p (by omega) [3,6,7,5,2] (by decide) (by decide);obtain⟨g,l,n⟩:=Db (TB:=TB) b hb (p+1) (by omega) [2,3,1,3] (by decide) (by decide);obtain⟨h,u,m⟩:=Db (TB:=TB) b hb (p+1+1) (by omega) [2,3,4] (by decide) (by decide)
 have k:1<=g/\g<=3:=by simp at l;omega
 have f:=I0 (TB:=TB) b hb (p+1+1+1) (by omega) j g h (by omega);refine eR Tryz.func139 rfl (by kernel_rfl) rfl ?_;intro Z a;(repeat first|refine tA rfl ?_ |refine aU rfl ?_ |refine Aa ?_);(refine pW rfl ?_ rfl (by rfl);refine Ai [0] rfl rfl (r) ⟨rfl,by decide,by decide⟩ rfl (by simp[cX,zC,a]) ?_;rintro e c d ⟨rfl,rfl,rfl⟩ _);(repeat first|refine tA rfl ?_);(refine pW rfl ?_ rfl (by rfl);refine Ai [0] rfl rfl (n) ⟨rfl,by decide,by decide⟩ rfl (by simp[cX,zC,a]) ?_;rintro e c d ⟨rfl,rfl,rfl⟩ _);(repeat first|refine tA rfl ?_);(refine pW rfl ?_ rfl (by rfl);refine Ai [0] rfl rfl (m) ⟨rfl,by decide,by decide⟩ rfl (by simp[cX,zC,a]) ?_;rintro e c d ⟨rfl,rfl,rfl⟩ _);(refine pW rfl ?_ rfl (by rfl);refine Ci [0] rfl rfl 1 (f) (by decide) ⟨rfl,by decide,by decide⟩ rfl (by simp[cX,zC,a,cN]) ?_;rintro e c d ⟨q,s,w,t,rfl,rfl,rfl⟩ _);(repeat first|refine tA rfl ?_ |refine Aa ?_);refine aR ⟨_,rfl,[0],Bv s,[(0,Bn b q)],⟨by intro i hi;match i with|0=>rfl,by decide⟩,rfl,by (simp[cX,zC,a,cN]),q,s,by omega,t.le (by omega),rfl,rfl,rfl⟩
theorem Zn(b:List UInt8)(hb:b.length<=2000)(p:Int)(j:0<=p/\p < 800000000):∃n:Int,Spec Tryz.prog TB 201 [(0,Bn b p)] 1 [.o (.ptr 0 2 0 0)] (λx σ nx=>x=eI .i64 n/\σ=[(0,Bn b (p+1))]/\nx=1):=by
 obtain⟨e,h,f⟩:=Db (TB:=TB) b hb p (by omega) [3,7,1,5,0,6,63,2,21] (by decide) (by decide);refine⟨e,?_⟩;refine eR Tryz.func201 rfl (by kernel_rfl) rfl ?_;intro Z a;(repeat first|refine tA rfl ?_ |refine aU rfl ?_ |refine Aa ?_);(refine pW rfl ?_ rfl (by rfl);refine Ai [0] rfl rfl (f) ⟨rfl,by decide,by decide⟩ rfl (by simp[cX,zC,a]) ?_;rintro g c d ⟨rfl,rfl,rfl⟩ _);(repeat first|refine tA rfl ?_ |refine Aa ?_);refine aR ⟨_,rfl,?_⟩;refine⟨[0],_,[(0,Bn b (p+1))],⟨by first|(simp;done)|decide|(intro i hi;match i with|0=>rfl),by decide⟩,rfl,by (simp[cX,zC,a]),rfl,rfl,rfl⟩
theorem P9(b:List UInt8)(hb:b.length<=2000)(p:Int)(Q:0<=p/\p < 700000000)(al:Int):Spec Tryz.prog TB 141 [(0,Bn b p)] 1 [.o (.ptr 0 2 0 0),eI .i64 al] (KF b p 100 (λa=>LY 6 a)):=by
 obtain⟨v,P,I⟩:=Db (TB:=TB) b hb p (by omega) [63,63,5,3,6] (by decide) (by decide);obtain⟨c,S,R,K⟩:=Bm (TB:=TB) b hb (p+1) 8 (by omega);obtain⟨H,J⟩:=Zn (TB:=TB) b hb (p+1+1) (by omega);refine eR Tryz.func141 rfl (by kernel_rfl) rfl ?_;intro Z e;(repeat first|refine tA rfl ?_ |refine aU rfl ?_ |refine Aa ?_);(refine pW rfl ?_ rfl (by rfl);refine Ai [0] rfl rfl (I) ⟨rfl,by decide,by decide⟩ rfl (by simp[cX,zC,e]) ?_;rintro h f g ⟨rfl,rfl,rfl⟩ _);(repeat first|refine tA rfl ?_ |refine aU rfl ?_ |refine Aa ?_);(refine pW rfl ?_ rfl (by rfl);refine Ai [0] rfl rfl (K) ⟨rfl,by decide,by decide⟩ rfl (by simp[cX,zC,e]) ?_;rintro h f g ⟨rfl,rfl,rfl⟩ _);(repeat first|refine s2 rfl λ_ u=>?_ |refine Aa ?_);(refine aC rfl ?_ ?_<;>rintro⟨⟩)
 ·(repeat first|refine tA rfl ?_ |refine aU rfl ?_)
  (refine pW rfl ?_ rfl (by rfl);refine Ai [0] rfl rfl (J) ⟨rfl,by decide,by decide⟩ rfl (by simp[cX,zC,e]) ?_;rintro h f g ⟨rfl,rfl,rfl⟩ _);(repeat first|refine tA rfl ?_ |refine aU rfl ?_ |refine Aa ?_);obtain⟨N,M,L,m⟩:=Bm (TB:=TB) b hb (p+1+1+1) 4 (by omega);obtain⟨k,x,y⟩:=Db (TB:=TB) b hb (p+1+1+1+1) (by omega) [3,2,4,1] (by decide) (by decide)
  have w:1<=k/\k<=4:=by simp at x;omega
  have G:=Mz (TB:=TB) b hb (p+1+1+1+1+1) (by omega) (H) k (by omega);have F:=QM (TB:=TB) b hb (p+1+1+1+1) (by omega) (H)
  obtain⟨j,rfl⟩:∃j,j=H:=⟨_,rfl⟩
  (refine pW rfl ?_ rfl (by rfl);refine Ai [0] rfl rfl (m) ⟨rfl,by decide,by decide⟩ rfl (by simp[cX,zC,e]) ?_;rintro h f g ⟨rfl,rfl,rfl⟩ _);(repeat first|refine s2 rfl λ_ u=>?_ |refine Aa ?_);(refine aC rfl ?_ ?_<;>rintro⟨⟩)
  ·(repeat first|refine tA rfl ?_ |refine aU rfl ?_)
   (refine pW rfl ?_ rfl (by rfl);refine Ai [0] rfl rfl (y) ⟨rfl,by decide,by decide⟩ rfl (by simp[cX,zC,e]) ?_;rintro h f g ⟨rfl,rfl,rfl⟩ _);(refine pW rfl ?_ rfl (by rfl);refine Ci [0] rfl rfl 1 (G) (by decide) ⟨rfl,by decide,by decide⟩ rfl (by simp[cX,zC,e,cN]) ?_;rintro h f g ⟨q,l,ac,A,B,n,z,rfl,rfl,rfl⟩ _);(repeat first|refine tA rfl ?_ |refine Aa ?_);refine Aj.Ay [4] [] rfl rfl [] [(0,Bn b q),(1,.cells 29 3 [[.d (iD j),.arr 2 1 0 l.length,.arr 3 1 0 ac.length]]),(2,.cells 62 1 (AA l)),(3,.cells 4 1 (ac.map AS)),(4,.sld 3 (sI l))] [0,1,2,3,4] (rl e rfl) (by (simp[cX,zC,e,cN])) ?_;(try dsimp only[cA,cB]);refine Aj.AE [1,2,3,4] [(4,.o (.ip (AL ⟨j,l.map (·.2),ac⟩)))] ⟨⟨_,rfl,.inr (.o (.box rfl (.cons .d (.cons (.MB (s:=4) rfl rfl) (.cons (.full rfl (by simp [d5]) (by simp)) .nil)))))⟩,trivial⟩ ?_;refine aR ⟨_,rfl,[0],Bi ⟨j,l.map (·.2),ac⟩,[(0,Bn b q)],⟨by intro i hi;match i with|0=>rfl,by decide⟩,rfl,by (simp[cX,zC,e,cN]),q,_,by omega,Sr B n z (by omega) (by omega),rfl,rfl,rfl⟩
  ·refine aK ?_
   (repeat first|refine tA rfl ?_ |refine aU rfl ?_);(refine pW rfl ?_ rfl (by rfl);refine Ai [0] rfl rfl (F) ⟨rfl,by decide,by decide⟩ rfl (by simp[cX,zC,e,cN]) ?_;rintro h f g ⟨q,t,A,r,rfl,rfl,rfl⟩ _);(repeat first|refine tA rfl ?_ |refine Aa ?_);refine aR ⟨_,rfl,[0],Bi t,[(0,Bn b q)],⟨by intro i hi;match i with|0=>rfl,by decide⟩,rfl,by (simp[cX,zC,e,cN]),q,t,by omega,r.2,rfl,rfl,rfl⟩
 ·refine aK ?_
  (repeat first|refine tA rfl ?_ |refine aU rfl ?_);obtain⟨N,M,L,m⟩:=Bm (TB:=TB) b hb (p+1+1) 4 (by omega);obtain⟨k,x,y⟩:=Db (TB:=TB) b hb (p+1+1+1) (by omega) [3,2,4,1] (by decide) (by decide)
  have w:1<=k/\k<=4:=by simp at x;omega
  have G:=Mz (TB:=TB) b hb (p+1+1+1+1) (by omega) (FW .i64 al v) k (by omega);have F:=QM (TB:=TB) b hb (p+1+1+1) (by omega) (FW .i64 al v);generalize FW .i64 al v=j at *;(refine pW rfl ?_ rfl (by rfl);refine Ai [0] rfl rfl (m) ⟨rfl,by decide,by decide⟩ rfl (by simp[cX,zC,e]) ?_;rintro h f g ⟨rfl,rfl,rfl⟩ _);(repeat first|refine s2 rfl λ_ u=>?_ |refine Aa ?_);(refine aC rfl ?_ ?_<;>rintro⟨⟩)
  ·(repeat first|refine tA rfl ?_ |refine aU rfl ?_)
   (refine pW rfl ?_ rfl (by rfl);refine Ai [0] rfl rfl (y) ⟨rfl,by decide,by decide⟩ rfl (by simp[cX,zC,e]) ?_;rintro h f g ⟨rfl,rfl,rfl⟩ _);(refine pW rfl ?_ rfl (by rfl);refine Ci [0] rfl rfl 1 (G) (by decide) ⟨rfl,by decide,by decide⟩ rfl (by simp[cX,zC,e,cN]) ?_;rintro h f g ⟨q,l,ac,A,B,n,z,rfl,rfl,rfl⟩ _);(repeat first|refine tA rfl ?_ |refine Aa ?_);refine Aj.Ay [4] [] rfl rfl [] [(0,Bn b q),(1,.cells 29 3 [[.d (iD j),.arr 2 1 0 l.length,.arr 3 1 0 ac.length]]),(2,.cells 62 1 (AA l)),(3,.cells 4 1 (ac.map AS)),(4,.sld 3 (sI l))] [0,1,2,3,4] (rl e rfl) (by (simp[cX,zC,e,cN])) ?_;(try dsimp only[cA,cB]);refine Aj.AE [1,2,3,4] [(4,.o (.ip (AL ⟨j,l.map (·.2),ac⟩)))] ⟨⟨_,rfl,.inr (.o (.box rfl (.cons .d (.cons (.MB (s:=4) rfl rfl) (.cons (.full rfl (by simp [d5]) (by simp)) .nil)))))⟩,trivial⟩ ?_;refine aR ⟨_,rfl,[0],Bi ⟨j,l.map (·.2),ac⟩,[(0,Bn b q)],⟨by intro i hi;match i with|0=>rfl,by decide⟩,rfl,by (simp[cX,zC,e,cN]),q,_,by omega,Sr B n z (by omega) (by omega),rfl,rfl,rfl⟩
  ·refine aK ?_
   (repeat first|refine tA rfl ?_ |refine aU rfl ?_);(refine pW rfl ?_ rfl (by rfl);refine Ai [0] rfl rfl (F) ⟨rfl,by decide,by decide⟩ rfl (by simp[cX,zC,e,cN]) ?_;rintro h f g ⟨q,t,A,r,rfl,rfl,rfl⟩ _);(repeat first|refine tA rfl ?_ |refine Aa ?_);refine aR ⟨_,rfl,[0],Bi t,[(0,Bn b q)],⟨by intro i hi;match i with|0=>rfl,by decide⟩,rfl,by (simp[cX,zC,e,cN]),q,t,by omega,r.2,rfl,rfl,rfl⟩
end Go.Am
