/-
  A set of pairs gets its number: walked.
-/
import Derived.Test.YtdipaikojjjebaaGreatDoorPart27
set_option linter.all false
namespace Go.Am
open Go Go.Proofs
set_option maxHeartbeats 1000000
set_option maxRecDepth 4000
attribute [local irreducible] A5 Ck Lex Br Aj Spec
variable {TB:BJ}
inductive Reach (t:Ch):PS->Prop
 | start:Reach t (Cq t)
 | next {F:PS} {l:Int}:0<=l->l<6->Reach t F->Reach t (DD t l F)
theorem Reach.ok{t:Ch}(ht:A9 t=true){F:PS}(h:Reach t F):CR t F:=by
 induction h with
 | start=>exact GI ht
 | next c b _ a=>exact LX ht ⟨c,b⟩ a
noncomputable def Ij(t:Ch):PS->W->PS
 | F,[]=>F
 | F,c::w=>Ij t (DD t ((c.toNat:Int)-97) F) w
theorem Qk{t:Ch}:∀(u v:W) (F:PS),Ij t F (u++v)=Ij t (Ij t F u) v
 | [],v,F=>rfl
 | c::u,v,F=>by simp only[su,Ij];exact Qk u v _
def o5(t:Ch)(ok:W->Prop)(F:PS):Prop:=F=Cq t\/∃u v,ok (u++v)/\F=Ij t (Cq t) u
structure Ey (t:Ch) (ok:W->Prop) (m:Db):Prop where
 l1:m.nx.length=m.F.length
 l2:m.un.length=m.F.length
 nd:m.F.Nodup
 rc:∀F∈m.F,Reach t F
 rk:∀F∈m.F,o5 t ok F
 un:∀(i:Nat) F,m.F[i]?=some F->m.un[i]?=some (FQ t F)
 nx:∀(i:Nat) F,m.F[i]?=some F->∃r:List Int,m.nx[i]?=some r/\r.length=6/\∀l:Nat,l<6->∃x,r[l]?=some x/\(x<0\/∃j:Nat,x=j/\m.F[j]?=some (DD t l F))
def Ji(t:Ch)(m:Db)(G:PS):Db:=⟨m.F++[G],m.nx++[[-1,-1,-1,-1,-1,-1]],m.un++[FQ t G]⟩
theorem kG{t:Ch}(ht:A9 t=true){F G:PS}(c:CR t F)(b:CR t G)(h:Ht F=Ht G):F=G:=by
 have d:=TN h;have e:=AB (Cr ht);funext p
 rcases rn p 12 with a|a
 ·exact d p a
 ·rw[c.z p (by omega),b.z p (by omega)]
theorem Tw{l:List PS}{p:List Int×Int}:p∈Nm l↔∃(i:Nat) (F:PS),l[i]?=some F/\p=(Ht F,(i:Int)):=by
 unfold Nm;rw[d9];constructor
 ·rintro⟨⟨F,i⟩,h,rfl⟩
  exact⟨i,F,uG.1 h,rfl⟩
 ·rintro⟨i,F,h,rfl⟩
  exact⟨(F,i),uG.2 h,rfl⟩
theorem jk(l:List PS)(G:PS):Nm (l++[G])=Nm l++[(Ht G,(l.length:Int))]:=by
 unfold Nm;rw[List.zipIdx_append];simp
theorem fj{t:Ch}(ht:A9 t=true){l:List PS}(g:l.Nodup)(f:∀F∈l,Reach t F):(Nm l).Pairwise (λa b=>a.1≠b.1):=by
 unfold Nm;rw[se,q8];intro i j e d c;simp only[List.length_zipIdx]at e d;simp only[List.getElem_zipIdx];intro h;have:=kG ht ((f _ (rF e)).ok ht) ((f _ (rF d)).ok ht) h;exact q8.1 g i j e d c this
theorem fi{t:Ch}(ht:A9 t=true){l:List PS}(a:∀F∈l,Reach t F):RK 12 .u16 (Nm l):=λp hp=>by
 obtain⟨i,F,b,rfl⟩:=Tw.1 hp;exact⟨rfl,ko ((a F (co b)).ok ht).lt⟩
theorem bG{t:Ch}(ht:A9 t=true){l:List PS}(e:l.Nodup)(b:∀F∈l,Reach t F){G:PS}(g:CR t G){v:Int}(h:DT (Nm l) (Ht G)=some v):∃k:Nat,v=k/\l[k]?=some G:=by
 have:∃p∈Nm l,p.1=Ht G:=by
  refine Classical.byContradiction λf=>?_;have j:DT (Nm l) (Ht G)=none:=ID.2 λp hp a=>f ⟨p,hp,a⟩;rw[j]at h;cases h
 obtain⟨p,hp,a⟩:=this;have d:=MX (fj ht e b) hp;rw[a,h]at d;obtain⟨i,F,c,rfl⟩:=Tw.1 hp;have:=kG ht ((b F (co c)).ok ht) g a;subst this;exact⟨i,by injection d,c⟩
theorem bF{l:List PS}{G:PS}(h:DT (Nm l) (Ht G)=none):G∉l:=λb=>by
 obtain⟨i,hi,a⟩:=q9 b;exact ID.1 h (Ht G,(i:Int)) (Tw.2 ⟨i,G,by rw[d6 hi,a],rfl⟩) rfl
theorem Lv{α:Type}{l:List α}{a x:α}{i:Nat}(h:l[i]?=some x):(l++[a])[i]?=some x:=by
 rw[f9 (am.1 h).1];exact h
theorem Uw{α:Type}{l:List α}{a x:α}{i:Nat}(h:(l++[a])[i]?=some x):l[i]?=some x\/i=l.length/\x=a:=by
 rcases rn i l.length with b|b
 ·rw[f9 b]at h;exact .inl h
 ·rw[io b]at h
  have d:i-l.length<1:=(am.1 h).1
  have c:i=l.length:=by simp at d;omega
  subst c;simp at h;exact .inr ⟨rfl,h.symm⟩
theorem Y8{t:Ch}{ok:W->Prop}{m:Db}(d:Ey t ok m){G:PS}(k:Reach t G)(hk:o5 t ok G)(h:G∉m.F):Ey t ok (Ji t m G):=by
 refine⟨by simp[Ji,d.l1],by simp[Ji,d.l2],?_,?_,?_,?_,?_⟩
 ·show (m.F++[G]).Nodup
  rw[r8];exact⟨d.nd,by simp,λa ha b hb=>by simp at hb;subst hb;intro e;subst e;exact h ha⟩
 ·intro F c
  rcases gc.1 c with c|c
  ·exact d.rc F c
  ·simp at c;subst c;exact k
 ·intro F c
  rcases gc.1 c with c|c
  ·exact d.rk F c
  ·simp at c;subst c;exact hk
 ·intro i F c
  rcases Uw c with f|⟨f,rfl⟩
  ·exact Lv (d.un i F f)
  ·subst f;show (m.un++[FQ t F])[m.F.length]?=_;rw[<-d.l2];simp
 ·intro i F c
  rcases Uw c with f|⟨f,rfl⟩
  ·obtain⟨r,v,u,s⟩:=d.nx i F f
   refine⟨r,Lv v,u,λl g=>?_⟩;obtain⟨x,q,p⟩:=s l g;refine⟨x,q,p.imp id ?_⟩;rintro⟨j,o,n⟩;exact⟨j,o,Lv n⟩
  ·refine⟨[-1,-1,-1,-1,-1,-1],by subst f;show (m.nx++_)[m.F.length]?=_;rw[<-d.l1];simp,rfl,λl g=>⟨-1,?_,.inl (by omega)⟩⟩
   obtain rfl|rfl|rfl|rfl|rfl|rfl:l=0\/l=1\/l=2\/l=3\/l=4\/l=5:=by omega
   all_goals rfl
def HM(t:Ch)(F:PS)(k:Nat):Bool:=(List.range k).any λp=>decide (F p≠0) && !(t.q.ac.getD p false)
theorem KM{t:Ch}{F:PS}{k:Nat}:HM t F (k+1)=(HM t F k || (decide (F k≠0) && !(t.q.ac.getD k false))):=by
 unfold HM;rw[sT,vi];simp
theorem aZ{t:Ch}{F:PS}(h:CR t F)(b:t.q.nx.length<=12):HM t F 12=FQ t F:=by
 have key:∀k,HM t F (t.q.nx.length+k)=HM t F t.q.nx.length:=λk=>by
  induction k with
  | zero=>rfl
  | succ k a=>rw[<-rz,KM,a,h.z _ (by omega)];simp
 have:=key (12-t.q.nx.length);rw[show t.q.nx.length+(12-t.q.nx.length)=12 by omega]at this;rw[this];rfl
section
variable {P:Program}{U:Ctx}{d:Option Tmp}{ty:TypeId}{pos:String}{af:Array Edge}{g:Option (Nat×Bool)}{f:Env}{σ:Ac}{nx:Nat}{t:TypeId}{n:Nat}{q:IntKind}{m e:TypeId}{x y:Operand}{id:Nat}{l:List (List Int×Int)}{s:List Int}
theorem gd{v:Int}[A:FN P m t e][h:GK P t n q][z:KC P e (.int .i64 0)](k:DT l s=some v)(i:ev f x=some (.o (.mp id)))(c:ev f y=some (jb q s))(r:look σ id=some (.mp (mapA q l)))
 (u:RK n q l) (w:l.Pairwise (λa b=>a.1≠b.1)) (p:s.length=n) (j:∀x∈s,(Lit.int q x).wf=true) :
 A5 P TB U ⟨d,.lookup m x y true,ty,pos,af,g⟩ f σ nx (.t [(false,[.d (.v (.int .i64 v))]),(false,[.d (.v (.bool true))])]):=by
 have:=ZS (P:=P) (TB:=TB) (U:=U) (d:=d) (ty:=ty) (pos:=pos) (af:=af) (g:=g) (nx:=nx) (t:=t) (m:=m) (e:=e) i c r u w p j;rw[k]at this;exact this
theorem gb[A:FN P m t e][h:GK P t n q][z:KC P e (.int .i64 0)](k:DT l s=none)(i:ev f x=some (.o (.mp id)))(c:ev f y=some (jb q s))(r:look σ id=some (.mp (mapA q l)))
 (u:RK n q l) (w:l.Pairwise (λa b=>a.1≠b.1)) (p:s.length=n) (j:∀x∈s,(Lit.int q x).wf=true) :
 A5 P TB U ⟨d,.lookup m x y true,ty,pos,af,g⟩ f σ nx (.t [(false,[.d (.v (.int .i64 0))]),(false,[.d (.v (.bool false))])]):=by
 have:=ZS (P:=P) (TB:=TB) (U:=U) (d:=d) (ty:=ty) (pos:=pos) (af:=af) (g:=g) (nx:=nx) (t:=t) (m:=m) (e:=e) i c r u w p j;rw[k]at this;exact this
end
theorem dK{t:Ch}{ok:W->Prop}(ht:A9 t=true){m:Db}(h:Ey t ok m)(H:m.F.length<=1099511627776){G:PS}(u:CR t G):∃(m':Db) (k:Nat),((m'=m/\m.F[k]?=some G)\/(m'=Ji t m G/\k=m.F.length/\G∉m.F))/\
 Bd Tryz.prog TB 111 1 (VX t m) 5 [.o (.ptr 0 14 0 0),mc G] (λx σ nx=>x=eI .i64 (k:Int)/\σ=VX t m'/\nx=5):=by
 have L:=AB (Cr ht);have f:=fj ht h.nd h.rc;have j:=fi ht h.rc;have e:=ko u.lt
 cases n:DT (Nm m.F) (Ht G) with
 | some v=>
  obtain⟨k,rfl,hk⟩:=bG ht h.nd h.rc u n;refine⟨m,k,.inl ⟨rfl,hk⟩,?_⟩;refine Bd.Bj (Bd.Ui (m:=1) (ce rfl) Tryz.func111 rfl (by kernel_rfl) (ce rfl) ?_);intro U a;(repeat first|refine tA rfl ?_|refine aU rfl ?_|apply Aa);refine rG (Hz []) (by kernel_rfl) ?_;(repeat first|refine tA rfl ?_|(refine Al rfl ?_;refine gA rfl ?_;first|refine gQ (gd (s:=Ht G) (l:=Nm m.F) n rfl rfl rfl j f rfl e) rfl ?_)|refine aU rfl ?_|apply Aa);(refine aC rfl ?_ ?_<;>rintro⟨⟩);(repeat first|refine tA rfl ?_|refine aU rfl ?_|apply Aa);refine aR ⟨_,rfl,[0,1,2,3,4],eI .i64 (k:Int),VX t m,⟨by intro i hi;match i with|0=>rfl,by decide⟩,rfl,by (simp[cX,zC,a,AT]),rfl,rfl,rfl⟩
 | none =>
  refine⟨Ji t m G,m.F.length,.inr ⟨rfl,rfl,bF n⟩,?_⟩;have N:=h.l1;have M:=h.l2;have A:=jk m.F G;refine Bd.Bj (Bd.Ui (m:=1) (ce rfl) Tryz.func111 rfl (by kernel_rfl) (ce rfl) ?_);intro U a;(repeat first|refine tA rfl ?_|refine aU rfl ?_|apply Aa);refine rG (Hz []) (by kernel_rfl) ?_;(repeat first|refine tA rfl ?_|(refine Al rfl ?_;refine gA rfl ?_;first|refine gQ (gb (s:=Ht G) (l:=Nm m.F) n rfl rfl rfl j f rfl e) rfl ?_)|refine aU rfl ?_|apply Aa);(refine aC rfl ?_ ?_<;>rintro⟨⟩);apply aK;(repeat first|refine tA rfl ?_|refine aU rfl ?_|apply Aa);refine rG (Hz [6]) (by kernel_rfl) ?_;(repeat first|refine tA rfl ?_);(refine Al rfl ?_;refine Gf ?_ rfl (by rfl);refine lT (s:=Ht G) (l:=Nm m.F) rfl rfl rfl rfl j f rfl e n ?_);rw[<-A];apply Aa;(repeat first|refine aU rfl ?_);refine rG (Jp [(4,0),(7,1),(10,1)]) (by kernel_rfl) ?_;(repeat first|refine tA rfl ?_);(refine pW rfl ?_ rfl (by rfl);refine Au rfl rfl rfl (by first|(simp;done)|(simp;(omega))) rfl (by intro r d;simp at d;subst d;rfl) (by rfl) (ce rfl) (by simp;omega) ?_);(repeat first|refine tA rfl ?_|refine aU rfl ?_|apply Aa);(repeat first|refine tA rfl ?_|(refine Al rfl ?_;refine gA rfl ?_;first|refine gS (λ_ _=>AS rfl rfl (by rfl) (by rfl)) ?_));(refine pW rfl ?_ rfl (by rfl);refine Au rfl rfl rfl (by first|(simp;done)|(simp;(omega))) rfl (by intro r d;simp at d;subst d;rfl) (by rfl) (ce rfl) (by simp;omega) ?_);(repeat first|refine tA rfl ?_|refine aU rfl ?_|apply Aa);refine Aj.Ay [0,7,8,53,54] [] rfl rfl [] [(0,.cells 89 14 [Qm t (.arr 1 12 0 (Ji t m G).F.length) (.mp 2) (.arr 3 6 0 (Ji t m G).nx.length) (.arr 4 1 0 m.un.length)]),(1,.cells 150 12 ((Ji t m G).F.map N9)),(2,.mp (mapA .u16 (Nm (Ji t m G).F))),(3,.cells 94 6 ((Ji t m G).nx.map N7)),(4,.cells 4 1 (m.un.map AO))] [0,5,2,6,4] (rl a rfl) (by (simp[cX,zC,a,AT,Ji]<;>rfl)) ?_;(try dsimp only[cA,cB]);apply aB;refine aL (α:={k:Nat // k<=12}) [0,7,53] [0,1,2,3,4] rfl rfl (λs=>[(8,eB (HM t G s.1)),(54,eI .i64 s.1)]) (λs=>[]) 5 (λs=>12-s.1) (⟨0,by omega⟩) a rfl (by (simp[cX,zC,a,AT]<;>rfl)) ?_;rintro⟨k,hk⟩;(try dsimp only[cA,cB]);by_cases w:k<12
  ·have B:(Ht G)[((k:Nat):Int).toNat]?=some (G k:Int):=by rw[d8];exact Kl w
   have p:=KM (t:=t) (F:=G) (k:=k);generalize HM t G k=P at *;by_cases J:k<t.q.nx.length
   ·obtain⟨b,hb⟩:=get_some (l:=t.q.ac) (k:=((k:Nat):Int).toNat) (by omega)
    have K:=get_map (g:=Jk) hb
    have y:t.q.ac.getD k false=b:=by rw[d8]at hb;simp[List.getD,hb]
    rw[y]at p;(repeat first|refine s2 rfl λ_ c=>?_|refine aU rfl ?_|apply Aa)
    ((refine aC rfl ?_ ?_<;>rintro⟨⟩);all_goals try(exfalso;(simp only[oZ] at *;omega)))
    apply aK;refine aS (aB ?_)
    (repeat' first|(refine sA rfl ?_ ?_;first|exact tI|omega)|(refine s4 rfl ‹_› rfl ?_ ?_;omega)|refine s2 rfl λ_ c=>?_|(refine Al rfl ?_;refine gA rfl ?_;first|refine gS (λ_ _=>Ml (l:=Ht G) rfl rfl rfl (by omega) B) ?_)|refine s3 rfl ?_ ?_<;>rintro rfl|refine aU rfl ?_|apply Aa|(refine aC rfl ?_ ?_<;>rintro⟨⟩));all_goals try contradiction
    all_goals ((try apply aK);refine⟨⟨k+1,by omega⟩,by dsimp only;(omega),[0,1,2,3,4],?_⟩;simp only[decide_eq_true_eq,decide_eq_false_iff_not] at *;simp[cX,zC,a,AT,p];try (simp_all;done))
   ·have I:=u.z k (by omega)
    rw[I]at p;(repeat first|refine s2 rfl λ_ c=>?_|refine aU rfl ?_|apply Aa)
    ((refine aC rfl ?_ ?_<;>rintro⟨⟩);all_goals try(exfalso;(simp only[oZ] at *;omega)))
    apply aK;refine aS (aB ?_)
    (repeat' first|(refine sA rfl ?_ ?_;first|exact tI|omega)|refine s2 rfl λ_ c=>?_|(refine Al rfl ?_;refine gA rfl ?_;first|refine gS (λ_ _=>Ml (l:=Ht G) rfl rfl rfl (by omega) B) ?_)|refine s3 rfl ?_ ?_<;>rintro rfl|refine aU rfl ?_|apply Aa|(refine aC rfl ?_ ?_<;>rintro⟨⟩));all_goals try contradiction
    all_goals first|(exfalso;(simp only[oZ] at *;omega);done)|skip
    all_goals ((try apply aK);refine⟨⟨k+1,by omega⟩,by dsimp only;(omega),[0,1,2,3,4],?_⟩;simp[cX,zC,a,AT,p];try (simp_all;done))
  ·obtain rfl:k=12:=by omega
   rw[aZ u (by omega)];(repeat first|refine s2 rfl λ_ c=>?_|refine aU rfl ?_|apply Aa)
   ((refine aC rfl ?_ ?_<;>rintro⟨⟩);all_goals try(exfalso;(simp only[oZ] at *;omega)))
   apply aE;(repeat first|refine tA rfl ?_|refine aU rfl ?_);(refine pW rfl ?_ rfl (by rfl);refine Au rfl rfl rfl (by first|(simp;done)|(simp;(omega))) rfl (by intro r d;simp at d;subst d;rfl) (by rfl) (ce rfl) (by simp;omega) ?_);(repeat first|refine tA rfl ?_|refine aU rfl ?_|apply Aa);refine aR ⟨_,rfl,[0,1,2,3,5],eI .i64 (m.F.length:Int),VX t (Ji t m G),⟨by intro i hi;match i with|0=>rfl,by decide⟩,rfl,by (simp[cX,zC,a,AT,Ji]),rfl,rfl,rfl⟩
abbrev kx(r:AK×Bool):E:=.t [(true,[.d (iD r.1.al),.d (Ce r.1.nx),.d (FP r.1.ac)]),(false,[.d (bD r.2)])]
def VT(n:Int):List (List Int)->List Bool->Ac
 | [],_=>[(1,.cells 29 3 [[.d (iD n),.d (.v (.slice none 0 0)),.d (.v (.slice none 0 0))]])]
 | r::l,ac=>[(1,.cells 29 3 [[.d (iD n),.arr 2 1 0 (l.length+1),.arr 3 1 0 ac.length]]),(2,.cells 63 1 ((r::l).map Xw)),(3,.cells 4 1 (ac.map AO))]
theorem Hi(m:W)(Y:m.length<=10000):Spec Tryz.prog TB 108 [] 0 [eT m] (Eh (λr:AK×Bool=>I9 (m.length+1) r.1) kx):=by
 have f:I9 (m.length+1) ⟨0,[],[]⟩:=⟨rQ _,rQ _,λr b=>by cases b⟩
 refine eR Tryz.func108 rfl (by kernel_rfl) rfl ?_;intro U c;(repeat first|refine tA rfl ?_|refine aU rfl ?_|apply Aa);(refine pW rfl ?_ rfl (by rfl);refine Ag [] rfl rfl (Nh (TB:=TB) m (by omega) 32) ⟨rfl,by decide,by decide⟩ rfl trivial ?_;rintro B j p ⟨ps,⟨S,R,G⟩,rfl,rfl,rfl⟩ _);obtain⟨K,X⟩:=get_some (l:=ps) (k:=(0:Int).toNat) (by simp;omega);have V:=get_map (g:=Dv) X;(repeat first|refine tA rfl ?_|(refine s4 rfl ‹_› rfl ?_ ?_;omega)|refine aU rfl ?_|apply Aa);(refine pW rfl ?_ rfl (by rfl);refine Ag [] rfl rfl (HJ (TB:=TB) K) ⟨rfl,by decide,by decide⟩ rfl trivial ?_;rintro B j p ⟨⟨n,ok⟩,_,rfl,rfl,rfl⟩ _);(repeat first|refine tA rfl ?_|refine s2 rfl λ_ a=>?_|refine aU rfl ?_|apply Aa);(refine aC rfl ?_ ?_<;>rintro⟨⟩)
 ·(repeat first|refine tA rfl ?_|(refine Al rfl ?_;refine gA rfl ?_;first|refine gS (λ_ _=>AS rfl rfl (by rfl) (by rfl)) ?_)|refine aU rfl ?_|apply Aa)
  exact aR ⟨_,rfl,[],kx (⟨0,[],[]⟩,false),[],⟨λi hi=>absurd hi (mt i),ol⟩,rfl,trivial,(⟨0,[],[]⟩,false),f,rfl,rfl,rfl⟩
 apply aK;by_cases Q:ps.length=1
 ·(repeat first|refine tA rfl ?_|(refine Al rfl ?_;refine gA rfl ?_;first|refine gS (λ_ _=>AS rfl rfl (by rfl) (by rfl)) ?_)|refine aU rfl ?_|apply Aa)
  apply aB;refine aL (α:={k:Nat // k=1}) [0,3] [] rfl rfl (λs=>[(2,.o (.ptr 0 3 0 0)),(4,Cb ps),(7,.o (.ptr 1 3 0 0)),(8,eI .i64 s.1)]) (λs=>[(0,.cells 29 3 [[.d (iD 0),.d (.l []),.d (.l [])]]),(1,.cells 29 3 [[.d (iD n),.d (.l []),.d (.l [])]])]) 2 (λs=>0) (⟨1,rfl⟩) c rfl (by (simp[cX,zC,c,cN])) ?_;rintro⟨k,hk⟩;(try dsimp only[cA,cB]);(repeat first|refine sN rfl ?_|refine tA rfl ?_|refine s2 rfl λ_ a=>?_|refine aU rfl ?_|apply Aa)
  ((refine aC rfl ?_ ?_<;>rintro⟨⟩);all_goals try (simp at a;done))
  ·exfalso;(simp only[oZ] at *;omega)
  apply aE;(repeat first|refine tA rfl ?_|refine aU rfl ?_);(refine pW rfl ?_ rfl (by rfl);refine Ag [] rfl rfl (GJ (TB:=TB) ⟨n,[],[]⟩) ⟨rfl,by decide,by decide⟩ rfl trivial ?_;rintro B j p ⟨J,F,rfl,rfl,rfl⟩ _);(repeat first|refine tA rfl ?_|refine s2 rfl λ_ a=>?_|apply Aa);(refine aC rfl ?_ ?_<;>rintro⟨⟩)
  ·(repeat first|refine tA rfl ?_|(refine Al rfl ?_;refine gA rfl ?_;first|refine gS (λ_ _=>AS rfl rfl (by rfl) (by rfl)) ?_)|refine aU rfl ?_|apply Aa)
   exact aR ⟨_,rfl,[],kx (⟨0,[],[]⟩,false),[],⟨λi hi=>absurd hi (mt i),ol⟩,rfl,trivial,(⟨0,[],[]⟩,false),f,rfl,rfl,rfl⟩
  apply aK;(repeat first|refine tA rfl ?_|refine aU rfl ?_|apply Aa);exact aR ⟨_,rfl,[],kx (⟨n,[],[]⟩,true),[],⟨λi hi=>absurd hi (mt i),ol⟩,rfl,trivial,(⟨n,[],[]⟩,true),⟨rQ _,rQ _,λr b=>by cases b⟩,rfl,rfl,rfl⟩
 (repeat first|refine tA rfl ?_|(refine Al rfl ?_;refine gA rfl ?_;first|refine gS (λ_ _=>P8 rfl rfl (by rfl) (by rfl)) ?_)|refine aU rfl ?_|apply Aa);apply aB;refine aL (α:={z:Nat×List (List Int)×List Bool // (1<=z.1/\z.1<=ps.length)/\z.2.1.length+1=z.1/\z.2.2.length+1=z.1/\∀r∈z.2.1,r.length<=m.length+1}) [0,3] [] rfl rfl (λs=>[(2,.o (.ptr 0 3 0 0)),(4,Cb ps),(7,.o (.ptr 1 3 0 0)),(8,eI .i64 s.1.1)]) (λs=>((0,.cells 29 3 [[.d (iD 0),.d (.l []),.d (.l [])]])::VT n s.1.2.1 s.1.2.2)) 4 (λs=>ps.length-s.1.1) (⟨⟨1,[],[]⟩,by simp;omega⟩) c rfl (by (simp[cX,zC,c,VT,cN])) ?_;rintro⟨⟨k,l,ac⟩,hk,q,A,b⟩;(try dsimp only[cA,cB]);have hk:1<=k/\k<=ps.length:=hk;have q:l.length+1=k:=q;have A:ac.length+1=k:=A;(repeat first|refine sN rfl ?_|refine tA rfl ?_|refine s2 rfl λ_ a=>?_|refine aU rfl ?_|apply Aa)
 ((refine aC rfl ?_ ?_<;>rintro⟨⟩);all_goals try (simp at a;done))
 ·have H:k<ps.length:=by (simp only[oZ] at *;omega)
  obtain⟨w,I⟩:=get_some (l:=ps) (k:=k) H;have P:=get_map (g:=Dv) I;have N:=G w (co I);apply aK;refine aS (aB ?_);(repeat first|refine tA rfl ?_|(refine s4 rfl ‹_› rfl ?_ ?_;omega)|refine s2 rfl λ_ a=>?_|refine aU rfl ?_|apply Aa);(refine aC rfl ?_ ?_<;>rintro⟨⟩)
  ·(repeat first|refine tA rfl ?_|(refine Al rfl ?_;refine gA rfl ?_;first|refine gS (λ_ _=>AS rfl rfl (by rfl) (by rfl)) ?_)|refine aU rfl ?_|apply Aa)
   exact aR ⟨_,rfl,[],kx (⟨0,[],[]⟩,false),[],⟨λi hi=>absurd hi (mt i),ol⟩,rfl,trivial,(⟨0,[],[]⟩,false),f,rfl,rfl,rfl⟩
  have M:0<w.length:=by (simp at a;exact uM.2 a)
  obtain⟨e,Z⟩:=get_some (l:=w) (k:=(0:Int).toNat) (by simp;omega);apply aK;(repeat first|refine tA rfl ?_|(refine s4 rfl ‹_› rfl ?_ ?_;omega)|(refine Al rfl ?_;refine gA rfl ?_;first|refine gS (λ_ _=>FJ rfl rfl (by omega) (by omega)) ?_)|refine aU rfl ?_);(refine pW rfl ?_ rfl (by rfl);refine Ag [] rfl rfl (XH (TB:=TB) (w.drop (Int.toNat 1)) (by simp;omega)) ⟨rfl,by decide,by decide⟩ rfl trivial ?_;rintro B j p ⟨⟨r,L⟩,u,rfl,rfl,rfl⟩ _);have u:r.length<=m.length+1:=pm u (by simp;omega);(repeat first|refine tA rfl ?_|refine s2 rfl λ_ a=>?_|refine aU rfl ?_|apply Aa);(refine aC rfl ?_ ?_<;>rintro⟨⟩)
  ·(repeat first|refine tA rfl ?_|(refine Al rfl ?_;refine gA rfl ?_;first|refine gS (λ_ _=>AS rfl rfl (by rfl) (by rfl)) ?_)|refine aU rfl ?_|apply Aa)
   exact aR ⟨_,rfl,[],kx (⟨0,[],[]⟩,false),[],⟨λi hi=>absurd hi (mt i),ol⟩,rfl,trivial,(⟨0,[],[]⟩,false),f,rfl,rfl,rfl⟩
  apply aK
  have y:∀x∈l++[r],x.length<=m.length+1:=λx v=>by
   rcases gc.1 v with v|v
   ·exact b x v
   ·simp at v;subst v;exact u
  cases l with
  | nil=>
   obtain rfl:ac=[]:=pp.1 (by simp at q;omega);(repeat first|refine tA rfl ?_|refine aU rfl ?_);(refine pW rfl ?_ rfl (by rfl);refine ZE 50 rfl ?_;refine EC rfl rfl rfl (by intro r b;simp at b;subst b;rfl) (by rfl) (ce rfl) (by simp) (λh=>?_) (λ_=>?_))
   ·exact absurd h (by simp)
   (repeat first|refine tA rfl ?_);apply Aa;refine rG (Hz [9,11]) (by kernel_rfl) ?_;(repeat first|refine tA rfl ?_|(refine s4 rfl ‹_› rfl ?_ ?_;omega)|refine s2 rfl λ_ a=>?_);(refine pW rfl ?_ rfl (by rfl);refine ZE 56 rfl ?_;refine EC rfl rfl rfl (by intro r b;simp at b;subst b;rfl) (by rfl) (ce rfl) (by simp) (λh=>?_) (λ_=>?_))
   ·exact absurd h (by simp)
   (repeat first|(refine sA rfl ?_ ?_;first|exact tI|omega)|refine aU rfl ?_|apply Aa);subst a;refine⟨⟨⟨k+1,[r],[decide ((e.toNat:Int)=43)]⟩,⟨by dsimp only;omega,by dsimp only;omega⟩,by simp at q;simp;omega,by simp at q;simp;omega,y⟩,by dsimp only;(omega),[0,1,4,5],?_⟩;(simp[cX,zC,c,cN,VT,Ae,eC]<;>rfl)
  | cons t l=>
   (repeat first|refine tA rfl ?_|refine aU rfl ?_);(refine pW rfl ?_ rfl (by rfl);refine Au rfl rfl rfl (by first|(simp;done)|(simp;(omega))) rfl (by intro r b;simp at b;subst b;rfl) (by rfl) (ce rfl) (by simp at q |-;omega) ?_);(repeat first|refine tA rfl ?_);apply Aa;refine Aj.Ay [0,3,8] [] rfl rfl [(2,.o (.ptr 0 3 0 0)),(4,Cb ps),(7,.o (.ptr 1 3 0 0))] [(0,.cells 29 3 [[.d (iD 0),.d (.l []),.d (.l [])]]),(1,.cells 29 3 [[.d (iD n),.arr 2 1 0 (l.length+1+1),.arr 3 1 0 ac.length]]),(2,.cells 63 1 ((t::(l++[r])).map Xw)),(3,.cells 4 1 (ac.map AO))] [0,1,4,3] (rl c rfl) (by (simp[cX,zC,c,cN,VT,Ae,eC])) ?_;(try dsimp only[cA,cB]);refine rG (Hz [9,11]) (by kernel_rfl) ?_;(repeat first|refine tA rfl ?_|(refine s4 rfl ‹_› rfl ?_ ?_;omega)|refine s2 rfl λ_ a=>?_);(refine pW rfl ?_ rfl (by rfl);refine Au rfl rfl rfl (by first|(simp;done)|(simp;(omega))) rfl (by intro r b;simp at b;subst b;rfl) (by rfl) (ce rfl) (by simp at q |-;omega) ?_);(repeat first|(refine sA rfl ?_ ?_;first|exact tI|omega)|refine aU rfl ?_|apply Aa);subst a;refine⟨⟨⟨k+1,t::(l++[r]),ac++[decide ((e.toNat:Int)=43)]⟩,⟨by dsimp only;omega,by dsimp only;omega⟩,by simp at q |-;omega,by simp;omega,y⟩,by dsimp only;(omega),[0,1,2,4],?_⟩;(simp[cX,zC,c,cN,VT,Ae,eC]<;>rfl)
 apply aE
 have T:k=ps.length:=by (simp only[oZ] at *;omega)
 cases l with
 | nil=>exfalso;simp at q;omega
 | cons t l=>
  refine Aj.AA [1,2,3] [(0,eT m),(2,.o (.ptr 0 3 0 0)),(3,eB false),(7,.o (.ip (AE ⟨n,t::l,ac⟩)))] ⟨⟨_,rfl,.inl rfl⟩,⟨_,rfl,.inl rfl⟩,⟨_,rfl,.inl rfl⟩,⟨_,rfl,.inr (.o (.box rfl (.cons .d (.cons (.full rfl (by simp[d5]) (by simp)) (.cons (.full rfl (by simp[d5]) (by simp)) .nil)))))⟩,trivial⟩ ?_;(repeat first|refine tA rfl ?_|refine aU rfl ?_);(refine pW rfl ?_ rfl (by rfl);refine Ag [] rfl rfl (GJ (TB:=TB) ⟨n,t::l,ac⟩) ⟨rfl,by decide,by decide⟩ rfl trivial ?_;rintro B j p ⟨J,F,rfl,rfl,rfl⟩ _);(repeat first|refine tA rfl ?_|refine s2 rfl λ_ a=>?_|apply Aa);(refine aC rfl ?_ ?_<;>rintro⟨⟩)
  ·(repeat first|refine tA rfl ?_|(refine Al rfl ?_;refine gA rfl ?_;first|refine gS (λ_ _=>AS rfl rfl (by rfl) (by rfl)) ?_)|refine aU rfl ?_|apply Aa)
   exact aR ⟨_,rfl,[],kx (⟨0,[],[]⟩,false),[],⟨λi hi=>absurd hi (mt i),ol⟩,rfl,trivial,(⟨0,[],[]⟩,false),f,rfl,rfl,rfl⟩
  apply aK;(repeat first|refine tA rfl ?_|refine aU rfl ?_|apply Aa);exact aR ⟨_,rfl,[],kx (⟨n,t::l,ac⟩,true),[],⟨λi hi=>absurd hi (mt i),ol⟩,rfl,trivial,(⟨n,t::l,ac⟩,true),⟨by show (t::l).length<=_;omega,by show ac.length<=_;omega,b⟩,rfl,rfl,rfl⟩
def QO(m m':Db):Prop:=∀(i:Nat) F,m.F[i]?=some F->m'.F[i]?=some F
theorem iC{t:Ch}{m:Db}{G:PS}:QO m (Ji t m G):=λ_ _ h=>Lv h
def cS(m:Db)(n:Nat)(r:List Int):Db:={ m with nx:=m.nx.set n r }
theorem jQ{t:Ch}{ok:W->Prop}{m:Db}(a:Ey t ok m){n k l:Nat}{F:PS}{r:List Int}(p:m.F[n]?=some F)(o:m.nx[n]?=some r)(v:l<6)(hk:m.F[k]?=some (DD t l F)):Ey t ok (cS m n (r.set l k)):=by
 refine⟨by simp[cS,a.l1],a.l2,a.nd,a.rc,a.rk,a.un,λi G b=>?_⟩;replace b:m.F[i]?=some G:=b;by_cases e:i=n
 ·subst e
  rw[p]at b;injection b with b;subst b
  obtain⟨r',c,f,j⟩:=a.nx i F p
  rw[o]at c;injection c with c;subst c
  have g:=(am.1 o).1;refine⟨r.set l k,by simp[cS,g],by simp[f],λl' d=>?_⟩;by_cases q:l'=l
  ·subst q
   exact⟨k,by simp[f,d],.inr ⟨k,rfl,hk⟩⟩
  ·obtain⟨x,u,s⟩:=j l' d
   exact⟨x,by rw[rT (λh=>q h.symm)];exact u,s⟩
 ·obtain⟨r',c,f,j⟩:=a.nx i G b
  exact⟨r',by simp only[cS];rw[rT (λh=>e h.symm)];exact c,f,j⟩
theorem ZJ{r:List Int}{l:Nat}{x:Int}(h:r[l]?=some x):(N7 r)[l]?=some (.d (iD x)):=by simp[h]
theorem jt{r:List Int}{l:Nat}{x:Int}(h:l<r.length):Ae (N7 r) l [.d (iD x)]=N7 (r.set l x):=by
 rw[IW (by simpa using h)];unfold N7;rw[sh]
theorem aW[EK TB]{t:Ch}{ok:W->Prop}(ht:A9 t=true){m:Db}(e:Ey t ok m){n:Nat}{F:PS}(v:m.F[n]?=some F){l:Int}(J:0<=l/\l<6)(H:m.F.length<=1099511627776)(R:o5 t ok (DD t l F)):∃(m':Db) (j:Nat),Ey t ok m'/\QO m m'/\m'.F[j]?=some (DD t l F)/\m'.F.length<=m.F.length+1/\
 Bd Tryz.prog TB 55 1 (VX t m) 5 [.o (.ptr 0 14 0 0),eI .i64 (n:Int),eI .i64 l] (λx σ nx=>x=eI .i64 (j:Int)/\σ=VX t m'/\nx=5):=by
 obtain⟨r,hr,hrl,Q⟩:=e.nx n F v;have hn:=(am.1 v).1;have h1:=e.l1;obtain⟨x,hx,z⟩:=Q l.toNat (by omega)
 have el:((l.toNat:Nat):Int)=l:=by omega
 rw[el]at z;have s:=(e.rc F (co v)).ok ht
 have hr':(m.nx.map N7)[0+((n:Nat):Int).toNat]?=some (N7 r):=by rw[ms,d8];simp[hr]
 have g:(N7 r)[0+l.toNat*1]?=some (.d (iD x)):=by rw[ms,vk];exact ZJ hx
 by_cases N:x<0
 ·have hG:=LX ht J s
  have Z:Reach t (DD t l F):=.next J.1 J.2 (e.rc F (co v));obtain⟨a,k,q,K⟩:=dK (TB:=TB) ht e H hG
  have c:Ey t ok a/\QO m a/\a.F[k]?=some (DD t l F)/\a.F.length<=m.F.length+1:=by
   rcases q with ⟨rfl,h2⟩|⟨rfl,rfl,h2⟩
   ·exact⟨e,λ_ _ h=>h,h2,vj _⟩
   ·exact⟨Y8 e Z R h2,iC,by simp[Ji],by simp[Ji]⟩
  obtain⟨c,I,hk,X⟩:=c;have L:=I n F v;obtain⟨f,p,hrl1,_⟩:=c.nx n F L;have T:=(am.1 p).1;have S:=jQ (l:=l.toNat) c L p (by omega) (k:=k) (by rw[el];exact hk);refine⟨_,k,S,I,hk,X,?_⟩;have V:=ZC (TB:=TB) ht m J s;have Y:=UD (TB:=TB) ht m (Lc ht J s)
  have hs':(m.F.map N9)[0+((n:Nat):Int).toNat]?=some (N9 F):=by rw[ms,d8];simp[v]
  refine Bd.Bj (Bd.Ui (m:=1) (ce rfl) Tryz.func55 rfl (by kernel_rfl) (ce rfl) ?_);intro U b;(repeat first|(refine sA rfl ?_ ?_;first|exact tI|omega)|refine s2 rfl λ_ _hb=>?_|(refine Al rfl ?_;refine gA rfl ?_;first|refine gQ (P9 rfl rfl (by assumption) g) rfl ?_)|refine aU rfl ?_|apply Aa)
  ((refine aC rfl ?_ ?_<;>rintro⟨⟩);all_goals try(exfalso;(simp only[oZ] at *;omega)))
  (repeat first|(refine sA rfl ?_ ?_;first|exact tI|omega)|refine t4 rfl ‹_› rfl ?_|refine aU rfl ?_);(refine pW rfl ?_ rfl (by rfl);refine Ag [0,1,2,3,4] rfl rfl (V) ⟨rfl,by decide,by decide⟩ rfl (by simp[cX,zC,b,AT]) ?_;rintro x0 w y ⟨rfl,rfl,rfl⟩ _);(refine pW rfl ?_ rfl (by rfl);refine Ag [0,1,2,3,4] rfl rfl (Y) ⟨rfl,by decide,by decide⟩ rfl (by simp[cX,zC,b,AT]) ?_;rintro x0 w y ⟨rfl,rfl,rfl⟩ _);(refine pW rfl ?_ rfl (by rfl);refine BY [0,1,2,3,4] rfl rfl 1 (K) (by decide) ⟨rfl,by decide,by decide⟩ rfl (by simp[cX,zC,b,AT]) ?_;rintro x0 w y ⟨rfl,rfl,rfl⟩ _);(repeat first|refine tA rfl ?_);apply Aa;refine Aj.Ay [0,1,2,7] [] rfl rfl [] [(0,.cells 89 14 [Qm t (.arr 1 12 0 a.F.length) (.mp 2) (.arr 3 6 0 a.nx.length) (.arr 4 1 0 a.un.length)]),(1,.cells 150 12 (a.F.map N9)),(2,.mp (mapA .u16 (Nm a.F))),(3,.cells 94 6 (a.nx.map N7)),(4,.cells 4 1 (a.un.map AO))] [0,5,6,7,8] (rl b rfl) (by (simp[cX,zC,b,AT])) ?_;(try dsimp only[cA,cB])
  have G:(a.nx.map N7)[0+((n:Nat):Int).toNat]?=some (N7 f):=by rw[ms,d8];simp[p]
  have P:=jt (r:=f) (l:=l.toNat) (x:=(k:Int)) (by omega)
  have B:(f.set l.toNat (k:Int))[l.toNat]?=some (k:Int):=by rw[rS (by omega)]
  generalize f.set l.toNat (k:Int)=u at *
  have A:(N7 f).take l.toNat++C.d (iD k)::(N7 f).drop (l.toNat+1)=N7 u:=by rw[<-P];simp[Ae]
  (repeat first|(refine sA rfl ?_ ?_;first|exact tI|omega)|refine aU rfl ?_);(refine Al rfl ?_;refine Gf ?_ rfl (by rfl);refine Ek (r:=N7 f) rfl rfl rfl rfl G rfl (by show 0+l.toNat*1+1<=6;omega) ?_);apply Aa;refine Aj.Ay [0,1,2] [] rfl rfl [] [(0,.cells 89 14 [Qm t (.arr 1 12 0 a.F.length) (.mp 2) (.arr 3 6 0 a.nx.length) (.arr 4 1 0 a.un.length)]),(1,.cells 150 12 (a.F.map N9)),(2,.mp (mapA .u16 (Nm a.F))),(3,.cells 94 6 ((a.nx.set n u).map N7)),(4,.cells 4 1 (a.un.map AO))] [0,1,2,3,4] (rl b rfl) (by (simp[cX,zC,b,AT,A])) ?_;(try dsimp only[cA,cB])
  have hr2:((a.nx.set n u).map N7)[0+((n:Nat):Int).toNat]?=some (N7 u):=by rw[ms,d8];simp[T]
  have M:(N7 u)[0+l.toNat*1]?=some (.d (iD k)):=by rw[ms,vk];exact ZJ B
  (repeat first|(refine sA rfl ?_ ?_;first|exact tI|omega)|(refine Al rfl ?_;refine gA rfl ?_;first|refine gQ (P9 rfl rfl (by assumption) M) rfl ?_)|refine aU rfl ?_|apply Aa);refine aR ⟨_,rfl,[0,1,2,3,4],eI .i64 (k:Int),VX t (cS a n u),⟨by intro i hi;match i with|0=>rfl,by decide⟩,rfl,by (simp[cX,zC,b,AT,cS]),rfl,rfl,rfl⟩
 ·obtain⟨j,rfl,hj⟩:=z.resolve_left N
  refine⟨m,j,e,λ_ _ h=>h,hj,vj _,?_⟩;refine Bd.Bj (Bd.Ui (m:=1) (ce rfl) Tryz.func55 rfl (by kernel_rfl) (ce rfl) ?_);intro U b;(repeat first|(refine sA rfl ?_ ?_;first|exact tI|omega)|refine s2 rfl λ_ _hb=>?_|(refine Al rfl ?_;refine gA rfl ?_;first|refine gQ (P9 rfl rfl (by assumption) g) rfl ?_)|refine aU rfl ?_|apply Aa)
  ((refine aC rfl ?_ ?_<;>rintro⟨⟩);all_goals try(exfalso;(simp only[oZ] at *;omega)))
  apply aK;(repeat first|(refine sA rfl ?_ ?_;first|exact tI|omega)|(refine Al rfl ?_;refine gA rfl ?_;first|refine gQ (P9 rfl rfl (by assumption) g) rfl ?_)|refine aU rfl ?_|apply Aa);refine aR ⟨_,rfl,[0,1,2,3,4],eI .i64 (j:Int),VX t m,⟨by intro i hi;match i with|0=>rfl,by decide⟩,rfl,by (simp[cX,zC,b,AT]),rfl,rfl,rfl⟩
def kt(t:Ch)(ok:W->Prop)(m:Db):Prop:=Ey t ok m/\m.F[0]?=some (Cq t)
section
variable {P:Program}{U:Ctx}{d:Option Tmp}{ty:TypeId}{pos:String}{af:Array Edge}{g:Option (Nat×Bool)}{f:Env}{σ:Ac}{nx:Nat}
variable {K:E->Ac->Nat->Prop}
theorem cg{t:TypeId}{z:List Value}{fl:List (Nat×Nat)}{parts:Array (Nat×Operand)}{es:List E}{qs:List (Nat×List C)}[T:BN P t z][hf:EJ P t fl](p k e q k' e' s k'' e'':Nat)(hp:z[p]?=some (.slice none 0 0))(n:z[q]?=some (.slice none 0 0))(l:z[s]?=some (.slice none 0 0))(Z:p≠q/\p≠s/\q≠s)(N:KS f (parts.toList.map (·.2))=some es)(Y:Ge fl parts.toList es=some qs)
 (G:z.all QN=true) (H:(qs.all λx=>Nat.ble (x.1+x.2.length) z.length)=true) (hK:K (.a (BM qs ((((z.map zC).set p (.arr nx k 0 0)).set q (.arr (nx+1) k' 0 0)).set s (.arr (nx+2) k'' 0 0)))) ((nx+2,.cells e'' k'' [])::(nx+1,.cells e' k' [])::(nx,.cells e k [])::σ) (nx+3)):Ck P TB U ⟨d,.build t parts,ty,pos,af,g⟩ f σ nx K:=
 DC λV ρ h1 h2 h3=>by
  subst h3;obtain⟨i,zv,hi,A,m⟩:=HF T.out;obtain⟨L,S⟩:=h2.alloc (c:=0) (nl:=True) (w:=V.w) (ob:=.cells e k []) rfl rfl rfl rfl (lc _) (λ_ _=>rfl) (.inl ⟨by simp[Az],rfl⟩);obtain⟨J,R⟩:=L.alloc (c:=0) (nl:=True) (w:=V.w) (ob:=.cells e' k' []) rfl rfl rfl rfl (lc _) (λ_ _=>rfl) (.inl ⟨by simp[Az],rfl⟩);obtain⟨I,Q⟩:=J.alloc (c:=0) (nl:=True) (w:=V.w) (ob:=.cells e'' k'' []) rfl rfl rfl rfl (lc _) (λ_ _=>rfl) (.inl ⟨by simp[Az],rfl⟩);have y:=(S.trans R).trans Q;have M:=Dk (V:=Az (Az (Az V V.w.heap.size 0 True V.w) V.w.heap.size 0 True V.w) V.w.heap.size 0 True V.w) (ρ:=ρ) parts.toList es qs (λx F e he=>(h1.get (by simp only[Op.operands];simpa using F) he).ext y) N Y
  have B : Da (Az (Az (Az V V.w.heap.size 0 True V.w) V.w.heap.size 0 True V.w) V.w.heap.size 0 True V.w) ((((z.map zC).set p (.arr V.nx k 0 0)).set q (.arr (V.nx+1) k' 0 0)).set s (.arr (V.nx+2) k'' 0 0)) zv.cells:=by
   refine⟨by rw[rx,rx,rx,gt,<-m];simp,λj c v h X=>?_⟩
   have b:z[j]?=some v:=by rw[<-m,rY];exact X
   by_cases o:s=j
   ·subst o
    rw[l]at b
    injection b with b
    subst b;rw[rS (by rw[rx,rx,gt];exact(am.1 l).1)]at h
    injection h with h
    subst h;exact AP.nil (by simp[Az]) (by simp[Az])
   ·rw [rT o]at h
    by_cases r:q=j
    ·subst r
     rw[n]at b
     injection b with b
     subst b;rw[rS (by rw[rx,gt];exact(am.1 n).1)]at h
     injection h with h
     subst h;exact AP.nil (by simp[Az]) (by simp[Az])
    ·rw [rT r]at h
     by_cases u:p=j
     ·subst u
      rw[hp]at b
      injection b with b
      subst b;rw[rS (by rw[gt];exact(am.1 hp).1)]at h
      injection h with h
      subst h;exact AP.nil (by simp[Az];omega) (by simp[Az])
     ·rw[rT u,f6,b]at h
      injection h with h
      subst h;exact Lm (ge.1 G v (co b))
  obtain⟨cells,h4,h5⟩:=GR _ _ _ _ M B (λx F=>by rw[rx,rx,rx,gt];exact Jo _ _ H x F);have hb:=run_build (P:=P) (ρ:=ρ) (parts:=parts) (V:=V) hi A hf.out h4;refine⟨.agg cells,_,_,_,?_,y,I,(show Bu _ (.a _) _ from ⟨cells,rfl,h5⟩),hK⟩
  show ((do let v <-Instr.build t (parts.map λ(i,x)=>(i,ρ x));pure (Go.Next.value v):Sem Go.Next)).run P V.w=_
  simp only[pu,hb,lm];rfl
end
theorem Jx{a b:Int}(ha:A1 a=true)(hb:A1 b=true):Ab (Hp .i64 a b)=(Ab a).filter λl=>!AV b l.toNat:=by
 have key:((List.range 64).all λx=>(List.range 64).all λy=>decide (Ab (Hp .i64 (x:Nat) (y:Nat))=(Ab (x:Nat)).filter λl=>!AV (y:Nat) l.toNat))=true:=by kernel_rfl
 unfold A1 at ha hb;simp only[decide_eq_true_eq]at ha hb;have d:=ge.1 key a.toNat (pi.2 (by omega));have c:=ge.1 d b.toNat (pi.2 (by omega));rw[sK ha.1,sK hb.1]at c;exact of_decide_eq_true c
abbrev Sw(t:Ch):List D:=[iD t.s.al,iD t.s.st,Em t.s.es,iD t.q.al,Ce t.q.nx,FP t.q.ac,iD t.al]
abbrev Ow(t:Ch):E:=.a ((Sw t).map .d)
theorem UJ(t:Ch)(ok:W->Prop):Ey t ok ⟨[],[],[]⟩:=⟨rfl,rfl,ol,by simp,by simp,by simp,by simp⟩
theorem TC[EK TB]{t:Ch}(ht:A9 t=true)(ok:W->Prop):∃m,kt t ok m/\Bd Tryz.prog TB 52 0 [] 0 [Ow t] (λx σ nx=>x=.o (.ptr 0 14 0 0)/\σ=VX t m/\nx=5):=by
 have y:AU t.s=true:=by unfold A9 at ht;simp only[d4]at ht;exact ht.1
 have n:A1 t.al=true:=by unfold A9 at ht;simp only[d4]at ht;exact ht.2.2
 have p:=AN y;have A:=MJ ht;obtain⟨j,k,c,f⟩:=dK (TB:=TB) ht (UJ t ok) (by simp) (GI ht)
 have d:j=Ji t ⟨[],[],[]⟩ (Cq t):=by
  rcases c with ⟨_,w⟩|⟨w,_,_⟩
  ·simp at w
  ·exact w
 have e:=UD (TB:=TB) ht ⟨[],[],[]⟩ A;refine⟨j,⟨by rw[d];exact Y8 (UJ t ok) .start (.inl rfl) (by simp),by rw[d];rfl⟩,?_⟩;have u:=PQ (TB:=TB) t.s y;have l:=Ev (TB:=TB) t.q (Cr ht);have b:=CJ (TB:=TB) (Hp .i64 t.s.al t.al);rw[Jx p.1 n]at b;have b:Pure Tryz.prog TB 53 [eI .i64 (Hp .i64 t.s.al t.al)] (Ak (Cg t)):=b;rw[show SV t I8=Cq t from rfl]at e;have v:mapA .u16 (Nm [])=[]:=rfl;have r:Ht I8=[1,0,0,0,0,0,0,0,0,0,0,0]:=rfl;refine Bd.Bj (Bd.Ui (m:=0) (ce rfl) Tryz.func52 rfl (by kernel_rfl) (ce rfl) ?_);intro U a;(repeat first|refine tA rfl ?_|refine aU rfl ?_|apply Aa);refine rG (Jp [(14,1),(15,1),(16,1)]) (by kernel_rfl) ?_;(repeat first|refine tX rfl ?_|refine sP rfl (u) rfl ?_|refine sP rfl (l) rfl ?_|refine sP rfl (b) rfl ?_|(refine Al rfl ?_;refine gA rfl ?_;first|refine gS (λ_ _=>fO rfl rfl rfl) ?_));(refine pW rfl ?_ rfl (by rfl);refine J7 ?_);(refine pW rfl ?_ rfl (by rfl);refine cg 10 12 150 12 6 94 13 1 4 rfl rfl rfl (by decide) rfl rfl (by rfl) (by rfl) ?_);(refine pW rfl ?_ rfl (by rfl);refine KG rfl rfl ?_);(repeat first|refine tA rfl ?_);apply Aa;refine Aj.Ay [] [] rfl rfl [(3,.o (.ptr 0 14 0 0))] [(0,.cells 89 14 [Qm t (.arr 1 12 0 0) (.mp 2) (.arr 3 6 0 0) (.arr 4 1 0 0)]),(1,.cells 150 12 []),(2,.mp []),(3,.cells 94 6 []),(4,.cells 4 1 [])] [4,1,0,2,3] (rl a rfl) (by (simp[cX,zC,a,AT])) ?_;(try dsimp only[cA,cB]);(repeat first|refine tA rfl ?_|(refine Al rfl ?_;refine gA rfl ?_;first|refine gS (λ_ _=>AS rfl rfl (by rfl) (by rfl)) ?_)|refine aU rfl ?_);(refine pW rfl ?_ rfl (by rfl);refine Ag [0,1,2,3,4] rfl rfl (e) ⟨rfl,by decide,by decide⟩ rfl (by simp[cX,zC,a,AT,r,v]) ?_;rintro z g h ⟨rfl,rfl,rfl⟩ _);(refine pW rfl ?_ rfl (by rfl);refine BY [0,1,2,3,4] rfl rfl 1 (f) (by decide) ⟨rfl,by decide,by decide⟩ rfl (by simp[cX,zC,a,AT]) ?_;rintro z g h ⟨rfl,rfl,rfl⟩ _);apply Aa;(repeat first|refine tA rfl ?_|refine aU rfl ?_|apply Aa);refine aR ⟨_,rfl,[0,5,6,7,8],.o (.ptr 0 14 0 0),VX t j,⟨by intro i hi;omega,by decide⟩,rfl,by (simp[cX,zC,a,AT]),rfl,rfl,rfl⟩
def YL:List W:=[[97,98,32,43,49,44,48,32,45,49,44,49],[97,98,32,43,48,44,49,32,43,50,44,49,32,45,50,44,50],[97,99,32,43,49,44,50,32,43,49,44,50,32,45,50,44,50],[98,32,43,49,32,45,49],[97,98,99,32,43,49,44,48,44,50,32,43,50,44,48,44,49,32,45,50,44,50,44,50],[45,32,43],[45,32,45],[97,32,43,49,32,45,48],[97,98,32,43,48,44,49,32,45,48,44,49],[98,99,32,43,49,44,50,32,43,50,44,48,32,45,50,44,50],[97,98,32,43,49,44,50,32,45,49,44,51,32,43,52,44,50,32,45,49,44,51,32,43,52,44,50],[97,98,99,32,43,48,44,49,44,48,32,43,48,44,49,44,50,32,45,50,44,50,44,50]]
theorem db:∀w∈YL,w.length<=40:=by decide
theorem XI:Pure Tryz.prog TB 110 [] (Cb YL):=by
 refine eN Tryz.func110 rfl (by kernel_rfl) rfl ?_;intro U a;(repeat first|refine tA rfl ?_|refine aU rfl ?_|apply Aa);refine aR ⟨_,rfl,rfl⟩
theorem bQ(b:List UInt8)(hb:b.length<=2000)(p:Int)(B:0<=p/\p<700000000):Spec Tryz.prog TB 49 [(0,Bb b p)] 1 [.o (.ptr 0 2 0 0)] (Jg b p 60 (λa=>I9 41 a)):=by
 obtain⟨c,G,F,hp⟩:=A4 (TB:=TB) b hb p 3 (by omega);obtain⟨w,x,z⟩:=kF (TB:=TB) b hb (p+1) (by omega) YL (by decide) (by decide);have v:=db w x;have n:=Hi (TB:=TB) w (by omega);refine eR Tryz.func49 rfl (by kernel_rfl) rfl ?_;intro U d;(repeat first|refine tA rfl ?_|refine aU rfl ?_|apply Aa);(refine pW rfl ?_ rfl (by rfl);refine Ag [0] rfl rfl (hp) ⟨rfl,by decide,by decide⟩ rfl (by simp[cX,zC,d,cN]) ?_;rintro h f g ⟨rfl,rfl,rfl⟩ _);(repeat first|refine s2 rfl λ_ A=>?_|apply Aa);(refine aC rfl ?_ ?_<;>rintro⟨⟩)
 ·(repeat first|refine tA rfl ?_|refine sP rfl (XI) rfl ?_|refine aU rfl ?_)
  (refine pW rfl ?_ rfl (by rfl);refine Ag [0] rfl rfl (z) ⟨rfl,by decide,by decide⟩ rfl (by simp[cX,zC,d,cN]) ?_;rintro h f g ⟨rfl,rfl,rfl⟩ _);(refine pW rfl ?_ rfl (by rfl);refine Ag [] rfl rfl (n) ⟨rfl,by decide,by decide⟩ rfl trivial ?_;rintro h f g ⟨⟨a,ok⟩,ha,rfl,rfl,rfl⟩ _);have s:I9 (w.length+1) a:=ha;(repeat first|refine tA rfl ?_|refine aU rfl ?_|apply Aa);(refine aC rfl ?_ ?_<;>rintro⟨⟩)
  ·(repeat first|refine tA rfl ?_|refine aU rfl ?_|apply Aa)
   exact aR ⟨_,rfl,[0],Bh a,[(0,Bb b (p+1+1))],⟨by intro i hi;match i with|0=>rfl,by decide⟩,rfl,by (simp[cX,zC,d,cN]),p+1+1,a,by omega,⟨by have:=s.nx;omega,by have:=s.ac;omega,λr j=>by have:=s.row r j;omega⟩,rfl,rfl,rfl⟩
  apply aK;obtain⟨l,u,m⟩:=CP (TB:=TB) b hb (p+1+1) (by omega) [3,6,7,5,1,0,2] (by decide) (by decide);have t:=HX (TB:=TB) b hb (p+1+1+1) (by omega) l;(repeat first|refine tA rfl ?_|refine aU rfl ?_);(refine pW rfl ?_ rfl (by rfl);refine Ag [0] rfl rfl (m) ⟨rfl,by decide,by decide⟩ rfl (by simp[cX,zC,d,cN]) ?_;rintro h f g ⟨rfl,rfl,rfl⟩ _);(refine pW rfl ?_ rfl (by rfl);refine Ag [0] rfl rfl (t) ⟨rfl,by decide,by decide⟩ rfl (by simp[cX,zC,d,cN]) ?_;rintro h f g ⟨q,k,y,⟨_,e⟩,rfl,rfl,rfl⟩ _);(repeat first|refine tA rfl ?_|apply Aa);exact aR ⟨_,rfl,[0],Bh k,[(0,Bb b (q))],⟨by intro i hi;match i with|0=>rfl,by decide⟩,rfl,by (simp[cX,zC,d,cN]),q,k,by omega,⟨by have:=e.nx;omega,by have:=e.ac;omega,λr j=>by have:=e.row r j;omega⟩,rfl,rfl,rfl⟩
 apply aK;obtain⟨l,u,m⟩:=CP (TB:=TB) b hb (p+1) (by omega) [3,6,7,5,1,0,2] (by decide) (by decide);have t:=HX (TB:=TB) b hb (p+1+1) (by omega) l;(repeat first|refine tA rfl ?_|refine aU rfl ?_);(refine pW rfl ?_ rfl (by rfl);refine Ag [0] rfl rfl (m) ⟨rfl,by decide,by decide⟩ rfl (by simp[cX,zC,d,cN]) ?_;rintro h f g ⟨rfl,rfl,rfl⟩ _);(refine pW rfl ?_ rfl (by rfl);refine Ag [0] rfl rfl (t) ⟨rfl,by decide,by decide⟩ rfl (by simp[cX,zC,d,cN]) ?_;rintro h f g ⟨q,k,y,⟨_,e⟩,rfl,rfl,rfl⟩ _);(repeat first|refine tA rfl ?_|apply Aa);exact aR ⟨_,rfl,[0],Bh k,[(0,Bb b (q))],⟨by intro i hi;match i with|0=>rfl,by decide⟩,rfl,by (simp[cX,zC,d,cN]),q,k,by omega,⟨by have:=e.nx;omega,by have:=e.ac;omega,λr j=>by have:=e.row r j;omega⟩,rfl,rfl,rfl⟩
theorem I9.mono{m n:Nat}{a:AK}(h:I9 m a)(b:m<=n):I9 n a:=⟨pm h.nx b,pm h.ac b,λr c=>pm (h.row r c) b⟩
abbrev SO(a:AK):List C:=[.d (iD a.al),.d (Ce a.nx),.d (FP a.ac)]
def Lr(b:List UInt8)(p m:Int)(P:Sys->Prop)(x:E)(σ:Ac)(nx:Nat):Prop:=∃(p':Int) (s:Sys),(p<=p'/\p'<=p+m)/\P s/\x=BK s/\σ=[(0,Bb b p')]/\nx=1
def pk(n:Int)(s:Sys):Prop:=s.st=n/\(∀e∈s.es,0<=e.t/\e.t<n)/\s.es.length<=400
theorem Jw(b:List UInt8)(hb:b.length<=2000)(p:Int)(h0:0<=p/\p<900000000)(al n few:Int)(Z:0<=n/\n<=8):Bd Tryz.prog TB 87 1 [(0,Bb b p)] 1 [.o (.ptr 0 2 0 0),eI .i64 al,eI .i64 n,eI .i64 few] (Lr b p 400 (pk n)):=by
 have V:(Ab al).length<=6:=AJ al 6;refine Bd.Bj (Bd.Ui (m:=1) (ce rfl) Tryz.func87 rfl (by kernel_rfl) (ce rfl) ?_);intro U a;(repeat first|refine tA rfl ?_|refine aU rfl ?_|apply Aa);(refine pW rfl ?_ rfl (by rfl);refine Gd 2 3 78 rfl rfl rfl (by rfl) (by rfl) ?_);(repeat first|refine tA rfl ?_|refine sP rfl (BX al) rfl ?_|refine aU rfl ?_|apply Aa);apply aB;refine aL (α:={s:Nat×Int×List Ea // (s.1:Int)<=n/\(p<=s.2.1/\s.2.1<=p+48*s.1)/\(s.2.2.length:Int)<=s.2.1-p/\∀e∈s.2.2,0<=e.t/\e.t<n}) [0,2,3,8,9,10] [1] rfl rfl (λs=>[(11,eI .i64 s.1.1)]) (λs=>[(0,Bb b s.1.2.1),(2,.cells 78 3 (s.1.2.2.map A3)),(3,.cells 25 3 [[.d (iD al),.d (iD n),.arr 2 3 0 s.1.2.2.length]])]) 4 (λs=>n.toNat-s.1.1) (⟨⟨0,p,[]⟩,by simp;omega⟩) a rfl (by (simp[cX,zC,a])) ?_;rintro⟨⟨k,q,es⟩,hk,P,F,K⟩;(try dsimp only[cA,cB]);have hk:(k:Int)<=n:=hk;have P:p<=q/\q<=p+48*k:=P;have F:(es.length:Int)<=q-p:=F;(repeat first|refine tM rfl ?_|refine s2 rfl λ_ f=>?_|refine aU rfl ?_|apply Aa)
 ((refine aC rfl ?_ ?_<;>rintro⟨⟩);all_goals try (simp at f;done))
 ·have T : (k:Int)<n:=by (simp only[oZ] at *;omega)
  apply aK;refine aS (aB ?_);(repeat first|refine tX rfl ?_|refine aU rfl ?_|apply Aa);apply aB;refine aL (α:={s:Nat×Int×List Ea // s.1<=(Ab al).length/\(q<=s.2.1/\s.2.1<=q+8*s.1)/\(s.2.2.length:Int)<=s.2.1-p/\∀e∈s.2.2,0<=e.t/\e.t<n}) [0,2,3,8,9,10,11] [1] rfl rfl (λs=>[(12,eI .i64 s.1.1)]) (λs=>[(0,Bb b s.1.2.1),(2,.cells 78 3 (s.1.2.2.map A3)),(3,.cells 25 3 [[.d (iD al),.d (iD n),.arr 2 3 0 s.1.2.2.length]])]) 4 (λs=>(Ab al).length-s.1.1) (⟨⟨0,q,es⟩,by simp,by simp,F,K⟩) a rfl (by (simp[cX,zC,a])) ?_;rintro⟨⟨i,u,z⟩,hi,M,g,y⟩;(try dsimp only[cA,cB]);have hi:i<=(Ab al).length:=hi;have M:q<=u/\u<=q+8*i:=M;have g:(z.length:Int)<=u-p:=g;clear K F;(repeat first|refine sN rfl ?_|refine tM rfl ?_|refine s2 rfl λ_ f=>?_|refine aU rfl ?_|apply Aa)
  ((refine aC rfl ?_ ?_<;>rintro⟨⟩);all_goals try (simp at f;done))
  ·have B:i<(Ab al).length:=by (simp only[oZ] at *;omega)
   obtain⟨l,G⟩:=get_some B
   have X:((Ab al).map Bc)[((i:Nat):Int).toNat]?=some (Bc l):=by rw[d8];simp[G]
   apply aK;refine aS (aB ?_);(repeat first|refine tX rfl ?_|refine aU rfl ?_|apply Aa);apply aB;refine aL (α:={s:Nat×Int×List Ea // (s.1:Int)<=n/\(u<=s.2.1/\s.2.1<=u+s.1)/\(s.2.2.length:Int)<=s.2.1-p/\∀e∈s.2.2,0<=e.t/\e.t<n}) [0,2,3,8,9,10,11,12] [1] rfl rfl (λs=>[(13,eI .i64 s.1.1)]) (λs=>[(0,Bb b s.1.2.1),(2,.cells 78 3 (s.1.2.2.map A3)),(3,.cells 25 3 [[.d (iD al),.d (iD n),.arr 2 3 0 s.1.2.2.length]])]) 4 (λs=>n.toNat-s.1.1) (⟨⟨0,u,z⟩,by simp;omega,by simp,g,y⟩) a rfl (by (simp[cX,zC,a])) ?_;rintro⟨⟨j,v,h⟩,Q,L,w,x⟩;(try dsimp only[cA,cB]);have Q:(j:Int)<=n:=Q;have L:u<=v/\v<=u+j:=L;have w:(h.length:Int)<=v-p:=w;clear y g;(repeat first|refine tM rfl ?_|refine s2 rfl λ_ f=>?_|refine aU rfl ?_|apply Aa)
   ((refine aC rfl ?_ ?_<;>rintro⟨⟩);all_goals try (simp at f;done))
   ·obtain⟨c,c1,c2,hp⟩:=A4 (TB:=TB) b hb v few (by omega)
    have I:(j:Int)<n:=by (simp only[oZ] at *;omega)
    apply aK;refine aS (aB ?_);(repeat first|refine tA rfl ?_|refine aU rfl ?_);(refine pW rfl ?_ rfl (by rfl);refine Ag [0] rfl rfl (hp) ⟨rfl,by decide,by decide⟩ rfl (by simp[cX,zC,a]) ?_;rintro Y R S ⟨rfl,rfl,rfl⟩ _);(repeat first|refine s2 rfl λ_ f=>?_|apply Aa);(refine aC rfl ?_ ?_<;>rintro⟨⟩)
    ·refine rG (Jp [(1,13),(10,1),(12,1)]) (by kernel_rfl) ?_
     (repeat first|refine tA rfl ?_|(refine s4 rfl ‹_› rfl ?_ ?_;omega)|(refine Al rfl ?_;refine gA rfl ?_;first|refine gS (λ_ _=>AS rfl rfl (by rfl) (by rfl)) ?_));(refine pW rfl ?_ rfl (by rfl);refine Au rfl rfl rfl (by first|(simp;done)|(simp;(omega))) rfl (by intro r N;simp at N;subst N;rfl) (by rfl) (ce rfl) (by simp;omega) ?_);(repeat first|(refine sA rfl ?_ ?_;first|exact tI|omega)|refine aU rfl ?_|apply Aa)
     have J:∀e∈h++[(⟨k,l,j⟩:Ea)],0<=e.t/\e.t<n:=λe A=>by
      rcases gc.1 A with A|A
      ·exact x e A
      ·simp at A;subst A;exact⟨by dsimp only;omega,I⟩
     refine⟨⟨⟨j+1,v+1,h++[⟨k,l,j⟩]⟩,by dsimp only;omega,by dsimp only;omega,by simp;omega,J⟩,by dsimp only;(omega),[0,1,4,3],?_⟩;(simp[cX,zC,a,cN]<;>rfl)
    ·apply aK
     (repeat first|(refine sA rfl ?_ ?_;first|exact tI|omega)|refine aU rfl ?_|apply Aa);refine⟨⟨⟨j+1,v+1,h⟩,by dsimp only;omega,by dsimp only;omega,by dsimp only;omega,x⟩,by dsimp only;(omega),[0,1,2,3],?_⟩;(simp[cX,zC,a,cN]<;>rfl)
   ·have H:(j:Int)=n:=by (simp only[oZ] at *;omega)
    apply aE;(repeat first|(refine sA rfl ?_ ?_;first|exact tI|omega)|refine aU rfl ?_|apply Aa);refine⟨⟨⟨i+1,v,h⟩,by dsimp only;omega,by dsimp only;omega,w,x⟩,by dsimp only;(omega),[0,1,2,3],?_⟩;(simp[cX,zC,a,cN]<;>rfl)
  ·apply aE
   have B:i=(Ab al).length:=by (simp only[oZ] at *;omega)
   (repeat first|(refine sA rfl ?_ ?_;first|exact tI|omega)|refine aU rfl ?_|apply Aa);refine⟨⟨⟨k+1,u,z⟩,by dsimp only;omega,by dsimp only;omega,g,y⟩,by dsimp only;(omega),[0,1,2,3],?_⟩;(simp[cX,zC,a,cN]<;>rfl)
 ·have H:(k:Int)=n:=by (simp only[oZ] at *;omega)
  apply aE;(repeat first|refine tA rfl ?_|refine aU rfl ?_|apply Aa);refine Aj.AA [1,2] [(8,.o (.ip [iD al,iD n,Em es]))] ⟨⟨_,rfl,.inr (.o (.box rfl (.cons .d (.cons .d (.cons (.full rfl (by simp[d5]) (by simp)) .nil)))))⟩,trivial⟩ ?_;refine aR ⟨_,rfl,[0],BK ⟨al,n,es⟩,[(0,Bb b q)],⟨by intro i hi;match i with|0=>rfl,by decide⟩,rfl,by (simp[cX,zC,a,cN]),q,⟨al,n,es⟩,by omega,⟨rfl,K,by dsimp only;omega⟩,rfl,rfl,rfl⟩
def qb(m:Int)(s:Sys):Prop:=(∀e∈s.es,0<=e.t/\e.t<m)/\s.es.length<=400
theorem pk.le{n m:Int}{s:Sys}(h:pk n s)(b:n<=m):qb m s:=⟨λe a=>by have:=h.2.1 e a;omega,h.2.2⟩
theorem PJ(b:List UInt8)(hb:b.length<=2000)(p:Int)(x:0<=p/\p<800000000):Spec Tryz.prog TB 173 [(0,Bb b p)] 1 [.o (.ptr 0 2 0 0)] (Lr b p 403 (qb 5)):=by
 obtain⟨j,v,r⟩:=CP (TB:=TB) b hb p (by omega) [3,6,7,5,2] (by decide) (by decide);obtain⟨g,l,n⟩:=CP (TB:=TB) b hb (p+1) (by omega) [2,3,1,3] (by decide) (by decide);obtain⟨h,u,m⟩:=CP (TB:=TB) b hb (p+1+1) (by omega) [2,3,4] (by decide) (by decide)
 have k:1<=g/\g<=3:=by simp at l;omega
 have f:=Jw (TB:=TB) b hb (p+1+1+1) (by omega) j g h (by omega);refine eR Tryz.func173 rfl (by kernel_rfl) rfl ?_;intro U a;(repeat first|refine tA rfl ?_|refine aU rfl ?_|apply Aa);(refine pW rfl ?_ rfl (by rfl);refine Ag [0] rfl rfl (r) ⟨rfl,by decide,by decide⟩ rfl (by simp[cX,zC,a]) ?_;rintro e c d ⟨rfl,rfl,rfl⟩ _);(repeat first|refine tA rfl ?_);(refine pW rfl ?_ rfl (by rfl);refine Ag [0] rfl rfl (n) ⟨rfl,by decide,by decide⟩ rfl (by simp[cX,zC,a]) ?_;rintro e c d ⟨rfl,rfl,rfl⟩ _);(repeat first|refine tA rfl ?_);(refine pW rfl ?_ rfl (by rfl);refine Ag [0] rfl rfl (m) ⟨rfl,by decide,by decide⟩ rfl (by simp[cX,zC,a]) ?_;rintro e c d ⟨rfl,rfl,rfl⟩ _);(refine pW rfl ?_ rfl (by rfl);refine BY [0] rfl rfl 1 (f) (by decide) ⟨rfl,by decide,by decide⟩ rfl (by simp[cX,zC,a,cN]) ?_;rintro e c d ⟨q,s,w,t,rfl,rfl,rfl⟩ _);(repeat first|refine tA rfl ?_|apply Aa);refine aR ⟨_,rfl,[0],BK s,[(0,Bb b q)],⟨by intro i hi;match i with|0=>rfl,by decide⟩,rfl,by (simp[cX,zC,a,cN]),q,s,by omega,t.le (by omega),rfl,rfl,rfl⟩
theorem bP(b:List UInt8)(hb:b.length<=2000)(p:Int)(j:0<=p/\p<800000000):∃n:Int,Spec Tryz.prog TB 212 [(0,Bb b p)] 1 [.o (.ptr 0 2 0 0)] (λx σ nx=>x=eI .i64 n/\σ=[(0,Bb b (p+1))]/\nx=1):=by
 obtain⟨e,h,f⟩:=CP (TB:=TB) b hb p (by omega) [3,7,1,5,0,6,63,2,21] (by decide) (by decide);refine⟨e,?_⟩;refine eR Tryz.func212 rfl (by kernel_rfl) rfl ?_;intro U a;(repeat first|refine tA rfl ?_|refine aU rfl ?_|apply Aa);(refine pW rfl ?_ rfl (by rfl);refine Ag [0] rfl rfl (f) ⟨rfl,by decide,by decide⟩ rfl (by simp[cX,zC,a]) ?_;rintro g c d ⟨rfl,rfl,rfl⟩ _);(repeat first|refine tA rfl ?_|apply Aa);refine aR ⟨_,rfl,?_⟩;refine⟨[0],_,[(0,Bb b (p+1))],⟨by first|(simp;done)|decide|(intro i hi;match i with|0=>rfl),by decide⟩,rfl,by (simp[cX,zC,a]),rfl,rfl,rfl⟩
theorem Rw(b:List UInt8)(hb:b.length<=2000)(p:Int)(P:0<=p/\p<700000000)(al:Int):Spec Tryz.prog TB 174 [(0,Bb b p)] 1 [.o (.ptr 0 2 0 0),eI .i64 al] (Jg b p 100 (λa=>I9 6 a)):=by
 obtain⟨v,N,I⟩:=CP (TB:=TB) b hb p (by omega) [63,63,5,3,6] (by decide) (by decide);obtain⟨c,R,Q,hp⟩:=A4 (TB:=TB) b hb (p+1) 8 (by omega);obtain⟨H,J⟩:=bP (TB:=TB) b hb (p+1+1) (by omega);refine eR Tryz.func174 rfl (by kernel_rfl) rfl ?_;intro U e;(repeat first|refine tA rfl ?_|refine aU rfl ?_|apply Aa);(refine pW rfl ?_ rfl (by rfl);refine Ag [0] rfl rfl (I) ⟨rfl,by decide,by decide⟩ rfl (by simp[cX,zC,e]) ?_;rintro h f g ⟨rfl,rfl,rfl⟩ _);(repeat first|refine tA rfl ?_|refine aU rfl ?_|apply Aa);(refine pW rfl ?_ rfl (by rfl);refine Ag [0] rfl rfl (hp) ⟨rfl,by decide,by decide⟩ rfl (by simp[cX,zC,e]) ?_;rintro h f g ⟨rfl,rfl,rfl⟩ _);(repeat first|refine s2 rfl λ_ u=>?_|apply Aa);(refine aC rfl ?_ ?_<;>rintro⟨⟩)
 ·(repeat first|refine tA rfl ?_|refine aU rfl ?_)
  (refine pW rfl ?_ rfl (by rfl);refine Ag [0] rfl rfl (J) ⟨rfl,by decide,by decide⟩ rfl (by simp[cX,zC,e]) ?_;rintro h f g ⟨rfl,rfl,rfl⟩ _);(repeat first|refine tA rfl ?_|refine aU rfl ?_|apply Aa);obtain⟨M,L,K,m⟩:=A4 (TB:=TB) b hb (p+1+1+1) 4 (by omega);obtain⟨k,x,y⟩:=CP (TB:=TB) b hb (p+1+1+1+1) (by omega) [3,2,4,1] (by decide) (by decide)
  have w:1<=k/\k<=4:=by simp at x;omega
  have G:=Nj (TB:=TB) b hb (p+1+1+1+1+1) (by omega) (H) k (by omega);have F:=HX (TB:=TB) b hb (p+1+1+1+1) (by omega) (H)
  obtain⟨j,rfl⟩:∃j,j=H:=⟨_,rfl⟩
  (refine pW rfl ?_ rfl (by rfl);refine Ag [0] rfl rfl (m) ⟨rfl,by decide,by decide⟩ rfl (by simp[cX,zC,e]) ?_;rintro h f g ⟨rfl,rfl,rfl⟩ _);(repeat first|refine s2 rfl λ_ u=>?_|apply Aa);(refine aC rfl ?_ ?_<;>rintro⟨⟩)
  ·(repeat first|refine tA rfl ?_|refine aU rfl ?_)
   (refine pW rfl ?_ rfl (by rfl);refine Ag [0] rfl rfl (y) ⟨rfl,by decide,by decide⟩ rfl (by simp[cX,zC,e]) ?_;rintro h f g ⟨rfl,rfl,rfl⟩ _);(refine pW rfl ?_ rfl (by rfl);refine BY [0] rfl rfl 1 (G) (by decide) ⟨rfl,by decide,by decide⟩ rfl (by simp[cX,zC,e,cN]) ?_;rintro h f g ⟨q,l,ac,A,B,n,z,rfl,rfl,rfl⟩ _);(repeat first|refine tA rfl ?_|apply Aa);refine Aj.Ay [4] [] rfl rfl [] [(0,Bb b q),(1,.cells 29 3 [[.d (iD j),.arr 2 1 0 l.length,.arr 3 1 0 ac.length]]),(2,.cells 63 1 (AH l)),(3,.cells 4 1 (ac.map AO)),(4,.sld 3 (sI l))] [0,1,2,3,4] (rl e rfl) (by (simp[cX,zC,e,cN])) ?_;(try dsimp only[cA,cB]);refine Aj.AA [1,2,3,4] [(4,.o (.ip (AE ⟨j,l.map (·.2),ac⟩)))] ⟨⟨_,rfl,.inr (.o (.box rfl (.cons .d (.cons (.OB (s:=4) rfl rfl) (.cons (.full rfl (by simp[d5]) (by simp)) .nil)))))⟩,trivial⟩ ?_;refine aR ⟨_,rfl,[0],Bh ⟨j,l.map (·.2),ac⟩,[(0,Bb b q)],⟨by intro i hi;match i with|0=>rfl,by decide⟩,rfl,by (simp[cX,zC,e,cN]),q,_,by omega,TK B n z (by omega) (by omega),rfl,rfl,rfl⟩
  ·apply aK
   (repeat first|refine tA rfl ?_|refine aU rfl ?_);(refine pW rfl ?_ rfl (by rfl);refine Ag [0] rfl rfl (F) ⟨rfl,by decide,by decide⟩ rfl (by simp[cX,zC,e,cN]) ?_;rintro h f g ⟨q,t,A,r,rfl,rfl,rfl⟩ _);(repeat first|refine tA rfl ?_|apply Aa);refine aR ⟨_,rfl,[0],Bh t,[(0,Bb b q)],⟨by intro i hi;match i with|0=>rfl,by decide⟩,rfl,by (simp[cX,zC,e,cN]),q,t,by omega,r.2,rfl,rfl,rfl⟩
 ·apply aK
  (repeat first|refine tA rfl ?_|refine aU rfl ?_);obtain⟨M,L,K,m⟩:=A4 (TB:=TB) b hb (p+1+1) 4 (by omega);obtain⟨k,x,y⟩:=CP (TB:=TB) b hb (p+1+1+1) (by omega) [3,2,4,1] (by decide) (by decide)
  have w:1<=k/\k<=4:=by simp at x;omega
  have G:=Nj (TB:=TB) b hb (p+1+1+1+1) (by omega) (Gk .i64 al v) k (by omega);have F:=HX (TB:=TB) b hb (p+1+1+1) (by omega) (Gk .i64 al v);generalize Gk .i64 al v=j at *;(refine pW rfl ?_ rfl (by rfl);refine Ag [0] rfl rfl (m) ⟨rfl,by decide,by decide⟩ rfl (by simp[cX,zC,e]) ?_;rintro h f g ⟨rfl,rfl,rfl⟩ _);(repeat first|refine s2 rfl λ_ u=>?_|apply Aa);(refine aC rfl ?_ ?_<;>rintro⟨⟩)
  ·(repeat first|refine tA rfl ?_|refine aU rfl ?_)
   (refine pW rfl ?_ rfl (by rfl);refine Ag [0] rfl rfl (y) ⟨rfl,by decide,by decide⟩ rfl (by simp[cX,zC,e]) ?_;rintro h f g ⟨rfl,rfl,rfl⟩ _);(refine pW rfl ?_ rfl (by rfl);refine BY [0] rfl rfl 1 (G) (by decide) ⟨rfl,by decide,by decide⟩ rfl (by simp[cX,zC,e,cN]) ?_;rintro h f g ⟨q,l,ac,A,B,n,z,rfl,rfl,rfl⟩ _);(repeat first|refine tA rfl ?_|apply Aa);refine Aj.Ay [4] [] rfl rfl [] [(0,Bb b q),(1,.cells 29 3 [[.d (iD j),.arr 2 1 0 l.length,.arr 3 1 0 ac.length]]),(2,.cells 63 1 (AH l)),(3,.cells 4 1 (ac.map AO)),(4,.sld 3 (sI l))] [0,1,2,3,4] (rl e rfl) (by (simp[cX,zC,e,cN])) ?_;(try dsimp only[cA,cB]);refine Aj.AA [1,2,3,4] [(4,.o (.ip (AE ⟨j,l.map (·.2),ac⟩)))] ⟨⟨_,rfl,.inr (.o (.box rfl (.cons .d (.cons (.OB (s:=4) rfl rfl) (.cons (.full rfl (by simp[d5]) (by simp)) .nil)))))⟩,trivial⟩ ?_;refine aR ⟨_,rfl,[0],Bh ⟨j,l.map (·.2),ac⟩,[(0,Bb b q)],⟨by intro i hi;match i with|0=>rfl,by decide⟩,rfl,by (simp[cX,zC,e,cN]),q,_,by omega,TK B n z (by omega) (by omega),rfl,rfl,rfl⟩
  ·apply aK
   (repeat first|refine tA rfl ?_|refine aU rfl ?_);(refine pW rfl ?_ rfl (by rfl);refine Ag [0] rfl rfl (F) ⟨rfl,by decide,by decide⟩ rfl (by simp[cX,zC,e,cN]) ?_;rintro h f g ⟨q,t,A,r,rfl,rfl,rfl⟩ _);(repeat first|refine tA rfl ?_|apply Aa);refine aR ⟨_,rfl,[0],Bh t,[(0,Bb b q)],⟨by intro i hi;match i with|0=>rfl,by decide⟩,rfl,by (simp[cX,zC,e,cN]),q,t,by omega,r.2,rfl,rfl,rfl⟩
end Go.Am
