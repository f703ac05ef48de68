/-
  The closure under letters that are not seen: walked.
-/
import Derived.Test.YtgpbfllcjdfelaaGreatDoorPart32
import Derived.Test.YtgpbfllcjdfelaaGreatDoorPart25
import Derived.Test.YtgpbfllcjdfelaaGreatDoorPart31
set_option linter.all false
namespace Go.Am
open Go Go.Proofs
set_option maxHeartbeats 1000000
set_option maxRecDepth 4000
attribute [local irreducible] AW BQ Lex A9 Aj Spec
variable {TB:Bp}
def HW(t:CR)(F:PS)(ls:List Int):PS:=λp=>ls.foldl (λa l=>a ||| VY t l F p) (F p)
def Kw(A B:PS)(k:Nat):PS:=λp=>if p < k then A p ||| B p else A p
theorem XN{A B:PS}{k:Nat}:Kw A B (k+1)=λp=>if p=k then Kw A B k k ||| B k else Kw A B k p:=by
 funext p;unfold Kw;by_cases e:p=k
 ·subst e;simp
 ·by_cases h:p < k
  ·rw [if_pos (by omega),if_neg e,if_pos h]
  ·rw [if_neg (by omega),if_neg e,if_neg h]
theorem YU{t:CR}{F:PS}{ls:List Int}{l:Int}:HW t F (ls++[l])=λp=>HW t F ls p ||| VY t l F p:=by
 funext p;unfold HW;rw [ow];rfl
theorem Wv{α:Type}{g:α->Nat}{j:Nat}:∀ {l:List α} {a:Nat},(l.foldl (λa x=>a ||| g x) a).testBit j=true↔a.testBit j=true\/∃x∈l,(g x).testBit j=true
 | [],a=>by simp
 | x::l,a=>by
  rw [mM,Wv,nT,lK];simp [or_assoc]
theorem GP{t:CR}{F:PS}{ls:List Int}{p j:Nat}:(HW t F ls p).testBit j=true↔(F p).testBit j=true\/∃l∈ls,(VY t l F p).testBit j=true:=Wv
theorem Vt{t:CR}(ht:Bv t=true){F:PS}(h:DG t F){ls:List Int}(d:∀l∈ls,0<=l/\l < 6):DG t (HW t F ls):=by
 refine⟨λp=>J7 λj e=>?_,λp c=>GU λj=>?_⟩
 ·rcases GP.1 e with a|⟨l,a,b⟩
  ·exact Kr (h.lt p) a
  ·exact Kr ((LI ht (d l a) h).lt p) b
 ·cases hb:(HW t F ls p).testBit j
  ·rfl
  ·rcases GP.1 hb with a|⟨l,a,b⟩
   ·rw [h.z p c] at a;simp at a
   ·rw [(LI ht (d l a) h).z p c] at b;simp at b
theorem sub_le{a b:Nat}(h:∀j,a.testBit j=true->b.testBit j=true):a<=b:=by
 have:a ||| b=b:=mU λj=>by
  rw [nT];cases ha:a.testBit j
  ·simp
  ·simp [h j ha]
 rw [<-this];exact Nat.left_le_or
def SA(F:PS):Nat:=(65535 - F 0)+(65535 - F 1)+(65535 - F 2)+(65535 - F 3)+(65535 - F 4)+(65535 - F 5)+(65535 - F 6)+(65535 - F 7)+(65535 - F 8)+(65535 - F 9)+(65535 - F 10)+(65535 - F 11)
theorem cR{F G:PS}(j:∀p,F p < 65536)(a:∀p,G p < 65536)(h:∀p,F p<=G p)(b:Gz G≠Gz F):SA G < SA F:=by
 have k:¬SA F<=SA G:=λc=>b (PW λp i=>by
  have K:=h 0;have J:=h 1;have I:=h 2;have H:=h 3;have B:=h 4;have A:=h 5;have z:=h 6;have y:=h 7;have x:=h 8;have w:=h 9;have g:=h 10;have f:=h 11;have v:=a 0;have u:=a 1;have t:=a 2;have s:=a 3;have r:=a 4;have q:=a 5;have o:=a 6;have n:=a 7;have m:=a 8;have l:=a 9;have e:=a 10;have d:=a 11;unfold SA at c
  obtain rfl|rfl|rfl|rfl|rfl|rfl|rfl|rfl|rfl|rfl|rfl|rfl:p=0\/p=1\/p=2\/p=3\/p=4\/p=5\/p=6\/p=7\/p=8\/p=9\/p=10\/p=11:=by omega
  all_goals omega)
 omega
theorem dQ{F:PS}(h:∀p,F p < 65536):∀x∈Gz F,(Lit.int .u16 x).wf=true:=λx a=>by
 have:∃p,x=(F p:Int):=by
  unfold Gz at a;simp only [lF,oN,or_false] at a
  rcases a with h|h|h|h|h|h|h|h|h|h|h|h<;>exact⟨_,h⟩
 obtain⟨p,rfl⟩:=this;have:=h p;simp [Lit.wf,IntKind.min,IntKind.max,IntKind.signed,IntKind.bits];omega
section
variable {t:CR}(ht:Bv t=true)
include ht
theorem YV{F0 F:PS}(c:∀p j,(F p).testBit j=true->Qn t F0 p j){p j:Nat}(h:(HW t F (C0 t) p).testBit j=true):Qn t F0 p j:=by
 rcases GP.1 h with a|⟨l,b,a⟩
 ·exact c p j a
 ·obtain⟨q,m,d,hb⟩:=Ky.1 a
  unfold Fe at hb;rw [if_pos (Em ht b).2.2] at hb;obtain⟨e,f,⟨k,i⟩,g⟩:=EN.1 hb;subst k;have:=Qn.step (c q _ i) f b rfl;rw [d,g] at this
  simpa using this
theorem Xj{F0 F:PS}(k:DG t F0)(g:DG t F)(i:∀p j,(F0 p).testBit j=true->(F p).testBit j=true)(h:∀p j,(F p).testBit j=true->Qn t F0 p j)(f:HW t F (C0 t)=F):F=Xi t F0:=
 eQ ht k g.z i h λp l j b c d=>by
  have a:=Em ht c;have e:=CK (DB ht) b a.1 a.2.1;rw [<-f];refine GP.2 (.inr ⟨l,c,Ky.2 ⟨p,b,by omega,?_⟩⟩);unfold Fe;rw [if_pos a.2.2];exact d
end
theorem RZ[Dx TB]{t:CR}(ht:Bv t=true)(m:FK){F0:PS}(J:DG t F0):Spec Tryz.prog TB 179 (LV t m) 5 [.o (.ptr 0 14 0 0),fQ F0] (λx σ nx=>x=fQ (Xi t F0)/\σ=LV t m/\nx=5):=by
 have hah:=Ay (DB ht)
 have X:(C0 t).length<=6:=by
  unfold C0;have K:(Ac t.s.al).length<=6:=AN _ _;exact jp (nn _ _) K
 refine eR Tryz.func179 rfl (by kernel_rfl) rfl ?_;intro Z c;(repeat first|refine aU rfl ?_);(refine pW rfl ?_ rfl (by rfl);refine CT rfl rfl ?_);(repeat first|refine tM rfl ?_ |refine Aa ?_);refine aB ?_;refine aL (α:={F:PS // DG t F/\(∀p j,(F0 p).testBit j=true->(F p).testBit j=true)/\∀p j,(F p).testBit j=true->Qn t F0 p j}) [0,3,4] [0,1,2,3,4,6] rfl rfl (λs=>[]) (λs=>[(5,.cells 189 12 [PV s.1])]) 7 (λs=>SA s.1) (⟨F0,J,λ_ _ h=>h,λ_ _ h=>.base h⟩) c rfl (by (simp[cX,zC,c,A1]<;>rfl)) ?_;rintro⟨F,f,K,T⟩;(try dsimp only[cA,cB]);have f:DG t F:=f;refine aB ?_;(repeat first|refine sN rfl ?_ |refine tA rfl ?_ |refine aU rfl ?_ |refine Aa ?_);refine aB ?_;refine aL (α:={k:Nat // k<=(C0 t).length}) [0,3,4,5,14,15] [0,1,2,3,4,5,6] rfl rfl (λs=>[(16,eI .i64 s.1)]) (λs=>[(7,.cells 189 12 [PV (HW t F ((C0 t).take s.1))])]) 8 (λs=>(C0 t).length - s.1) (⟨0,by omega⟩) c rfl (by (simp[cX,zC,c,A1]<;>rfl)) ?_;rintro⟨k,hk⟩;(try dsimp only[cA,cB]);by_cases Q:k < (C0 t).length
 ·obtain⟨l,u⟩:=get_some Q
  have g:=Em ht (co u)
  have Y:((C0 t).map BB)[((k:Nat):Int).toNat]? = some (BB l):=by rw [i9];simp [u]
  have I:∀x∈(C0 t).take k,0<=x/\x < 6:=λx B=>by
   have:=Em ht (lU B);omega
  have y:=Vt ht f I;have hG:=LI ht (l:=l) ⟨g.1,g.2.1⟩ f
  have M:HW t F ((C0 t).take (k+1))=λp=>HW t F ((C0 t).take k) p ||| VY t l F p:=by rw [gt,u];exact YU
  have P:=VX (TB:=TB) ht m (l:=l) ⟨g.1,g.2.1⟩ f;generalize HW t F ((C0 t).take k)=A at *;generalize VY t l F=G at *;(repeat first|refine s2 rfl λ_ e=>?_ |refine aU rfl ?_ |refine Aa ?_)
  ((refine aC rfl ?_ ?_<;>rintro⟨⟩);all_goals try(exfalso;(simp only[oZ] at *;omega)))
  refine aK ?_;refine aS (aB ?_);(repeat first|refine tA rfl ?_ |(refine s4 rfl ‹_› rfl ?_ ?_;omega) |refine aU rfl ?_ |refine Aa ?_);(refine pW rfl ?_ rfl (by rfl);refine Ae [0,1,2,3,4] rfl rfl (P) ⟨rfl,by decide,by decide⟩ rfl (by simp[cX,zC,c,A1]) ?_;rintro x0 U V ⟨rfl,rfl,rfl⟩ _);(repeat first|refine tA rfl ?_);refine Aa ?_;refine aB ?_;refine aL (α:={p:Nat // p<=12}) [0,3,4,5,14,15,16,23] [0,1,2,3,4,5,6] rfl rfl (λs=>[(24,eI .i64 s.1)]) (λs=>[(7,.cells 189 12 [PV (Kw A G s.1)])]) 8 (λs=>12 - s.1) (⟨0,by omega⟩) c rfl (by (simp[cX,zC,c,A1]<;>rfl)) ?_;rintro⟨p,R⟩;(try dsimp only[cA,cB]);by_cases n:p < 12
  ·have B:(Gz G)[((p:Nat):Int).toNat]? = some (G p:Int):=by rw [i9];exact IZ n
   have ej:0+((p:Nat):Int).toNat*1=p:=by omega
   have q:Kw A G p p < 65536:=by
    unfold Kw;rw [if_neg (by omega)];exact y.lt p
   have w:(PV (Kw A G p))[0+((p:Nat):Int).toNat*1]? = some (.d (.v (.int .u16 (Kw A G p p:Int)))):=by rw [ej];exact Nm n
   have L:=VN q (hG.lt p);have i:=Wy (F:=Kw A G p) (p:=p) n (v:=Kw A G p p ||| G p);rw [<-XN] at i;(repeat first|refine s2 rfl λ_ e=>?_ |refine aU rfl ?_ |refine Aa ?_)
   ((refine aC rfl ?_ ?_<;>rintro⟨⟩);all_goals try(exfalso;(simp only[oZ] at *;omega)))
   refine aK ?_;refine aS (aB ?_);(repeat first|(refine sA rfl ?_ ?_;first|exact tI|omega)|(refine Ai rfl ?_;refine gA rfl ?_;first| refine gS (λ_ _=>KH (l:=Gz G) rfl rfl rfl (by omega) B) ?_|refine gQ (Oh rfl rfl rfl w) rfl ?_) |refine aU rfl ?_ |refine Aa ?_);(refine Ai rfl ?_;refine He ?_ rfl (by rfl);refine Bs (r:=PV (Kw A G p)) rfl rfl rfl rfl rfl rfl (by show 0+((p:Nat):Int).toNat*1+1<=12;omega) ?_);refine Aa ?_;(repeat first|(refine sA rfl ?_ ?_;first|exact tI|omega) |refine aU rfl ?_ |refine Aa ?_);refine⟨⟨p+1,by omega⟩,by dsimp only;(omega),[0,1,2,3,4,5,6,7],?_⟩;simp[cX,zC,c,A1,L];exact⟨So,by simpa [Af] using i⟩
  ·obtain rfl:p=12:=by omega
   have q:Gz (Kw A G 12)=Gz λp=>A p ||| G p:=PW λp R=>by unfold Kw;rw [if_pos R]
   (repeat first|refine s2 rfl λ_ e=>?_ |refine aU rfl ?_ |refine Aa ?_)
   ((refine aC rfl ?_ ?_<;>rintro⟨⟩);all_goals try(exfalso;(simp only[oZ] at *;omega)))
   refine aE ?_;(repeat first|(refine sA rfl ?_ ?_;first|exact tI|omega) |refine aU rfl ?_ |refine Aa ?_);refine⟨⟨k+1,by omega⟩,by dsimp only;(omega),[0,1,2,3,4,5,6,7],?_⟩;simp[cX,zC,c,A1,M];exact⟨So,congrArg (List.map _) q⟩
 ·obtain rfl:k=(C0 t).length:=by omega
  rw [i7]
  have y:=Vt ht f λx B=>by
   have:=Em ht B
   show 0<=x/\x < 6
   omega
  (repeat first|refine s2 rfl λ_ e=>?_ |refine aU rfl ?_ |refine Aa ?_)
  ((refine aC rfl ?_ ?_<;>rintro⟨⟩);all_goals try(exfalso;(simp only[oZ] at *;omega)))
  refine aE ?_;(repeat first|refine tA rfl ?_|(refine Ai rfl ?_;refine gA rfl ?_;first| (refine gB (λ_ _=>iL (a:=Gz (HW t F (C0 t))) (b:=Gz F) rfl rfl rfl rfl (dQ y.lt) (dQ f.lt)) ?_;intro _ e)) |refine aU rfl ?_ |refine Aa ?_);(refine aC rfl ?_ ?_<;>rintro⟨⟩)
  ·have he:HW t F (C0 t)=F:=by
    have h3:Gz (HW t F (C0 t))=Gz F:=by simpa using e
    have h4:=Wz h3;funext p
    rcases l9 p 12 with S|S
    ·exact h4 p S
    ·rw [y.z p (by omega),f.z p (by omega)]
   rw [<-Xj ht J f K T he];(repeat first|refine tA rfl ?_ |refine aU rfl ?_ |refine Aa ?_);refine aR ⟨_,rfl,[0,1,2,3,4],fQ F,LV t m,⟨So,by decide⟩,rfl,by (simp[cX,zC,c,A1]),rfl,rfl,rfl⟩
  ·have N:Gz (HW t F (C0 t))≠Gz F:=by simpa using e
   have H:∀p,F p<=HW t F (C0 t) p:=λp=>sub_le λj w=>GP.2 (.inl w);have hm:=cR f.lt y.lt H N;refine aK ?_;(repeat first|refine tA rfl ?_ |refine aU rfl ?_ |refine Aa ?_);refine⟨⟨HW t F (C0 t),y,λp j w=>GP.2 (.inl (K p j w)),λp j w=>YV ht T w⟩,by dsimp only;(omega),[0,1,2,3,4,5,6],?_⟩;simp[cX,zC,c,A1];exact⟨So,rfl,rfl⟩
inductive Reach (t:CR):PS->Prop
 | start:Reach t (CP t)
 | next {F:PS} {l:Int}:0<=l->l < 6->Reach t F->Reach t (ED t l F)
theorem Reach.ok{t:CR}(ht:Bv t=true){F:PS}(h:Reach t F):DG t F:=by
 induction h with
 | start=>exact Hj ht
 | next c b _ a=>exact N9 ht ⟨c,b⟩ a
noncomputable def Gf(t:CR):PS->W->PS
 | F,[]=>F
 | F,c::w=>Gf t (ED t ((c.toNat:Int) - 97) F) w
theorem Ow{t:CR}:∀(u v:W) (F:PS),Gf t F (u++v)=Gf t (Gf t F u) v
 | [],v,F=>rfl
 | c::u,v,F=>by simp only [mD,Gf];exact Ow u v _
def gJ(t:CR)(ok:W->Prop)(F:PS):Prop:=F=CP t\/∃u v,ok (u++v)/\F=Gf t (CP t) u
def gx(t:CR)(ok:W->Prop):Prop:=∀l:List PS,l.Nodup->(∀F∈l,gJ t ok F)->l.length<=1099511627776
structure HO (t:CR) (ok:W->Prop) (m:FK):Prop where
 l1:m.nx.length=m.F.length
 l2:m.un.length=m.F.length
 nd:m.F.Nodup
 rc:∀F∈m.F,Reach t F
 rk:∀F∈m.F,gJ t ok F
 un:∀(i:Nat) F,m.F[i]? = some F->m.un[i]? = some (HX t F)
 nx:∀(i:Nat) F,m.F[i]? = some F->∃r:List Int,m.nx[i]? = some r/\r.length=6/\∀l:Nat,l < 6->∃x,r[l]? = some x/\(x < 0\/∃j:Nat,x=j/\m.F[j]? = some (ED t l F))
def Ij(t:CR)(m:FK)(G:PS):FK:=⟨m.F++[G],m.nx++[[-1,-1,-1,-1,-1,-1]],m.un++[HX t G]⟩
theorem ef{t:CR}(ht:Bv t=true){F G:PS}(c:DG t F)(b:DG t G)(h:Gz F=Gz G):F=G:=by
 have d:=Wz h;have e:=Ay (DB ht);funext p
 rcases l9 p 12 with a|a
 ·exact d p a
 ·rw [c.z p (by omega),b.z p (by omega)]
theorem QP{l:List PS}{p:List Int×Int}:p∈Pe l↔∃(i:Nat) (F:PS),l[i]? = some F/\p=(Gz F,(i:Int)):=by
 unfold Pe;rw [d8];constructor
 ·rintro⟨⟨F,i⟩,h,rfl⟩
  exact⟨i,F,oT.1 h,rfl⟩
 ·rintro⟨i,F,h,rfl⟩
  exact⟨(F,i),oT.2 h,rfl⟩
theorem cS(l:List PS)(G:PS):Pe (l++[G])=Pe l++[(Gz G,(l.length:Int))]:=by
 unfold Pe;rw [List.zipIdx_append];simp
theorem ZK{t:CR}(ht:Bv t=true){l:List PS}(g:l.Nodup)(f:∀F∈l,Reach t F):(Pe l).Pairwise (λa b=>a.1≠b.1):=by
 unfold Pe;rw [mY,lI];intro i j e d c;simp only [List.length_zipIdx] at e d;simp only [List.getElem_zipIdx];intro h;have:=ef ht ((f _ (l6 e)).ok ht) ((f _ (l6 d)).ok ht) h;exact lI.1 g i j e d c this
theorem ZJ{t:CR}(ht:Bv t=true){l:List PS}(a:∀F∈l,Reach t F):Pp 12 .u16 (Pe l):=λp b=>by
 obtain⟨i,F,c,rfl⟩:=QP.1 b;exact⟨rfl,dQ ((a F (co c)).ok ht).lt⟩
theorem Xy{t:CR}(ht:Bv t=true){l:List PS}(f:l.Nodup)(c:∀F∈l,Reach t F){G:PS}(j:DG t G){v:Int}(h:DD (Pe l) (Gz G)=some v):∃k:Nat,v=k/\l[k]? = some G:=by
 have:∃p∈Pe l,p.1=Gz G:=by
  refine Classical.byContradiction λg=>?_;have m:DD (Pe l) (Gz G)=none:=Hu.2 λp a b=>g ⟨p,a,b⟩;rw [m] at h;cases h
 obtain⟨p,a,b⟩:=this;have e:=Lr (ZK ht f c) a;rw [b,h] at e;obtain⟨i,F,d,rfl⟩:=QP.1 a;have:=ef ht ((c F (co d)).ok ht) j b;subst this;exact⟨i,by injection e,d⟩
theorem Xx{l:List PS}{G:PS}(h:DD (Pe l) (Gz G)=none):G∉l:=λb=>by
 obtain⟨i,hi,a⟩:=lT b;exact Hu.1 h (Gz G,(i:Int)) (QP.2 ⟨i,G,by rw [d5 hi,a],rfl⟩) rfl
theorem J6{α:Type}{l:List α}{a x:α}{i:Nat}(h:l[i]? = some x):(l++[a])[i]? = some x:=by
 rw [d9 (ce.1 h).1];exact h
theorem RT{α:Type}{l:List α}{a x:α}{i:Nat}(h:(l++[a])[i]? = some x):l[i]? = some x\/i=l.length/\x=a:=by
 rcases l9 i l.length with b|b
 ·rw [d9 b] at h;exact .inl h
 ·rw [em b] at h
  have d:i - l.length < 1:=(ce.1 h).1
  have c:i=l.length:=by simp at d;omega
  subst c;simp at h;exact .inr ⟨rfl,h.symm⟩
theorem Vr{t:CR}{ok:W->Prop}{m:FK}(d:HO t ok m){G:PS}(k:Reach t G)(hk:gJ t ok G)(h:G∉m.F):HO t ok (Ij t m G):=by
 refine⟨by simp [Ij,d.l1],by simp [Ij,d.l2],?_,?_,?_,?_,?_⟩
 ·show (m.F++[G]).Nodup
  rw [nJ];exact⟨d.nd,by simp,λa ha b hb=>by simp at hb;subst hb;intro e;subst e;exact h ha⟩
 ·intro F c
  rcases f6.1 c with c|c
  ·exact d.rc F c
  ·simp at c;subst c;exact k
 ·intro F c
  rcases f6.1 c with c|c
  ·exact d.rk F c
  ·simp at c;subst c;exact hk
 ·intro i F c
  rcases RT c with f|⟨f,rfl⟩
  ·exact J6 (d.un i F f)
  ·subst f;show (m.un++[HX t F])[m.F.length]? = _;rw [<-d.l2];simp
 ·intro i F c
  rcases RT c with f|⟨f,rfl⟩
  ·obtain⟨r,v,u,s⟩:=d.nx i F f
   refine⟨r,J6 v,u,λl g=>?_⟩;obtain⟨x,q,p⟩:=s l g;refine⟨x,q,p.imp id ?_⟩;rintro⟨j,o,n⟩;exact⟨j,o,J6 n⟩
  ·refine⟨[-1,-1,-1,-1,-1,-1],by subst f;show (m.nx++_)[m.F.length]? = _;rw [<-d.l1];simp,rfl,λl g=>⟨-1,?_,.inl (by omega)⟩⟩
   obtain rfl|rfl|rfl|rfl|rfl|rfl:l=0\/l=1\/l=2\/l=3\/l=4\/l=5:=by omega
   all_goals rfl
def Mm(t:CR)(F:PS)(k:Nat):Bool:=(List.range k).any λp=>decide (F p≠0) && !(t.q.ac.getD p false)
theorem Nz{t:CR}{F:PS}{k:Nat}:Mm t F (k+1)=(Mm t F k || (decide (F k≠0) && !(t.q.ac.getD k false))):=by
 unfold Mm;rw [nE,pB];simp
theorem Xh{t:CR}{F:PS}(h:DG t F)(b:t.q.nx.length<=12):Mm t F 12=HX t F:=by
 have key:∀k,Mm t F (t.q.nx.length+k)=Mm t F t.q.nx.length:=λk=>by
  induction k with
  | zero=>rfl
  | succ k a=>rw [<-lX,Nz,a,h.z _ (by omega)];simp
 have:=key (12 - t.q.nx.length);rw [show t.q.nx.length+(12 - t.q.nx.length)=12 by omega] at this;rw [this];rfl
section
variable {P:Program}{Z:Ctx}{d:Option Tmp}{ty:TypeId}{pos:String}{af:Array Edge}{g:Option (Nat×Bool)}{f:Env}{σ:Ab}{nx:Nat}{t:TypeId}{n:Nat}{q:IntKind}{m e:TypeId}{x y:Operand}{id:Nat}{l:List (List Int×Int)}{s:List Int}
theorem aH{v:Int}[A:JV P m t e][h:FF P t n q][z:Po P e (.int .i64 0)](k:DD l s=some v)(i:ev f x=some (.o (.mp id)))(c:ev f y=some (cJ q s))(r:look σ id=some (.mp (mapA q l)))
 (u:Pp n q l) (w:l.Pairwise (λa b=>a.1≠b.1)) (p:s.length=n) (j:∀x∈s,(Lit.int q x).wf=true) :
 AW P TB Z ⟨d,.lookup m x y true,ty,pos,af,g⟩ f σ nx (.t [(false,[.d (.v (.int .i64 v))]),(false,[.d (.v (.bool true))])]):=by
 have:=WC (P:=P) (TB:=TB) (Z:=Z) (d:=d) (ty:=ty) (pos:=pos) (af:=af) (g:=g) (nx:=nx) (t:=t) (m:=m) (e:=e) i c r u w p j;rw [k] at this;exact this
theorem aG[A:JV P m t e][h:FF P t n q][z:Po P e (.int .i64 0)](k:DD l s=none)(i:ev f x=some (.o (.mp id)))(c:ev f y=some (cJ q s))(r:look σ id=some (.mp (mapA q l)))
 (u:Pp n q l) (w:l.Pairwise (λa b=>a.1≠b.1)) (p:s.length=n) (j:∀x∈s,(Lit.int q x).wf=true) :
 AW P TB Z ⟨d,.lookup m x y true,ty,pos,af,g⟩ f σ nx (.t [(false,[.d (.v (.int .i64 0))]),(false,[.d (.v (.bool false))])]):=by
 have:=WC (P:=P) (TB:=TB) (Z:=Z) (d:=d) (ty:=ty) (pos:=pos) (af:=af) (g:=g) (nx:=nx) (t:=t) (m:=m) (e:=e) i c r u w p j;rw [k] at this;exact this
end
theorem YW{t:CR}{ok:W->Prop}(ht:Bv t=true){m:FK}(h:HO t ok m)(H:m.F.length<=1099511627776){G:PS}(u:DG t G):∃(m':FK) (k:Nat),((m'=m/\m.F[k]? = some G)\/(m'=Ij t m G/\k=m.F.length/\G∉m.F))/\
 AK Tryz.prog TB 178 1 (LV t m) 5 [.o (.ptr 0 14 0 0),fQ G] (λx σ nx=>x=eI .i64 (k:Int)/\σ=LV t m'/\nx=5):=by
 have L:=Ay (DB ht);have f:=ZK ht h.nd h.rc;have j:=ZJ ht h.rc;have e:=dQ u.lt
 cases n:DD (Pe m.F) (Gz G) with
 | some v=>
  obtain⟨k,rfl,hk⟩:=Xy ht h.nd h.rc u n;refine⟨m,k,.inl ⟨rfl,hk⟩,?_⟩;refine AK.A7 (AK.PR (m:=1) (am rfl) Tryz.func178 rfl (by kernel_rfl) (am rfl) ?_);intro Z a;(repeat first|refine tA rfl ?_ |refine aU rfl ?_ |refine Aa ?_);refine rG (HQ []) (by kernel_rfl) ?_;(repeat first|refine tA rfl ?_|(refine Ai rfl ?_;refine gA rfl ?_;first| refine gQ (aH (s:=Gz G) (l:=Pe m.F) n rfl rfl rfl j f rfl e) rfl ?_) |refine aU rfl ?_ |refine Aa ?_);(refine aC rfl ?_ ?_<;>rintro⟨⟩);(repeat first|refine tA rfl ?_ |refine aU rfl ?_ |refine Aa ?_);refine aR ⟨_,rfl,[0,1,2,3,4],eI .i64 (k:Int),LV t m,⟨by intro i hi;match i with|0=>rfl,by decide⟩,rfl,by (simp[cX,zC,a,A1]),rfl,rfl,rfl⟩
 | none =>
  refine⟨Ij t m G,m.F.length,.inr ⟨rfl,rfl,Xx n⟩,?_⟩;have N:=h.l1;have M:=h.l2;have A:=cS m.F G;refine AK.A7 (AK.PR (m:=1) (am rfl) Tryz.func178 rfl (by kernel_rfl) (am rfl) ?_);intro Z a;(repeat first|refine tA rfl ?_ |refine aU rfl ?_ |refine Aa ?_);refine rG (HQ []) (by kernel_rfl) ?_;(repeat first|refine tA rfl ?_|(refine Ai rfl ?_;refine gA rfl ?_;first| refine gQ (aG (s:=Gz G) (l:=Pe m.F) n rfl rfl rfl j f rfl e) rfl ?_) |refine aU rfl ?_ |refine Aa ?_);(refine aC rfl ?_ ?_<;>rintro⟨⟩);refine aK ?_;(repeat first|refine tA rfl ?_ |refine aU rfl ?_ |refine Aa ?_);refine rG (HQ [6]) (by kernel_rfl) ?_;(repeat first|refine tA rfl ?_);(refine Ai rfl ?_;refine He ?_ rfl (by rfl);refine fE (s:=Gz G) (l:=Pe m.F) rfl rfl rfl rfl j f rfl e n ?_);rw [<-A];refine Aa ?_;(repeat first|refine aU rfl ?_);refine rG (GI [(4,0),(7,1),(10,1)]) (by kernel_rfl) ?_;(repeat first|refine tA rfl ?_);(refine pW rfl ?_ rfl (by rfl);refine Aw rfl rfl rfl (by first| (simp;done)|(simp;(omega))) rfl (by intro r d;simp at d;subst d;rfl) (by rfl) (am rfl) (by simp;omega) ?_);(repeat first|refine tA rfl ?_ |refine aU rfl ?_ |refine Aa ?_);(repeat first|refine tA rfl ?_|(refine Ai rfl ?_;refine gA rfl ?_;first| refine gS (λ_ _=>AV rfl rfl (by rfl) (by rfl)) ?_));(refine pW rfl ?_ rfl (by rfl);refine Aw rfl rfl rfl (by first| (simp;done)|(simp;(omega))) rfl (by intro r d;simp at d;subst d;rfl) (by rfl) (am rfl) (by simp;omega) ?_);(repeat first|refine tA rfl ?_ |refine aU rfl ?_ |refine Aa ?_);refine Aj.AA [0,7,8,53,54] [] rfl rfl [] [(0,.cells 131 14 [br t (.arr 1 12 0 (Ij t m G).F.length) (.mp 2) (.arr 3 6 0 (Ij t m G).nx.length) (.arr 4 1 0 m.un.length)]),(1,.cells 189 12 ((Ij t m G).F.map PV)),(2,.mp (mapA .u16 (Pe (Ij t m G).F))),(3,.cells 109 6 ((Ij t m G).nx.map PQ)),(4,.cells 4 1 (m.un.map AO))] [0,5,2,6,4] (rl a rfl) (by (simp[cX,zC,a,A1,Ij]<;>rfl)) ?_;(try dsimp only[cA,cB]);refine aB ?_;refine aL (α:={k:Nat // k<=12}) [0,7,53] [0,1,2,3,4] rfl rfl (λs=>[(8,eB (Mm t G s.1)),(54,eI .i64 s.1)]) (λs=>[]) 5 (λs=>12 - s.1) (⟨0,by omega⟩) a rfl (by (simp[cX,zC,a,A1]<;>rfl)) ?_;rintro⟨k,hk⟩;(try dsimp only[cA,cB]);by_cases w:k < 12
  ·have B:(Gz G)[((k:Nat):Int).toNat]? = some (G k:Int):=by rw [i9];exact IZ w
   have p:=Nz (t:=t) (F:=G) (k:=k);generalize Mm t G k=P at *;by_cases J:k < t.q.nx.length
   ·obtain⟨b,hb⟩:=get_some (l:=t.q.ac) (k:=((k:Nat):Int).toNat) (by omega)
    have K:=get_map (g:=Js) hb
    have y:t.q.ac.getD k false=b:=by rw [i9] at hb;simp [List.getD,hb]
    rw [y] at p;(repeat first|refine s2 rfl λ_ c=>?_ |refine aU rfl ?_ |refine Aa ?_)
    ((refine aC rfl ?_ ?_<;>rintro⟨⟩);all_goals try(exfalso;(simp only[oZ] at *;omega)))
    refine aK ?_;refine aS (aB ?_)
    (repeat' first|(refine sA rfl ?_ ?_;first|exact tI|omega) |(refine s4 rfl ‹_› rfl ?_ ?_;omega) |refine s2 rfl λ_ c=>?_|(refine Ai rfl ?_;refine gA rfl ?_;first| refine gS (λ_ _=>KH (l:=Gz G) rfl rfl rfl (by omega) B) ?_) |refine s3 rfl ?_ ?_<;>rintro rfl |refine aU rfl ?_ |refine Aa ?_|(refine aC rfl ?_ ?_<;>rintro⟨⟩));all_goals try contradiction
    all_goals ((try refine aK ?_);refine⟨⟨k+1,by omega⟩,by dsimp only;(omega),[0,1,2,3,4],?_⟩;simp only [decide_eq_true_eq,decide_eq_false_iff_not] at *;simp[cX,zC,a,A1,p];try (simp_all;done))
   ·have I:=u.z k (by omega)
    rw [I] at p;(repeat first|refine s2 rfl λ_ c=>?_ |refine aU rfl ?_ |refine Aa ?_)
    ((refine aC rfl ?_ ?_<;>rintro⟨⟩);all_goals try(exfalso;(simp only[oZ] at *;omega)))
    refine aK ?_;refine aS (aB ?_)
    (repeat' first|(refine sA rfl ?_ ?_;first|exact tI|omega) |refine s2 rfl λ_ c=>?_|(refine Ai rfl ?_;refine gA rfl ?_;first| refine gS (λ_ _=>KH (l:=Gz G) rfl rfl rfl (by omega) B) ?_) |refine s3 rfl ?_ ?_<;>rintro rfl |refine aU rfl ?_ |refine Aa ?_|(refine aC rfl ?_ ?_<;>rintro⟨⟩));all_goals try contradiction
    all_goals first| (exfalso;(simp only[oZ] at *;omega);done)|skip
    all_goals ((try refine aK ?_);refine⟨⟨k+1,by omega⟩,by dsimp only;(omega),[0,1,2,3,4],?_⟩;simp[cX,zC,a,A1,p];try (simp_all;done))
  ·obtain rfl:k=12:=by omega
   rw [Xh u (by omega)];(repeat first|refine s2 rfl λ_ c=>?_ |refine aU rfl ?_ |refine Aa ?_)
   ((refine aC rfl ?_ ?_<;>rintro⟨⟩);all_goals try(exfalso;(simp only[oZ] at *;omega)))
   refine aE ?_;(repeat first|refine tA rfl ?_ |refine aU rfl ?_);(refine pW rfl ?_ rfl (by rfl);refine Aw rfl rfl rfl (by first| (simp;done)|(simp;(omega))) rfl (by intro r d;simp at d;subst d;rfl) (by rfl) (am rfl) (by simp;omega) ?_);(repeat first|refine tA rfl ?_ |refine aU rfl ?_ |refine Aa ?_);refine aR ⟨_,rfl,[0,1,2,3,5],eI .i64 (m.F.length:Int),LV t (Ij t m G),⟨by intro i hi;match i with|0=>rfl,by decide⟩,rfl,by (simp[cX,zC,a,A1,Ij]),rfl,rfl,rfl⟩
def ju(m m':FK):Prop:=∀(i:Nat) F,m.F[i]? = some F->m'.F[i]? = some F
theorem bT{t:CR}{m:FK}{G:PS}:ju m (Ij t m G):=λ_ _ h=>J6 h
def Yt(m:FK)(n:Nat)(r:List Int):FK:={ m with nx:=m.nx.set n r }
theorem dB{t:CR}{ok:W->Prop}{m:FK}(a:HO t ok m){n k l:Nat}{F:PS}{r:List Int}(p:m.F[n]? = some F)(o:m.nx[n]? = some r)(v:l < 6)(hk:m.F[k]? = some (ED t l F)):HO t ok (Yt m n (r.set l k)):=by
 refine⟨by simp [Yt,a.l1],a.l2,a.nd,a.rc,a.rk,a.un,λi G b=>?_⟩;replace b:m.F[i]? = some G:=b;by_cases e:i=n
 ·subst e
  rw [p] at b;injection b with b;subst b
  obtain⟨r',c,f,j⟩:=a.nx i F p
  rw [o] at c;injection c with c;subst c
  have g:=(ce.1 o).1;refine⟨r.set l k,by simp [Yt,g],by simp [f],λl' d=>?_⟩;by_cases q:l'=l
  ·subst q
   exact⟨k,by simp [f,d],.inr ⟨k,rfl,hk⟩⟩
  ·obtain⟨x,u,s⟩:=j l' d
   exact⟨x,by rw [mg (λh=>q h.symm)];exact u,s⟩
 ·obtain⟨r',c,f,j⟩:=a.nx i G b
  exact⟨r',by simp only [Yt];rw [mg (λh=>e h.symm)];exact c,f,j⟩
theorem Wq{r:List Int}{l:Nat}{x:Int}(h:r[l]? = some x):(PQ r)[l]? = some (.d (iD x)):=by simp [h]
theorem cZ{r:List Int}{l:Nat}{x:Int}(h:l < r.length):Af (PQ r) l [.d (iD x)]=PQ (r.set l x):=by
 rw [HF (by simpa using h)];unfold PQ;rw [mx]
theorem Xe[Dx TB]{t:CR}{ok:W->Prop}(ht:Bv t=true){m:FK}(e:HO t ok m){n:Nat}{F:PS}(v:m.F[n]? = some F){l:Int}(J:0<=l/\l < 6)(H:m.F.length<=1099511627776)(R:gJ t ok (ED t l F)):∃(m':FK) (j:Nat),HO t ok m'/\ju m m'/\m'.F[j]? = some (ED t l F)/\m'.F.length<=m.F.length+1/\
 AK Tryz.prog TB 110 1 (LV t m) 5 [.o (.ptr 0 14 0 0),eI .i64 (n:Int),eI .i64 l] (λx σ nx=>x=eI .i64 (j:Int)/\σ=LV t m'/\nx=5):=by
 obtain⟨r,hr,hrl,Q⟩:=e.nx n F v;have hn:=(ce.1 v).1;have h1:=e.l1;obtain⟨x,hx,z⟩:=Q l.toNat (by omega)
 have el:((l.toNat:Nat):Int)=l:=by omega
 rw [el] at z;have s:=(e.rc F (co v)).ok ht
 have hr':(m.nx.map PQ)[0+((n:Nat):Int).toNat]? = some (PQ r):=by rw [lE,i9];simp [hr]
 have g:(PQ r)[0+l.toNat*1]? = some (.d (iD x)):=by rw [lE,pE];exact Wq hx
 by_cases N:x < 0
 ·have hG:=N9 ht J s
  have Y:Reach t (ED t l F):=.next J.1 J.2 (e.rc F (co v));obtain⟨a,k,q,K⟩:=YW (TB:=TB) ht e H hG
  have c:HO t ok a/\ju m a/\a.F[k]? = some (ED t l F)/\a.F.length<=m.F.length+1:=by
   rcases q with ⟨rfl,h2⟩|⟨rfl,rfl,h2⟩
   ·exact⟨e,λ_ _ h=>h,h2,Nat.le_succ _⟩
   ·exact⟨Vr e Y R h2,bT,by simp [Ij],by simp [Ij]⟩
  obtain⟨c,I,hk,V⟩:=c;have L:=I n F v;obtain⟨f,p,hrl1,_⟩:=c.nx n F L;have T:=(ce.1 p).1;have S:=dB (l:=l.toNat) c L p (by omega) (k:=k) (by rw [el];exact hk);refine⟨_,k,S,I,hk,V,?_⟩;have U:=VX (TB:=TB) ht m J s;have X:=RZ (TB:=TB) ht m (LI ht J s)
  have hs':(m.F.map PV)[0+((n:Nat):Int).toNat]? = some (PV F):=by rw [lE,i9];simp [v]
  refine AK.A7 (AK.PR (m:=1) (am rfl) Tryz.func110 rfl (by kernel_rfl) (am rfl) ?_);intro Z b;(repeat first|(refine sA rfl ?_ ?_;first|exact tI|omega) |refine s2 rfl λ_ _hb=>?_|(refine Ai rfl ?_;refine gA rfl ?_;first| refine gQ (Oh rfl rfl (by assumption) g) rfl ?_) |refine aU rfl ?_ |refine Aa ?_)
  ((refine aC rfl ?_ ?_<;>rintro⟨⟩);all_goals try(exfalso;(simp only[oZ] at *;omega)))
  (repeat first|(refine sA rfl ?_ ?_;first|exact tI|omega) |refine t4 rfl ‹_› rfl ?_ |refine aU rfl ?_);(refine pW rfl ?_ rfl (by rfl);refine Ae [0,1,2,3,4] rfl rfl (U) ⟨rfl,by decide,by decide⟩ rfl (by simp[cX,zC,b,A1]) ?_;rintro x0 w y ⟨rfl,rfl,rfl⟩ _);(refine pW rfl ?_ rfl (by rfl);refine Ae [0,1,2,3,4] rfl rfl (X) ⟨rfl,by decide,by decide⟩ rfl (by simp[cX,zC,b,A1]) ?_;rintro x0 w y ⟨rfl,rfl,rfl⟩ _);(refine pW rfl ?_ rfl (by rfl);refine Cf [0,1,2,3,4] rfl rfl 1 (K) (by decide) ⟨rfl,by decide,by decide⟩ rfl (by simp[cX,zC,b,A1]) ?_;rintro x0 w y ⟨rfl,rfl,rfl⟩ _);(repeat first|refine tA rfl ?_);refine Aa ?_;refine Aj.AA [0,1,2,7] [] rfl rfl [] [(0,.cells 131 14 [br t (.arr 1 12 0 a.F.length) (.mp 2) (.arr 3 6 0 a.nx.length) (.arr 4 1 0 a.un.length)]),(1,.cells 189 12 (a.F.map PV)),(2,.mp (mapA .u16 (Pe a.F))),(3,.cells 109 6 (a.nx.map PQ)),(4,.cells 4 1 (a.un.map AO))] [0,5,6,7,8] (rl b rfl) (by (simp[cX,zC,b,A1])) ?_;(try dsimp only[cA,cB])
  have G:(a.nx.map PQ)[0+((n:Nat):Int).toNat]? = some (PQ f):=by rw [lE,i9];simp [p]
  have P:=cZ (r:=f) (l:=l.toNat) (x:=(k:Int)) (by omega)
  have B:(f.set l.toNat (k:Int))[l.toNat]? = some (k:Int):=by rw [mf (by omega)]
  generalize f.set l.toNat (k:Int)=u at *
  have A:(PQ f).take l.toNat++C.d (iD k)::(PQ f).drop (l.toNat+1)=PQ u:=by rw [<-P];simp [Af]
  (repeat first|(refine sA rfl ?_ ?_;first|exact tI|omega) |refine aU rfl ?_);(refine Ai rfl ?_;refine He ?_ rfl (by rfl);refine Bs (r:=PQ f) rfl rfl rfl rfl G rfl (by show 0+l.toNat*1+1<=6;omega) ?_);refine Aa ?_;refine Aj.AA [0,1,2] [] rfl rfl [] [(0,.cells 131 14 [br t (.arr 1 12 0 a.F.length) (.mp 2) (.arr 3 6 0 a.nx.length) (.arr 4 1 0 a.un.length)]),(1,.cells 189 12 (a.F.map PV)),(2,.mp (mapA .u16 (Pe a.F))),(3,.cells 109 6 ((a.nx.set n u).map PQ)),(4,.cells 4 1 (a.un.map AO))] [0,1,2,3,4] (rl b rfl) (by (simp[cX,zC,b,A1,A])) ?_;(try dsimp only[cA,cB])
  have hr2:((a.nx.set n u).map PQ)[0+((n:Nat):Int).toNat]? = some (PQ u):=by rw [lE,i9];simp [T]
  have M:(PQ u)[0+l.toNat*1]? = some (.d (iD k)):=by rw [lE,pE];exact Wq B
  (repeat first|(refine sA rfl ?_ ?_;first|exact tI|omega)|(refine Ai rfl ?_;refine gA rfl ?_;first| refine gQ (Oh rfl rfl (by assumption) M) rfl ?_) |refine aU rfl ?_ |refine Aa ?_);refine aR ⟨_,rfl,[0,1,2,3,4],eI .i64 (k:Int),LV t (Yt a n u),⟨by intro i hi;match i with|0=>rfl,by decide⟩,rfl,by (simp[cX,zC,b,A1,Yt]),rfl,rfl,rfl⟩
 ·obtain⟨j,rfl,hj⟩:=z.resolve_left N
  refine⟨m,j,e,λ_ _ h=>h,hj,Nat.le_succ _,?_⟩;refine AK.A7 (AK.PR (m:=1) (am rfl) Tryz.func110 rfl (by kernel_rfl) (am rfl) ?_);intro Z b;(repeat first|(refine sA rfl ?_ ?_;first|exact tI|omega) |refine s2 rfl λ_ _hb=>?_|(refine Ai rfl ?_;refine gA rfl ?_;first| refine gQ (Oh rfl rfl (by assumption) g) rfl ?_) |refine aU rfl ?_ |refine Aa ?_)
  ((refine aC rfl ?_ ?_<;>rintro⟨⟩);all_goals try(exfalso;(simp only[oZ] at *;omega)))
  refine aK ?_;(repeat first|(refine sA rfl ?_ ?_;first|exact tI|omega)|(refine Ai rfl ?_;refine gA rfl ?_;first| refine gQ (Oh rfl rfl (by assumption) g) rfl ?_) |refine aU rfl ?_ |refine Aa ?_);refine aR ⟨_,rfl,[0,1,2,3,4],eI .i64 (j:Int),LV t m,⟨by intro i hi;match i with|0=>rfl,by decide⟩,rfl,by (simp[cX,zC,b,A1]),rfl,rfl,rfl⟩
theorem YX[Dx TB]{t:CR}{ok:W->Prop}(ht:Bv t=true)(a:gx t ok){m:FK}(c:HO t ok m){n:Nat}{F:PS}(e:m.F[n]? = some F){l:Int}(d:0<=l/\l < 6)(b:gJ t ok (ED t l F)):∃(m':FK) (j:Nat),HO t ok m'/\ju m m'/\m'.F[j]? = some (ED t l F)/\
 AK Tryz.prog TB 110 1 (LV t m) 5 [.o (.ptr 0 14 0 0),eI .i64 (n:Int),eI .i64 l] (λx σ nx=>x=eI .i64 (j:Int)/\σ=LV t m'/\nx=5):=by
 obtain⟨m',j,i,h,g,_,f⟩:=Xe (TB:=TB) ht c e d (a m.F c.nd c.rk) b;exact⟨m',j,i,h,g,f⟩
def Mj(t:CR)(ok:W->Prop)(m:FK):Prop:=HO t ok m/\m.F[0]? = some (CP t)
theorem WN[Dx TB]{t:CR}{ok:W->Prop}(ht:Bv t=true)(l:gx t ok){u:FK}(k:Mj t ok u){w:W}(v:ok w)(N:∀c∈w,0<=(c.toNat:Int) - 97/\(c.toNat:Int) - 97 < 6)(M:w.length<=1048576) :
 AK Tryz.prog TB 145 1 (LV t u) 5 [.o (.ptr 0 14 0 0),eT w] (λx σ nx=>x=eB (LS t w)/\nx=5/\∃m,Mj t ok m/\σ=LV t m):=by
 have S:w.drop 0=w:=rfl;refine AK.A7 (AK.PR (m:=1) (am rfl) Tryz.func145 rfl (by kernel_rfl) (am rfl) ?_);intro Z a;(repeat first|refine tA rfl ?_ |refine aU rfl ?_ |refine Aa ?_);refine aB ?_;refine aL (α:={x:Nat×Nat×FK // x.1<=w.length/\Mj t ok x.2.2/\∃F,x.2.2.F[x.2.1]? = some F/\KL t F (w.drop x.1)=LS t w/\F=Gf t (CP t) (w.take x.1)}) [0,1] [] rfl rfl (λs=>[(5,eI .i64 s.1.2.1),(6,eI .i64 s.1.1)]) (λs=>LV t s.1.2.2) 5 (λs=>w.length - s.1.1) (⟨⟨0,0,u⟩,by simp,k,CP t,k.2,rfl,rfl⟩) a rfl (by (simp[cX,zC,a,A1])) ?_;rintro⟨⟨i,n,m⟩,hi,h,F,r,e,g⟩;(try dsimp only[cA,cB]);have hi:i<=w.length:=hi;have h:Mj t ok m:=h;have g:F=Gf t (CP t) (w.take i):=g;have r:m.F[n]? = some F:=r;have e:KL t F (w.drop i)=LS t w:=e;have I:=h.1.un n F r;have P:=(ce.1 I).1
 have Q:(m.un.map AO)[0+((n:Nat):Int).toNat]? = some (AO (HX t F)):=by rw [lE,i9];simp [I]
 by_cases z:i < w.length
 ·obtain⟨c,q⟩:=get_some z
  have G:w[((i:Nat):Int).toNat]? = some c:=by simpa using q
  have p:=N c (co q);have B:=Gw (TB:=TB) w i c G p;have T:=BA q
  have f:ED t ((c.toNat:Int) - 97) F=Gf t (CP t) (w.take (i+1)):=by
   rw [gt,q,Ow,<-g];rfl
  obtain⟨L,j,y,A,R,H⟩:=YX (TB:=TB) ht l h.1 r p (.inr ⟨w.take (i+1),w.drop (i+1),by rw [mz];exact v,f⟩);rw [T,KL] at e;generalize HX t F=b at *
  (repeat' first|(refine sA rfl ?_ ?_;first|exact tI|omega) |refine t4 rfl ‹_› rfl ?_ |refine s2 rfl λ_ d=>?_ |refine s3 rfl ?_ ?_<;>rintro rfl |refine aU rfl ?_ |refine Aa ?_|(refine aC rfl ?_ ?_<;>rintro⟨⟩));all_goals try contradiction
  all_goals first| (exfalso;(simp only[oZ] at *;omega);done)|skip
  ·have hb:b=false:=by simpa using d
   subst hb;refine aK ?_;refine aS (aB ?_);(repeat first|refine tA rfl ?_ |refine sP rfl (B) rfl ?_ |refine aU rfl ?_);(refine pW rfl ?_ rfl (by rfl);refine Cf [0,1,2,3,4] rfl rfl 1 (H) (by decide) ⟨rfl,by decide,by decide⟩ rfl (by simp[cX,zC,a,A1]) ?_;rintro U J K ⟨rfl,rfl,rfl⟩ _);(repeat first|refine tA rfl ?_);refine Aa ?_;(repeat first|(refine sA rfl ?_ ?_;first|exact tI|omega) |refine aU rfl ?_ |refine Aa ?_);refine⟨⟨⟨i+1,j,L⟩,by omega,⟨y,A 0 _ h.2⟩,_,R,by simpa using e,f⟩,by dsimp only;(omega),[0,5,6,7,8],?_⟩;simp[cX,zC,a,A1]
  ·have hb:b=true:=by simpa using d
   subst hb
   have e:LS t w=false:=by simpa using e.symm
   rw [e];refine aE ?_;(repeat first|(refine sA rfl ?_ ?_;first|exact tI|omega) |refine t4 rfl ‹_› rfl ?_ |refine s2 rfl λ_ d=>?_ |refine aU rfl ?_ |refine Aa ?_);refine aR ⟨_,rfl,[0,1,2,3,4],eB false,LV t m,⟨by intro i hi;match i with|0=>rfl,by decide⟩,by subst_vars;rfl,by (simp[cX,zC,a,A1]),rfl,rfl,m,h,rfl⟩
 ·obtain rfl:i=w.length:=by omega
  rw [oO,KL] at e;rw [<-e]
  (repeat' first|(refine sA rfl ?_ ?_;first|exact tI|omega) |refine t4 rfl ‹_› rfl ?_ |refine s2 rfl λ_ d=>?_ |refine s3 rfl ?_ ?_<;>rintro rfl |refine aU rfl ?_ |refine Aa ?_|(refine aC rfl ?_ ?_<;>rintro⟨⟩));all_goals try contradiction
  all_goals first| (exfalso;(simp only[oZ] at *;omega);done)|skip
  refine aE ?_;(repeat first|(refine sA rfl ?_ ?_;first|exact tI|omega) |refine t4 rfl ‹_› rfl ?_ |refine s2 rfl λ_ d=>?_ |refine aU rfl ?_ |refine Aa ?_);refine aR ⟨_,rfl,[0,1,2,3,4],eB (!HX t F),LV t m,⟨by intro i hi;match i with|0=>rfl,by decide⟩,by subst_vars;rfl,by (simp[cX,zC,a,A1]),rfl,rfl,m,h,rfl⟩
def OK(t:CR)(ok:W->Prop):Hid:=⟨{m:FK // Mj t ok m},λs=>LV t s.1,5⟩
theorem bu{tabs:List (Nat×Obj)}[Dx ⟨tabs,none⟩]{t:CR}{ok:W->Prop}(ht:Bv t=true)(a:gx t ok){r:Nat}{w:W}(d:ok w)(f:∀c∈w,0<=(c.toNat:Int) - 97/\(c.toNat:Int) - 97 < 6)(b:w.length<=1048576) :
 Pure Tryz.prog ⟨tabs,some (OK t ok,r)⟩ 145 [.o (Oi r),eT w] (eB (LS t w)):=
 ae (H:=OK t ok) (k:=14) (es:=[eT w]) ⟨_,Tryz.func145,by kernel_rfl,rfl⟩ (by intro e g;simp at g;subst g;rfl) rfl λs=>
  ⟨(WN (TB:=⟨tabs,none⟩) ht a s.2 d f b).1,λV vs S h ha=>((WN (TB:=⟨tabs,none⟩) ht a s.2 d f b).2 V vs S h ha).mono λe w' ⟨V',v,x,σ',y,u,q,p,n,l,m,j,i⟩=>⟨V',v,x,σ',y,u,q,p,n,l,⟨m,j⟩,i⟩⟩
section
variable {P:Program}{Z:Ctx}{d:Option Tmp}{ty:TypeId}{pos:String}{af:Array Edge}{g:Option (Nat×Bool)}{f:Env}{σ:Ab}{nx:Nat}
variable {K:E->Ab->Nat->Prop}
theorem XP{t:TypeId}{z:List Value}{fl:List (Nat×Nat)}{parts:Array (Nat×Operand)}{es:List E}{qs:List (Nat×List C)}[U:BJ P t z][hf:D0 P t fl](p k e q k' e' s k'' e'':Nat)(T:z[p]? = some (.slice none 0 0))(n:z[q]? = some (.slice none 0 0))(l:z[s]? = some (.slice none 0 0))(hpq:p≠q/\p≠s/\q≠s)(N:Jf f (parts.toList.map (·.2))=some es)(Y:E9 fl parts.toList es=some qs)
 (G:z.all Pm=true) (H:(qs.all λx=>Nat.ble (x.1+x.2.length) z.length)=true) (hK:K (.a (BV qs ((((z.map zC).set p (.arr nx k 0 0)).set q (.arr (nx+1) k' 0 0)).set s (.arr (nx+2) k'' 0 0)))) ((nx+2,.cells e'' k'' [])::(nx+1,.cells e' k' [])::(nx,.cells e k [])::σ) (nx+3)):BQ P TB Z ⟨d,.build t parts,ty,pos,af,g⟩ f σ nx K:=
 Dr λV ρ h1 h2 h3=>by
  subst h3;obtain⟨i,zv,hi,A,m⟩:=HM U.out;obtain⟨L,S⟩:=h2.alloc (c:=0) (nl:=True) (w:=V.w) (ob:=.cells e k []) rfl rfl rfl rfl (io _) (λ_ _=>rfl) (.inl ⟨by simp [Ax],rfl⟩);obtain⟨J,R⟩:=L.alloc (c:=0) (nl:=True) (w:=V.w) (ob:=.cells e' k' []) rfl rfl rfl rfl (io _) (λ_ _=>rfl) (.inl ⟨by simp [Ax],rfl⟩);obtain⟨I,Q⟩:=J.alloc (c:=0) (nl:=True) (w:=V.w) (ob:=.cells e'' k'' []) rfl rfl rfl rfl (io _) (λ_ _=>rfl) (.inl ⟨by simp [Ax],rfl⟩);have y:=(S.trans R).trans Q;have M:=C9 (V:=Ax (Ax (Ax V V.w.heap.size 0 True V.w) V.w.heap.size 0 True V.w) V.w.heap.size 0 True V.w) (ρ:=ρ) parts.toList es qs (λx F e he=>(h1.get (by simp only [Op.operands];simpa using F) he).ext y) N Y
  have B : CY (Ax (Ax (Ax V V.w.heap.size 0 True V.w) V.w.heap.size 0 True V.w) V.w.heap.size 0 True V.w) ((((z.map zC).set p (.arr V.nx k 0 0)).set q (.arr (V.nx+1) k' 0 0)).set s (.arr (V.nx+2) k'' 0 0)) zv.cells:=by
   refine⟨by rw [lY,lY,lY,f9,<-m];simp,λj c v h X=>?_⟩
   have b:z[j]? = some v:=by rw [<-m,ms];exact X
   by_cases o:s=j
   ·subst o
    rw [l] at b
    injection b with b
    subst b;rw [mf (by rw [lY,lY,f9];exact(ce.1 l).1)] at h
    injection h with h
    subst h;exact AF.nil (by simp [Ax]) (by simp [Ax])
   ·rw [mg o] at h
    by_cases r:q=j
    ·subst r
     rw [n] at b
     injection b with b
     subst b;rw [mf (by rw [lY,f9];exact(ce.1 n).1)] at h
     injection h with h
     subst h;exact AF.nil (by simp [Ax]) (by simp [Ax])
    ·rw [mg r] at h
     by_cases u:p=j
     ·subst u
      rw [T] at b
      injection b with b
      subst b;rw [mf (by rw [f9];exact(ce.1 T).1)] at h
      injection h with h
      subst h;exact AF.nil (by simp [Ax];omega) (by simp [Ax])
     ·rw [mg u,ge,b] at h
      injection h with h
      subst h;exact JR (gc.1 G v (co b))
  obtain⟨cells,h4,h5⟩:=FR _ _ _ _ M B (λx F=>by rw [lY,lY,lY,f9];exact Iu _ _ H x F);have hb:=run_build (P:=P) (ρ:=ρ) (parts:=parts) (V:=V) hi A hf.out h4;refine⟨.agg cells,_,_,_,?_,y,I,(show Bg _ (.a _) _ from ⟨cells,rfl,h5⟩),hK⟩
  show ((do let v <-Instr.build t (parts.map λ(i,x)=>(i,ρ x));pure (Go.Next.value v):Sem Go.Next)).run P V.w=_
  simp only [lG,hb,lc];rfl
end
theorem N5{a b:Int}(ha:Bm a=true)(hb:Bm b=true):Ac (IT .i64 a b)=(Ac a).filter λl=>!AR b l.toNat:=by
 have key:((List.range 64).all λx=>(List.range 64).all λy=>decide (Ac (IT .i64 (x:Nat) (y:Nat))=(Ac (x:Nat)).filter λl=>!AR (y:Nat) l.toNat))=true:=by kernel_rfl
 unfold Bm at ha hb;simp only [decide_eq_true_eq] at ha hb;have d:=gc.1 key a.toNat (lN.2 (by omega));have c:=gc.1 d b.toNat (lN.2 (by omega));rw [o7 ha.1,o7 hb.1] at c;exact of_decide_eq_true c
abbrev P8(t:CR):List D:=[iD t.s.al,iD t.s.st,Ej t.s.es,iD t.q.al,C1 t.q.nx,Fp t.q.ac,iD t.al]
abbrev ia(t:CR):E:=.a ((P8 t).map .d)
theorem Sd(t:CR)(ok:W->Prop):HO t ok ⟨[],[],[]⟩:=⟨rfl,rfl,kw,by simp,by simp,by simp,by simp⟩
theorem QU[Dx TB]{t:CR}(ht:Bv t=true)(ok:W->Prop):∃m,Mj t ok m/\AK Tryz.prog TB 107 0 [] 0 [ia t] (λx σ nx=>x=.o (.ptr 0 14 0 0)/\σ=LV t m/\nx=5):=by
 have y:AZ t.s=true:=by unfold Bv at ht;simp only [d4] at ht;exact ht.1
 have n:Bm t.al=true:=by unfold Bv at ht;simp only [d4] at ht;exact ht.2.2
 have p:=AQ y;have A:=OV ht;obtain⟨j,k,c,f⟩:=YW (TB:=TB) ht (Sd t ok) (by simp) (Hj ht)
 have d:j=Ij t ⟨[],[],[]⟩ (CP t):=by
  rcases c with ⟨_,w⟩|⟨w,_,_⟩
  ·simp at w
  ·exact w
 have e:=RZ (TB:=TB) ht ⟨[],[],[]⟩ A;refine⟨j,⟨by rw [d];exact Vr (Sd t ok) .start (.inl rfl) (by simp),by rw [d];rfl⟩,?_⟩;have u:=N7 (TB:=TB) t.s y;have l:=Du (TB:=TB) t.q (DB ht);have b:=Cn (TB:=TB) (IT .i64 t.s.al t.al);rw [N5 p.1 n] at b;have b:Pure Tryz.prog TB 108 [eI .i64 (IT .i64 t.s.al t.al)] (Av (C0 t)):=b;rw [show Xi t Le=CP t from rfl] at e;have v:mapA .u16 (Pe [])=[]:=rfl;have r:Gz Le=[1,0,0,0,0,0,0,0,0,0,0,0]:=rfl;refine AK.A7 (AK.PR (m:=0) (am rfl) Tryz.func107 rfl (by kernel_rfl) (am rfl) ?_);intro Z a;(repeat first|refine tA rfl ?_ |refine aU rfl ?_ |refine Aa ?_);refine rG (GI [(14,1),(15,1),(16,1)]) (by kernel_rfl) ?_;(repeat first|refine tX rfl ?_ |refine sP rfl (u) rfl ?_|refine sP rfl (l) rfl ?_|refine sP rfl (b) rfl ?_|(refine Ai rfl ?_;refine gA rfl ?_;first| refine gS (λ_ _=>ah rfl rfl rfl) ?_));(refine pW rfl ?_ rfl (by rfl);refine PL ?_);(refine pW rfl ?_ rfl (by rfl);refine XP 10 12 189 12 6 109 13 1 4 rfl rfl rfl (by decide) rfl rfl (by rfl) (by rfl) ?_);(refine pW rfl ?_ rfl (by rfl);refine CT rfl rfl ?_);(repeat first|refine tA rfl ?_);refine Aa ?_;refine Aj.AA [] [] rfl rfl [(3,.o (.ptr 0 14 0 0))] [(0,.cells 131 14 [br t (.arr 1 12 0 0) (.mp 2) (.arr 3 6 0 0) (.arr 4 1 0 0)]),(1,.cells 189 12 []),(2,.mp []),(3,.cells 109 6 []),(4,.cells 4 1 [])] [4,1,0,2,3] (rl a rfl) (by (simp[cX,zC,a,A1])) ?_;(try dsimp only[cA,cB]);(repeat first|refine tA rfl ?_|(refine Ai rfl ?_;refine gA rfl ?_;first| refine gS (λ_ _=>AV rfl rfl (by rfl) (by rfl)) ?_) |refine aU rfl ?_);(refine pW rfl ?_ rfl (by rfl);refine Ae [0,1,2,3,4] rfl rfl (e) ⟨rfl,by decide,by decide⟩ rfl (by simp[cX,zC,a,A1,r,v]) ?_;rintro z g h ⟨rfl,rfl,rfl⟩ _);(refine pW rfl ?_ rfl (by rfl);refine Cf [0,1,2,3,4] rfl rfl 1 (f) (by decide) ⟨rfl,by decide,by decide⟩ rfl (by simp[cX,zC,a,A1]) ?_;rintro z g h ⟨rfl,rfl,rfl⟩ _);refine Aa ?_;(repeat first|refine tA rfl ?_ |refine aU rfl ?_ |refine Aa ?_);refine aR ⟨_,rfl,[0,5,6,7,8],.o (.ptr 0 14 0 0),LV t j,⟨by intro i hi;omega,by decide⟩,rfl,by (simp[cX,zC,a,A1]),rfl,rfl,rfl⟩
def JX(b:List UInt8)(p m:Int)(P:Sys->Prop)(x:E)(σ:Ab)(nx:Nat):Prop:=∃(p':Int) (s:Sys),(p<=p'/\p'<=p+m)/\P s/\x=BN s/\σ=[(0,A0 b p')]/\nx=1
def jG(n:Int)(s:Sys):Prop:=s.st=n/\(∀e∈s.es,0<=e.t/\e.t < n)/\s.es.length<=400
theorem Iz(b:List UInt8)(hb:b.length<=2000)(p:Int)(h0:0<=p/\p < 900000000)(al n few:Int)(hn:0<=n/\n<=8):AK Tryz.prog TB 284 1 [(0,A0 b p)] 1 [.o (.ptr 0 2 0 0),eI .i64 al,eI .i64 n,eI .i64 few] (JX b p 400 (jG n)):=by
 have V:(Ac al).length<=6:=AN al 6;refine AK.A7 (AK.PR (m:=1) (am rfl) Tryz.func284 rfl (by kernel_rfl) (am rfl) ?_);intro Z a;(repeat first|refine tA rfl ?_ |refine aU rfl ?_ |refine Aa ?_);(refine pW rfl ?_ rfl (by rfl);refine IC 2 3 158 rfl rfl rfl (by rfl) (by rfl) ?_);(repeat first|refine tA rfl ?_ |refine sP rfl (C3 al) rfl ?_ |refine aU rfl ?_ |refine Aa ?_);refine aB ?_;refine aL (α:={s:Nat×Int×List Ec // (s.1:Int)<=n/\(p<=s.2.1/\s.2.1<=p+48*s.1)/\(s.2.2.length:Int)<=s.2.1 - p/\∀e∈s.2.2,0<=e.t/\e.t < n}) [0,2,3,8,9,10] [1] rfl rfl (λs=>[(11,eI .i64 s.1.1)]) (λs=>[(0,A0 b s.1.2.1),(2,.cells 158 3 (s.1.2.2.map A5)),(3,.cells 25 3 [[.d (iD al),.d (iD n),.arr 2 3 0 s.1.2.2.length]])]) 4 (λs=>n.toNat - s.1.1) (⟨⟨0,p,[]⟩,by simp;omega⟩) a rfl (by (simp[cX,zC,a])) ?_;rintro⟨⟨k,q,es⟩,hk,P,F,K⟩;(try dsimp only[cA,cB]);have hk:(k:Int)<=n:=hk;have P:p<=q/\q<=p+48*k:=P;have F:(es.length:Int)<=q - p:=F;(repeat first|refine tM rfl ?_ |refine s2 rfl λ_ f=>?_ |refine aU rfl ?_ |refine Aa ?_)
 ((refine aC rfl ?_ ?_<;>rintro⟨⟩);all_goals try (simp at f;done))
 ·have U : (k:Int) < n:=by (simp only[oZ] at *;omega)
  refine aK ?_;refine aS (aB ?_);(repeat first|refine tX rfl ?_ |refine aU rfl ?_ |refine Aa ?_);refine aB ?_;refine aL (α:={s:Nat×Int×List Ec // s.1<=(Ac al).length/\(q<=s.2.1/\s.2.1<=q+8*s.1)/\(s.2.2.length:Int)<=s.2.1 - p/\∀e∈s.2.2,0<=e.t/\e.t < n}) [0,2,3,8,9,10,11] [1] rfl rfl (λs=>[(12,eI .i64 s.1.1)]) (λs=>[(0,A0 b s.1.2.1),(2,.cells 158 3 (s.1.2.2.map A5)),(3,.cells 25 3 [[.d (iD al),.d (iD n),.arr 2 3 0 s.1.2.2.length]])]) 4 (λs=>(Ac al).length - s.1.1) (⟨⟨0,q,es⟩,by simp,by simp,F,K⟩) a rfl (by (simp[cX,zC,a])) ?_;rintro⟨⟨i,u,z⟩,hi,M,g,y⟩;(try dsimp only[cA,cB]);have hi:i<=(Ac al).length:=hi;have M:q<=u/\u<=q+8*i:=M;have g:(z.length:Int)<=u - p:=g;clear K F;(repeat first|refine sN rfl ?_ |refine tM rfl ?_ |refine s2 rfl λ_ f=>?_ |refine aU rfl ?_ |refine Aa ?_)
  ((refine aC rfl ?_ ?_<;>rintro⟨⟩);all_goals try (simp at f;done))
  ·have B:i < (Ac al).length:=by (simp only[oZ] at *;omega)
   obtain⟨l,G⟩:=get_some B
   have X:((Ac al).map BB)[((i:Nat):Int).toNat]? = some (BB l):=by rw [i9];simp [G]
   refine aK ?_;refine aS (aB ?_);(repeat first|refine tX rfl ?_ |refine aU rfl ?_ |refine Aa ?_);refine aB ?_;refine aL (α:={s:Nat×Int×List Ec // (s.1:Int)<=n/\(u<=s.2.1/\s.2.1<=u+s.1)/\(s.2.2.length:Int)<=s.2.1 - p/\∀e∈s.2.2,0<=e.t/\e.t < n}) [0,2,3,8,9,10,11,12] [1] rfl rfl (λs=>[(13,eI .i64 s.1.1)]) (λs=>[(0,A0 b s.1.2.1),(2,.cells 158 3 (s.1.2.2.map A5)),(3,.cells 25 3 [[.d (iD al),.d (iD n),.arr 2 3 0 s.1.2.2.length]])]) 4 (λs=>n.toNat - s.1.1) (⟨⟨0,u,z⟩,by simp;omega,by simp,g,y⟩) a rfl (by (simp[cX,zC,a])) ?_;rintro⟨⟨j,v,h⟩,Q,L,w,x⟩;(try dsimp only[cA,cB]);have Q:(j:Int)<=n:=Q;have L:u<=v/\v<=u+j:=L;have w:(h.length:Int)<=v - p:=w;clear y g;(repeat first|refine tM rfl ?_ |refine s2 rfl λ_ f=>?_ |refine aU rfl ?_ |refine Aa ?_)
   ((refine aC rfl ?_ ?_<;>rintro⟨⟩);all_goals try (simp at f;done))
   ·obtain⟨c,c1,c2,T⟩:=A3 (TB:=TB) b hb v few (by omega)
    have I:(j:Int) < n:=by (simp only[oZ] at *;omega)
    refine aK ?_;refine aS (aB ?_);(repeat first|refine tA rfl ?_ |refine aU rfl ?_);(refine pW rfl ?_ rfl (by rfl);refine Ae [0] rfl rfl (T) ⟨rfl,by decide,by decide⟩ rfl (by simp[cX,zC,a]) ?_;rintro Y R S ⟨rfl,rfl,rfl⟩ _);(repeat first|refine s2 rfl λ_ f=>?_ |refine Aa ?_);(refine aC rfl ?_ ?_<;>rintro⟨⟩)
    ·refine rG (GI [(1,13),(10,1),(12,1)]) (by kernel_rfl) ?_
     (repeat first|refine tA rfl ?_ |(refine s4 rfl ‹_› rfl ?_ ?_;omega)|(refine Ai rfl ?_;refine gA rfl ?_;first| refine gS (λ_ _=>AV rfl rfl (by rfl) (by rfl)) ?_));(refine pW rfl ?_ rfl (by rfl);refine Aw rfl rfl rfl (by first| (simp;done)|(simp;(omega))) rfl (by intro r N;simp at N;subst N;rfl) (by rfl) (am rfl) (by simp;omega) ?_);(repeat first|(refine sA rfl ?_ ?_;first|exact tI|omega) |refine aU rfl ?_ |refine Aa ?_)
     have J:∀e∈h++[(⟨k,l,j⟩:Ec)],0<=e.t/\e.t < n:=λe A=>by
      rcases f6.1 A with A|A
      ·exact x e A
      ·simp at A;subst A;exact⟨by dsimp only;omega,I⟩
     refine⟨⟨⟨j+1,v+1,h++[⟨k,l,j⟩]⟩,by dsimp only;omega,by dsimp only;omega,by simp;omega,J⟩,by dsimp only;(omega),[0,1,4,3],?_⟩;(simp[cX,zC,a,cN]<;>rfl)
    ·refine aK ?_
     (repeat first|(refine sA rfl ?_ ?_;first|exact tI|omega) |refine aU rfl ?_ |refine Aa ?_);refine⟨⟨⟨j+1,v+1,h⟩,by dsimp only;omega,by dsimp only;omega,by dsimp only;omega,x⟩,by dsimp only;(omega),[0,1,2,3],?_⟩;(simp[cX,zC,a,cN]<;>rfl)
   ·have H:(j:Int)=n:=by (simp only[oZ] at *;omega)
    refine aE ?_;(repeat first|(refine sA rfl ?_ ?_;first|exact tI|omega) |refine aU rfl ?_ |refine Aa ?_);refine⟨⟨⟨i+1,v,h⟩,by dsimp only;omega,by dsimp only;omega,w,x⟩,by dsimp only;(omega),[0,1,2,3],?_⟩;(simp[cX,zC,a,cN]<;>rfl)
  ·refine aE ?_
   have B:i=(Ac al).length:=by (simp only[oZ] at *;omega)
   (repeat first|(refine sA rfl ?_ ?_;first|exact tI|omega) |refine aU rfl ?_ |refine Aa ?_);refine⟨⟨⟨k+1,u,z⟩,by dsimp only;omega,by dsimp only;omega,g,y⟩,by dsimp only;(omega),[0,1,2,3],?_⟩;(simp[cX,zC,a,cN]<;>rfl)
 ·have H:(k:Int)=n:=by (simp only[oZ] at *;omega)
  refine aE ?_;(repeat first|refine tA rfl ?_ |refine aU rfl ?_ |refine Aa ?_);refine Aj.AH [1,2] [(8,.o (.ip [iD al,iD n,Ej es]))] ⟨⟨_,rfl,.inr (.o (.box rfl (.cons .d (.cons .d (.cons (.full rfl (by simp [d6]) (by simp)) .nil)))))⟩,trivial⟩ ?_;refine aR ⟨_,rfl,[0],BN ⟨al,n,es⟩,[(0,A0 b q)],⟨by intro i hi;match i with|0=>rfl,by decide⟩,rfl,by (simp[cX,zC,a,cN]),q,⟨al,n,es⟩,by omega,⟨rfl,K,by dsimp only;omega⟩,rfl,rfl,rfl⟩
def kv(m:Int)(s:Sys):Prop:=(∀e∈s.es,0<=e.t/\e.t < m)/\s.es.length<=400
theorem jG.le{n m:Int}{s:Sys}(h:jG n s)(b:n<=m):kv m s:=⟨λe a=>by have:=h.2.1 e a;omega,h.2.2⟩
theorem NV(b:List UInt8)(hb:b.length<=2000)(p:Int)(x:0<=p/\p < 800000000):Spec Tryz.prog TB 253 [(0,A0 b p)] 1 [.o (.ptr 0 2 0 0)] (JX b p 403 (kv 5)):=by
 obtain⟨j,v,r⟩:=CB (TB:=TB) b hb p (by omega) [3,6,7,5,2] (by decide) (by decide);obtain⟨g,l,n⟩:=CB (TB:=TB) b hb (p+1) (by omega) [2,3,1,3] (by decide) (by decide);obtain⟨h,u,m⟩:=CB (TB:=TB) b hb (p+1+1) (by omega) [2,3,4] (by decide) (by decide)
 have k:1<=g/\g<=3:=by simp at l;omega
 have f:=Iz (TB:=TB) b hb (p+1+1+1) (by omega) j g h (by omega);refine eR Tryz.func253 rfl (by kernel_rfl) rfl ?_;intro Z a;(repeat first|refine tA rfl ?_ |refine aU rfl ?_ |refine Aa ?_);(refine pW rfl ?_ rfl (by rfl);refine Ae [0] rfl rfl (r) ⟨rfl,by decide,by decide⟩ rfl (by simp[cX,zC,a]) ?_;rintro e c d ⟨rfl,rfl,rfl⟩ _);(repeat first|refine tA rfl ?_);(refine pW rfl ?_ rfl (by rfl);refine Ae [0] rfl rfl (n) ⟨rfl,by decide,by decide⟩ rfl (by simp[cX,zC,a]) ?_;rintro e c d ⟨rfl,rfl,rfl⟩ _);(repeat first|refine tA rfl ?_);(refine pW rfl ?_ rfl (by rfl);refine Ae [0] rfl rfl (m) ⟨rfl,by decide,by decide⟩ rfl (by simp[cX,zC,a]) ?_;rintro e c d ⟨rfl,rfl,rfl⟩ _);(refine pW rfl ?_ rfl (by rfl);refine Cf [0] rfl rfl 1 (f) (by decide) ⟨rfl,by decide,by decide⟩ rfl (by simp[cX,zC,a,cN]) ?_;rintro e c d ⟨q,s,w,t,rfl,rfl,rfl⟩ _);(repeat first|refine tA rfl ?_ |refine Aa ?_);refine aR ⟨_,rfl,[0],BN s,[(0,A0 b q)],⟨by intro i hi;match i with|0=>rfl,by decide⟩,rfl,by (simp[cX,zC,a,cN]),q,s,by omega,t.le (by omega),rfl,rfl,rfl⟩
theorem XC(b:List UInt8)(hb:b.length<=2000)(p:Int)(j:0<=p/\p < 800000000):∃n:Int,Spec Tryz.prog TB 238 [(0,A0 b p)] 1 [.o (.ptr 0 2 0 0)] (λx σ nx=>x=eI .i64 n/\σ=[(0,A0 b (p+1))]/\nx=1):=by
 obtain⟨e,h,f⟩:=CB (TB:=TB) b hb p (by omega) [3,7,1,5,0,6,63,2,21] (by decide) (by decide);refine⟨e,?_⟩;refine eR Tryz.func238 rfl (by kernel_rfl) rfl ?_;intro Z a;(repeat first|refine tA rfl ?_ |refine aU rfl ?_ |refine Aa ?_);(refine pW rfl ?_ rfl (by rfl);refine Ae [0] rfl rfl (f) ⟨rfl,by decide,by decide⟩ rfl (by simp[cX,zC,a]) ?_;rintro g c d ⟨rfl,rfl,rfl⟩ _);(repeat first|refine tA rfl ?_ |refine Aa ?_);refine aR ⟨_,rfl,?_⟩;refine⟨[0],_,[(0,A0 b (p+1))],⟨by first|(simp;done)|decide|(intro i hi;match i with|0=>rfl),by decide⟩,rfl,by (simp[cX,zC,a]),rfl,rfl,rfl⟩
theorem Pa(b:List UInt8)(hb:b.length<=2000)(p:Int)(Q:0<=p/\p < 700000000)(al:Int):Spec Tryz.prog TB 255 [(0,A0 b p)] 1 [.o (.ptr 0 2 0 0),eI .i64 al] (GK b p 100 (λa=>GJ 6 a)):=by
 obtain⟨v,P,I⟩:=CB (TB:=TB) b hb p (by omega) [63,63,5,3,6] (by decide) (by decide);obtain⟨c,S,R,K⟩:=A3 (TB:=TB) b hb (p+1) 8 (by omega);obtain⟨H,J⟩:=XC (TB:=TB) b hb (p+1+1) (by omega);refine eR Tryz.func255 rfl (by kernel_rfl) rfl ?_;intro Z e;(repeat first|refine tA rfl ?_ |refine aU rfl ?_ |refine Aa ?_);(refine pW rfl ?_ rfl (by rfl);refine Ae [0] rfl rfl (I) ⟨rfl,by decide,by decide⟩ rfl (by simp[cX,zC,e]) ?_;rintro h f g ⟨rfl,rfl,rfl⟩ _);(repeat first|refine tA rfl ?_ |refine aU rfl ?_ |refine Aa ?_);(refine pW rfl ?_ rfl (by rfl);refine Ae [0] rfl rfl (K) ⟨rfl,by decide,by decide⟩ rfl (by simp[cX,zC,e]) ?_;rintro h f g ⟨rfl,rfl,rfl⟩ _);(repeat first|refine s2 rfl λ_ u=>?_ |refine Aa ?_);(refine aC rfl ?_ ?_<;>rintro⟨⟩)
 ·(repeat first|refine tA rfl ?_ |refine aU rfl ?_)
  (refine pW rfl ?_ rfl (by rfl);refine Ae [0] rfl rfl (J) ⟨rfl,by decide,by decide⟩ rfl (by simp[cX,zC,e]) ?_;rintro h f g ⟨rfl,rfl,rfl⟩ _);(repeat first|refine tA rfl ?_ |refine aU rfl ?_ |refine Aa ?_);obtain⟨N,M,L,m⟩:=A3 (TB:=TB) b hb (p+1+1+1) 4 (by omega);obtain⟨k,x,y⟩:=CB (TB:=TB) b hb (p+1+1+1+1) (by omega) [3,2,4,1] (by decide) (by decide)
  have w:1<=k/\k<=4:=by simp at x;omega
  have G:=LG (TB:=TB) b hb (p+1+1+1+1+1) (by omega) (H) k (by omega);have F:=GZ (TB:=TB) b hb (p+1+1+1+1) (by omega) (H)
  obtain⟨j,rfl⟩:∃j,j=H:=⟨_,rfl⟩
  (refine pW rfl ?_ rfl (by rfl);refine Ae [0] rfl rfl (m) ⟨rfl,by decide,by decide⟩ rfl (by simp[cX,zC,e]) ?_;rintro h f g ⟨rfl,rfl,rfl⟩ _);(repeat first|refine s2 rfl λ_ u=>?_ |refine Aa ?_);(refine aC rfl ?_ ?_<;>rintro⟨⟩)
  ·(repeat first|refine tA rfl ?_ |refine aU rfl ?_)
   (refine pW rfl ?_ rfl (by rfl);refine Ae [0] rfl rfl (y) ⟨rfl,by decide,by decide⟩ rfl (by simp[cX,zC,e]) ?_;rintro h f g ⟨rfl,rfl,rfl⟩ _);(refine pW rfl ?_ rfl (by rfl);refine Cf [0] rfl rfl 1 (G) (by decide) ⟨rfl,by decide,by decide⟩ rfl (by simp[cX,zC,e,cN]) ?_;rintro h f g ⟨q,l,ac,A,B,n,z,rfl,rfl,rfl⟩ _);(repeat first|refine tA rfl ?_ |refine Aa ?_);refine Aj.AA [4] [] rfl rfl [] [(0,A0 b q),(1,.cells 29 3 [[.d (iD j),.arr 2 1 0 l.length,.arr 3 1 0 ac.length]]),(2,.cells 53 1 (AB l)),(3,.cells 4 1 (ac.map AO)),(4,.sld 3 (sI l))] [0,1,2,3,4] (rl e rfl) (by (simp[cX,zC,e,cN])) ?_;(try dsimp only[cA,cB]);refine Aj.AH [1,2,3,4] [(4,.o (.ip (AM ⟨j,l.map (·.2),ac⟩)))] ⟨⟨_,rfl,.inr (.o (.box rfl (.cons .d (.cons (.MA (s:=4) rfl rfl) (.cons (.full rfl (by simp [d6]) (by simp)) .nil)))))⟩,trivial⟩ ?_;refine aR ⟨_,rfl,[0],Bd ⟨j,l.map (·.2),ac⟩,[(0,A0 b q)],⟨by intro i hi;match i with|0=>rfl,by decide⟩,rfl,by (simp[cX,zC,e,cN]),q,_,by omega,QY B n z (by omega) (by omega),rfl,rfl,rfl⟩
  ·refine aK ?_
   (repeat first|refine tA rfl ?_ |refine aU rfl ?_);(refine pW rfl ?_ rfl (by rfl);refine Ae [0] rfl rfl (F) ⟨rfl,by decide,by decide⟩ rfl (by simp[cX,zC,e,cN]) ?_;rintro h f g ⟨q,t,A,r,rfl,rfl,rfl⟩ _);(repeat first|refine tA rfl ?_ |refine Aa ?_);refine aR ⟨_,rfl,[0],Bd t,[(0,A0 b q)],⟨by intro i hi;match i with|0=>rfl,by decide⟩,rfl,by (simp[cX,zC,e,cN]),q,t,by omega,r.2,rfl,rfl,rfl⟩
 ·refine aK ?_
  (repeat first|refine tA rfl ?_ |refine aU rfl ?_);obtain⟨N,M,L,m⟩:=A3 (TB:=TB) b hb (p+1+1) 4 (by omega);obtain⟨k,x,y⟩:=CB (TB:=TB) b hb (p+1+1+1) (by omega) [3,2,4,1] (by decide) (by decide)
  have w:1<=k/\k<=4:=by simp at x;omega
  have G:=LG (TB:=TB) b hb (p+1+1+1+1) (by omega) (Jg .i64 al v) k (by omega);have F:=GZ (TB:=TB) b hb (p+1+1+1) (by omega) (Jg .i64 al v);generalize Jg .i64 al v=j at *;(refine pW rfl ?_ rfl (by rfl);refine Ae [0] rfl rfl (m) ⟨rfl,by decide,by decide⟩ rfl (by simp[cX,zC,e]) ?_;rintro h f g ⟨rfl,rfl,rfl⟩ _);(repeat first|refine s2 rfl λ_ u=>?_ |refine Aa ?_);(refine aC rfl ?_ ?_<;>rintro⟨⟩)
  ·(repeat first|refine tA rfl ?_ |refine aU rfl ?_)
   (refine pW rfl ?_ rfl (by rfl);refine Ae [0] rfl rfl (y) ⟨rfl,by decide,by decide⟩ rfl (by simp[cX,zC,e]) ?_;rintro h f g ⟨rfl,rfl,rfl⟩ _);(refine pW rfl ?_ rfl (by rfl);refine Cf [0] rfl rfl 1 (G) (by decide) ⟨rfl,by decide,by decide⟩ rfl (by simp[cX,zC,e,cN]) ?_;rintro h f g ⟨q,l,ac,A,B,n,z,rfl,rfl,rfl⟩ _);(repeat first|refine tA rfl ?_ |refine Aa ?_);refine Aj.AA [4] [] rfl rfl [] [(0,A0 b q),(1,.cells 29 3 [[.d (iD j),.arr 2 1 0 l.length,.arr 3 1 0 ac.length]]),(2,.cells 53 1 (AB l)),(3,.cells 4 1 (ac.map AO)),(4,.sld 3 (sI l))] [0,1,2,3,4] (rl e rfl) (by (simp[cX,zC,e,cN])) ?_;(try dsimp only[cA,cB]);refine Aj.AH [1,2,3,4] [(4,.o (.ip (AM ⟨j,l.map (·.2),ac⟩)))] ⟨⟨_,rfl,.inr (.o (.box rfl (.cons .d (.cons (.MA (s:=4) rfl rfl) (.cons (.full rfl (by simp [d6]) (by simp)) .nil)))))⟩,trivial⟩ ?_;refine aR ⟨_,rfl,[0],Bd ⟨j,l.map (·.2),ac⟩,[(0,A0 b q)],⟨by intro i hi;match i with|0=>rfl,by decide⟩,rfl,by (simp[cX,zC,e,cN]),q,_,by omega,QY B n z (by omega) (by omega),rfl,rfl,rfl⟩
  ·refine aK ?_
   (repeat first|refine tA rfl ?_ |refine aU rfl ?_);(refine pW rfl ?_ rfl (by rfl);refine Ae [0] rfl rfl (F) ⟨rfl,by decide,by decide⟩ rfl (by simp[cX,zC,e,cN]) ?_;rintro h f g ⟨q,t,A,r,rfl,rfl,rfl⟩ _);(repeat first|refine tA rfl ?_ |refine Aa ?_);refine aR ⟨_,rfl,[0],Bd t,[(0,A0 b q)],⟨by intro i hi;match i with|0=>rfl,by decide⟩,rfl,by (simp[cX,zC,e,cN]),q,t,by omega,r.2,rfl,rfl,rfl⟩
def Cl(t:CR)(G:PS)(i k:Nat):Prop:=∀p,p < t.q.nx.length->∀l∈C0 t,(p < i\/(p=i/\l∈(C0 t).take k))->∀j,(Ks t.s.es l (G p)).testBit j=true->(G (Cg t.q p l).toNat).testBit j=true
structure lz (t:CR) (F0 F:PS) (i k:Nat) (G:PS) (b:Bool):Prop where
 ok:DG t G
 lo:∀p j,(F0 p).testBit j=true->(G p).testBit j=true
 hi:∀p j,(G p).testBit j=true->Qn t F0 p j
 le:∀p,F p<=G p
 yes:b=true->SA G < SA F
 no:b=false->G=F/\Cl t F i k
noncomputable def bt(t:CR)(w:W):Bool:=Bv t && (within w t.al && LS t w)
end Go.Am
