/-
  The reference's move; safe words; a task as a teacher: walked.
-/
import Derived.Test.YtdipaikojjjebaaGreatDoorPart34
import Derived.Test.YtdipaikojjjebaaGreatDoorPart31
set_option linter.all false
namespace Go.Am
open Go Go.Proofs
set_option maxHeartbeats 1000000
set_option maxRecDepth 4000
attribute [local irreducible] A6 CC Lex Bz Ak Spec
variable {TB:BJ}
theorem gv{t:CP}{l:Int}{F:PS}{k x:Nat}(h:Cz t.q k l=(x:Int)):Ev t l F (k+1)=X9 (Ev t l F k) x (Ev t l F k x ||| DC t.s l (F k)):=by
 rw[JX];funext p;unfold X9;rw[h];by_cases e:p=x
 ·subst e;simp
 ·rw[if_neg e,if_neg (by omega)]
theorem aI{t:CP}(ht:Bc t=true){F:PS}(w:Dd t F){l:Int}(m:0<=l/\l<6):Pure Tryz.prog TB 192 [QZ t,Al (NB t.q.nx.length F),eI .i64 l] (Al (NB t.q.nx.length (DA t l F))):=by
 have K:AX t.s=true:=by unfold Bc at ht;simp only[d4]at ht;exact ht.1
 have e:=CG ht;have N:=AJ e;have u:=PR (TB:=TB) ht (Lg ht m w);rw[show Td t (WK t l F)=DA t l F from rfl]at u
 have L:(NB t.q.nx.length F).length=t.q.nx.length:=by simp
 have P:List.replicate t.q.nx.length (AD 0)=(NB t.q.nx.length (Ev t l F 0)).map AD:=SH;have y:[zC (Value.int IntKind.i64 0)]=AD 0:=rfl;have r:=Dg (TB:=TB) t.s.al l m.1 (by omega);refine eG Tryz.func192 rfl (by kernel_rfl) rfl ?_;intro Γ c;(repeat first|refine sN rfl ?_|refine tA rfl ?_|refine aU rfl ?_|apply Aa);(refine pW rfl ?_ rfl (by rfl);refine Lh rfl rfl (by rfl) (by rfl) (am rfl) (by omega) (by omega) (by omega) ?_);(repeat first|refine tA rfl ?_|refine aU rfl ?_|apply Aa);apply aB;refine aL (α:={k:Nat // k<=t.q.nx.length}) [1,2,3] [] rfl rfl (λs=>[(7,.o (.arr 0 1 0 t.q.nx.length)),(8,eI .i64 s.1)]) (λs=>[(0,.cells 3 1 ((NB t.q.nx.length (Ev t l F s.1)).map AD))]) 1 (λs=>t.q.nx.length-s.1) (⟨0,by omega⟩) c rfl (by (simp[cX,zC,c,P,y])) ?_;rintro⟨k,hk⟩;(try dsimp only[cA,cB]);by_cases i:k<t.q.nx.length
 ·have S:((NB t.q.nx.length F).map Bs)[((k:Nat):Int).toNat]?=some (Bs (F k:Int)):=by rw[i7];simp[i]
  have j:=JV (TB:=TB) t.q e k i l m.1 m.2;have A:=DH e i m.1 m.2
  obtain⟨x,B⟩:∃x:Nat,Cz t.q k l=x:=⟨(Cz t.q k l).toNat,by omega⟩
  have z:=gv (F:=F) B;rw[B]at j A;have p:=Sc (TB:=TB) K l (w.lt k);have R:=TM (n:=t.q.nx.length) (G:=Ev t l F k) (x:=x) (by omega);have M:=Zf ht (l:=l) w k x;have J:=JD ht (l:=l) (w.lt k);have h:=OY (a:=Ev t l F k x) (b:=DC t.s l (F k)) (by omega) (by omega);have d:=TN (n:=t.q.nx.length) (x:=x) (v:=Ev t l F k x ||| DC t.s l (F k)) (G:=Ev t l F k);rw[<-z]at d;(repeat first|refine sN rfl ?_|refine tA rfl ?_|refine s2 rfl λ_ f=>?_|refine aU rfl ?_|apply Aa)
  ((refine aC rfl ?_ ?_<;>rintro⟨⟩);all_goals try(exfalso;(simp only[oZ] at *;omega)))
  apply aK;refine aS (aB ?_);(repeat first|refine tA rfl ?_|(refine s4 rfl ‹_› rfl ?_ ?_;omega)|(refine sC rfl (r) ?_;intro _ f)|refine aU rfl ?_|apply Aa);(refine aC rfl ?_ ?_<;>rintro⟨⟩)
  ·have g:DC t.s l (F k)=Cv t.s.es l (F k):=by unfold DC;rw[if_pos f]
   rw[<-g]at p;(repeat first|(refine sA rfl ?_ ?_;first|exact tI|omega)|refine t4 rfl ‹_› rfl ?_|refine sP rfl (p) rfl ?_|refine sP rfl (j) rfl ?_|refine aU rfl ?_|apply Aa);refine⟨⟨k+1,by omega⟩,by dsimp only;(omega),[0],?_⟩
   simp[cX,zC,c,h];simpa[d5]using d
  ·have g:DC t.s l (F k)=F k:=by unfold DC;rw[if_neg (by simp[f])]
   rw[g]at h d;apply aK;(repeat first|(refine sA rfl ?_ ?_;first|exact tI|omega)|refine t4 rfl ‹_› rfl ?_|refine sP rfl (j) rfl ?_|refine aU rfl ?_|apply Aa);refine⟨⟨k+1,by omega⟩,by dsimp only;(omega),[0],?_⟩
   simp[cX,zC,c,h];simpa[d5]using d
 ·obtain rfl:k=t.q.nx.length:=by omega
  rw[show Ev t l F t.q.nx.length=WK t l F from rfl];(repeat first|refine sN rfl ?_|refine tA rfl ?_|refine s2 rfl λ_ f=>?_|refine aU rfl ?_|apply Aa)
  ((refine aC rfl ?_ ?_<;>rintro⟨⟩);all_goals try(exfalso;(simp only[oZ] at *;omega)))
  apply aE;(repeat first|refine tA rfl ?_|refine aU rfl ?_);(refine pW rfl ?_ rfl (by rfl);refine Ai [0] rfl rfl (u) ⟨rfl,by decide,by decide⟩ rfl (by simp[cX,zC,c]) ?_;rintro Q H I ⟨rfl,rfl,rfl⟩ _);(repeat first|refine tA rfl ?_);apply Aa;refine Ak.Ay [] [] rfl rfl [(6,.o (.arr 0 1 0 t.q.nx.length))] [(0,.cells 3 1 ((NB t.q.nx.length (DA t l F)).map AD))] [0] (rl c rfl) (by (simp[cX,zC,c])) ?_;(try dsimp only[cA,cB]);refine Ak.settle [(6,Al (NB t.q.nx.length (DA t l F)))] ⟨⟨_,rfl,.o (.full rfl (by simp[d5]) (by simp))⟩,trivial⟩ ?_;refine aR ⟨_,rfl,rfl⟩
theorem Ih(t:CP):Pure Tryz.prog TB 185 [QZ t] (eB (Bc t)):=by
 unfold Bc;refine eN Tryz.func185 rfl (by kernel_rfl) rfl ?_;intro Γ b;(repeat' first|refine tA rfl ?_|(refine sC rfl (Cg t.s) ?_;intro _ a)|(refine sC rfl (Bl t.q) ?_;intro _ a)|(refine sC rfl (DE t.al) ?_;intro _ a)|refine s3 rfl ?_ ?_<;>rintro rfl|refine aU rfl ?_|apply Aa|(refine aC rfl ?_ ?_<;>rintro⟨⟩)|apply aK|apply aE|apply aB|refine aR ⟨_,rfl,?_⟩)
 all_goals (show E.o _=E.o _;simp_all)
noncomputable def KI(t:CP)(w:W):Bool:=Bc t && (within w t.al && LS t w)
theorem Yz{w:W}{al:Int}(h:within w al=true):∀c∈w,0<=(c.toNat:Int)-97/\(c.toNat:Int)-97<6:=λc a=>IF (EN h c a)
theorem Oq(t:CP)(w:W)(A:w.length<=1099511627776):Pure Tryz.prog TB 146 [QZ t,eT w] (eB (KI t w)):=by
 have n:=Ih (TB:=TB) t;have m:=Ez (TB:=TB) w t.al A;by_cases h:(Bc t && within w t.al)=true
 ·have ht:Bc t=true:=by revert h;cases Bc t<;>simp
  have g:within w t.al=true:=by revert h;cases within w t.al<;>simp
  have z:=Yz g
  have y:KI t w=LS t w:=by unfold KI;rw[ht,g];rfl
  rw[y];rw[ht]at n;rw[g]at m;have j:=Xz (TB:=TB) ht;refine eG Tryz.func146 rfl (by kernel_rfl) rfl ?_;intro Γ d
  (repeat' first|refine tA rfl ?_|refine s2 rfl λ_ a=>?_|refine sP rfl (n) rfl ?_|refine sP rfl (m) rfl ?_|refine sP rfl (j) rfl ?_|refine s3 rfl ?_ ?_<;>rintro rfl|refine aU rfl ?_|apply Aa|(refine aC rfl ?_ ?_<;>rintro⟨⟩));all_goals try contradiction
  apply aK;(repeat first|refine tA rfl ?_|refine sP rfl (j) rfl ?_|refine aU rfl ?_|apply Aa);apply aB;refine aL (α:={x:Nat×PS // x.1<=w.length/\Dd t x.2/\Gg t x.2 (w.drop x.1)=LS t w}) [1,2] [] rfl rfl (λs=>[(5,Al (NB t.q.nx.length s.1.2)),(6,eI .i64 s.1.1)]) (λs=>[]) 0 (λs=>w.length-s.1.1) (⟨⟨0,CA t⟩,by simp,GK ht,rfl⟩) d rfl (by (simp[cX,zC,d])) ?_;rintro⟨⟨i,F⟩,hi,l,e⟩;(try dsimp only[cA,cB]);have hi:i<=w.length:=hi;have l:Dd t F:=l;have e:Gg t F (w.drop i)=LS t w:=e;have f:=dm (TB:=TB) ht (F:=F);by_cases p:i<w.length
  ·obtain⟨c,v⟩:=get_some p
   have u:w[((i:Nat):Int).toNat]?=some c:=by simpa using v
   have k:=z c (co v);have r:=IC (TB:=TB) w i c u;have o:=aI (TB:=TB) ht l k;have hno:=Mp ht k l;rw[BF v,Gg]at e;generalize Fy t F=b at *
   (repeat' first|refine tA rfl ?_|refine s2 rfl λ_ a=>?_|refine sP rfl (f) rfl ?_|refine s3 rfl ?_ ?_<;>rintro rfl|refine aU rfl ?_|apply Aa|(refine aC rfl ?_ ?_<;>rintro⟨⟩));all_goals try contradiction
   all_goals first|(exfalso;(simp only[oZ] at *;omega);done)|skip
   ·have hb:b=false:=by simpa using a
    subst hb;apply aK;refine aS (aB ?_);refine rG (Hm []) (by kernel_rfl) ?_;(repeat first|(refine sA rfl ?_ ?_;first|exact tI|omega)|refine sP rfl (r) rfl ?_|refine sP rfl (o) rfl ?_|refine aU rfl ?_|apply Aa);refine⟨⟨⟨i+1,DA t ((c.toNat:Int)-97) F⟩,by omega,hno,by simpa using e⟩,by dsimp only;(omega),[],?_⟩;simp[cX,zC,d]
   ·have hb:b=true:=by simpa using a
    subst hb
    have e:LS t w=false:=by simpa using e.symm
    rw[e];apply aE;(repeat first|refine tA rfl ?_|refine s2 rfl λ_ a=>?_|refine sP rfl (f) rfl ?_|refine aU rfl ?_|apply Aa);(subst_vars;exact aR ⟨_,rfl,rfl⟩)
  ·obtain rfl:i=w.length:=by omega
   rw[q9,Gg]at e;rw[<-e]
   (repeat' first|refine tA rfl ?_|refine s2 rfl λ_ a=>?_|refine sP rfl (f) rfl ?_|refine s3 rfl ?_ ?_<;>rintro rfl|refine aU rfl ?_|apply Aa|(refine aC rfl ?_ ?_<;>rintro⟨⟩));all_goals try contradiction
   all_goals first|(exfalso;(simp only[oZ] at *;omega);done)|skip
   apply aE;(repeat first|refine tA rfl ?_|refine s2 rfl λ_ a=>?_|refine sP rfl (f) rfl ?_|refine aU rfl ?_|apply Aa);(subst_vars;exact aR ⟨_,rfl,rfl⟩)
 ·have y:KI t w=false:=by unfold KI;revert h;cases Bc t<;>cases within w t.al<;>simp
  rw[y];refine eG Tryz.func146 rfl (by kernel_rfl) rfl ?_;intro Γ d
  (repeat' first|refine tA rfl ?_|refine s2 rfl λ_ a=>?_|(refine sC rfl (n) ?_;intro _ a)|(refine sC rfl (m) ?_;intro _ a)|refine s3 rfl ?_ ?_<;>rintro rfl|refine aU rfl ?_|apply Aa|(refine aC rfl ?_ ?_<;>rintro⟨⟩));all_goals try contradiction
  all_goals first
   | (subst_vars;exact aR ⟨_,rfl,rfl⟩)
   | (exfalso;simp_all;done)
theorem OM(t:EP)(hk:t.kn=false):Pure Tryz.prog TB 140 [EW t] (eI .i64 (if Bc ⟨t.s,t.q,t.al⟩ then t.al else -1)):=by
 obtain⟨kn,p,s,q,al⟩:=t;dsimp only at hk;subst hk;have c:=Ih (TB:=TB) ⟨s,q,al⟩;refine eN Tryz.func140 rfl (by kernel_rfl) rfl ?_;intro Γ b;(repeat' first|refine tA rfl ?_|refine s2 rfl λ_ a=>?_|(refine sC rfl (c) ?_;intro _ a)|refine s3 rfl ?_ ?_<;>rintro rfl|refine aU rfl ?_|apply Aa|(refine aC rfl ?_ ?_<;>rintro⟨⟩)|apply aK|apply aE|apply aB|refine aR ⟨_,rfl,?_⟩)
 all_goals first
  | (show E.o _=E.o _;congr;grind)
  | (exfalso;simp at *;done)
theorem Pl(t:EP)(hk:t.kn=false)(w:W)(b:w.length<=1099511627776):Pure Tryz.prog TB 186 [EW t,eT w] (eB (KI ⟨t.s,t.q,t.al⟩ w)):=by
 obtain⟨kn,p,s,q,al⟩:=t;dsimp only at hk;subst hk;have c:=Oq (TB:=TB) ⟨s,q,al⟩ w b;refine eN Tryz.func186 rfl (by kernel_rfl) rfl ?_;intro Γ a;(repeat' first|refine tA rfl ?_|refine sP rfl (c) rfl ?_|refine aU rfl ?_|apply Aa|(refine aC rfl ?_ ?_<;>rintro⟨⟩)|apply aK|apply aE|apply aB|refine aR ⟨_,rfl,?_⟩)
 all_goals rfl
theorem jh{t:EP}(hk:t.kn=false):KJ Tryz.prog TB 140 186 t (if Bc ⟨t.s,t.q,t.al⟩ then t.al else -1) (KI ⟨t.s,t.q,t.al⟩):=⟨OM t hk,Pl t hk⟩
theorem Nr(t:CP):Pure Tryz.prog TB 51 [QZ t] (eB (Bc t)):=by
 unfold Bc;refine eN Tryz.func51 rfl (by kernel_rfl) rfl ?_;intro Γ b;(repeat' first|refine tA rfl ?_|(refine sC rfl (BL t.s) ?_;intro _ a)|(refine sC rfl (AW t.q) ?_;intro _ a)|(refine sC rfl (HC t.al) ?_;intro _ a)|refine s3 rfl ?_ ?_<;>rintro rfl|refine aU rfl ?_|apply Aa|(refine aC rfl ?_ ?_<;>rintro⟨⟩)|apply aK|apply aE|apply aB|refine aR ⟨_,rfl,?_⟩)
 all_goals (show E.o _=E.o _;simp_all)
abbrev oq(p:AY)(t:CP):E:=oo false p t.s t.q t.al
theorem QG(p:AY)(t:CP):Pure Tryz.prog TB 126 [oq p t] (eI .i64 (if Bc t then t.al else -1)):=by
 have c:=Nr (TB:=TB) t;refine eN Tryz.func126 rfl (by kernel_rfl) rfl ?_;intro Γ b;(repeat' first|refine tA rfl ?_|refine s2 rfl λ_ a=>?_|(refine sC rfl (c) ?_;intro _ a)|refine s3 rfl ?_ ?_<;>rintro rfl|refine aU rfl ?_|apply Aa|(refine aC rfl ?_ ?_<;>rintro⟨⟩)|apply aK|apply aE|apply aB|refine aR ⟨_,rfl,?_⟩)
 all_goals first
  | (show E.o _=E.o _;congr;grind)
  | (exfalso;simp at *;done)
abbrev Oo(c:C):C:=.mv 129 [c]
theorem Rx[Dl TB](p:AY){t:CP}(ht:Bc t=true)(ok:W->Prop):∃m,NX t ok m/\AR Tryz.prog TB 66 0 [] 0 [oq p t] (λx σ nx=>x=.t [(true,[.d (iD t.al),Oo (.ptr 0 14 0 0)]),(false,[.d (bD true)])]/\σ=NI t m/\nx=5):=by
 obtain⟨m,j,e⟩:=TC (TB:=TB) ht ok;refine⟨m,j,?_⟩;have f:=QG (TB:=TB) p t;rw[if_pos ht]at f
 have b:Bb t.al=true:=by unfold Bc at ht;simp only[d4]at ht;exact ht.2.2
 unfold Bb at b;simp only[decide_eq_true_eq]at b;refine AR.Bi (AR.Sq (m:=0) (am rfl) Tryz.func66 rfl (by kernel_rfl) (am rfl) ?_);intro Γ a;(repeat first|refine tA rfl ?_|refine sP rfl (f) rfl ?_|refine aU rfl ?_|apply Aa);apply aB;(repeat first|refine tA rfl ?_|refine s2 rfl λ_ c=>?_|refine aU rfl ?_|apply Aa)
 ((refine aC rfl ?_ ?_<;>rintro⟨⟩);all_goals try (simp at c;done))
 ·exfalso;(simp only[oZ] at *;omega)
 ·(repeat first|refine tA rfl ?_|refine aU rfl ?_|apply Aa)
  ((refine aC rfl ?_ ?_<;>rintro⟨⟩);all_goals try (simp at c;done))
  apply aK;(repeat first|refine tA rfl ?_|refine aU rfl ?_);(refine pW rfl ?_ rfl (by rfl);refine Cn [] rfl rfl 0 (e) (by decide) ⟨rfl,by decide,by decide⟩ rfl (by simp[cX,zC,a,A8]) ?_;rintro k g h ⟨rfl,rfl,rfl⟩ _);(repeat first|(refine Ag rfl ?_;refine gA rfl ?_;first|refine gS (λ_ _=>nE rfl) ?_));(repeat first|refine tA rfl ?_|(refine Ag rfl ?_;refine gA rfl ?_;first|refine gS (λ_ _=>AG rfl rfl (by rfl) (by rfl)) ?_));apply Aa;refine aR ⟨_,rfl,[1,2,3,4,5],.t [(true,[.d (iD t.al),Oo (.ptr 0 14 0 0)]),(false,[.d (bD true)])],NI t m,⟨by intro i hi;omega,by decide⟩,rfl,by (simp[cX,zC,a,A8]),rfl,rfl,rfl⟩
def CK(te:EP):Bool:=if te.kn then AE te.p else Bc ⟨te.s,te.q,te.al⟩
def A3(te:EP):Int:=if te.kn then te.p.al else te.al
noncomputable def BY(te:EP)(w:W):Bool:=if te.kn then LA te.p w else LS ⟨te.s,te.q,te.al⟩ w
def Ud(te:EP)(ok:W->Prop):Prop:=te.kn=false->ky ⟨te.s,te.q,te.al⟩ ok
abbrev kI(al:Int):W->Prop:=λw=>AP (A7 al) w/\w.length<=1048576
theorem nf{tabs:List (Nat×Obj)}[Dl ⟨tabs,none⟩]{t:CP}{ok:W->Prop}(ht:Bc t=true)(a:∀w,ok w->kI t.al w)(b:ky t ok){r:Nat}:Ku Tryz.prog ⟨tabs,some (QE t ok,r)⟩ (Oo (Qd r)) (LS t) ok:=
 ⟨rfl,λe ha d=>dU (es:=[eT _]) e (by simp[Ky,ha]) rfl (eY ht b d (λc f=>IF ((a _ d).1 c f)) (a _ d).2) rfl⟩
theorem mr{tabs:List (Nat×Obj)}{h:Option (Hid×Nat)}{b:Nat}{vals:List Value}(a:MY ⟨tabs,none⟩ b vals):MY ⟨tabs,h⟩ b vals:=⟨a.out⟩
theorem kl{tabs:List (Nat×Obj)}{h:Option (Hid×Nat)}(a:Dl ⟨tabs,none⟩):Dl ⟨tabs,h⟩:=by
 cases a
 constructor<;>(apply mr;assumption)
def X7:List W:=[[97,98,32,50,32,48,97,49,32,49,98,48],[97,98,99,32,51,32,48,97,49,32,49,98,50,32,50,99,48],[97,98,32,51,32,48,97,48,32,48,97,49,32,48,98,48,32,49,98,50,32,50,97,50],[98,99,32,50,32,48,98,49,32,49,99,48],[98,99,32,51,32,48,98,49,32,48,99,48,32,49,99,50,32,50,98,50,32,50,99,50],[45,32,49],[97,32,49,32,48,97,48],[97,99,32,52,32,48,97,49,32,48,97,50,32,49,99,51,32,50,97,50,32,51,97,48,32,51,99,51],[97,98,99,32,52,32,48,97,48,32,48,98,49,32,49,98,50,32,49,99,48,32,50,99,51,32,51,97,49],[97,98,32,53,32,48,97,48,32,48,97,49,32,48,98,48,32,49,97,50,32,49,98,50,32,50,97,51,32,50,98,51,32,51,97,52,32,51,98,52],[97,98,100,32,51,32,48,97,49,32,48,100,48,32,49,98,48,32,49,100,50]]
theorem bK:∀w∈X7,w.length<=60:=by decide
theorem Xs:Pure Tryz.prog TB 151 [] (BW X7):=by
 refine eN Tryz.func151 rfl (by kernel_rfl) rfl ?_;intro Γ a;(repeat first|refine tA rfl ?_|refine aU rfl ?_|apply Aa);refine aR ⟨_,rfl,rfl⟩
theorem Sa(b:List UInt8)(hb:b.length<=2000)(p:Int)(N:0<=p/\p<700000000):Spec Tryz.prog TB 85 [(0,Bo b p)] 1 [.o (.ptr 0 2 0 0)] (LB b p 410 (λs=>s.es.length<=400)):=by
 obtain⟨c,Q,P,I⟩:=Bn (TB:=TB) b hb p 3 (by omega);obtain⟨w,H,J⟩:=lN (TB:=TB) b hb (p+1) (by omega) X7 (by decide) (by decide);have G:=bK w H;have z:=GP (TB:=TB) w (by omega);have g:∀q:Int,p<=q/\q<=p+2->∃(l j k:Int),(0<=j/\j<=8)/\Spec Tryz.prog TB 88 [(0,Bo b q)] 1 [.o (.ptr 0 2 0 0),Al [3,6,7,5,1,0,12]] (λx σ nx=>x=eI .i64 l/\σ=[(0,Bo b (q+1))]/\nx=1)/\
  Spec Tryz.prog TB 88 [(0,Bo b (q+1))] 1 [.o (.ptr 0 2 0 0),Al [3,2,4,1,5]] (λx σ nx=>x=eI .i64 j/\σ=[(0,Bo b (q+1+1))]/\nx=1)/\
  Spec Tryz.prog TB 88 [(0,Bo b (q+1+1))] 1 [.o (.ptr 0 2 0 0),Al [3,2,4,6]] (λx σ nx=>x=eI .i64 k/\σ=[(0,Bo b (q+1+1+1))]/\nx=1):=λq A=>by
  obtain⟨l,M,u⟩:=Ds (TB:=TB) b hb q (by omega) [3,6,7,5,1,0,12] (by decide) (by decide);obtain⟨j,v,t⟩:=Ds (TB:=TB) b hb (q+1) (by omega) [3,2,4,1,5] (by decide) (by decide);obtain⟨k,L,r⟩:=Ds (TB:=TB) b hb (q+1+1) (by omega) [3,2,4,6] (by decide) (by decide);exact⟨l,j,k,by simp at v;omega,u,t,r⟩
 refine eR Tryz.func85 rfl (by kernel_rfl) rfl ?_;intro Γ a;(repeat first|refine tA rfl ?_|refine aU rfl ?_|apply Aa);(refine pW rfl ?_ rfl (by rfl);refine Ai [0] rfl rfl (I) ⟨rfl,by decide,by decide⟩ rfl (by simp[cX,zC,a,cN]) ?_;rintro h d e ⟨rfl,rfl,rfl⟩ _);(repeat first|refine s2 rfl λ_ K=>?_|apply Aa);(refine aC rfl ?_ ?_<;>rintro⟨⟩)
 ·(repeat first|refine tA rfl ?_|refine sP rfl (Xs) rfl ?_|refine aU rfl ?_)
  (refine pW rfl ?_ rfl (by rfl);refine Ai [0] rfl rfl (J) ⟨rfl,by decide,by decide⟩ rfl (by simp[cX,zC,a,cN]) ?_;rintro h d e ⟨rfl,rfl,rfl⟩ _);(refine pW rfl ?_ rfl (by rfl);refine Ai [] rfl rfl (z) ⟨rfl,by decide,by decide⟩ rfl trivial ?_;rintro h d e ⟨⟨y,ok⟩,F,rfl,rfl,rfl⟩ _);have B:y.es.length<=w.length+1:=F;(repeat first|refine tA rfl ?_|refine aU rfl ?_|apply Aa);(refine aC rfl ?_ ?_<;>rintro⟨⟩)
  ·(repeat first|refine tA rfl ?_|refine aU rfl ?_|apply Aa)
   exact aR ⟨_,rfl,[0],Br y,[(0,Bo b (p+1+1))],⟨by intro i hi;match i with|0=>rfl,by decide⟩,rfl,by (simp[cX,zC,a,cN]),p+1+1,y,by omega,by show y.es.length<=400;omega,rfl,rfl,rfl⟩
  apply aK;obtain⟨l,j,k,v,u,t,r⟩:=g (p+1+1) (by omega);have f:=Jt (TB:=TB) b hb (p+1+1+1+1+1) (by omega) l j k (by omega);(repeat first|refine tA rfl ?_|refine aU rfl ?_);(refine pW rfl ?_ rfl (by rfl);refine Ai [0] rfl rfl (u) ⟨rfl,by decide,by decide⟩ rfl (by simp[cX,zC,a,cN]) ?_;rintro h d e ⟨rfl,rfl,rfl⟩ _);(repeat first|refine tA rfl ?_);(refine pW rfl ?_ rfl (by rfl);refine Ai [0] rfl rfl (t) ⟨rfl,by decide,by decide⟩ rfl (by simp[cX,zC,a,cN]) ?_;rintro h d e ⟨rfl,rfl,rfl⟩ _);(repeat first|refine tA rfl ?_);(refine pW rfl ?_ rfl (by rfl);refine Ai [0] rfl rfl (r) ⟨rfl,by decide,by decide⟩ rfl (by simp[cX,zC,a,cN]) ?_;rintro h d e ⟨rfl,rfl,rfl⟩ _);(refine pW rfl ?_ rfl (by rfl);refine Cn [0] rfl rfl 1 (f) (by decide) ⟨rfl,by decide,by decide⟩ rfl (by simp[cX,zC,a,cN]) ?_;rintro h d e ⟨q,n,A,m,rfl,rfl,rfl⟩ _);(repeat first|refine tA rfl ?_|apply Aa);exact aR ⟨_,rfl,[0],Br n,[(0,Bo b q)],⟨by intro i hi;match i with|0=>rfl,by decide⟩,rfl,by (simp[cX,zC,a,cN]),q,n,by omega,m.2.2,rfl,rfl,rfl⟩
 apply aK;obtain⟨l,j,k,v,u,t,r⟩:=g (p+1) (by omega);have f:=Jt (TB:=TB) b hb (p+1+1+1+1) (by omega) l j k (by omega);(repeat first|refine tA rfl ?_|refine aU rfl ?_);(refine pW rfl ?_ rfl (by rfl);refine Ai [0] rfl rfl (u) ⟨rfl,by decide,by decide⟩ rfl (by simp[cX,zC,a,cN]) ?_;rintro h d e ⟨rfl,rfl,rfl⟩ _);(repeat first|refine tA rfl ?_);(refine pW rfl ?_ rfl (by rfl);refine Ai [0] rfl rfl (t) ⟨rfl,by decide,by decide⟩ rfl (by simp[cX,zC,a,cN]) ?_;rintro h d e ⟨rfl,rfl,rfl⟩ _);(repeat first|refine tA rfl ?_);(refine pW rfl ?_ rfl (by rfl);refine Ai [0] rfl rfl (r) ⟨rfl,by decide,by decide⟩ rfl (by simp[cX,zC,a,cN]) ?_;rintro h d e ⟨rfl,rfl,rfl⟩ _);(refine pW rfl ?_ rfl (by rfl);refine Cn [0] rfl rfl 1 (f) (by decide) ⟨rfl,by decide,by decide⟩ rfl (by simp[cX,zC,a,cN]) ?_;rintro h d e ⟨q,n,A,m,rfl,rfl,rfl⟩ _);(repeat first|refine tA rfl ?_|apply Aa);exact aR ⟨_,rfl,[0],Br n,[(0,Bo b q)],⟨by intro i hi;match i with|0=>rfl,by decide⟩,rfl,by (simp[cX,zC,a,cN]),q,n,by omega,m.2.2,rfl,rfl,rfl⟩
abbrev KS(r:Sys×AY×Sys):E:=.t [(true,(AL r.1).map .d),(true,(AQ r.2.1).map .d),(true,(AL r.2.2).map .d)]
structure kT (r:Sys×AY×Sys):Prop where
 a:r.1.es.length<=400
 b:MV 41 r.2.1
 c:r.2.2.es.length<=400
def fF(b:List UInt8)(p m:Int)(x:E)(σ:Ab)(nx:Nat):Prop:=∃(p':Int) (r:Sys×AY×Sys),(p<=p'/\p'<=p+m)/\kT r/\x=KS r/\σ=[(0,Bo b p')]/\nx=1
theorem MV.upto{m n:Nat}{a:AY}(h:MV m a)(c:m<=n):MV n a:=⟨by have:=h.nx;omega,by have:=h.ac;omega,λr b=>by have:=h.row r b;omega⟩
theorem iL{C X:Int->Sys->Prop}{Y:Prop}(h:∀q s,C q s->X q s)(hk:(∀q s,C q s->X q s)->Y):Y:=hk h
theorem XA(b:List UInt8)(hb:b.length<=2000)(p:Int)(T:0<=p/\p<600000000):Spec Tryz.prog TB 123 [(0,Bo b p)] 1 [.o (.ptr 0 2 0 0)] (fF b p 2000):=by
 have S:=PN (TB:=TB) b hb p (by omega);refine eR Tryz.func123 rfl (by kernel_rfl) rfl ?_;intro Γ a;(repeat first|refine tA rfl ?_|refine aU rfl ?_|apply Aa);(refine pW rfl ?_ rfl (by rfl);refine Ai [0] rfl rfl (S) ⟨rfl,by decide,by decide⟩ rfl (by simp[cX,zC,a,cN]) ?_;rintro t e f ⟨K,H,N,z,rfl,rfl,rfl⟩ _);(repeat first|refine tA rfl ?_|refine aU rfl ?_|apply Aa);have R:=PN (TB:=TB) b hb K (by omega);(refine pW rfl ?_ rfl (by rfl);refine Ai [0] rfl rfl (R) ⟨rfl,by decide,by decide⟩ rfl (by simp[cX,zC,a,cN]) ?_;rintro t e f ⟨x,w,M,y,rfl,rfl,rfl⟩ _);(repeat first|refine tA rfl ?_|refine aU rfl ?_|apply Aa);obtain⟨c,Z,Y,P⟩:=Bn (TB:=TB) b hb x 4 (by omega);(refine pW rfl ?_ rfl (by rfl);refine Ai [0] rfl rfl (P) ⟨rfl,by decide,by decide⟩ rfl (by simp[cX,zC,a,cN]) ?_;rintro t e f ⟨rfl,rfl,rfl⟩ _);apply iL (C:=λq s=>(p<=q/\q<=p+1300)/\s.es.length<=400)
 case hk=>
  intro hk;(repeat first|refine s2 rfl λ_ G=>?_|apply Aa);(refine aC rfl ?_ ?_<;>rintro⟨⟩)
  ·(repeat first|refine tA rfl ?_|refine aU rfl ?_)
   have F:=Sa (TB:=TB) b hb (x+1) (by omega);(refine pW rfl ?_ rfl (by rfl);refine Ai [0] rfl rfl (F) ⟨rfl,by decide,by decide⟩ rfl (by simp[cX,zC,a,cN]) ?_;rintro t e f ⟨g,j,v,n,rfl,rfl,rfl⟩ _);(repeat first|refine tA rfl ?_);apply Aa;refine Ak.Ay [0] [] rfl rfl [(2,.o (.ptr 1 3 0 0)),(3,.o (.ptr 2 3 0 0)),(4,.o (.ptr 3 3 0 0)),(5,.o (.ptr 4 3 0 0)),(6,.o (.ptr 5 3 0 0))] [(0,Bo b g),(1,.cells 25 3 [[.d (iD 0),.d (iD 0),.d (.l [])]]),(2,.cells 29 3 [[.d (iD 0),.d (.l []),.d (.l [])]]),(3,.cells 25 3 [[.d (iD 0),.d (iD 0),.d (.l [])]]),(4,.cells 25 3 [(AL j).map .d]),(5,.cells 25 3 [(AL w).map .d])] [0,1,2,3,4,5] (rl a rfl) (by (simp[cX,zC,a,cN,Ae,eC])) ?_;(try dsimp only[cA,cB]);exact hk g j ⟨by omega,n⟩
  ·apply aK
   generalize v:x+1=g at *;refine Ak.Ay [0] [] rfl rfl [(2,.o (.ptr 1 3 0 0)),(3,.o (.ptr 2 3 0 0)),(4,.o (.ptr 3 3 0 0)),(5,.o (.ptr 4 3 0 0)),(6,.o (.ptr 5 3 0 0))] [(0,Bo b g),(1,.cells 25 3 [[.d (iD 0),.d (iD 0),.d (.l [])]]),(2,.cells 29 3 [[.d (iD 0),.d (.l []),.d (.l [])]]),(3,.cells 25 3 [[.d (iD 0),.d (iD 0),.d (.l [])]]),(4,.cells 25 3 [(AL H).map .d]),(5,.cells 25 3 [(AL w).map .d])] [0,1,2,3,4,5] (rl a rfl) (by (simp[cX,zC,a,cN,Ae,eC])) ?_;(try dsimp only[cA,cB]);exact hk g H ⟨by omega,z.2⟩
 case h =>
  intro g j ⟨v,n⟩;(repeat first|refine tA rfl ?_|refine aU rfl ?_);obtain⟨X,V,U,A⟩:=Bn (TB:=TB) b hb g 4 (by omega);(refine pW rfl ?_ rfl (by rfl);refine Ai [0] rfl rfl (A) ⟨rfl,by decide,by decide⟩ rfl (by simp[cX,zC,a,cN]) ?_;rintro t e f ⟨rfl,rfl,rfl⟩ _);apply iL (C:=λq s=>(p<=q/\q<=p+1800)/\s.es.length<=400)
  case hk=>
   intro hk;(repeat first|refine s2 rfl λ_ G=>?_|apply Aa);(refine aC rfl ?_ ?_<;>rintro⟨⟩)
   ·(repeat first|refine tA rfl ?_|refine aU rfl ?_)
    have F:=Sa (TB:=TB) b hb (g+1) (by omega);(refine pW rfl ?_ rfl (by rfl);refine Ai [0] rfl rfl (F) ⟨rfl,by decide,by decide⟩ rfl (by simp[cX,zC,a,cN]) ?_;rintro t e f ⟨k,r,u,m,rfl,rfl,rfl⟩ _);(repeat first|refine tA rfl ?_);apply Aa;refine Ak.Ay [0] [] rfl rfl [(2,.o (.ptr 1 3 0 0)),(3,.o (.ptr 2 3 0 0)),(4,.o (.ptr 3 3 0 0)),(5,.o (.ptr 4 3 0 0)),(6,.o (.ptr 5 3 0 0))] [(0,Bo b k),(1,.cells 25 3 [[.d (iD 0),.d (iD 0),.d (.l [])]]),(2,.cells 29 3 [[.d (iD 0),.d (.l []),.d (.l [])]]),(3,.cells 25 3 [[.d (iD 0),.d (iD 0),.d (.l [])]]),(4,.cells 25 3 [(AL j).map .d]),(5,.cells 25 3 [(AL r).map .d])] [0,1,2,3,4,5] (rl a rfl) (by (simp[cX,zC,a,cN,Ae,eC])) ?_;(try dsimp only[cA,cB]);exact hk k r ⟨by omega,m⟩
   ·apply aK
    generalize u:g+1=k at *;refine Ak.Ay [0] [] rfl rfl [(2,.o (.ptr 1 3 0 0)),(3,.o (.ptr 2 3 0 0)),(4,.o (.ptr 3 3 0 0)),(5,.o (.ptr 4 3 0 0)),(6,.o (.ptr 5 3 0 0))] [(0,Bo b k),(1,.cells 25 3 [[.d (iD 0),.d (iD 0),.d (.l [])]]),(2,.cells 29 3 [[.d (iD 0),.d (.l []),.d (.l [])]]),(3,.cells 25 3 [[.d (iD 0),.d (iD 0),.d (.l [])]]),(4,.cells 25 3 [(AL j).map .d]),(5,.cells 25 3 [(AL w).map .d])] [0,1,2,3,4,5] (rl a rfl) (by (simp[cX,zC,a,cN,Ae,eC])) ?_;(try dsimp only[cA,cB]);exact hk k w ⟨by omega,y.2⟩
  case h=>
   intro k r ⟨u,m⟩;have Q:=Rq (TB:=TB) b hb k (by omega) (Gq .i64 j.al r.al);(repeat first|refine aU rfl ?_);refine rG ⟨Gn [(0,14),(3,14),(5,15),(7,1048),(8,15),(9,1032),(10,1032),(11,1)],bU [0,1,2,3,4,5,6,8,7,9,10,11]⟩ (by kernel_rfl) ?_;(repeat first|refine tA rfl ?_);(refine Ag rfl ?_;refine Di ?_ rfl ⟨rfl,rfl⟩;refine Ai [0] rfl rfl (Q) ⟨rfl,by decide,by decide⟩ rfl (by simp[cX,zC,a,cN]) ?_;rintro t e f ⟨I,J,L,B,rfl,rfl,rfl⟩ _;refine⟨KF 4 5 rfl rfl rfl,?_⟩);(refine Ag rfl ?_;refine dR ?_ rfl ⟨rfl,rfl⟩;refine EB rfl rfl rfl rfl (by rfl) rfl (am rfl) ?_;refine⟨Fs 5 rfl rfl,?_⟩);(refine Ag rfl ?_;refine dR ?_ rfl ⟨rfl,rfl⟩;refine EB rfl rfl rfl rfl (by rfl) rfl (am rfl) ?_;refine⟨Fs 5 rfl rfl,?_⟩);(repeat first|refine tA rfl ?_|apply Aa);exact aR ⟨_,rfl,[0],KS (j,J,r),[(0,Bo b I)],⟨by intro i hi;match i with|0=>rfl,by decide⟩,rfl,by (simp[cX,zC,a,cN]),I,(j,J,r),by omega,⟨n,B.upto (by omega),m⟩,rfl,rfl,rfl⟩
theorem fy(a b:AY):Pure Tryz.prog TB 30 [Bk a,Bk b] (eB (decide (a.al=b.al/\a.nx=b.nx/\a.ac=b.ac))):=by
  have p:=WS (TB:=TB) a.ac b.ac;refine eN Tryz.func30 rfl (by kernel_rfl) rfl ?_;intro Γ d;refine Ak.bound 0 rfl λj=>?_;have j:=j (a.nx.map Fa) ⟨1,_,rfl,.refl⟩;rw[gt]at j;(repeat first|refine tA rfl ?_|refine s2 rfl λ_ c=>?_|(refine sC rfl (p) ?_;intro _ c)|refine s3 rfl ?_ ?_<;>rintro rfl|refine aU rfl ?_|apply Aa);(repeat' first|refine sN rfl ?_|refine tA rfl ?_|refine s2 rfl λ_ c=>?_|(refine sC rfl (p) ?_;intro _ c)|refine s3 rfl ?_ ?_<;>rintro rfl|refine aU rfl ?_|apply Aa|(refine aC rfl ?_ ?_<;>rintro⟨⟩))
  all_goals first
    | (refine aR ⟨_,rfl,?_⟩
       show E.o _=E.o _;congr;grind
       done)
    | skip
  · rename_i t bb e
    have u:a.ac=b.ac:=by simp at c;rw[c]at e;exact of_decide_eq_true e
    have hal:a.al=b.al:=by simpa using ‹decide (a.al≠b.al)=false›
    have s:a.nx.length=b.nx.length:=by (simp only[oZ] at *;omega)
    apply aK;(repeat first|refine tA rfl ?_|refine aU rfl ?_|apply Aa);apply aB;refine Ak.A5 (α:={k:Nat // k<=a.nx.length/\a.nx.take k=b.nx.take k}) (λ⟨k,hk,f⟩=>[(2,.o (.ip (AQ a))),(3,.o (.ip (AQ b))),(5,eI .i64 k)]) (λ⟨k,hk,f⟩=>[]) 0 (λ⟨k,hk,f⟩=>a.nx.length-k) (⟨0,by omega,by simp⟩) [] (En d rfl rfl) (by (simp[cX,zC,d])) ?_;rintro⟨k,hk,f⟩;(try dsimp only);(repeat first|refine sN rfl ?_|refine tA rfl ?_|refine s2 rfl λ_ c=>?_|refine aU rfl ?_|apply Aa)
    ((refine aC rfl ?_ ?_<;>rintro⟨⟩);all_goals try (simp at c;done))
    · have h:k<a.nx.length:=by (simp only[oZ] at *;omega)
      obtain⟨x,n⟩:=get_some (l:=a.nx) (k:=k) h;obtain⟨y,m⟩:=get_some (l:=b.nx) (k:=k) (by omega);have r:=get_map (g:=Fa) n;have q:=get_map (g:=Fa) m;have v:=ZV (TB:=TB) x y;apply aK;refine aS (aB ?_);(repeat first|refine aU rfl ?_);refine rG (Hm []) (by kernel_rfl) ?_;(repeat first|refine tA rfl ?_|(refine s4 rfl ‹_› rfl ?_ ?_;omega)|refine s2 rfl λ_ c=>?_|(refine sC rfl (v) ?_;intro _ c)|apply Aa);(refine aC rfl ?_ ?_<;>rintro⟨⟩)
      all_goals first
        | ((repeat first|refine tA rfl ?_|refine aU rfl ?_|apply Aa)
           refine aR ⟨_,rfl,?_⟩
           show E.o _=E.o _;congr;grind
           done)
        | (apply aK
           (repeat first|(refine sA rfl ?_ ?_;first|exact tI|omega)|refine aU rfl ?_|apply Aa);refine⟨⟨k+1,by omega,by rw[d8,d8,n,m];grind⟩,by dsimp only;(omega),[],?_⟩
           simp[cX,zC,d])
    · apply aE
      (repeat first|refine tA rfl ?_|refine aU rfl ?_|apply Aa);refine aR ⟨_,rfl,?_⟩
      have i:a.nx.length<=k:=by (simp only[oZ] at *;omega)
      rw[ge i,ge (by omega)]at f
      show E.o _=E.o _;congr;grind
structure nU (t:CP):Prop where
 s:t.s.es.length<=401
 q:MV 60 t.q
end Go.Am
namespace Go.Am
open Go Go.Proofs
def EU(n:Nat)(p:W->Prop):Prop:=∃l:List W,l.length<=n/\∀w,p w->w∈l
theorem EU.or{a b:Nat}{p q:W->Prop}(h:EU a p)(f:EU b q):EU (a+b) (λw=>p w\/q w):=by
 obtain⟨l,i,e⟩:=h;obtain⟨l',g,d⟩:=f;exact⟨l++l',by simp;omega,λw c=>f6.2 (c.imp (e w) (d w))⟩
theorem EU.sub{a b:Nat}{p q:W->Prop}(h:EU a p)(d:∀w,q w->p w)(hb:a<=b):EU b q:=by
 obtain⟨l,f,e⟩:=h;exact⟨l,by omega,λw c=>e w (d w c)⟩
theorem EU.none{n:Nat}{p:W->Prop}(h:∀w,¬p w):EU n p:=⟨[],by simp,λw a=>absurd a (h w)⟩
theorem PU{α β:Type}(f:α->List β)(b:Nat):∀(l:List α),(∀x∈l,(f x).length<=b)->(l.flatMap f).length<=l.length*b
 | [],_=>by simp
 | x::l,h=>by
  have d:=PU f b l λy a=>h y (by simp[a]);have c:=h x (by simp);rw[ru,qb,pD,Nat.succ_mul];omega
theorem EU.ex{α:Type}{n b:Nat}{p:W->Prop}{q:α->W->Prop}(l:List α)(i:l.length<=n)(g:∀x∈l,EU b (q x))(h:∀w,p w->∃x∈l,q x w):EU (n*b) p:=by
 classical
 have e:∀x:α,∃k:List W,x∈l->k.length<=b/\∀w,q x w->w∈k:=λx=>by
  by_cases a:x∈l
  ·obtain⟨k,m,j⟩:=g x a;exact⟨k,λ_=>⟨m,j⟩⟩
  ·exact⟨[],λh=>absurd h a⟩
 have d:=λx=>Classical.choose_spec (e x);refine⟨l.flatMap λx=>Classical.choose (e x),lm (PU _ b l λx a=>(d x a).1) (pC b i),λw f=>?_⟩;obtain⟨x,a,c⟩:=h w f;exact qg.2 ⟨x,a,(d x a).2 w c⟩
theorem EU.map{α:Type}{n:Nat}{p:W->Prop}(f:α->W)(l:List α)(c:l.length<=n)(h:∀w,p w->∃x∈l,w=f x):EU n p:=
 ⟨l.map f,by simpa using c,λw b=>by obtain⟨x,a,rfl⟩:=h w b;exact d9.2 ⟨x,a,rfl⟩⟩
theorem gq(al:Int):(A7 al).length<=6:=by
 unfold A7;rw[gt];exact AM al 6
theorem Nj{al:Int}{b:Nat}{t:A0}(h:Hl al b t):EU 1764 (NY (A7 al) t):=by
 have c:=h.rl;have g:=h.cl;refine EU.ex (n:=12) (b:=147) (q:=λr v=>∃m:W,(m=[]\/∃l∈A7 al,m=[l])/\∃x:W,(x=[]\/x∈t.cols)/\v=r++m++x) t.rows c (λr _=>?_) λw a=>a;refine EU.ex (n:=7) (b:=21) (q:=λm v=>∃x:W,(x=[]\/x∈t.cols)/\v=r++m++x) ([]::(A7 al).map λl=>[l]) (by have:=gq al;simp;omega) (λm _=>?_) λw a=>?_
 ·exact EU.map (λx=>r++m++x) ([]::t.cols) (by simp;omega) λw ⟨x,d,a⟩=>⟨x,by simpa using d,a⟩
 ·obtain⟨m,e,i⟩:=a
  refine⟨m,?_,i⟩
  rcases e with rfl|⟨l,f,rfl⟩
  ·simp
  ·exact pg _ (d9.2 ⟨l,f,rfl⟩)
theorem RV{L:W->Bool}{ls:List UInt8}:∀(n:Nat) (t:A0),(E9 L ls n t).length<=n+1
 | 0,t=>by simp[E9]
 | n + 1,t=>by
  unfold E9
  cases Bg L ls t with
  | none=>simp
  | some w=>
   dsimp only;split
   ·simp
   ·have:=RV (L:=L) (ls:=ls) n ⟨t.rows++[w],t.cols⟩
    simp;omega
theorem RR{L:W->Bool}{al:Int}{b:Nat}{t:A0}(h:Hl al b t):EU 24696 (λv=>∃y∈E9 L (A7 al) 13 t,NY (A7 al) y v):=
 EU.ex (n:=14) (b:=1764) (q:=λy v=>NY (A7 al) y v) (E9 L (A7 al) 13 t) (RV 13 t) (λy a=>Nj (h.grow a)) λw c=>c
theorem ao{al:Int}{b:Nat}{t:A0}(h:Hl al b t){w:W}(e:w.length<=20000):EU 260013 (YP t w):=by
 have c:=h.rl
 refine EU.ex (n:=13) (b:=20001) (q:=λr v=>∃k:Nat,v=r++w.drop k) ([]::t.rows) (by simp;omega) (λr _=>?_) λv ⟨r,d,a⟩=>⟨r,by simpa using d,a⟩
 refine EU.map (λk=>r++w.drop k) (List.range 20001) (by simp) λv ⟨k,a⟩=>?_;by_cases hk:k<20001
 ·exact⟨k,o5.2 hk,a⟩
 ·exact⟨20000,by simp,by rw[a,qh (by omega),qh (by omega)]⟩
theorem ak{L:W->Bool}{al:Int}{t:A0}(h:Hl al 20000 t){w:W}(f:AP (A7 al) w)(g:w.length<=20000):EU 286473 (YO L (A7 al) t w):=by
 refine((Nj h).or ((ao h g).or (b:=24696) ?_)).sub (b:=286473) (λv e=>e) (by omega)
 cases i:CD L t w with
 | none=>exact .none λv ⟨x,a,_⟩=>by cases a
 | some x=>
  cases ha:Fx t x with
  | none=>exact .none λv ⟨x',a,u,d,_⟩=>by injection a with a;subst a;rw[ha]at d;cases d
  | some u=>
   obtain⟨p,_,rfl⟩:=Hh i
   exact(RR (L:=L) (OP h (λc j=>f c (by simp[j])) (by simp at g;omega) ha)).sub (λv ⟨x',a,u',d,e⟩=>by
    injection a with a;subst a
    rw[ha]at d;injection d with d;subst d;exact e) (jp _)
def okB(al:Int)(w:W):Prop:=AP (A7 al) w/\w.length<=50000
theorem Jx(al:Int):SS (okB al) al:=λw b a=>⟨b,a⟩
theorem ZL{α:Type}:∀(l m:List α),l.Nodup->(∀x∈l,x∈m)->l.length<=m.length
 | [],_,_,_=>by simp
 | x :: l,m,d,f=>by
  obtain⟨a,b,rfl⟩:=List.append_of_mem (f x (by simp));rw[List.nodup_cons]at d
  have h:=ZL l (a++b) d.2 λy e=>by
   have c:=f y (pg _ e);simp only[f6,o3]at c |-
   rcases c with c|rfl|c
   ·exact .inl c
   ·exact absurd e d.1
   ·exact .inr c
  simp at h |-;omega
theorem fX{t:CP}{n:Nat}{p:W->Prop}{al:Int}(h:EU n p)(j:n<=20000000)(hb:∀w,p w->okB al w):ky t p:=by
 obtain⟨k,hk,e⟩:=h;intro l c f
 have a:l ⊆ CA t::(k.filter λw=>w.length<=50000).flatMap λw=>(List.range 50001).map λi=>Hf t (CA t) (w.take i):=λF g=>by
  rcases f F g with rfl|⟨u,v,d,rfl⟩
  ·simp
  ·have b:=(hb _ d).2
   refine pg _ (qg.2 ⟨u++v,o9.2 ⟨e _ d,by simpa using b⟩,d9.2 ⟨u.length,o5.2 (by simp at b;omega),by simp⟩⟩)
 have b:=ZL _ _ c a;have q:=PU (λw:W=>(List.range 50001).map λi=>Hf t (CA t) (w.take i)) 50001 (k.filter λw=>w.length<=50000) (λx _=>by simp);have o:(k.filter λw=>w.length<=50000).length<=n:=lm (qv _ _) hk;rw[pD]at b;have m:(k.filter λw=>decide (w.length<=50000)).length*50001<=20000000*50001:=pC _ (by omega);omega
theorem lO{al:Int}{w:W}(h:okB al w):kI al w:=⟨h.1,lm h.2 (by omega)⟩
theorem iu{te:EP}{n:Nat}{p:W->Prop}(h:EU n p)(c:n<=20000000)(hb:∀w,p w->okB (A3 te) w):(∀w,p w->kI (A3 te) w)/\Ud te p:=by
 refine⟨λw b=>lO (hb w b),?_⟩;obtain⟨kn,a,s,q,al⟩:=te
 cases kn with
 | true=>intro h;cases h
 | false=>exact λ_=>fX h c hb
end Go.Am
namespace Go.Am
open Go Go.Proofs
set_option maxHeartbeats 1000000
set_option maxRecDepth 4000
attribute [local irreducible] A6 CC Lex Bz Ak Spec
variable {TB:BJ}
theorem Hk{te:EP}(a:CK te=true):Bb (A3 te)=true:=by
 obtain⟨kn,p,s,q,al⟩:=te
 cases kn with
 | true=>exact(AJ a).1
 | false=>
  have ht:Bc ⟨s,q,al⟩=true:=a;unfold Bc at ht;simp only[d4]at ht;exact ht.2.2
noncomputable def HB(te:EP)(x:A0):Option A0:=if (CK te && A4 (BY te) (A3 te) x)=true then Bp (BY te) (A7 (A3 te)) 13 x else none
noncomputable def OL(te:EP):Option A0:=if CK te=true then Bp (BY te) (A7 (A3 te)) 13 Bx else none
noncomputable def Pn(te:EP)(x:A0):Option AY:=if (CK te && BA (BY te) (A3 te) x)=true then some (A1 (BY te) (A3 te) x) else none
section
variable {tabs:List (Nat×Obj)}[hTb:Dl ⟨tabs,none⟩]{te:EP}
include hTb
end
noncomputable def Fk(te:EP)(w:W):Bool:=if te.kn then QS te.p w else KI ⟨te.s,te.q,te.al⟩ w
def Ee(te:EP):Int:=if CK te then A3 te else -1
theorem SB{t:CP}(ht:Bc t=true):Ui (KI t) (LS t) t.al:=λw b c=>by
 have a:Bb t.al=true:=by unfold Bc at ht;simp only[d4]at ht;exact ht.2.2
 unfold KI;rw[ht,Ha b c a];rfl
theorem Ik{te:EP}(a:CK te=true):Ui (Fk te) (BY te) (A3 te):=by
 obtain⟨kn,p,s,q,al⟩:=te
 cases kn with
 | true=>exact cg a
 | false=>exact SB (t:=⟨s,q,al⟩) a
theorem bO{A:W->Bool}{t:A0}:A4 A (-1) t=false:=by
 cases h:A4 A (-1) t
 ·rfl
 ·have:=(Ey h).1.pos;omega
theorem QK{A L:W->Bool}{al:Int}(h:Ui A L al)(t:A0):A4 A al t=A4 L al t:=by
 unfold A4;cases a:Gw al t
 ·rfl
 ·rw[Ie h (VS a).bd (by omega)]
theorem Dk(te:EP)(x:A0):(CK te && A4 (BY te) (A3 te) x)=A4 (Fk te) (Ee te) x:=by
 unfold Ee;cases a:CK te
 ·simp[bO]
 ·rw[if_pos rfl,ph,QK (Ik a)]
theorem Dc{te:EP}{x:A0}(h:A4 (Fk te) (Ee te) x=true):CK te=true/\Ee te=A3 te/\A4 (BY te) (A3 te) x=true/\cf (A3 te) x/\(AK (BY te) x).Nodup:=by
 rw[<-Dk,d4]at h;exact⟨h.1,by unfold Ee;rw[if_pos h.1],h.2,(Ey h.2).1,(Ey h.2).2⟩
theorem Y9{al:Int}(ha:Bb al=true){w:W}(h:AP (A7 al) w)(a:w.length<=4000):Gs al w=true:=by
 unfold Gs;rw[Ha h (by omega) ha,decide_eq_true a];rfl
theorem dq{L:W->Bool}{x:A0}(h:(AK L x).Nodup){i k:Nat}{u w:W}(hi:x.rows[i]?=some u)(hk:x.rows[k]?=some w)(a:k<i):marks L x.cols u≠marks L x.cols w:=by
 intro b
 have d:(AK L x)[i]?=some (marks L x.cols u):=by unfold AK;simp[hi]
 have c:(AK L x)[k]?=some (marks L x.cols u):=by unfold AK;simp[hk,b]
 obtain⟨j,g⟩:=ce.1 d;obtain⟨f,e⟩:=ce.1 c;exact o7.1 h k i f j a (by rw[g,e])
theorem Pt{L:W->Bool}{ls:List UInt8}:∀ {n:Nat} {t u:A0},TOk L ls t->Bp L ls n t=some u->TOk L ls u/\Bg L ls u=none/\t.rows <+: u.rows/\u.cols=t.cols/\(t.rows.length<=12->u.rows.length<=12)/\(Bg L ls t≠none->t.rows.length<u.rows.length)/\(Bg L ls t=none->u=t)
 | 0,t,u,_,h=>by simp[Bp]at h
 | n + 1,t,u,hk,h=>by
  unfold Bp at h
  cases a:Bg L ls t with
  | none=>
   rw[a]at h
   injection h with h;subst h
   exact⟨hk,a,rH _,rfl,id,λh=>absurd rfl h,λ_=>rfl⟩
  | some w=>
   rw[a]at h;dsimp only at h;split at h
   ·cases h
   ·rename_i i
    obtain⟨g,f,b,e,d,k,j⟩:=Pt (hk.push a) h;have c:=(sv t.rows [w]).trans b;refine⟨g,f,c,e,λh=>d (by simp;omega),λ_=>?_,λh=>by cases h⟩;have:=b.length_le;simp at this;omega
theorem fS{te:EP}{x u:A0}(h:A4 (Fk te) (Ee te) x=true)(d:HB te x=some u):A4 (Fk te) (Ee te) u=true/\Bg (BY te) (A7 (A3 te)) u=none/\x.rows <+: u.rows/\u.cols=x.cols/\(Bg (BY te) (A7 (A3 te)) x≠none->x.rows.length<u.rows.length)/\(Bg (BY te) (A7 (A3 te)) x=none->u=x):=by
 obtain⟨e,r,g,b,q⟩:=Dc h;unfold HB at d;rw[e,g,ph,if_pos rfl]at d;obtain⟨f,n,m,c,l,k,j⟩:=Pt (IU g) d;refine⟨?_,n,m,c,k,j⟩;rw[<-Dk,e,ph];have o:=l b.rl;refine Kr (Hk e) b.pos f o (by rw[c];exact b.cl) (λw a=>?_) (λw a=>by rw[c]at a;exact(b.cw w a).1);obtain⟨i,hi,p⟩:=pk a;have:=f.short i w (by rw[d6 hi,p]);omega
theorem UA(te:EP)(x:A0):(if A4 (Fk te) (Ee te) x then Bp (Fk te) (A7 (Ee te)) 13 x else none)=HB te x:=by
 unfold HB;rw[Dk];by_cases a:A4 (Fk te) (Ee te) x=true
 ·obtain⟨d,c,f,b,e⟩:=Dc a
  rw[a,c,if_pos rfl,if_pos rfl];exact Iv (Ik d) 13 b.bd (by omega)
 ·rw[Bool.not_eq_true]at a;rw[a,if_neg pQ,if_neg pQ]
theorem HS{te:EP}{x:A0}(h:A4 (Fk te) (Ee te) x=true):(CK te && BA (BY te) (A3 te) x)=(Bg (BY te) (A7 (A3 te)) x).isNone:=by
 obtain⟨b,e,a,d,c⟩:=Dc h;rw[b,DD,a];rfl
structure oW (n m:Nat) (t:A0):Prop where
 rl:t.rows.length<=n
 cl:t.cols.length<=n
 rb:∀w∈t.rows,w.length<=m
 cb:∀w∈t.cols,w.length<=m
section
variable {P:Program}{Γ:Ctx}{d:Option Tmp}{ty:TypeId}{pos:String}{af:Array Edge}{g:Option (Nat×Bool)}{L:List (Nat×E)}{σ:Ab}{nx:Nat}
end
noncomputable def Nb(te:EP)(x:A0)(w:W):Option A0:=if (CK te && A4 (BY te) (A3 te) x && Gs (A3 te) w)=true then Fx x w else none
theorem jc(te:EP)(x:A0)(w:W):Pk (Fk te) (Ee te) x w=Nb te x w:=by
 unfold Pk Nb;rw[Dk];cases a:A4 (Fk te) (Ee te) x
 ·rw[qY,qY]
 ·rw[(Dc a).2.1]
section
variable {tabs:List (Nat×Obj)}[hTb:Dl ⟨tabs,none⟩]{te:EP}
include hTb
end
noncomputable def Hi(te:EP)(x:A0)(w:W):Option W:=if (CK te && BA (BY te) (A3 te) x && Gs (A3 te) w)=true then CD (BY te) x w else none
noncomputable def I7(te:EP)(x:A0)(w:W):Option A0:=if (CK te && BA (BY te) (A3 te) x && Gs (A3 te) w)=true then Gy (BY te) (A7 (A3 te)) x w else none
section
variable {tabs:List (Nat×Obj)}[hTb:Dl ⟨tabs,none⟩]{te:EP}
include hTb
end
end Go.Am
namespace Go.Am
open Go Go.Proofs
set_option maxHeartbeats 1000000
set_option maxRecDepth 4000
attribute [local irreducible] A6 CC Lex Bz Ak Spec
variable {tabs:List (Nat×Obj)}
theorem gk{al:Int}{w:W}(h:Gs al w=true):AP (A7 al) w/\w.length<=4000:=by
 unfold Gs at h;rw[d4,decide_eq_true_eq]at h;exact⟨EN h.1,h.2⟩
theorem XD{L:W->Bool}{cols:List W}{c w:W}:marks L (cols++[c]) w=marks L cols w++[Si (L (w++c))]:=by simp[marks]
theorem WR{te:EP}{x u:A0}{w:W}(h:Nb te x w=some u):A4 (Fk te) (Ee te) x=true/\AP (A7 (A3 te)) w/\w.length<=4000/\u=⟨x.rows,x.cols++[w]⟩/\A4 (Fk te) (Ee te) u=true/\Nb te u w=none:=by
 unfold Nb at h;by_cases d:(CK te && A4 (BY te) (A3 te) x && Gs (A3 te) w)=true
 ·rw [if_pos d]at h
  rw[Dk,d4]at d;obtain⟨g,o⟩:=d;obtain⟨m,l⟩:=gk o;obtain⟨k,t,s,f,j⟩:=Dc g;unfold Fx at h;split at h
  ·cases h
  rename_i i
  injection h with h
  subst h;rw[not_or]at i;have hk:=IU s;have p:=f.cl;have q:=f.c1;refine⟨g,m,l,rfl,?_,?_⟩
  ·rw [<-Dk,k,ph]
   refine Kr (Hk k) f.pos ⟨hk.r0,by rw[f9 (by omega)];exact hk.c0,hk.pre,hk.onR,λc d=>?_,?_,?_⟩ f.rl (by simp;omega) (λr n=>(f.rw r n).1) (λc d=>?_)
   ·rcases f6.1 d with d|d
    ·exact hk.onC c d
    ·simp at d;subst d;exact m
   ·have e:(AK (BY te) ⟨x.rows,x.cols++[w]⟩).map List.dropLast=AK (BY te) x:=by
     unfold AK;rw[pR]
     exact qH λr _=>by simp[d5,XD]
    rw[<-e]at j;exact(qE.1 j).imp λh e=>h (by rw[e])
   ·exact qD.2 ⟨hk.ndC,by simp,λa ha b hb=>by simp at hb;subst hb;exact λe=>i.2 (e▸ha)⟩
   ·rcases f6.1 d with d|d
    ·exact(f.cw c d).1
    ·simp at d;subst d;exact l
  ·unfold Nb Fx
   split
   ·rw[if_pos (.inr (by simp))]
   ·rfl
 ·rw[if_neg d]at h;cases h
end Go.Am
namespace Go.Am
open Go Go.Proofs
set_option maxHeartbeats 1000000
set_option maxRecDepth 4000
attribute [local irreducible] A6 CC Lex Bz Ak Spec
variable {tabs:List (Nat×Obj)}
theorem jk(te:EP)(x:A0):(if BA (Fk te) (Ee te) x then some (A1 (Fk te) (Ee te) x) else none)=Pn te x:=by
 rw[DD];cases b:A4 (Fk te) (Ee te) x
 ·rw[qY,if_neg pQ]
  unfold Pn;rw[DD,<-Bool.and_assoc,Dk,b];rfl
 ·obtain⟨a,e,d,c,f⟩:=Dc b
  rw[e,J6 (Ik a) c.bd (by omega),Pm (Ik a) c.bd (by omega),ph];unfold Pn;rw[DD,a,d,ph,ph]
theorem kY{te:EP}{x:A0}{a:AY}(h:Pn te x=some a):A4 (Fk te) (Ee te) x=true/\Bg (BY te) (A7 (A3 te)) x=none/\BV (BY te) (A7 (A3 te)) x/\a=A1 (BY te) (A3 te) x/\AE a=true/\a.al=A3 te/\a.nx.length=x.rows.length/\a.ac=x.rows.map (BY te):=by
 unfold Pn at h;by_cases b:(CK te && BA (BY te) (A3 te) x)=true
 ·rw[if_pos b]at h
  injection h with h
  subst h;rw[d4]at b;obtain⟨d,f,c⟩:=JQ b.2
  have e:A4 (Fk te) (Ee te) x=true:=by rw[<-Dk,b.1,d];rfl
  exact⟨e,f,c,rfl,LK (Hk b.1) c (Ey d).1.rl,rfl,by simp[A1],rfl⟩
 ·rw[if_neg b]at h;cases h
end Go.Am
namespace Go.Am
open Go Go.Proofs
set_option maxHeartbeats 1000000
set_option maxRecDepth 4000
attribute [local irreducible] A6 CC Lex Bz Ak Spec
variable {tabs:List (Nat×Obj)}
theorem dI{L:W->Bool}{ls:List UInt8}{t:A0}(g:t.cols=[[]])(c:2<=t.rows.length)(e:(AK L t).Nodup):Bg L ls t=none:=by
 cases d:Bg L ls t with
 | none=>rfl
 | some w=>
  exfalso;have f:=(IH d).2;obtain⟨a,ha⟩:=get_some (l:=t.rows) (k:=0) (by omega);obtain⟨b,hb⟩:=get_some (l:=t.rows) (k:=1) (by omega);have ne:=dq e hb ha (by omega);have h:marks L t.cols a∈AK L t:=List.mem_map_of_mem (co ha);have c:marks L t.cols b∈AK L t:=List.mem_map_of_mem (co hb)
  have hk:∀v:W,marks L t.cols v=[Si (L v)]:=λv=>by rw[g];simp[marks]
  rw[hk]at f h c ne;rw[hk]at ne;cases m:L a<;>cases j:L b<;>cases i:L w<;>simp_all
theorem lK(L:W->Bool)(ls:List UInt8):∃u,Bp L ls 13 Bx=some u/\u.cols=[[]]/\u.rows.length<=2:=by
 unfold Bp
 cases h:Bg L ls Bx with
 | none=>exact⟨Bx,rfl,rfl,by decide⟩
 | some w=>
  dsimp only;rw[if_neg (by decide)];unfold Bp;have hk:=(NO L ls).push h;have a:=dI (ls:=ls) (t:=⟨Bx.rows++[w],Bx.cols⟩) rfl (by simp[Bx]) hk.nd;rw[a];exact⟨_,rfl,rfl,by simp[Bx]⟩
theorem jM{te:EP}(h:CK te=true):∃u,OL te=some u/\A4 (Fk te) (Ee te) u=true/\Bg (BY te) (A7 (A3 te)) u=none/\u.cols=[[]]/\u.rows.length<=2/\BV (BY te) (A7 (A3 te)) u/\0<=A3 te:=by
 obtain⟨u,e,c,g⟩:=lK (BY te) (A7 (A3 te));obtain⟨b,d,o,n,m,l,k⟩:=Pt (NO _ _) e;have ha:=Hk h
 have f:0<=A3 te:=by unfold Bb at ha;simp only[d4,decide_eq_true_eq]at ha;omega
 refine⟨u,by unfold OL;rw[if_pos h,e],?_,d,c,g,⟨b,Hc d⟩,f⟩;rw[<-Dk,h,ph];refine Kr ha f b (by omega) (by rw[c];decide) (λw a=>?_) (λw a=>by rw[c]at a;simp at a;subst a;simp);obtain⟨i,hi,j⟩:=pk a;have:=b.short i w (by rw[d6 hi,j]);omega
theorem jL(te:EP):Iw (Fk te) (Ee te) Bx=OL te:=by
 have h:=UA te Bx;unfold Iw;refine h.trans ?_;unfold HB OL;cases hk:CK te
 ·rfl
 ·have ha:=Hk hk
  have c:0<=A3 te:=by unfold Bb at ha;simp only[d4,decide_eq_true_eq]at ha;omega
  have b:=Ii (A3 te);rw[Kr ha c (NO _ _) (by decide) (by decide) (λw a=>by have:=(b.onR w a).2;omega) (λw a=>by simp[Bx]at a;subst a;simp)];rfl
end Go.Am
namespace Go.Am
open Go Go.Proofs
set_option maxHeartbeats 1000000
set_option maxRecDepth 4000
attribute [local irreducible] A6 CC Lex Bz Ak Spec
theorem cR(te:EP)(x:A0):BA (Fk te) (Ee te) x=(CK te && BA (BY te) (A3 te) x):=by
 rw[DD,DD,<-Bool.and_assoc,Dk];cases a:A4 (Fk te) (Ee te) x
 ·rw[qY,qY]
 ·obtain⟨d,c,f,b,e⟩:=Dc a
  rw[c,J6 (Ik d) b.bd (by omega)]
theorem Pu{te:EP}{x:A0}(h:(CK te && BA (BY te) (A3 te) x)=true):A4 (Fk te) (Ee te) x=true/\Bg (BY te) (A7 (A3 te)) x=none/\BV (BY te) (A7 (A3 te)) x:=by
 rw[d4]at h;obtain⟨c,b,a⟩:=JQ h.2;exact⟨by rw[<-Dk,h.1,c];rfl,b,a⟩
theorem fg(te:EP)(x:A0)(w:W):FH (Fk te) (Ee te) x w=Hi te x w:=by
 unfold FH Hi;rw[cR];cases d:(CK te && BA (BY te) (A3 te) x)
 ·rw[qY,qY,if_neg pQ,if_neg pQ]
 ·obtain⟨c,i,b⟩:=Pu d
  obtain⟨g,f,k,e,j⟩:=Dc c;rw[f,ph];by_cases a:Gs (A3 te) w=true
  ·obtain⟨h,l,_⟩:=PL a
   rw[if_pos a,if_pos a,Qu (Ik g) e.bd (by omega) b h (by omega)]
  ·rw[if_neg a,if_neg a]
theorem VV{te:EP}{x:A0}{w v:W}(h:Hi te x w=some v):(CK te && BA (BY te) (A3 te) x)=true/\AP (A7 (A3 te)) w/\w.length<=4000/\Na (BY te) x w≠BY te w/\splitAt (BY te) x (BY te w) 0 w=some v/\Split (BY te) (A7 (A3 te)) x w v:=by
 unfold Hi at h;by_cases a:(CK te && BA (BY te) (A3 te) x && Gs (A3 te) w)=true
 ·rw [if_pos a]at h
  rw[d4]at a;obtain⟨a,f⟩:=a;obtain⟨i,j,b⟩:=Pu a;obtain⟨c,g,_⟩:=PL f;unfold CD at h;by_cases ha:Na (BY te) x w=BY te w
  ·rw[if_pos ha]at h;cases h
  ·rw[if_neg ha]at h
   obtain⟨v',e,d⟩:=VX b (BY te w) w 0 [] c b.r0 rfl ha;rw[e]at h
   injection h with h;subst h
   exact⟨a,c,g,ha,e,d⟩
 ·rw[if_neg a]at h;cases h
theorem VZ(te:EP)(x:A0)(w:W):I7 te x w=(Hi te x w).bind λv=>(Nb te x v).bind λu=>HB te u:=by
 unfold I7
 cases a:Hi te x w with
 | none=>
  unfold Hi at a;split
  ·rename_i b
   rw[if_pos b]at a;unfold Gy;rw[a];rfl
  ·rfl
 | some v=>
  obtain⟨b,s,l,ha,e,g⟩:=VV a
  have i:(CK te && BA (BY te) (A3 te) x && Gs (A3 te) w)=true:=by
   unfold Hi at a;split at a
   ·assumption
   ·cases a
  rw[if_pos i];obtain⟨j,A,q⟩:=Pu b;obtain⟨r,H,G,F,B⟩:=Dc j;unfold Gy CD;rw[if_neg ha,e]
  show (Fx x v).bind _=(Nb te x v).bind _
  obtain⟨p,_,k⟩:=g.suf;have h:Gs (A3 te) v=true:=Y9 (Hk r) (λc b=>s c (by rw[k];simp[b])) (by rw[k]at l;simp at l;omega)
  have d:Nb te x v=Fx x v:=by unfold Nb;rw[Dk,j,h];rfl
  rw[d]
  cases o:Fx x v with
  | none=>rfl
  | some u=>
   obtain⟨_,_,_,_,f,_⟩:=WR (d.trans o);obtain⟨n,z,m,y,t⟩:=Dc f
   show Bp _ _ 13 u=HB te u
   unfold HB;rw[n,m];rfl
theorem ig(te:EP)(x:A0)(w:W):ME (Fk te) (Ee te) x w=I7 te x w:=by
 rw[VZ];unfold ME;rw[fg];congr 1;funext v;rw[jc];congr 1;funext u;exact UA te u
theorem VY{te:EP}{x u:A0}{w v:W}(h:Hi te x w=some v)(ha:Nb te x v=some u):Bg (BY te) (A7 (A3 te)) u≠none:=by
 obtain⟨i,k,j,g,e,a⟩:=VV h;obtain⟨_,_,_,rfl,_,_⟩:=WR ha;obtain⟨r,d,c,b,f⟩:=a.opens;exact gK (t:=⟨x.rows,x.cols++[v]⟩) d b f
theorem kk{te:EP}{x y:A0}{w:W}(h:I7 te x w=some y):(Hi te x w).isSome=true/\A4 (Fk te) (Ee te) x=true/\A4 (Fk te) (Ee te) y=true/\Bg (BY te) (A7 (A3 te)) y=none/\x.rows <+: y.rows/\x.rows.length<y.rows.length/\∃v,y.cols=x.cols++[v]:=by
 rw[VZ]at h
 cases b:Hi te x w with
 | none=>rw[b]at h;cases h
 | some v=>
  rw[b]at h;have h:(Nb te x v).bind (λu=>HB te u)=some y:=h
  cases ha:Nb te x v with
  | none=>rw[ha]at h;cases h
  | some u=>
   rw[ha]at h;have h:HB te u=some y:=h;have c:=VY b ha;obtain⟨j,_,_,rfl,a,_⟩:=WR ha;obtain⟨i,g,f,e,d,k⟩:=fS a h;exact⟨rfl,j,i,g,f,d c,v,e⟩
abbrev Je:AY:=⟨0,[],[]⟩
abbrev Db(s:Sys)(p:AY)(al:Int):EP:=⟨false,Je,s,p,al⟩
noncomputable def EX(s t:Sys)(p:AY)(al:Int)(a:AY):Option (W×Bool):=match C4 s a p with
 | some u=>some (C5 (BB al u),true)
 | none=>match BE [t] a with
  | some v=>some (C5 (BB al v),false)
  | none=>none
noncomputable def Bq(s:Sys)(p:AY)(al:Int)(x:A0):AY:=A1 (LS ⟨s,p,al⟩) al x
noncomputable def GB(s t:Sys)(p:AY)(al:Int)(x:A0):Option A0:=match EX s t p al (Bq s p al x) with
 | some (w,b)=>if (b || LS ⟨s,p,al⟩ w)=true then I7 (Db s p al) x w else none
 | none=>none
noncomputable def DZ(s t:Sys)(p:AY)(al:Int):Nat->A0->List A0
 | 0,x=>[x]
 | k+1,x=>x::match GB s t p al x with
  | some y=>DZ s t p al k y
  | none=>[]
structure Vd where
 code:Int
 a:AY
 tr:W
 rd:Int
noncomputable def Og(s t:Sys)(p:AY)(al:Int)(x:A0)(r:Nat):Vd:=match EX s t p al (Bq s p al x) with
 | none=>⟨0,Bq s p al x,[],r⟩
 | some (w,b)=>if (b || LS ⟨s,p,al⟩ w)=true then ⟨2,Je,[],r⟩ else ⟨1,Je,OC (BE [s,t] p),r⟩
noncomputable def X6(s:Sys)(p:AY)(al:Int):A0:=(OL (Db s p al)).getD Bx
noncomputable def BX(s t:Sys)(p:AY)(al:Int):List A0:=DZ s t p al 11 (X6 s p al)
noncomputable def BD(s t:Sys)(p:AY):Vd:=if AT s p t<0 then ⟨3,Je,[],0⟩ else
 Og s t p (AT s p t) ((BX s t p (AT s p t)).getLastD Bx) (BX s t p (AT s p t)).length
structure EF (s:Sys) (p:AY) (al:Int) (x:A0) (r:Nat):Prop where
 v:A4 (Fk (Db s p al)) (Ee (Db s p al)) x=true
 o:Bg (LS ⟨s,p,al⟩) (A7 al) x=none
 rows:r<=x.rows.length
 cols:x.cols.length=r
theorem Gi(s:Sys)(p:AY)(al:Int):BY (Db s p al)=LS ⟨s,p,al⟩:=by
 funext w;unfold BY;rw[if_neg pQ]
theorem CE(s:Sys)(p:AY)(al:Int):A3 (Db s p al)=al:=by
 unfold A3;rw[if_neg pQ]
theorem Pf{s:Sys}{p:AY}{al:Int}(h:Bc ⟨s,p,al⟩=true):OL (Db s p al)=some (X6 s p al)/\EF s p al (X6 s p al) 1:=by
 have hk:CK (Db s p al)=true:=by unfold CK;rw[if_neg pQ];exact h
 obtain⟨u,e,d,a,c,g,b,f⟩:=jM hk;unfold X6;rw[e];refine⟨rfl,d,?_,?_,by show u.cols.length=1;rw[c];rfl⟩
 ·rw[Gi,CE]at a;exact a
 ·show 1<=u.rows.length
  have:=(ce.1 b.r0).1;omega
theorem TF{s t:Sys}{p:AY}{al:Int}{x y:A0}{r:Nat}(a:EF s p al x r)(h:GB s t p al x=some y):EF s p al y (r+1)/\x.rows.length<y.rows.length:=by
 unfold GB at h;split at h
 ·split at h
  ·obtain⟨_,_,e,b,_,d,v,c⟩:=kk h
   have f:=a.rows;have g:=a.cols;rw[Gi,CE]at b;exact⟨⟨e,b,by omega,by rw[c];simp;omega⟩,d⟩
  ·cases h
 ·cases h
theorem Wt{s:Sys}{p:AY}{al:Int}{x:A0}{r:Nat}(b:EF s p al x r):x.rows.length<=12/\r<=12:=by
 obtain⟨_,_,_,a,_⟩:=Dc b.v;have:=a.rl;have:=b.rows;omega
theorem QB{s t:Sys}{p:AY}{al:Int}:∀(k:Nat) {x:A0} {r:Nat},EF s p al x r->∀(i:Nat) (y:A0),(DZ s t p al k x)[i]?=some y->EF s p al y (r+i)
 | 0,x,r,a,i,y,h=>by
  cases i with
  | zero=>simp[DZ]at h;subst h;exact a
  | succ i=>simp[DZ]at h
 | k + 1,x,r,a,i,y,h=>by
  cases i with
  | zero=>simp[DZ]at h;subst h;exact a
  | succ i=>
   simp only[DZ,rS]at h
   cases b:GB s t p al x with
   | none=>rw[b]at h;simp at h
   | some z=>
    rw[b]at h;have:=QB k (TF a b).1 i y h;rwa[show r+1+i=r+(i+1) by omega]at this
theorem fj{s t:Sys}{p:AY}{al:Int}(k:Nat)(x:A0):DZ s t p al k x≠[]:=by cases k<;>simp[DZ]
end Go.Am
