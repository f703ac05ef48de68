/-
  The reference's move; safe words; a task as a teacher: walked.
-/
import Derived.Test.YtohfiindiidcfaaGreatDoorPart33
import Derived.Test.YtohfiindiidcfaaGreatDoorPart34
set_option linter.all false
namespace Go.Am
open Go Go.Proofs
set_option maxHeartbeats 1000000
set_option maxRecDepth 4000
attribute [local irreducible] A6 Cz Lex Bv Aj Spec
variable {TB:BF}
theorem fT{t:CM}{l:Int}{F:PS}{k x:Nat}(h:CC t.q k l=(x:Int)):Eh t l F (k+1)=XB (Eh t l F k) x (Eh t l F k x ||| Dm t.s l (F k)):=by
 rw [JE];funext p;unfold XB;rw [h];by_cases e:p=x
 ·subst e;simp
 ·rw [if_neg e,if_neg (by omega)]
theorem ZR{t:CM}(ht:Bg t=true){F:PS}(w:C1 t F){l:Int}(m:0<=l/\l < 6):Pure Tryz.prog TB 176 [Qu t,Ak (Nf t.q.nx.length F),eI .i64 l] (Ak (Nf t.q.nx.length (Dk t l F))):=by
 have hs:AW t.s=true:=by unfold Bg at ht;simp only [d4] at ht;exact ht.1
 have e:=CA ht;have M:=AG e;have u:=Pm (TB:=TB) ht (KF ht m w);rw [show Sw t (VT t l F)=Dk t l F from rfl] at u
 have K:(Nf t.q.nx.length F).length=t.q.nx.length:=by simp
 have N:List.replicate t.q.nx.length (AE 0)=(Nf t.q.nx.length (Eh t l F 0)).map AE:=Sd;have y:[zC (Value.int IntKind.i64 0)]=AE 0:=rfl;have r:=C4 (TB:=TB) t.s.al l m.1 (by omega);refine eG Tryz.func176 rfl (by kernel_rfl) rfl ?_;intro Γ c;(repeat first|refine sN rfl ?_ |refine tA rfl ?_ |refine aU rfl ?_ |apply Aa);(refine pW rfl ?_ rfl (by rfl);refine KG rfl rfl (by rfl) (by rfl) (am rfl) (by omega) (by omega) (by omega) ?_);(repeat first|refine tA rfl ?_ |refine aU rfl ?_ |apply Aa);apply aB;refine aL (α:={k:Nat // k<=t.q.nx.length}) [1,2,3] [] rfl rfl (λs=>[(7,.o (.arr 0 1 0 t.q.nx.length)),(8,eI .i64 s.1)]) (λs=>[(0,.cells 3 1 ((Nf t.q.nx.length (Eh t l F s.1)).map AE))]) 1 (λs=>t.q.nx.length - s.1) (⟨0,by omega⟩) c rfl (by (simp[cX,zC,c,N,y])) ?_;rintro⟨k,hk⟩;(try dsimp only[cA,cB]);by_cases i:k < t.q.nx.length
 ·have R:((Nf t.q.nx.length F).map Br)[((k:Nat):Int).toNat]? = some (Br (F k:Int)):=by rw [io];simp [i]
  have j:=JC (TB:=TB) t.q e k i l m.1 m.2;have A:=Ds e i m.1 m.2
  obtain⟨x,B⟩:∃x:Nat,CC t.q k l=x:=⟨(CC t.q k l).toNat,by omega⟩
  have z:=fT (F:=F) B;rw [B] at j A;have p:=Ry (TB:=TB) hs l (w.lt k);have Q:=Tf (n:=t.q.nx.length) (G:=Eh t l F k) (x:=x) (by omega);have L:=YI ht (l:=l) w k x;have J:=Jo ht (l:=l) (w.lt k);have h:=Ov (a:=Eh t l F k x) (b:=Dm t.s l (F k)) (by omega) (by omega);have d:=Tg (n:=t.q.nx.length) (x:=x) (v:=Eh t l F k x ||| Dm t.s l (F k)) (G:=Eh t l F k);rw [<-z] at d;(repeat first|refine sN rfl ?_ |refine tA rfl ?_ |refine s2 rfl λ_ f=>?_ |refine aU rfl ?_ |apply Aa)
  ((refine aC rfl ?_ ?_<;>rintro⟨⟩);all_goals try(exfalso;(simp only[oZ] at *;omega)))
  apply aK;refine aS (aB ?_);(repeat first|refine tA rfl ?_ |(refine s4 rfl ‹_› rfl ?_ ?_;omega) |(refine sC rfl (r) ?_;intro _ f) |refine aU rfl ?_ |apply Aa);(refine aC rfl ?_ ?_<;>rintro⟨⟩)
  ·have g:Dm t.s l (F k)=Cq t.s.es l (F k):=by unfold Dm;rw [if_pos f]
   rw [<-g] at p;(repeat first|(refine sA rfl ?_ ?_;first|exact tI|omega) |refine t4 rfl ‹_› rfl ?_ |refine sP rfl (p) rfl ?_|refine sP rfl (j) rfl ?_ |refine aU rfl ?_ |apply Aa);refine⟨⟨k+1,by omega⟩,by dsimp only;(omega),[0],?_⟩
   simp[cX,zC,c,h];simpa [d5] using d
  ·have g:Dm t.s l (F k)=F k:=by unfold Dm;rw [if_neg (by simp [f])]
   rw [g] at h d;apply aK;(repeat first|(refine sA rfl ?_ ?_;first|exact tI|omega) |refine t4 rfl ‹_› rfl ?_ |refine sP rfl (j) rfl ?_ |refine aU rfl ?_ |apply Aa);refine⟨⟨k+1,by omega⟩,by dsimp only;(omega),[0],?_⟩
   simp[cX,zC,c,h];simpa [d5] using d
 ·obtain rfl:k=t.q.nx.length:=by omega
  rw [show Eh t l F t.q.nx.length=VT t l F from rfl];(repeat first|refine sN rfl ?_ |refine tA rfl ?_ |refine s2 rfl λ_ f=>?_ |refine aU rfl ?_ |apply Aa)
  ((refine aC rfl ?_ ?_<;>rintro⟨⟩);all_goals try(exfalso;(simp only[oZ] at *;omega)))
  apply aE;(repeat first|refine tA rfl ?_ |refine aU rfl ?_);(refine pW rfl ?_ rfl (by rfl);refine Ai [0] rfl rfl (u) ⟨rfl,by decide,by decide⟩ rfl (by simp[cX,zC,c]) ?_;rintro P H I ⟨rfl,rfl,rfl⟩ _);(repeat first|refine tA rfl ?_);apply Aa;refine Aj.Ay [] [] rfl rfl [(6,.o (.arr 0 1 0 t.q.nx.length))] [(0,.cells 3 1 ((Nf t.q.nx.length (Dk t l F)).map AE))] [0] (rl c rfl) (by (simp[cX,zC,c])) ?_;(try dsimp only[cA,cB]);refine Aj.settle [(6,Ak (Nf t.q.nx.length (Dk t l F)))] ⟨⟨_,rfl,.o (.full rfl (by simp [d5]) (by simp))⟩,trivial⟩ ?_;refine aR ⟨_,rfl,rfl⟩
theorem Ia(t:CM):Pure Tryz.prog TB 169 [Qu t] (eB (Bg t)):=by
 unfold Bg;refine eN Tryz.func169 rfl (by kernel_rfl) rfl ?_;intro Γ b;(repeat' first|refine tA rfl ?_ |(refine sC rfl (Cf t.s) ?_;intro _ a)|(refine sC rfl (Bl t.q) ?_;intro _ a)|(refine sC rfl (Dq t.al) ?_;intro _ a) |refine s3 rfl ?_ ?_<;>rintro rfl |refine aU rfl ?_ |apply Aa|(refine aC rfl ?_ ?_<;>rintro⟨⟩)|apply aK|apply aE|apply aB|refine aR ⟨_,rfl,?_⟩)
 all_goals (show E.o _=E.o _;simp_all)
noncomputable def Ki(t:CM)(w:W):Bool:=Bg t && (within w t.al && LS t w)
theorem XK{w:W}{al:Int}(h:within w al=true):∀c∈w,0<=(c.toNat:Int) - 97/\(c.toNat:Int) - 97 < 6:=λc a=>Ho (Dg h c a)
theorem NV(t:CM)(w:W)(z:w.length<=1099511627776):Pure Tryz.prog TB 130 [Qu t,eT w] (eB (Ki t w)):=by
 have m:=Ia (TB:=TB) t;have l:=El (TB:=TB) w t.al z;by_cases h:(Bg t && within w t.al)=true
 ·have ht:Bg t=true:=by revert h;cases Bg t<;>simp
  have f:within w t.al=true:=by revert h;cases within w t.al<;>simp
  have y:=XK f
  have v:Ki t w=LS t w:=by unfold Ki;rw [ht,f];rfl
  rw [v];rw [ht] at m;rw [f] at l;have g:=WZ (TB:=TB) ht;refine eG Tryz.func130 rfl (by kernel_rfl) rfl ?_;intro Γ d
  (repeat' first|refine tA rfl ?_ |refine s2 rfl λ_ a=>?_ |refine sP rfl (m) rfl ?_|refine sP rfl (l) rfl ?_|refine sP rfl (g) rfl ?_ |refine s3 rfl ?_ ?_<;>rintro rfl |refine aU rfl ?_ |apply Aa|(refine aC rfl ?_ ?_<;>rintro⟨⟩));all_goals try contradiction
  apply aK;(repeat first|refine tA rfl ?_ |refine sP rfl (g) rfl ?_ |refine aU rfl ?_ |apply Aa);apply aB;refine aL (α:={x:Nat×PS // x.1<=w.length/\C1 t x.2/\Gb t x.2 (w.drop x.1)=LS t w}) [1,2] [] rfl rfl (λs=>[(5,Ak (Nf t.q.nx.length s.1.2)),(6,eI .i64 s.1.1)]) (λs=>[]) 0 (λs=>w.length - s.1.1) (⟨⟨0,Cw t⟩,by simp,GB ht,rfl⟩) d rfl (by (simp[cX,zC,d])) ?_;rintro⟨⟨i,F⟩,hi,k,hs⟩;(try dsimp only[cA,cB]);have hi:i<=w.length:=hi;have k:C1 t F:=k;have hs:Gb t F (w.drop i)=LS t w:=hs;have e:=cK (TB:=TB) ht (F:=F);by_cases o:i < w.length
  ·obtain⟨c,u⟩:=get_some o
   have r:w[((i:Nat):Int).toNat]? = some c:=by simpa using u
   have j:=y c (co u);have p:=Ir (TB:=TB) w i c r;have n:=ZR (TB:=TB) ht k j;have hno:=LO ht j k;rw [BB u,Gb] at hs;generalize Fm t F=b at *
   (repeat' first|refine tA rfl ?_ |refine s2 rfl λ_ a=>?_ |refine sP rfl (e) rfl ?_ |refine s3 rfl ?_ ?_<;>rintro rfl |refine aU rfl ?_ |apply Aa|(refine aC rfl ?_ ?_<;>rintro⟨⟩));all_goals try contradiction
   all_goals first| (exfalso;(simp only[oZ] at *;omega);done)|skip
   ·have hb:b=false:=by simpa using a
    subst hb;apply aK;refine aS (aB ?_);refine rG (He []) (by kernel_rfl) ?_;(repeat first|(refine sA rfl ?_ ?_;first|exact tI|omega) |refine sP rfl (p) rfl ?_|refine sP rfl (n) rfl ?_ |refine aU rfl ?_ |apply Aa);refine⟨⟨⟨i+1,Dk t ((c.toNat:Int) - 97) F⟩,by omega,hno,by simpa using hs⟩,by dsimp only;(omega),[],?_⟩;simp[cX,zC,d]
   ·have hb:b=true:=by simpa using a
    subst hb
    have hs:LS t w=false:=by simpa using hs.symm
    rw [hs];apply aE;(repeat first|refine tA rfl ?_ |refine s2 rfl λ_ a=>?_ |refine sP rfl (e) rfl ?_ |refine aU rfl ?_ |apply Aa);(subst_vars;exact aR ⟨_,rfl,rfl⟩)
  ·obtain rfl:i=w.length:=by omega
   rw [qp,Gb] at hs;rw [<-hs]
   (repeat' first|refine tA rfl ?_ |refine s2 rfl λ_ a=>?_ |refine sP rfl (e) rfl ?_ |refine s3 rfl ?_ ?_<;>rintro rfl |refine aU rfl ?_ |apply Aa|(refine aC rfl ?_ ?_<;>rintro⟨⟩));all_goals try contradiction
   all_goals first| (exfalso;(simp only[oZ] at *;omega);done)|skip
   apply aE;(repeat first|refine tA rfl ?_ |refine s2 rfl λ_ a=>?_ |refine sP rfl (e) rfl ?_ |refine aU rfl ?_ |apply Aa);(subst_vars;exact aR ⟨_,rfl,rfl⟩)
 ·have v:Ki t w=false:=by unfold Ki;revert h;cases Bg t<;>cases within w t.al<;>simp
  rw [v];refine eG Tryz.func130 rfl (by kernel_rfl) rfl ?_;intro Γ d
  (repeat' first|refine tA rfl ?_ |refine s2 rfl λ_ a=>?_ |(refine sC rfl (m) ?_;intro _ a)|(refine sC rfl (l) ?_;intro _ a) |refine s3 rfl ?_ ?_<;>rintro rfl |refine aU rfl ?_ |apply Aa|(refine aC rfl ?_ ?_<;>rintro⟨⟩));all_goals try contradiction
  all_goals first
   | (subst_vars;exact aR ⟨_,rfl,rfl⟩)
   | (exfalso;simp_all;done)
theorem Oi(t:EE)(hk:t.kn=false):Pure Tryz.prog TB 123 [EL t] (eI .i64 (if Bg ⟨t.s,t.q,t.al⟩ then t.al else -1)):=by
 obtain⟨kn,p,s,q,al⟩:=t;dsimp only at hk;subst hk;have c:=Ia (TB:=TB) ⟨s,q,al⟩;refine eN Tryz.func123 rfl (by kernel_rfl) rfl ?_;intro Γ b;(repeat' first|refine tA rfl ?_ |refine s2 rfl λ_ a=>?_ |(refine sC rfl (c) ?_;intro _ a) |refine s3 rfl ?_ ?_<;>rintro rfl |refine aU rfl ?_ |apply Aa|(refine aC rfl ?_ ?_<;>rintro⟨⟩)|apply aK|apply aE|apply aB|refine aR ⟨_,rfl,?_⟩)
 all_goals first
  | (show E.o _=E.o _;congr;grind)
  | (exfalso;simp at *;done)
theorem OP(t:EE)(hk:t.kn=false)(w:W)(b:w.length<=1099511627776):Pure Tryz.prog TB 170 [EL t,eT w] (eB (Ki ⟨t.s,t.q,t.al⟩ w)):=by
 obtain⟨kn,p,s,q,al⟩:=t;dsimp only at hk;subst hk;have c:=NV (TB:=TB) ⟨s,q,al⟩ w b;refine eN Tryz.func170 rfl (by kernel_rfl) rfl ?_;intro Γ a;(repeat' first|refine tA rfl ?_ |refine sP rfl (c) rfl ?_ |refine aU rfl ?_ |apply Aa|(refine aC rfl ?_ ?_<;>rintro⟨⟩)|apply aK|apply aE|apply aB|refine aR ⟨_,rfl,?_⟩)
 all_goals rfl
theorem iI{t:EE}(hk:t.kn=false):Kj Tryz.prog TB 123 170 t (if Bg ⟨t.s,t.q,t.al⟩ then t.al else -1) (Ki ⟨t.s,t.q,t.al⟩):=⟨Oi t hk,OP t hk⟩
theorem MU(t:CM):Pure Tryz.prog TB 158 [Qu t] (eB (Bg t)):=by
 unfold Bg;refine eN Tryz.func158 rfl (by kernel_rfl) rfl ?_;intro Γ b;(repeat' first|refine tA rfl ?_ |(refine sC rfl (BI t.s) ?_;intro _ a)|(refine sC rfl (AU t.q) ?_;intro _ a)|(refine sC rfl (Fx t.al) ?_;intro _ a) |refine s3 rfl ?_ ?_<;>rintro rfl |refine aU rfl ?_ |apply Aa|(refine aC rfl ?_ ?_<;>rintro⟨⟩)|apply aK|apply aE|apply aB|refine aR ⟨_,rfl,?_⟩)
 all_goals (show E.o _=E.o _;simp_all)
abbrev nB(p:AX)(t:CM):E:=nA false p t.s t.q t.al
theorem P9(p:AX)(t:CM):Pure Tryz.prog TB 109 [nB p t] (eI .i64 (if Bg t then t.al else -1)):=by
 have c:=MU (TB:=TB) t;refine eN Tryz.func109 rfl (by kernel_rfl) rfl ?_;intro Γ b;(repeat' first|refine tA rfl ?_ |refine s2 rfl λ_ a=>?_ |(refine sC rfl (c) ?_;intro _ a) |refine s3 rfl ?_ ?_<;>rintro rfl |refine aU rfl ?_ |apply Aa|(refine aC rfl ?_ ?_<;>rintro⟨⟩)|apply aK|apply aE|apply aB|refine aR ⟨_,rfl,?_⟩)
 all_goals first
  | (show E.o _=E.o _;congr;grind)
  | (exfalso;simp at *;done)
abbrev NU(c:C):C:=.mv 112 [c]
theorem QH[C8 TB](p:AX){t:CM}(ht:Bg t=true)(ok:W->Prop):∃m,Ny t ok m/\AS Tryz.prog TB 64 0 [] 0 [nB p t] (λx σ nx=>x=.t [(true,[.d (iD t.al),NU (.ptr 0 14 0 0)]),(false,[.d (bD true)])]/\σ=Nk t m/\nx=5):=by
 obtain⟨m,j,e⟩:=SV (TB:=TB) ht ok;refine⟨m,j,?_⟩;have f:=P9 (TB:=TB) p t;rw [if_pos ht] at f
 have b:A8 t.al=true:=by unfold Bg at ht;simp only [d4] at ht;exact ht.2.2
 unfold A8 at b;simp only [decide_eq_true_eq] at b;refine AS.Bj (AS.RL (m:=0) (am rfl) Tryz.func64 rfl (by kernel_rfl) (am rfl) ?_);intro Γ a;(repeat first|refine tA rfl ?_ |refine sP rfl (f) rfl ?_ |refine aU rfl ?_ |apply Aa);apply aB;(repeat first|refine tA rfl ?_ |refine s2 rfl λ_ c=>?_ |refine aU rfl ?_ |apply Aa)
 ((refine aC rfl ?_ ?_<;>rintro⟨⟩);all_goals try (simp at c;done))
 ·exfalso;(simp only[oZ] at *;omega)
 ·(repeat first|refine tA rfl ?_ |refine aU rfl ?_ |apply Aa)
  ((refine aC rfl ?_ ?_<;>rintro⟨⟩);all_goals try (simp at c;done))
  apply aK;(repeat first|refine tA rfl ?_ |refine aU rfl ?_);(refine pW rfl ?_ rfl (by rfl);refine Ck [] rfl rfl 0 (e) (by decide) ⟨rfl,by decide,by decide⟩ rfl (by simp[cX,zC,a,A9]) ?_;rintro k g h ⟨rfl,rfl,rfl⟩ _);(repeat first| (refine Af rfl ?_;refine gA rfl ?_;first| refine gS (λ_ _=>mP rfl) ?_));(repeat first|refine tA rfl ?_|(refine Af rfl ?_;refine gA rfl ?_;first| refine gS (λ_ _=>AB rfl rfl (by rfl) (by rfl)) ?_));apply Aa;refine aR ⟨_,rfl,[1,2,3,4,5],.t [(true,[.d (iD t.al),NU (.ptr 0 14 0 0)]),(false,[.d (bD true)])],Nk t m,⟨by intro i hi;omega,by decide⟩,rfl,by (simp[cX,zC,a,A9]),rfl,rfl,rfl⟩
def CN(te:EE):Bool:=if te.kn then AJ te.p else Bg ⟨te.s,te.q,te.al⟩
def A5(te:EE):Int:=if te.kn then te.p.al else te.al
noncomputable def Ce(te:EE)(w:W):Bool:=if te.kn then LA te.p w else LS ⟨te.s,te.q,te.al⟩ w
def TE(te:EE)(ok:W->Prop):Prop:=te.kn=false->jT ⟨te.s,te.q,te.al⟩ ok
abbrev kc(al:Int):W->Prop:=λw=>AR (A7 al) w/\w.length<=1048576
theorem mw{tabs:List (Nat×Obj)}[C8 ⟨tabs,none⟩]{t:CM}{ok:W->Prop}(ht:Bg t=true)(a:∀w,ok w->kc t.al w)(b:jT t ok){r:Nat}:JS Tryz.prog ⟨tabs,some (P8 t ok,r)⟩ (NU (PE r)) (LS t) ok:=
 ⟨rfl,λe ha d=>dr (es:=[eT _]) e (by simp [JW,ha]) rfl (ed ht b d (λc f=>Ho ((a _ d).1 c f)) (a _ d).2) rfl⟩
theorem lP{tabs:List (Nat×Obj)}{h:Option (Hid×Nat)}{b:Nat}{vals:List Value}(a:MD ⟨tabs,none⟩ b vals):MD ⟨tabs,h⟩ b vals:=⟨a.out⟩
theorem jM{tabs:List (Nat×Obj)}{h:Option (Hid×Nat)}(a:C8 ⟨tabs,none⟩):C8 ⟨tabs,h⟩:=by
 cases a
 constructor<;>(apply lP;assumption)
def Xz:List W:=[[97,98,32,50,32,48,97,49,32,49,98,48],[97,98,99,32,51,32,48,97,49,32,49,98,50,32,50,99,48],[97,98,32,51,32,48,97,48,32,48,97,49,32,48,98,48,32,49,98,50,32,50,97,50],[98,99,32,50,32,48,98,49,32,49,99,48],[98,99,32,51,32,48,98,49,32,48,99,48,32,49,99,50,32,50,98,50,32,50,99,50],[45,32,49],[97,32,49,32,48,97,48],[97,99,32,52,32,48,97,49,32,48,97,50,32,49,99,51,32,50,97,50,32,51,97,48,32,51,99,51],[97,98,99,32,52,32,48,97,48,32,48,98,49,32,49,98,50,32,49,99,48,32,50,99,51,32,51,97,49],[97,98,32,53,32,48,97,48,32,48,97,49,32,48,98,48,32,49,97,50,32,49,98,50,32,50,97,51,32,50,98,51,32,51,97,52,32,51,98,52],[97,98,100,32,51,32,48,97,49,32,48,100,48,32,49,98,48,32,49,100,50]]
theorem aM:∀w∈Xz,w.length<=60:=by decide
theorem WS:Pure Tryz.prog TB 194 [] (BT Xz):=by
 refine eN Tryz.func194 rfl (by kernel_rfl) rfl ?_;intro Γ a;(repeat first|refine tA rfl ?_ |refine aU rfl ?_ |apply Aa);refine aR ⟨_,rfl,rfl⟩
theorem Rw(b:List UInt8)(hb:b.length<=2000)(p:Int)(N:0<=p/\p < 700000000):Spec Tryz.prog TB 151 [(0,Bo b p)] 1 [.o (.ptr 0 2 0 0)] (KZ b p 410 (λs=>s.es.length<=400)):=by
 obtain⟨c,Q,P,I⟩:=Bn (TB:=TB) b hb p 3 (by omega);obtain⟨w,H,J⟩:=kX (TB:=TB) b hb (p+1) (by omega) Xz (by decide) (by decide);have G:=aM w H;have z:=GH (TB:=TB) w (by omega);have g:∀q:Int,p<=q/\q<=p+2->∃(l j k:Int),(0<=j/\j<=8)/\Spec Tryz.prog TB 37 [(0,Bo b q)] 1 [.o (.ptr 0 2 0 0),Ak [3,6,7,5,1,0,12]] (λx σ nx=>x=eI .i64 l/\σ=[(0,Bo b (q+1))]/\nx=1)/\
  Spec Tryz.prog TB 37 [(0,Bo b (q+1))] 1 [.o (.ptr 0 2 0 0),Ak [3,2,4,1,5]] (λx σ nx=>x=eI .i64 j/\σ=[(0,Bo b (q+1+1))]/\nx=1)/\
  Spec Tryz.prog TB 37 [(0,Bo b (q+1+1))] 1 [.o (.ptr 0 2 0 0),Ak [3,2,4,6]] (λx σ nx=>x=eI .i64 k/\σ=[(0,Bo b (q+1+1+1))]/\nx=1):=λq A=>by
  obtain⟨l,M,u⟩:=De (TB:=TB) b hb q (by omega) [3,6,7,5,1,0,12] (by decide) (by decide);obtain⟨j,v,t⟩:=De (TB:=TB) b hb (q+1) (by omega) [3,2,4,1,5] (by decide) (by decide);obtain⟨k,L,r⟩:=De (TB:=TB) b hb (q+1+1) (by omega) [3,2,4,6] (by decide) (by decide);exact⟨l,j,k,by simp at v;omega,u,t,r⟩
 refine eR Tryz.func151 rfl (by kernel_rfl) rfl ?_;intro Γ a;(repeat first|refine tA rfl ?_ |refine aU rfl ?_ |apply Aa);(refine pW rfl ?_ rfl (by rfl);refine Ai [0] rfl rfl (I) ⟨rfl,by decide,by decide⟩ rfl (by simp[cX,zC,a,cN]) ?_;rintro h d e ⟨rfl,rfl,rfl⟩ _);(repeat first|refine s2 rfl λ_ K=>?_ |apply Aa);(refine aC rfl ?_ ?_<;>rintro⟨⟩)
 ·(repeat first|refine tA rfl ?_ |refine sP rfl (WS) rfl ?_ |refine aU rfl ?_)
  (refine pW rfl ?_ rfl (by rfl);refine Ai [0] rfl rfl (J) ⟨rfl,by decide,by decide⟩ rfl (by simp[cX,zC,a,cN]) ?_;rintro h d e ⟨rfl,rfl,rfl⟩ _);(refine pW rfl ?_ rfl (by rfl);refine Ai [] rfl rfl (z) ⟨rfl,by decide,by decide⟩ rfl trivial ?_;rintro h d e ⟨⟨y,ok⟩,F,rfl,rfl,rfl⟩ _);have B:y.es.length<=w.length+1:=F;(repeat first|refine tA rfl ?_ |refine aU rfl ?_ |apply Aa);(refine aC rfl ?_ ?_<;>rintro⟨⟩)
  ·(repeat first|refine tA rfl ?_ |refine aU rfl ?_ |apply Aa)
   exact aR ⟨_,rfl,[0],Bp y,[(0,Bo b (p+1+1))],⟨by intro i hi;match i with|0=>rfl,by decide⟩,rfl,by (simp[cX,zC,a,cN]),p+1+1,y,by omega,by show y.es.length<=400;omega,rfl,rfl,rfl⟩
  apply aK;obtain⟨l,j,k,v,u,t,r⟩:=g (p+1+1) (by omega);have f:=Jg (TB:=TB) b hb (p+1+1+1+1+1) (by omega) l j k (by omega);(repeat first|refine tA rfl ?_ |refine aU rfl ?_);(refine pW rfl ?_ rfl (by rfl);refine Ai [0] rfl rfl (u) ⟨rfl,by decide,by decide⟩ rfl (by simp[cX,zC,a,cN]) ?_;rintro h d e ⟨rfl,rfl,rfl⟩ _);(repeat first|refine tA rfl ?_);(refine pW rfl ?_ rfl (by rfl);refine Ai [0] rfl rfl (t) ⟨rfl,by decide,by decide⟩ rfl (by simp[cX,zC,a,cN]) ?_;rintro h d e ⟨rfl,rfl,rfl⟩ _);(repeat first|refine tA rfl ?_);(refine pW rfl ?_ rfl (by rfl);refine Ai [0] rfl rfl (r) ⟨rfl,by decide,by decide⟩ rfl (by simp[cX,zC,a,cN]) ?_;rintro h d e ⟨rfl,rfl,rfl⟩ _);(refine pW rfl ?_ rfl (by rfl);refine Ck [0] rfl rfl 1 (f) (by decide) ⟨rfl,by decide,by decide⟩ rfl (by simp[cX,zC,a,cN]) ?_;rintro h d e ⟨q,n,A,m,rfl,rfl,rfl⟩ _);(repeat first|refine tA rfl ?_ |apply Aa);exact aR ⟨_,rfl,[0],Bp n,[(0,Bo b q)],⟨by intro i hi;match i with|0=>rfl,by decide⟩,rfl,by (simp[cX,zC,a,cN]),q,n,by omega,m.2.2,rfl,rfl,rfl⟩
 apply aK;obtain⟨l,j,k,v,u,t,r⟩:=g (p+1) (by omega);have f:=Jg (TB:=TB) b hb (p+1+1+1+1) (by omega) l j k (by omega);(repeat first|refine tA rfl ?_ |refine aU rfl ?_);(refine pW rfl ?_ rfl (by rfl);refine Ai [0] rfl rfl (u) ⟨rfl,by decide,by decide⟩ rfl (by simp[cX,zC,a,cN]) ?_;rintro h d e ⟨rfl,rfl,rfl⟩ _);(repeat first|refine tA rfl ?_);(refine pW rfl ?_ rfl (by rfl);refine Ai [0] rfl rfl (t) ⟨rfl,by decide,by decide⟩ rfl (by simp[cX,zC,a,cN]) ?_;rintro h d e ⟨rfl,rfl,rfl⟩ _);(repeat first|refine tA rfl ?_);(refine pW rfl ?_ rfl (by rfl);refine Ai [0] rfl rfl (r) ⟨rfl,by decide,by decide⟩ rfl (by simp[cX,zC,a,cN]) ?_;rintro h d e ⟨rfl,rfl,rfl⟩ _);(refine pW rfl ?_ rfl (by rfl);refine Ck [0] rfl rfl 1 (f) (by decide) ⟨rfl,by decide,by decide⟩ rfl (by simp[cX,zC,a,cN]) ?_;rintro h d e ⟨q,n,A,m,rfl,rfl,rfl⟩ _);(repeat first|refine tA rfl ?_ |apply Aa);exact aR ⟨_,rfl,[0],Bp n,[(0,Bo b q)],⟨by intro i hi;match i with|0=>rfl,by decide⟩,rfl,by (simp[cX,zC,a,cN]),q,n,by omega,m.2.2,rfl,rfl,rfl⟩
abbrev Kt(r:Sys×AX×Sys):E:=.t [(true,(AL r.1).map .d),(true,(AT r.2.1).map .d),(true,(AL r.2.2).map .d)]
structure kq (r:Sys×AX×Sys):Prop where
 a:r.1.es.length<=400
 b:Mz 41 r.2.1
 c:r.2.2.es.length<=400
def fe(b:List UInt8)(p m:Int)(x:E)(σ:Ab)(nx:Nat):Prop:=∃(p':Int) (r:Sys×AX×Sys),(p<=p'/\p'<=p+m)/\kq r/\x=Kt r/\σ=[(0,Bo b p')]/\nx=1
theorem Mz.upto{m n:Nat}{a:AX}(h:Mz m a)(c:m<=n):Mz n a:=⟨by have:=h.nx;omega,by have:=h.ac;omega,λr b=>by have:=h.row r b;omega⟩
theorem ia{C X:Int->Sys->Prop}{Y:Prop}(h:∀q s,C q s->X q s)(hk:(∀q s,C q s->X q s)->Y):Y:=hk h
theorem W0(b:List UInt8)(hb:b.length<=2000)(p:Int)(T:0<=p/\p < 600000000):Spec Tryz.prog TB 102 [(0,Bo b p)] 1 [.o (.ptr 0 2 0 0)] (fe b p 2000):=by
 have S:=Pj (TB:=TB) b hb p (by omega);refine eR Tryz.func102 rfl (by kernel_rfl) rfl ?_;intro Γ a;(repeat first|refine tA rfl ?_ |refine aU rfl ?_ |apply Aa);(refine pW rfl ?_ rfl (by rfl);refine Ai [0] rfl rfl (S) ⟨rfl,by decide,by decide⟩ rfl (by simp[cX,zC,a,cN]) ?_;rintro t e f ⟨K,H,N,z,rfl,rfl,rfl⟩ _);(repeat first|refine tA rfl ?_ |refine aU rfl ?_ |apply Aa);have R:=Pj (TB:=TB) b hb K (by omega);(refine pW rfl ?_ rfl (by rfl);refine Ai [0] rfl rfl (R) ⟨rfl,by decide,by decide⟩ rfl (by simp[cX,zC,a,cN]) ?_;rintro t e f ⟨x,w,M,y,rfl,rfl,rfl⟩ _);(repeat first|refine tA rfl ?_ |refine aU rfl ?_ |apply Aa);obtain⟨c,Z,Y,P⟩:=Bn (TB:=TB) b hb x 4 (by omega);(refine pW rfl ?_ rfl (by rfl);refine Ai [0] rfl rfl (P) ⟨rfl,by decide,by decide⟩ rfl (by simp[cX,zC,a,cN]) ?_;rintro t e f ⟨rfl,rfl,rfl⟩ _);apply ia (C:=λq s=>(p<=q/\q<=p+1300)/\s.es.length<=400)
 case hk=>
  intro hk;(repeat first|refine s2 rfl λ_ G=>?_ |apply Aa);(refine aC rfl ?_ ?_<;>rintro⟨⟩)
  ·(repeat first|refine tA rfl ?_ |refine aU rfl ?_)
   have F:=Rw (TB:=TB) b hb (x+1) (by omega);(refine pW rfl ?_ rfl (by rfl);refine Ai [0] rfl rfl (F) ⟨rfl,by decide,by decide⟩ rfl (by simp[cX,zC,a,cN]) ?_;rintro t e f ⟨g,j,v,n,rfl,rfl,rfl⟩ _);(repeat first|refine tA rfl ?_);apply Aa;refine Aj.Ay [0] [] rfl rfl [(2,.o (.ptr 1 3 0 0)),(3,.o (.ptr 2 3 0 0)),(4,.o (.ptr 3 3 0 0)),(5,.o (.ptr 4 3 0 0)),(6,.o (.ptr 5 3 0 0))] [(0,Bo b g),(1,.cells 25 3 [[.d (iD 0),.d (iD 0),.d (.l [])]]),(2,.cells 29 3 [[.d (iD 0),.d (.l []),.d (.l [])]]),(3,.cells 25 3 [[.d (iD 0),.d (iD 0),.d (.l [])]]),(4,.cells 25 3 [(AL j).map .d]),(5,.cells 25 3 [(AL w).map .d])] [0,1,2,3,4,5] (rl a rfl) (by (simp[cX,zC,a,cN,Ae,eC])) ?_;(try dsimp only[cA,cB]);exact hk g j ⟨by omega,n⟩
  ·apply aK
   generalize v:x+1=g at *;refine Aj.Ay [0] [] rfl rfl [(2,.o (.ptr 1 3 0 0)),(3,.o (.ptr 2 3 0 0)),(4,.o (.ptr 3 3 0 0)),(5,.o (.ptr 4 3 0 0)),(6,.o (.ptr 5 3 0 0))] [(0,Bo b g),(1,.cells 25 3 [[.d (iD 0),.d (iD 0),.d (.l [])]]),(2,.cells 29 3 [[.d (iD 0),.d (.l []),.d (.l [])]]),(3,.cells 25 3 [[.d (iD 0),.d (iD 0),.d (.l [])]]),(4,.cells 25 3 [(AL H).map .d]),(5,.cells 25 3 [(AL w).map .d])] [0,1,2,3,4,5] (rl a rfl) (by (simp[cX,zC,a,cN,Ae,eC])) ?_;(try dsimp only[cA,cB]);exact hk g H ⟨by omega,z.2⟩
 case h =>
  intro g j ⟨v,n⟩;(repeat first|refine tA rfl ?_ |refine aU rfl ?_);obtain⟨X,V,U,A⟩:=Bn (TB:=TB) b hb g 4 (by omega);(refine pW rfl ?_ rfl (by rfl);refine Ai [0] rfl rfl (A) ⟨rfl,by decide,by decide⟩ rfl (by simp[cX,zC,a,cN]) ?_;rintro t e f ⟨rfl,rfl,rfl⟩ _);apply ia (C:=λq s=>(p<=q/\q<=p+1800)/\s.es.length<=400)
  case hk=>
   intro hk;(repeat first|refine s2 rfl λ_ G=>?_ |apply Aa);(refine aC rfl ?_ ?_<;>rintro⟨⟩)
   ·(repeat first|refine tA rfl ?_ |refine aU rfl ?_)
    have F:=Rw (TB:=TB) b hb (g+1) (by omega);(refine pW rfl ?_ rfl (by rfl);refine Ai [0] rfl rfl (F) ⟨rfl,by decide,by decide⟩ rfl (by simp[cX,zC,a,cN]) ?_;rintro t e f ⟨k,r,u,m,rfl,rfl,rfl⟩ _);(repeat first|refine tA rfl ?_);apply Aa;refine Aj.Ay [0] [] rfl rfl [(2,.o (.ptr 1 3 0 0)),(3,.o (.ptr 2 3 0 0)),(4,.o (.ptr 3 3 0 0)),(5,.o (.ptr 4 3 0 0)),(6,.o (.ptr 5 3 0 0))] [(0,Bo b k),(1,.cells 25 3 [[.d (iD 0),.d (iD 0),.d (.l [])]]),(2,.cells 29 3 [[.d (iD 0),.d (.l []),.d (.l [])]]),(3,.cells 25 3 [[.d (iD 0),.d (iD 0),.d (.l [])]]),(4,.cells 25 3 [(AL j).map .d]),(5,.cells 25 3 [(AL r).map .d])] [0,1,2,3,4,5] (rl a rfl) (by (simp[cX,zC,a,cN,Ae,eC])) ?_;(try dsimp only[cA,cB]);exact hk k r ⟨by omega,m⟩
   ·apply aK
    generalize u:g+1=k at *;refine Aj.Ay [0] [] rfl rfl [(2,.o (.ptr 1 3 0 0)),(3,.o (.ptr 2 3 0 0)),(4,.o (.ptr 3 3 0 0)),(5,.o (.ptr 4 3 0 0)),(6,.o (.ptr 5 3 0 0))] [(0,Bo b k),(1,.cells 25 3 [[.d (iD 0),.d (iD 0),.d (.l [])]]),(2,.cells 29 3 [[.d (iD 0),.d (.l []),.d (.l [])]]),(3,.cells 25 3 [[.d (iD 0),.d (iD 0),.d (.l [])]]),(4,.cells 25 3 [(AL j).map .d]),(5,.cells 25 3 [(AL w).map .d])] [0,1,2,3,4,5] (rl a rfl) (by (simp[cX,zC,a,cN,Ae,eC])) ?_;(try dsimp only[cA,cB]);exact hk k w ⟨by omega,y.2⟩
  case h=>
   intro k r ⟨u,m⟩;have Q:=Qz (TB:=TB) b hb k (by omega) (Gw .i64 j.al r.al);(repeat first|refine aU rfl ?_);refine rG ⟨Gh [(0,14),(3,14),(5,15),(7,1048),(8,15),(9,1032),(10,1032),(11,1)],bg [0,1,2,3,4,5,6,8,7,9,10,11]⟩ (by kernel_rfl) ?_;(repeat first|refine tA rfl ?_);(refine Af rfl ?_;refine C6 ?_ rfl ⟨rfl,rfl⟩;refine Ai [0] rfl rfl (Q) ⟨rfl,by decide,by decide⟩ rfl (by simp[cX,zC,a,cN]) ?_;rintro t e f ⟨I,J,L,B,rfl,rfl,rfl⟩ _;refine⟨J9 4 5 rfl rfl rfl,?_⟩);(refine Af rfl ?_;refine dm ?_ rfl ⟨rfl,rfl⟩;refine Eo rfl rfl rfl rfl (by rfl) rfl (am rfl) ?_;refine⟨Fg 5 rfl rfl,?_⟩);(refine Af rfl ?_;refine dm ?_ rfl ⟨rfl,rfl⟩;refine Eo rfl rfl rfl rfl (by rfl) rfl (am rfl) ?_;refine⟨Fg 5 rfl rfl,?_⟩);(repeat first|refine tA rfl ?_ |apply Aa);exact aR ⟨_,rfl,[0],Kt (j,J,r),[(0,Bo b I)],⟨by intro i hi;match i with|0=>rfl,by decide⟩,rfl,by (simp[cX,zC,a,cN]),I,(j,J,r),by omega,⟨n,B.upto (by omega),m⟩,rfl,rfl,rfl⟩
structure nf (t:CM):Prop where
 s:t.s.es.length<=401
 q:Mz 60 t.q
end Go.Am
namespace Go.Am
open Go Go.Proofs
def EK(n:Nat)(p:W->Prop):Prop:=∃l:List W,l.length<=n/\∀w,p w->w∈l
theorem EK.or{a b:Nat}{p q:W->Prop}(h:EK a p)(f:EK b q):EK (a+b) (λw=>p w\/q w):=by
 obtain⟨l,i,e⟩:=h;obtain⟨l',g,d⟩:=f;exact⟨l++l',by simp;omega,λw c=>em.2 (c.imp (e w) (d w))⟩
theorem EK.sub{a b:Nat}{p q:W->Prop}(h:EK a p)(hs:∀w,q w->p w)(hb:a<=b):EK b q:=by
 obtain⟨l,e,d⟩:=h;exact⟨l,by omega,λw c=>d w (hs w c)⟩
theorem EK.none{n:Nat}{p:W->Prop}(h:∀w,¬p w):EK n p:=⟨[],by simp,λw a=>absurd a (h w)⟩
theorem Pp{α β:Type}(f:α->List β)(b:Nat):∀(l:List α),(∀x∈l,(f x).length<=b)->(l.flatMap f).length<=l.length*b
 | [],_=>by simp
 | x::l,h=>by
  have d:=Pp f b l λy a=>h y (by simp [a]);have c:=h x (by simp);rw [qA,pj,oR,Nat.succ_mul];omega
theorem EK.ex{α:Type}{n b:Nat}{p:W->Prop}{q:α->W->Prop}(l:List α)(g:l.length<=n)(f:∀x∈l,EK b (q x))(h:∀w,p w->∃x∈l,q x w):EK (n*b) p:=by
 classical
 have d:∀x:α,∃k:List W,x∈l->k.length<=b/\∀w,q x w->w∈k:=λx=>by
  by_cases a:x∈l
  ·obtain⟨k,j,i⟩:=f x a;exact⟨k,λ_=>⟨j,i⟩⟩
  ·exact⟨[],λh=>absurd h a⟩
 have hg:=λx=>Classical.choose_spec (d x);refine⟨l.flatMap λx=>Classical.choose (d x),lc (Pp _ b l λx a=>(hg x a).1) (oQ b g),λw e=>?_⟩;obtain⟨x,a,c⟩:=h w e;exact pu.2 ⟨x,a,(hg x a).2 w c⟩
theorem EK.map{α:Type}{n:Nat}{p:W->Prop}(f:α->W)(l:List α)(c:l.length<=n)(h:∀w,p w->∃x∈l,w=f x):EK n p:=
 ⟨l.map f,by simpa using c,λw b=>by obtain⟨x,a,rfl⟩:=h w b;exact d9.2 ⟨x,a,rfl⟩⟩
theorem fQ(al:Int):(A7 al).length<=6:=by
 unfold A7;rw [gt];exact AM al 6
theorem MN{al:Int}{b:Nat}{t:A1}(h:Hd al b t):EK 1764 (Nz (A7 al) t):=by
 have c:=h.rl;have g:=h.cl;refine EK.ex (n:=12) (b:=147) (q:=λr v=>∃m:W,(m=[]\/∃l∈A7 al,m=[l])/\∃x:W,(x=[]\/x∈t.cols)/\v=r++m++x) t.rows c (λr _=>?_) λw a=>a;refine EK.ex (n:=7) (b:=21) (q:=λm v=>∃x:W,(x=[]\/x∈t.cols)/\v=r++m++x) ([]::(A7 al).map λl=>[l]) (by have:=fQ al;simp;omega) (λm _=>?_) λw a=>?_
 ·exact EK.map (λx=>r++m++x) ([]::t.cols) (by simp;omega) λw ⟨x,d,a⟩=>⟨x,by simpa using d,a⟩
 ·obtain⟨m,e,i⟩:=a
  refine⟨m,?_,i⟩
  rcases e with rfl|⟨l,f,rfl⟩
  ·simp
  ·exact ou _ (d9.2 ⟨l,f,rfl⟩)
theorem Rq{L:W->Bool}{ls:List UInt8}:∀(n:Nat) (t:A1),(ER L ls n t).length<=n+1
 | 0,t=>by simp [ER]
 | n + 1,t=>by
  unfold ER
  cases Bh L ls t with
  | none=>simp
  | some w=>
   dsimp only;split
   ·simp
   ·have:=Rq (L:=L) (ls:=ls) n ⟨t.rows++[w],t.cols⟩
    simp;omega
theorem Rm{L:W->Bool}{al:Int}{b:Nat}{t:A1}(h:Hd al b t):EK 24696 (λv=>∃y∈ER L (A7 al) 13 t,Nz (A7 al) y v):=
 EK.ex (n:=14) (b:=1764) (q:=λy v=>Nz (A7 al) y v) (ER L (A7 al) 13 t) (Rq 13 t) (λy a=>MN (h.grow a)) λw c=>c
theorem ZH{al:Int}{b:Nat}{t:A1}(h:Hd al b t){w:W}(e:w.length<=20000):EK 260013 (XZ t w):=by
 have c:=h.rl
 refine EK.ex (n:=13) (b:=20001) (q:=λr v=>∃k:Nat,v=r++w.drop k) ([]::t.rows) (by simp;omega) (λr _=>?_) λv ⟨r,d,a⟩=>⟨r,by simpa using d,a⟩
 refine EK.map (λk=>r++w.drop k) (List.range 20001) (by simp) λv ⟨k,a⟩=>?_;by_cases hk:k < 20001
 ·exact⟨k,oc.2 hk,a⟩
 ·exact⟨20000,by simp,by rw [a,pv (by omega),pv (by omega)]⟩
theorem ZG{L:W->Bool}{al:Int}{t:A1}(h:Hd al 20000 t){w:W}(f:AR (A7 al) w)(g:w.length<=20000):EK 286473 (XY L (A7 al) t w):=by
 refine((MN h).or ((ZH h g).or (b:=24696) ?_)).sub (b:=286473) (λv e=>e) (by omega)
 cases hs:CL L t w with
 | none=>exact .none λv ⟨x,a,_⟩=>by cases a
 | some x=>
  cases ha:FD t x with
  | none=>exact .none λv ⟨x',a,u,d,_⟩=>by injection a with a;subst a;rw [ha] at d;cases d
  | some u=>
   obtain⟨p,_,rfl⟩:=IE hs
   exact(Rm (L:=L) (Sm h (λc i=>f c (by simp [i])) (by simp at g;omega) ha)).sub (λv ⟨x',a,u',d,e⟩=>by
    injection a with a;subst a
    rw [ha] at d;injection d with d;subst d;exact e) (i8 _)
def okB(al:Int)(w:W):Prop:=AR (A7 al) w/\w.length<=50000
theorem Jk(al:Int):Sl (okB al) al:=λw b a=>⟨b,a⟩
theorem Zl{α:Type}:∀(l m:List α),l.Nodup->(∀x∈l,x∈m)->l.length<=m.length
 | [],_,_,_=>by simp
 | x :: l,m,d,hs=>by
  obtain⟨a,b,rfl⟩:=List.append_of_mem (hs x (by simp));rw [List.nodup_cons] at d
  have h:=Zl l (a++b) d.2 λy e=>by
   have c:=hs y (ou _ e);simp only [em,n8] at c |-
   rcases c with c|rfl|c
   ·exact .inl c
   ·exact absurd e d.1
   ·exact .inr c
  simp at h |-;omega
theorem fB{t:CM}{n:Nat}{p:W->Prop}{al:Int}(h:EK n p)(j:n<=20000000)(hb:∀w,p w->okB al w):jT t p:=by
 obtain⟨k,hk,e⟩:=h;intro l c f
 have a:l ⊆ Cw t::(k.filter λw=>w.length<=50000).flatMap λw=>(List.range 50001).map λi=>GX t (Cw t) (w.take i):=λF g=>by
  rcases f F g with rfl|⟨u,v,d,rfl⟩
  ·simp
  ·have b:=(hb _ d).2
   refine ou _ (pu.2 ⟨u++v,oh.2 ⟨e _ d,by simpa using b⟩,d9.2 ⟨u.length,oc.2 (by simp at b;omega),by simp⟩⟩)
 have b:=Zl _ _ c a;have q:=Pp (λw:W=>(List.range 50001).map λi=>GX t (Cw t) (w.take i)) 50001 (k.filter λw=>w.length<=50000) (λx _=>by simp);have o:(k.filter λw=>w.length<=50000).length<=n:=lc (pI _ _) hk;rw [oR] at b;have m:(k.filter λw=>decide (w.length<=50000)).length*50001<=20000000*50001:=oQ _ (by omega);omega
theorem kY{al:Int}{w:W}(h:okB al w):kc al w:=⟨h.1,lc h.2 (by omega)⟩
theorem gT{te:EE}{n:Nat}{p:W->Prop}(h:EK n p)(c:n<=20000000)(hb:∀w,p w->okB (A5 te) w):(∀w,p w->kc (A5 te) w)/\TE te p:=by
 refine⟨λw b=>kY (hb w b),?_⟩;obtain⟨kn,a,s,q,al⟩:=te
 cases kn with
 | true=>intro h;cases h
 | false=>exact λ_=>fB h c hb
end Go.Am
namespace Go.Am
open Go Go.Proofs
set_option maxHeartbeats 1000000
set_option maxRecDepth 4000
attribute [local irreducible] A6 Cz Lex Bv Aj Spec
variable {TB:BF}
theorem Hc{te:EE}(a:CN te=true):A8 (A5 te)=true:=by
 obtain⟨kn,p,s,q,al⟩:=te
 cases kn with
 | true=>exact(AG a).1
 | false=>
  have ht:Bg ⟨s,q,al⟩=true:=a;unfold Bg at ht;simp only [d4] at ht;exact ht.2.2
noncomputable def Hv(te:EE)(x:A1):Option A1:=if (CN te && A2 (Ce te) (A5 te) x)=true then Bq (Ce te) (A7 (A5 te)) 13 x else none
noncomputable def SU(te:EE):Option A1:=if CN te=true then Bq (Ce te) (A7 (A5 te)) 13 Bu else none
noncomputable def Sr(te:EE)(x:A1):Option AX:=if (CN te && BA (Ce te) (A5 te) x)=true then some (AZ (Ce te) (A5 te) x) else none
section
variable {tabs:List (Nat×Obj)}[hTb:C8 ⟨tabs,none⟩]{te:EE}
include hTb
end
noncomputable def E9(te:EE)(w:W):Bool:=if te.kn then Kl te.p w else Ki ⟨te.s,te.q,te.al⟩ w
def DU(te:EE):Int:=if CN te then A5 te else -1
theorem RX{t:CM}(ht:Bg t=true):TL (Ki t) (LS t) t.al:=λw b c=>by
 have a:A8 t.al=true:=by unfold Bg at ht;simp only [d4] at ht;exact ht.2.2
 unfold Ki;rw [ht,GQ b c a];rfl
theorem Ic{te:EE}(a:CN te=true):TL (E9 te) (Ce te) (A5 te):=by
 obtain⟨kn,p,s,q,al⟩:=te
 cases kn with
 | true=>exact bC a
 | false=>exact RX (t:=⟨s,q,al⟩) a
theorem aQ{A:W->Bool}{t:A1}:A2 A (-1) t=false:=by
 cases h:A2 A (-1) t
 ·rfl
 ·have:=(Ek h).1.pos;omega
theorem XD{A L:W->Bool}{al:Int}(h:TL A L al)(t:A1):A2 A al t=A2 L al t:=by
 unfold A2;cases hs:Gl al t
 ·rfl
 ·rw [HZ h (Vv hs).bd (by omega)]
theorem Dn(te:EE)(x:A1):(CN te && A2 (Ce te) (A5 te) x)=A2 (E9 te) (DU te) x:=by
 unfold DU;cases a:CN te
 ·simp [aQ]
 ·rw [if_pos rfl,oM,XD (Ic a)]
theorem DA{te:EE}{x:A1}(h:A2 (E9 te) (DU te) x=true):CN te=true/\DU te=A5 te/\A2 (Ce te) (A5 te) x=true/\bB (A5 te) x/\(AI (Ce te) x).Nodup:=by
 rw [<-Dn,d4] at h;exact⟨h.1,by unfold DU;rw [if_pos h.1],h.2,(Ek h.2).1,(Ek h.2).2⟩
theorem YC{al:Int}(ha:A8 al=true){w:W}(h:AR (A7 al) w)(a:w.length<=4000):Gs al w=true:=by
 unfold Gs;rw [GQ h (by omega) ha,decide_eq_true a];rfl
theorem cO{L:W->Bool}{x:A1}(h:(AI L x).Nodup){i k:Nat}{u w:W}(hi:x.rows[i]? = some u)(hk:x.rows[k]? = some w)(a:k < i):marks L x.cols u≠marks L x.cols w:=by
 intro b
 have d:(AI L x)[i]? = some (marks L x.cols u):=by unfold AI;simp [hi]
 have c:(AI L x)[k]? = some (marks L x.cols u):=by unfold AI;simp [hk,b]
 obtain⟨j,g⟩:=ce.1 d;obtain⟨f,e⟩:=ce.1 c;exact oe.1 h k i f j a (by rw [g,e])
theorem OW{L:W->Bool}{ls:List UInt8}:∀ {n:Nat} {t u:A1},TOk L ls t->Bq L ls n t=some u->TOk L ls u/\Bh L ls u=none/\t.rows <+: u.rows/\u.cols=t.cols/\(t.rows.length<=12->u.rows.length<=12)/\(Bh L ls t≠none->t.rows.length < u.rows.length)/\(Bh L ls t=none->u=t)
 | 0,t,u,_,h=>by simp [Bq] at h
 | n + 1,t,u,hk,h=>by
  unfold Bq at h
  cases a:Bh L ls t with
  | none=>
   rw [a] at h
   injection h with h;subst h
   exact⟨hk,a,q8 _,rfl,id,λh=>absurd rfl h,λ_=>rfl⟩
  | some w=>
   rw [a] at h;dsimp only at h;split at h
   ·cases h
   ·rename_i i
    obtain⟨g,f,b,e,d,k,j⟩:=OW (hk.push a) h;have c:=(rC t.rows [w]).trans b;refine⟨g,f,c,e,λh=>d (by simp;omega),λ_=>?_,λh=>by cases h⟩;have:=b.length_le;simp at this;omega
theorem fv{te:EE}{x u:A1}(h:A2 (E9 te) (DU te) x=true)(d:Hv te x=some u):A2 (E9 te) (DU te) u=true/\Bh (Ce te) (A7 (A5 te)) u=none/\x.rows <+: u.rows/\u.cols=x.cols/\(Bh (Ce te) (A7 (A5 te)) x≠none->x.rows.length < u.rows.length)/\(Bh (Ce te) (A7 (A5 te)) x=none->u=x):=by
 obtain⟨e,r,g,b,q⟩:=DA h;unfold Hv at d;rw [e,g,oM,if_pos rfl] at d;obtain⟨f,n,m,c,l,k,j⟩:=OW (IG g) d;refine⟨?_,n,m,c,k,j⟩;rw [<-Dn,e,oM];have o:=l b.rl;refine JQ (Hc e) b.pos f o (by rw [c];exact b.cl) (λw a=>?_) (λw a=>by rw [c] at a;exact(b.cw w a).1);obtain⟨i,hi,p⟩:=oy a;have:=f.short i w (by rw [d6 hi,p]);omega
theorem Ue(te:EE)(x:A1):(if A2 (E9 te) (DU te) x then Bq (E9 te) (A7 (DU te)) 13 x else none)=Hv te x:=by
 unfold Hv;rw [Dn];by_cases a:A2 (E9 te) (DU te) x=true
 ·obtain⟨d,c,f,b,e⟩:=DA a
  rw [a,c,if_pos rfl,if_pos rfl];exact OV (Ic d) 13 b.bd (by omega)
 ·rw [qq] at a;rw [a,if_neg o8,if_neg o8]
theorem QW{te:EE}{x:A1}(h:A2 (E9 te) (DU te) x=true):(CN te && BA (Ce te) (A5 te) x)=(Bh (Ce te) (A7 (A5 te)) x).isNone:=by
 obtain⟨b,e,a,d,c⟩:=DA h;rw [b,Dp,a];rfl
structure nY (n m:Nat) (t:A1):Prop where
 rl:t.rows.length<=n
 cl:t.cols.length<=n
 rb:∀w∈t.rows,w.length<=m
 cb:∀w∈t.cols,w.length<=m
section
variable {P:Program}{Γ:Ctx}{d:Option Tmp}{ty:TypeId}{pos:String}{af:Array Edge}{g:Option (Nat×Bool)}{L:List (Nat×E)}{σ:Ab}{nx:Nat}
end
noncomputable def MG(te:EE)(x:A1)(w:W):Option A1:=if (CN te && A2 (Ce te) (A5 te) x && Gs (A5 te) w)=true then FD x w else none
theorem iB(te:EE)(x:A1)(w:W):OO (E9 te) (DU te) x w=MG te x w:=by
 unfold OO MG;rw [Dn];cases a:A2 (E9 te) (DU te) x
 ·rw [qi,qi]
 ·rw [(DA a).2.1]
section
variable {tabs:List (Nat×Obj)}[hTb:C8 ⟨tabs,none⟩]{te:EE}
include hTb
end
noncomputable def GZ(te:EE)(x:A1)(w:W):Option W:=if (CN te && BA (Ce te) (A5 te) x && Gs (A5 te) w)=true then CL (Ce te) x w else none
noncomputable def Mi(te:EE)(x:A1)(w:W):Option A1:=if (CN te && BA (Ce te) (A5 te) x && Gs (A5 te) w)=true then G0 (Ce te) (A7 (A5 te)) x w else none
section
variable {tabs:List (Nat×Obj)}[hTb:C8 ⟨tabs,none⟩]{te:EE}
include hTb
end
end Go.Am
namespace Go.Am
open Go Go.Proofs
set_option maxHeartbeats 1000000
set_option maxRecDepth 4000
attribute [local irreducible] A6 Cz Lex Bv Aj Spec
variable {tabs:List (Nat×Obj)}
theorem fL{al:Int}{w:W}(h:Gs al w=true):AR (A7 al) w/\w.length<=4000:=by
 unfold Gs at h;rw [d4,decide_eq_true_eq] at h;exact⟨Dg h.1,h.2⟩
theorem Xc{L:W->Bool}{cols:List W}{c w:W}:marks L (cols++[c]) w=marks L cols w++[RE (L (w++c))]:=by simp [marks]
theorem Wi{te:EE}{x u:A1}{w:W}(h:MG te x w=some u):A2 (E9 te) (DU te) x=true/\AR (A7 (A5 te)) w/\w.length<=4000/\u=⟨x.rows,x.cols++[w]⟩/\A2 (E9 te) (DU te) u=true/\MG te u w=none:=by
 unfold MG at h;by_cases d:(CN te && A2 (Ce te) (A5 te) x && Gs (A5 te) w)=true
 ·rw [if_pos d] at h
  rw [Dn,d4] at d;obtain⟨g,o⟩:=d;obtain⟨m,l⟩:=fL o;obtain⟨k,t,s,f,j⟩:=DA g;unfold FD at h;split at h
  ·cases h
  rename_i i
  injection h with h
  subst h;rw [not_or] at i;have hk:=IG s;have p:=f.cl;have q:=f.c1;refine⟨g,m,l,rfl,?_,?_⟩
  ·rw [<-Dn,k,oM]
   refine JQ (Hc k) f.pos ⟨hk.r0,by rw [f6 (by omega)];exact hk.c0,hk.pre,hk.onR,λc d=>?_,?_,?_⟩ f.rl (by simp;omega) (λr n=>(f.rw r n).1) (λc d=>?_)
   ·rcases em.1 d with d|d
    ·exact hk.onC c d
    ·simp at d;subst d;exact m
   ·have e:(AI (Ce te) ⟨x.rows,x.cols++[w]⟩).map List.dropLast=AI (Ce te) x:=by
     unfold AI;rw [o9]
     exact pV λr _=>by simp [d5,Xc]
    rw [<-e] at j;exact(pS.1 j).imp λh e=>h (by rw [e])
   ·exact pR.2 ⟨hk.ndC,by simp,λa ha b hb=>by simp at hb;subst hb;exact λe=>i.2 (e ▸ ha)⟩
   ·rcases em.1 d with d|d
    ·exact(f.cw c d).1
    ·simp at d;subst d;exact l
  ·unfold MG FD
   split
   ·rw [if_pos (.inr (by simp))]
   ·rfl
 ·rw [if_neg d] at h;cases h
end Go.Am
namespace Go.Am
open Go Go.Proofs
set_option maxHeartbeats 1000000
set_option maxRecDepth 4000
attribute [local irreducible] A6 Cz Lex Bv Aj Spec
variable {tabs:List (Nat×Obj)}
theorem iK(te:EE)(x:A1):(if BA (E9 te) (DU te) x then some (AZ (E9 te) (DU te) x) else none)=Sr te x:=by
 rw [Dp];cases b:A2 (E9 te) (DU te) x
 ·rw [qi,if_neg o8]
  unfold Sr;rw [Dp,<-Bool.and_assoc,Dn,b];rfl
 ·obtain⟨a,e,d,c,f⟩:=DA b
  rw [e,Nc (Ic a) c.bd (by omega),T9 (Ic a) c.bd (by omega),oM];unfold Sr;rw [Dp,a,d,oM,oM]
theorem kx{te:EE}{x:A1}{a:AX}(h:Sr te x=some a):A2 (E9 te) (DU te) x=true/\Bh (Ce te) (A7 (A5 te)) x=none/\BS (Ce te) (A7 (A5 te)) x/\a=AZ (Ce te) (A5 te) x/\AJ a=true/\a.al=A5 te/\a.nx.length=x.rows.length/\a.ac=x.rows.map (Ce te):=by
 unfold Sr at h;by_cases b:(CN te && BA (Ce te) (A5 te) x)=true
 ·rw [if_pos b] at h
  injection h with h
  subst h;rw [d4] at b;obtain⟨d,f,c⟩:=Jx b.2
  have e:A2 (E9 te) (DU te) x=true:=by rw [<-Dn,b.1,d];rfl
  exact⟨e,f,c,rfl,Lf (Hc b.1) c (Ek d).1.rl,rfl,by simp [AZ],rfl⟩
 ·rw [if_neg b] at h;cases h
end Go.Am
namespace Go.Am
open Go Go.Proofs
set_option maxHeartbeats 1000000
set_option maxRecDepth 4000
attribute [local irreducible] A6 Cz Lex Bv Aj Spec
variable {tabs:List (Nat×Obj)}
theorem c8{L:W->Bool}{ls:List UInt8}{t:A1}(g:t.cols=[[]])(c:2<=t.rows.length)(e:(AI L t).Nodup):Bh L ls t=none:=by
 cases d:Bh L ls t with
 | none=>rfl
 | some w=>
  exfalso;have f:=(Iw d).2;obtain⟨a,ha⟩:=get_some (l:=t.rows) (k:=0) (by omega);obtain⟨b,hb⟩:=get_some (l:=t.rows) (k:=1) (by omega);have ne:=cO e hb ha (by omega);have h:marks L t.cols a∈AI L t:=List.mem_map_of_mem (co ha);have c:marks L t.cols b∈AI L t:=List.mem_map_of_mem (co hb)
  have hk:∀v:W,marks L t.cols v=[RE (L v)]:=λv=>by rw [g];simp [marks]
  rw [hk] at f h c ne;rw [hk] at ne;cases m:L a<;>cases j:L b<;>cases i:L w<;>simp_all
theorem kU(L:W->Bool)(ls:List UInt8):∃u,Bq L ls 13 Bu=some u/\u.cols=[[]]/\u.rows.length<=2:=by
 unfold Bq
 cases h:Bh L ls Bu with
 | none=>exact⟨Bu,rfl,rfl,by decide⟩
 | some w=>
  dsimp only;rw [if_neg (by decide)];unfold Bq;have hk:=(Nq L ls).push h;have a:=c8 (ls:=ls) (t:=⟨Bu.rows++[w],Bu.cols⟩) rfl (by simp [Bu]) hk.nd;rw [a];exact⟨_,rfl,rfl,by simp [Bu]⟩
theorem jq{te:EE}(h:CN te=true):∃u,SU te=some u/\A2 (E9 te) (DU te) u=true/\Bh (Ce te) (A7 (A5 te)) u=none/\u.cols=[[]]/\u.rows.length<=2/\BS (Ce te) (A7 (A5 te)) u/\0<=A5 te:=by
 obtain⟨u,e,c,g⟩:=kU (Ce te) (A7 (A5 te));obtain⟨b,d,o,n,m,l,k⟩:=OW (Nq _ _) e;have ha:=Hc h
 have f:0<=A5 te:=by unfold A8 at ha;simp only [d4,decide_eq_true_eq] at ha;omega
 refine⟨u,by unfold SU;rw [if_pos h,e],?_,d,c,g,⟨b,GU d⟩,f⟩;rw [<-Dn,h,oM];refine JQ ha f b (by omega) (by rw [c];decide) (λw a=>?_) (λw a=>by rw [c] at a;simp at a;subst a;simp);obtain⟨i,hi,j⟩:=oy a;have:=b.short i w (by rw [d6 hi,j]);omega
theorem jo(te:EE):Im (E9 te) (DU te) Bu=SU te:=by
 have h:=Ue te Bu;unfold Im;refine h.trans ?_;unfold Hv SU;cases hk:CN te
 ·rfl
 ·have ha:=Hc hk
  have c:0<=A5 te:=by unfold A8 at ha;simp only [d4,decide_eq_true_eq] at ha;omega
  have b:=JN (A5 te);rw [JQ ha c (Nq _ _) (by decide) (by decide) (λw a=>by have:=(b.onR w a).2;omega) (λw a=>by simp [Bu] at a;subst a;simp)];rfl
end Go.Am
namespace Go.Am
open Go Go.Proofs
set_option maxHeartbeats 1000000
set_option maxRecDepth 4000
attribute [local irreducible] A6 Cz Lex Bv Aj Spec
variable {tabs:List (Nat×Obj)}
theorem RZ{t:CM}:∀(u v:W) (F:PS),Gb t F u=false->Gb t F (u++v)=false
 | [],v,F,h=>by
  have h:(!Fm t F)=false:=h
  cases v with
  | nil=>exact h
  | cons c v=>show (!Fm t F && _)=false;rw [h];rfl
 | c :: u,v,F,h=>by
  have h:(!Fm t F && Gb t (Dk t ((c.toNat:Int) - 97) F) u)=false:=h
  show (!Fm t F && Gb t (Dk t ((c.toNat:Int) - 97) F) (u++v))=false
  cases hb:(!Fm t F)
  ·rfl
  ·rw [hb] at h
   exact RZ u v _ h
theorem TU{L:W->Bool}{ls:List UInt8}{t:A1}(h:BS L ls t)(g:∀u v,L u=false->L (u++v)=false):∀(w:W) (i:Nat) (r:W),t.rows[i]? = some r->AR ls w->L r=false->L (t.rows.getD (runM L t i w) [])=false
 | [],i,r,hi,_,a=>by show L (t.rows.getD i [])=false;rw [Ou hi];exact a
 | c :: w,i,r,hi,f,a=>by
  obtain⟨s,hs,b⟩:=h.idx hi (f c (by simp));have j:=UL.1 b [] (co h.c0);rw [oO,oO] at j
  have e:runM L t i (c::w)=runM L t (C3 L t (r++[c])) w:=by
   show runM L t (C3 L t (t.rows.getD i []++[c])) w=_
   rw [Ou hi]
  rw [e];exact TU h g w _ s hs (λd k=>f d (by simp [k])) (by rw [j];exact g r [c] a)
theorem ef{te:EE}{x:A1}{a:AX}(ha:Sr te x=some a)(hk:te.kn=false):∀u v,AR (A7 a.al) u->AR (A7 a.al) v->LA a u=false->LA a (u++v)=false:=by
 obtain⟨c,i,b,rfl,f,l,k,j⟩:=kx ha
 have hL:∀u v,Ce te u=false->Ce te (u++v)=false:=λu v h=>by
  unfold Ce at *;rw [if_neg (by rw [hk];exact o8)] at *;exact RZ u v _ h
 intro u v d c h;have g:=(ce.1 b.r0).1;rw [KV b d] at h;rw [KV b (Tc d c)];unfold MF at *;rw [PO];obtain⟨r,e⟩:=get_some (b.run u 0 d g);rw [Ou e] at h;exact TU b hL v _ r e c h
end Go.Am
namespace Go.Am
open Go Go.Proofs
set_option maxHeartbeats 1000000
set_option maxRecDepth 4000
attribute [local irreducible] A6 Cz Lex Bv Aj Spec
theorem bX(te:EE)(x:A1):BA (E9 te) (DU te) x=(CN te && BA (Ce te) (A5 te) x):=by
 rw [Dp,Dp,<-Bool.and_assoc,Dn];cases a:A2 (E9 te) (DU te) x
 ·rw [qi,qi]
 ·obtain⟨d,c,f,b,e⟩:=DA a
  rw [c,Nc (Ic d) b.bd (by omega)]
theorem OX{te:EE}{x:A1}(h:(CN te && BA (Ce te) (A5 te) x)=true):A2 (E9 te) (DU te) x=true/\Bh (Ce te) (A7 (A5 te)) x=none/\BS (Ce te) (A7 (A5 te)) x:=by
 rw [d4] at h;obtain⟨c,b,a⟩:=Jx h.2;exact⟨by rw [<-Dn,h.1,c];rfl,b,a⟩
theorem eu(te:EE)(x:A1)(w:W):Fu (E9 te) (DU te) x w=GZ te x w:=by
 unfold Fu GZ;rw [bX];cases d:(CN te && BA (Ce te) (A5 te) x)
 ·rw [qi,qi,if_neg o8,if_neg o8]
 ·obtain⟨c,i,b⟩:=OX d
  obtain⟨g,f,k,e,j⟩:=DA c;rw [f,oM];by_cases a:Gs (A5 te) w=true
  ·obtain⟨h,l,_⟩:=Pg a
   rw [if_pos a,if_pos a,Xw (Ic g) e.bd (by omega) b h (by omega)]
  ·rw [if_neg a,if_neg a]
theorem Vy{te:EE}{x:A1}{w v:W}(h:GZ te x w=some v):(CN te && BA (Ce te) (A5 te) x)=true/\AR (A7 (A5 te)) w/\w.length<=4000/\MF (Ce te) x w≠Ce te w/\splitAt (Ce te) x (Ce te w) 0 w=some v/\Split (Ce te) (A7 (A5 te)) x w v:=by
 unfold GZ at h;by_cases a:(CN te && BA (Ce te) (A5 te) x && Gs (A5 te) w)=true
 ·rw [if_pos a] at h
  rw [d4] at a;obtain⟨a,d⟩:=a;obtain⟨g,i,b⟩:=OX a;obtain⟨c,f,_⟩:=Pg d;unfold CL at h;by_cases ha:MF (Ce te) x w=Ce te w
  ·rw [if_pos ha] at h;cases h
  ·rw [if_neg ha] at h
   obtain⟨v',e,hs⟩:=VA b (Ce te w) w 0 [] c b.r0 rfl ha;rw [e] at h
   injection h with h;subst h
   exact⟨a,c,f,ha,e,hs⟩
 ·rw [if_neg a] at h;cases h
theorem VC(te:EE)(x:A1)(w:W):Mi te x w=(GZ te x w).bind λv=>(MG te x v).bind λu=>Hv te u:=by
 unfold Mi
 cases hs:GZ te x w with
 | none=>
  unfold GZ at hs;split
  ·rename_i a
   rw [if_pos a] at hs;unfold G0;rw [hs];rfl
  ·rfl
 | some v=>
  obtain⟨a,r,k,ha,e,f⟩:=Vy hs
  have h:(CN te && BA (Ce te) (A5 te) x && Gs (A5 te) w)=true:=by
   unfold GZ at hs;split at hs
   ·assumption
   ·cases hs
  rw [if_pos h];obtain⟨i,z,o⟩:=OX a;obtain⟨q,G,F,B,A⟩:=DA i;unfold G0 CL;rw [if_neg ha,e]
  show (FD x v).bind _=(MG te x v).bind _
  obtain⟨p,_,j⟩:=f.suf;have g:Gs (A5 te) v=true:=YC (Hc q) (λc a=>r c (by rw [j];simp [a])) (by rw [j] at k;simp at k;omega)
  have b:MG te x v=FD x v:=by unfold MG;rw [Dn,i,g];rfl
  rw [b]
  cases n:FD x v with
  | none=>rfl
  | some u=>
   obtain⟨_,_,_,_,d,_⟩:=Wi (b.trans n);obtain⟨m,y,l,t,s⟩:=DA d
   show Bq _ _ 13 u=Hv te u
   unfold Hv;rw [m,l];rfl
theorem gJ(te:EE)(x:A1)(w:W):Mj (E9 te) (DU te) x w=Mi te x w:=by
 rw [VC];unfold Mj;rw [eu];congr 1;funext v;rw [iB];congr 1;funext u;exact Ue te u
theorem VB{te:EE}{x u:A1}{w v:W}(h:GZ te x w=some v)(ha:MG te x v=some u):Bh (Ce te) (A7 (A5 te)) u≠none:=by
 obtain⟨i,k,j,g,e,a⟩:=Vy h;obtain⟨_,_,_,rfl,_,_⟩:=Wi ha;obtain⟨r,d,c,b,f⟩:=a.opens;exact gf (t:=⟨x.rows,x.cols++[v]⟩) d b f
theorem jL{te:EE}{x y:A1}{w:W}(h:Mi te x w=some y):(GZ te x w).isSome=true/\A2 (E9 te) (DU te) x=true/\A2 (E9 te) (DU te) y=true/\Bh (Ce te) (A7 (A5 te)) y=none/\x.rows <+: y.rows/\x.rows.length < y.rows.length/\∃v,y.cols=x.cols++[v]:=by
 rw [VC] at h
 cases hs:GZ te x w with
 | none=>rw [hs] at h;cases h
 | some v=>
  rw [hs] at h;have h:(MG te x v).bind (λu=>Hv te u)=some y:=h
  cases ha:MG te x v with
  | none=>rw [ha] at h;cases h
  | some u=>
   rw [ha] at h;have h:Hv te u=some y:=h;have b:=VB hs ha;obtain⟨i,_,_,rfl,a,_⟩:=Wi ha;obtain⟨g,f,e,d,c,j⟩:=fv a h;exact⟨rfl,i,g,f,e,c b,v,d⟩
abbrev IV:AX:=⟨0,[],[]⟩
abbrev EB(s:Sys)(p:AX)(al:Int):EE:=⟨false,IV,s,p,al⟩
noncomputable def Gt(s t:Sys)(p:AX)(al:Int)(a:AX):Option (W×Bool):=match DK s a p with
 | some u=>some (Dx (BU al u),true)
 | none=>match BV [t] a with
  | some v=>some (Dx (BU al v),false)
  | none=>none
noncomputable def BH(s:Sys)(p:AX)(al:Int)(x:A1):AX:=AZ (LS ⟨s,p,al⟩) al x
noncomputable def HR(s t:Sys)(p:AX)(al:Int)(x:A1):Option A1:=match Gt s t p al (BH s p al x) with
 | some (w,b)=>if (b || LS ⟨s,p,al⟩ w)=true then Mi (EB s p al) x w else none
 | none=>none
noncomputable def EJ(s t:Sys)(p:AX)(al:Int):Nat->A1->List A1
 | 0,x=>[x]
 | k+1,x=>x::match HR s t p al x with
  | some y=>EJ s t p al k y
  | none=>[]
structure Vd where
 code:Int
 a:AX
 tr:W
 rd:Int
noncomputable def Pn(s t:Sys)(p:AX)(al:Int)(x:A1)(r:Nat):Vd:=match Gt s t p al (BH s p al x) with
 | none=>⟨0,BH s p al x,[],r⟩
 | some (w,b)=>if (b || LS ⟨s,p,al⟩ w)=true then ⟨2,IV,[],r⟩ else ⟨1,IV,Oa (BV [s,t] p),r⟩
noncomputable def gO(s:Sys)(p:AX)(al:Int):A1:=(SU (EB s p al)).getD Bu
noncomputable def BL(s t:Sys)(p:AX)(al:Int):List A1:=EJ s t p al 11 (gO s p al)
noncomputable def BY(s t:Sys)(p:AX):Vd:=if AP s p t < 0 then ⟨3,IV,[],0⟩ else
 Pn s t p (AP s p t) ((BL s t p (AP s p t)).getLastD Bu) (BL s t p (AP s p t)).length
structure Hu (s:Sys) (p:AX) (al:Int) (x:A1) (r:Nat):Prop where
 v:A2 (E9 (EB s p al)) (DU (EB s p al)) x=true
 o:Bh (LS ⟨s,p,al⟩) (A7 al) x=none
 rows:r<=x.rows.length
 cols:x.cols.length=r
theorem NZ(s:Sys)(p:AX)(al:Int):Ce (EB s p al)=LS ⟨s,p,al⟩:=by
 funext w;unfold Ce;rw [if_neg o8]
theorem Fw(s:Sys)(p:AX)(al:Int):A5 (EB s p al)=al:=by
 unfold A5;rw [if_neg o8]
theorem TC{s:Sys}{p:AX}{al:Int}(h:Bg ⟨s,p,al⟩=true):SU (EB s p al)=some (gO s p al)/\Hu s p al (gO s p al) 1:=by
 have hk:CN (EB s p al)=true:=by unfold CN;rw [if_neg o8];exact h
 obtain⟨u,e,d,a,c,g,b,f⟩:=jq hk;unfold gO;rw [e];refine⟨rfl,d,?_,?_,by show u.cols.length=1;rw [c];rfl⟩
 ·rw [NZ,Fw] at a;exact a
 ·show 1<=u.rows.length
  have:=(ce.1 b.r0).1;omega
theorem SZ{s t:Sys}{p:AX}{al:Int}{x y:A1}{r:Nat}(a:Hu s p al x r)(h:HR s t p al x=some y):Hu s p al y (r+1)/\x.rows.length < y.rows.length:=by
 unfold HR at h;split at h
 ·split at h
  ·obtain⟨_,_,e,b,_,d,v,c⟩:=jL h
   have f:=a.rows;have g:=a.cols;rw [NZ,Fw] at b;exact⟨⟨e,b,by omega,by rw [c];simp;omega⟩,d⟩
  ·cases h
 ·cases h
theorem VE{s:Sys}{p:AX}{al:Int}{x:A1}{r:Nat}(b:Hu s p al x r):x.rows.length<=12/\r<=12:=by
 obtain⟨_,_,_,a,_⟩:=DA b.v;have:=a.rl;have:=b.rows;omega
theorem P7{s t:Sys}{p:AX}{al:Int}:∀(k:Nat) {x:A1} {r:Nat},Hu s p al x r->∀(i:Nat) (y:A1),(EJ s t p al k x)[i]? = some y->Hu s p al y (r+i)
 | 0,x,r,a,i,y,h=>by
  cases i with
  | zero=>simp [EJ] at h;subst h;exact a
  | succ i=>simp [EJ] at h
 | k + 1,x,r,a,i,y,h=>by
  cases i with
  | zero=>simp [EJ] at h;subst h;exact a
  | succ i=>
   simp only [EJ,qV] at h
   cases b:HR s t p al x with
   | none=>rw [b] at h;simp at h
   | some z=>
    rw [b] at h;have:=P7 k (SZ a b).1 i y h;rwa [show r+1+i=r+(i+1) by omega] at this
theorem eE{s t:Sys}{p:AX}{al:Int}(k:Nat)(x:A1):EJ s t p al k x≠[]:=by cases k<;>simp [EJ]
end Go.Am
