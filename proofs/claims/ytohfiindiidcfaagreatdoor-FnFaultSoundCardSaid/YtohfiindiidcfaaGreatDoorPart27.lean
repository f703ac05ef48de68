/-
  The closure under letters that are not seen: walked.
-/
import Derived.Test.YtohfiindiidcfaaGreatDoorPart25
set_option linter.all false
namespace Go.Am
open Go Go.Proofs
set_option maxHeartbeats 1000000
set_option maxRecDepth 4000
attribute [local irreducible] A8 Cq Lex Br Ai Spec
variable {TB:BA}
def Ns(F:PS):Nat:=(65535 - F 0)+(65535 - F 1)+(65535 - F 2)+(65535 - F 3)+(65535 - F 4)+(65535 - F 5)+(65535 - F 6)+(65535 - F 7)+(65535 - F 8)+(65535 - F 9)+(65535 - F 10)+(65535 - F 11)
theorem ZY{F G:PS}(j:∀p,F p < 65536)(a:∀p,G p < 65536)(h:∀p,F p<=G p)(b:bK G≠bK F):Ns G < Ns F:=by
 have k:¬Ns F<=Ns G:=λc=>b (VZ λp i=>by
  have K:=h 0;have J:=h 1;have I:=h 2;have H:=h 3;have B:=h 4;have A:=h 5;have z:=h 6;have y:=h 7;have x:=h 8;have w:=h 9;have g:=h 10;have f:=h 11;have v:=a 0;have u:=a 1;have t:=a 2;have s:=a 3;have r:=a 4;have q:=a 5;have o:=a 6;have n:=a 7;have m:=a 8;have l:=a 9;have e:=a 10;have d:=a 11;unfold Ns at c
  obtain rfl|rfl|rfl|rfl|rfl|rfl|rfl|rfl|rfl|rfl|rfl|rfl:p=0\/p=1\/p=2\/p=3\/p=4\/p=5\/p=6\/p=7\/p=8\/p=9\/p=10\/p=11:=by omega
  all_goals omega)
 omega
section
variable {t:Eh}(ht:BB t=true)
include ht
end
inductive Reach (t:Eh):PS->Prop
 | start:Reach t (DH t)
 | next {F:PS} {l:Int}:0<=l->l < 6->Reach t F->Reach t (FF t l F)
noncomputable def HF(t:Eh):PS->W->PS
 | F,[]=>F
 | F,c::w=>HF t (FF t ((c.toNat:Int) - 97) F) w
theorem RP{t:Eh}:∀(u v:W) (F:PS),HF t F (u++v)=HF t (HF t F u) v
 | [],v,F=>rfl
 | c::u,v,F=>by simp only [jT,HF];exact RP u v _
def iG(t:Eh)(ok:W->Prop)(F:PS):Prop:=F=DH t\/∃u v,ok (u++v)/\F=HF t (DH t) u
structure g8 (t:Eh) (ok:W->Prop) (m:gd):Prop where
 l1:m.nx.length=m.F.length
 l2:m.un.length=m.F.length
 nd:m.F.Nodup
 rc:∀F∈m.F,Reach t F
 rk:∀F∈m.F,iG t ok F
 un:∀(i:Nat) F,m.F[i]? = some F->m.un[i]? = some (IC t F)
 nx:∀(i:Nat) F,m.F[i]? = some F->∃r:List Int,m.nx[i]? = some r/\r.length=6/\∀l:Nat,l < 6->∃x,r[l]? = some x/\(x < 0\/∃j:Nat,x=j/\m.F[j]? = some (FF t l F))
def Ln(t:Eh)(F:PS)(k:Nat):Bool:=(List.range k).any λp=>decide (F p≠0) && !(t.q.ac.getD p false)
theorem SI{t:Eh}{F:PS}{k:Nat}:Ln t F (k+1)=(Ln t F k || (decide (F k≠0) && !(t.q.ac.getD k false))):=by
 unfold Ln;rw [kG,mA];simp
section
variable {P:Program}{Z:Ctx}{d:Option Tmp}{ty:TypeId}{pos:String}{af:Array Edge}{g:Option (Nat×Bool)}{f:Env}{σ:Ab}{nx:Nat}{t:TypeId}{n:Nat}{q:IntKind}{m e:TypeId}{x y:Operand}{id:Nat}{l:List (List Int×Int)}{s:List Int}
end
section
variable {P:Program}{Z:Ctx}{d:Option Tmp}{ty:TypeId}{pos:String}{af:Array Edge}{g:Option (Nat×Bool)}{f:Env}{σ:Ab}{nx:Nat}
variable {K:E->Ab->Nat->Prop}
end
theorem Nq{a b:Int}(ha:A3 a=true)(hb:A3 b=true):Ac (Mp .i64 a b)=(Ac a).filter λl=>!AP b l.toNat:=by
 have key:((List.range 64).all λx=>(List.range 64).all λy=>decide (Ac (Mp .i64 (x:Nat) (y:Nat))=(Ac (x:Nat)).filter λl=>!AP (y:Nat) l.toNat))=true:=by kernel_rfl
 unfold A3 at ha hb;simp only [decide_eq_true_eq] at ha hb;have d:=d8.1 key a.toNat (jj.2 (by omega));have c:=d8.1 d b.toNat (jj.2 (by omega));rw [lD ha.1,lD hb.1] at c;exact of_decide_eq_true c
abbrev Sh(t:Eh):List D:=[iD t.s.al,iD t.s.st,Em t.s.es,iD t.q.al,C7 t.q.nx,Gx t.q.ac,iD t.al]
abbrev QE(t:Eh):E:=.a ((Sh t).map .d)
def Jq(b:List UInt8)(p m:Int)(P:Sys->Prop)(x:E)(σ:Ab)(nx:Nat):Prop:=∃(p':Int) (s:Sys),(p<=p'/\p'<=p+m)/\P s/\x=Bx s/\σ=[(0,A5 b p')]/\nx=1
def gf(n:Int)(s:Sys):Prop:=s.st=n/\(∀e∈s.es,0<=e.t/\e.t < n)/\s.es.length<=400
theorem HR(b:List UInt8)(hb:b.length<=2000)(p:Int)(h0:0<=p/\p < 900000000)(al n few:Int)(hn:0<=n/\n<=8):Cr Tryz.prog TB 193 1 [(0,A5 b p)] 1 [.o (.ptr 0 2 0 0),eI .i64 al,eI .i64 n,eI .i64 few] (Jq b p 400 (gf n)):=by
 have X:(Ac al).length<=6:=AM al 6;refine Cr.Be (Cr.bH (m:=1) (ce rfl) Tryz.func193 rfl (by kernel_rfl) (ce rfl) ?_);intro Z a;(repeat first|refine tA rfl ?_ |refine aU rfl ?_ |apply Aa);(refine pW rfl ?_ rfl (by rfl);refine JN 2 3 116 rfl rfl rfl (by rfl) (by rfl) ?_);(repeat first|refine tA rfl ?_ |refine sP rfl (BM al) rfl ?_ |refine aU rfl ?_ |apply Aa);apply aB;refine aL (α:={s:Nat×Int×List DA // (s.1:Int)<=n/\(p<=s.2.1/\s.2.1<=p+48*s.1)/\(s.2.2.length:Int)<=s.2.1 - p/\∀e∈s.2.2,0<=e.t/\e.t < n}) [0,2,3,8,9,10] [1] rfl rfl (λs=>[(11,eI .i64 s.1.1)]) (λs=>[(0,A5 b s.1.2.1),(2,.cells 116 3 (s.1.2.2.map A4)),(3,.cells 25 3 [[.d (iD al),.d (iD n),.arr 2 3 0 s.1.2.2.length]])]) 4 (λs=>n.toNat - s.1.1) (⟨⟨0,p,[]⟩,by simp;omega⟩) a rfl (by (simp[cX,zC,a])) ?_;rintro⟨⟨k,q,es⟩,hk,P,F,K⟩;(try dsimp only[cA,cB]);have hk:(k:Int)<=n:=hk;have P:p<=q/\q<=p+48*k:=P;have F:(es.length:Int)<=q - p:=F;(repeat first|refine tM rfl ?_ |refine s2 rfl λ_ f=>?_ |refine aU rfl ?_ |apply Aa)
 ((refine aC rfl ?_ ?_<;>rintro⟨⟩);all_goals try (simp at f;done))
 ·have V : (k:Int) < n:=by (simp only[oZ] at *;omega)
  apply aK;refine aS (aB ?_);(repeat first|refine tX rfl ?_ |refine aU rfl ?_ |apply Aa);apply aB;refine aL (α:={s:Nat×Int×List DA // s.1<=(Ac al).length/\(q<=s.2.1/\s.2.1<=q+8*s.1)/\(s.2.2.length:Int)<=s.2.1 - p/\∀e∈s.2.2,0<=e.t/\e.t < n}) [0,2,3,8,9,10,11] [1] rfl rfl (λs=>[(12,eI .i64 s.1.1)]) (λs=>[(0,A5 b s.1.2.1),(2,.cells 116 3 (s.1.2.2.map A4)),(3,.cells 25 3 [[.d (iD al),.d (iD n),.arr 2 3 0 s.1.2.2.length]])]) 4 (λs=>(Ac al).length - s.1.1) (⟨⟨0,q,es⟩,by simp,by simp,F,K⟩) a rfl (by (simp[cX,zC,a])) ?_;rintro⟨⟨i,u,z⟩,hi,M,g,y⟩;(try dsimp only[cA,cB]);have hi:i<=(Ac al).length:=hi;have M:q<=u/\u<=q+8*i:=M;have g:(z.length:Int)<=u - p:=g;clear K F;(repeat first|refine sN rfl ?_ |refine tM rfl ?_ |refine s2 rfl λ_ f=>?_ |refine aU rfl ?_ |apply Aa)
  ((refine aC rfl ?_ ?_<;>rintro⟨⟩);all_goals try (simp at f;done))
  ·have B:i < (Ac al).length:=by (simp only[oZ] at *;omega)
   obtain⟨l,G⟩:=get_some B
   have Y:((Ac al).map Bm)[((i:Nat):Int).toNat]? = some (Bm l):=by rw [io];simp [G]
   apply aK;refine aS (aB ?_);(repeat first|refine tX rfl ?_ |refine aU rfl ?_ |apply Aa);apply aB;refine aL (α:={s:Nat×Int×List DA // (s.1:Int)<=n/\(u<=s.2.1/\s.2.1<=u+s.1)/\(s.2.2.length:Int)<=s.2.1 - p/\∀e∈s.2.2,0<=e.t/\e.t < n}) [0,2,3,8,9,10,11,12] [1] rfl rfl (λs=>[(13,eI .i64 s.1.1)]) (λs=>[(0,A5 b s.1.2.1),(2,.cells 116 3 (s.1.2.2.map A4)),(3,.cells 25 3 [[.d (iD al),.d (iD n),.arr 2 3 0 s.1.2.2.length]])]) 4 (λs=>n.toNat - s.1.1) (⟨⟨0,u,z⟩,by simp;omega,by simp,g,y⟩) a rfl (by (simp[cX,zC,a])) ?_;rintro⟨⟨j,v,h⟩,Q,L,w,x⟩;(try dsimp only[cA,cB]);have Q:(j:Int)<=n:=Q;have L:u<=v/\v<=u+j:=L;have w:(h.length:Int)<=v - p:=w;clear y g;(repeat first|refine tM rfl ?_ |refine s2 rfl λ_ f=>?_ |refine aU rfl ?_ |apply Aa)
   ((refine aC rfl ?_ ?_<;>rintro⟨⟩);all_goals try (simp at f;done))
   ·obtain⟨c,c1,c2,T⟩:=A1 (TB:=TB) b hb v few (by omega)
    have I:(j:Int) < n:=by (simp only[oZ] at *;omega)
    apply aK;refine aS (aB ?_);(repeat first|refine tA rfl ?_ |refine aU rfl ?_);(refine pW rfl ?_ rfl (by rfl);refine Af [0] rfl rfl (T) ⟨rfl,by decide,by decide⟩ rfl (by simp[cX,zC,a]) ?_;rintro x0 R S ⟨rfl,rfl,rfl⟩ _);(repeat first|refine s2 rfl λ_ f=>?_ |apply Aa);(refine aC rfl ?_ ?_<;>rintro⟨⟩)
    ·refine rG (IG [(1,13),(10,1),(12,1)]) (by kernel_rfl) ?_
     (repeat first|refine tA rfl ?_ |(refine s4 rfl ‹_› rfl ?_ ?_;omega)|(refine Av rfl ?_;refine gA rfl ?_;first| refine gS (λ_ _=>AS rfl rfl (by rfl) (by rfl)) ?_));(refine pW rfl ?_ rfl (by rfl);refine Aw rfl rfl rfl (by first| (simp;done)|(simp;(omega))) rfl (by intro r N;simp at N;subst N;rfl) (by rfl) (ce rfl) (by simp;omega) ?_);(repeat first|(refine sA rfl ?_ ?_;first|exact tI|omega) |refine aU rfl ?_ |apply Aa)
     have J:∀e∈h++[(⟨k,l,j⟩:DA)],0<=e.t/\e.t < n:=λe A=>by
      rcases f6.1 A with A|A
      ·exact x e A
      ·simp at A;subst A;exact⟨by dsimp only;omega,I⟩
     refine⟨⟨⟨j+1,v+1,h++[⟨k,l,j⟩]⟩,by dsimp only;omega,by dsimp only;omega,by simp;omega,J⟩,by dsimp only;(omega),[0,1,4,3],?_⟩;(simp[cX,zC,a,cN]<;>rfl)
    ·apply aK
     (repeat first|(refine sA rfl ?_ ?_;first|exact tI|omega) |refine aU rfl ?_ |apply Aa);refine⟨⟨⟨j+1,v+1,h⟩,by dsimp only;omega,by dsimp only;omega,by dsimp only;omega,x⟩,by dsimp only;(omega),[0,1,2,3],?_⟩;(simp[cX,zC,a,cN]<;>rfl)
   ·have H:(j:Int)=n:=by (simp only[oZ] at *;omega)
    apply aE;(repeat first|(refine sA rfl ?_ ?_;first|exact tI|omega) |refine aU rfl ?_ |apply Aa);refine⟨⟨⟨i+1,v,h⟩,by dsimp only;omega,by dsimp only;omega,w,x⟩,by dsimp only;(omega),[0,1,2,3],?_⟩;(simp[cX,zC,a,cN]<;>rfl)
  ·apply aE
   have B:i=(Ac al).length:=by (simp only[oZ] at *;omega)
   (repeat first|(refine sA rfl ?_ ?_;first|exact tI|omega) |refine aU rfl ?_ |apply Aa);refine⟨⟨⟨k+1,u,z⟩,by dsimp only;omega,by dsimp only;omega,g,y⟩,by dsimp only;(omega),[0,1,2,3],?_⟩;(simp[cX,zC,a,cN]<;>rfl)
 ·have H:(k:Int)=n:=by (simp only[oZ] at *;omega)
  apply aE;(repeat first|refine tA rfl ?_ |refine aU rfl ?_ |apply Aa);refine Ai.Az [1,2] [(8,.o (.ip [iD al,iD n,Em es]))] ⟨⟨_,rfl,.inr (.o (.box rfl (.cons .d (.cons .d (.cons (.full rfl (by simp [d5]) (by simp)) .nil)))))⟩,trivial⟩ ?_;refine aR ⟨_,rfl,[0],Bx ⟨al,n,es⟩,[(0,A5 b q)],⟨by intro i hi;match i with|0=>rfl,by decide⟩,rfl,by (simp[cX,zC,a,cN]),q,⟨al,n,es⟩,by omega,⟨rfl,K,by dsimp only;omega⟩,rfl,rfl,rfl⟩
def E5(al:Int)(w:W):Bool:=within w al && decide (w.length<=4000)
theorem Nj{t:Ez}{al:Int}{A:W->Bool}(e:IT Tryz.prog TB 123 170 t al A)(w:W)(c:w.length<=1099511627776):Pure Tryz.prog TB 184 [DU t,eT w] (eB (E5 al w)):=by
 have g:=e.alph;have f:=Dw (TB:=TB) w al c
 have d:E5 al w=(within w al && decide ((w.length:Int)<=4000)):=by unfold E5;congr 1;rw [decide_eq_decide];omega
 rw [d];refine eN Tryz.func184 rfl (by kernel_rfl) rfl ?_;intro Z b;(repeat' first|refine tA rfl ?_ |refine s2 rfl λ_ a=>?_ |refine sP rfl (g) rfl ?_|(refine sC rfl (f) ?_;intro _ a) |refine s3 rfl ?_ ?_<;>rintro rfl |refine aU rfl ?_ |apply Aa|(refine aC rfl ?_ ?_<;>rintro⟨⟩)|apply aK|apply aE|apply aB|refine aR ⟨_,rfl,?_⟩)
 all_goals (show E.o _=E.o _;congr;grind)
def AW(A:W->Bool)(al:Int)(t:Bb):Bool:=EW al t && decide (AY A t).Nodup
theorem ah{l:List W}{k:Nat}{x:W}(c:l[k]? = some x)(h:(l.take k).Nodup)(d:x∉l.take k):(l.take (k+1)).Nodup:=by
 rw [gc,c,kI];refine⟨h,by simp,λa ha b hb e=>?_⟩;simp at hb;subst hb;exact d (e ▸ ha)
theorem cW{l:List W}{k:Nat}{x:W}(a:l[k]? = some x)(b:x∈l.take k):¬l.Nodup:=by
 intro h;obtain⟨c,rfl⟩:=am.1 a;rw [<-jZ k l,kI] at h;exact h.2.2 _ b _ (by rw [lH c];exact kZ) rfl
theorem EB{t:Ez}{al:Int}{A:W->Bool}(q:IT Tryz.prog TB 123 170 t al A)(tab:Bb)(c:Sr tab):Pure Tryz.prog TB 166 [DU t,IY tab] (eB (AW A al tab)):=by
 have s:=q.alph;have r:=QT (TB:=TB) al tab c;have B:=I9 q tab.cols tab.rows c.cl (λw v=>by have:=c.rb w v;omega) c.cb c.rl;by_cases p:EW al tab=true
 ·have h:AW A al tab=decide (AY A tab).Nodup:=by unfold AW;rw [p];rfl
  rw [h];have n:Pure Tryz.prog TB 124 [DU t,BP tab.cols,BP tab.rows] (BP (AY A tab)):=B
  have z:(AY A tab).length=tab.rows.length:=by simp [AY]
  have y:=c.rl;generalize AY A tab=l at *;refine eN Tryz.func166 rfl (by kernel_rfl) rfl ?_;intro Z b;(repeat' first|refine tA rfl ?_ |refine s2 rfl λ_ a=>?_ |refine sP rfl (s) rfl ?_|(refine sC rfl (r) ?_;intro _ a)|refine sP rfl (n) rfl ?_ |refine aU rfl ?_ |apply Aa |refine rE (by kernel_rfl) ?_|(refine aC rfl ?_ ?_<;>rintro⟨⟩)|apply aK|apply aE|apply aB|refine aR ⟨_,rfl,?_⟩)
  all_goals first
   | (exfalso;grind;done)
   | skip
  refine aL (α:={k:Nat // k<=l.length/\(l.take k).Nodup}) [5] [] rfl rfl (λ⟨k,hk,e⟩=>[(6,eI .i64 k)]) (λ⟨k,hk,e⟩=>[]) 0 (λ⟨k,hk,e⟩=>l.length - k) (⟨0,by omega,by simp⟩) b rfl (by (simp[cX,zC,b])) ?_;rintro⟨k,hk,e⟩;(try dsimp only[cA,cB]);by_cases j:k < l.length
  ·obtain⟨x,f⟩:=get_some j
   have u:=get_map (g:=C0) f
   have m:Pure Tryz.prog TB 187 [.o (.d (.l ((l.map C0).take ((k:Nat):Int).toNat))),eT x] (eB (decide (x∈l.take k))):=by
    rw [io,<-mh];exact HP _ _ (by simp;omega)
   (repeat first|refine sN rfl ?_ |refine tA rfl ?_ |refine s2 rfl λ_ a=>?_ |refine aU rfl ?_ |apply Aa);(refine aC rfl ?_ ?_<;>rintro⟨⟩)
   ·(repeat' first|(refine sA rfl ?_ ?_;first|exact tI|omega) |(refine s4 rfl ‹_› rfl ?_ ?_;omega) |(refine sC rfl (m) ?_;intro _ a)|(refine Av rfl ?_;refine gA rfl ?_;first| refine gS (λ_ _=>MA rfl rfl (by simp) (by omega) (by (simp only[oZ] at *;omega))) ?_) |refine aU rfl ?_ |apply Aa |refine rE (by kernel_rfl) ?_|(refine aC rfl ?_ ?_<;>rintro⟨⟩)|apply aK|apply aE|apply aB|refine aR ⟨_,rfl,?_⟩)
    ·show eB false=eB _
     rw [decide_eq_false (cW f (by simpa using a))]
    ·have i:=ah f e (by simpa using a)
     refine⟨⟨k+1,by omega,i⟩,by dsimp only;(omega),[],?_⟩;simp[cX,zC,b]
   ·exfalso;(simp only[oZ] at *;omega)
  ·rw [iY (by omega)] at e
   (repeat first|refine sN rfl ?_ |refine tA rfl ?_ |refine s2 rfl λ_ a=>?_ |refine aU rfl ?_ |apply Aa);(refine aC rfl ?_ ?_<;>rintro⟨⟩)
   ·exfalso;(simp only[oZ] at *;omega)
   ·(repeat' first|refine tA rfl ?_ |refine aU rfl ?_ |apply Aa|(refine aC rfl ?_ ?_<;>rintro⟨⟩)|apply aK|apply aE|apply aB|refine aR ⟨_,rfl,?_⟩)
    rw [decide_eq_true e]
 ·have h:AW A al tab=false:=by unfold AW;simp [p]
  rw [h];refine eN Tryz.func166 rfl (by kernel_rfl) rfl ?_;intro Z b;(repeat' first|refine tA rfl ?_ |refine s2 rfl λ_ a=>?_ |refine sP rfl (s) rfl ?_|(refine sC rfl (r) ?_;intro _ a) |refine aU rfl ?_ |apply Aa |refine rE (by kernel_rfl) ?_|(refine aC rfl ?_ ?_<;>rintro⟨⟩)|apply aK|apply aE|apply aB|refine aR ⟨_,rfl,?_⟩)
  all_goals first
   | rfl
   | (exfalso;grind;done)
theorem I8{t:Ez}{al:Int}{A:W->Bool}(G:IT Tryz.prog TB 123 170 t al A)(tab:Bb)(h:Sr tab):Pure Tryz.prog TB 167 [DU t,IY tab] (ZF (Bg A (BE al) tab)):=by
 have P:=G.alph;have N:=BM (TB:=TB) al;have M:Pure Tryz.prog TB 124 [DU t,BP tab.cols,BP tab.rows] (BP (AY A tab)):=I9 G tab.cols tab.rows h.cl (λw f=>by have:=h.rb w f;omega) h.cb h.rl;have I:=h.rl;have K:(Ac al).length<=6:=AM al 6;refine eN Tryz.func167 rfl (by kernel_rfl) rfl ?_;intro Z a;(repeat' first|refine tA rfl ?_ |refine sP rfl (P) rfl ?_|refine sP rfl (N) rfl ?_|refine sP rfl (M) rfl ?_ |refine aU rfl ?_ |apply Aa|(refine aC rfl ?_ ?_<;>rintro⟨⟩)|apply aK|apply aE|apply aB|refine aR ⟨_,rfl,?_⟩);refine aL (α:={k:Nat // k<=tab.rows.length/\∀w∈CR (BE al) (tab.rows.take k),marks A tab.cols w∈AY A tab}) [2,3,6,7] [] rfl rfl (λ⟨k,hk,b⟩=>[(8,eI .i64 k)]) (λ⟨k,hk,b⟩=>[]) 0 (λ⟨k,hk,b⟩=>tab.rows.length - k) (⟨0,by omega,by simp [CR]⟩) a rfl (by (simp[cX,zC,a])) ?_;rintro⟨k,hk,b⟩;(try dsimp only[cA,cB]);by_cases v:k < tab.rows.length
 ·obtain⟨r, d⟩:=get_some v
  have H:=get_map (g:=C0) d;have J:=h.rb r (co d);(repeat first|refine sN rfl ?_ |refine tA rfl ?_ |refine s2 rfl λ_ e=>?_ |refine aU rfl ?_ |apply Aa);(refine aC rfl ?_ ?_<;>rintro⟨⟩)
  ·apply aK
   refine aS (aB ?_);(repeat first|refine tA rfl ?_ |refine aU rfl ?_ |apply Aa);apply aB;refine aL (α:={j:Nat // j<=(Ac al).length/\∀x∈(BE al).take j,marks A tab.cols (r++[x])∈AY A tab}) [2,3,6,7,8] [] rfl rfl (λ⟨j,B,c⟩=>[(9,eI .i64 j)]) (λ⟨j,B,c⟩=>[]) 0 (λ⟨j,B,c⟩=>(Ac al).length - j) (⟨0,by omega,by simp⟩) a rfl (by (simp[cX,zC,a])) ?_;rintro⟨j,B,c⟩;(try dsimp only[cA,cB]);by_cases p:j < (Ac al).length
   ·obtain⟨l,z⟩:=get_some p
    have L:=get_map (g:=Bm) z;have y:=Au (co z)
    have n:(BE al)[j]? = some (lb l):=by simp [BE,z]
    have u:Pure Tryz.prog TB 127 [eI .i64 l] (eT [lb l]):=GH l y.1 (by omega);have m:=KK G tab.cols (r++[lb l]) h.cl (by simp;omega) h.cb;have F:=HP (TB:=TB) (AY A tab) (marks A tab.cols (r++[lb l])) (by simp [AY];omega);(repeat first|refine sN rfl ?_ |refine tA rfl ?_ |refine s2 rfl λ_ e=>?_ |refine aU rfl ?_ |apply Aa);(refine aC rfl ?_ ?_<;>rintro⟨⟩)
    ·(repeat' first|(refine sA rfl ?_ ?_;first|exact tI|omega|simp only[oZ] at *;omega) |(refine s4 rfl ‹_› rfl ?_ ?_;omega) |refine s2 rfl λ_ e=>?_ |refine sP rfl (u) rfl ?_|refine sP rfl (m) rfl ?_|(refine sC rfl (F) ?_;intro _ e) |refine aU rfl ?_ |apply Aa |refine rE (by kernel_rfl) ?_|(refine aC rfl ?_ ?_<;>rintro⟨⟩)|apply aK|apply aE|apply aB|refine aR ⟨_,rfl,?_⟩)
     ·have hno:marks A tab.cols (r++[lb l])∉AY A tab:=by grind
      rw [av d n b c hno];rfl
     ·have i:marks A tab.cols (r++[lb l])∈AY A tab:=by grind
      have q:∀x∈(BE al).take (j+1),marks A tab.cols (r++[x])∈AY A tab:=λx d=>by
       rw [gc,n] at d
       rcases f6.1 d with d|d
       ·exact c x d
       ·simp at d;subst d;exact i
      refine⟨⟨j+1,by omega,q⟩,by dsimp only;(omega),[],?_⟩;simp[cX,zC,a]
    ·exfalso;(simp only[oZ] at *;omega)
   ·have o:∀w∈CR (BE al) (tab.rows.take (k+1)),marks A tab.cols w∈AY A tab:=λw f=>by
     rw [TA d] at f
     rcases f6.1 f with f|f
     ·exact b w f
     ·obtain⟨x,s,rfl⟩:=f7.1 f
      exact c x (by rw [iY (by simp [BE];omega)];exact s)
    (repeat first|refine sN rfl ?_ |refine tA rfl ?_ |refine s2 rfl λ_ e=>?_ |refine aU rfl ?_ |apply Aa);(refine aC rfl ?_ ?_<;>rintro⟨⟩)
    ·exfalso;(simp only[oZ] at *;omega)
    ·(repeat' first|(refine sA rfl ?_ ?_;first|exact tI|omega) |refine aU rfl ?_ |apply Aa|(refine aC rfl ?_ ?_<;>rintro⟨⟩)|apply aK|apply aE|apply aB|refine aR ⟨_,rfl,?_⟩)
     refine⟨⟨k+1,by omega,o⟩,by dsimp only;(omega),[],?_⟩;simp[cX,zC,a]
  ·exfalso;(simp only[oZ] at *;omega)
 ·have hno:Bg A (BE al) tab=none:=lN.2 λw f=>by
   have:=b w (by rw [iY (by omega)];exact f)
   simpa using this
  rw [hno];(repeat first|refine sN rfl ?_ |refine tA rfl ?_ |refine s2 rfl λ_ e=>?_ |refine aU rfl ?_ |apply Aa);(refine aC rfl ?_ ?_<;>rintro⟨⟩)
  ·exfalso;(simp only[oZ] at *;omega)
  ·(repeat' first|refine tA rfl ?_ |refine aU rfl ?_ |apply Aa|(refine aC rfl ?_ ?_<;>rintro⟨⟩)|apply aK|apply aE|apply aB|refine aR ⟨_,rfl,?_⟩)
   rfl
theorem Om{t:Ez}{al:Int}{A:W->Bool}(e:IT Tryz.prog TB 123 170 t al A)(tab:Bb)(c:Sr tab):Pure Tryz.prog TB 168 [DU t,IY tab] (ZF (if AW A al tab then Bg A (BE al) tab else none)):=by
 have g:=EB e tab c;have f:=I8 e tab c;by_cases d:AW A al tab=true
 ·rw [if_pos d]
  cases h:Bg A (BE al) tab<;>rw [h] at f<;>(
   refine eN Tryz.func168 rfl (by kernel_rfl) rfl ?_;intro Z b;(repeat' first|refine tA rfl ?_ |refine s2 rfl λ_ a=>?_ |(refine sC rfl (g) ?_;intro _ a)|refine sP rfl (f) rfl ?_ |refine aU rfl ?_ |apply Aa|(refine aC rfl ?_ ?_<;>rintro⟨⟩)|apply aK|apply aE|apply aB|refine aR ⟨_,rfl,?_⟩)
   all_goals first
    | rfl
    | (exfalso;grind;done))
 ·rw [if_neg d]
  refine eN Tryz.func168 rfl (by kernel_rfl) rfl ?_;intro Z b;(repeat' first|refine tA rfl ?_ |refine s2 rfl λ_ a=>?_ |(refine sC rfl (g) ?_;intro _ a) |refine aU rfl ?_ |apply Aa|(refine aC rfl ?_ ?_<;>rintro⟨⟩)|apply aK|apply aE|apply aB|refine aR ⟨_,rfl,?_⟩)
  all_goals first
   | rfl
   | (exfalso;grind;done)
def Bp(A:W->Bool)(al:Int)(t:Bb):Bool:=AW A al t && (Bg A (BE al) t).isNone
theorem NX{t:Ez}{al:Int}{A:W->Bool}(g:IT Tryz.prog TB 123 170 t al A)(tab:Bb)(f:Sr tab):Pure Tryz.prog TB 122 [DU t,IY tab] (eB (Bp A al tab)):=by
 have h:=EB g tab f;have b:=Om g tab f;by_cases c:AW A al tab=true
 ·rw [if_pos c] at b
  have e:Bp A al tab=(Bg A (BE al) tab).isNone:=by unfold Bp;rw [c];rfl
  rw [e]
  cases i:Bg A (BE al) tab<;>rw [i] at b<;>(
   refine eN Tryz.func122 rfl (by kernel_rfl) rfl ?_;intro Z d;(repeat' first|refine tA rfl ?_ |refine s2 rfl λ_ a=>?_ |(refine sC rfl (h) ?_;intro _ a)|refine sP rfl (b) rfl ?_ |refine s3 rfl ?_ ?_<;>rintro rfl |refine aU rfl ?_ |apply Aa|(refine aC rfl ?_ ?_<;>rintro⟨⟩)|apply aK|apply aE|apply aB|refine aR ⟨_,rfl,?_⟩)
   all_goals first
    | rfl
    | (exfalso;grind;done)
    | (show E.o _=E.o _;congr;first| grind|(simp at *;assumption)))
 ·rw [if_neg c] at b
  have e:Bp A al tab=false:=by unfold Bp;simp [c]
  rw [e];refine eN Tryz.func122 rfl (by kernel_rfl) rfl ?_;intro Z d;(repeat' first|refine tA rfl ?_ |refine s2 rfl λ_ a=>?_ |(refine sC rfl (h) ?_;intro _ a)|refine sP rfl (b) rfl ?_ |refine s3 rfl ?_ ?_<;>rintro rfl |refine aU rfl ?_ |apply Aa|(refine aC rfl ?_ ?_<;>rintro⟨⟩)|apply aK|apply aE|apply aB|refine aR ⟨_,rfl,?_⟩)
  all_goals first
   | rfl
   | (exfalso;grind;done)
theorem cP{l:List W}{s:W}{k:Nat}(a:l[k]? = some s)(b:s∉l.take k):l.idxOf s=k:=by
 have c:k < l.length:=(am.1 a).1
 have e:l=l.take k++s::l.drop (k+1):=by rw [<-BF a,jZ]
 rw [e,List.idxOf_append,if_neg b,List.idxOf_cons_self];simp;omega
theorem QS(l:List W)(s:W)(m:s∈l)(o:l.length<=1099511627776):Pure Tryz.prog TB 125 [BP l,eT s] (eI .i64 (l.idxOf s:Nat)):=by
 refine eN Tryz.func125 rfl (by kernel_rfl) rfl ?_;intro Z a;(repeat first|refine tA rfl ?_ |refine aU rfl ?_ |apply Aa);apply aB;refine aL (α:={k:Nat // k<=l.length/\s∉l.take k}) [0,1] [] rfl rfl (λ⟨k,hk,b⟩=>[(5,eI .i64 k)]) (λ⟨k,hk,b⟩=>[]) 0 (λ⟨k,hk,b⟩=>l.length - k) (⟨0,by omega,by simp⟩) a rfl (by (simp[cX,zC,a])) ?_;rintro⟨k,hk,b⟩;(try dsimp only[cA,cB])
 have i:k < l.length:=by
  rcases jB k l.length with h|h
  ·exact h
  ·rw [iY h] at b;exact absurd m b
 obtain⟨x,d⟩:=get_some (l:=l) (k:=k) i;have j:=get_map (g:=C0) d;by_cases e:x=s
 ·subst e
  have n:=cP d b;rw [n];(repeat first|refine tA rfl ?_ |(refine s4 rfl ‹_› rfl ?_ ?_;omega) |refine s2 rfl λ_ c=>?_ |refine aU rfl ?_ |apply Aa);(refine aC rfl ?_ ?_<;>rintro⟨⟩)
  ·exfalso;simp at c
  ·(repeat' first|refine tA rfl ?_ |refine aU rfl ?_ |apply Aa|(refine aC rfl ?_ ?_<;>rintro⟨⟩)|apply aK|apply aE|apply aB|refine aR ⟨_,rfl,?_⟩)
   rfl
 ·have f:s∉l.take (k+1):=by
   rw [gc,d];intro h
   rcases f6.1 h with h|h
   ·exact b h
   ·simp at h;exact e h.symm
  (repeat first|refine tA rfl ?_ |(refine s4 rfl ‹_› rfl ?_ ?_;omega) |refine s2 rfl λ_ c=>?_ |refine aU rfl ?_ |apply Aa);(refine aC rfl ?_ ?_<;>rintro⟨⟩)
  ·(repeat' first|(refine sA rfl ?_ ?_;first|exact tI|omega) |refine aU rfl ?_ |apply Aa|(refine aC rfl ?_ ?_<;>rintro⟨⟩)|apply aK|apply aE|apply aB|refine aR ⟨_,rfl,?_⟩)
   refine⟨⟨k+1,by omega,f⟩,by dsimp only;(omega),[],?_⟩;simp[cX,zC,a]
  ·exfalso;simp [e] at c
def hX(m:Int)(s:Sys):Prop:=(∀e∈s.es,0<=e.t/\e.t < m)/\s.es.length<=400
theorem gf.le{n m:Int}{s:Sys}(h:gf n s)(b:n<=m):hX m s:=⟨λe a=>by have:=h.2.1 e a;omega,h.2.2⟩
theorem Nk(b:List UInt8)(hb:b.length<=2000)(p:Int)(x:0<=p/\p < 800000000):Spec Tryz.prog TB 150 [(0,A5 b p)] 1 [.o (.ptr 0 2 0 0)] (Jq b p 403 (hX 5)):=by
 obtain⟨j,v,r⟩:=Cn (TB:=TB) b hb p (by omega) [3,6,7,5,2] (by decide) (by decide);obtain⟨g,l,n⟩:=Cn (TB:=TB) b hb (p+1) (by omega) [2,3,1,3] (by decide) (by decide);obtain⟨h,u,m⟩:=Cn (TB:=TB) b hb (p+1+1) (by omega) [2,3,4] (by decide) (by decide)
 have k:1<=g/\g<=3:=by simp at l;omega
 have f:=HR (TB:=TB) b hb (p+1+1+1) (by omega) j g h (by omega);refine eR Tryz.func150 rfl (by kernel_rfl) rfl ?_;intro Z a;(repeat first|refine tA rfl ?_ |refine aU rfl ?_ |apply Aa);(refine pW rfl ?_ rfl (by rfl);refine Af [0] rfl rfl (r) ⟨rfl,by decide,by decide⟩ rfl (by simp[cX,zC,a]) ?_;rintro e c d ⟨rfl,rfl,rfl⟩ _);(repeat first|refine tA rfl ?_);(refine pW rfl ?_ rfl (by rfl);refine Af [0] rfl rfl (n) ⟨rfl,by decide,by decide⟩ rfl (by simp[cX,zC,a]) ?_;rintro e c d ⟨rfl,rfl,rfl⟩ _);(repeat first|refine tA rfl ?_);(refine pW rfl ?_ rfl (by rfl);refine Af [0] rfl rfl (m) ⟨rfl,by decide,by decide⟩ rfl (by simp[cX,zC,a]) ?_;rintro e c d ⟨rfl,rfl,rfl⟩ _);(refine pW rfl ?_ rfl (by rfl);refine Dh [0] rfl rfl 1 (f) (by decide) ⟨rfl,by decide,by decide⟩ rfl (by simp[cX,zC,a,cN]) ?_;rintro e c d ⟨q,s,w,t,rfl,rfl,rfl⟩ _);(repeat first|refine tA rfl ?_ |apply Aa);refine aR ⟨_,rfl,[0],Bx s,[(0,A5 b q)],⟨by intro i hi;match i with|0=>rfl,by decide⟩,rfl,by (simp[cX,zC,a,cN]),q,s,by omega,t.le (by omega),rfl,rfl,rfl⟩
theorem VK(b:List UInt8)(hb:b.length<=2000)(p:Int)(j:0<=p/\p < 800000000):∃n:Int,Spec Tryz.prog TB 195 [(0,A5 b p)] 1 [.o (.ptr 0 2 0 0)] (λx σ nx=>x=eI .i64 n/\σ=[(0,A5 b (p+1))]/\nx=1):=by
 obtain⟨e,h,f⟩:=Cn (TB:=TB) b hb p (by omega) [3,7,1,5,0,6,63,2,21] (by decide) (by decide);refine⟨e,?_⟩;refine eR Tryz.func195 rfl (by kernel_rfl) rfl ?_;intro Z a;(repeat first|refine tA rfl ?_ |refine aU rfl ?_ |apply Aa);(refine pW rfl ?_ rfl (by rfl);refine Af [0] rfl rfl (f) ⟨rfl,by decide,by decide⟩ rfl (by simp[cX,zC,a]) ?_;rintro g c d ⟨rfl,rfl,rfl⟩ _);(repeat first|refine tA rfl ?_ |apply Aa);refine aR ⟨_,rfl,?_⟩;refine⟨[0],_,[(0,A5 b (p+1))],⟨by first|(simp;done)|decide|(intro i hi;match i with|0=>rfl),by decide⟩,rfl,by (simp[cX,zC,a]),rfl,rfl,rfl⟩
theorem Ot(b:List UInt8)(hb:b.length<=2000)(p:Int)(Q:0<=p/\p < 700000000)(al:Int):Spec Tryz.prog TB 152 [(0,A5 b p)] 1 [.o (.ptr 0 2 0 0),eI .i64 al] (HI b p 100 (λa=>HG 6 a)):=by
 obtain⟨v,P,I⟩:=Cn (TB:=TB) b hb p (by omega) [63,63,5,3,6] (by decide) (by decide);obtain⟨c,S,R,K⟩:=A1 (TB:=TB) b hb (p+1) 8 (by omega);obtain⟨H,J⟩:=VK (TB:=TB) b hb (p+1+1) (by omega);refine eR Tryz.func152 rfl (by kernel_rfl) rfl ?_;intro Z e;(repeat first|refine tA rfl ?_ |refine aU rfl ?_ |apply Aa);(refine pW rfl ?_ rfl (by rfl);refine Af [0] rfl rfl (I) ⟨rfl,by decide,by decide⟩ rfl (by simp[cX,zC,e]) ?_;rintro h f g ⟨rfl,rfl,rfl⟩ _);(repeat first|refine tA rfl ?_ |refine aU rfl ?_ |apply Aa);(refine pW rfl ?_ rfl (by rfl);refine Af [0] rfl rfl (K) ⟨rfl,by decide,by decide⟩ rfl (by simp[cX,zC,e]) ?_;rintro h f g ⟨rfl,rfl,rfl⟩ _);(repeat first|refine s2 rfl λ_ u=>?_ |apply Aa);(refine aC rfl ?_ ?_<;>rintro⟨⟩)
 ·(repeat first|refine tA rfl ?_ |refine aU rfl ?_)
  (refine pW rfl ?_ rfl (by rfl);refine Af [0] rfl rfl (J) ⟨rfl,by decide,by decide⟩ rfl (by simp[cX,zC,e]) ?_;rintro h f g ⟨rfl,rfl,rfl⟩ _);(repeat first|refine tA rfl ?_ |refine aU rfl ?_ |apply Aa);obtain⟨N,M,L,m⟩:=A1 (TB:=TB) b hb (p+1+1+1) 4 (by omega);obtain⟨k,x,y⟩:=Cn (TB:=TB) b hb (p+1+1+1+1) (by omega) [3,2,4,1] (by decide) (by decide)
  have w:1<=k/\k<=4:=by simp at x;omega
  have G:=KN (TB:=TB) b hb (p+1+1+1+1+1) (by omega) (H) k (by omega);have F:=GI (TB:=TB) b hb (p+1+1+1+1) (by omega) (H)
  obtain⟨j,rfl⟩:∃j,j=H:=⟨_,rfl⟩
  (refine pW rfl ?_ rfl (by rfl);refine Af [0] rfl rfl (m) ⟨rfl,by decide,by decide⟩ rfl (by simp[cX,zC,e]) ?_;rintro h f g ⟨rfl,rfl,rfl⟩ _);(repeat first|refine s2 rfl λ_ u=>?_ |apply Aa);(refine aC rfl ?_ ?_<;>rintro⟨⟩)
  ·(repeat first|refine tA rfl ?_ |refine aU rfl ?_)
   (refine pW rfl ?_ rfl (by rfl);refine Af [0] rfl rfl (y) ⟨rfl,by decide,by decide⟩ rfl (by simp[cX,zC,e]) ?_;rintro h f g ⟨rfl,rfl,rfl⟩ _);(refine pW rfl ?_ rfl (by rfl);refine Dh [0] rfl rfl 1 (G) (by decide) ⟨rfl,by decide,by decide⟩ rfl (by simp[cX,zC,e,cN]) ?_;rintro h f g ⟨q,l,ac,A,B,n,z,rfl,rfl,rfl⟩ _);(repeat first|refine tA rfl ?_ |apply Aa);refine Ai.Ay [4] [] rfl rfl [] [(0,A5 b q),(1,.cells 29 3 [[.d (iD j),.arr 2 1 0 l.length,.arr 3 1 0 ac.length]]),(2,.cells 64 1 (AE l)),(3,.cells 4 1 (ac.map AZ)),(4,.sld 3 (sI l))] [0,1,2,3,4] (rl e rfl) (by (simp[cX,zC,e,cN])) ?_;(try dsimp only[cA,cB]);refine Ai.Az [1,2,3,4] [(4,.o (.ip (AF ⟨j,l.map (·.2),ac⟩)))] ⟨⟨_,rfl,.inr (.o (.box rfl (.cons .d (.cons (.Mu (s:=4) rfl rfl) (.cons (.full rfl (by simp [d5]) (by simp)) .nil)))))⟩,trivial⟩ ?_;refine aR ⟨_,rfl,[0],Bj ⟨j,l.map (·.2),ac⟩,[(0,A5 b q)],⟨by intro i hi;match i with|0=>rfl,by decide⟩,rfl,by (simp[cX,zC,e,cN]),q,_,by omega,PT B n z (by omega) (by omega),rfl,rfl,rfl⟩
  ·apply aK
   (repeat first|refine tA rfl ?_ |refine aU rfl ?_);(refine pW rfl ?_ rfl (by rfl);refine Af [0] rfl rfl (F) ⟨rfl,by decide,by decide⟩ rfl (by simp[cX,zC,e,cN]) ?_;rintro h f g ⟨q,t,A,r,rfl,rfl,rfl⟩ _);(repeat first|refine tA rfl ?_ |apply Aa);refine aR ⟨_,rfl,[0],Bj t,[(0,A5 b q)],⟨by intro i hi;match i with|0=>rfl,by decide⟩,rfl,by (simp[cX,zC,e,cN]),q,t,by omega,r.2,rfl,rfl,rfl⟩
 ·apply aK
  (repeat first|refine tA rfl ?_ |refine aU rfl ?_);obtain⟨N,M,L,m⟩:=A1 (TB:=TB) b hb (p+1+1) 4 (by omega);obtain⟨k,x,y⟩:=Cn (TB:=TB) b hb (p+1+1+1) (by omega) [3,2,4,1] (by decide) (by decide)
  have w:1<=k/\k<=4:=by simp at x;omega
  have G:=KN (TB:=TB) b hb (p+1+1+1+1) (by omega) (ES .i64 al v) k (by omega);have F:=GI (TB:=TB) b hb (p+1+1+1) (by omega) (ES .i64 al v);generalize ES .i64 al v=j at *;(refine pW rfl ?_ rfl (by rfl);refine Af [0] rfl rfl (m) ⟨rfl,by decide,by decide⟩ rfl (by simp[cX,zC,e]) ?_;rintro h f g ⟨rfl,rfl,rfl⟩ _);(repeat first|refine s2 rfl λ_ u=>?_ |apply Aa);(refine aC rfl ?_ ?_<;>rintro⟨⟩)
  ·(repeat first|refine tA rfl ?_ |refine aU rfl ?_)
   (refine pW rfl ?_ rfl (by rfl);refine Af [0] rfl rfl (y) ⟨rfl,by decide,by decide⟩ rfl (by simp[cX,zC,e]) ?_;rintro h f g ⟨rfl,rfl,rfl⟩ _);(refine pW rfl ?_ rfl (by rfl);refine Dh [0] rfl rfl 1 (G) (by decide) ⟨rfl,by decide,by decide⟩ rfl (by simp[cX,zC,e,cN]) ?_;rintro h f g ⟨q,l,ac,A,B,n,z,rfl,rfl,rfl⟩ _);(repeat first|refine tA rfl ?_ |apply Aa);refine Ai.Ay [4] [] rfl rfl [] [(0,A5 b q),(1,.cells 29 3 [[.d (iD j),.arr 2 1 0 l.length,.arr 3 1 0 ac.length]]),(2,.cells 64 1 (AE l)),(3,.cells 4 1 (ac.map AZ)),(4,.sld 3 (sI l))] [0,1,2,3,4] (rl e rfl) (by (simp[cX,zC,e,cN])) ?_;(try dsimp only[cA,cB]);refine Ai.Az [1,2,3,4] [(4,.o (.ip (AF ⟨j,l.map (·.2),ac⟩)))] ⟨⟨_,rfl,.inr (.o (.box rfl (.cons .d (.cons (.Mu (s:=4) rfl rfl) (.cons (.full rfl (by simp [d5]) (by simp)) .nil)))))⟩,trivial⟩ ?_;refine aR ⟨_,rfl,[0],Bj ⟨j,l.map (·.2),ac⟩,[(0,A5 b q)],⟨by intro i hi;match i with|0=>rfl,by decide⟩,rfl,by (simp[cX,zC,e,cN]),q,_,by omega,PT B n z (by omega) (by omega),rfl,rfl,rfl⟩
  ·apply aK
   (repeat first|refine tA rfl ?_ |refine aU rfl ?_);(refine pW rfl ?_ rfl (by rfl);refine Af [0] rfl rfl (F) ⟨rfl,by decide,by decide⟩ rfl (by simp[cX,zC,e,cN]) ?_;rintro h f g ⟨q,t,A,r,rfl,rfl,rfl⟩ _);(repeat first|refine tA rfl ?_ |apply Aa);refine aR ⟨_,rfl,[0],Bj t,[(0,A5 b q)],⟨by intro i hi;match i with|0=>rfl,by decide⟩,rfl,by (simp[cX,zC,e,cN]),q,t,by omega,r.2,rfl,rfl,rfl⟩
theorem Ts{es:List DA}{l:Int}{m k:Nat}{e:DA}(a:es[k]? = some e):BW (es.take (k+1)) l m=if e.l=l/\m.testBit e.f.toNat=true then BW (es.take k) l m ||| 2 ^ e.t.toNat else BW (es.take k) l m:=by
 unfold BW;rw [gc,a,ms];rfl
theorem Rp{s:Sys}(a:AR s=true){l:Int}{m k:Nat}:BW (s.es.take k) l m < 65536:=Mk λj b=>by
 obtain⟨e,c,_,rfl⟩:=Fc.1 b;have hb:=Dc a (jg c);have d:=AJ a;unfold Dn at hb;simp only [d4,decide_eq_true_eq] at hb;omega
theorem ON{s:Sys}(o:AR s=true)(l:Int){m:Nat}(F:m < 65536):Pure Tryz.prog TB 201 [Bx s,eI .i64 (m:Nat),eI .i64 l] (eI .i64 (BW s.es l m:Nat)):=by
 have G:=AJ o;refine eG Tryz.func201 rfl (by kernel_rfl) rfl ?_;intro Z d;refine Ai.bound 0 rfl λw=>?_;have B:=w (s.es.map CL) ⟨2,_,rfl,.refl⟩;rw [gt] at B;(repeat first|refine tA rfl ?_ |refine aU rfl ?_ |apply Aa);apply aB;refine aL (α:={k:Nat // k<=s.es.length}) [1,2,3] [] rfl rfl (λ⟨k,hk⟩=>[(7,eI .i64 (BW (s.es.take k) l m:Nat)),(8,eI .i64 k)]) (λ⟨k,hk⟩=>[]) 0 (λ⟨k,hk⟩=>s.es.length - k) (⟨0,by omega⟩) d rfl (by (simp[cX,zC,d]<;>rfl)) ?_;rintro⟨k,hk⟩;(try dsimp only[cA,cB]);by_cases q:k < s.es.length
 ·obtain⟨e,u⟩:=get_some q
  have r:=get_map (g:=CL) u
  have A:(s.es.map CL)[((k:Nat):Int).toNat]? = some (CL e):=by rw [io];exact r
  have hb:=Dc o (co u);unfold Dn at hb;simp only [d4,decide_eq_true_eq] at hb;have i:=Ts (l:=l) (m:=m) u;have x:=Rp o (l:=l) (m:=m) (k:=k);have j:=Cv (TB:=TB) (m:Nat) e.f (by omega) (by omega);rw [CK (by omega) (by omega)] at j;have v:=QX (TB:=TB) e.t (by omega) (by omega)
  have z:2 ^ e.t.toNat < 65536:=by
   have:2 ^ e.t.toNat<=2 ^ 15:=jH (by omega) (by omega);omega
  have p:=PC (a:=BW (s.es.take k) l m) (b:=2 ^ e.t.toNat) (by omega) (by omega);generalize 2 ^ e.t.toNat=y at *;(repeat first|refine sN rfl ?_ |refine tA rfl ?_ |refine s2 rfl λ_ c=>?_ |refine aU rfl ?_ |apply Aa)
  ((refine aC rfl ?_ ?_<;>rintro⟨⟩);all_goals try(exfalso;(simp only[oZ] at *;omega)))
  apply aK;refine aS (aB ?_)
  (repeat' first|(refine sA rfl ?_ ?_;first|exact tI|omega) |(refine s4 rfl ‹_› rfl ?_ ?_;omega) |refine s2 rfl λ_ c=>?_ |(refine sC rfl (j) ?_;intro _ c)|refine sP rfl (v) rfl ?_ |refine s3 rfl ?_ ?_<;>rintro rfl |refine aU rfl ?_ |apply Aa|(refine aC rfl ?_ ?_<;>rintro⟨⟩));all_goals try contradiction
  ·refine⟨⟨k+1,by omega⟩,by dsimp only;(omega),[],?_⟩
   have n:BW (s.es.take (k+1)) l m=BW (s.es.take k) l m ||| y:=by rw [i,if_pos ⟨by simpa using ‹decide (e.l=l)=true›,c⟩]
   simp[cX,zC,d,p,n]
  ·have n:BW (s.es.take (k+1)) l m=BW (s.es.take k) l m:=by rw [i,if_neg (by simp [c])]
   apply aK;(repeat first|(refine sA rfl ?_ ?_;first|exact tI|omega) |refine aU rfl ?_ |apply Aa);refine⟨⟨k+1,by omega⟩,by dsimp only;(omega),[],?_⟩;simp[cX,zC,d,n]
  ·have n:BW (s.es.take (k+1)) l m=BW (s.es.take k) l m:=by rw [i,if_neg (λh=>by simp [h.1] at c)]
   apply aK;(repeat first|(refine sA rfl ?_ ?_;first|exact tI|omega) |refine aU rfl ?_ |apply Aa);refine⟨⟨k+1,by omega⟩,by dsimp only;(omega),[],?_⟩;simp[cX,zC,d,n]
 ·obtain rfl:k=s.es.length:=by omega
  rw [iV];(repeat first|refine sN rfl ?_ |refine tA rfl ?_ |refine s2 rfl λ_ c=>?_ |refine aU rfl ?_ |apply Aa)
  ((refine aC rfl ?_ ?_<;>rintro⟨⟩);all_goals try(exfalso;(simp only[oZ] at *;omega)))
  apply aE;(repeat first|refine tA rfl ?_ |refine aU rfl ?_ |apply Aa);(subst_vars;exact aR ⟨_,rfl,rfl⟩)
abbrev KU(n:Nat)(F:PS):List Int:=(List.range n).map λp=>(F p:Int)
def Cl(t:Eh)(G:PS)(i k:Nat):Prop:=∀p,p < t.q.nx.length->∀l∈DW t,(p < i\/(p=i/\l∈(DW t).take k))->∀j,(BW t.s.es l (G p)).testBit j=true->(G (Cb t.q p l).toNat).testBit j=true
structure Qp (t:Eh) (F0 F:PS) (i k:Nat) (G:PS) (b:Bool):Prop where
 ok:EE t G
 lo:∀p j,(F0 p).testBit j=true->(G p).testBit j=true
 hi:∀p j,(G p).testBit j=true->Qo t F0 p j
 le:∀p,F p<=G p
 yes:b=true->Ns G < Ns F
 no:b=false->G=F/\Cl t F i k
theorem ZX{F G:PS}(h:∀p,F p<=G p):Ns G<=Ns F:=by
 unfold Ns
 repeat' apply Nat.add_le_add
 all_goals exact Nat.sub_le_sub_left (h _) _
def Ua(G:PS)(x v:Nat):PS:=λp=>if p=x then v else G p
theorem Qp.NU{t:Eh}(ht:BB t=true){F0 F G:PS}{i k:Nat}{b:Bool}(h:Qp t F0 F i k G b)(hi:i < t.q.nx.length){l:Int}(hk:(DW t)[k]? = some l){x:Nat}(u:Cb t.q i l=(x:Int))(m:G x ||| BW t.s.es l (G i)≠G x):Qp t F0 F i (k+1) (Ua G x (G x ||| BW t.s.es l (G i))) true:=by
 have r:=co hk;have d:=Gf ht r;have w:=Dp (Di ht) hi d.1 d.2.1;have c:=J8 ht (l:=l) (h.ok.lt i);unfold FP at c;rw [if_pos d.2.2] at c
 have f:G x ||| BW t.s.es l (G i) < 65536:=by have:=kJ (n:=16) (h.ok.lt x) c;omega
 have g:∀p,G p<=Ua G x (G x ||| BW t.s.es l (G i)) p:=λp=>by
  unfold Ua;split
  ·rename_i e;subst e;exact Nat.left_le_or
  ·exact iX _
 refine⟨⟨λp=>?_,λp v=>?_⟩,λp j a=>?_,λp j a=>?_,λp=>i9 (h.le p) (g p),λ_=>?_,λh=>by cases h⟩
 ·unfold Ua
  split
  ·exact f
  ·exact h.ok.lt p
 ·unfold Ua
  rw [if_neg (by omega)];exact h.ok.z p v
 ·have:=h.lo p j a
  unfold Ua;split
  ·rename_i e;subst e;rw [kQ,this];rfl
  ·exact this
 ·unfold Ua at a
  split at a
  ·rename_i e
   subst e;rw [kQ,jh] at a
   rcases a with a|a
   ·exact h.hi p j a
   ·obtain⟨e,o,⟨B,A⟩,y⟩:=Fc.1 a
    subst B;have:=Qo.step (h.hi i _ A) o r rfl;rw [u,y] at this
    simpa using this
  ·exact h.hi p j a
 ·have H:=ZX h.le
  refine ja (ZY h.ok.lt (λp=>?_) g λo=>m ?_) H
  ·unfold Ua
   split
   ·exact f
   ·exact h.ok.lt p
  ·have I:=AI (Di ht)
   have:=az o x (by omega)
   simpa [Ua] using this
theorem Qp.fG{t:Eh}(ht:BB t=true){F0 F G:PS}{i k:Nat}{b:Bool}(h:Qp t F0 F i k G b){l:Int}(hk:(DW t)[k]? = some l){x:Nat}(m:Cb t.q i l=(x:Int))(n:G x ||| BW t.s.es l (G i)=G x):Qp t F0 F i (k+1) G b:=
 ⟨h.ok, h.lo,h.hi,h.le,h.yes,λhb=>by
  obtain⟨rfl,g⟩:=h.no hb;refine⟨rfl,λp f l' c d j e=>?_⟩
  rcases d with a|⟨rfl,a⟩
  ·exact g p f l' c (.inl a) j e
  ·rw [gc,hk] at a
   rcases f6.1 a with a|a
   ·exact g p f l' c (.inr ⟨rfl,a⟩) j e
   ·simp at a
    subst a
    rw [m,io,<-n,kQ,e,lr]⟩
theorem Qp.row{t:Eh}{F0 F G:PS}{i:Nat}{b:Bool}(h:Qp t F0 F i (DW t).length G b):Qp t F0 F (i+1) 0 G b:=
 ⟨h.ok,h.lo,h.hi,h.le,h.yes,λhb=>by
  obtain⟨rfl,f⟩:=h.no hb;refine⟨rfl,λp d l' a c j e=>?_⟩
  rcases c with k|⟨rfl,k⟩
  ·rcases jB p i with g|g
   ·exact f p d l' a (.inl g) j e
   ·exact f p d l' a (.inr ⟨by omega,by rw [iV];exact a⟩) j e
  ·simp at k⟩
theorem Qp.done{t:Eh}(ht:BB t=true){F0 F G:PS}(e:EE t F0)(h:Qp t F0 F t.q.nx.length 0 G false):G=Ss t F0:=by
 obtain⟨rfl,d⟩:=h.no rfl;exact cg ht e h.ok.z h.lo h.hi λp l j a b c=>d p a l b (.inl a) j c
theorem aX{a b:Int}(ha:A3 a=true)(hb:A3 b=true):a - ES .i64 a b=Mp .i64 a b/\0<=ES .i64 a b/\ES .i64 a b<=63:=by
 have key:((List.range 64).all λx=>(List.range 64).all λy=>decide (((x:Nat):Int) - ES .i64 (x:Nat) (y:Nat)=Mp .i64 (x:Nat) (y:Nat)/\0<=ES .i64 (x:Nat) (y:Nat)/\ES .i64 (x:Nat) (y:Nat)<=63))=true:=by kernel_rfl
 unfold A3 at ha hb;simp only [decide_eq_true_eq] at ha hb;have d:=d8.1 key a.toNat (jj.2 (by omega));have c:=d8.1 d b.toNat (jj.2 (by omega));rw [lD ha.1,lD hb.1] at c;exact of_decide_eq_true c
abbrev fU(r:DA×Bool):E:=.t [(true,(A4 r.1)),(false,[.d (bD r.2)])]
theorem Tg(a:W)(u:a.length<=1000000):Spec Tryz.prog TB 154 [] 0 [eT a] (Dx (λ_:DA×Bool=>True) fU):=by
 refine eR Tryz.func154 rfl (by kernel_rfl) rfl ?_;intro Z b;(repeat first|refine tA rfl ?_ |refine aU rfl ?_ |apply Aa);apply aB;refine aL (α:={k:Nat // k<=a.length}) [0] [] rfl rfl (λs=>[(2,.o (.ptr 0 3 0 0)),(4,eI .i64 s.1)]) (λs=>[(0,.cells 116 3 [A4 ⟨0,0,0⟩])]) 1 (λs=>a.length - s.1) (⟨0,by omega⟩) b rfl (by (simp[cX,zC,b,cN])) ?_;rintro⟨k,hk⟩;(try dsimp only[cA,cB]);by_cases p:k < a.length
 ·obtain⟨c,r⟩:=get_some (l:=a) (k:=(k:Int).toNat) (by omega)
  have q:=c.toNat_lt;have j:=Hh (TB:=TB) a k c r;(repeat first|refine tA rfl ?_ |refine s2 rfl λ_ d=>?_ |refine aU rfl ?_ |apply Aa)
  ((refine aC rfl ?_ ?_<;>rintro⟨⟩);all_goals try(exfalso;(simp only[oZ] at *;omega)))
  apply aK;refine aS (aB ?_)
  (repeat' first|refine tA rfl ?_ |(refine s4 rfl ‹_› rfl ?_ ?_;omega) |refine s2 rfl λ_ d=>?_ |refine s3 rfl ?_ ?_<;>rintro rfl |refine aU rfl ?_ |apply Aa|(refine aC rfl ?_ ?_<;>rintro⟨⟩));all_goals try contradiction
  all_goals first| (exfalso;omega;done)|skip
  ·(repeat first| (refine Av rfl ?_;refine gA rfl ?_;first| refine gS (λ_ _=>UT rfl rfl (by omega) (by omega)) ?_))
   (refine pW rfl ?_ rfl (by rfl);refine Af [] rfl rfl (Ij (TB:=TB) (a.take (k:Int).toNat) (by simp;omega)) ⟨rfl,by decide,by decide⟩ rfl trivial ?_;rintro n g h ⟨⟨f,t⟩,_,rfl,rfl,rfl⟩ _);(repeat first|(refine sA rfl ?_ ?_;first|exact tI|omega)|(refine Av rfl ?_;refine gA rfl ?_;first| refine gS (λ_ _=>EA rfl rfl (by omega) (by omega)) ?_) |refine aU rfl ?_ |apply Aa);(refine pW rfl ?_ rfl (by rfl);refine Af [] rfl rfl (Ij (TB:=TB) (a.drop ((k:Int)+1).toNat) (by simp;omega)) ⟨rfl,by decide,by decide⟩ rfl trivial ?_;rintro n g h ⟨⟨e,m⟩,_,rfl,rfl,rfl⟩ _);(repeat' first|refine tA rfl ?_ |refine sP rfl (j) rfl ?_|(refine Av rfl ?_;refine gA rfl ?_;first| refine gS (λ_ _=>AS rfl rfl (by rfl) (by rfl)) ?_) |refine s3 rfl ?_ ?_<;>rintro rfl |refine aU rfl ?_ |apply Aa|(refine aC rfl ?_ ?_<;>rintro⟨⟩))
   all_goals first
    | exact aR ⟨_,rfl,[],fU (⟨f,(c.toNat:Int) - 97,e⟩,m),[],⟨λi hi=>absurd hi (iZ i),i7⟩,rfl,trivial,(⟨f,(c.toNat:Int) - 97,e⟩,m),trivial,rfl,rfl,rfl⟩
    | exact aR ⟨_,rfl,[],fU (⟨f,(c.toNat:Int) - 97,e⟩,false),[],⟨λi hi=>absurd hi (iZ i),i7⟩,rfl,trivial,(⟨f,(c.toNat:Int) - 97,e⟩,false),trivial,rfl,rfl,rfl⟩
  all_goals
   apply aK;(repeat first|(refine sA rfl ?_ ?_;first|exact tI|omega) |refine aU rfl ?_ |apply Aa);refine⟨⟨k+1,by omega⟩,by dsimp only;(omega),[0],?_⟩;(simp[cX,zC,b,cN]<;>rfl)
 ·(repeat first|refine tA rfl ?_ |refine s2 rfl λ_ d=>?_ |refine aU rfl ?_ |apply Aa)
  ((refine aC rfl ?_ ?_<;>rintro⟨⟩);all_goals try(exfalso;(simp only[oZ] at *;omega)))
  apply aE;(repeat first|refine tA rfl ?_|(refine Av rfl ?_;refine gA rfl ?_;first| refine gS (λ_ _=>AS rfl rfl (by rfl) (by rfl)) ?_) |refine aU rfl ?_ |apply Aa);exact aR ⟨_,rfl,[],fU (⟨0,0,0⟩,false),[],⟨λi hi=>absurd hi (iZ i),i7⟩,rfl,trivial,(⟨0,0,0⟩,false),trivial,rfl,rfl,rfl⟩
theorem Hy(y:Sys)(hb:y.es.length<=100000):Spec Tryz.prog TB 155 [] 0 [Bx y] (Dx (λr:W=>r.length<=1000000) eT):=by
 have A:=BI (TB:=TB) y;refine eR Tryz.func155 rfl (by kernel_rfl) rfl ?_;intro Z d;(repeat first|refine tA rfl ?_ |refine s2 rfl λ_ a=>?_ |(refine sC rfl (A) ?_;intro _ a) |refine aU rfl ?_ |apply Aa);(refine aC rfl ?_ ?_<;>rintro⟨⟩)
 ·(repeat first|refine tA rfl ?_ |refine aU rfl ?_ |apply Aa)
  exact aR ⟨_,rfl,[],eT [],[],⟨λi hi=>absurd hi (iZ i),i7⟩,rfl,trivial,[],jF _,rfl,rfl,rfl⟩
 have h:AR y=true:=by (simp at a;subst a;assumption)
 have K:=AJ h;apply aK;(repeat first|refine aU rfl ?_);refine rG ⟨Ft [(2,1),(6,1)],Xl [0,1,4,5,2,3,6,7,8]⟩ (by kernel_rfl) ?_;(repeat first|refine tA rfl ?_);(refine pW rfl ?_ rfl (by rfl);refine Af [] rfl rfl (DT (TB:=TB) y.al) ⟨rfl,by decide,by decide⟩ rfl trivial ?_;rintro j b c ⟨u,x,rfl,rfl,rfl⟩ _);(repeat first|(refine sA rfl ?_ ?_;simp only[oZ] at *;omega));(refine pW rfl ?_ rfl (by rfl);refine Af [] rfl rfl (GG (TB:=TB) y.st (by omega)) ⟨rfl,by decide,by decide⟩ rfl trivial ?_;rintro j b c ⟨q,v,rfl,rfl,rfl⟩ _);(repeat first|(refine sA rfl ?_ ?_;first|exact tI|simp only[oZ] at *;omega) |refine aU rfl ?_ |apply Aa);apply aB;refine aL (α:={z:Nat×W // z.1<=y.es.length/\z.2.length<=10+9*z.1}) [1] [] rfl rfl (λs=>[(3,eT s.1.2),(4,eI .i64 s.1.1)]) (λs=>[]) 0 (λs=>y.es.length - s.1.1) (⟨⟨0,u++[32]++q⟩,by simp;omega⟩) d rfl (by (simp[cX,zC,d])) ?_;rintro⟨⟨k,w⟩,hk,o⟩;(try dsimp only[cA,cB]);have hk:k<=y.es.length:=hk;have o:w.length<=10+9*k:=o;by_cases m:k < y.es.length
 ·obtain⟨e,p⟩:=get_some m
  have n:=get_map (g:=CL) p
  have F:(y.es.map CL)[((k:Nat):Int).toNat]? = some (CL e):=by rw [io];exact n
  have hb:=Dc h (co p);unfold Dn at hb;simp only [d4,decide_eq_true_eq] at hb;(repeat first|refine sN rfl ?_ |refine tA rfl ?_ |refine s2 rfl λ_ a=>?_ |refine aU rfl ?_ |apply Aa)
  ((refine aC rfl ?_ ?_<;>rintro⟨⟩);all_goals try(exfalso;(simp only[oZ] at *;omega)))
  apply aK;refine aS (aB ?_);(repeat first|refine tA rfl ?_ |(refine s4 rfl ‹_› rfl ?_ ?_;omega) |refine aU rfl ?_ |apply Aa);refine rG ⟨Ft [(3,10),(7,10),(11,10),(4,1001),(12,1001)],Xl [0,1,2,3,6,7,10,11,4,5,8,9,12,13,14]⟩ (by kernel_rfl) ?_;(repeat first|(refine sA rfl ?_ ?_;first|exact tI|simp only[oZ] at *;omega));(refine Av rfl ?_;refine CY ?_ rfl ⟨rfl,rfl⟩;refine Af [] rfl rfl (GG (TB:=TB) e.f (by omega)) ⟨rfl,by decide,by decide⟩ rfl trivial ?_;rintro j b c ⟨J,H,rfl,rfl,rfl⟩ _;refine⟨Fy 0 rfl rfl,?_⟩);(repeat first|(refine sA rfl ?_ ?_;simp only[oZ] at *;omega) |refine sP rfl (GH e.l (by omega) (by omega)) rfl ?_);(refine Av rfl ?_;refine CY ?_ rfl ⟨rfl,rfl⟩;refine Af [] rfl rfl (GG (TB:=TB) e.t (by omega)) ⟨rfl,by decide,by decide⟩ rfl trivial ?_;rintro j b c ⟨I,G,rfl,rfl,rfl⟩ _;refine⟨Fy 0 rfl rfl,?_⟩);(repeat first|(refine sA rfl ?_ ?_;first|exact tI|omega|simp only[oZ] at *;omega) |refine aU rfl ?_ |apply Aa);refine⟨⟨⟨k+1,w++[32]++J++[UInt8.ofNat (97+e.l.toNat)]++I⟩,by dsimp only;omega,by simp;omega⟩,by dsimp only;(omega),[],?_⟩;(simp[cX,zC,d,cN]<;>rfl)
 ·have B:k=y.es.length:=by omega
  (repeat first|refine sN rfl ?_ |refine tA rfl ?_ |refine s2 rfl λ_ a=>?_ |refine aU rfl ?_ |apply Aa)
  ((refine aC rfl ?_ ?_<;>rintro⟨⟩);all_goals try(exfalso;(simp only[oZ] at *;omega)))
  apply aE;(repeat first|refine tA rfl ?_ |refine aU rfl ?_ |apply Aa);exact aR ⟨_,rfl,[],eT w,[],⟨λi hi=>absurd hi (iZ i),i7⟩,rfl,trivial,w,by show w.length<=_;omega,rfl,rfl,rfl⟩
theorem XI(al:Int)(c:UInt8):hasB al (if Gz c then (c.toNat:Int) - 97 else -1)=HD al c:=by
 unfold HD hasB;by_cases h:Gz c=true
 ·rw [if_pos h,h]
  rw [GA,decide_eq_true_eq] at h
  have e:((c.toNat:Int) - 97).toNat=c.toNat - 97:=by omega
  rw [e];simp;omega
 ·rw [if_neg h]
  simp [h]
end Go.Am
namespace Go.Am
open Go
theorem QI{f:Nat->Bool}{n k:Nat}(h:Fv f n=true)(a:0 < k)(hk:k < n):f k=true:=by
 unfold Fv at h;have:=(d8.1 h) k (jj.2 hk);simp at this
 rcases this with h|h
 ·omega
 ·exact h
theorem QJ{f:Nat->Bool}{n:Nat}(h:∀k,0 < k->k < n->f k=true):Fv f n=true:=by
 unfold Fv;refine d8.2 λk hk=>?_;have hk:=jj.1 hk
 rcases jI k with a|a
 ·subst a;rfl
 ·simp [h k a hk]
structure Xc (al:Int) (t:Bb):Prop where
 pos:0<=al
 r1:1<=t.rows.length
 rl:t.rows.length<=12
 c1:1<=t.cols.length
 cl:t.cols.length<=20
 r0:t.rows[0]? = some []
 c0:t.cols[0]? = some []
 rw:∀w∈t.rows,w.length<=50000/\A0 (BE al) w
 cw:∀w∈t.cols,w.length<=4000/\A0 (BE al) w
 pre:∀(i:Nat) w,t.rows[i]? = some w->0 < i->w≠[]/\∃j,j < i/\t.rows[j]? = some w.dropLast
 ndC:t.cols.Nodup
theorem LB{α:Type}{l:List α}{k:Nat}{x:α}(h:x∈l.take k):∃j,j < k/\l[j]? = some x:=by
 obtain⟨j,a,b⟩:=jm h
 have c:j < k:=by simp at a;omega
 refine⟨j,c,?_⟩;rw [<-b,List.getElem_take,d6]
theorem Lm{α:Type}{l:List α}{j k:Nat}{x:α}(h:l[j]? = some x)(a:j < k):x∈l.take k:=by
 have:(l.take k)[j]? = some x:=by rw [jk,if_pos a];exact h
 exact co this
theorem Uh{w:W}{al:Int}(h:within w al=true):w.length<=50000:=by
 unfold within at h;simp only [d4,decide_eq_true_eq] at h;exact h.1
theorem RU{al:Int}{t:Bb}(h:EW al t=true):Xc al t:=by
 unfold EW KZ at h;simp only [d4,decide_eq_true_eq] at h;obtain⟨⟨v,q,p,o,n⟩,u,s⟩:=h
 have d:∀(i:Nat) w,t.rows[i]? = some w->0 < i->w≠[]/\within w al=true/\w.dropLast∈t.rows.take i:=λi w hi b=>by
  have:=QI u b (am.1 hi).1;unfold rowAt at this;rw [hi] at this;simp only [d4,decide_eq_true_eq,ku,decide_eq_false_iff_not] at this;exact⟨λe=>this.1 (by rw [e];rfl),this.2.1,this.2.2⟩
 have f:∀(i:Nat) w,t.cols[i]? = some w->0 < i->w.length<=4000/\within w al=true/\w∉t.cols.take i:=λi w hi b=>by
  have:=QI s b (am.1 hi).1;unfold MS at this;rw [hi] at this;simp only [d4,decide_eq_true_eq,ku,decide_eq_false_iff_not] at this;exact this
 refine⟨v,q.1,q.2,p.1,p.2,o,n,λw k=>?_,λw k=>?_,λi w hi b=>?_,?_⟩
 ·obtain⟨i,hi,g⟩:=jm k
  have a:t.rows[i]? = some w:=by rw [d6 hi,g]
  rcases jI i with b|b
  ·subst b
   rw [o] at a;injection a with a;subst a
   exact⟨by simp,λc m=>by cases m⟩
  ·have:=d i w a b
   exact⟨Uh this.2.1,DJ this.2.1⟩
 ·obtain⟨i,hi,g⟩:=jm k
  have a:t.cols[i]? = some w:=by rw [d6 hi,g]
  rcases jI i with b|b
  ·subst b
   rw [n] at a;injection a with a;subst a
   exact⟨by simp,λc m=>by cases m⟩
  ·have:=f i w a b
   exact⟨this.1,DJ this.2.1⟩
 ·have:=d i w hi b
  exact⟨this.1,LB this.2.2⟩
 ·unfold List.Nodup
  rw [jn];intro i j hi r l g;have:=f j t.cols[j] (d6 r) (by omega);exact this.2.2 (Lm (by rw [d6 hi,g]) l)
theorem WE{al:Int}{t:Bb}(ha:A3 al=true)(q:0<=al)(l:1<=t.rows.length/\t.rows.length<=12)(n:1<=t.cols.length/\t.cols.length<=20)(h:t.rows[0]? = some [])(r:t.cols[0]? = some [])
 (rw':∀w∈t.rows,w.length<=50000/\A0 (BE al) w) (cw:∀w∈t.cols,w.length<=4000/\A0 (BE al) w) (pre:∀(i:Nat) w,t.rows[i]? = some w->0 < i->w≠[]/\∃j,j < i/\t.rows[j]? = some w.dropLast) (ndC:t.cols.Nodup):EW al t=true:=by
 unfold EW KZ;simp only [d4,decide_eq_true_eq];refine⟨⟨q,l,n,h,r⟩,QJ λk hk a=>?_,QJ λk hk a=>?_⟩
 ·have c:=d6 a
  obtain⟨p,j,f,o⟩:=pre k _ c hk;have b:=rw' _ (jC a);unfold rowAt;rw [c];simp only [d4,decide_eq_true_eq,ku,decide_eq_false_iff_not];exact⟨λe=>p (i8.1 e),FA b.2 b.1 ha,Lm o f⟩
 ·have c:=d6 a
  have b:=cw _ (jC a);unfold MS;rw [c];simp only [d4,decide_eq_true_eq,ku,decide_eq_false_iff_not];refine⟨b.1,FA b.2 (by omega) ha,λm=>?_⟩;obtain⟨j,f,g⟩:=LB m;obtain⟨d,g⟩:=am.1 g;exact(jn.1 ndC) j k d a f g
theorem Ee{A:W->Bool}{al:Int}{t:Bb}(h:AW A al t=true):Xc al t/\(AY A t).Nodup:=by
 unfold AW at h;rw [d4,decide_eq_true_eq] at h;exact⟨RU h.1,h.2⟩
theorem Hw{A:W->Bool}{al:Int}{t:Bb}(h:AW A al t=true):TOk A (BE al) t:=by
 obtain⟨a,c⟩:=Ee h;exact⟨a.r0,a.c0,a.pre,λw b=>(a.rw w b).2,λw b=>(a.cw w b).2,c,a.ndC⟩
theorem Ix{A:W->Bool}{al:Int}{t:Bb}(ha:A3 al=true)(i:0<=al)(h:TOk A (BE al) t)(d:t.rows.length<=12)(e:t.cols.length<=20)(b:∀w∈t.rows,w.length<=50000)(c:∀w∈t.cols,w.length<=4000):AW A al t=true:=by
 unfold AW;rw [d4,decide_eq_true_eq];have g:=(am.1 h.r0).1;have f:=(am.1 h.c0).1;exact⟨WE ha i ⟨g,d⟩ ⟨f,e⟩ h.r0 h.c0 (λw a=>⟨b w a,h.onR w a⟩) (λw a=>⟨c w a,h.onC w a⟩) h.pre h.ndC,h.nd⟩
theorem KC{A:W->Bool}{al:Int}{t:Bb}(h:Bp A al t=true):AW A al t=true/\Bg A (BE al) t=none/\BQ A (BE al) t:=by
 unfold Bp at h;rw [d4] at h
 have a:Bg A (BE al) t=none:=by simpa using h.2
 exact⟨h.1,a,⟨Hw h.1,FJ a⟩⟩
theorem Xc.sz{al:Int}{t:Bb}(h:Xc al t):Sr t:=⟨by have:=h.rl;omega,by have:=h.cl;omega,λw a=>by have:=(h.rw w a).1;omega,λw a=>by have:=(h.cw w a).1;omega⟩
def Qk(A L:W->Bool)(al:Int):Prop:=∀w,A0 (BE al) w->w.length<=50000->A w=L w
theorem TD{ls:List UInt8}{u w:W}(b:A0 ls u)(a:A0 ls w):A0 ls (u++w):=λc d=>by
 rcases f6.1 d with h|h
 ·exact b c h
 ·exact a c h
theorem OP{A L:W->Bool}{al:Int}(h:Qk A L al){cols:List W}{w:W}(c:A0 (BE al) w)(b:∀x∈cols,A0 (BE al) x/\w.length+x.length<=50000):marks A cols w=marks L cols w:=by
 rw [marks,marks,kH];intro x a;rw [h _ (TD c (b x a).1) (by simp;exact(b x a).2)]
theorem GQ{A L:W->Bool}{al:Int}{b:Nat}{t:Bb}(h:Qk A L al)(ht:Sq al b t)(hb:b<=20100):AY A t=AY L t:=by
 rw [AY,AY,kH];intro r c;have:=ht.onR r c
 exact OP h this.1 λx a=>⟨(ht.onC x a).1,by have:=(ht.onC x a).2;omega⟩
theorem Nv{A L:W->Bool}{al:Int}{b:Nat}{t:Bb}(h:Qk A L al)(ht:Sq al b t)(hb:b<=20100){r:W}{l:UInt8}(e:r∈t.rows)(f:l∈BE al):marks A t.cols (r++[l])=marks L t.cols (r++[l]):=by
 have:=ht.onR r e
 refine OP h (TD this.1 (λc d=>by simp at d;subst d;exact f)) λx a=>⟨(ht.onC x a).1,by have:=(ht.onC x a).2;simp;omega⟩
theorem QG{α:Type}{p q:α->Bool}:∀ {l:List α},(∀x∈l,p x=q x)->l.find? p=l.find? q
 | [],_=>rfl
 | x::l,h=>by
  rw [List.find?_cons,List.find?_cons,h x (by simp),QG (l:=l) λy a=>h y (by simp [a])]
theorem KR{A L:W->Bool}{al:Int}{b:Nat}{t:Bb}(h:Qk A L al)(ht:Sq al b t)(hb:b<=20100):Bg A (BE al) t=Bg L (BE al) t:=by
 unfold Bg;refine QG λw a=>?_;unfold CR at a;simp only [kz,f7] at a;obtain⟨r,c,l,d,rfl⟩:=a;rw [GQ h ht hb,Nv h ht hb c d]
theorem MP{A L:W->Bool}{al:Int}(h:Qk A L al):∀(n:Nat) {b:Nat} {t:Bb},Sq al b t->b+n<=20100->BO A (BE al) n t=BO L (BE al) n t
 | 0,_,_,_,_=>rfl
 | n + 1,b,t,ht,hb=>by
  unfold BO;rw [KR h ht (by omega)]
  cases d:Bg L (BE al) t with
  | none=>rfl
  | some w=>
   dsimp only;by_cases a:t.rows.length=12
   ·rw [if_pos a,if_pos a]
   ·rw [if_neg a,if_neg a]
    have c:=ht.rl;exact MP h n (ht.push d (by omega)) (by omega)
theorem QQ{A L:W->Bool}{al:Int}{b:Nat}{t:Bb}(h:Qk A L al)(ht:Sq al b t)(hb:b<=20100){r:W}{l:UInt8}(a:r∈t.rows)(c:l∈BE al):DB A t (r++[l])=DB L t (r++[l]):=by
 unfold DB;rw [GQ h ht hb,Nv h ht hb a c]
theorem Qv{A L:W->Bool}{al:Int}{b:Nat}{t:Bb}(h:Qk A L al)(ht:Sq al b t)(hb:b<=20100):BR A al t=BR L al t:=by
 unfold BR;congr 1
 ·refine kH.2 λr a=>kH.2 λl c=>?_
  rw [QQ h ht hb a (Mq c)]
 ·refine kH.2 λr a=>?_
  have:=ht.onR r a;rw [h r this.1 (by omega)]
theorem TOk.gh{A L:W->Bool}{al:Int}{b:Nat}{t:Bb}(h:Qk A L al)(ht:Sq al b t)(hb:b<=20100)(hk:TOk L (BE al) t):TOk A (BE al) t:=⟨hk.r0,hk.c0,hk.pre,hk.onR,hk.onC,by rw [GQ h ht hb];exact hk.nd,hk.ndC⟩
theorem BQ.gh{A L:W->Bool}{al:Int}{b:Nat}{t:Bb}(h:Qk A L al)(ht:Sq al b t)(hb:b<=20100)(hk:BQ L (BE al) t):BQ A (BE al) t:=⟨hk.toTOk.gh h ht hb,λr a l c=>by
 rw [Nv h ht hb a c,GQ h ht hb];exact hk.cl r a l c⟩
theorem YY{A:W->Bool}{al:Int}{t:Bb}(h:BQ A (BE al) t){q:Nat}(a:q < t.rows.length):t.rows.getD q []∈t.rows:=by
 rw [List.getD,d6 a];exact jC a
theorem LK{A L:W->Bool}{al:Int}{l:Nat}{t:Bb}(h:Qk A L al)(ht:Sq al l t)(hb:l<=20100)(hk:BQ L (BE al) t)(b:Bool):∀(w:W) (q:Nat),q < t.rows.length->A0 (BE al) w->w.length<=20000->splitAt A t b q w=splitAt L t b q w
 | [],_,_,_,_=>rfl
 | c :: w,q,f,g,o=>by
  have n:=YY hk f;have j:=g c (by simp);have r:=QQ h ht hb n j;obtain⟨r',k,_⟩:=hk.idx (i:=q) (d6 f) j
  have p:t.rows.getD q []=t.rows[q]:=by rw [List.getD,d6 f];rfl
  rw [<-p] at k;have e:=(am.1 k).1;have d:=YY hk e;have a:A0 (BE al) w:=λx m=>g x (by simp [m]);simp at o
  have s:A (t.rows.getD (DB L t (t.rows.getD q []++[c])) []++w)=L (t.rows.getD (DB L t (t.rows.getD q []++[c])) []++w):=
   h _ (TD (ht.onR _ d).1 a) (by have:=(ht.onR _ d).2;simp only [j8];omega)
  unfold splitAt;rw [r,s];split
  ·rfl
  ·exact LK h ht hb hk b w _ e a (by omega)
end Go.Am
