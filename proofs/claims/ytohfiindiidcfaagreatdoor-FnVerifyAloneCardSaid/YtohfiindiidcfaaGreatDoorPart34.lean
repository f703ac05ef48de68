/-
  Few words asked: few sets found, plainly.
-/
import Derived.Test.YtohfiindiidcfaaGreatDoorPart32
import Derived.Test.YtohfiindiidcfaaGreatDoorPart33
set_option linter.all false
namespace Go.Am
open Go Go.Proofs
set_option linter.unusedVariables false
def EK(n:Nat)(p:W->Prop):Prop:=∃l:List W,l.length<=n/\∀w,p w->w∈l
theorem EK.or{a b:Nat}{p q:W->Prop}(h:EK a p)(f:EK b q):EK (a+b) (λw=>p w\/q w):=by
 obtain⟨l,i,e⟩:=h;obtain⟨l',g,d⟩:=f;exact⟨l++l',by simp;omega,λw c=>em.2 (c.imp (e w) (d w))⟩
theorem EK.sub{a b:Nat}{p q:W->Prop}(h:EK a p)(d:∀w,q w->p w)(hb:a<=b):EK b q:=by
 obtain⟨l,f,e⟩:=h;exact⟨l,by omega,λw c=>e w (d w c)⟩
theorem EK.none{n:Nat}{p:W->Prop}(h:∀w,¬p w):EK n p:=⟨[],by simp,λw a=>absurd a (h w)⟩
theorem PC{α β:Type}(f:α->List β)(b:Nat):∀(l:List α),(∀x∈l,(f x).length<=b)->(l.flatMap f).length<=l.length*b
 | [],_=>by simp
 | x::l,h=>by
  have d:=PC f b l λy a=>h y (by simp [a]);have c:=h x (by simp);rw [qW,pC,o9,Nat.succ_mul];omega
theorem EK.ex{α:Type}{n b:Nat}{p:W->Prop}{q:α->W->Prop}(l:List α)(i:l.length<=n)(g:∀x∈l,EK b (q x))(h:∀w,p w->∃x∈l,q x w):EK (n*b) p:=by
 classical
 have e:∀x:α,∃k:List W,x∈l->k.length<=b/\∀w,q x w->w∈k:=λx=>by
  by_cases a:x∈l
  ·obtain⟨k,m,j⟩:=g x a;exact⟨k,λ_=>⟨m,j⟩⟩
  ·exact⟨[],λh=>absurd h a⟩
 have d:=λx=>qy (e x);refine⟨l.flatMap λx=>Classical.choose (e x),lc (PC _ b l λx a=>(d x a).1) (pc b i),λw f=>?_⟩;obtain⟨x,a,c⟩:=h w f;exact pN.2 ⟨x,a,(d x a).2 w c⟩
theorem EK.map{α:Type}{n:Nat}{p:W->Prop}(f:α->W)(l:List α)(c:l.length<=n)(h:∀w,p w->∃x∈l,w=f x):EK n p:=
 ⟨l.map f,by simpa using c,λw b=>by obtain⟨x,a,rfl⟩:=h w b;exact d8.2 ⟨x,a,rfl⟩⟩
theorem gf(al:Int):(A4 al).length<=6:=by
 unfold A4;rw [ge];exact AM al 6
theorem MU{al:Int}{b:Nat}{t:A2}(h:He al b t):EK 1764 (NH (A4 al) t):=by
 have c:=h.rl;have g:=h.cl;refine EK.ex (n:=12) (b:=147) (q:=λr v=>∃m:W,(m=[]\/∃l∈A4 al,m=[l])/\∃x:W,(x=[]\/x∈t.cols)/\v=r++m++x) t.rows c (λr _=>?_) λw a=>a;refine EK.ex (n:=7) (b:=21) (q:=λm v=>∃x:W,(x=[]\/x∈t.cols)/\v=r++m++x) ([]::(A4 al).map λl=>[l]) (by have:=gf al;simp;omega) (λm _=>?_) λw a=>?_
 ·exact EK.map (λx=>r++m++x) ([]::t.cols) (by simp;omega) λw ⟨x,d,a⟩=>⟨x,by simpa using d,a⟩
 ·obtain⟨m,e,i⟩:=a
  refine⟨m,?_,i⟩
  rcases e with rfl|⟨l,f,rfl⟩
  ·simp
  ·exact oT _ (d8.2 ⟨l,f,rfl⟩)
theorem RI{L:W->Bool}{ls:List UInt8}:∀(n:Nat) (t:A2),(EP L ls n t).length<=n+1
 | 0,t=>by simp [EP]
 | n + 1,t=>by
  unfold EP
  cases Bc L ls t with
  | none=>simp
  | some w=>
   dsimp only;split
   ·simp
   ·have:=RI (L:=L) (ls:=ls) n ⟨t.rows++[w],t.cols⟩
    simp;omega
theorem RE{L:W->Bool}{al:Int}{b:Nat}{t:A2}(h:He al b t):EK 24696 (λv=>∃y∈EP L (A4 al) 13 t,NH (A4 al) y v):=
 EK.ex (n:=14) (b:=1764) (q:=λy v=>NH (A4 al) y v) (EP L (A4 al) 13 t) (RI 13 t) (λy a=>MU (h.grow a)) λw c=>c
theorem ZQ{al:Int}{b:Nat}{t:A2}(h:He al b t){w:W}(e:w.length<=20000):EK 260013 (Yw t w):=by
 have c:=h.rl
 refine EK.ex (n:=13) (b:=20001) (q:=λr v=>∃k:Nat,v=r++w.drop k) ([]::t.rows) (by simp;omega) (λr _=>?_) λv ⟨r,d,a⟩=>⟨r,by simpa using d,a⟩
 refine EK.map (λk=>r++w.drop k) (List.range 20001) (by simp) λv ⟨k,a⟩=>?_;by_cases hk:k < 20001
 ·exact⟨k,oJ.2 hk,a⟩
 ·exact⟨20000,by simp,by rw [a,pO (by omega),pO (by omega)]⟩
theorem ZP{L:W->Bool}{al:Int}{t:A2}(h:He al 20000 t){w:W}(f:AS (A4 al) w)(g:w.length<=20000):EK 286473 (Yv L (A4 al) t w):=by
 refine((MU h).or ((ZQ h g).or (b:=24696) ?_)).sub (b:=286473) (λv e=>e) (by omega)
 cases i:CC L t w with
 | none=>exact .none λv ⟨x,a,_⟩=>by cases a
 | some x=>
  cases ha:Fo t x with
  | none=>exact .none λv ⟨x',a,u,d,_⟩=>by injection a with a;subst a;rw [ha] at d;cases d
  | some u=>
   obtain⟨p,_,rfl⟩:=IG i
   exact(RE (L:=L) (SE h (λc j=>f c (by simp [j])) (by simp at g;omega) ha)).sub (λv ⟨x',a,u',d,e⟩=>by
    injection a with a;subst a
    rw [ha] at d;injection d with d;subst d;exact e) (i9 _)
def okB(al:Int)(w:W):Prop:=AS (A4 al) w/\w.length<=50000
theorem Jq(al:Int):SC (okB al) al:=λw b a=>⟨b,a⟩
theorem Zs{α:Type}:∀(l m:List α),l.Nodup->(∀x∈l,x∈m)->l.length<=m.length
 | [],_,_,_=>by simp
 | x :: l,m,d,f=>by
  obtain⟨a,b,rfl⟩:=List.append_of_mem (f x (by simp));rw [List.nodup_cons] at d
  have h:=Zs l (a++b) d.2 λy e=>by
   have c:=f y (oT _ e);simp only [em,oI] at c |-
   rcases c with c|rfl|c
   ·exact .inl c
   ·exact absurd e d.1
   ·exact .inr c
  simp at h |-;omega
theorem fM{t:CO}{n:Nat}{p:W->Prop}{al:Int}(h:EK n p)(j:n<=20000000)(hb:∀w,p w->okB al w):kq t p:=by
 obtain⟨k,hk,e⟩:=h;intro l c f
 have a:l ⊆ Cz t::(k.filter λw=>w.length<=50000).flatMap λw=>(List.range 50001).map λi=>GZ t (Cz t) (w.take i):=λF g=>by
  rcases f F g with rfl|⟨u,v,d,rfl⟩
  ·simp
  ·have b:=(hb _ d).2
   refine oT _ (pN.2 ⟨u++v,oO.2 ⟨e _ d,by simpa using b⟩,d8.2 ⟨u.length,oJ.2 (by simp at b;omega),by simp⟩⟩)
 have b:=Zs _ _ c a;have q:=PC (λw:W=>(List.range 50001).map λi=>GZ t (Cz t) (w.take i)) 50001 (k.filter λw=>w.length<=50000) (λx _=>by simp);have o:(k.filter λw=>w.length<=50000).length<=n:=lc (p8 _ _) hk;rw [o9] at b;have m:(k.filter λw=>decide (w.length<=50000)).length*50001<=20000000*50001:=pc _ (by omega);omega
theorem lG{al:Int}{w:W}(h:okB al w):kD al w:=⟨h.1,lc h.2 (by omega)⟩
theorem ij{te:EF}{n:Nat}{p:W->Prop}(h:EK n p)(c:n<=20000000)(hb:∀w,p w->okB (A6 te) w):(∀w,p w->kD (A6 te) w)/\TV te p:=by
 refine⟨λw b=>lG (hb w b),?_⟩;obtain⟨kn,a,s,q,al⟩:=te
 cases kn with
 | true=>intro h;cases h
 | false=>exact λ_=>fM h c hb
end Go.Am
namespace Go.Am
open Go Go.Proofs
set_option maxHeartbeats 1000000
set_option maxRecDepth 4000
attribute [local irreducible] A3 Cp Lex Bl Aj Spec
variable {TB:BC}
theorem Hc{te:EF}(a:CN te=true):Bb (A6 te)=true:=by
 obtain⟨kn,p,s,q,al⟩:=te
 cases kn with
 | true=>exact(AE a).1
 | false=>
  have ht:Bd ⟨s,q,al⟩=true:=a;unfold Bd at ht;simp only [d4] at ht;exact ht.2.2
noncomputable def Fp(te:EF)(x:A2):Option A2:=if (CN te && A9 (Cf te) (A6 te) x)=true then Bm (Cf te) (A4 (A6 te)) 13 x else none
noncomputable def Tp(te:EF):Option A2:=if CN te=true then Bm (Cf te) (A4 (A6 te)) 13 Bw else none
noncomputable def ZF(te:EF)(x:A2):Option AY:=if (CN te && BB (Cf te) (A6 te) x)=true then some (A1 (Cf te) (A6 te) x) else none
section
variable {tabs:List (Nat×Obj)}[hTb:Dc ⟨tabs,none⟩]{te:EF}
include hTb
end
noncomputable def FA(te:EF)(w:W):Bool:=if te.kn then QE te.p w else Kp ⟨te.s,te.q,te.al⟩ w
def En(te:EF):Int:=if CN te then A6 te else -1
theorem Sn{t:CO}(ht:Bd t=true):Ua (Kp t) (LS t) t.al:=λw b c=>by
 have a:Bb t.al=true:=by unfold Bd at ht;simp only [d4] at ht;exact ht.2.2
 unfold Kp;rw [ht,GS b c a];rfl
theorem Ic{te:EF}(a:CN te=true):Ua (FA te) (Cf te) (A6 te):=by
 obtain⟨kn,p,s,q,al⟩:=te
 cases kn with
 | true=>exact bO a
 | false=>exact Sn (t:=⟨s,q,al⟩) a
theorem bu{A:W->Bool}{t:A2}:A9 A (-1) t=false:=by
 cases h:A9 A (-1) t
 ·rfl
 ·have:=(Fb h).1.pos;omega
theorem XO{A L:W->Bool}{al:Int}(h:Ua A L al)(t:A2):A9 A al t=A9 L al t:=by
 unfold A9;cases a:Gk al t
 ·rfl
 ·rw [HX h (VH a).bd (by omega)]
theorem Du(te:EF)(x:A2):(CN te && A9 (Cf te) (A6 te) x)=A9 (FA te) (En te) x:=by
 unfold En;cases a:CN te
 ·simp [bu]
 ·rw [if_pos rfl,o5,XO (Ic a)]
theorem C5{te:EF}{x:A2}(h:A9 (FA te) (En te) x=true):CN te=true/\En te=A6 te/\A9 (Cf te) (A6 te) x=true/\bN (A6 te) x/\(AK (Cf te) x).Nodup:=by
 rw [<-Du,d4] at h;exact⟨h.1,by unfold En;rw [if_pos h.1],h.2,(Fb h.2).1,(Fb h.2).2⟩
theorem OE{al:Int}(ha:Bb al=true){w:W}(h:AS (A4 al) w)(a:w.length<=4000):Fs al w=true:=by
 unfold Fs;rw [GS h (by omega) ha,decide_eq_true a];rfl
theorem c7{L:W->Bool}{x:A2}(h:(AK L x).Nodup){i k:Nat}{u w:W}(hi:x.rows[i]? = some u)(hk:x.rows[k]? = some w)(a:k < i):marks L x.cols u≠marks L x.cols w:=by
 intro b
 have d:(AK L x)[i]? = some (marks L x.cols u):=by unfold AK;simp [hi]
 have c:(AK L x)[k]? = some (marks L x.cols u):=by unfold AK;simp [hk,b]
 obtain⟨j,g⟩:=ce.1 d;obtain⟨f,e⟩:=ce.1 c;exact oM.1 h k i f j a (by rw [g,e])
theorem Pb{L:W->Bool}{ls:List UInt8}:∀ {n:Nat} {t u:A2},TOk L ls t->Bm L ls n t=some u->TOk L ls u/\Bc L ls u=none/\t.rows <+: u.rows/\u.cols=t.cols/\(t.rows.length<=12->u.rows.length<=12)/\(Bc L ls t≠none->t.rows.length < u.rows.length)/\(Bc L ls t=none->u=t)
 | 0,t,u,_,h=>by simp [Bm] at h
 | n + 1,t,u,hk,h=>by
  unfold Bm at h
  cases a:Bc L ls t with
  | none=>
   rw [a] at h
   injection h with h;subst h
   exact⟨hk,a,qL _,rfl,id,λh=>absurd rfl h,λ_=>rfl⟩
  | some w=>
   rw [a] at h;dsimp only at h;split at h
   ·cases h
   ·rename_i i
    obtain⟨g,f,b,e,d,k,j⟩:=Pb (hk.push a) h;have c:=(p9 t.rows [w]).trans b;refine⟨g,f,c,e,λh=>d (by simp;omega),λ_=>?_,λh=>by cases h⟩;have:=b.length_le;simp at this;omega
theorem fH{te:EF}{x u:A2}(h:A9 (FA te) (En te) x=true)(d:Fp te x=some u):A9 (FA te) (En te) u=true/\Bc (Cf te) (A4 (A6 te)) u=none/\x.rows <+: u.rows/\u.cols=x.cols/\(Bc (Cf te) (A4 (A6 te)) x≠none->x.rows.length < u.rows.length)/\(Bc (Cf te) (A4 (A6 te)) x=none->u=x):=by
 obtain⟨e,r,g,b,q⟩:=C5 h;unfold Fp at d;rw [e,g,o5,if_pos rfl] at d;obtain⟨f,n,m,c,l,k,j⟩:=Pb (Hd g) d;refine⟨?_,n,m,c,k,j⟩;rw [<-Du,e,o5];have o:=l b.rl;refine JX (Hc e) b.pos f o (by rw [c];exact b.cl) (λw a=>?_) (λw a=>by rw [c] at a;exact(b.cw w a).1);obtain⟨i,hi,p⟩:=oW a;have:=f.short i w (by rw [d6 hi,p]);omega
theorem Ur(te:EF)(x:A2):(if A9 (FA te) (En te) x then Bm (FA te) (A4 (En te)) 13 x else none)=Fp te x:=by
 unfold Fp;rw [Du];by_cases a:A9 (FA te) (En te) x=true
 ·obtain⟨d,c,f,b,e⟩:=C5 a
  rw [a,c,if_pos rfl,if_pos rfl];exact Pa (Ic d) 13 b.bd (by omega)
 ·rw [Bool.not_eq_true] at a;rw [a,if_neg pE,if_neg pE]
theorem MP{te:EF}{x:A2}(h:A9 (FA te) (En te) x=true):(CN te && BB (Cf te) (A6 te) x)=(Bc (Cf te) (A4 (A6 te)) x).isNone:=by
 obtain⟨b,e,a,d,c⟩:=C5 h;rw [b,Dv,a];rfl
structure oz (n m:Nat) (t:A2):Prop where
 rl:t.rows.length<=n
 cl:t.cols.length<=n
 rb:∀w∈t.rows,w.length<=m
 cb:∀w∈t.cols,w.length<=m
section
variable {P:Program}{Z:Ctx}{d:Option Tmp}{ty:TypeId}{pos:String}{af:Array Edge}{g:Option (Nat×Bool)}{L:List (Nat×E)}{σ:Ab}{nx:Nat}
end
noncomputable def J6(te:EF)(x:A2)(w:W):Option A2:=if (CN te && A9 (Cf te) (A6 te) x && Fs (A6 te) w)=true then Fo x w else none
theorem iU(te:EF)(x:A2)(w:W):OZ (FA te) (En te) x w=J6 te x w:=by
 unfold OZ J6;rw [Du];cases a:A9 (FA te) (En te) x
 ·rw [qG,qG]
 ·rw [(C5 a).2.1]
section
variable {tabs:List (Nat×Obj)}[hTb:Dc ⟨tabs,none⟩]{te:EF}
include hTb
end
end Go.Am
namespace Go.Am
open Go Go.Proofs
set_option maxHeartbeats 1000000
set_option maxRecDepth 4000
attribute [local irreducible] A3 Cp Lex Bl Aj Spec
variable {tabs:List (Nat×Obj)}
theorem fZ{al:Int}{w:W}(h:Fs al w=true):AS (A4 al) w/\w.length<=4000:=by
 unfold Fs at h;rw [d4,decide_eq_true_eq] at h;exact⟨EC h.1,h.2⟩
theorem Xi{L:W->Bool}{cols:List W}{c w:W}:marks L (cols++[c]) w=marks L cols w++[RU (L (w++c))]:=by simp [marks]
theorem SG{te:EF}{x u:A2}{w:W}(h:J6 te x w=some u):A9 (FA te) (En te) x=true/\AS (A4 (A6 te)) w/\w.length<=4000/\u=⟨x.rows,x.cols++[w]⟩/\A9 (FA te) (En te) u=true/\J6 te u w=none:=by
 unfold J6 at h;by_cases d:(CN te && A9 (Cf te) (A6 te) x && Fs (A6 te) w)=true
 ·rw [if_pos d] at h
  rw [Du,d4] at d;obtain⟨g,o⟩:=d;obtain⟨m,l⟩:=fZ o;obtain⟨k,t,s,f,j⟩:=C5 g;unfold Fo at h;split at h
  ·cases h
  rename_i i
  injection h with h
  subst h;rw [not_or] at i;have hk:=Hd s;have p:=f.cl;have q:=f.c1;refine⟨g,m,l,rfl,?_,?_⟩
  ·rw [<-Du,k,o5]
   refine JX (Hc k) f.pos ⟨hk.r0,by rw [f6 (by omega)];exact hk.c0,hk.pre,hk.onR,λc d=>?_,?_,?_⟩ f.rl (by simp;omega) (λr n=>(f.rw r n).1) (λc d=>?_)
   ·rcases em.1 d with d|d
    ·exact hk.onC c d
    ·simp at d;subst d;exact m
   ·have e:(AK (Cf te) ⟨x.rows,x.cols++[w]⟩).map List.dropLast=AK (Cf te) x:=by
     unfold AK;rw [pz]
     exact qm λr _=>by simp [d5,Xi]
    rw [<-e] at j;exact(pX.1 j).imp λh e=>h (by rw [e])
   ·exact qj.2 ⟨hk.ndC,by simp,λa ha b hb=>by simp at hb;subst hb;exact λe=>i.2 (e ▸ ha)⟩
   ·rcases em.1 d with d|d
    ·exact(f.cw c d).1
    ·simp at d;subst d;exact l
  ·unfold J6 Fo
   split
   ·rw [if_pos (.inr (by simp))]
   ·rfl
 ·rw [if_neg d] at h;cases h
end Go.Am
namespace Go.Am
open Go Go.Proofs
set_option maxHeartbeats 1000000
set_option maxRecDepth 4000
attribute [local irreducible] A3 Cp Lex Bl Aj Spec
variable {tabs:List (Nat×Obj)}
theorem jc(te:EF)(x:A2):(if BB (FA te) (En te) x then some (A1 (FA te) (En te) x) else none)=ZF te x:=by
 rw [Dv];cases b:A9 (FA te) (En te) x
 ·rw [qG,if_neg pE]
  unfold ZF;rw [Dv,<-Bool.and_assoc,Du,b];rfl
 ·obtain⟨a,e,d,c,f⟩:=C5 b
  rw [e,Nl (Ic a) c.bd (by omega),Un (Ic a) c.bd (by omega),o5];unfold ZF;rw [Dv,a,d,o5,o5]
end Go.Am
namespace Go.Am
open Go Go.Proofs
set_option maxHeartbeats 1000000
set_option maxRecDepth 4000
attribute [local irreducible] A3 Cp Lex Bl Aj Spec
variable {TB:BC}
noncomputable def E9(te:EF)(x:A2)(w:W):Option W:=if (CN te && BB (Cf te) (A6 te) x && Fs (A6 te) w)=true then CC (Cf te) x w else none
noncomputable def Kq(te:EF)(x:A2)(w:W):Option A2:=if (CN te && BB (Cf te) (A6 te) x && Fs (A6 te) w)=true then Ha (Cf te) (A4 (A6 te)) x w else none
section
variable {tabs:List (Nat×Obj)}[hTb:Dc ⟨tabs,none⟩]{te:EF}
include hTb
end
end Go.Am
namespace Go.Am
open Go Go.Proofs
set_option maxHeartbeats 1000000
set_option maxRecDepth 4000
attribute [local irreducible] A3 Cp Lex Bl Aj Spec
theorem cx(te:EF)(x:A2):BB (FA te) (En te) x=(CN te && BB (Cf te) (A6 te) x):=by
 rw [Dv,Dv,<-Bool.and_assoc,Du];cases a:A9 (FA te) (En te) x
 ·rw [qG,qG]
 ·obtain⟨d,c,f,b,e⟩:=C5 a
  rw [c,Nl (Ic d) b.bd (by omega)]
theorem Jc{te:EF}{x:A2}(h:(CN te && BB (Cf te) (A6 te) x)=true):A9 (FA te) (En te) x=true/\Bc (Cf te) (A4 (A6 te)) x=none/\Cb (Cf te) (A4 (A6 te)) x:=by
 rw [d4] at h;obtain⟨c,b,a⟩:=MO h.2;exact⟨by rw [<-Du,h.1,c];rfl,b,a⟩
theorem eQ(te:EF)(x:A2)(w:W):Fy (FA te) (En te) x w=E9 te x w:=by
 unfold Fy E9;rw [cx];cases d:(CN te && BB (Cf te) (A6 te) x)
 ·rw [qG,qG,if_neg pE,if_neg pE]
 ·obtain⟨c,i,b⟩:=Jc d
  obtain⟨g,f,k,e,j⟩:=C5 c;rw [f,o5];by_cases a:Fs (A6 te) w=true
  ·obtain⟨h,l,_⟩:=Nd a
   rw [if_pos a,if_pos a,XG (Ic g) e.bd (by omega) b h (by omega)]
  ·rw [if_neg a,if_neg a]
theorem Qe{te:EF}{x:A2}{w v:W}(h:E9 te x w=some v):(CN te && BB (Cf te) (A6 te) x)=true/\AS (A4 (A6 te)) w/\w.length<=4000/\Kt (Cf te) x w≠Cf te w/\splitAt (Cf te) x (Cf te w) 0 w=some v/\Split (Cf te) (A4 (A6 te)) x w v:=by
 unfold E9 at h;by_cases a:(CN te && BB (Cf te) (A6 te) x && Fs (A6 te) w)=true
 ·rw [if_pos a] at h
  rw [d4] at a;obtain⟨a,f⟩:=a;obtain⟨i,j,b⟩:=Jc a;obtain⟨c,g,_⟩:=Nd f;unfold CC at h;by_cases ha:Kt (Cf te) x w=Cf te w
  ·rw [if_pos ha] at h;cases h
  ·rw [if_neg ha] at h
   obtain⟨v',e,d⟩:=Qf b (Cf te w) w 0 [] c b.r0 rfl ha;rw [e] at h
   injection h with h;subst h
   exact⟨a,c,g,ha,e,d⟩
 ·rw [if_neg a] at h;cases h
theorem bh{te:EF}{x:A2}{w:W}(c:(CN te && BB (Cf te) (A6 te) x)=true)(b:Fs (A6 te) w=true):(E9 te x w).isSome=decide (Kt (Cf te) x w≠Cf te w):=by
 obtain⟨f,i,a⟩:=Jc c;obtain⟨d,j,_⟩:=Nd b;unfold E9;rw [c,b,o5,if_pos rfl];unfold CC;by_cases ha:Kt (Cf te) x w=Cf te w
 ·rw [if_pos ha,decide_eq_false (λh=>h ha)];rfl
 ·obtain⟨v',e,g⟩:=Qf a (Cf te w) w 0 [] d a.r0 rfl ha
  rw [if_neg ha,e,decide_eq_true ha];rfl
theorem Qi(te:EF)(x:A2)(w:W):Kq te x w=(E9 te x w).bind λv=>(J6 te x v).bind λu=>Fp te u:=by
 unfold Kq
 cases a:E9 te x w with
 | none=>
  unfold E9 at a;split
  ·rename_i b
   rw [if_pos b] at a;unfold Ha;rw [a];rfl
  ·rfl
 | some v=>
  obtain⟨b,s,l,ha,e,g⟩:=Qe a
  have i:(CN te && BB (Cf te) (A6 te) x && Fs (A6 te) w)=true:=by
   unfold E9 at a;split at a
   ·assumption
   ·cases a
  rw [if_pos i];obtain⟨j,A,q⟩:=Jc b;obtain⟨r,H,G,F,B⟩:=C5 j;unfold Ha CC;rw [if_neg ha,e]
  show (Fo x v).bind _=(J6 te x v).bind _
  obtain⟨p,_,k⟩:=g.suf;have h:Fs (A6 te) v=true:=OE (Hc r) (λc b=>s c (by rw [k];simp [b])) (by rw [k] at l;simp at l;omega)
  have d:J6 te x v=Fo x v:=by unfold J6;rw [Du,j,h];rfl
  rw [d]
  cases o:Fo x v with
  | none=>rfl
  | some u=>
   obtain⟨_,_,_,_,f,_⟩:=SG (d.trans o);obtain⟨n,z,m,y,t⟩:=C5 f
   show Bm _ _ 13 u=Fp te u
   unfold Fp;rw [n,m];rfl
theorem hX(te:EF)(x:A2)(w:W):Mo (FA te) (En te) x w=Kq te x w:=by
 rw [Qi];unfold Mo;rw [eQ];congr 1;funext v;rw [iU];congr 1;funext u;exact Ur te u
theorem VL{te:EF}{x u:A2}{w v:W}(h:E9 te x w=some v)(ha:J6 te x v=some u):Bc (Cf te) (A4 (A6 te)) u≠none:=by
 obtain⟨i,k,j,g,e,a⟩:=Qe h;obtain⟨_,_,_,rfl,_,_⟩:=SG ha;obtain⟨r,d,c,b,f⟩:=a.opens;exact gy (t:=⟨x.rows,x.cols++[v]⟩) d b f
theorem bk{te:EF}{x:A2}{w v:W}(h:E9 te x w=some v)(j:x.cols.length≠20):∃u,J6 te x v=some u:=by
 obtain⟨d,m,i,ha,e,a⟩:=Qe h;obtain⟨f,n,k⟩:=Jc d;obtain⟨l,s,r,q,o⟩:=C5 f;obtain⟨p,_,g⟩:=a.suf;have b:Fs (A6 te) v=true:=OE (Hc l) (λc d=>m c (by rw [g];simp [d])) (by rw [g] at i;simp at i;omega);unfold J6;rw [Du,f,b];unfold Fo;rw [if_neg (not_or.2 ⟨j,a.new⟩)];exact⟨_,rfl⟩
theorem ka{te:EF}{x y:A2}{w:W}(h:Kq te x w=some y):(E9 te x w).isSome=true/\A9 (FA te) (En te) x=true/\A9 (FA te) (En te) y=true/\Bc (Cf te) (A4 (A6 te)) y=none/\x.rows <+: y.rows/\x.rows.length < y.rows.length/\∃v,y.cols=x.cols++[v]:=by
 rw [Qi] at h
 cases b:E9 te x w with
 | none=>rw [b] at h;cases h
 | some v=>
  rw [b] at h;have h:(J6 te x v).bind (λu=>Fp te u)=some y:=h
  cases ha:J6 te x v with
  | none=>rw [ha] at h;cases h
  | some u=>
   rw [ha] at h;have h:Fp te u=some y:=h;have c:=VL b ha;obtain⟨j,_,_,rfl,a,_⟩:=SG ha;obtain⟨i,g,f,e,d,k⟩:=fH a h;exact⟨rfl,j,i,g,f,d c,v,e⟩
end Go.Am
namespace Go.Am
open Go Go.Proofs
set_option maxHeartbeats 1000000
set_option maxRecDepth 4000
attribute [local irreducible] A3 Cp Lex Bl Aj Spec
variable {tabs:List (Nat×Obj)}
theorem dp{L:W->Bool}{ls:List UInt8}{t:A2}(g:t.cols=[[]])(c:2<=t.rows.length)(e:(AK L t).Nodup):Bc L ls t=none:=by
 cases d:Bc L ls t with
 | none=>rfl
 | some w=>
  exfalso;have f:=(Iy d).2;obtain⟨a,ha⟩:=get_some (l:=t.rows) (k:=0) (by omega);obtain⟨b,hb⟩:=get_some (l:=t.rows) (k:=1) (by omega);have ne:=c7 e hb ha (by omega);have h:marks L t.cols a∈AK L t:=List.mem_map_of_mem (co ha);have c:marks L t.cols b∈AK L t:=List.mem_map_of_mem (co hb)
  have hk:∀v:W,marks L t.cols v=[RU (L v)]:=λv=>by rw [g];simp [marks]
  rw [hk] at f h c ne;rw [hk] at ne;cases m:L a<;>cases j:L b<;>cases i:L w<;>simp_all
theorem lC(L:W->Bool)(ls:List UInt8):∃u,Bm L ls 13 Bw=some u/\u.cols=[[]]/\u.rows.length<=2:=by
 unfold Bm
 cases h:Bc L ls Bw with
 | none=>exact⟨Bw,rfl,rfl,by decide⟩
 | some w=>
  dsimp only;rw [if_neg (by decide)];unfold Bm;have hk:=(Ny L ls).push h;have a:=dp (ls:=ls) (t:=⟨Bw.rows++[w],Bw.cols⟩) rfl (by simp [Bw]) hk.nd;rw [a];exact⟨_,rfl,rfl,by simp [Bw]⟩
theorem jG{te:EF}(h:CN te=true):∃u,Tp te=some u/\A9 (FA te) (En te) u=true/\Bc (Cf te) (A4 (A6 te)) u=none/\u.cols=[[]]/\u.rows.length<=2/\Cb (Cf te) (A4 (A6 te)) u/\0<=A6 te:=by
 obtain⟨u,e,c,g⟩:=lC (Cf te) (A4 (A6 te));obtain⟨b,d,o,n,m,l,k⟩:=Pb (Ny _ _) e;have ha:=Hc h
 have f:0<=A6 te:=by unfold Bb at ha;simp only [d4,decide_eq_true_eq] at ha;omega
 refine⟨u,by unfold Tp;rw [if_pos h,e],?_,d,c,g,⟨b,GW d⟩,f⟩;rw [<-Du,h,o5];refine JX ha f b (by omega) (by rw [c];decide) (λw a=>?_) (λw a=>by rw [c] at a;simp at a;subst a;simp);obtain⟨i,hi,j⟩:=oW a;have:=b.short i w (by rw [d6 hi,j]);omega
theorem jF(te:EF):Io (FA te) (En te) Bw=Tp te:=by
 have h:=Ur te Bw;unfold Io;refine h.trans ?_;unfold Fp Tp;cases hk:CN te
 ·rfl
 ·have ha:=Hc hk
  have c:0<=A6 te:=by unfold Bb at ha;simp only [d4,decide_eq_true_eq] at ha;omega
  have b:=JV (A6 te);rw [JX ha c (Ny _ _) (by decide) (by decide) (λw a=>by have:=(b.onR w a).2;omega) (λw a=>by simp [Bw] at a;subst a;simp)];rfl
end Go.Am
namespace Go.Am
open Go Go.Proofs
set_option maxHeartbeats 1000000
set_option maxRecDepth 4000
attribute [local irreducible] A3 Cp Lex Bl Aj Spec
abbrev IZ:AY:=⟨0,[],[]⟩
abbrev Dm(s:Sys)(p:AY)(al:Int):EF:=⟨false,IZ,s,p,al⟩
noncomputable def FX(s t:Sys)(p:AY)(al:Int)(a:AY):Option (W×Bool):=match DN s a p with
 | some u=>some (CQ (BS al u),true)
 | none=>match Bx [t] a with
  | some v=>some (CQ (BS al v),false)
  | none=>none
noncomputable def BJ(s:Sys)(p:AY)(al:Int)(x:A2):AY:=A1 (LS ⟨s,p,al⟩) al x
noncomputable def HR(s t:Sys)(p:AY)(al:Int)(x:A2):Option A2:=match FX s t p al (BJ s p al x) with
 | some (w,b)=>if (b || LS ⟨s,p,al⟩ w)=true then Kq (Dm s p al) x w else none
 | none=>none
noncomputable def EJ(s t:Sys)(p:AY)(al:Int):Nat->A2->List A2
 | 0,x=>[x]
 | k+1,x=>x::match HR s t p al x with
  | some y=>EJ s t p al k y
  | none=>[]
structure Vd where
 code:Int
 a:AY
 tr:W
 rd:Int
noncomputable def PA(s t:Sys)(p:AY)(al:Int)(x:A2)(r:Nat):Vd:=match FX s t p al (BJ s p al x) with
 | none=>⟨0,BJ s p al x,[],r⟩
 | some (w,b)=>if (b || LS ⟨s,p,al⟩ w)=true then ⟨2,IZ,[],r⟩ else ⟨1,IZ,ML (Bx [s,t] p),r⟩
noncomputable def ic(s:Sys)(p:AY)(al:Int):A2:=(Tp (Dm s p al)).getD Bw
noncomputable def BN(s t:Sys)(p:AY)(al:Int):List A2:=EJ s t p al 11 (ic s p al)
noncomputable def BG(s t:Sys)(p:AY):Vd:=if AZ s p t < 0 then ⟨3,IZ,[],0⟩ else
 PA s t p (AZ s p t) ((BN s t p (AZ s p t)).getLastD Bw) (BN s t p (AZ s p t)).length
structure GH (s:Sys) (p:AY) (al:Int) (x:A2) (r:Nat):Prop where
 v:A9 (FA (Dm s p al)) (En (Dm s p al)) x=true
 o:Bc (LS ⟨s,p,al⟩) (A4 al) x=none
 rows:r<=x.rows.length
 cols:x.cols.length=r
theorem IS(s:Sys)(p:AY)(al:Int):Cf (Dm s p al)=LS ⟨s,p,al⟩:=by
 funext w;unfold Cf;rw [if_neg pE]
theorem DM(s:Sys)(p:AY)(al:Int):A6 (Dm s p al)=al:=by
 unfold A6;rw [if_neg pE]
theorem TT{s:Sys}{p:AY}{al:Int}(h:Bd ⟨s,p,al⟩=true):Tp (Dm s p al)=some (ic s p al)/\GH s p al (ic s p al) 1:=by
 have hk:CN (Dm s p al)=true:=by unfold CN;rw [if_neg pE];exact h
 obtain⟨u,e,d,a,c,g,b,f⟩:=jG hk;unfold ic;rw [e];refine⟨rfl,d,?_,?_,by show u.cols.length=1;rw [c];rfl⟩
 ·rw [IS,DM] at a;exact a
 ·show 1<=u.rows.length
  have:=(ce.1 b.r0).1;omega
theorem Xm{s t:Sys}{p:AY}{al:Int}{x y:A2}{r:Nat}(a:GH s p al x r)(h:HR s t p al x=some y):GH s p al y (r+1)/\x.rows.length < y.rows.length:=by
 unfold HR at h;split at h
 ·split at h
  ·obtain⟨_,_,e,b,_,d,v,c⟩:=ka h
   have f:=a.rows;have g:=a.cols;rw [IS,DM] at b;exact⟨⟨e,b,by omega,by rw [c];simp;omega⟩,d⟩
  ·cases h
 ·cases h
theorem Ql{s:Sys}{p:AY}{al:Int}{x:A2}{r:Nat}(b:GH s p al x r):x.rows.length<=12/\r<=12:=by
 obtain⟨_,_,_,a,_⟩:=C5 b.v;have:=a.rl;have:=b.rows;omega
theorem Qo{s t:Sys}{p:AY}{al:Int}:∀(k:Nat) {x:A2} {r:Nat},GH s p al x r->∀(i:Nat) (y:A2),(EJ s t p al k x)[i]? = some y->GH s p al y (r+i)
 | 0,x,r,a,i,y,h=>by
  cases i with
  | zero=>simp [EJ] at h;subst h;exact a
  | succ i=>simp [EJ] at h
 | k + 1,x,r,a,i,y,h=>by
  cases i with
  | zero=>simp [EJ] at h;subst h;exact a
  | succ i=>
   simp only [EJ,rC] at h
   cases b:HR s t p al x with
   | none=>rw [b] at h;simp at h
   | some z=>
    rw [b] at h;have:=Qo k (Xm a b).1 i y h;rwa [show r+1+i=r+(i+1) by omega] at this
theorem eZ{s t:Sys}{p:AY}{al:Int}(k:Nat)(x:A2):EJ s t p al k x≠[]:=by cases k<;>simp [EJ]
theorem Qn{s t:Sys}{p:AY}{al:Int}:∀(k:Nat) {x:A2} {r:Nat},GH s p al x r->12<=k+r->∀(i:Nat) (y:A2),(EJ s t p al k x)[i]? = some y->(EJ s t p al k x)[i+1]? = HR s t p al y
 | 0, x,r,b,hk,i,y,h=>by
  cases i with
  | zero=>
   simp [EJ] at h;subst h
   cases a:HR s t p al x with
   | none=>simp [EJ]
   | some z=>
    have:=Ql (Xm b a).1;omega
  | succ i=>simp [EJ] at h
 | k + 1,x,r,b,hk,i,y,h=>by
  simp only [EJ] at h |-
  cases a:HR s t p al x with
  | none=>
   rw [a] at h
   cases i with
   | zero=>simp at h;subst h;simp [a]
   | succ i=>simp at h
  | some z=>
   rw [a] at h
   cases i with
   | zero=>
    simp at h;subst h;rw [a];cases k<;>simp [EJ]
   | succ i=>
    simp only [rC] at h |-;exact Qn k (Xm b a).1 (by omega) i y h
section
variable {s t:Sys}{p:AY}{al:Int}(hI:Fe s p t al)
include hI
theorem run_get{i:Nat}{x:A2}(h:(BN s t p al)[i]? = some x):GH s p al x (i+1)/\(BN s t p al)[i+1]? = HR s t p al x:=by
 obtain⟨_,b⟩:=TT (ER hI);have a:=Qo 11 b i x h;rw [ry] at a;exact⟨a,Qn 11 b (by omega) i x h⟩
theorem ID:1<=(BN s t p al).length/\(BN s t p al).length<=12:=by
 have a:BN s t p al≠[]:=eZ 11 _;have c:1<=(BN s t p al).length:=rX.2 a;obtain⟨x,b⟩:=get_some (l:=BN s t p al) (k:=(BN s t p al).length - 1) (by omega);have:=(Ql (run_get hI b).1).2;omega
theorem eD:∃x,(BN s t p al).getLastD Bw=x/\GH s p al x (BN s t p al).length/\HR s t p al x=none:=by
 have d:=ID hI;obtain⟨x,a⟩:=get_some (l:=BN s t p al) (k:=(BN s t p al).length - 1) (by omega);obtain⟨c,b⟩:=run_get hI a;rw [show (BN s t p al).length - 1+1=(BN s t p al).length by omega] at c b;refine⟨x,?_,c,?_⟩
 ·rw [List.getLastD_eq_getLast?,List.getLast?_eq_getElem?,a];rfl
 ·rw [<-b];simp
theorem RK:¬AZ s p t < 0:=by
 have:=Pp hI;rw [hI.hal] at this;unfold Bb at this;simp only [decide_eq_true_eq] at this;omega
theorem Hu{x:A2}{r:Nat}(c:GH s p al x r):AI (BJ s p al x)=true/\(BJ s p al x).al=al/\(BJ s p al x).nx.length=x.rows.length/\Cb (LS ⟨s,p,al⟩) (A4 al) x:=by
 obtain⟨_,_,d,b,_⟩:=C5 c.v;have hk:=Hd d;rw [IS,DM] at hk
 have a:Cb (LS ⟨s,p,al⟩) (A4 al) x:=⟨hk,GW c.o⟩
 exact⟨Ow (Pp hI) a b.rl,rfl,by simp [BJ,A1],a⟩
theorem bx{x:A2}{r:Nat}(b:GH s p al x r):CU s (BJ s p al x) p=true/\(AU [t] && AI (BJ s p al x))=true:=by
 obtain⟨a,_⟩:=Hu hI b;exact⟨by unfold CU;rw [hI.hs,a,hI.hp];rfl,by rw [Fw,hI.ht,a];rfl⟩
theorem ZO{x:A2}{r:Nat}(a:GH s p al x r):(FX s t p al (BJ s p al x)=none↔GM s t p (BJ s p al x)=0)/\(GM s t p (BJ s p al x)=0\/GM s t p (BJ s p al x)=3\/GM s t p (BJ s p al x)=4):=by
 obtain⟨f,e,_⟩:=Hu hI a;obtain⟨c,b⟩:=bx hI a;have d:=RK hI
 have hal:(BJ s p al x).al=AZ s p t:=by rw [e,hI.hal]
 unfold GM;rw [if_neg (not_or.2 ⟨d,by rw [f];simp⟩),if_neg (λh=>h hal)];unfold FX Jj Cs;rw [c,b,o5,o5]
 cases DN s (BJ s p al x) p with
 | some u=>simp
 | none=>
  cases Bx [t] (BJ s p al x) with
  | some v=>simp
  | none=>simp
theorem kj:∃x,GH s p al x (BN s t p al).length/\HR s t p al x=none/\BG s t p=PA s t p al x (BN s t p al).length:=by
 obtain⟨x,c,b,a⟩:=eD hI;refine⟨x,b,a,?_⟩;unfold BG;rw [if_neg (RK hI),<-hI.hal,c]
theorem Ig:∃x,GH s p al x (BN s t p al).length/\HR s t p al x=none/\
    ((BG s t p=⟨0,BJ s p al x,[],(BN s t p al).length⟩/\GM s t p (BJ s p al x)=0)\/
     (BG s t p=⟨2,IZ,[],(BN s t p al).length⟩/\∃w b,FX s t p al (BJ s p al x)=some (w,b)/\(b || LS ⟨s,p,al⟩ w)=true/\Kq (Dm s p al) x w=none)\/
     (BG s t p=⟨1,IZ,ML (Bx [s,t] p),(BN s t p al).length⟩/\Cs [s,t] p=false/\(Bx [s,t] p).isSome=true)):=by
  obtain⟨x,e,c,i⟩:=kj hI;refine⟨x,e,c,?_⟩;rw [i];unfold PA;have h:=ZO hI e;unfold HR at c
  cases a:FX s t p al (BJ s p al x) with
  | none=>exact .inl ⟨rfl,h.1.1 a⟩
  | some wb=>
    obtain⟨w,b⟩:=wb;rw [a] at c;simp only at c |-;by_cases hb:(b || LS ⟨s,p,al⟩ w)=true
    · rw [if_pos hb] at c |-
      exact .inr (.inl ⟨rfl,w,b,rfl,hb,c⟩)
    · rw [if_neg hb]
      refine .inr (.inr ⟨rfl,?_⟩)
      have hb:b=false/\LS ⟨s,p,al⟩ w=false:=by simpa using hb
      unfold FX at a;split at a
      · injection a with a;injection a with _ a;rw [hb.1] at a;cases a
      · split at a
        · rename_i v f
          injection a with a;injection a with a _
          subst a;obtain⟨n,m,k,j,l⟩:=Hk f;have hk:=TY hI k j hb.2;refine⟨hk,?_⟩;unfold Cs at hk
          have d:(AU [s,t] && AI p)=true:=by rw [CW,hI.hs,hI.ht,hI.hp];rfl
          rw [d,o5] at hk
          cases g:Bx [s,t] p with
          | none=>rw [g] at hk;cases hk
          | some _=>rfl
        · cases a
theorem aM{x:A2}{r:Nat}(f:GH s p al x r){w:W}{b:Bool}(h:FX s t p al (BJ s p al x)=some (w,b))(hb:(b || LS ⟨s,p,al⟩ w)=true):AS (A4 al) w/\LA (BJ s p al x) w≠LS ⟨s,p,al⟩ w:=by
 obtain⟨k,e,_,j⟩:=Hu hI f;unfold FX at h;split at h
 ·rename_i u i
  injection h with h;injection h with h d
  subst h;obtain⟨c,a,l⟩:=Qy hI k e i;exact⟨TW c,by rw [a,l];simp⟩
 ·split at h
  ·rename_i v g
   injection h with h;injection h with h d
   subst h d;obtain⟨c,a⟩:=O6 g;rw [e] at c a;rw [qR] at hb;exact⟨TW c,by rw [a,hb];simp⟩
  ·cases h
end
theorem Su{s:Sys}{a p:AY}{w:List Int}(h:DN s a p=some w):w.length<=2304:=by
 obtain⟨b,_⟩:=La h;unfold DN at h;rw [if_pos b] at h;obtain⟨c,hk,d⟩:=OH b;have hi:=Dp (Eb (Ec s a p));rw [h] at hi;have e:=hi.short (Pn c d);have f:(Eb (Ec s a p)).N=(s.st*((a.nx.length:Int)*((p.nx.length:Int)*1))).toNat:=rfl;unfold CU at b;simp only [d4] at b;have l:=AN b.1.1;have k:=AE b.1.2;have j:=AE b.2;have i:(a.nx.length:Int)*((p.nx.length:Int)*1)<=12*12:=pe (by omega) (by omega) (by omega) (by omega)
 have g:s.st*((a.nx.length:Int)*((p.nx.length:Int)*1))<=16*144:=pe (by omega) (by omega) (by
  have:0<=(a.nx.length:Int)*((p.nx.length:Int)*1):=ph (by omega) (by omega)
  exact this) (by omega)
 omega
theorem Sr{t:Sys}{a:AY}{w:List Int}(h:Bx [t] a=some w):w.length<=192:=by
 obtain⟨d,c,_⟩:=Hk h
 have b:(AU [t] && AI a)=true:=by rw [Fw,d,c];rfl
 unfold Bx at h;rw [if_pos b] at h;obtain⟨e,hk,f⟩:=OG b;have hi:=Dp (Eb (CP [t] a));rw [h] at hi;have g:=hi.short (Pn e f);have i:(Eb (CP [t] a)).N=(t.st*((a.nx.length:Int)*1)).toNat:=rfl;have l:=AN d;have k:=AE c;have j:t.st*((a.nx.length:Int)*1)<=16*12:=pe (by omega) (by omega) (by omega) (by omega);omega
theorem VV(al:Int)(u:List Int):(CQ (BS al u)).length<=u.length:=by
 unfold CQ BS;rw [ge];exact p8 _ _
theorem Mh{s t:Sys}{p a:AY}{al:Int}{w:W}{b:Bool}(h:FX s t p al a=some (w,b)):w.length<=4000:=by
 unfold FX at h;split at h
 ·rename_i u d
  injection h with h;injection h with h e
  have:=Su d;have:=VV al u;rw [<-h];omega
 ·split at h
  ·rename_i v c
   injection h with h;injection h with h e
   have:=Sr c;have:=VV al v;rw [<-h];omega
  ·cases h
section
variable {s t:Sys}{p:AY}{al:Int}(hI:Fe s p t al)
include hI
theorem XJ:CN (Dm s p al)=true:=by unfold CN;rw [if_neg pE];exact ER hI
theorem eX{n:Nat}(f:Fin (LS ⟨s,p,al⟩) (A4 al) n)(A:n<=12){x:A2}{r:Nat}(a:GH s p al x r){w:W}(i:AS (A4 al) w)(B:w.length<=4000)(F:LA (BJ s p al x) w≠LS ⟨s,p,al⟩ w):Kq (Dm s p al) x w≠none:=by
 have q:=XJ hI;obtain⟨_,_,_,g⟩:=Hu hI a
 have G:(CN (Dm s p al) && BB (Cf (Dm s p al)) (A6 (Dm s p al)) x)=true:=by
  rw [MP a.v,IS,DM,a.o];rfl
 have e:Fs (A6 (Dm s p al)) w=true:=by rw [DM];exact OE (Pp hI) i B
 have d:Kt (LS ⟨s,p,al⟩) x w≠LS ⟨s,p,al⟩ w:=by rw [<-Ou g i];exact F
 have b:=bh G e;rw [IS,decide_eq_true d] at b;obtain⟨v,j⟩:=Option.isSome_iff_exists.1 b;have z:=Ql a;obtain⟨u,k⟩:=bk j (by have:=a.cols;omega);obtain⟨_,_,_,_,c,_⟩:=SG k;obtain⟨l,H,h,t,_⟩:=C5 c;have hk:=Hd h;rw [IS,DM] at hk;obtain⟨y,m,_⟩:=RB f A 13 u hk (by omega);rw [Qi,j]
 show ((J6 (Dm s p al) x v).bind λu=>Fp (Dm s p al) u)≠none
 rw [k]
 show Fp (Dm s p al) u≠none
 unfold Fp;rw [l,h,rK,if_pos rfl,IS,DM,m];simp
theorem Zy{n:Nat}(f:Fin (LS ⟨s,p,al⟩) (A4 al) n)(k:n<=12):(BG s t p).code≠2/\(BG s t p).rd<=n/\(BG s t p).a.nx.length<=n:=by
 obtain⟨x,c,j,l⟩:=Ig hI;obtain⟨_,_,h,d⟩:=Hu hI c;have g:=d.toTOk.ky f;have u:=c.rows
 rcases l with ⟨e,_⟩|⟨e,w,b,i,o,m⟩|⟨e,_⟩
 ·rw [e];exact⟨show (0:Int)≠2 by decide,show ((BN s t p al).length:Int)<=n by omega,by show (BJ s p al x).nx.length<=n;omega⟩
 ·obtain⟨r,q⟩:=aM hI c i o
  exact absurd m (eX hI f k c r (Mh i) q)
 ·rw [e];exact⟨show (1:Int)≠2 by decide,show ((BN s t p al).length:Int)<=n by omega,by show 0<=n;omega⟩
end
theorem ZD{g g':Gr}(c:g.ls=g'.ls)(d:∀w,over g w->(QP g w↔QP g' w)):Dd g=Dd g':=by
 have b:∀w,over g w↔over g' w:=λw=>by unfold over;rw [c]
 refine O2 ?_;have hi:=Dp g'
 cases f:Dd g' with
 | none=>
  rw [f] at hi;exact λu a h=>hi u ((b u).1 a) ((d u a).1 h)
 | some w=>
  rw [f] at hi;obtain⟨k,j,i⟩:=hi;have e:=(b w).2 k;exact⟨e,(d w e).2 j,λu a h=>i u ((b u).1 a) ((d u a).1 h)⟩
theorem Km{a b:Int}(h:∀n,n < 6->AX a n=AX b n):Ac a=Ac b:=by
 unfold Ac AJ;congr 1;exact qA λn c=>h n (oJ.1 c)
theorem Ob{l l':List Sys}{p p':AY}(f:(AU l && AI p)=(AU l' && AI p'))(e:(AU l && AI p)=true->Ac (Bv l)=Ac (Bv l'))(h:(AU l && AI p)=true->∀w,GV w->((∀s∈l,Eg s w)/\C6 p w=false↔(∀s∈l',Eg s w)/\C6 p' w=false)):Bx l p=Bx l' p':=by
 unfold Bx;rw [<-f];by_cases a:(AU l && AI p)=true
 ·rw [if_pos a,if_pos a]
  have b:(Eb (CP l p)).ls=(Eb (CP l' p')).ls:=e a;refine ZD b λw d=>?_;have c:over (Eb (CP l' p')) w:=λm g=>b ▸ d m g;rw [cM a d,cM (f ▸ a) c];exact h a w (EX (al:=Bv l) d)
 ·rw [if_neg a,if_neg a]
theorem Qv(s t:Sys)(p:AY):Bx [s,t] p=Bx [t,s] p:=by
 have c:(AU [s,t] && AI p)=(AU [t,s] && AI p):=by rw [CW,CW,Bool.and_comm (AV s)]
 refine Ob c (λb=>?_) (λ_ w _=>?_)
 ·rw [CW] at b
  simp only [d4] at b
  exact Km λn d=>by rw [Lp b.1.1 b.1.2 (by omega),Lp b.1.2 b.1.1 (by omega),Bool.or_comm]
 ·rw [Mx,Mx,and_comm (a:=Eg s w)]
theorem Ji(s t:Sys)(p:AY):Cs [s,t] p=Cs [t,s] p:=by
 unfold Cs;rw [Qv,CW,CW,Bool.and_comm (AV s)]
theorem Pq(s t:Sys)(p:AY):(AZ s p t < 0)↔(AZ t p s < 0):=by
 have key:∀(s t:Sys),¬AZ s p t < 0->¬AZ t p s < 0:=λs t h=>by
  have a:(AV s && AI p && AV t)=true:=by
   unfold AZ at h;split at h
   ·assumption
   ·omega
  simp only [d4] at a;exact RK ⟨a.2,a.1.2,a.1.1,rfl⟩
 exact⟨λh=>Classical.byContradiction λb=>key t s b h,λh=>Classical.byContradiction λb=>key s t b h⟩
theorem FO{s t:Sys}{p:AY}(h:¬AZ s p t < 0):Fe s p t (AZ s p t):=by
 have a:(AV s && AI p && AV t)=true:=by
  unfold AZ at h;split at h
  ·assumption
  ·omega
 simp only [d4] at a;exact⟨a.1.1,a.1.2,a.2,rfl⟩
theorem Ih{s t:Sys}{p:AY}(h:¬AZ s p t < 0):((BG s t p).code=0/\Cs [s,t] p=true/\(BG s t p).tr=[])\/((BG s t p).code=2/\(BG s t p).tr=[])\/((BG s t p).code=1/\Cs [s,t] p=false/\(BG s t p).tr=ML (Bx [s,t] p)):=by
 obtain⟨x,c,_,b⟩:=Ig (FO h)
 rcases b with ⟨e,a⟩|⟨e,_⟩|⟨e,hk,_⟩
 ·rw [e];exact .inl ⟨rfl,(NM a).1,rfl⟩
 ·rw [e];exact .inr (.inl ⟨rfl,rfl⟩)
 ·rw [e];exact .inr (.inr ⟨rfl,hk,rfl⟩)
theorem OV{s t:Sys}{p:AY}(h:AZ s p t < 0):BG s t p=⟨3,IZ,[],0⟩:=by unfold BG;rw [if_pos h]
theorem kl(s t:Sys)(p:AY):((BG s t p).code=(BG t s p).code/\(BG s t p).tr=(BG t s p).tr)\/(BG s t p).code=2\/(BG t s p).code=2:=by
 by_cases h:AZ s p t < 0
 ·rw [OV h,OV ((Pq s t p).1 h)];exact .inl ⟨rfl,rfl⟩
 ·have g:¬AZ t p s < 0:=λi=>h ((Pq s t p).2 i)
  rcases Ih h with ⟨e,d,f⟩|⟨e,_⟩|⟨e,d,f⟩
  ·rcases Ih g with ⟨a,c,b⟩|⟨a,_⟩|⟨a,c,b⟩
   ·exact .inl ⟨by rw [e,a],by rw [f,b]⟩
   ·exact .inr (.inr a)
   ·rw [Ji,c] at d;cases d
  ·exact .inr (.inl e)
  ·rcases Ih g with ⟨a,c,b⟩|⟨a,_⟩|⟨a,c,b⟩
   ·rw [Ji,c] at d;cases d
   ·exact .inr (.inr a)
   ·exact .inl ⟨by rw [e,a],by rw [f,b,Qv]⟩
abbrev HA:Sys:=⟨0,1,[]⟩
theorem eJ:AV HA=true:=by decide
theorem Zl:∀(w:List Int),GV w->Eg HA w:=λw a=>by
 refine⟨0,?_⟩
 induction w with
 | nil=>rfl
 | cons l w b=>
  have d:=a l (by simp);refine⟨0,?_,b λm c=>a m (by simp [c])⟩
  show (0:Int)∈BH HA 0 l
  unfold BH;rw [if_neg (by rw [show (HA).al=0 from rfl,HJ _ (by omega)];simp)];simp
theorem Ss(s:Sys)(p:AY):Bx [s,HA] p=Bx [s] p:=by
 have e:(AU [s,HA] && AI p)=(AU [s] && AI p):=by rw [CW,Fw,eJ,Bool.and_true]
 refine Ob e (λa=>?_) (λ_ w d=>?_)
 ·rw [CW] at a
  simp only [d4] at a
  exact Km λn f=>by rw [Lp a.1.1 a.1.2 (by omega),SL a.1.1 (by omega),show (HA).al=0 from rfl,HJ _ (by omega),Bool.or_false]
 ·rw [Mx,Tu]
  exact⟨λ⟨⟨c,_⟩,b⟩=>⟨c,b⟩,λ⟨c,b⟩=>⟨⟨c,Zl w d⟩,b⟩⟩
theorem KG(s:Sys)(p:AY):Cs [s,HA] p=Cs [s] p:=by
 unfold Cs;rw [Ss,CW,Fw,eJ,Bool.and_true]
theorem TX{t:CO}(ht:Bd t=true){w:List Int}(b:∀l∈w,l∈Ac t.al):LS t (CQ w)=true↔∀u,Sq t u->BS t.al u <+: w->Eg t.s u->C6 t.q u=true:=by
 constructor
 ·intro h u a f e
  cases d:C6 t.q u
  ·rw [(II ht b).2 ⟨u,a,f,e,d⟩] at h;cases h
  ·rfl
 ·intro h
  cases a:LS t (CQ w)
  ·obtain⟨u,j,i,g,c⟩:=(II ht b).1 a
   rw [h u j i g] at c;cases c
  ·rfl
section
variable {t:Sys}{p:AY}{al:Int}(hI:Fe HA p t al)
include hI
theorem eK{u:List Int}(h:Sq ⟨HA,p,al⟩ u):∀l∈u,l∈Ac al:=λl b=>by
 rcases h l b with a|a
 ·have:=DC (ER hI) a
  rw [show (HA).al=0 from rfl,HJ _ (by omega)] at this;cases this.2.2
 ·exact a
theorem Mk{w:List Int}(c:∀l∈w,l∈Ac al):LS ⟨HA,p,al⟩ (CQ w)=true↔∀u,u <+: w->C6 p u=true:=by
 rw [TX (ER hI) c];constructor
 ·intro h u d
  have a:∀l∈u,l∈Ac al:=λl b=>c l (d.subset b);exact h u (λl b=>.inr (a l b)) (by rw [Zz a];exact d) (Zl u (EX a))
 ·intro h u f e _
  have a:=eK hI f;rw [Zz a] at e;exact h u e
theorem Zk{u v:List Int}(f:∀l∈u,l∈Ac al)(g:∀l∈v,l∈Ac al):LS ⟨HA,p,al⟩ (CQ (u++v))=true↔LS ⟨HA,p,al⟩ (CQ u)=true/\∀v',v' <+: v->SD p (Cn (fA p) (Cn (fA p) 0 u) v')=true:=by
 have d:∀l∈u++v,l∈Ac al:=λl e=>by
  rcases em.1 e with h|h
  ·exact f l h
  ·exact g l h
 rw [Mk hI d,Mk hI f];constructor
 ·intro h
  refine⟨λx a=>h x (a.trans (p9 _ _)),λv' c=>?_⟩;have:=h (u++v') ((rZ u).2 c);unfold C6 at this;rwa [HY] at this
 ·rintro⟨j,i⟩ x a
  rcases oY u.length x.length with e|e
  ·have b:u <+: x:=rR (p9 _ _) a (by omega)
   obtain⟨v',rfl⟩:=b;have:=i v' ((rZ u).1 a);unfold C6;rwa [HY]
  ·exact j x (rR a (p9 _ _) (by omega))
open Classical in
noncomputable def XB(p:AY)(al:Int)(w:W):Nat:=if LS ⟨HA,p,al⟩ w=true then (EA p 0 w).toNat else if h:∃q:Nat,q < p.nx.length/\SD p q=false then Classical.choose h else 0
noncomputable def g8:Fin (LS ⟨HA,p,al⟩) (A4 al) p.nx.length where
 st w:=XB p al w
 lt w z:=by
  have H:=AE hI.hp;unfold XB;split
  ·have:=OP hI.hp w 0 z (by omega);omega
  ·split
   ·rename_i h;exact(qy h).1
   ·omega
 same u w v G z F f:=by
  obtain⟨u,b,rfl⟩:=Xo G;obtain⟨w,a,rfl⟩:=Xo z;obtain⟨v,o,rfl⟩:=Xo F;have H:=AE hI.hp
  have e:∀x y:List Int,CQ x++CQ y=CQ (x++y):=λx y=>by simp [CQ]
  have g:∀ {x:List Int},(∀l∈x,l∈Ac al)->EA p 0 (CQ x)=Cn (fA p) 0 x:=λ{x} c=>by
   have : ∀(x:List Int) (q:Int),(∀l∈x,l∈Ac al)->EA p q (CQ x)=Cn (fA p) q x:=λx=>by
    induction x with
    | nil=>exact λq _=>rfl
    | cons l x B=>
     intro q c;have A:=Al (c l (by simp))
     show EA p (CB p q.toNat (((lb l).toNat:Int) - 97)) (CQ x)=Cn (fA p) (CB p q.toNat l) x
     rw [KK A.1 (by omega)];exact B _ λm I=>c m (by simp [I])
   exact this x 0 c
  have d:∀ {x:List Int},(∀l∈x,l∈Ac al)->0<=Cn (fA p) 0 x/\Cn (fA p) 0 x < p.nx.length:=λ{x} c=>OQ hI.hp (EX c) ⟨by omega,by omega⟩;have n:∀ {x:List Int},(∀l∈x,l∈Ac al)->LS ⟨HA,p,al⟩ (CQ x)=true->SD p (Cn (fA p) 0 x)=true:=λ{x} c h=>(Mk hI c).1 h x (qL _)
  have k:∀ {x:List Int},(∀l∈x,l∈Ac al)->LS ⟨HA,p,al⟩ (CQ x)=false->∃q:Nat,q < p.nx.length/\SD p q=false:=λ{x} c h=>by
   have:¬∀y,y <+: x->C6 p y=true:=λi=>by rw [(Mk hI c).2 i] at h;cases h
   have:∃y,y <+: x/\C6 p y=false:=Classical.byContradiction λi=>this λy t=>by
    cases j:C6 p y
    ·exact absurd ⟨y,t,j⟩ i
    ·rfl
   obtain⟨y,t,j⟩:=this;have K:=d λl A=>c l (t.subset A);exact⟨(Cn (fA p) 0 y).toNat,by omega,by rw [show (((Cn (fA p) 0 y).toNat:Nat):Int)=Cn (fA p) 0 y by omega];exact j⟩
  rw [e,e,pY,Zk hI b o,Zk hI a o];unfold XB at f;cases s:LS ⟨HA,p,al⟩ (CQ u)<;>cases j:LS ⟨HA,p,al⟩ (CQ w)
  ·simp
  ·rw [s,j] at f
   have r:=k b s;simp only [qb,if_false,if_true,r,dite_true] at f;have i:=(qy r).2;rw [f,g a,show (((Cn (fA p) 0 w).toNat:Nat):Int)=Cn (fA p) 0 w by have:=d a;omega,n a j] at i;cases i
  ·rw [s,j] at f
   have r:=k a j;simp only [qb,if_false,if_true,r,dite_true] at f;have i:=(qy r).2;rw [<-f,g b,show (((Cn (fA p) 0 u).toNat:Nat):Int)=Cn (fA p) 0 u by have:=d b;omega,n b s] at i;cases i
  ·rw [s,j] at f
   simp only [if_true] at f;rw [g b,g a] at f;have M:=d b;have L:=d a
   have J:Cn (fA p) 0 u=Cn (fA p) 0 w:=by omega
   rw [J]
end
theorem kk{t:Sys}{p:AY}(h:¬AZ HA p t < 0):(BG HA t p).code≠2/\((BG HA t p).code=0↔Cs [t] p=true):=by
 have hI:=FO h;have d:=AE hI.hp;obtain⟨c,_,_⟩:=Zy hI (g8 hI) (by omega);refine⟨c,?_⟩;rw [<-KG,Ji t HA]
 rcases Ih h with ⟨a,b,_⟩|⟨a,_⟩|⟨a,b,_⟩
 ·rw [a,b];simp
 ·exact absurd a c
 ·rw [a,b];simp
theorem c6{al:Int}(h:∀n,n < 6->AX al n=false):A4 al=[]:=by
 unfold A4 Ac AJ;rw [qV.2 λn a=>by rw [h n (oJ.1 a)];simp];rfl
theorem dA{w:W}(h:AS [] w):w=[]:=by
 cases w with
 | nil=>rfl
 | cons c w=>exact absurd (h c (by simp)) rf
def fN(L:W->Bool):Fin L [] 1 where
 st _:=0
 lt _ _:=by omega
 same u w v b a _ _:=by rw [dA b,dA a]
theorem kF{s:Sys}{p:AY}(h:¬AZ s p HA < 0):(BG s HA p).rd=1/\(((BG s HA p).code=0/\Bx [s] p=none/\(BG s HA p).a.nx.length=1)\/((BG s HA p).code=1/\(Bx [s] p).isSome=true/\(BG s HA p).tr=ML (Bx [s] p))):=by
 have hI:=FO h
 have k:A4 (AZ s p HA)=[]:=c6 λn t=>by rw [WM hI (by omega),show (HA).al=0 from rfl,HJ _ (by omega),Bool.and_false]
 have b:=Zy hI (n:=1) (by rw [k];exact fN _) (by omega);have u:=ID hI;obtain⟨x,g,_,j⟩:=Ig hI;obtain⟨_,_,i,o⟩:=Hu hI g;have r:=g.rows;rw [Ss,KG] at j
 rcases j with ⟨e,d⟩|⟨e,_⟩|⟨e,hk,l⟩
 ·rw [e] at b |-
  obtain⟨q,c,f⟩:=b;have c:((BN s HA p (AZ s p HA)).length:Int)<=1:=c;have f:(BJ s p (AZ s p HA) x).nx.length<=1:=f;have hk:=(NM d).1;rw [KG] at hk;refine⟨show ((BN s HA p (AZ s p HA)).length:Int)=1 by omega,.inl ⟨rfl,?_,show (BJ s p (AZ s p HA) x).nx.length=1 by omega⟩⟩;unfold Cs at hk
  cases m:Bx [s] p with
  | none=>rfl
  | some v=>rw [m] at hk;simp at hk
 ·rw [e] at b;exact absurd rfl b.1
 ·rw [e] at b |-
  obtain⟨q,c,f⟩:=b;have c:((BN s HA p (AZ s p HA)).length:Int)<=1:=c;exact⟨show ((BN s HA p (AZ s p HA)).length:Int)=1 by omega,.inr ⟨rfl,l,rfl⟩⟩
end Go.Am
namespace Go.Am
open Go Go.Proofs
set_option maxHeartbeats 1000000
set_option maxRecDepth 4000
attribute [local irreducible] A3 Cp Lex Bl Aj Spec
variable {tabs:List (Nat×Obj)}
end Go.Am
namespace Go.Am
open Go Go.Proofs
set_option maxHeartbeats 1000000
set_option maxRecDepth 4000
attribute [local irreducible] A3 Cp Lex Bl Aj Spec
set_option linter.unusedSectionVars false
section
variable {s t s' t':Sys}{p p':AY}{al:Int}(hI:Fe s p t al)(hI':Fe s' p' t' al)(hL:Ua (LS ⟨s',p',al⟩) (LS ⟨s,p,al⟩) al)
include hI hI' hL
end
theorem TJ{s t:Sys}{p:AY}{al:Int}(hI:Fe s p t al){x:A2}{r:Nat}(c:GH s p al x r){w:W}{b:Bool}(h:FX s t p al (BJ s p al x)=some (w,b)):AS (A4 al) w:=by
 obtain⟨g,a,_⟩:=Hu hI c;unfold FX at h;split at h
 ·rename_i u e
  injection h with h;injection h with h f
  subst h;exact TW (Qy hI g a e).1
 ·split at h
  ·rename_i v d
   injection h with h;injection h with h f
   subst h;have:=(O6 d).1;rw [a] at this;exact TW this
  ·cases h
end Go.Am
namespace Go.Am
open Go Go.Proofs
set_option linter.unusedVariables false
theorem VO{s t:Sys}{p:AY}{al:Int}:∀(k:Nat) (x:A2),(EJ s t p al k x).length<=k+1
 | 0,x=>by simp [EJ]
 | k+1,x=>by
  simp only [EJ]
  cases HR s t p al x with
  | none=>simp
  | some y=>have:=VO (s:=s) (t:=t) (p:=p) (al:=al) k y;simp only [o9];omega
def Um(s t:Sys)(p:AY)(al:Int)(x:A2)(v:W):Prop:=NH (A4 al) x v\/∃w b,FX s t p al (BJ s p al x)=some (w,b)/\(v=w\/Yv (LS ⟨s,p,al⟩) (A4 al) x w v)
theorem Zh{s t:Sys}{p:AY}{al:Int}(h:Bd ⟨s,p,al⟩=true){x:A2}(a:x∈BN s t p al):∃r,GH s p al x r:=by
 obtain⟨i,hi⟩:=List.mem_iff_getElem?.1 a;exact⟨_,Qo 11 (TT h).2 i x hi⟩
theorem TU{s:Sys}{p:AY}{al:Int}{x:A2}{r:Nat}(b:GH s p al x r):He al 20000 x:=by
 obtain⟨_,_,_,a,_⟩:=C5 b.v;have:=a.bd;rwa [DM] at this
section
variable {s t:Sys}{p:AY}{al:Int}(hI:Fe s p t al)(h:Bd ⟨s,p,al⟩=true)
include hI h
theorem ZE{x:A2}(g:x∈BN s t p al):EK 288238 (Um s t p al x):=by
 obtain⟨r,e⟩:=Zh h g;have hb:=TU e;refine((MU hb).or (b:=286474) ?_).sub (b:=288238) (λv c=>c) (by omega)
 cases f:FX s t p al (BJ s p al x) with
 | none=>exact .none λv ⟨w,b,a,_⟩=>by cases a
 | some wb=>
  obtain⟨w,b⟩:=wb;have d:=TJ hI e f;have i:=Mh f;refine((EK.map (n:=1) (p:=λv=>v=w) (λ_:Unit=>w) [()] (by simp) λv c=>⟨(),by simp,c⟩).or (ZP (L:=LS ⟨s,p,al⟩) hb d (by omega))).sub (b:=286474) (λv ⟨w',b',a,c⟩=>?_) (by omega)
  injection a with a
  injection a with a _
  subst a;exact c
theorem fC{x:A2}(k:x∈BN s t p al)(v:W)(a:Um s t p al x v):okB al v:=by
 obtain⟨r,f⟩:=Zh h k;have hb:=TU f
 rcases a with a|⟨w,b,g,a⟩
 ·exact hb.on (Jq al) (by omega) v a
 ·have d:=TJ hI f g
  have e:=Mh g
  rcases a with rfl|a
  ·exact⟨d,by omega⟩
  ·rcases a with a|a|⟨z,i,u,l,y,j,a⟩
   ·exact hb.on (Jq al) (by omega) v a
   ·exact(hb.mono (by omega)).ot (Jq al) d (by omega) v a
   ·obtain⟨q,_,rfl⟩:=IG i
    exact(SE hb (λc m=>d c (by simp [m])) (by simp at e;omega) l).nP (Jq al) (by omega) y j v a
theorem fB:∃ok:W->Prop,(∀w,ok w->kD al w)/\TV (Dm s p al) ok/\(∀y∈EP (LS ⟨s,p,al⟩) (A4 al) 13 Bw,I0 ok (A4 al) y)/\
 ∀x∈BN s t p al,I0 ok (A4 al) x/\∀w b,FX s t p al (BJ s p al x)=some (w,b)->ok w/\∀v,Yv (LS ⟨s,p,al⟩) (A4 al) x w v->ok v:=by
 have i:=RE (L:=LS ⟨s,p,al⟩) (JV al);have g:EK (12*288238) (λv=>∃x∈BN s t p al,Um s t p al x v):=EK.ex (n:=12) (b:=288238) (q:=λx v=>Um s t p al x v) (BN s t p al) (VO 11 _) (λx c=>ZE hI h c) λw d=>d;have l:=i.or g
 have e:∀w,((∃y∈EP (LS ⟨s,p,al⟩) (A4 al) 13 Bw,NH (A4 al) y w)\/∃x∈BN s t p al,Um s t p al x w)->okB al w:=λw d=>by
  rcases d with ⟨y,f,a⟩|⟨x,c,a⟩
  ·exact(JV al).nP (Jq al) (by omega) y f w a
  ·exact fC hI h c w a
 obtain⟨k,m⟩:=ij (te:=Dm s p al) l (by omega) (λw d=>by rw [DM];exact e w d);rw [DM] at k;exact⟨_,k,m,λy f v a=>.inl ⟨y,f,a⟩,λx c=>⟨λv a=>.inr ⟨x,c,.inl a⟩,λw b j=>⟨.inr ⟨x,c,.inr ⟨w,b,j,.inl rfl⟩⟩,λv a=>.inr ⟨x,c,.inr ⟨w,b,j,.inr a⟩⟩⟩⟩⟩
end
end Go.Am
namespace Go.Am
open Go Go.Proofs
set_option maxHeartbeats 1000000
set_option maxRecDepth 4000
attribute [local irreducible] A3 Cp Lex Bl Aj Spec
end Go.Am
