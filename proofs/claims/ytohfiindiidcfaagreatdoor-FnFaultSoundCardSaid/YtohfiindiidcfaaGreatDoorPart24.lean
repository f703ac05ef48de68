/-
  The program's graph is the reference's.
-/
import Derived.Test.YtohfiindiidcfaaGreatDoorPart23
import Derived.Test.YtohfiindiidcfaaGreatDoorPart22
set_option linter.all false
namespace Go.Am
open Go
theorem Gi{g g':Gr}(d:HJ g)(c:g.ls=g'.ls)(e:∀x:Int,0<=x/\x < g.N->∀l∈g.ls,g.succ x l=g'.succ x l):∀ {w:List Int} {a x:Int},over g w->(0<=a/\a < g.N)->(reach g w a x↔reach g' w a x)
 | [],a,x,_,_=>Iff.rfl
 | l :: w,a,x,f,ha=>by
  have j:=f l (by simp);simp only [reach,<-e a ha l j];constructor
  ·rintro⟨y,b,h⟩
   exact⟨y,b,(Gi d c e (λm i=>f m (by simp [i])) (d.inn a ha l j y b)).1 h⟩
  ·rintro⟨y,b,h⟩
   exact⟨y,b,(Gi d c e (λm i=>f m (by simp [i])) (d.inn a ha l j y b)).2 h⟩
theorem BS.congr{g g':Gr}(c:HJ g)(d:g.ls=g'.ls)(q:g.s0=g'.s0)(m:∀x:Int,0<=x/\x < g.N->∀l∈g.ls,g.succ x l=g'.succ x l)(i:∀x:Int,0<=x/\x < g.N->g.goal x=g'.goal x){r:Option (List Int)}(h:BS g r):BS g' r:=by
 have b:∀w,over g' w↔over g w:=λw=>by unfold over;rw [d]
 have k:∀w,over g w->(PB g' w↔PB g w):=λw j=>by
  unfold PB;rw [<-q];constructor
  ·rintro⟨x,a,e⟩
   have a:=(Gi c d m j c.s0).2 a;exact⟨x,a,by rw [i x (Da c j c.s0 a)];exact e⟩
  ·rintro⟨x,a,e⟩
   exact⟨x,(Gi c d m j c.s0).1 a,by rw [<-i x (Da c j c.s0 a)];exact e⟩
 cases r with
 | none=>exact λu f a=>h u ((b u).1 f) ((k u ((b u).1 f)).1 a)
 | some w=>
  obtain⟨n,p,o⟩:=h;exact⟨(b w).2 n,(k w n).2 p,λu f a=>o u ((b u).1 f) ((k u ((b u).1 f)).1 a)⟩
theorem XO{zs ws:List Int}{cs ds:List (List Int)}(h:EC zs cs):DD (zs++ws) (cs++ds)=(DD zs cs).flatMap λo=>(DD ws ds).map λr=>o*Al ws+r:=by
 induction h with
 | nil=>simp [DD]
 | @cons z c zs cs _ _ _ a=>
  simp only [jT,DD,a];rw [List.flatMap_assoc];congr 1;funext q;rw [List.map_flatMap,List.flatMap_map];congr 1;funext o;rw [ka];congr 1;funext r;simp only [d5,KS];rw [kP,kv];omega
theorem RV(l:List Sys)(aus:List AU)(st:List Int)(ls kd gl:Int):Ae ⟨l,aus,st,ls,kd,gl⟩=l.map (·.st)++aus.map (λa=>(a.nx.length:Int)):=rfl
theorem JQ{l:List Sys}{aus:List AU}{st:List Int}{ls kd gl:Int}(b:Dk ⟨l,aus,st,ls,kd,gl⟩){node letter:Int}(f:0<=letter)(d:letter < 6) :
 Er ⟨l,aus,st,ls,kd,gl⟩ (Ae ⟨l,aus,st,ls,kd,gl⟩) (Bs (Ae ⟨l,aus,st,ls,kd,gl⟩) node) letter =
  (DD (l.map (·.st)) (VC l (node / Al (aus.map λa=>(a.nx.length:Int))) letter)).flatMap λo=>(DD (aus.map λa=>(a.nx.length:Int)) (aus.zipWith (λa q=>[Cb a q.toNat letter]) (Bs (aus.map λa=>(a.nx.length:Int)) node))).map λr=>o*Al (aus.map λa=>(a.nx.length:Int))+r:=by
 have h:∀w∈aus.map (λa=>(a.nx.length:Int)),0 < w:=λw g=>by
  obtain⟨a,ha,rfl⟩:=f7.1 g;have:=AI (b.au a ha);omega
 unfold Er;rw [OQ (Hc b (Jy b node) f d),RV,MU _ _ _ h];have c:=Pt b.ps b.np f d (node / Al (aus.map λa=>(a.nx.length:Int)))
 have e:IX ⟨l,aus,st,ls,kd,gl⟩ (Bs (l.map (·.st)) (node / Al (aus.map λa=>(a.nx.length:Int)))++Bs (aus.map λa=>(a.nx.length:Int)) node) letter=VC l (node / Al (aus.map λa=>(a.nx.length:Int))) letter++aus.zipWith (λa q=>[Cb a q.toNat letter]) (Bs (aus.map λa=>(a.nx.length:Int)) node):=by
  unfold IX VC
  have i:(Bs (l.map (·.st)) (node / Al (aus.map λa=>(a.nx.length:Int)))).length=l.length:=by rw [Jx];simp
  simp only;rw [List.drop_append_of_le_length (by omega),kC (by omega),lE];congr 1;rw [Fa,List.take_append_of_le_length (by omega),iY (by omega)]
 rw [e,XO c]
theorem KF:∀(zs:List Int) (k:Nat),CZ zs (List.replicate k 0) 0=0
 | [],k=>by simp [CZ]
 | z::zs,0=>by simp [CZ]
 | z::zs,k+1=>by
  rw [lB];simp only [CZ,Int.zero_mul,Int.add_zero];exact KF zs k
theorem QP{a:Int}(ha:A3 a=true):FU .i64 0 a=a/\FU .i64 a 0=a:=by
 unfold A3 at ha;simp only [decide_eq_true_eq] at ha;have d:=JF (a:=0) (b:=a.toNat) (by omega) (by omega);have c:=JF (a:=a.toNat) (b:=0) (by omega) (by omega)
 have e:((a.toNat:Nat):Int)=a:=by omega
 rw [e] at d c;have f:(((0:Nat)):Int)=0:=rfl;rw [f] at d c;rw [Nat.zero_or] at d;rw [Nat.or_zero] at c;exact⟨by rw [d.1];exact e,by rw [c.1];exact e⟩
theorem TF{l:List Sys}(h:AV l=true):A3 (Bl l)=true:=by
 unfold Bl;rw [if_pos h];unfold AV at h;rw [d4] at h;exact HV h.2 rfl
theorem XX{s:Sys}{a p:AU}(h:BX s a p=true):C4 (gI [s] a p (Ac (FU .i64 (Bl [s]) a.al)))=C4 (Dy (Dq s a p)):=by
 obtain⟨j,hk,d⟩:=Mt h;have c:=h;unfold BX at c;simp only [d4] at c;obtain⟨⟨i,ha⟩,n⟩:=c;have q:=BN ha;have m:=BN n
 have b:Bl [s]=s.al:=by
  have:AV [s]=true:=by simp [AV,i]
  unfold Bl;rw [if_pos this];exact(QP (AJ i).1).1
 refine Qs (BS.congr (Nb j d) ?_ ?_ (λx k l f=>?_) (λx k=>?_) (C5 _))
 ·show Ac (FU .i64 s.al a.al)=Ac (FU .i64 (Bl [s]) a.al)
  rw [b]
 ·exact KF (Ae (Dq s a p)) 3
 ·have f:=Au (show l∈AG (FU .i64 s.al a.al) 6 from f)
  show Er (Dq s a p) (Ae (Dq s a p)) (Bs (Ae (Dq s a p)) x) l=H0 [s] a p x l
  have e:=JQ (l:=[s]) (aus:=[a,p]) (st:=[0,0,0]) (ls:=FU .i64 s.al a.al) (kd:=2) (gl:=0) j (node:=x) f.1 (by omega);refine Eq.trans e ?_;unfold H0 EM;simp only [kk,mu,Al,Int.mul_one,Bs,List.zipWith_cons_cons,List.zipWith_nil_left,DD,lR,List.flatMap_nil,jA,Int.ediv_one,Int.add_zero]
  have g:x / p.nx.length / a.nx.length=x / (a.nx.length*p.nx.length):=by rw [kX (by omega),kU]
  rw [g,List.map_eq_flatMap];congr 1;funext o;rw [kv]
 ·show Cf (Dq s a p) (Bs (Ae (Dq s a p)) x) (Et (Dq s a p) x.toNat)=Ls a p x
  unfold Cf VW Ls;simp [Dq,Ae,Bs,Al,List.getD]
theorem XW{l:List Sys}{p:AU}(h:(AV l && AH p)=true):C4 (gI l LX p (Ac (FU .i64 (Bl l) LX.al)))=C4 (Dy (Cm l p)):=by
 obtain⟨g,hk,c⟩:=Ms h;rw [d4] at h;obtain⟨s,r⟩:=h;have n:=BN r;refine Qs (BS.congr (Nb g c) ?_ ?_ (λx j m d=>?_) (λx j=>?_) (C5 _))
 ·show Ac (Bl l)=Ac (FU .i64 (Bl l) 0)
  rw [(QP (TF s)).2]
 ·exact KF (Ae (Cm l p)) (l.length+1)
 ·have d:=Au (show m∈AG (Bl l) 6 from d)
  show Er (Cm l p) (Ae (Cm l p)) (Bs (Ae (Cm l p)) x) m=H0 l LX p x m
  have e:=JQ (l:=l) (aus:=[p]) (st:=List.replicate (l.length+1) 0) (ls:=Bl l) (kd:=3) (gl:=0) g (node:=x) d.1 (by omega);refine Eq.trans e ?_
  have f:∀q:Nat,Cb LX q m=q:=λq=>by
   have:AP 0 m.toNat=false:=by
    have v:m=0\/m=1\/m=2\/m=3\/m=4\/m=5:=by omega
    rcases v with rfl|rfl|rfl|rfl|rfl|rfl<;>decide
   unfold Cb;rw [if_neg]
   show ¬AP 0 m.toNat=true
   rw [this];simp
  have b:((LX.nx.length:Nat):Int)=1:=rfl;unfold H0 EM;rw [f,b];simp only [kk,mu,Al,Int.mul_one,Bs,List.zipWith_cons_cons,List.zipWith_nil_left,DD,lR,List.flatMap_nil,jA,Int.ediv_one,Int.add_zero,Int.emod_one];generalize DD (l.map (·.st)) (VC l (x / p.nx.length) m)=LL;rw [List.map_eq_flatMap];congr 1;funext o;simp
 ·show Cf (Cm l p) (Bs (Ae (Cm l p)) x) (Et (Cm l p) x.toNat)=Ls LX p x
  have b:((LX.nx.length:Nat):Int)=1:=rfl;have u:=MU (l.map (·.st)) [(p.nx.length:Int)] x (by intro w k;simp at k;omega);have i:Ae (Cm l p)=l.map (·.st)++[(p.nx.length:Int)]:=rfl
  have a:(Bs (l.map (·.st)) (x / Al [(p.nx.length:Int)])).length=l.length:=by rw [Jx];simp
  rw [i,u];generalize Bs (l.map (·.st)) (x / Al [(p.nx.length:Int)])=dd at a
  have t:(dd++Bs [(p.nx.length:Int)] x).getD (l.length+0) 0=x % p.nx.length:=by
   rw [List.getD,lh,em (by omega),a];simp [Bs,Al]
  unfold Cf VW Ls;rw [b];have A:(Cm l p).kd=3:=rfl;have z:(Cm l p).ps=l:=rfl;have y:(Cm l p).au=[p]:=rfl;rw [A,z,y,t];simp [LX,List.getD]
theorem JD{a b:Nat}(ha:a < 2 ^ 62)(hb:b < 2 ^ 62):ES .i64 a b=((a &&& b:Nat):Int):=by
 have d:a &&& b<=a:=l6;unfold ES
 have c:(BitVec.ofInt IntKind.i64.bits (a:Int) &&& BitVec.ofInt IntKind.i64.bits (b:Int)).toNat=a &&& b:=by
  have e:IntKind.i64.bits=64:=rfl;rw [e];simp only [BitVec.toNat_and,BitVec.ofInt_natCast,BitVec.toNat_ofNat];rw [jx (by omega),jx (by omega)]
 rw [c];exact IntWalk.i64_in _ (by omega)
theorem Xz(s n:Nat):((s:Nat):Int).fdiv (2 ^ n)=((s / 2 ^ n:Nat):Int):=by
 have h:(0:Int)<=2 ^ n:=Int.le_of_lt (Int.pow_pos (by omega));rw [Int.fdiv_eq_ediv_of_nonneg _ h]
 push_cast
 rfl
theorem CK{s n:Nat}(d:s < 2 ^ 62)(f:n < 64):AP (s:Nat) n=s.testBit n:=by
 unfold AP
 have e:min n 64=n:=by omega
 rw [e,Xz];have g:s / 2 ^ n<=s:=Nat.div_le_self _ _;have c:=JD (a:=s / 2 ^ n) (b:=1) (by omega) (by omega);rw [show ((1:Nat):Int)=1 from rfl] at c;rw [c,Nat.testBit_eq_decide_div_mod_eq,Nat.and_one_is_mod];congr 1;rw [eq_iff_iff];omega
theorem aY{s a:Nat}:s &&& a=s↔∀n,s.testBit n=true->a.testBit n=true:=by
 constructor
 ·intro h n c
  have:=congrArg (·.testBit n) h;simp only [k8,c,ju] at this;exact this
 ·intro h
  apply kN;intro n;rw [k8];cases b:s.testBit n
  ·rfl
  ·rw [h n b];rfl
abbrev Wd:=List UInt8
def Gz(c:UInt8):Bool:=decide (97<=c.toNat/\c.toNat < 103)
def DK(w:Wd):Bool:=decide (w.length<=50000) && w.all Gz
def Ji(w:Wd):Nat:=w.foldl (λs c=>s ||| 2 ^ (c.toNat - 97)) 0
def HD(al:Int)(c:UInt8):Bool:=Gz c && AP al (c.toNat - 97)
def within(w:Wd)(al:Int):Bool:=decide (w.length<=50000) && (A3 al && w.all (HD al))
theorem QH(n:Nat):∀(w:Wd) (s:Nat),(w.foldl (λs c=>s ||| 2 ^ (c.toNat - 97)) s).testBit n=(s.testBit n || w.any λc=>decide (c.toNat - 97=n))
 | [],s=>by simp
 | c::w,s=>by
  rw [kh,QH n w,kQ,ki,List.any_cons,Bool.or_assoc]
theorem RS(w:Wd)(n:Nat):(Ji w).testBit n=w.any λc=>decide (c.toNat - 97=n):=by
 unfold Ji;rw [QH];simp
theorem P7:∀ {w:Wd} {s:Nat},w.all Gz=true->s < 64->w.foldl (λs c=>s ||| 2 ^ (c.toNat - 97)) s < 64
 | [],s,_,a=>a
 | c::w,s,h,a=>by
  simp only [List.all_cons,d4] at h;rw [kh];refine P7 h.2 ?_;have b:=h.1;unfold Gz at b;simp only [decide_eq_true_eq] at b;have d:2 ^ (c.toNat - 97) < 2 ^ 6:=kO (by omega) (by omega);exact kJ (n:=6) a d
theorem aP{w:Wd}{al:Int}(f:w.all Gz=true)(ha:A3 al=true):decide (ES .i64 (Ji w:Nat) al=(Ji w:Nat))=w.all (HD al):=by
 have k:Ji w < 64:=P7 f (by omega);unfold A3 at ha;simp only [decide_eq_true_eq] at ha
 obtain⟨a,rfl⟩:∃a:Nat,al=a:=⟨al.toNat,by omega⟩
 rw [JD (by omega) (by omega)];rw [lG,decide_eq_true_eq,d8]
 have j:((Ji w &&& a:Nat):Int)=(Ji w:Nat)↔Ji w &&& a=Ji w:=by omega
 rw [j,aY];rw [d8] at f;constructor
 ·intro h c e
  have b:=f c e;unfold HD;rw [b,ju];unfold Gz at b;simp only [decide_eq_true_eq] at b;rw [CK (by omega) (by omega)];refine h _ ?_;rw [RS,kB];exact⟨c,e,by simp⟩
 ·intro h n i
  rw [RS,kB] at i;obtain⟨c,e,d⟩:=i;simp only [decide_eq_true_eq] at d;have b:=f c e;have g:=h c e;unfold HD at g;rw [b,ju] at g;unfold Gz at b;simp only [decide_eq_true_eq] at b;rw [CK (by omega) (by omega),d] at g;exact g
theorem Ug{w:Wd}{al:Int}(h:w.all (HD al)=true):w.all Gz=true:=by
 rw [d8] at *;intro c a;have:=h c a;unfold HD at this;simp only [d4] at this;exact this.1
end Go.Am
namespace Go.Am
open Go Go.Proofs
set_option maxHeartbeats 1000000
set_option maxRecDepth 4000
attribute [local irreducible] A8 Cq Lex Br Ai Spec
variable {TB:BA}
theorem HB[FV TB](l:List Sys)(p:AU):Pure Tryz.prog TB 29 [EJ l,Bj p] (Ma (BL l p)):=by
 by_cases c:(AV l && AH p)=true
 ·have b:BL l p=C4 (Dy (Cm l p)):=by unfold BL;rw [if_pos c]
  rw [b,<-XW c];rw [d4] at c;have e:=Mb (TB:=TB) l p c.1 c.2;refine eN Tryz.func29 rfl (by kernel_rfl) rfl ?_;intro Z d;(repeat' first|refine tA rfl ?_ |refine s2 rfl λ_ a=>?_ |(refine sC rfl (Gb l) ?_;intro _ a)|(refine sC rfl (AN p) ?_;intro _ a)|refine sP rfl (e) rfl ?_ |refine s3 rfl ?_ ?_<;>rintro rfl |refine aU rfl ?_ |apply Aa|(refine aC rfl ?_ ?_<;>rintro⟨⟩)|apply aK|apply aE|apply aB|refine aR ⟨_,rfl,?_⟩)
  all_goals first
   | rfl
   | (exfalso;grind;done)
 ·have b:BL l p=none:=by unfold BL;rw [if_neg c]
  rw [b];refine eN Tryz.func29 rfl (by kernel_rfl) rfl ?_;intro Z d;(repeat' first|refine tA rfl ?_ |refine s2 rfl λ_ a=>?_ |(refine sC rfl (Gb l) ?_;intro _ a)|(refine sC rfl (AN p) ?_;intro _ a) |refine s3 rfl ?_ ?_<;>rintro rfl |refine aU rfl ?_ |apply Aa|(refine aC rfl ?_ ?_<;>rintro⟨⟩)|apply aK|apply aE|apply aB|refine aR ⟨_,rfl,?_⟩)
  all_goals first
   | rfl
   | (exfalso;grind;done)
theorem HC[FV TB](s:Sys)(a p:AU):Pure Tryz.prog TB 53 [Bx s,Bj a,Bj p] (Ma (Df s a p)):=by
 by_cases c:BX s a p=true
 ·have d:Df s a p=C4 (Dy (Dq s a p)):=by unfold Df;rw [if_pos c]
  rw [d,<-XX c];unfold BX at c;simp only [d4] at c;have f:=MY (TB:=TB) [s] a p (by simp [AV,c.1.1]) c.1.2 c.2;refine eN Tryz.func53 rfl (by kernel_rfl) rfl ?_;intro Z e;(repeat' first|refine tA rfl ?_ |refine s2 rfl λ_ b=>?_ |(refine sC rfl (BG s) ?_;intro _ b)|(refine sC rfl (AN a) ?_;intro _ b)|(refine sC rfl (AN p) ?_;intro _ b)|refine sP rfl (f) rfl ?_ |refine s3 rfl ?_ ?_<;>rintro rfl |refine aU rfl ?_ |apply Aa|(refine aC rfl ?_ ?_<;>rintro⟨⟩)|apply aK|apply aE|apply aB|refine aR ⟨_,rfl,?_⟩)
  all_goals first
   | rfl
   | (exfalso;grind;done)
 ·have d:Df s a p=none:=by unfold Df;rw [if_neg c]
  rw [d];refine eN Tryz.func53 rfl (by kernel_rfl) rfl ?_;intro Z e;(repeat' first|refine tA rfl ?_ |refine s2 rfl λ_ b=>?_ |(refine sC rfl (BG s) ?_;intro _ b)|(refine sC rfl (AN a) ?_;intro _ b)|(refine sC rfl (AN p) ?_;intro _ b) |refine s3 rfl ?_ ?_<;>rintro rfl |refine aU rfl ?_ |apply Aa|(refine aC rfl ?_ ?_<;>rintro⟨⟩)|apply aK|apply aE|apply aB|refine aR ⟨_,rfl,?_⟩)
  all_goals first
   | rfl
   | (exfalso;unfold BX at c;grind;done)
theorem KJ[FV TB](l:List Sys)(p:AU):Pure Tryz.prog TB 16 [EJ l,Bj p] (eB (Ck l p)):=by
 refine eN Tryz.func16 rfl (by kernel_rfl) rfl ?_;intro Z b;(repeat' first|refine tA rfl ?_ |refine s2 rfl λ_ a=>?_ |refine sP rfl (HB l p) rfl ?_|(refine sC rfl (Gb l) ?_;intro _ a)|(refine sC rfl (AN p) ?_;intro _ a) |refine s3 rfl ?_ ?_<;>rintro rfl |refine aU rfl ?_ |apply Aa|(refine aC rfl ?_ ?_<;>rintro⟨⟩)|apply aK|apply aE|apply aB|refine aR ⟨_,rfl,?_⟩)
 all_goals (show E.o _=E.o _;congr;unfold Ck;grind)
theorem JH[FV TB](s:Sys)(a p:AU):Pure Tryz.prog TB 28 [Bx s,Bj a,Bj p] (eB (Gl s a p)):=by
 refine eN Tryz.func28 rfl (by kernel_rfl) rfl ?_;intro Z c;(repeat' first|refine tA rfl ?_ |refine s2 rfl λ_ b=>?_ |refine sP rfl (HC s a p) rfl ?_|(refine sC rfl (BG s) ?_;intro _ b)|(refine sC rfl (AN a) ?_;intro _ b)|(refine sC rfl (AN p) ?_;intro _ b) |refine s3 rfl ?_ ?_<;>rintro rfl |refine aU rfl ?_ |apply Aa|(refine aC rfl ?_ ?_<;>rintro⟨⟩)|apply aK|apply aE|apply aB|refine aR ⟨_,rfl,?_⟩)
 all_goals (show E.o _=E.o _;congr;unfold Gl BX;grind)
theorem HO[FV TB](s:Sys)(p:AU):Pure Tryz.prog TB 19 [Bx s,Bj p] (eB (Ck [s] p)):=by
 refine eN Tryz.func19 rfl (by kernel_rfl) rfl ?_;intro Z a;(repeat' first|refine tA rfl ?_ |refine sP rfl (KJ [s] p) rfl ?_ |refine aU rfl ?_ |apply Aa|(refine aC rfl ?_ ?_<;>rintro⟨⟩)|apply aK|apply aE|apply aB|refine aR ⟨_,rfl,?_⟩)
 all_goals rfl
theorem I6(s:Sys)(p:AU)(t:Sys):Pure Tryz.prog TB 26 [Bx s,Bj p,Bx t] (eI .i64 (Bt s p t)):=by
 refine eN Tryz.func26 rfl (by kernel_rfl) rfl ?_;intro Z b;(repeat' first|refine tA rfl ?_ |refine s2 rfl λ_ a=>?_ |(refine sC rfl (BG s) ?_;intro _ a)|(refine sC rfl (AN p) ?_;intro _ a)|(refine sC rfl (BG t) ?_;intro _ a) |refine s3 rfl ?_ ?_<;>rintro rfl |refine aU rfl ?_ |apply Aa|(refine aC rfl ?_ ?_<;>rintro⟨⟩)|apply aK|apply aE|apply aB|refine aR ⟨_,rfl,?_⟩)
 all_goals (show E.o _=E.o _;congr;unfold Bt;grind)
theorem PD[FV TB](s t:Sys)(p a:AU):Pure Tryz.prog TB 17 [Bx s,Bx t,Bj p,Bj a] (eI .i64 (DV s t p a)):=by
 refine eN Tryz.func17 rfl (by kernel_rfl) rfl ?_;intro Z c;(repeat' first|refine tA rfl ?_ |refine s2 rfl λ_ b=>?_ |refine sP rfl (I6 s p t) rfl ?_|(refine sC rfl (AN a) ?_;intro _ b)|(refine sC rfl (JH s a p) ?_;intro _ b)|(refine sC rfl (HO t a) ?_;intro _ b) |refine s3 rfl ?_ ?_<;>rintro rfl |refine aU rfl ?_ |apply Aa|(refine aC rfl ?_ ?_<;>rintro⟨⟩)|apply aK|apply aE|apply aB|refine aR ⟨_,rfl,?_⟩)
 all_goals (show E.o _=E.o _;congr;unfold DV;grind)
def Dx{α:Type}(Q:α->Prop)(g:α->E)(x:E)(σ:Ab)(nx:Nat):Prop:=∃r,Q r/\x=g r/\σ=[]/\nx=0
theorem DT(n:Int):Spec Tryz.prog TB 188 [] 0 [eI .i64 n] (Dx (λr:W=>r.length<=6) eT):=by
 have h:(Ac n).length<=6:=AM n 6;refine eR Tryz.func188 rfl (by kernel_rfl) rfl ?_;intro Z b;(repeat first|refine tA rfl ?_ |refine s2 rfl λ_ a=>?_ |(refine sC rfl (CO n) ?_;intro _ a) |refine aU rfl ?_ |apply Aa);(refine aC rfl ?_ ?_<;>rintro⟨⟩)
 ·(repeat first|refine tA rfl ?_ |refine aU rfl ?_ |apply Aa)
  refine aR ⟨_,rfl,[],eT [],[],⟨by intro i hi;omega,by decide⟩,rfl,trivial,[],by decide,rfl,rfl,rfl⟩
 apply aK;(repeat first|refine tA rfl ?_ |refine s2 rfl λ_ a=>?_ |refine aU rfl ?_ |apply Aa);(refine aC rfl ?_ ?_<;>rintro⟨⟩)
 ·(repeat first|refine tA rfl ?_ |refine aU rfl ?_ |apply Aa)
  refine aR ⟨_,rfl,[],eT [45],[],⟨by intro i hi;omega,by decide⟩,rfl,trivial,[45],by decide,rfl,rfl,rfl⟩
 apply aK;(repeat first|refine tA rfl ?_ |refine sP rfl (BM n) rfl ?_ |refine aU rfl ?_ |apply Aa);apply aB;refine aL (α:={s:Nat×W // s.1<=(Ac n).length/\s.2.length=s.1}) [4] [] rfl rfl (λs=>[(3,eT s.1.2),(5,eI .i64 s.1.1)]) (λs=>[]) 0 (λs=>(Ac n).length - s.1.1) (⟨⟨0,[]⟩,by simp⟩) b rfl (by (simp[cX,zC,b])) ?_;rintro⟨⟨k,w⟩,hk,e⟩;(try dsimp only[cA,cB]);have hk:k<=(Ac n).length:=hk;have e:w.length=k:=e;(repeat first|refine sN rfl ?_ |refine tA rfl ?_ |refine s2 rfl λ_ a=>?_ |refine aU rfl ?_ |apply Aa)
 ((refine aC rfl ?_ ?_<;>rintro⟨⟩);all_goals try (simp at a;done))
 ·have c:k < (Ac n).length:=by (simp only[oZ] at *;omega)
  obtain⟨l,f⟩:=get_some (l:=Ac n) (k:=k) c;have j:=get_map (g:=Bm) f;have d:=Au (co f);apply aK;refine aS (aB ?_);(repeat first|(refine sA rfl ?_ ?_;first|exact tI|omega|simp only[oZ] at *;omega) |(refine s4 rfl ‹_› rfl ?_ ?_;omega) |refine sP rfl (GH l d.1 (by omega)) rfl ?_ |refine aU rfl ?_ |apply Aa);refine⟨⟨⟨k+1,w++[UInt8.ofNat (97+l.toNat)]⟩,by dsimp only;omega,by simp;omega⟩,by dsimp only;(omega),[],?_⟩;(simp[cX,zC,b,cN]<;>rfl)
 ·apply aE
  (repeat first|refine tA rfl ?_ |refine aU rfl ?_ |apply Aa);refine aR ⟨_,rfl,[],eT w,[],⟨by intro i hi;omega,by decide⟩,rfl,trivial,w,by show w.length<=6;omega,rfl,rfl,rfl⟩
theorem Gw(s:W):Spec Tryz.prog TB 139 [] 0 [eT s] (Dx (λ_:Int×Bool=>True) (λr=>.t [(false,[.d (iD r.1)]),(false,[.d (bD r.2)])])):=by
 refine eR Tryz.func139 rfl (by kernel_rfl) rfl ?_;intro Z a;(repeat first|refine tA rfl ?_ |refine aU rfl ?_ |apply Aa);apply aB;refine aL (α:={k:Nat // k<=64}) [0] [] rfl rfl (λs=>[(4,eI .i64 s.1)]) (λs=>[]) 0 (λs=>64 - s.1) (⟨0,by omega⟩) a rfl (by (simp[cX,zC,a])) ?_;rintro⟨k,hk⟩;(try dsimp only[cA,cB]);(repeat first|refine tA rfl ?_ |refine s2 rfl λ_ b=>?_ |refine aU rfl ?_ |apply Aa)
 ((refine aC rfl ?_ ?_<;>rintro⟨⟩);all_goals try (simp at b;done))
 ·have f:k < 64:=by (simp only[oZ] at *;omega)
  apply aK;refine aS (aB ?_);(repeat first|refine tA rfl ?_ |refine aU rfl ?_);(refine pW rfl ?_ rfl (by rfl);refine Af [] rfl rfl (DT (TB:=TB) (k:Int)) ⟨rfl,by decide,by decide⟩ rfl trivial ?_;rintro g c e ⟨r,h,rfl,rfl,rfl⟩ _);(repeat first|refine tA rfl ?_ |refine s2 rfl λ_ b=>?_ |apply Aa);(refine aC rfl ?_ ?_<;>rintro⟨⟩)
  ·(repeat first|refine tA rfl ?_ |refine aU rfl ?_ |apply Aa)
   refine aR ⟨_,rfl,[],.t [(false,[.d (iD k)]),(false,[.d (bD true)])],[],⟨by intro i hi;omega,by decide⟩,rfl,trivial,(k,true),trivial,rfl,rfl,rfl⟩
  ·apply aK
   (repeat first|(refine sA rfl ?_ ?_;first|exact tI|omega) |refine aU rfl ?_ |apply Aa);refine⟨⟨k+1,by omega⟩,by dsimp only;(omega),[],?_⟩;(simp[cX,zC,a,cN]<;>rfl)
 ·apply aE
  (repeat first|refine tA rfl ?_ |refine aU rfl ?_ |apply Aa);refine aR ⟨_,rfl,[],.t [(false,[.d (iD 0)]),(false,[.d (bD false)])],[],⟨by intro i hi;omega,by decide⟩,rfl,trivial,(0,false),trivial,rfl,rfl,rfl⟩
theorem KL(a:W)(x:a.length<=1000000)(c:UInt8):Spec Tryz.prog TB 138 [] 0 [eT a,eI .u8 c.toNat] (Dx (λr:List W=>1<=r.length/\r.length<=a.length+1/\∀w∈r,w.length<=a.length) BP):=by
  refine eR Tryz.func138 rfl (by kernel_rfl) rfl ?_;intro Z b;(repeat first|refine tX rfl ?_ |refine aU rfl ?_ |apply Aa);(refine pW rfl ?_ rfl (by rfl);refine Bd rfl rfl rfl rfl (by simp) (by rfl) (by rfl) (by rfl) (by rfl) ?_);(repeat first|refine tX rfl ?_ |refine aU rfl ?_ |apply Aa);apply aB;refine aL (α:={z:Nat×Nat×List W // z.1<=a.length+1/\z.2.1<=z.1/\z.2.2.length<=z.1/\(z.1=a.length+1->1<=z.2.2.length)/\∀w∈z.2.2,w.length<=a.length}) [0,1] [] rfl rfl (λs=>[(5,.o (.arr 0 1 0 s.1.2.2.length)),(6,eI .i64 s.1.2.1),(7,eI .i64 s.1.1)]) (λs=>[(0,.cells 9 1 (s.1.2.2.map IQ))]) 1 (λs=>a.length+1 - s.1.1) (⟨⟨0,0,[]⟩,by simp⟩) b rfl (by (simp[cX,zC,b])) ?_;rintro⟨⟨k,fr,r⟩,hk,t,g,d,n⟩;(try dsimp only[cA,cB]);have hk:k<=a.length+1:=hk;have t:fr<=k:=t;have g:r.length<=k:=g;have d:k=a.length+1->1<=r.length:=d;(repeat first|refine tA rfl ?_ |refine s2 rfl λ_ j=>?_ |refine aU rfl ?_ |apply Aa)
  ((refine aC rfl ?_ ?_<;>rintro⟨⟩);all_goals try (simp at j;done))
  · have v:k<=a.length:=by (simp only[oZ] at *;omega)
    apply aK;refine aS (aB ?_)
    have q:k=a.length\/∃e,a[(k:Int).toNat]? = some e:=by
      rcases jB k a.length with h|h
      · obtain⟨e,u⟩:=get_some (l:=a) (k:=(k:Int).toNat) (by omega)
        exact .inr ⟨e,u⟩
      · exact .inl (by omega)
    rcases q with q|⟨e,u⟩
    all_goals (repeat' first|refine tA rfl ?_ |(refine s4 rfl ‹_› rfl ?_ ?_;omega) |refine s2 rfl λ_ j=>?_|(refine Av rfl ?_;refine gA rfl ?_;first| refine gS (λ_ _=>PY rfl rfl rfl (by simp [Lz]) (by simp [Lz,Lu];omega) (by simp [Lu];omega)) ?_) |refine s3 rfl ?_ ?_<;>rintro rfl |refine aU rfl ?_ |apply Aa|(refine aC rfl ?_ ?_<;>rintro⟨⟩))
    all_goals first
      | (exfalso;(simp only[oZ] at *;omega);done)
      | (apply aK
         (repeat first|(refine sA rfl ?_ ?_;first|exact tI|omega) |refine aU rfl ?_ |apply Aa);refine⟨⟨⟨k+1,fr,r⟩,by dsimp only;omega,by dsimp only;omega,by dsimp only;omega,by dsimp only;intro y;exfalso;(simp only[oZ] at *;omega),n⟩,by dsimp only;(omega),[0],?_⟩;(simp[cX,zC,b,cN]<;>rfl)
         done)
      | ((refine pW rfl ?_ rfl (by rfl);refine Aw rfl rfl rfl (by first| (simp;done)|(simp;(omega))) rfl (by intro r g;simp at g;subst g;rfl) (by rfl) (ce rfl) (by simp;omega) ?_)
         (repeat first|(refine sA rfl ?_ ?_;first|exact tI|omega) |refine aU rfl ?_ |apply Aa)
         have m:∀w∈r++[(a.take k).drop fr],w.length<=a.length:=λw f=>by
           rcases f6.1 f with f|f
           · exact n w f
           · simp at f;subst f;simp;omega
         refine⟨⟨⟨k+1,k+1,r++[(a.take k).drop fr]⟩,by dsimp only;omega,by dsimp only;omega,by simp;omega,by simp,m⟩,by dsimp only;(omega),[1],?_⟩
         (simp[cX,zC,b,cN,Lz,Lu]<;>rfl))
  · have p:k=a.length+1:=by (simp only[oZ] at *;omega)
    apply aE;(repeat first|refine tA rfl ?_ |refine aU rfl ?_ |apply Aa);refine Ai.settle [(4,BP r)] ⟨⟨_,rfl,.o (.full rfl (by simp [d5]) (by simp))⟩,trivial⟩ ?_;refine aR ⟨_,rfl,[],BP r,[],⟨by intro i hi;omega,by decide⟩,rfl,trivial,r,⟨d p,by omega,n⟩,rfl,rfl,rfl⟩
abbrev IY(t:Bb):E:=.a [.d (FR t.rows),.d (FR t.cols)]
structure iC (P:Program) (TB:BA) (c:C) (L:W->Bool) (ok:W->Prop):Prop where
 FM:c.FM=true
 ask:∀ {Z:Ctx} {d:Option Tmp} {ty:TypeId} {pos:String} {af:Array Edge} {g:Option (Nat×Bool)} {f:Env} {σ:Ab} {nx:Nat} {x a:Operand} {tys:Array TypeId} {w:W},
  ev f x=some (.o c)->ev f a=some (eT w)->ok w->A8 P TB Z ⟨d,.call ⟨.value x,#[a],tys⟩,ty,pos,af,g⟩ f σ nx (eB (L w))
structure gU (ok:W->Prop) (t:Bb):Prop where
 ok:∀w∈t.rows,∀x∈t.cols,ok (w++x)
 rb:∀w∈t.rows,w.length<=65536
 cb:∀x∈t.cols,x.length<=65536
 rl:t.rows.length<=4096
 cl:t.cols.length<=4096
theorem av{L:W->Bool}{ls:List UInt8}{t:Bb}{k j:Nat}{r:W}{l:UInt8}(e:t.rows[k]? = some r)(f:ls[j]? = some l)(n:∀w∈CR ls (t.rows.take k),marks L t.cols w∈AY L t)(m:∀x∈ls.take j,marks L t.cols (r++[x])∈AY L t)
 (i:marks L t.cols (r++[l])∉AY L t):Bg L ls t=some (r++[l]):=by
 have q:t.rows=t.rows.take k++r::t.rows.drop (k+1):=by
  rw [<-BF e,jZ]
 have p:ls=ls.take j++l::ls.drop (j+1):=by
  rw [<-BF f,jZ]
 have o:CR ls t.rows=CR ls (t.rows.take k)++((ls.take j).map (λx=>r++[x])++(r++[l])::((ls.drop (j+1)).map (λx=>r++[x])++CR ls (t.rows.drop (k+1)))):=by
  have h:CR ls t.rows=CR ls (t.rows.take k++r::t.rows.drop (k+1)):=congrArg _ q;rw [h];unfold CR;rw [List.flatMap_append,lR];have g:ls.map (λx=>r++[x])=(ls.take j++l::ls.drop (j+1)).map (λx=>r++[x]):=congrArg _ p;rw [g];simp
 unfold Bg;rw [o,List.find?_append,List.find?_append]
 have c:(CR ls (t.rows.take k)).find? (λw=>!(AY L t).contains (marks L t.cols w))=none:=lN.2 λw a=>by simpa using n w a
 have b:((ls.take j).map (λx=>r++[x])).find? (λw=>!(AY L t).contains (marks L t.cols w))=none:=lN.2 λw a=>by
  obtain⟨x,d,rfl⟩:=f7.1 a
  simpa using m x d
 rw [c,b];simp [i]
def lb(l:Int):UInt8:=UInt8.ofNat (97+l.toNat)
def BE(al:Int):List UInt8:=(Ac al).map lb
def ZF(o:Option W):E:=match o with
 | some w=>.t [(false,[.d (tD w)]),(false,[.d (bD true)])]
 | none=>.t [(false,[.d (tD [])]),(false,[.d (bD false)])]
theorem TA{ls:List UInt8}{t:Bb}{k:Nat}{r:W}(h:t.rows[k]? = some r):CR ls (t.rows.take (k+1))=CR ls (t.rows.take k)++ls.map λl=>r++[l]:=by
 unfold CR;rw [gc,h];simp
abbrev WW(r:Int×Bool):E:=.t [(false,[.d (iD r.1)]),(false,[.d (bD r.2)])]
theorem Xn{z:Int}(h:0<=z/\z < 256):[[D.v (.int .u8 z)]]=[UInt8.ofNat z.toNat].map ei:=by
 have b:z.toNat % 256=z.toNat:=jx (by omega)
 have a:((z.toNat:Nat):Int)=z:=by omega
 simp [ei,b,a]
theorem GG(n:Int)(j:0<=n/\n < 100):Spec Tryz.prog TB 189 [] 0 [eI .i64 n] (Dx (λr:W=>r.length<=3) eT):=by
 refine eR Tryz.func189 rfl (by kernel_rfl) rfl ?_;intro Z b;(repeat first|refine tA rfl ?_ |refine s2 rfl λ_ a=>?_ |refine aU rfl ?_ |apply Aa)
 ((refine aC rfl ?_ ?_<;>rintro⟨⟩);all_goals try (simp at a;done))
 ·exfalso;(simp only[oZ] at *;omega)
 apply aK;(repeat first|refine tA rfl ?_ |refine s2 rfl λ_ a=>?_ |refine aU rfl ?_ |apply Aa)
 ((refine aC rfl ?_ ?_<;>rintro⟨⟩);all_goals try (simp at a;done))
 ·exfalso;(simp only[oZ] at *;omega)
 apply aK;(repeat first|refine tA rfl ?_ |refine aU rfl ?_ |apply Aa);apply aB;refine aL (α:={s:Int×W // (0<=s.1/\s.1 < 100)/\s.2.length<=2/\(9 < s.1->s.2.length<=1)}) [] [] rfl rfl (λs=>[(0,eI .i64 s.1.1),(3,eT s.1.2)]) (λs=>[]) 0 (λs=>s.1.1.toNat) (⟨⟨n,[]⟩,by simp;omega⟩) b rfl (by (simp[cX,zC,b])) ?_;rintro⟨⟨q,w⟩,f,e,c⟩;(try dsimp only[cA,cB]);have f:0<=q/\q < 100:=f;have e:w.length<=2:=e;have c:9 < q->w.length<=1:=c;(repeat first|refine tA rfl ?_ |refine s2 rfl λ_ a=>?_ |refine aU rfl ?_ |apply Aa)
 ((refine aC rfl ?_ ?_<;>rintro⟨⟩);all_goals try (simp at a;done))
 ·have d:9 < q:=by (simp only[oZ] at *;omega)
  have g:=c d;apply aK;apply aB;(repeat first|(refine sA rfl ?_ ?_;first|exact tI|omega|simp only[oZ] at *;omega)|(refine Av rfl ?_;refine gA rfl ?_;first| refine gS (λ_ _=>PZ _ rfl (Xn (by omega))) ?_) |refine aU rfl ?_ |apply Aa);refine⟨⟨⟨q / 10,[UInt8.ofNat (48+q % 10).toNat]++w⟩,⟨by dsimp only;omega,by dsimp only;omega⟩,by simp;omega,λh=>by exfalso;dsimp only at h;omega⟩,by dsimp only;(omega),[],?_⟩;(simp[cX,zC,b,cN]<;>rfl)
 ·apply aE
  (repeat first|(refine sA rfl ?_ ?_;first|exact tI|omega|simp only[oZ] at *;omega)|(refine Av rfl ?_;refine gA rfl ?_;first| refine gS (λ_ _=>PZ _ rfl (Xn (by omega))) ?_) |refine aU rfl ?_ |apply Aa);refine aR ⟨_,rfl,[],eT ([UInt8.ofNat (48+q).toNat]++w),[],⟨by intro i hi;omega,by decide⟩,rfl,trivial,[UInt8.ofNat (48+q).toNat]++w,by simp;omega,rfl,rfl,rfl⟩
theorem Ko(k:Nat)(hk:k < 17):(10 ^ (k+1):Nat)=10 ^ k*10/\(10 ^ k:Nat)<=100000000000000000:=⟨l5 ..,i9 (jH (by omega) (Nat.le_of_lt hk)) (by decide)⟩
theorem Ij(s0:W)(z:s0.length<=1000000):Spec Tryz.prog TB 153 [] 0 [eT s0] (Dx (λ_:Int×Bool=>True) WW):=by
  by_cases y:s0.length=0
  · refine eR Tryz.func153 rfl (by kernel_rfl) rfl ?_;intro Z a
    (repeat' first|refine tA rfl ?_ |refine s2 rfl λ_ b=>?_|(refine Av rfl ?_;refine gA rfl ?_;first| refine gS (λ_ _=>EA rfl rfl (by omega) (by omega)) ?_) |refine s3 rfl ?_ ?_<;>rintro rfl |refine aU rfl ?_ |apply Aa|(refine aC rfl ?_ ?_<;>rintro⟨⟩)|apply aK)
    all_goals first
      | (exfalso;(simp only[oZ] at *;omega);done)
      | refine aR ⟨_,rfl,[],WW (0,false),[],⟨by intro i hi;omega,by decide⟩,rfl,trivial,(0,false),trivial,rfl,rfl,rfl⟩
  obtain⟨c,A⟩:=get_some (l:=s0) (k:=(0:Int).toNat) (by simp;omega);have w:1 < s0.length->∃d,(s0.drop (Int.toNat 1))[(0:Int).toNat]? = some d:=λh=>get_some (by simp;omega);have o:∀m:Nat,(s0.drop m).length=s0.length - m:=λm=>List.length_drop;by_cases x:s0.length=1
  · refine eR Tryz.func153 rfl (by kernel_rfl) rfl ?_;intro Z a
    (repeat' first|refine tA rfl ?_ |(refine s4 rfl ‹_› rfl ?_ ?_;omega) |refine s2 rfl λ_ b=>?_|(refine Av rfl ?_;refine gA rfl ?_;first| refine gS (λ_ _=>EA rfl rfl (by omega) (by omega)) ?_) |refine s3 rfl ?_ ?_<;>rintro rfl |refine aU rfl ?_ |apply Aa|(refine aC rfl ?_ ?_<;>rintro⟨⟩)|apply aK)
    all_goals first
      | (exfalso;(simp only[oZ] at *;omega);done)
      | refine aR ⟨_,rfl,[],WW (0,false),[],⟨by intro i hi;omega,by decide⟩,rfl,trivial,(0,false),trivial,rfl,rfl,rfl⟩
      | (exfalso;simp only [oZ,o] at *;omega)
      | skip
    · have g:(s0).length<=17:=by omega
      apply aB;refine aL (α:={s:Nat×Int // s.1<=(s0).length/\0<=s.2/\s.2 < ((10 ^ s.1:Nat):Int)}) [0,4] [] rfl rfl (λs=>[(5,eI .i64 s.1.2),(6,eI .i64 s.1.1)]) (λs=>[]) 0 (λs=>(s0).length - s.1.1) (⟨⟨0,0⟩,by simp⟩) a rfl (by (simp[cX,zC,a])) ?_;rintro⟨⟨k,n⟩,hk,f,j⟩;(try dsimp only[cA,cB]);have hk:k<=(s0).length:=hk;have f:0<=n:=f;have j:n < ((10 ^ k:Nat):Int):=j;(repeat first|refine tA rfl ?_ |refine s2 rfl λ_ b=>?_ |refine aU rfl ?_ |apply Aa)
      ((refine aC rfl ?_ ?_<;>rintro⟨⟩);all_goals try (simp at b;done))
      · have q:k < (s0).length:=by (simp only[oZ] at *;omega)
        obtain⟨e,u⟩:=get_some (l:=s0) (k:=(k:Int).toNat) (by omega);have r:=e.toNat_lt;obtain⟨p,t⟩:=Ko k (by omega);apply aK;refine aS (aB ?_);(repeat' first|(refine sA rfl ?_ ?_;first|exact tI|omega|simp only[oZ] at *;omega) |(refine s4 rfl ‹_› rfl ?_ ?_;omega) |refine s2 rfl λ_ b=>?_|(refine Av rfl ?_;refine gA rfl ?_;first| refine gS (λ_ _=>EA rfl rfl (by omega) (by omega)) ?_) |refine s3 rfl ?_ ?_<;>rintro rfl |refine aU rfl ?_ |apply Aa|(refine aC rfl ?_ ?_<;>rintro⟨⟩)|apply aK)
        all_goals first
          | (exfalso;omega;done)
          | refine aR ⟨_,rfl,[],WW (0,false),[],⟨by intro i hi;omega,by decide⟩,rfl,trivial,(0,false),trivial,rfl,rfl,rfl⟩
          | (refine⟨⟨⟨k+1,n*10+((e.toNat:Int) - 48)⟩,by dsimp only;omega,by dsimp only;(simp only[oZ] at *;omega),by dsimp only;rw [p];(simp only[oZ] at *;omega)⟩,by dsimp only;(omega),[],?_⟩
             (simp[cX,zC,a,cN]<;>rfl))
      · apply aE
        have v:(10 ^ k:Nat)<=100000000000000000:=i9 (jH (by omega) (i9 hk g)) (by decide);(repeat' first|refine tA rfl ?_|(refine Av rfl ?_;refine gA rfl ?_;first| refine gS (λ_ _=>RE rfl (IntWalk.i64_in _ (by omega))) ?_) |refine aU rfl ?_ |apply Aa|(refine aC rfl ?_ ?_<;>rintro⟨⟩)|apply aK);exact aR ⟨_,rfl,[],WW (n,true),[],⟨λi hi=>absurd hi (iZ i),i7⟩,rfl,trivial,(n,true),trivial,rfl,rfl,rfl⟩
    · have g:(s0).length<=17:=by omega
      apply aB;refine aL (α:={s:Nat×Int // s.1<=(s0).length/\0<=s.2/\s.2 < ((10 ^ s.1:Nat):Int)}) [0,4] [] rfl rfl (λs=>[(5,eI .i64 s.1.2),(6,eI .i64 s.1.1)]) (λs=>[]) 0 (λs=>(s0).length - s.1.1) (⟨⟨0,0⟩,by simp⟩) a rfl (by (simp[cX,zC,a])) ?_;rintro⟨⟨k,n⟩,hk,f,j⟩;(try dsimp only[cA,cB]);have hk:k<=(s0).length:=hk;have f:0<=n:=f;have j:n < ((10 ^ k:Nat):Int):=j;(repeat first|refine tA rfl ?_ |refine s2 rfl λ_ b=>?_ |refine aU rfl ?_ |apply Aa)
      ((refine aC rfl ?_ ?_<;>rintro⟨⟩);all_goals try (simp at b;done))
      · have q:k < (s0).length:=by (simp only[oZ] at *;omega)
        obtain⟨e,u⟩:=get_some (l:=s0) (k:=(k:Int).toNat) (by omega);have r:=e.toNat_lt;obtain⟨p,t⟩:=Ko k (by omega);apply aK;refine aS (aB ?_);(repeat' first|(refine sA rfl ?_ ?_;first|exact tI|omega|simp only[oZ] at *;omega) |(refine s4 rfl ‹_› rfl ?_ ?_;omega) |refine s2 rfl λ_ b=>?_|(refine Av rfl ?_;refine gA rfl ?_;first| refine gS (λ_ _=>EA rfl rfl (by omega) (by omega)) ?_) |refine s3 rfl ?_ ?_<;>rintro rfl |refine aU rfl ?_ |apply Aa|(refine aC rfl ?_ ?_<;>rintro⟨⟩)|apply aK)
        all_goals first
          | (exfalso;omega;done)
          | refine aR ⟨_,rfl,[],WW (0,false),[],⟨by intro i hi;omega,by decide⟩,rfl,trivial,(0,false),trivial,rfl,rfl,rfl⟩
          | (refine⟨⟨⟨k+1,n*10+((e.toNat:Int) - 48)⟩,by dsimp only;omega,by dsimp only;(simp only[oZ] at *;omega),by dsimp only;rw [p];(simp only[oZ] at *;omega)⟩,by dsimp only;(omega),[],?_⟩
             (simp[cX,zC,a,cN]<;>rfl))
      · apply aE
        have v:(10 ^ k:Nat)<=100000000000000000:=i9 (jH (by omega) (i9 hk g)) (by decide);(repeat' first|refine tA rfl ?_|(refine Av rfl ?_;refine gA rfl ?_;first| refine gS (λ_ _=>RE rfl (IntWalk.i64_in _ (by omega))) ?_) |refine aU rfl ?_ |apply Aa|(refine aC rfl ?_ ?_<;>rintro⟨⟩)|apply aK);exact aR ⟨_,rfl,[],WW (n,true),[],⟨λi hi=>absurd hi (iZ i),i7⟩,rfl,trivial,(n,true),trivial,rfl,rfl,rfl⟩
  obtain⟨d,w⟩:=w (by omega);refine eR Tryz.func153 rfl (by kernel_rfl) rfl ?_;intro Z a;(repeat' first|refine tA rfl ?_ |(refine s4 rfl ‹_› rfl ?_ ?_;omega) |refine s2 rfl λ_ b=>?_|(refine Av rfl ?_;refine gA rfl ?_;first| refine gS (λ_ _=>EA rfl rfl (by omega) (by omega)) ?_) |refine s3 rfl ?_ ?_<;>rintro rfl |refine aU rfl ?_ |apply Aa|(refine aC rfl ?_ ?_<;>rintro⟨⟩)|apply aK)
  all_goals first
    | (exfalso;(simp only[oZ] at *;omega);done)
    | refine aR ⟨_,rfl,[],WW (0,false),[],⟨by intro i hi;omega,by decide⟩,rfl,trivial,(0,false),trivial,rfl,rfl,rfl⟩
    | (exfalso;simp only [oZ,o] at *;omega)
    | skip
  · have g:(List.drop (Int.toNat 1) s0).length<=17:=by (simp only[oZ] at *;omega)
    apply aB;refine aL (α:={s:Nat×Int // s.1<=(List.drop (Int.toNat 1) s0).length/\0<=s.2/\s.2 < ((10 ^ s.1:Nat):Int)}) [0,4] [] rfl rfl (λs=>[(5,eI .i64 s.1.2),(6,eI .i64 s.1.1)]) (λs=>[]) 0 (λs=>(List.drop (Int.toNat 1) s0).length - s.1.1) (⟨⟨0,0⟩,by simp⟩) a rfl (by (simp[cX,zC,a])) ?_;rintro⟨⟨k,n⟩,hk,f,j⟩;(try dsimp only[cA,cB]);have hk:k<=(List.drop (Int.toNat 1) s0).length:=hk;have f:0<=n:=f;have j:n < ((10 ^ k:Nat):Int):=j;(repeat first|refine tA rfl ?_ |refine s2 rfl λ_ b=>?_ |refine aU rfl ?_ |apply Aa)
    ((refine aC rfl ?_ ?_<;>rintro⟨⟩);all_goals try (simp at b;done))
    · have q:k < (List.drop (Int.toNat 1) s0).length:=by (simp only[oZ] at *;omega)
      obtain⟨e,u⟩:=get_some (l:=List.drop (Int.toNat 1) s0) (k:=(k:Int).toNat) (by omega);have r:=e.toNat_lt;obtain⟨p,t⟩:=Ko k (by omega);apply aK;refine aS (aB ?_);(repeat' first|(refine sA rfl ?_ ?_;first|exact tI|omega|simp only[oZ] at *;omega) |(refine s4 rfl ‹_› rfl ?_ ?_;omega) |refine s2 rfl λ_ b=>?_|(refine Av rfl ?_;refine gA rfl ?_;first| refine gS (λ_ _=>EA rfl rfl (by omega) (by omega)) ?_) |refine s3 rfl ?_ ?_<;>rintro rfl |refine aU rfl ?_ |apply Aa|(refine aC rfl ?_ ?_<;>rintro⟨⟩)|apply aK)
      all_goals first
        | (exfalso;omega;done)
        | refine aR ⟨_,rfl,[],WW (0,false),[],⟨by intro i hi;omega,by decide⟩,rfl,trivial,(0,false),trivial,rfl,rfl,rfl⟩
        | (refine⟨⟨⟨k+1,n*10+((e.toNat:Int) - 48)⟩,by dsimp only;omega,by dsimp only;(simp only[oZ] at *;omega),by dsimp only;rw [p];(simp only[oZ] at *;omega)⟩,by dsimp only;(omega),[],?_⟩
           (simp[cX,zC,a,cN]<;>rfl))
    · apply aE
      have v:(10 ^ k:Nat)<=100000000000000000:=i9 (jH (by omega) (i9 hk g)) (by decide);(repeat' first|refine tA rfl ?_|(refine Av rfl ?_;refine gA rfl ?_;first| refine gS (λ_ _=>RE rfl (IntWalk.i64_in _ (by omega))) ?_) |refine aU rfl ?_ |apply Aa|(refine aC rfl ?_ ?_<;>rintro⟨⟩)|apply aK);exact aR ⟨_,rfl,[],WW (-n,true),[],⟨λi hi=>absurd hi (iZ i),i7⟩,rfl,trivial,(-n,true),trivial,rfl,rfl,rfl⟩
  · have g:(s0).length<=17:=by (simp only[oZ] at *;omega)
    apply aB;refine aL (α:={s:Nat×Int // s.1<=(s0).length/\0<=s.2/\s.2 < ((10 ^ s.1:Nat):Int)}) [0,4] [] rfl rfl (λs=>[(5,eI .i64 s.1.2),(6,eI .i64 s.1.1)]) (λs=>[]) 0 (λs=>(s0).length - s.1.1) (⟨⟨0,0⟩,by simp⟩) a rfl (by (simp[cX,zC,a])) ?_;rintro⟨⟨k,n⟩,hk,f,j⟩;(try dsimp only[cA,cB]);have hk:k<=(s0).length:=hk;have f:0<=n:=f;have j:n < ((10 ^ k:Nat):Int):=j;(repeat first|refine tA rfl ?_ |refine s2 rfl λ_ b=>?_ |refine aU rfl ?_ |apply Aa)
    ((refine aC rfl ?_ ?_<;>rintro⟨⟩);all_goals try (simp at b;done))
    · have q:k < (s0).length:=by (simp only[oZ] at *;omega)
      obtain⟨e,u⟩:=get_some (l:=s0) (k:=(k:Int).toNat) (by omega);have r:=e.toNat_lt;obtain⟨p,t⟩:=Ko k (by omega);apply aK;refine aS (aB ?_);(repeat' first|(refine sA rfl ?_ ?_;first|exact tI|omega|simp only[oZ] at *;omega) |(refine s4 rfl ‹_› rfl ?_ ?_;omega) |refine s2 rfl λ_ b=>?_|(refine Av rfl ?_;refine gA rfl ?_;first| refine gS (λ_ _=>EA rfl rfl (by omega) (by omega)) ?_) |refine s3 rfl ?_ ?_<;>rintro rfl |refine aU rfl ?_ |apply Aa|(refine aC rfl ?_ ?_<;>rintro⟨⟩)|apply aK)
      all_goals first
        | (exfalso;omega;done)
        | refine aR ⟨_,rfl,[],WW (0,false),[],⟨by intro i hi;omega,by decide⟩,rfl,trivial,(0,false),trivial,rfl,rfl,rfl⟩
        | (refine⟨⟨⟨k+1,n*10+((e.toNat:Int) - 48)⟩,by dsimp only;omega,by dsimp only;(simp only[oZ] at *;omega),by dsimp only;rw [p];(simp only[oZ] at *;omega)⟩,by dsimp only;(omega),[],?_⟩
           (simp[cX,zC,a,cN]<;>rfl))
    · apply aE
      have v:(10 ^ k:Nat)<=100000000000000000:=i9 (jH (by omega) (i9 hk g)) (by decide);(repeat' first|refine tA rfl ?_|(refine Av rfl ?_;refine gA rfl ?_;first| refine gS (λ_ _=>RE rfl (IntWalk.i64_in _ (by omega))) ?_) |refine aU rfl ?_ |apply Aa|(refine aC rfl ?_ ?_<;>rintro⟨⟩)|apply aK);exact aR ⟨_,rfl,[],WW (n,true),[],⟨λi hi=>absurd hi (iZ i),i7⟩,rfl,trivial,(n,true),trivial,rfl,rfl,rfl⟩
def Jt(t:Bb)(col:W):Option Bb:=if t.cols.length=20\/col∈t.cols then none else some ⟨t.rows,t.cols++[col]⟩
def Lp(o:Option Bb):E:=match o with
 | some t=>.t [(true,[.d (FR t.rows),.d (FR t.cols)]),(false,[.d (bD true)])]
 | none=>.t [(true,[.d (.l []),.d (.l [])]),(false,[.d (bD false)])]
structure Sq (al:Int) (b:Nat) (t:Bb):Prop where
 onR:∀w∈t.rows,A0 (BE al) w/\w.length<=b
 onC:∀x∈t.cols,A0 (BE al) x/\x.length<=20000
 rl:t.rows.length<=12
 cl:t.cols.length<=20
theorem Sq.push{L:W->Bool}{al:Int}{b:Nat}{t:Bb}{w:W}(h:Sq al b t)(g:Bg L (BE al) t=some w)(i:t.rows.length < 12):Sq al (b+1) ⟨t.rows++[w],t.cols⟩:=by
 obtain⟨⟨r,f,l,e,rfl⟩,_⟩:=Hn g;refine⟨λu a=>?_,h.onC,by simp;omega,h.cl⟩
 rcases f6.1 a with a|a
 ·have:=h.onR u a;exact⟨this.1,by omega⟩
 ·simp at a
  subst a;have:=h.onR r f;refine⟨λc d=>?_,by simp;omega⟩
  rcases f6.1 d with d|d
  ·exact this.1 c d
  ·simp at d;subst d;exact e
def Bv:Bb:=⟨[[]],[[]]⟩
theorem WI(al:Int):Sq al 20000 Bv:=by
 refine⟨λw a=>?_,λw a=>?_,by decide,by decide⟩<;>(simp [Bv] at a;subst a;exact⟨λc b=>by simp at b,by simp⟩)
def BR(L:W->Bool)(al:Int)(t:Bb):AU:=⟨al,t.rows.map λr=>(Ac al).map λl=>((DB L t (r++[lb l]):Nat):Int),t.rows.map L⟩
abbrev fV(r:List Int×Bool):E:=.t [(false,[.d (Fw r.1)]),(false,[.d (bD r.2)])]
theorem Ti(e:W)(v:e.length<=1000000):Spec Tryz.prog TB 140 [] 0 [eT e] (Dx (λr:List Int×Bool=>r.1.length<=e.length+1) fV):=by
 refine eR Tryz.func140 rfl (by kernel_rfl) rfl ?_;intro Z a;(repeat first|refine tX rfl ?_ |refine aU rfl ?_ |apply Aa);(refine pW rfl ?_ rfl (by rfl);refine Bd rfl rfl rfl rfl (by simp) (by rfl) (by rfl) (by rfl) (by rfl) ?_);(repeat first|refine tX rfl ?_ |refine s2 rfl λ_ b=>?_ |refine aU rfl ?_ |apply Aa);(refine aC rfl ?_ ?_<;>rintro⟨⟩)
 ·(repeat first|refine tX rfl ?_ |refine aU rfl ?_ |apply Aa)
  refine Ai.settle [(2,Aj []),(3,eB true)] ⟨⟨_,rfl,.o (.full rfl (by simp) (by simp))⟩,⟨_,rfl,.o .d⟩,trivial⟩ ?_;exact aR ⟨_,rfl,[],fV ([],true),[],⟨λi hi=>absurd hi (iZ i),i7⟩,rfl,trivial,([],true),jF _,rfl,rfl,rfl⟩
 apply aK;(repeat first|refine tA rfl ?_ |refine aU rfl ?_);(refine pW rfl ?_ rfl (by rfl);refine Af [] rfl rfl (KL (TB:=TB) e v 44) ⟨rfl,by decide,by decide⟩ rfl trivial ?_;rintro q f h ⟨ps,⟨y,x,j⟩,rfl,rfl,rfl⟩ _);(repeat first|refine tA rfl ?_ |refine aU rfl ?_ |apply Aa);apply aB;refine aL (α:={z:Nat×List Int // z.1<=ps.length/\z.2.length=z.1}) [5] [] rfl rfl (λs=>[(4,.o (.arr 0 1 0 s.1.2.length)),(6,eI .i64 s.1.1)]) (λs=>[(0,.cells 3 1 (s.1.2.map AB))]) 1 (λs=>ps.length - s.1.1) (⟨⟨0,[]⟩,by simp⟩) a rfl (by (simp[cX,zC,a])) ?_;rintro⟨⟨k,r⟩,hk,c⟩;(try dsimp only[cA,cB]);have hk:k<=ps.length:=hk;have c:r.length=k:=c;(repeat first|refine sN rfl ?_ |refine tA rfl ?_ |refine s2 rfl λ_ b=>?_ |refine aU rfl ?_ |apply Aa)
 ((refine aC rfl ?_ ?_<;>rintro⟨⟩);all_goals try (simp at b;done))
 ·have m:k < ps.length:=by (simp only[oZ] at *;omega)
  obtain⟨w,p⟩:=get_some (l:=ps) (k:=k) m;have u:=get_map (g:=C0) p;have t:=j w (co p);apply aK;refine aS (aB ?_);(repeat first|refine tA rfl ?_ |(refine s4 rfl ‹_› rfl ?_ ?_;omega) |refine aU rfl ?_);(refine pW rfl ?_ rfl (by rfl);refine Af [] rfl rfl (Ij (TB:=TB) w (by omega)) ⟨rfl,by decide,by decide⟩ rfl trivial ?_;rintro q f h ⟨⟨n,ok⟩,_,rfl,rfl,rfl⟩ _);(repeat first|refine tA rfl ?_ |refine s2 rfl λ_ b=>?_ |refine aU rfl ?_ |apply Aa);(refine aC rfl ?_ ?_<;>rintro⟨⟩)
  ·(repeat first|refine tA rfl ?_ |refine aU rfl ?_ |apply Aa)
   exact aR ⟨_,rfl,[],fV ([],false),[],⟨λi hi=>absurd hi (iZ i),i7⟩,rfl,trivial,([],false),jF _,rfl,rfl,rfl⟩
  apply aK;(repeat first|refine tA rfl ?_ |refine aU rfl ?_);(refine pW rfl ?_ rfl (by rfl);refine Aw rfl rfl rfl (by first| (simp;done)|(simp;(omega))) rfl (by intro r c;simp at c;subst c;rfl) (by rfl) (ce rfl) (by simp;omega) ?_);(repeat first|(refine sA rfl ?_ ?_;first|exact tI|omega) |refine aU rfl ?_ |apply Aa);refine⟨⟨⟨k+1,r++[n]⟩,by dsimp only;omega,by simp;omega⟩,by dsimp only;(omega),[1],?_⟩;(simp[cX,zC,a,cN]<;>rfl)
 ·apply aE
  (repeat first|refine tA rfl ?_ |refine aU rfl ?_ |apply Aa);refine Ai.settle [(2,Aj r),(3,eB true)] ⟨⟨_,rfl,.o (.full rfl (by simp [d5]) (by simp))⟩,⟨_,rfl,.o .d⟩,trivial⟩ ?_;exact aR ⟨_,rfl,[],fV (r,true),[],⟨λi hi=>absurd hi (iZ i),i7⟩,rfl,trivial,(r,true),by show r.length<=_;omega,rfl,rfl,rfl⟩
end Go.Am
namespace Go.Am
def Ev(a:AU):Int->W->Int
 | q,[]=>q
 | q,c::w=>Ev a (Cb a q.toNat ((c.toNat:Int) - 97)) w
def LA(a:AU)(w:W):Bool:=a.ac.getD (Ev a 0 w).toNat false
theorem RN(a:AU):∀(u w:W) (q:Int),Ev a q (u++w)=Ev a (Ev a q u) w
 | [],_,_=>rfl
 | c::u,w,q=>RN a u w _
theorem KO{l:Int}(b:0<=l)(a:l < 6):((lb l).toNat:Int) - 97=l:=by
 unfold lb
 have:(97+l.toNat) % 256=97+l.toNat:=by omega
 simp [this];omega
theorem Mr{al:Int}{c:UInt8}(h:c∈BE al):0<=(c.toNat:Int) - 97/\(c.toNat:Int) - 97 < 6:=by
 obtain⟨l,a,rfl⟩:=f7.1 h;have b:=Au a;rw [KO b.1 (by omega)];omega
theorem P4{a:AU}(ha:AH a=true){al:Int}:∀(w:W) (q:Int),A0 (BE al) w->0<=q/\q < a.nx.length->0<=Ev a q w/\Ev a q w < a.nx.length
 | [],q,_,d=>d
 | c::w,q,b,d=>by
  have e:=Mr (b c (by simp));have g:=Dp ha (q:=q.toNat) (by omega) e.1 e.2;exact P4 ha w _ (λx f=>b x (by simp [f])) g
theorem Mq{al:Int}{l:Int}(h:l∈Ac al):lb l∈BE al:=f7.2 ⟨l,h,rfl⟩
theorem Pp{L:W->Bool}{al:Int}{t:Bb}(hal:A3 al=true)(h:BQ L (BE al) t)(b:t.rows.length<=12):AH (BR L al t)=true:=by
 have j:0 < t.rows.length:=(am.1 h.r0).1;unfold AH;simp only [d4,decide_eq_true_eq,d8];refine⟨⟨⟨hal,by simp [BR];omega⟩,by simp [BR]⟩,λrow a=>?_⟩;simp only [BR,f7] at a;obtain⟨r,b,rfl⟩:=a;unfold EY;simp only [d4,decide_eq_true_eq,d8];refine⟨by simp [BR],λy c=>?_⟩;obtain⟨l,d,rfl⟩:=f7.1 c;obtain⟨i,hi,e⟩:=jm b;obtain⟨r',g,_⟩:=h.idx (i:=i) (r:=r) (by rw [d6 hi,e]) (Mq d);have f:=(am.1 g).1;unfold Qc;simp [BR];exact f
theorem QM{L:W->Bool}{al:Int}{t:Bb}{q:Nat}{c:UInt8}(e:q < t.rows.length)(g:c∈BE al):Cb (BR L al t) q ((c.toNat:Int) - 97)=((DB L t (t.rows.getD q []++[c]):Nat):Int):=by
 obtain⟨l,a,rfl⟩:=f7.1 g;have d:=Au a;rw [KO d.1 (by omega)];obtain⟨k,hk,f⟩:=jm a
 have b:(AG al 6)[k]? = some l:=by rw [d6 hk,f]
 have m:=IM b;unfold Cb;have j:AP (BR L al t).al l.toNat=true:=d.2.2;rw [if_pos j];have i:(AG (BR L al t).al l.toNat).length=k:=m;rw [i]
 have h:(BR L al t).nx.getD q []=(Ac al).map λl=>((DB L t (t.rows.getD q []++[lb l]):Nat):Int):=by
  simp [BR,List.getD,e]
 rw [h];simp [List.getD,b]
theorem OZ{L:W->Bool}{al:Int}{t:Bb}(h:BQ L (BE al) t):∀(w:W) (q:Nat),A0 (BE al) w->q < t.rows.length->Ev (BR L al t) q w=((runM L t q w:Nat):Int)
 | [],q,_,_=>rfl
 | c::w,q,a,b=>by
  have f:t.rows[q]? = some t.rows[q]:=d6 b;have d:=a c (by simp);obtain⟨_,j,_⟩:=h.idx f d
  have i:t.rows.getD q []=t.rows[q]:=by simp [f]
  have e:=(am.1 j).1
  show Ev (BR L al t) (Cb (BR L al t) ((q:Int)).toNat ((c.toNat:Int) - 97)) w=_
  rw [io,QM b d];rw [<-i] at e;exact OZ h w _ (λx g=>a x (by simp [g])) e
theorem Pk{L:W->Bool}{al:Int}{t:Bb}(h:BQ L (BE al) t){w:W}(a:A0 (BE al) w):LA (BR L al t) w=Oh L t w:=by
 have c:0 < t.rows.length:=(am.1 h.r0).1;have d:=h.run w 0 a c;unfold LA Oh;have b:=OZ h w 0 a c;rw [show ((0:Nat):Int)=0 from rfl] at b;rw [b,io];simp [BR,List.getD,d]
section
variable {α:Type}[DecidableEq α]
def CS{α:Type}(f:α->Int->α):α->List Int->α
 | q,[]=>q
 | q,l::w=>CS f (f q l) w
theorem J6{α:Type}(f:α->Int->α):∀(u w:List Int) (q:α),CS f q (u++w)=CS f (CS f q u) w
 | [],_,_=>rfl
 | l::u,w,q=>J6 f u w _
structure Part (f:α->Int->α) (ls:List Int) (s:α) (nd:List α) (rows:List (List Int)) (lim:Nat):Prop where
 st:nd[0]? = some s
 nodup:nd.Nodup
 len:rows.length<=nd.length
 lim:nd.length<=lim
 row:∀(i:Nat) (r:List Int),rows[i]? = some r->∃q,nd[i]? = some q/\r=ls.map (λl=>((nd.idxOf (f q l):Nat):Int))/\∀l∈ls,f q l∈nd
 rc:∀q∈nd,∃w:List Int,(∀l∈w,l∈ls)/\CS f s w=q
structure iF (f:α->Int->α) (ls:List Int) (s:α) (nd:List α) (rows:List (List Int)):Prop where
 st:nd[0]? = some s
 nodup:nd.Nodup
 len:rows.length=nd.length
 row:∀(i:Nat) (q:α),nd[i]? = some q->rows[i]? = some (ls.map λl=>((nd.idxOf (f q l):Nat):Int))
 cl:∀q∈nd,∀l∈ls,f q l∈nd
 rc:∀q∈nd,∃w:List Int,(∀l∈w,l∈ls)/\CS f s w=q
end
section
variable {α β:Type}[DecidableEq α][DecidableEq β]
end
section
variable {α β:Type}[DecidableEq α][DecidableEq β]
end
end Go.Am
namespace Go.Am
open Go
theorem Ir{g:Gr}:∀ {u v:List Int} {a x:Int},reach g (u++v) a x↔∃y,reach g u a y/\reach g v y x
 | [],v,a,x=>⟨λh=>⟨a,rfl,h⟩,λ⟨y,c,b⟩=>by cases c;exact b⟩
 | l :: u,v,a,x=>by
  simp only [jT,reach];constructor
  ·rintro⟨y,d,h⟩
   obtain⟨z,c,b⟩:=Ir.1 h;exact⟨z,⟨y,d,c⟩,b⟩
  ·rintro⟨z,⟨y,d,c⟩,b⟩
   exact⟨y,d,Ir.2 ⟨z,c,b⟩⟩
theorem dc(n:Nat)(f:Nat->Int)(h:∀i,i<=n->0<=f i/\f i < n):∃i j,i < j/\j<=n/\f i=f j:=by
 apply Classical.byContradiction;intro hno
 have g:((List.range (n+1)).map λi=>(f i).toNat).Nodup:=by
  unfold List.Nodup;rw [lc];refine List.pairwise_lt_range.imp_of_mem λ{a b} ha hb c k=>hno ⟨a,b,c,?_,?_⟩
  ·have:=jj.1 hb;omega
  ·have d:=h a (by have:=jj.1 ha;omega)
   have l:=h b (by have:=jj.1 hb;omega);omega
 have d:=Ry n _ g λx e=>by
  obtain⟨i,hi,rfl⟩:=f7.1 e;have:=h i (by have:=jj.1 hi;omega);omega
 simp at d;omega
theorem BS.short{g:Gr}(n:HJ g){w:List Int}(h:BS g (some w)):w.length < g.N:=by
 obtain⟨e,⟨x,o,c⟩,r⟩:=h;apply Classical.byContradiction;intro m;have b:∀k,∃y,reach g (w.take k) g.s0 y/\reach g (w.drop k) y x:=λk=>Ir.1 (by rw [jZ];exact o);obtain⟨f,d⟩:=Classical.axiomOfChoice b;obtain⟨i,j,p,s,q⟩:=dc g.N f λi _=>Da n (λl a=>e l (jg a)) n.s0 (d i).1;refine r (w.take i++w.drop j) (λl a=>?_) ⟨x,Ir.2 ⟨f i,(d i).1,q ▸ (d j).2⟩,c⟩ (.inl ?_)
 ·rcases f6.1 a with a|a
  ·exact e l (jg a)
  ·exact e l (kL a)
 ·simp;omega
theorem Zl{al:Int}:∀ {w:List Int},(∀l∈w,l∈Ac al)->A0 (BE al) (C1 w):=λ{w} h c b=>by
 obtain⟨l,a,rfl⟩:=f7.1 b;exact Mq (h l a)
theorem Ld(L:W->Bool)(ls:List UInt8):TOk L ls Bv:=by
 refine⟨rfl,rfl,λi w hi d=>?_,λw a=>?_,λw a=>?_,by simp [AY,Bv],by simp [Bv]⟩
 ·have:=(am.1 hi).1
  simp [Bv] at this;omega
 ·simp [Bv] at a;subst a;exact λc b=>(by cases b)
 ·simp [Bv] at a;subst a;exact λc b=>(by cases b)
theorem TOk.short{L:W->Bool}{ls:List UInt8}{t:Bb}(h:TOk L ls t):∀(i:Nat) w,t.rows[i]? = some w->w.length<=i:=by
 intro i
 induction i using Nat.strongRecOn with
 | _ i c=>
  intro w a
  rcases jI i with b|b
  ·subst b
   rw [h.r0] at a
   injection a with a
   subst a;simp
  ·obtain⟨f,j,d,e⟩:=h.pre i w a b
   have:=c j d _ e;simp at this;omega
end Go.Am
namespace Go.Am
open Go Go.Proofs
set_option maxHeartbeats 1000000
set_option maxRecDepth 4000
attribute [local irreducible] A8 Cq Lex Br Ai Spec
variable {TB:BA}
abbrev Zh(kn:Bool)(p:AU)(s:Sys)(q:AU)(al:Int):List D:=[bD kn,iD p.al,C7 p.nx,Gx p.ac,iD s.al,iD s.st,Em s.es,iD q.al,C7 q.nx,Gx q.ac,iD al]
theorem PR{ls:List UInt8}{w:W}(h:A0 ls w)(k:Nat):A0 ls (w.take k):=λc a=>h c (jg a)
theorem Wy{p:AU}{w:W}{k:Nat}{c:UInt8}(a:w[k]? = some c)(q:Int):Ev p q (w.take (k+1))=Cb p (Ev p q (w.take k)).toNat ((c.toNat:Int) - 97):=by
 rw [gc,a,RN];rfl
theorem Wz{L:W->Bool}{t:Bb}{w:W}{k:Nat}{c:UInt8}(a:w[k]? = some c)(q:Nat):runM L t q (w.take (k+1))=DB L t (t.rows.getD (runM L t q (w.take k)) []++[c]):=by
 rw [gc,a,RO];rfl
def DG(L:W->Bool)(t:Bb)(w:W):Option W:=if Oh L t w=L w then none else splitAt L t (L w) 0 w
theorem Qb{L:W->Bool}{t:Bb}{b:Bool}{w:W}{k q:Nat}{c:UInt8}(a:w[k]? = some c):splitAt L t b q (w.drop k)=if L (t.rows.getD (DB L t (t.rows.getD q []++[c])) []++w.drop (k+1))≠b then some (w.drop (k+1)) else splitAt L t b (DB L t (t.rows.getD q []++[c])) (w.drop (k+1)):=by
 rw [BF a,splitAt]
def LN(L:W->Bool)(ls:List UInt8)(t:Bb)(w:W):Option Bb:=(DG L t w).bind λv=>(Jt t v).bind λu=>BO L ls 13 u
theorem LM{L:W->Bool}{t:Bb}{b:Bool}:∀ {w:W} {q:Nat} {v:W},splitAt L t b q w=some v->∃p,p≠[]/\w=p++v
 | [],q,v,h=>by simp [splitAt] at h
 | c::w,q,v,h=>by
  unfold splitAt at h;split at h
  ·injection h with h;subst h;exact⟨[c],by simp,rfl⟩
  ·obtain⟨p,_,a⟩:=LM h;exact⟨c::p,by simp,by rw [a];rfl⟩
theorem TW{L:W->Bool}{t:Bb}{w v:W}(h:DG L t w=some v):∃p,p≠[]/\w=p++v:=by
 unfold DG at h;split at h
 ·cases h
 ·exact LM h
abbrev iQ(kn:Bool)(p:AU)(s:Sys)(q:AU)(al:Int):E:=.a ((Zh kn p s q al).map .d)
end Go.Am
