/-
  The search for broken properties.
-/
import Derived.Test.YtohfiindiidcfaaGreatDoorPart23
set_option linter.all false
namespace Go.Am
open Go Go.Proofs
set_option maxHeartbeats 1000000
set_option maxRecDepth 4000
attribute [local irreducible] A3 Cp Lex Bl Aj Spec
variable {TB:BC}
theorem VP(a:AY):(Hb a).length=a.nx.length:=by simp [Hb,BM]
def Oi:AY:=⟨0,[[]],[true]⟩
theorem fD:AI Oi=true:=by decide
theorem jr{l:List Sys}{a p:AY}{ls:List Int}(h:∀s∈l,AV s=true)(d:l.length<=3)(ha:AI a=true)(c:AI p=true):((gI l a p ls).N:Int)=Aw (l.map (·.st))*a.nx.length*p.nx.length/\1<=(gI l a p ls).N/\(gI l a p ls).N<=1048576:=by
 have b:=Jt h d;have m:=Cr ha;have k:=Cr c;have j:(gI l a p ls).N=(Aw (l.map (·.st))*a.nx.length*p.nx.length).toNat:=rfl;have i:Aw (l.map (·.st))*a.nx.length<=4096*12:=pe b.2 (by omega) (by omega) (by omega);have g:1*1<=Aw (l.map (·.st))*a.nx.length:=pe b.1 (by omega) (by omega) (by omega);have f:Aw (l.map (·.st))*a.nx.length*p.nx.length<=49152*12:=pe (by omega) (by omega) (by omega) (by omega);have e:1*1<=Aw (l.map (·.st))*a.nx.length*p.nx.length:=pe (by omega) (by omega) (by omega) (by omega);omega
theorem Qj{l:List Sys}{a p:AY}(h:∀s∈l,AV s=true)(d:l.length<=3)(ha:AI a=true)(c:AI p=true){node letter:Int}(m:0<=node)(i:0<=letter)(g:letter < 6):(∀y∈Jz l a p node letter,0<=y/\y < Aw (l.map (·.st))*a.nx.length*p.nx.length)/\((Jz l a p node letter).length:Int)<=Aw (l.map (·.st)):=by
 have r:=Tj (SU h d i g (node / p.nx.length / a.nx.length));have x:=Jt h d;have w:=Cr ha;have v:=Cr c;have u:=Vw ha c m i g;refine⟨λy j=>?_,by unfold Jz;simp;omega⟩;obtain⟨o,k,rfl⟩:=d8.1 j;have n:=r.1 o k;have e:∀o:Int,o*a.nx.length*p.nx.length=o*(a.nx.length*p.nx.length):=λo=>ql _ _ _;rw [e,e];have f:0<=(a.nx.length:Int)*p.nx.length:=ph (by omega) (by omega);generalize (a.nx.length:Int)*p.nx.length=q at *;have t:0<=o*q:=ph n.1 f;have b:(o+1)*q<=Aw (l.map (·.st))*q:=pQ (by omega) f;rw [qE] at b;omega
theorem iE{l:List Sys}{a p:AY}{x:Int}(h:∀s∈l,AV s=true)(c:l.length<=3)(ha:AI a=true)(b:AI p=true):I6 (gI l a p (Ac x)):=by
 have i:=jr (ls:=Ac x) h c ha b;refine⟨?_,λy e m f z d=>?_,ET _ _⟩
 ·show 0<=(0:Int)/\(0:Int) < _
  omega
 ·have g:=Al f
  have j:=(Qj h c ha b e.1 g.1 (by omega)).1 z d;omega
theorem Pk[Dc TB](l:List Sys)(a p:AY)(h:AU l=true)(ha:AI a=true)(d:AI p=true) :
 Pure Tryz.prog TB 54 [Gl l,.o (.ip (AP a)),Bj p] (Lv (Dd (gI l a p (Ac (Gt .i64 (Bv l) a.al))))):=by
 have c:=h;unfold AU at c;simp only [d4,decide_eq_true_eq,f7] at c;obtain⟨⟨v,e⟩,b⟩:=c;have m:=jr (ls:=Ac (Gt .i64 (Bv l) a.al)) b e ha d;have w:=iE (x:=Gt .i64 (Bv l) a.al) b e ha d;have i:=Jt b e;have y:=Cr ha;have s:=Cr d;have j:Pure Tryz.prog TB 97 [eI .i64 (Aw (l.map (·.st))*a.nx.length*p.nx.length),Ak [0],Ak (Ac (Gt .i64 (Bv l) a.al)),.o (.fn 94 [.ip [.l (Hb a)],.ip [iD p.nx.length],.ip [iD a.nx.length],.ip [.l (Hb p)],.ip (GX l)]),.o (.fn 96 [.ip [.p (AP a)],.ip [iD p.nx.length],.ip [iD a.nx.length],.ip (AP p)])]
  (Lv (Dd (gI l a p (Ac (Gt .i64 (Bv l) a.al))))):=by
  rw [<-m.1];refine Lx w m.2.2 (λx f=>by have:=Al f;omega) (AM _ 6) (λnode x g f=>?_) (λnode x outs g f t=>?_) (λn g=>?_) rfl (λr=>rfl) (λr=>rfl) (Dp _)
  ·have k:=Al f
   have z:=(Qj b e ha d g.1 k.1 (by omega)).2;have F:Aw (l.map (·.st))*1<=Aw (l.map (·.st))*a.nx.length:=pb (by omega) (by omega);have B:Aw (l.map (·.st))*a.nx.length*1<=Aw (l.map (·.st))*a.nx.length*p.nx.length:=pb (by omega) (by omega);have A:(((gI l a p (Ac (Gt .i64 (Bv l) a.al))).succ node x).length:Int)<=Aw (l.map (·.st)):=z;omega
  ·have k:=Al f
   exact U7 b e ha d node x g.1 (by omega) k.1 (by omega) outs t
  ·exact UD ha d n g.1 (by omega)
 have u:0<=Aw (l.map (·.st))*a.nx.length/\Aw (l.map (·.st))*a.nx.length<=49152:=⟨ph (by omega) (by omega),by
  have:Aw (l.map (·.st))*a.nx.length<=4096*12:=pe i.2 (by omega) (by omega) (by omega)
  omega⟩
 refine eN Tryz.func54 rfl (by kernel_rfl) rfl ?_;intro Z q;(repeat first|refine aU rfl ?_);(refine Ag rfl ?_;refine CI (λ_ _=>Db rfl rfl rfl) rfl ?_);(refine Ag rfl ?_;refine CI (λ_ _=>Db rfl rfl rfl) rfl ?_);(repeat first|refine tM rfl ?_ |refine sP rfl (NX l b e) rfl ?_|refine sP rfl (FP l) rfl ?_ |refine aU rfl ?_ |refine Aa ?_);(refine aC rfl ?_ ?_<;>rintro⟨⟩);refine aK ?_;refine aS ?_;refine R.Rn [(0,2),(1,2),(2,2),(3,2),(4,2),(5,2),(6,3),(7,3),(8,5),(9,5)] mixed (by kernel_rfl) rfl (by kernel_rfl) ?_;(repeat ((refine R.Ag rfl ?_;first|(refine R.yQ (md:=false) rfl rfl rfl ?_ ?_;exact tI) |refine R.yP rfl rfl rfl rfl ?_ |refine R.yA rfl rfl rfl rfl ?_|refine R.CI (λ_ _ _=>Bu rfl rfl rfl (Fz a ha) rfl) rfl rfl ?_|refine R.CI (λ_ _ _=>Bu rfl rfl rfl (Fz p d) rfl) rfl rfl ?_ )));refine R.QW ?_;refine aS ?_;refine Aj.freeze [0,1,2] [(4,.o (.ip [.p (AP a)])),(5,.o (.ip (AP p))),(8,.o (.ip (GX l))),(9,eI .i64 (Bv l)),(10,.o (.ip [.l (Hb a)])),(11,.o (.ip [.l (Hb p)]))] ⟨⟨_,rfl,.AR⟩,⟨_,rfl,.AR⟩,⟨_,rfl,.o (.ptr (by simp) rfl rfl rfl)⟩,⟨_,rfl,.AR⟩,⟨_,rfl,.o (.ptr (by simp) rfl rfl rfl)⟩,⟨_,rfl,.o (.ptr (by simp) rfl rfl rfl)⟩,trivial⟩ ?_;refine R.Rn [(0,2),(1,2),(2,2),(3,2),(4,3),(5,3),(6,5),(7,5)] mixed (by kernel_rfl) rfl (by kernel_rfl) ?_;(repeat ((refine R.Ag rfl ?_;first|(refine R.yQ (md:=false) rfl rfl rfl ?_ ?_;exact tI) |refine R.yP rfl rfl rfl rfl ?_ |refine R.yA rfl rfl rfl rfl ?_ )));refine R.QW ?_;refine aS ?_;simp only [VP];refine Aj.freeze [3,4] [(4,.o (.ip [.p (AP a)])),(5,.o (.ip (AP p))),(8,.o (.ip (GX l))),(9,eI .i64 (Bv l)),(10,.o (.ip [.l (Hb a)])),(11,.o (.ip [.l (Hb p)])),(12,.o (.ip [iD a.nx.length])),(13,.o (.ip [iD p.nx.length]))] ⟨⟨_,rfl,.AR⟩,⟨_,rfl,.AR⟩,⟨_,rfl,.AR⟩,⟨_,rfl,.AR⟩,⟨_,rfl,.AR⟩,⟨_,rfl,.AR⟩,⟨_,rfl,.o (.ptr (by simp) rfl rfl rfl)⟩,⟨_,rfl,.o (.ptr (by simp) rfl rfl rfl)⟩,trivial⟩ ?_;(repeat first|refine tA rfl ?_ |refine aU rfl ?_ |refine Aa ?_);refine rG (Hg []) (by kernel_rfl) ?_;(repeat first|(refine sA rfl ?_ ?_;first|exact tI|omega) |refine sP rfl (Zm l b e) rfl ?_|refine sP rfl (C0 _) rfl ?_|refine sP rfl (j) rfl ?_ |refine Aa ?_);refine aR ⟨_,rfl,rfl⟩
theorem Ol[Dc TB](l:List Sys)(p:AY)(h:AU l=true)(e:AI p=true) :
 Pure Tryz.prog TB 54 [Gl l,.o (.d (.v (.pointer none))),Bj p] (Lv (Dd (gI l Oi p (Ac (Gt .i64 (Bv l) Oi.al))))):=by
 obtain⟨a,g⟩:∃a,a=Oi:=⟨_,rfl⟩
 have ha:AI a=true:=by rw [g];exact fD
 rw [<-g];have c:=h;unfold AU at c;simp only [d4,decide_eq_true_eq,f7] at c;obtain⟨⟨z,f⟩,b⟩:=c;have s:=jr (ls:=Ac (Gt .i64 (Bv l) a.al)) b f ha e;have A:=iE (x:=Gt .i64 (Bv l) a.al) b f ha e;have k:=Jt b f;have B:=Cr ha;have u:=Cr e;have m:Pure Tryz.prog TB 97 [eI .i64 (Aw (l.map (·.st))*a.nx.length*p.nx.length),Ak [0],Ak (Ac (Gt .i64 (Bv l) a.al)),.o (.fn 94 [.ip [.l (Hb a)],.ip [iD p.nx.length],.ip [iD a.nx.length],.ip [.l (Hb p)],.ip (GX l)]),.o (.fn 96 [.ip [.p (AP a)],.ip [iD p.nx.length],.ip [iD a.nx.length],.ip (AP p)])]
  (Lv (Dd (gI l a p (Ac (Gt .i64 (Bv l) a.al))))):=by
  rw [<-s.1];refine Lx A s.2.2 (λx i=>by have:=Al i;omega) (AM _ 6) (λnode x j i=>?_) (λnode x outs j i w=>?_) (λn j=>?_) rfl (λr=>rfl) (λr=>rfl) (Dp _)
  ·have q:=Al i
   have F:=(Qj b f ha e j.1 q.1 (by omega)).2;have I:Aw (l.map (·.st))*1<=Aw (l.map (·.st))*a.nx.length:=pb (by omega) (by omega);have H:Aw (l.map (·.st))*a.nx.length*1<=Aw (l.map (·.st))*a.nx.length*p.nx.length:=pb (by omega) (by omega);have G:(((gI l a p (Ac (Gt .i64 (Bv l) a.al))).succ node x).length:Int)<=Aw (l.map (·.st)):=F;omega
  ·have q:=Al i
   exact U7 b f ha e node x j.1 (by omega) q.1 (by omega) outs w
  ·exact UD ha e n j.1 (by omega)
 have y:0<=Aw (l.map (·.st))*a.nx.length/\Aw (l.map (·.st))*a.nx.length<=49152:=⟨ph (by omega) (by omega),by
  have:Aw (l.map (·.st))*a.nx.length<=4096*12:=pe k.2 (by omega) (by omega) (by omega)
  omega⟩
 refine eN Tryz.func54 rfl (by kernel_rfl) rfl ?_;intro Z t;(repeat first|refine aU rfl ?_);(refine pW rfl ?_ rfl (by rfl);refine De rfl rfl ?_);(refine Ag rfl ?_;refine CI (λ_ _=>Db rfl rfl rfl) rfl ?_);(repeat first|refine tM rfl ?_ |refine sP rfl (NX l b f) rfl ?_|refine sP rfl (FP l) rfl ?_ |refine aU rfl ?_ |refine Aa ?_);(refine aC rfl ?_ ?_<;>rintro⟨⟩);(repeat first|refine tA rfl ?_|(refine Ag rfl ?_;refine gA rfl ?_;first| refine gS (λ_ _=>AG rfl rfl (by rfl) (by rfl)) ?_) |refine aU rfl ?_ |refine Aa ?_);refine Aj.freeze [0,1] [(4,.o (.ip [.p (AP a)])),(5,.o (.ip (AP p))),(8,.o (.ip (GX l))),(9,eI .i64 (Bv l))] ⟨⟨_,rfl,.o (.ptr (by simp) rfl rfl (by rw [g];rfl))⟩,⟨_,rfl,.AR⟩,⟨_,rfl,.o (.ptr (by simp) rfl rfl rfl)⟩,⟨_,rfl,.AR⟩,trivial⟩ ?_;refine R.Rn [(0,2),(1,2),(2,2),(3,2),(4,2),(5,2),(6,3),(7,3),(8,5),(9,5)] mixed (by kernel_rfl) rfl (by kernel_rfl) ?_;(repeat ((refine R.Ag rfl ?_;first|(refine R.yQ (md:=false) rfl rfl rfl ?_ ?_;exact tI) |refine R.yP rfl rfl rfl rfl ?_ |refine R.yA rfl rfl rfl rfl ?_|refine R.CI (λ_ _ _=>Bu rfl rfl rfl (Fz a ha) rfl) rfl rfl ?_|refine R.CI (λ_ _ _=>Bu rfl rfl rfl (Fz p e) rfl) rfl rfl ?_ )));refine R.QW ?_;refine aS ?_;refine Aj.freeze [2,3] [(4,.o (.ip [.p (AP a)])),(5,.o (.ip (AP p))),(8,.o (.ip (GX l))),(9,eI .i64 (Bv l)),(10,.o (.ip [.l (Hb a)])),(11,.o (.ip [.l (Hb p)]))] ⟨⟨_,rfl,.AR⟩,⟨_,rfl,.AR⟩,⟨_,rfl,.AR⟩,⟨_,rfl,.AR⟩,⟨_,rfl,.o (.ptr (by simp) rfl rfl rfl)⟩,⟨_,rfl,.o (.ptr (by simp) rfl rfl rfl)⟩,trivial⟩ ?_;refine R.Rn [(0,2),(1,2),(2,2),(3,2),(4,3),(5,3),(6,5),(7,5)] mixed (by kernel_rfl) rfl (by kernel_rfl) ?_;(repeat ((refine R.Ag rfl ?_;first|(refine R.yQ (md:=false) rfl rfl rfl ?_ ?_;exact tI) |refine R.yP rfl rfl rfl rfl ?_ |refine R.yA rfl rfl rfl rfl ?_ )));refine R.QW ?_;refine aS ?_;simp only [VP];refine Aj.freeze [4,5] [(4,.o (.ip [.p (AP a)])),(5,.o (.ip (AP p))),(8,.o (.ip (GX l))),(9,eI .i64 (Bv l)),(10,.o (.ip [.l (Hb a)])),(11,.o (.ip [.l (Hb p)])),(12,.o (.ip [iD a.nx.length])),(13,.o (.ip [iD p.nx.length]))] ⟨⟨_,rfl,.AR⟩,⟨_,rfl,.AR⟩,⟨_,rfl,.AR⟩,⟨_,rfl,.AR⟩,⟨_,rfl,.AR⟩,⟨_,rfl,.AR⟩,⟨_,rfl,.o (.ptr (by simp) rfl rfl rfl)⟩,⟨_,rfl,.o (.ptr (by simp) rfl rfl rfl)⟩,trivial⟩ ?_;(repeat first|refine tA rfl ?_ |refine aU rfl ?_ |refine Aa ?_);refine rG (Hg []) (by kernel_rfl) ?_;(repeat first|(refine sA rfl ?_ ?_;first|exact tI|omega) |refine sP rfl (Zm l b f) rfl ?_|refine sP rfl (C0 _) rfl ?_|refine sP rfl (m) rfl ?_ |refine Aa ?_);refine aR ⟨_,rfl,rfl⟩
end Go.Am
namespace Go.Am
open Go
theorem Hs{g g':Gr}(d:I6 g)(c:g.ls=g'.ls)(e:∀x:Int,0<=x/\x < g.N->∀l∈g.ls,g.succ x l=g'.succ x l):∀ {w:List Int} {a x:Int},over g w->(0<=a/\a < g.N)->(reach g w a x↔reach g' w a x)
 | [],a,x,_,_=>Iff.rfl
 | l :: w,a,x,f,ha=>by
  have j:=f l (by simp);simp only [reach,<-e a ha l j];constructor
  ·rintro⟨y,b,h⟩
   exact⟨y,b,(Hs d c e (λm i=>f m (by simp [i])) (d.inn a ha l j y b)).1 h⟩
  ·rintro⟨y,b,h⟩
   exact⟨y,b,(Hs d c e (λm i=>f m (by simp [i])) (d.inn a ha l j y b)).2 h⟩
theorem CE.congr{g g':Gr}(c:I6 g)(d:g.ls=g'.ls)(q:g.s0=g'.s0)(m:∀x:Int,0<=x/\x < g.N->∀l∈g.ls,g.succ x l=g'.succ x l)(i:∀x:Int,0<=x/\x < g.N->g.goal x=g'.goal x){r:Option (List Int)}(h:CE g r):CE g' r:=by
 have b:∀w,over g' w↔over g w:=λw=>by unfold over;rw [d]
 have k:∀w,over g w->(QP g' w↔QP g w):=λw j=>by
  unfold QP;rw [<-q];constructor
  ·rintro⟨x,a,e⟩
   have a:=(Hs c d m j c.s0).2 a;exact⟨x,a,by rw [i x (DL c j c.s0 a)];exact e⟩
  ·rintro⟨x,a,e⟩
   exact⟨x,(Hs c d m j c.s0).1 a,by rw [<-i x (DL c j c.s0 a)];exact e⟩
 cases r with
 | none=>exact λu f a=>h u ((b u).1 f) ((k u ((b u).1 f)).1 a)
 | some w=>
  obtain⟨n,p,o⟩:=h;exact⟨(b w).2 n,(k w n).2 p,λu f a=>o u ((b u).1 f) ((k u ((b u).1 f)).1 a)⟩
theorem cZ{zs ws:List Int}{cs ds:List (List Int)}(h:FH zs cs):Ey (zs++ws) (cs++ds)=(Ey zs cs).flatMap λo=>(Ey ws ds).map λr=>o*Aw ws+r:=by
 induction h with
 | nil=>simp [Ey]
 | @cons z c zs cs _ _ _ a=>
  simp only [pM,Ey,a];rw [List.flatMap_assoc];congr 1;funext q;rw [List.map_flatMap,List.flatMap_map];congr 1;funext o;rw [pz];congr 1;funext r;simp only [d5,Nm];rw [qE,ql];omega
theorem VI(l:List Sys)(aus:List AY)(st:List Int)(ls kd gl:Int):Af ⟨l,aus,st,ls,kd,gl⟩=l.map (·.st)++aus.map (λa=>(a.nx.length:Int)):=rfl
theorem LZ{l:List Sys}{aus:List AY}{st:List Int}{ls kd gl:Int}(b:DW ⟨l,aus,st,ls,kd,gl⟩){node letter:Int}(f:0<=letter)(d:letter < 6) :
 Fv ⟨l,aus,st,ls,kd,gl⟩ (Af ⟨l,aus,st,ls,kd,gl⟩) (BI (Af ⟨l,aus,st,ls,kd,gl⟩) node) letter =
  (Ey (l.map (·.st)) (ZM l (node / Aw (aus.map λa=>(a.nx.length:Int))) letter)).flatMap λo=>(Ey (aus.map λa=>(a.nx.length:Int)) (aus.zipWith (λa q=>[CB a q.toNat letter]) (BI (aus.map λa=>(a.nx.length:Int)) node))).map λr=>o*Aw (aus.map λa=>(a.nx.length:Int))+r:=by
 have h:∀w∈aus.map (λa=>(a.nx.length:Int)),0 < w:=λw g=>by
  obtain⟨a,ha,rfl⟩:=d8.1 g;have:=AE (b.au a ha);omega
 unfold Fv;rw [RS (Im b (Lu b node) f d),VI,Pe _ _ _ h];have c:=SU b.ps b.np f d (node / Aw (aus.map λa=>(a.nx.length:Int)))
 have e:KA ⟨l,aus,st,ls,kd,gl⟩ (BI (l.map (·.st)) (node / Aw (aus.map λa=>(a.nx.length:Int)))++BI (aus.map λa=>(a.nx.length:Int)) node) letter=ZM l (node / Aw (aus.map λa=>(a.nx.length:Int))) letter++aus.zipWith (λa q=>[CB a q.toNat letter]) (BI (aus.map λa=>(a.nx.length:Int)) node):=by
  unfold KA ZM
  have i:(BI (l.map (·.st)) (node / Aw (aus.map λa=>(a.nx.length:Int)))).length=l.length:=by rw [Lt];simp
  simp only;rw [List.drop_append_of_le_length (by omega),pO (by omega),rr];congr 1;rw [Gs,List.take_append_of_le_length (by omega),gc (by omega)]
 rw [e,cZ c]
theorem MT:∀(zs:List Int) (k:Nat),DE zs (List.replicate k 0) 0=0
 | [],k=>by simp [DE]
 | z::zs,0=>by simp [DE]
 | z::zs,k+1=>by
  rw [rm];simp only [DE,Int.zero_mul,Int.add_zero];exact MT zs k
theorem UF{a:Int}(ha:Bb a=true):Gt .i64 0 a=a/\Gt .i64 a 0=a:=by
 unfold Bb at ha;simp only [decide_eq_true_eq] at ha;have d:=LG (a:=0) (b:=a.toNat) (by omega) (by omega);have c:=LG (a:=a.toNat) (b:=0) (by omega) (by omega)
 have e:((a.toNat:Nat):Int)=a:=by omega
 rw [e] at d c;have f:(((0:Nat)):Int)=0:=rfl;rw [f] at d c;rw [Nat.zero_or] at d;rw [Nat.or_zero] at c;exact⟨by rw [d.1];exact e,by rw [c.1];exact e⟩
theorem Xp{l:List Sys}(h:AU l=true):Bb (Bv l)=true:=by
 unfold Bv;rw [if_pos h];unfold AU at h;rw [d4] at h;exact Js h.2 rfl
theorem dn{s:Sys}{a p:AY}(h:CU s a p=true):Dd (gI [s] a p (Ac (Gt .i64 (Bv [s]) a.al)))=Dd (Eb (Ec s a p)):=by
 obtain⟨j,hk,d⟩:=OH h;have c:=h;unfold CU at c;simp only [d4] at c;obtain⟨⟨i,ha⟩,n⟩:=c;have q:=Cr ha;have m:=Cr n
 have b:Bv [s]=s.al:=by
  have:AU [s]=true:=by simp [AU,i]
  unfold Bv;rw [if_pos this];exact(UF (AN i).1).1
 refine O2 (CE.congr (Pn j d) ?_ ?_ (λx k l f=>?_) (λx k=>?_) (Dp _))
 ·show Ac (Gt .i64 s.al a.al)=Ac (Gt .i64 (Bv [s]) a.al)
  rw [b]
 ·exact MT (Af (Ec s a p)) 3
 ·have f:=Al (show l∈AJ (Gt .i64 s.al a.al) 6 from f)
  show Fv (Ec s a p) (Af (Ec s a p)) (BI (Af (Ec s a p)) x) l=Jz [s] a p x l
  have e:=LZ (l:=[s]) (aus:=[a,p]) (st:=[0,0,0]) (ls:=Gt .i64 s.al a.al) (kd:=2) (gl:=0) j (node:=x) f.1 (by omega);refine Eq.trans e ?_;unfold Jz Ga;simp only [pR,su,Aw,Int.mul_one,BI,List.zipWith_cons_cons,List.zipWith_nil_left,Ey,qW,List.flatMap_nil,pf,Int.ediv_one,Int.add_zero]
  have g:x / p.nx.length / a.nx.length=x / (a.nx.length*p.nx.length):=by rw [qP (by omega),qJ]
  rw [g,List.map_eq_flatMap];congr 1;funext o;rw [ql]
 ·show CR (Ec s a p) (BI (Af (Ec s a p)) x) (Fx (Ec s a p) x.toNat)=NP a p x
  unfold CR az NP;simp [Ec,Af,BI,Aw,List.getD]
theorem dm{l:List Sys}{p:AY}(h:(AU l && AI p)=true):Dd (gI l Oi p (Ac (Gt .i64 (Bv l) Oi.al)))=Dd (Eb (CP l p)):=by
 obtain⟨g,hk,c⟩:=OG h;rw [d4] at h;obtain⟨s,r⟩:=h;have n:=Cr r;refine O2 (CE.congr (Pn g c) ?_ ?_ (λx j m d=>?_) (λx j=>?_) (Dp _))
 ·show Ac (Bv l)=Ac (Gt .i64 (Bv l) 0)
  rw [(UF (Xp s)).2]
 ·exact MT (Af (CP l p)) (l.length+1)
 ·have d:=Al (show m∈AJ (Bv l) 6 from d)
  show Fv (CP l p) (Af (CP l p)) (BI (Af (CP l p)) x) m=Jz l Oi p x m
  have e:=LZ (l:=l) (aus:=[p]) (st:=List.replicate (l.length+1) 0) (ls:=Bv l) (kd:=3) (gl:=0) g (node:=x) d.1 (by omega);refine Eq.trans e ?_
  have f:∀q:Nat,CB Oi q m=q:=λq=>by
   have:AX 0 m.toNat=false:=by
    have v:m=0\/m=1\/m=2\/m=3\/m=4\/m=5:=by omega
    rcases v with rfl|rfl|rfl|rfl|rfl|rfl<;>decide
   unfold CB;rw [if_neg]
   show ¬AX 0 m.toNat=true
   rw [this];simp
  have b:((Oi.nx.length:Nat):Int)=1:=rfl;unfold Jz Ga;rw [f,b];simp only [pR,su,Aw,Int.mul_one,BI,List.zipWith_cons_cons,List.zipWith_nil_left,Ey,qW,List.flatMap_nil,pf,Int.ediv_one,Int.add_zero,Int.emod_one];generalize Ey (l.map (·.st)) (ZM l (x / p.nx.length) m)=LL;rw [List.map_eq_flatMap];congr 1;funext o;simp
 ·show CR (CP l p) (BI (Af (CP l p)) x) (Fx (CP l p) x.toNat)=NP Oi p x
  have b:((Oi.nx.length:Nat):Int)=1:=rfl;have u:=Pe (l.map (·.st)) [(p.nx.length:Int)] x (by intro w k;simp at k;omega);have i:Af (CP l p)=l.map (·.st)++[(p.nx.length:Int)]:=rfl
  have a:(BI (l.map (·.st)) (x / Aw [(p.nx.length:Int)])).length=l.length:=by rw [Lt];simp
  rw [i,u];generalize BI (l.map (·.st)) (x / Aw [(p.nx.length:Int)])=dd at a
  have t:(dd++BI [(p.nx.length:Int)] x).getD (l.length+0) 0=x % p.nx.length:=by
   rw [List.getD,qZ,f9 (by omega),a];simp [BI,Aw]
  unfold CR az NP;rw [b];have A:(CP l p).kd=3:=rfl;have z:(CP l p).ps=l:=rfl;have y:(CP l p).au=[p]:=rfl;rw [A,z,y,t];simp [Oi,List.getD]
end Go.Am
namespace Go.Am
open Go Go.Proofs
set_option maxHeartbeats 1000000
set_option maxRecDepth 4000
attribute [local irreducible] A3 Cp Lex Bl Aj Spec
variable {TB:BC}
theorem Dz[Dc TB](l:List Sys)(p:AY):Pure Tryz.prog TB 29 [Gl l,Bj p] (Lv (Bx l p)):=by
 by_cases c:(AU l && AI p)=true
 ·have b:Bx l p=Dd (Eb (CP l p)):=by unfold Bx;rw [if_pos c]
  rw [b,<-dm c];rw [d4] at c;have e:=Ol (TB:=TB) l p c.1 c.2;refine eN Tryz.func29 rfl (by kernel_rfl) rfl ?_;intro Z d;(repeat' first |refine sN rfl ?_ |((first|refine sA rfl ?_ ?_|refine s4 rfl ‹_› rfl ?_ ?_);first|exact tI|omega|simp only[oZ] at *;omega) |refine s2 rfl λ_ a=>?_ |(refine sC rfl (Hj l) ?_;intro _ a)|(refine sC rfl (AW p) ?_;intro _ a)|refine sP rfl (e) rfl ?_ |refine s3 rfl ?_ ?_<;>rintro rfl |refine aU rfl ?_ |refine Aa ?_ |refine rE (by kernel_rfl) ?_|(refine aC rfl ?_ ?_<;>rintro⟨⟩)|refine aK ?_|refine aE ?_|refine aB ?_|refine aR ⟨_,rfl,?_⟩)
  all_goals first
   | rfl
   | (exfalso;grind;done)
 ·have b:Bx l p=none:=by unfold Bx;rw [if_neg c]
  rw [b];refine eN Tryz.func29 rfl (by kernel_rfl) rfl ?_;intro Z d;(repeat' first |refine sN rfl ?_ |((first|refine sA rfl ?_ ?_|refine s4 rfl ‹_› rfl ?_ ?_);first|exact tI|omega|simp only[oZ] at *;omega) |refine s2 rfl λ_ a=>?_ |(refine sC rfl (Hj l) ?_;intro _ a)|(refine sC rfl (AW p) ?_;intro _ a) |refine s3 rfl ?_ ?_<;>rintro rfl |refine aU rfl ?_ |refine Aa ?_ |refine rE (by kernel_rfl) ?_|(refine aC rfl ?_ ?_<;>rintro⟨⟩)|refine aK ?_|refine aE ?_|refine aB ?_|refine aR ⟨_,rfl,?_⟩)
  all_goals first
   | rfl
   | (exfalso;grind;done)
theorem Fh[Dc TB](s:Sys)(a p:AY):Pure Tryz.prog TB 53 [Br s,Bj a,Bj p] (Lv (DN s a p)):=by
 by_cases c:CU s a p=true
 ·have d:DN s a p=Dd (Eb (Ec s a p)):=by unfold DN;rw [if_pos c]
  rw [d,<-dn c];unfold CU at c;simp only [d4] at c;have f:=Pk (TB:=TB) [s] a p (by simp [AU,c.1.1]) c.1.2 c.2;refine eN Tryz.func53 rfl (by kernel_rfl) rfl ?_;intro Z e;(repeat' first |refine sN rfl ?_ |((first|refine sA rfl ?_ ?_|refine s4 rfl ‹_› rfl ?_ ?_);first|exact tI|omega|simp only[oZ] at *;omega) |refine s2 rfl λ_ b=>?_ |(refine sC rfl (BK s) ?_;intro _ b)|(refine sC rfl (AW a) ?_;intro _ b)|(refine sC rfl (AW p) ?_;intro _ b)|refine sP rfl (f) rfl ?_ |refine s3 rfl ?_ ?_<;>rintro rfl |refine aU rfl ?_ |refine Aa ?_ |refine rE (by kernel_rfl) ?_|(refine aC rfl ?_ ?_<;>rintro⟨⟩)|refine aK ?_|refine aE ?_|refine aB ?_|refine aR ⟨_,rfl,?_⟩)
  all_goals first
   | rfl
   | (exfalso;grind;done)
 ·have d:DN s a p=none:=by unfold DN;rw [if_neg c]
  rw [d];refine eN Tryz.func53 rfl (by kernel_rfl) rfl ?_;intro Z e;(repeat' first |refine sN rfl ?_ |((first|refine sA rfl ?_ ?_|refine s4 rfl ‹_› rfl ?_ ?_);first|exact tI|omega|simp only[oZ] at *;omega) |refine s2 rfl λ_ b=>?_ |(refine sC rfl (BK s) ?_;intro _ b)|(refine sC rfl (AW a) ?_;intro _ b)|(refine sC rfl (AW p) ?_;intro _ b) |refine s3 rfl ?_ ?_<;>rintro rfl |refine aU rfl ?_ |refine Aa ?_ |refine rE (by kernel_rfl) ?_|(refine aC rfl ?_ ?_<;>rintro⟨⟩)|refine aK ?_|refine aE ?_|refine aB ?_|refine aR ⟨_,rfl,?_⟩)
  all_goals first
   | rfl
   | (exfalso;unfold CU at c;grind;done)
theorem Na[Dc TB](l:List Sys)(p:AY):Pure Tryz.prog TB 16 [Gl l,Bj p] (eB (Cs l p)):=by
 refine eN Tryz.func16 rfl (by kernel_rfl) rfl ?_;intro Z b;(repeat' first |refine sN rfl ?_ |((first|refine sA rfl ?_ ?_|refine s4 rfl ‹_› rfl ?_ ?_);first|exact tI|omega|simp only[oZ] at *;omega) |refine s2 rfl λ_ a=>?_ |refine sP rfl (Dz l p) rfl ?_|(refine sC rfl (Hj l) ?_;intro _ a)|(refine sC rfl (AW p) ?_;intro _ a) |refine s3 rfl ?_ ?_<;>rintro rfl |refine aU rfl ?_ |refine Aa ?_ |refine rE (by kernel_rfl) ?_|(refine aC rfl ?_ ?_<;>rintro⟨⟩)|refine aK ?_|refine aE ?_|refine aB ?_|refine aR ⟨_,rfl,?_⟩)
 all_goals (show E.o _=E.o _;congr;unfold Cs;grind)
theorem LI[Dc TB](s:Sys)(a p:AY):Pure Tryz.prog TB 28 [Br s,Bj a,Bj p] (eB (Jj s a p)):=by
 refine eN Tryz.func28 rfl (by kernel_rfl) rfl ?_;intro Z c;(repeat' first |refine sN rfl ?_ |((first|refine sA rfl ?_ ?_|refine s4 rfl ‹_› rfl ?_ ?_);first|exact tI|omega|simp only[oZ] at *;omega) |refine s2 rfl λ_ b=>?_ |refine sP rfl (Fh s a p) rfl ?_|(refine sC rfl (BK s) ?_;intro _ b)|(refine sC rfl (AW a) ?_;intro _ b)|(refine sC rfl (AW p) ?_;intro _ b) |refine s3 rfl ?_ ?_<;>rintro rfl |refine aU rfl ?_ |refine Aa ?_ |refine rE (by kernel_rfl) ?_|(refine aC rfl ?_ ?_<;>rintro⟨⟩)|refine aK ?_|refine aE ?_|refine aB ?_|refine aR ⟨_,rfl,?_⟩)
 all_goals (show E.o _=E.o _;congr;unfold Jj CU;grind)
theorem Jh[Dc TB](s:Sys)(p:AY):Pure Tryz.prog TB 19 [Br s,Bj p] (eB (Cs [s] p)):=by
 refine eN Tryz.func19 rfl (by kernel_rfl) rfl ?_;intro Z a;(repeat' first |refine sN rfl ?_ |((first|refine sA rfl ?_ ?_|refine s4 rfl ‹_› rfl ?_ ?_);first|exact tI|omega|simp only[oZ] at *;omega) |refine s2 rfl λ_ b=>?_ |refine sP rfl (Na [s] p) rfl ?_ |refine s3 rfl ?_ ?_<;>rintro rfl |refine aU rfl ?_ |refine Aa ?_ |refine rE (by kernel_rfl) ?_|(refine aC rfl ?_ ?_<;>rintro⟨⟩)|refine aK ?_|refine aE ?_|refine aB ?_|refine aR ⟨_,rfl,?_⟩)
 all_goals rfl
theorem GQ(s:Sys)(p:AY)(t:Sys):Pure Tryz.prog TB 26 [Br s,Bj p,Br t] (eI .i64 (AZ s p t)):=by
 refine eN Tryz.func26 rfl (by kernel_rfl) rfl ?_;intro Z b;(repeat' first |refine sN rfl ?_ |((first|refine sA rfl ?_ ?_|refine s4 rfl ‹_› rfl ?_ ?_);first|exact tI|omega|simp only[oZ] at *;omega) |refine s2 rfl λ_ a=>?_ |(refine sC rfl (BK s) ?_;intro _ a)|(refine sC rfl (AW p) ?_;intro _ a)|(refine sC rfl (BK t) ?_;intro _ a) |refine s3 rfl ?_ ?_<;>rintro rfl |refine aU rfl ?_ |refine Aa ?_ |refine rE (by kernel_rfl) ?_|(refine aC rfl ?_ ?_<;>rintro⟨⟩)|refine aK ?_|refine aE ?_|refine aB ?_|refine aR ⟨_,rfl,?_⟩)
 all_goals (show E.o _=E.o _;congr;unfold AZ;grind)
theorem Td[Dc TB](s t:Sys)(p a:AY):Pure Tryz.prog TB 17 [Br s,Br t,Bj p,Bj a] (eI .i64 (GM s t p a)):=by
 refine eN Tryz.func17 rfl (by kernel_rfl) rfl ?_;intro Z c;(repeat' first |refine sN rfl ?_ |((first|refine sA rfl ?_ ?_|refine s4 rfl ‹_› rfl ?_ ?_);first|exact tI|omega|simp only[oZ] at *;omega) |refine s2 rfl λ_ b=>?_ |refine sP rfl (GQ s p t) rfl ?_|(refine sC rfl (AW a) ?_;intro _ b)|(refine sC rfl (LI s a p) ?_;intro _ b)|(refine sC rfl (Jh t a) ?_;intro _ b) |refine s3 rfl ?_ ?_<;>rintro rfl |refine aU rfl ?_ |refine Aa ?_ |refine rE (by kernel_rfl) ?_|(refine aC rfl ?_ ?_<;>rintro⟨⟩)|refine aK ?_|refine aE ?_|refine aB ?_|refine aR ⟨_,rfl,?_⟩)
 all_goals (show E.o _=E.o _;congr;unfold GM;grind)
abbrev VM(t:A2):List D:=[BZ t.rows,BZ t.cols]
abbrev Eh(t:A2):E:=.a [.d (BZ t.rows),.d (BZ t.cols)]
abbrev Je(al:Int)(c:C):E:=.a [.d (iD al),c]
mutual
theorem E5:∀(c:C),c.Cm=true->∀r,c.Bi r=c
 | .d x,_,r=>rfl
 | .fn g cap,h,r=>by
  simp only [C.Cm] at h;simp only [C.Bi,PZ cap h r]
 | .arr ..,h,_=>by cases h
 | .ptr ..,h,_=>by cases h
 | .mp ..,h,_=>by cases h
 | .mv g l,h,r=>by
  simp only [C.Cm] at h;simp only [C.Bi,PZ l h r]
theorem PZ:∀(l:List C),C.Ds l=true->∀r,C.CA r l=l
 | [],_,r=>rfl
 | c::l,h,r=>by
  simp only [C.Ds,d4] at h;simp only [C.CA,E5 c h.1 r,PZ l h.2 r]
end
structure JZ (P:Program) (TB:BC) (c:C) (L:W->Bool) (ok:W->Prop):Prop where
 Cm:c.Cm=true
 ask:∀ {Z:Ctx} {d:Option Tmp} {ty:TypeId} {pos:String} {af:Array Edge} {g:Option (Nat×Bool)} {f:Env} {σ:Ab} {nx:Nat} {x a:Operand} {tys:Array TypeId} {w:W},
  ev f x=some (.o c)->ev f a=some (eT w)->ok w->A3 P TB Z ⟨d,.call ⟨.value x,#[a],tys⟩,ty,pos,af,g⟩ f σ nx (eB (L w))
def UZ(L:W->Bool)(cols:List W)(w:W)(k:Nat)(i:Nat):UInt8:=if i < k then RU (L (w++cols.getD i [])) else 0
theorem Xh(L:W->Bool)(cols:List W)(w:W):(BM cols.length λi=>FJ (UZ L cols w cols.length i))=(marks L cols w).map FJ:=by
 apply pP;intro i;by_cases h:i < cols.length
 ·rw [DU h]
  simp [marks,UZ,h]
 ·rw [oL (by simp [BM];omega),oL (by simp [marks];omega)]
theorem mV:FJ 0=[C.d (D.v (Value.int IntKind.u8 0))]:=rfl
theorem lA(L:W->Bool)(cols:List W)(w:W)(n:Nat):(BM n λi=>FJ (UZ L cols w 0 i))=List.replicate n (FJ 0):=by
 apply pP;intro i;by_cases h:i < n
 ·rw [DU h];simp [UZ,h]
 ·rw [oL (by simp [BM];omega),oL (by simp;omega)]
theorem db{L:W->Bool}{cols:List W}{w x:W}{k:Nat}(b:cols[k]? = some x):(BM cols.length λi=>FJ (if i=k then RU (L (w++x)) else UZ L cols w k i))=BM cols.length λi=>FJ (UZ L cols w (k+1) i):=by
 refine Df λi _=>?_;congr 1;unfold UZ;by_cases h:i=k
 ·subst h
  rw [if_pos rfl,if_pos (by omega)];simp [b]
 ·rw [if_neg h]
  by_cases a:i < k
  ·rw [if_pos a,if_pos (by omega)]
  ·rw [if_neg a,if_neg (by omega)]
theorem LN{c:C}{L:W->Bool}{ok:W->Prop}(B:JZ Tryz.prog TB c L ok)(al:Int)(t:A2)(w:W)(I:t.cols.length<=1048576)(hk:∀x∈t.cols,ok (w++x))(hb:∀x∈t.cols,w.length+x.length<=1048576) :
 Pure Tryz.prog TB 115 [Je al c,Eh t,eT w] (eT (marks L t.cols w)):=by
 have y:=E5 c B.Cm;refine eN Tryz.func115 rfl (by kernel_rfl) rfl ?_;intro Z b;(repeat first|refine aU rfl ?_);(refine pW rfl ?_ rfl (by rfl);refine De rfl rfl ?_);(refine Ag rfl ?_;refine CI (λ_ _=>Db rfl rfl rfl) rfl ?_);(repeat first|refine sN rfl ?_ |refine tM rfl ?_ |refine aU rfl ?_ |refine Aa ?_);(refine pW rfl ?_ rfl (by rfl);refine KQ rfl rfl (by rfl) (by rfl) (am rfl) (by omega) (by omega) (by omega) ?_);(repeat first|refine sN rfl ?_ |refine tM rfl ?_ |refine aU rfl ?_ |refine Aa ?_);refine aB ?_;refine Aj.A5 (α:={k:Nat // k<=t.cols.length}) (λ⟨k,j⟩=>[(2,eT w),(3,.o (.ptr 0 2 0 0)),(7,.o (.arr 1 1 0 t.cols.length)),(15,.o (.d (BZ t.cols))),(16,eI .i64 t.cols.length),(17,eI .i64 k)]) (λ⟨k,j⟩=>[(1,.cells 5 1 (BM t.cols.length λi=>FJ (UZ L t.cols w k i))),(0,.cells 91 2 [[.d (iD al),c]])]) 2 (λ⟨k,j⟩=>t.cols.length - k) (⟨0,by omega⟩) [0,1] (Ee b rfl rfl) (by (simp[cX,zC,b,Nq,y,lA,eC,FY,mV])) ?_;rintro⟨k,j⟩;(try dsimp only);(repeat first|refine s2 rfl λ_ r=>?_ |refine aU rfl ?_ |refine Aa ?_);(refine aC rfl ?_ ?_<;>rintro⟨⟩)
 ·have f:k < t.cols.length:=by (simp only[oZ] at *;omega)
  obtain⟨x,u⟩:=get_some (l:=t.cols) (k:=k) f;have G:=get_map (g:=CT) u;have s:=co u;have F:=hb x s;have z:=hk x s;have J:=Lz (H:=UZ L t.cols w k) (q:=k) (n:=t.cols.length) f;have e:(BM t.cols.length λi=>FJ (UZ L t.cols w k i)).set (0+((k:Nat):Int).toNat) (Ae (FJ (UZ L t.cols w k k)) 0 (eC (eI .u8 45)))=BM t.cols.length λi=>FJ (if i=k then 45 else UZ L t.cols w k i):=OS (c:=45);have A:=Lz (H:=λi=>if i=k then 45 else UZ L t.cols w k i) (q:=k) (n:=t.cols.length) f;rw [<-e] at A
  have v:(BM t.cols.length λi=>FJ (if i=k then 45 else UZ L t.cols w k i)).set (0+((k:Nat):Int).toNat) (Ae (FJ (if k=k then 45 else UZ L t.cols w k k)) 0 (eC (eI .u8 43)))=BM t.cols.length λi=>FJ (if i=k then 43 else UZ L t.cols w k i):=by
   refine(OS (H:=λi=>if i=k then 45 else UZ L t.cols w k i) (c:=43)).trans ?_;refine Df λi _=>?_;by_cases h:i=k<;>simp [h]
  have a:=db (L:=L) (w:=w) u;refine aK ?_;refine aS (aB ?_);(repeat first|((first|refine sM rfl ?_ ?_|refine s4 rfl ‹_› rfl ?_ ?_);first|exact tI|omega)|(refine Ag rfl ?_;refine gA rfl ?_;first| (refine gB (λ_ _=>B.ask rfl rfl z) ?_;intro _ r)) |refine aU rfl ?_ |refine Aa ?_);(refine aC rfl ?_ ?_<;>rintro⟨⟩)
  ·(repeat first|(refine sM rfl ?_ ?_;first|exact tI|omega) |refine t4 rfl ‹_› rfl ?_ |refine aU rfl ?_ |refine Aa ?_)
   refine⟨⟨k+1,by omega⟩,by dsimp only;(omega),[0,1],?_⟩;rw [e,v];rw [r] at a;have p:RU true=43:=rfl;have m:RU false=45:=rfl;simp only [p,m] at a;simp[cX,zC,b,Nq,y,a]
  ·refine aK ?_
   (repeat first|(refine sM rfl ?_ ?_;first|exact tI|omega) |refine aU rfl ?_ |refine Aa ?_);refine⟨⟨k+1,by omega⟩,by dsimp only;(omega),[0,1],?_⟩;rw [e];rw [r] at a;have p:RU true=43:=rfl;have m:RU false=45:=rfl;simp only [p,m] at a;simp[cX,zC,b,Nq,y,a]
 ·obtain rfl:k=t.cols.length:=by (simp only[oZ] at *;omega)
  rw [Xh];refine aE ?_;(repeat first|refine tM rfl ?_|(refine Ag rfl ?_;refine gA rfl ?_;first| refine gQ (OO (marks L t.cols w) rfl rfl (by simp [marks]) (by rw [pu,gc (by simp [marks])])) (by rfl) ?_) |refine aU rfl ?_ |refine Aa ?_);refine aR ⟨_,rfl,rfl⟩
def BX(L:W->Bool)(t:A2):Nat->List (W×Int)
 | 0=>[]
 | k+1=>if (CZ (BX L t k) (marks L t.cols (t.rows.getD k []))).isSome then BX L t k else BX L t k++[(marks L t.cols (t.rows.getD k []),(k:Int))]
structure bG (ok:W->Prop) (t:A2):Prop where
 ok:∀w∈t.rows,∀x∈t.cols,ok (w++x)
 rb:∀w∈t.rows,w.length<=65536
 cb:∀x∈t.cols,x.length<=65536
 rl:t.rows.length<=4096
 cl:t.cols.length<=4096
theorem Hx{c:C}{L:W->Bool}{ok:W->Prop}(r:JZ Tryz.prog TB c L ok)(al:Int)(t:A2)(ht:bG ok t) :
 Spec Tryz.prog TB 114 [] 0 [Je al c,Eh t] (λx σ nx=>x=.o (.mp 0)/\nx=1/\σ=[(0,.mp (IX (BX L t t.rows.length)))]):=by
 have n:=E5 c r.Cm;have w:=ht.rl;refine eN Tryz.func114 rfl (by kernel_rfl) rfl ?_;intro Z b;(repeat first|refine aU rfl ?_);(refine pW rfl ?_ rfl (by rfl);refine De rfl rfl ?_);(refine Ag rfl ?_;refine CI (λ_ _=>Db rfl rfl rfl) rfl ?_);(repeat first|refine tM rfl ?_ |refine aU rfl ?_ |refine Aa ?_);(refine pW rfl ?_ rfl (by rfl);refine RX ?_);(repeat first|refine sN rfl ?_ |refine tM rfl ?_ |refine aU rfl ?_ |refine Aa ?_);refine aB ?_;refine Aj.A5 (α:={k:Nat // k<=t.rows.length}) (λ⟨k,e⟩=>[(2,.o (.ptr 0 2 0 0)),(3,.o (.ip (VM t))),(5,.o (.mp 1)),(13,.o (.d (BZ t.rows))),(14,eI .i64 t.rows.length),(15,eI .i64 k)]) (λ⟨k,e⟩=>[(1,.mp (IX (BX L t k))),(0,.cells 91 2 [[.d (iD al),c]])]) 2 (λ⟨k,e⟩=>t.rows.length - k) (⟨0,by omega⟩) [0,1] (Ee b rfl rfl) (by (simp[cX,zC,b,n,eC,BX,IX])) ?_;rintro⟨k,e⟩;(try dsimp only);(repeat first|refine s2 rfl λ_ f=>?_ |refine aU rfl ?_ |refine Aa ?_);(refine aC rfl ?_ ?_<;>rintro⟨⟩)
 ·have p:k < t.rows.length:=by (simp only[oZ] at *;omega)
  obtain⟨x,m⟩:=get_some (l:=t.rows) (k:=k) p;have v:=get_map (g:=CT) m;have h:=co m;have u:=ht.rb x h;have z:=LN r al t x (by have:=ht.cl;omega) (ht.ok x h) (λy s=>by have:=ht.cb y s;omega)
  have q:t.rows.getD k []=x:=by simp [m]
  have a:BX L t (k+1)=if (CZ (BX L t k) (marks L t.cols x)).isSome then BX L t k else BX L t k++[(marks L t.cols x,(k:Int))]:=by
   rw [BX,q]
  refine aK ?_;refine aS (aB ?_);(repeat first|refine tM rfl ?_ |(refine s4 rfl ‹_› rfl ?_ ?_;omega) |refine s2 rfl λ_ f=>?_|(refine Ag rfl ?_;refine gA rfl ?_;first| refine gS (λ_ _=>Bu rfl rfl (by simp [E.Cm,C.Ds,C.Cm,r.Cm]) z rfl) ?_|refine gQ (dT rfl rfl rfl) (by rfl) ?_) |refine aU rfl ?_ |refine Aa ?_);(refine aC rfl ?_ ?_<;>rintro⟨⟩)
  ·have j:CZ (BX L t k) (marks L t.cols x)=none:=by simpa using f
   rw [j] at a;(repeat first|refine tM rfl ?_ |refine aU rfl ?_);(refine Ag rfl ?_;refine HU ?_ rfl (by rfl);refine lB rfl rfl rfl rfl j ?_);(repeat first|(refine sM rfl ?_ ?_;first|exact tI|omega) |refine aU rfl ?_ |refine Aa ?_);refine⟨⟨k+1,by omega⟩,by dsimp only;(omega),[0,1],?_⟩;simp[cX,zC,b,n,a]
  ·have j:(CZ (BX L t k) (marks L t.cols x)).isSome=true:=by simpa using f
   rw [if_pos j] at a;refine aK ?_;(repeat first|(refine sM rfl ?_ ?_;first|exact tI|omega) |refine aU rfl ?_ |refine Aa ?_);refine⟨⟨k+1,by omega⟩,by dsimp only;(omega),[0,1],?_⟩;simp[cX,zC,b,n,a]
 ·obtain rfl:k=t.rows.length:=by (simp only[oZ] at *;omega)
  refine aE ?_;(repeat first|refine tM rfl ?_ |refine aU rfl ?_ |refine Aa ?_);refine Aj.names [1] [(4,.o (.mp 0))] [(0,.mp (IX (BX L t t.rows.length)))] (by intro i hi;rw [b] at hi;omega) (by simp) (by simp[cX,zC,b]) (by simp[cX,zC,b]) ?_;refine aR ⟨_,rfl,rfl,rfl,rfl⟩
theorem ZR(l:List (W×Int))(p:W×Int)(s:W):CZ (l++[p]) s=(CZ l s).or (if p.1=s then some p.2 else none):=by
 unfold CZ;rw [sj]
 cases h:l.find? (λp=>decide (p.1=s)) with
 | some q=>simp
 | none=>by_cases a:p.1=s<;>simp [a]
theorem P5{L:W->Bool}{t:A2}{k:Nat}(h:k < t.rows.length):(AK L t)[k]? = some (marks L t.cols (t.rows.getD k [])):=by
 simp [AK,h]
theorem Sa(L:W->Bool)(t:A2):∀k,k<=t.rows.length->∀s,CZ (BX L t k) s=if s∈(AK L t).take k then some (((AK L t).idxOf s:Nat):Int) else none
 | 0,_,s=>by simp [BX,CZ]
 | k + 1, hk, s=>by
  have d:=Sa L t k (by omega);have f:=P5 (L:=L) (t:=t) (k:=k) (by omega);generalize marks L t.cols (t.rows.getD k [])=x at *
  have i:BX L t (k+1)=if (CZ (BX L t k) x).isSome then BX L t k else BX L t k++[(x,(k:Int))]:=by
   have c:=P5 (L:=L) (t:=t) (k:=k) (by omega);rw [f] at c
   injection c with c
   rw [BX,<-c]
  have a:∀s,s∈(AK L t).take (k+1)↔s∈(AK L t).take k\/s=x:=λs=>by
   rw [d9,f];simp
  rw [i];by_cases g:x∈(AK L t).take k
  ·rw [if_pos (by rw [d x,if_pos g];rfl),d s]
   by_cases b:s∈(AK L t).take k
   ·rw [if_pos b,if_pos ((a s).2 (.inl b))]
   ·rw [if_neg b,if_neg]
    intro h
    rcases(a s).1 h with h|h
    ·exact b h
    ·subst h;exact b g
  ·rw [if_neg (by rw [d x,if_neg g];simp),ZR,d s]
   by_cases b:s∈(AK L t).take k
   ·rw [if_pos b,if_pos ((a s).2 (.inl b))];rfl
   ·rw [if_neg b]
    by_cases m:x=s
    ·subst m
     rw [if_pos ((a x).2 (.inr rfl))]
     have l:(AK L t).idxOf x=k:=by
      have n:k < (AK L t).length:=(ce.1 f).1
      have e:AK L t=(AK L t).take k++x::(AK L t).drop (k+1):=by
       rw [<-BD f,px]
      rw [e,sk,if_neg g,rU];simp;omega
     simp [l]
    ·have j:s∉(AK L t).take (k+1):=λh=>by
      rcases(a s).1 h with h|h
      ·exact b h
      ·exact m h.symm
     rw [if_neg j];simp [m]
theorem Vi{L:W->Bool}{t:A2}{s:W}:CZ (BX L t t.rows.length) s=if s∈AK L t then some (((AK L t).idxOf s:Nat):Int) else none:=by
 have h:=Sa L t t.rows.length (i9 _) s;have e:(AK L t).take t.rows.length=AK L t:=gc (by simp [AK]);rwa [e] at h
theorem YV{L:W->Bool}{ls:List UInt8}{t:A2}{k j:Nat}{r:W}{l:UInt8}(e:t.rows[k]? = some r)(f:ls[j]? = some l)(n:∀w∈CS ls (t.rows.take k),marks L t.cols w∈AK L t)(m:∀x∈ls.take j,marks L t.cols (r++[x])∈AK L t)
 (i:marks L t.cols (r++[l])∉AK L t):Bc L ls t=some (r++[l]):=by
 have q:t.rows=t.rows.take k++r::t.rows.drop (k+1):=by
  rw [<-BD e,px]
 have p:ls=ls.take j++l::ls.drop (j+1):=by
  rw [<-BD f,px]
 have o:CS ls t.rows=CS ls (t.rows.take k)++((ls.take j).map (λx=>r++[x])++(r++[l])::((ls.drop (j+1)).map (λx=>r++[x])++CS ls (t.rows.drop (k+1)))):=by
  have h:CS ls t.rows=CS ls (t.rows.take k++r::t.rows.drop (k+1)):=congrArg _ q;rw [h];unfold CS;rw [List.flatMap_append,qW];have g:ls.map (λx=>r++[x])=(ls.take j++l::ls.drop (j+1)).map (λx=>r++[x]):=congrArg _ p;rw [g];simp
 unfold Bc;rw [o,sj,sj]
 have c:(CS ls (t.rows.take k)).find? (λw=>!(AK L t).contains (marks L t.cols w))=none:=qu.2 λw a=>by simpa using n w a
 have b:((ls.take j).map (λx=>r++[x])).find? (λw=>!(AK L t).contains (marks L t.cols w))=none:=qu.2 λw a=>by
  obtain⟨x,d,rfl⟩:=d8.1 a
  simpa using m x d
 rw [c,b];simp [i]
def lb(l:Int):UInt8:=UInt8.ofNat (97+l.toNat)
def A4(al:Int):List UInt8:=(Ac al).map lb
def ZN(o:Option W):E:=match o with
 | some w=>.t [(false,[.d (tD w)]),(false,[.d (bD true)])]
 | none=>.t [(false,[.d (tD [])]),(false,[.d (bD false)])]
theorem cY{l:Int}(a:0<=l):UInt8.ofNat (97+l).toNat=lb l:=by
 unfold lb;congr 1;omega
theorem Ux{L:W->Bool}{t:A2}{s:W}:(CZ (BX L t t.rows.length) s).isSome=true↔s∈AK L t:=by
 rw [Vi];by_cases h:s∈AK L t<;>simp [h]
theorem PG{ls:List UInt8}{t:A2}{k:Nat}{r:W}(h:t.rows[k]? = some r):CS ls (t.rows.take (k+1))=CS ls (t.rows.take k)++ls.map λl=>r++[l]:=by
 unfold CS;rw [d9,h];simp
theorem Tb{c:C}{L:W->Bool}{ok:W->Prop}(G:JZ Tryz.prog TB c L ok)(al:Int)(t:A2)(ht:bG ok t)(T:∀w∈t.rows,∀l∈A4 al,∀x∈t.cols,ok (w++[l]++x)) :
 Pure Tryz.prog TB 163 [Je al c,Eh t] (ZN (Bc L (A4 al) t)):=by
 have v:=E5 c G.Cm;have S:=ht.rl;have V:(Ac al).length<=6:=AM al 6;refine eN Tryz.func163 rfl (by kernel_rfl) rfl ?_;intro Z b;(repeat first|refine aU rfl ?_);(refine pW rfl ?_ rfl (by rfl);refine De rfl rfl ?_);(refine Ag rfl ?_;refine CI (λ_ _=>Db rfl rfl rfl) rfl ?_);(repeat first|refine tM rfl ?_ |refine aU rfl ?_ |refine Aa ?_);(refine pW rfl ?_ rfl (by rfl);refine Ai [] rfl rfl (Hx G al t ht) ⟨rfl,by simp,by simp⟩ (by simp [EY,E.Bi,C.CA,C.Bi,v,eC]) trivial ?_;rintro Y M N ⟨rfl,rfl,rfl⟩ _);(repeat first|refine sN rfl ?_ |refine tM rfl ?_ |refine aU rfl ?_ |refine Aa ?_);refine aB ?_;refine Aj.A5 (α:={k:Nat // k<=t.rows.length/\∀w∈CS (A4 al) (t.rows.take k),marks L t.cols w∈AK L t}) (λ⟨k,p,e⟩=>[(2,.o (.ptr 0 2 0 0)),(3,.o (.ip (VM t))),(6,.o (.mp 1)),(18,.o (.d (BZ t.rows))),(19,eI .i64 t.rows.length),(20,eI .i64 k)]) (λ⟨k,p,e⟩=>[(1,.mp (IX (BX L t t.rows.length))),(0,.cells 91 2 [[.d (iD al),c]])]) 2 (λ⟨k,p,e⟩=>t.rows.length - k) (⟨0,by omega,by simp [CS]⟩) [0,1] (Ee b rfl rfl) (by (simp[cX,zC,b,v,eC,Ab.Bi,BY,IP])) ?_;rintro⟨k,p,e⟩;(try dsimp only);(repeat first|refine s2 rfl λ_ i=>?_ |refine aU rfl ?_ |refine Aa ?_);(refine aC rfl ?_ ?_<;>rintro⟨⟩)
 ·have I:k < t.rows.length:=by (simp only[oZ] at *;omega)
  obtain⟨r,a⟩:=get_some (l:=t.rows) (k:=k) I;have R:=get_map (g:=CT) a;have u:=co a;have Q:=ht.rb r u;refine aK ?_;refine aS (aB ?_);(repeat first|refine sN rfl ?_ |refine tM rfl ?_ |(refine s4 rfl ‹_› rfl ?_ ?_;omega) |refine sP rfl (C0 al) rfl ?_ |refine aU rfl ?_ |refine Aa ?_);refine aB ?_;refine Aj.A5 (α:={j:Nat // j<=(Ac al).length/\∀x∈(A4 al).take j,marks L t.cols (r++[x])∈AK L t}) (λ⟨j,q,f⟩=>[(2,.o (.ptr 0 2 0 0)),(3,.o (.ip (VM t))),(6,.o (.mp 1)),(18,.o (.d (BZ t.rows))),(19,eI .i64 t.rows.length),(20,eI .i64 k),(8,eT r),(26,Ak (Ac al)),(27,eI .i64 (Ac al).length),(28,eI .i64 j)]) (λ⟨j,q,f⟩=>[(1,.mp (IX (BX L t t.rows.length))),(0,.cells 91 2 [[.d (iD al),c]])]) 2 (λ⟨j,q,f⟩=>(Ac al).length - j) (⟨0,by omega,by simp⟩) [0,1] (Ee b rfl rfl) (by (simp[cX,zC,b,v])) ?_;rintro⟨j,q,f⟩;(try dsimp only);(repeat first|refine s2 rfl λ_ i=>?_ |refine aU rfl ?_ |refine Aa ?_);(refine aC rfl ?_ ?_<;>rintro⟨⟩)
  ·have B:j < (Ac al).length:=by (simp only[oZ] at *;omega)
   obtain⟨l,K⟩:=get_some (l:=Ac al) (k:=j) B;have X:=get_map (g:=Bs) K;have z:=Al (co K)
   have n:(A4 al)[j]? = some (lb l):=by simp [A4,K]
   have J:=co n;have U:=LN G al t (r++[lb l]) (by have:=ht.cl;omega) (λx a=>T r u _ J x a) (λy P=>by have:=ht.cb y P;simp;omega);refine aK ?_;refine aS (aB ?_);(repeat first|(refine sM rfl ?_ ?_;first|exact tI|omega|simp only[oZ] at *;omega) |(refine s4 rfl ‹_› rfl ?_ ?_;omega) |refine sP rfl (FF l z.1 (by omega)) rfl ?_|(refine Ag rfl ?_;refine gA rfl ?_;first| refine gS (λ_ _=>Xu rfl (by omega) (by omega)) ?_) |refine aU rfl ?_ |refine Aa ?_);rw [cY z.1];(repeat first|refine tM rfl ?_ |refine s2 rfl λ_ i=>?_|(refine Ag rfl ?_;refine gA rfl ?_;first| refine gS (λ_ _=>Bu rfl rfl (by simp [E.Cm,C.Ds,C.Cm,G.Cm]) U rfl) ?_|refine gQ (dT rfl rfl rfl) (by rfl) ?_) |refine aU rfl ?_ |refine Aa ?_);(refine aC rfl ?_ ?_<;>rintro⟨⟩)
   ·have hno:marks L t.cols (r++[lb l])∉AK L t:=λh=>by
     rw [Ux.2 h] at i;cases i
    (repeat first|refine tM rfl ?_ |refine aU rfl ?_ |refine Aa ?_);refine aR ⟨_,rfl,?_⟩;rw [YV a n e f hno];rfl
   ·have s:marks L t.cols (r++[lb l])∈AK L t:=Ux.1 (by simpa using i)
    have F:∀x∈(A4 al).take (j+1),marks L t.cols (r++[x])∈AK L t:=λx a=>by
     rw [d9,n] at a
     rcases em.1 a with a|a
     ·exact f x a
     ·simp at a;subst a;exact s
    refine aK ?_;(repeat first|(refine sM rfl ?_ ?_;first|exact tI|omega) |refine aU rfl ?_ |refine Aa ?_);refine⟨⟨j+1,by omega,F⟩,by dsimp only;(omega),[0,1],?_⟩;simp[cX,zC,b,v]
  ·obtain rfl:j=(Ac al).length:=by (simp only[oZ] at *;omega)
   have A:∀w∈CS (A4 al) (t.rows.take (k+1)),marks L t.cols w∈AK L t:=λw m=>by
    rw [PG a] at m
    rcases em.1 m with m|m
    ·exact e w m
    ·obtain⟨x,H,rfl⟩:=d8.1 m
     exact f x (by rw [gc (by simp [A4])];exact H)
   refine aE ?_;(repeat first|(refine sM rfl ?_ ?_;first|exact tI|omega) |refine aU rfl ?_ |refine Aa ?_);refine⟨⟨k+1,by omega,A⟩,by dsimp only;(omega),[0,1],?_⟩;simp[cX,zC,b,v]
 ·obtain rfl:k=t.rows.length:=by (simp only[oZ] at *;omega)
  have hno:Bc L (A4 al) t=none:=qu.2 λw m=>by
   have:=e w (by rw [gt];exact m)
   simpa using this
  refine aE ?_;(repeat first|refine tM rfl ?_ |refine aU rfl ?_ |refine Aa ?_);refine aR ⟨_,rfl,?_⟩;rw [hno];rfl
theorem Lr(l:List W)(h:l.length<=1048576):Spec Tryz.prog TB 162 [] 0 [BV l] (λx σ nx=>x=.o (.arr 0 1 0 l.length)/\nx=1/\σ=[(0,.cells 9 1 (l.map Em))]):=by
 refine eN Tryz.func162 rfl (by kernel_rfl) rfl ?_;intro Z b;(repeat first|refine aU rfl ?_);(refine Ag rfl ?_;refine CI (λ_ _=>CL rfl) rfl ?_);(repeat first|refine tM rfl ?_ |refine aU rfl ?_ |refine Aa ?_);(refine pW rfl ?_ rfl (by rfl);refine LV rfl ?_;intro e c);(repeat first|refine Aa ?_);(refine aC rfl ?_ ?_<;>rintro⟨⟩)
 ·obtain rfl:l=[]:=by simpa using c rfl
  (repeat first|refine aU rfl ?_);(refine pW rfl ?_ rfl (by rfl);refine Hp 1 9 ?_);(repeat first|refine Aa ?_);refine aR ⟨_,rfl,rfl,rfl,rfl⟩
 ·refine aK ?_
  (repeat first|refine aU rfl ?_);(refine pW rfl ?_ rfl (by rfl);refine Bk rfl rfl rfl rfl (by simp) (by rfl) (by rfl) (by rfl) (by rfl) ?_);(repeat first|refine tM rfl ?_);(refine pW rfl ?_ rfl (by rfl);refine Au rfl rfl rfl (by first| (simp;done)|(simp;(omega))) rfl (by intro r d;simp at d;obtain⟨a,_,rfl⟩:=d;rfl) (by rfl) (am rfl) (by simp;omega) ?_);(repeat first|refine tM rfl ?_ |refine Aa ?_);refine Aj.names [1] [(2,.o (.arr 0 1 0 l.length))] [(0,.cells 9 1 (l.map Em))] (by intro i hi;rw [b] at hi;omega) (by simp) (by simp[cX,zC,b]) (by simp[cX,zC,b]) ?_;refine aR ⟨_,rfl,rfl,rfl,rfl⟩
theorem cR(l:List W)(s:W):Pure Tryz.prog TB 197 [BV l,eT s] (eI .i64 (if s∈l then (l.idxOf s:Int) else -1)):=by
 refine eN Tryz.func197 rfl (by kernel_rfl) rfl ?_;intro Z a;refine Aj.bound 0 rfl λj=>?_;have o:=j (l.map CT) .refl;(repeat first|refine sN rfl ?_ |refine tM rfl ?_ |refine aU rfl ?_ |refine Aa ?_);refine aB ?_;refine Aj.A5 (α:={k:Nat // k<=l.length/\s∉l.take k}) (λ⟨k,hk,b⟩=>[(0,BV l),(1,eT s),(7,eI .i64 l.length),(8,eI .i64 k)]) (λ⟨k,hk,b⟩=>[]) 0 (λ⟨k,hk,b⟩=>l.length - k) (⟨0,by omega,by simp⟩) [] (Ee a rfl rfl) (by (simp[cX,zC,a])) ?_;rintro⟨k,hk,b⟩;(try dsimp only);(repeat first|refine s2 rfl λ_ c=>?_ |refine aU rfl ?_ |refine Aa ?_);(refine aC rfl ?_ ?_<;>rintro⟨⟩)
 ·have h:k < l.length:=by (simp only[oZ] at *;omega)
  obtain⟨x,d⟩:=get_some (l:=l) (k:=k) h;have m:=get_map (g:=CT) d;refine aK ?_;refine aS (aB ?_);(repeat first|refine tM rfl ?_ |(refine s4 rfl ‹_› rfl ?_ ?_;omega) |refine s2 rfl λ_ c=>?_ |refine aU rfl ?_ |refine Aa ?_);(refine aC rfl ?_ ?_<;>rintro⟨⟩)
  ·have i:s=x:=by (simp only[oZ] at *;omega)
   subst i;(repeat first|refine tM rfl ?_ |refine aU rfl ?_ |refine Aa ?_);refine aR ⟨_,rfl,?_⟩;have n:s∈l:=co d
   have hi:l.idxOf s=k:=by
    have e:l=l.take k++s::l.drop (k+1):=by rw [<-BD d,px]
    rw [e,sk,if_neg b,rU];simp;omega
   rw [if_pos n,hi]
  ·have i:¬s=x:=by simpa using c
   have f:s∉l.take (k+1):=by
    rw [d9,d];simp [b,i]
   refine aK ?_;(repeat first|(refine sM rfl ?_ ?_;first|exact tI|simp only[oZ] at *;omega) |refine aU rfl ?_ |refine Aa ?_);refine⟨⟨k+1,by omega,f⟩,by dsimp only;(omega),[],?_⟩;simp[cX,zC,a]
 ·obtain rfl:k=l.length:=by (simp only[oZ] at *;omega)
  rw [gt] at b;refine aE ?_;(repeat first|refine tM rfl ?_ |refine aU rfl ?_ |refine Aa ?_);refine aR ⟨_,rfl,?_⟩;rw [if_neg b]
theorem NK(l:List W)(s:W):Pure Tryz.prog TB 164 [BV l,eT s] (eB (decide (s∈l))):=by
 refine eN Tryz.func164 rfl (by kernel_rfl) rfl ?_;intro Z b;(repeat' first|refine tA rfl ?_ |refine s2 rfl λ_ a=>?_ |refine sP rfl (cR l s) rfl ?_ |refine aU rfl ?_ |refine Aa ?_|(refine aC rfl ?_ ?_<;>rintro⟨⟩)|refine aK ?_|refine aE ?_|refine aB ?_|refine aR ⟨_,rfl,?_⟩)
 all_goals (show E.o _=E.o _;congr;subst a;by_cases h:s∈l<;>simp [h])
def Fo(t:A2)(col:W):Option A2:=if t.cols.length=20\/col∈t.cols then none else some ⟨t.rows,t.cols++[col]⟩
def IN(o:Option A2):E:=match o with
 | some t=>.t [(true,[.d (BZ t.rows),.d (BZ t.cols)]),(false,[.d (bD true)])]
 | none=>.t [(true,[.d (.l []),.d (.l [])]),(false,[.d (bD false)])]
theorem SF(t:A2)(col:W)(g:t.rows.length<=4096)(p:t.cols.length<=4096):Pure Tryz.prog TB 118 [Eh t,eT col] (IN (Fo t col)):=by
 have m:=Lr (TB:=TB) t.rows (by omega);have k:=Lr (TB:=TB) t.cols (by omega);refine AQ.Hy (AQ.ofM 2 (i9 _) Tryz.func118 rfl rfl (by kernel_rfl) (am rfl) ?_);intro Z a;(repeat first|refine aU rfl ?_);(refine Ag rfl ?_;refine CI (λ_ _=>Db rfl rfl rfl) rfl ?_);(repeat first|refine sN rfl ?_ |refine tM rfl ?_ |refine s2 rfl λ_ b=>?_ |(refine sC rfl (NK t.cols col) ?_;intro _ b) |refine s3 rfl ?_ ?_<;>rintro rfl |refine aU rfl ?_ |refine Aa ?_)
 ·(refine aC rfl ?_ ?_<;>rintro⟨⟩)
  have c:Fo t col=none:=by unfold Fo;rw [if_pos (.inl (by (simp only[oZ] at *;omega)))]
  (repeat first|refine tM rfl ?_|(refine Ag rfl ?_;refine gA rfl ?_;first| refine gS (λ_ _=>AG rfl rfl (by rfl) (by rfl)) ?_) |refine aU rfl ?_ |refine Aa ?_);refine Aj.freeze [0] [(4,.o (.ip [.l [],.l []])),(5,eB false)] ⟨⟨_,rfl,.o (.ptr (by simp) rfl rfl rfl)⟩,⟨_,rfl,.AR⟩,trivial⟩ ?_;refine aR ⟨_,rfl,?_⟩;rw [c];rfl
 (repeat first|refine tM rfl ?_ |(refine sC rfl (NK t.cols col) ?_;intro _ b) |refine Aa ?_);(refine aC rfl ?_ ?_<;>rintro⟨⟩)
 ·have c:Fo t col=none:=by unfold Fo;rw [if_pos (.inr (by (simp only[oZ] at *;omega)))]
  (repeat first|refine tM rfl ?_|(refine Ag rfl ?_;refine gA rfl ?_;first| refine gS (λ_ _=>AG rfl rfl (by rfl) (by rfl)) ?_) |refine aU rfl ?_ |refine Aa ?_);refine Aj.freeze [0] [(4,.o (.ip [.l [],.l []])),(5,eB false)] ⟨⟨_,rfl,.o (.ptr (by simp) rfl rfl rfl)⟩,⟨_,rfl,.AR⟩,trivial⟩ ?_;refine aR ⟨_,rfl,?_⟩;rw [c];rfl
 ·refine aK ?_
  refine aS ?_;refine rG (nK [0,1,3,4,6,7,2,5,8,9,10,11] [2,5,8,10] [0,1,3,4,6,7]) (by kernel_rfl) ?_;(repeat first|refine tA rfl ?_);(refine pW rfl ?_ rfl (by rfl);refine Ai [] rfl rfl m ⟨rfl,by simp,by simp⟩ rfl trivial ?_;rintro n e f ⟨rfl,rfl,rfl⟩ _);(refine pW rfl ?_ rfl (by rfl);refine Ai [] rfl rfl k ⟨rfl,by simp,by simp⟩ rfl trivial ?_;rintro n e f ⟨rfl,rfl,rfl⟩ _);(refine pW rfl ?_ rfl (by rfl);refine Au rfl rfl rfl (by first| (simp;done)|(simp;(omega))) rfl (by intro r g;simp at g;subst g;rfl) (by rfl) (am rfl) (by simp;omega) ?_);(repeat first|refine tA rfl ?_|(refine Ag rfl ?_;refine gA rfl ?_;first| refine gS (λ_ _=>AG rfl rfl (by rfl) (by rfl)) ?_) |refine Aa ?_)
  have j:col∉t.cols:=by simpa using b
  have c:Fo t col=some ⟨t.rows,t.cols++[col]⟩:=by
   unfold Fo;rw [if_neg];rintro(h|h)
   ·(simp only[oZ] at *;omega)
   ·exact j h
  refine Aj.names [0,1,3] [(4,.o (.ptr 0 2 0 0)),(5,eB true)] [(0,.cells 98 2 [[.arr 1 1 0 t.rows.length,.arr 2 1 0 (t.cols.length+1)]]),(1,.cells 9 1 (t.rows.map Em)),(2,.cells 9 1 ((t.cols++[col]).map Em))] (by intro i hi;rw [a] at hi;omega) (by simp) (by simp[cX,zC,a,IP]) (by simp[cX,zC,a,IP,Ab.Bi,BY,BU,eC,Ae]) ?_;refine Aj.OB [1,2] [(4,.o (.ptr 0 2 0 0)),(5,eB true)] [(0,.cells 98 2 [[.d (BZ t.rows),.d (BZ (t.cols++[col]))]])] ⟨⟨_,rfl,.AR⟩,⟨_,rfl,.AR⟩,trivial⟩ ⟨⟨_,rfl,by simp,.cons (.full (by simp) rfl (by simp [d5]) (by simp)) (.cons (.full (by simp) rfl (by simp [d5]) (by simp)) .nil)⟩,trivial⟩ ?_;refine Aj.freeze [0] [(4,.o (.ip [BZ t.rows,BZ (t.cols++[col])])),(5,eB true)] ⟨⟨_,rfl,.o (.ptr (by simp) rfl rfl rfl)⟩,⟨_,rfl,.AR⟩,trivial⟩ ?_;refine aR ⟨_,rfl,?_⟩;rw [c];rfl
end Go.Am
namespace Go.Am
set_option linter.unusedVariables false
def EA(a:AY):Int->W->Int
 | q,[]=>q
 | q,c::w=>EA a (CB a q.toNat ((c.toNat:Int) - 97)) w
def LA(a:AY)(w:W):Bool:=a.ac.getD (EA a 0 w).toNat false
theorem VA(a:AY):∀(u w:W) (q:Int),EA a q (u++w)=EA a (EA a q u) w
 | [],_,_=>rfl
 | c::u,w,q=>VA a u w _
theorem KK{l:Int}(b:0<=l)(a:l < 6):((lb l).toNat:Int) - 97=l:=by
 unfold lb
 have:(97+l.toNat) % 256=97+l.toNat:=by omega
 simp [this];omega
theorem Iw{al:Int}{c:UInt8}(h:c∈A4 al):0<=(c.toNat:Int) - 97/\(c.toNat:Int) - 97 < 6:=by
 obtain⟨l,a,rfl⟩:=d8.1 h;have b:=Al a;rw [KK b.1 (by omega)];omega
theorem OP{a:AY}(ha:AI a=true){al:Int}:∀(w:W) (q:Int),AS (A4 al) w->0<=q/\q < a.nx.length->0<=EA a q w/\EA a q w < a.nx.length
 | [],q,_,d=>d
 | c::w,q,b,d=>by
  have e:=Iw (b c (by simp));have g:=Dy ha (q:=q.toNat) (by omega) e.1 e.2;exact OP ha w _ (λx f=>b x (by simp [f])) g
end Go.Am
namespace Go.Am
open Go
set_option linter.unusedVariables false
theorem LC{a b:Nat}(ha:a < 2 ^ 62)(hb:b < 2 ^ 62):Gh .i64 a b=((a &&& b:Nat):Int):=by
 have d:a &&& b<=a:=rT;unfold Gh
 have c:(BitVec.ofInt IntKind.i64.bits (a:Int) &&& BitVec.ofInt IntKind.i64.bits (b:Int)).toNat=a &&& b:=by
  have e:IntKind.i64.bits=64:=rfl;rw [e];simp only [BitVec.toNat_and,BitVec.ofInt_natCast,BitVec.toNat_ofNat];rw [o3 (by omega),o3 (by omega)]
 rw [c];exact IntWalk.i64_in _ (by omega)
theorem cG(s n:Nat):((s:Nat):Int).fdiv (2 ^ n)=((s / 2 ^ n:Nat):Int):=by
 have h:(0:Int)<=2 ^ n:=Int.le_of_lt (Int.pow_pos (by omega));rw [Int.fdiv_eq_ediv_of_nonneg _ h]
 push_cast
 rfl
theorem Dq{s n:Nat}(d:s < 2 ^ 62)(f:n < 64):AX (s:Nat) n=s.testBit n:=by
 unfold AX
 have e:min n 64=n:=by omega
 rw [e,cG];have g:s / 2 ^ n<=s:=Nat.div_le_self _ _;have c:=LC (a:=s / 2 ^ n) (b:=1) (by omega) (by omega);rw [show ((1:Nat):Int)=1 from rfl] at c;rw [c,rM,Nat.and_one_is_mod];congr 1;rw [eq_iff_iff];omega
theorem ib{s a:Nat}:s &&& a=s↔∀n,s.testBit n=true->a.testBit n=true:=by
 constructor
 ·intro h n c
  have:=congrArg (·.testBit n) h;simp only [qT,c,o5] at this;exact this
 ·intro h
  apply pU;intro n;rw [qT];cases b:s.testBit n
  ·rfl
  ·rw [h n b];rfl
abbrev Wd:=List UInt8
def Gn(c:UInt8):Bool:=decide (97<=c.toNat/\c.toNat < 103)
def ED(w:Wd):Bool:=decide (w.length<=50000) && w.all Gn
def KY(w:Wd):Nat:=w.foldl (λs c=>s ||| 2 ^ (c.toNat - 97)) 0
def It(al:Int)(c:UInt8):Bool:=Gn c && AX al (c.toNat - 97)
def within(w:Wd)(al:Int):Bool:=decide (w.length<=50000) && (Bb al && w.all (It al))
theorem Uy(n:Nat):∀(w:Wd) (s:Nat),(w.foldl (λs c=>s ||| 2 ^ (c.toNat - 97)) s).testBit n=(s.testBit n || w.any λc=>decide (c.toNat - 97=n))
 | [],s=>by simp
 | c::w,s=>by
  rw [pI,Uy n w,pT,pZ,List.any_cons,Bool.or_assoc]
theorem VF(w:Wd)(n:Nat):(KY w).testBit n=w.any λc=>decide (c.toNat - 97=n):=by
 unfold KY;rw [Uy];simp
theorem TN:∀ {w:Wd} {s:Nat},w.all Gn=true->s < 64->w.foldl (λs c=>s ||| 2 ^ (c.toNat - 97)) s < 64
 | [],s,_,a=>a
 | c::w,s,h,a=>by
  simp only [List.all_cons,d4] at h;rw [pI];refine TN h.2 ?_;have b:=h.1;unfold Gn at b;simp only [decide_eq_true_eq] at b;have d:2 ^ (c.toNat - 97) < 2 ^ 6:=qD (by omega) (by omega);exact qk (n:=6) a d
theorem gY{w:Wd}{al:Int}(f:w.all Gn=true)(ha:Bb al=true):decide (Gh .i64 (KY w:Nat) al=(KY w:Nat))=w.all (It al):=by
 have k:KY w < 64:=TN f (by omega);unfold Bb at ha;simp only [decide_eq_true_eq] at ha
 obtain⟨a,rfl⟩:∃a:Nat,al=a:=⟨al.toNat,by omega⟩
 rw [LC (by omega) (by omega)];rw [pY,decide_eq_true_eq,f7]
 have j:((KY w &&& a:Nat):Int)=(KY w:Nat)↔KY w &&& a=KY w:=by omega
 rw [j,ib];rw [f7] at f;constructor
 ·intro h c e
  have b:=f c e;unfold It;rw [b,o5];unfold Gn at b;simp only [decide_eq_true_eq] at b;rw [Dq (by omega) (by omega)];refine h _ ?_;rw [VF,qq];exact⟨c,e,by simp⟩
 ·intro h n i
  rw [VF,qq] at i;obtain⟨c,e,d⟩:=i;simp only [decide_eq_true_eq] at d;have b:=f c e;have g:=h c e;unfold It at g;rw [b,o5] at g;unfold Gn at b;simp only [decide_eq_true_eq] at b;rw [Dq (by omega) (by omega),d] at g;exact g
theorem XS{w:Wd}{al:Int}(h:w.all (It al)=true):w.all Gn=true:=by
 rw [f7] at *;intro c a;have:=h c a;unfold It at this;simp only [d4] at this;exact this.1
end Go.Am
namespace Go.Am
set_option linter.unusedVariables false
section
variable {α:Type}[DecidableEq α]
def Cn{α:Type}(f:α->Int->α):α->List Int->α
 | q,[]=>q
 | q,l::w=>Cn f (f q l) w
theorem HY{α:Type}(f:α->Int->α):∀(u w:List Int) (q:α),Cn f q (u++w)=Cn f (Cn f q u) w
 | [],_,_=>rfl
 | l::u,w,q=>HY f u w _
structure Part (f:α->Int->α) (ls:List Int) (s:α) (nd:List α) (rows:List (List Int)) (lim:Nat):Prop where
 st:nd[0]? = some s
 nodup:nd.Nodup
 len:rows.length<=nd.length
 lim:nd.length<=lim
 row:∀(i:Nat) (r:List Int),rows[i]? = some r->∃q,nd[i]? = some q/\r=ls.map (λl=>((nd.idxOf (f q l):Nat):Int))/\∀l∈ls,f q l∈nd
 rc:∀q∈nd,∃w:List Int,(∀l∈w,l∈ls)/\Cn f s w=q
structure oc (f:α->Int->α) (ls:List Int) (s:α) (nd:List α) (rows:List (List Int)):Prop where
 st:nd[0]? = some s
 nodup:nd.Nodup
 len:rows.length=nd.length
 row:∀(i:Nat) (q:α),nd[i]? = some q->rows[i]? = some (ls.map λl=>((nd.idxOf (f q l):Nat):Int))
 cl:∀q∈nd,∀l∈ls,f q l∈nd
 rc:∀q∈nd,∃w:List Int,(∀l∈w,l∈ls)/\Cn f s w=q
end
section
variable {α β:Type}[DecidableEq α][DecidableEq β]
end
section
variable {α β:Type}[DecidableEq α][DecidableEq β]
end
end Go.Am
